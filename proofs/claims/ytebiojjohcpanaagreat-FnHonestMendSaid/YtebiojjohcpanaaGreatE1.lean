/- Each function computes what was printed: by the kernel. -/
import Derived.Test.YtebiojjohcpanaaGreatE0
import Derived.Test.YtebiojjohcpanaaGreatProg
import Derived.KernelRfl
set_option linter.unusedVariables false
set_option linter.unusedSimpArgs false
set_option linter.unusedSectionVars false
namespace Go.Proofs.YtebiojjohcpanaaGreat.Wk
open Go Go.Fw Go.M Go.Proofs
noncomputable section
def s95:SQ:=mk Tryz.func95 F4 F4 FW [s53] [] []
def ANS:SQ:=mk Tryz.func251 ⟨[(0,.row Y1)],[]⟩ Cz NU [jy,s53,s95,ALX] [(1,[0])] []
def AcC:SQ:=mk Tryz.func173 AB8 Cz PG [ANS] [] [⟨2,⟨[(5,ZM),(6,BQ),(7,BQ)],[]⟩,Is⟩]
def AWH:SQ:=mk Tryz.func174 AB8 Cz LQ [] [(4,[0])] [⟨2,⟨[(0,ZM),(5,ZM),(6,BQ),(7,BQ)],[]⟩,GY⟩]
def s92:SQ:=mk Tryz.func92 oK Cz FU [jy,AcC,AWH] [] []
def Abe:SQ:=mk Tryz.func249 oE F4 PC [] [] [⟨2,⟨[(0,ZN),(1,BQ),(7,BQ),(8,BQ)],[]⟩,Gf⟩]
def zK:SQ:=mk Tryz.func162 oE Cz Bv [Abe] [] []
def AY0:SQ:=mk Tryz.func252 ⟨[(0,BQ),(1,.c (.pS (.cons (.sl tI) .unit)))],[]⟩ Cz SR [zK] [] []
def Adl:SQ:=mk Tryz.func294 ⟨[(0,ZN),(1,AKF)],[]⟩ F4 Dx [AY0] [] [⟨2,⟨[(0,ZN),(1,AKF),(7,BQ),(8,BQ)],[]⟩,CC⟩]
def AbW:SQ:=mk Tryz.func247 ⟨[(0,oY),(1,AKF)],t_⟩ AOL Cx [AY0,Adl] [] [⟨5,⟨[(0,oY),(1,AKF),(5,BQ),(6,BQ)],t_⟩,B7⟩]
def AMp:SQ:=mk Tryz.func175 AHV AB4 Nw [s86,AbW] [] []
abbrev i93:BI:=ABB
abbrev o93:BI:=Cz
def s93:SQ:=mk Tryz.func93 i93 o93 DH [AMp] [] []
def s75:SQ:=mk Tryz.func75 oL F4 Zk [s74,zK] [] [⟨5,⟨[(2,Jq),(5,xP7),(13,ZN),(14,BQ),(15,BQ)],AFw⟩,O6⟩]
abbrev i32:BI:=oL
abbrev o32:BI:=Cz
def s32:SQ:=mk Tryz.func32 i32 o32 Gz [s74,s75] [(1,[0])] []
def s45:SQ:=mk Tryz.func45 xV Cz L2 [s32,s74,s92,s93] [] [⟨4,⟨[(0,yE),(32,yG),(33,BQ),(34,BQ)],[]⟩,FY⟩]
def s94:SQ:=mk Tryz.func94 ⟨[(0,th),(1,.row Y3)],[]⟩ Cz cz [s32,jy] [] []
abbrev i46:BI:=AEd
abbrev o46:BI:=Cz
def s46:SQ:=mk Tryz.func46 i46 o46 Ll [jy,s44,s94,s95] [(7,[0,1])] [⟨2,⟨[(2,Jq),(3,Sl),(9,.c (.sl false Y3)),(10,BQ),(11,BQ)],AN1⟩,Lg⟩]
def Acz:SQ:=mk Tryz.func176 Cz F4 cW [] [] []
abbrev i96:BI:=AHd
abbrev o96:BI:=Cz
def s96:SQ:=mk Tryz.func96 i96 o96 Gv [s32,s44,s72,s74,ALX,Acz] [(5,[0,1,2])] [⟨3,⟨[(2,Jq),(3,Sl),(5,BQ),(9,ALk),(10,BQ),(11,BQ)],AN4⟩,MW⟩]
def s97:SQ:=mk Tryz.func97 ABB Cz J1 [jy] [] []
def s47:SQ:=mk Tryz.func47 xV Cz LB [s96,s97] [(4,[0])] [⟨2,⟨[(0,yE),(8,.c (.sl false Y6)),(9,BQ),(10,BQ)],[]⟩,Ew⟩]
def ARF:SQ:=mk Tryz.func110 F4 F4 Ud [s53] [] []
def AXC:SQ:=mk Tryz.func177 xo F4 Th [ARF] [] []
def Aed:SQ:=mk Tryz.func178 xo Cz Vg [s95,AWH,ANS] [(4,[0,1])] [⟨2,⟨[(1,Jq),(6,ZM),(7,BQ),(8,BQ)],[AAJ]⟩,Mp⟩]
def s98:SQ:=mk Tryz.func98 uI Cz IF [jy,s44,s72,s74,AXC,Aed] [] [⟨2,⟨[(2,Jq),(3,Sl),(10,AJ8),(11,BQ),(12,BQ)],AHR⟩,MZ⟩]
def s36:SQ:=mk Tryz.func36 ABu F4 IB [] [] [⟨2,⟨[(6,.c (.sl false Y3)),(7,BQ),(8,BQ)],[]⟩,It⟩]
def s48:SQ:=mk Tryz.func48 xV Cz NH [s36,s98] [(4,[0])] [⟨2,⟨[(0,yE),(8,.c (.sl false Y7)),(9,BQ),(10,BQ)],[]⟩,Ft⟩]
def s99:SQ:=mk Tryz.func99 ABn Cz VK [jy] [] []
def s49:SQ:=mk Tryz.func49 xV Cz LC [s99] [] [⟨2,⟨[(0,yE),(8,.c (.sl false Y9)),(9,BQ),(10,BQ)],[]⟩,Ex⟩]
def s50:SQ:=mk Tryz.func50 xV Cz Ob [s95,s97,ALX] [(4,[0])] [⟨2,⟨[(0,yE),(8,AJh),(9,BQ),(10,BQ)],[]⟩,Ga⟩]
abbrev i16:BI:=lJ
abbrev o16:BI:=Cz
def s16:SQ:=mk Tryz.func16 i16 o16 Kz [s44,s45,s46,s47,s48,s49,s50] [] []
def Aa5:SQ:=mk Tryz.func111 F4 ⟨[(0,.c (.v .str))],[]⟩ dQ [] [] []
def s56:SQ:=mk Tryz.func56 AFt Cz ZW [jy,ALX,Aa5] [] [⟨4,⟨[(1,Jq),(3,Sl),(11,.c (.ref 2)),(12,BQ),(13,BQ)],[AFc,AFc,.sl 9 tU]⟩,Dz⟩]
abbrev AAl:BI:=F4
abbrev AIR:BI:=eJ
def AIV:SQ:=mk Tryz.func188 AAl AIR IE [jy] [] [⟨5,⟨[(0,BQ),(3,oY),(10,BQ)],kP⟩,LM⟩]
abbrev i210:BI:=AEd
abbrev AV0:BI:=AGu
def AKd:SQ:=mk Tryz.func210 i210 AV0 Ed [s46,s87] [] []
abbrev wZ:BI:=AOb
abbrev ALo:BI:=ANt
def AZN:Qn:=⟨wZ,ALo,(wZ.un M3)⟩
def AcA:bF:=⟨T,Qb (SP.l [s32,s46,s86,s87,AKd]),CM [(4,[0,1,2])]⟩
def ATG:List (Lp ALo):=[]
theorem Abo(g32:ABS->List Int->Option kD)(g46:ABS->ACc->Option Tc)(g86:List Int->Option di)(g87:ACc->Option I7)(AM1:ABS->ACc->Option dm)(n:Nat)(ω:List Bool)(v:wZ.V):C9 ⟨T,Qb [(32,⟨i32,o32,i32.un g32⟩),(46,⟨i46,o46,i46.un g46⟩),(86,⟨i86,o86,i86.un g86⟩),(87,⟨i87,o87,i87.un g87⟩),(210,⟨i210,AV0,i210.un AM1⟩)],CM [(4,[0,1,2])]⟩ AZN Tryz.f187 (LX 0 ATG n) ω v=wZ.un (fun(p0:ABS) (p1:ACc) (p2:AAB)=>
 (g46 (p0.1,p0.2.1,()) (p1.1,p1.2.1,())).bind fun u1=>
 cond (!u1.1.1)
  ((AM1 (p0.1,p0.2.1,()) (p1.1,p1.2.1,())).bind fun u2=>
  some (((((),u2.1.1.2.1,()),0,false,()),()),(u2.2.1,())))
 ((g32 (p0.1,p0.2.1,()) p2).bind fun u3=>
 cond (!u3.1.1)
  ((AM1 (p0.1,p0.2.1,()) (p1.1,p1.2.1,())).bind fun u4=>
  some (((((),u4.1.1.2.1,()),0,false,()),()),(u4.2.1,())))
 (cond (((p1.1.length:Int)==30))
  ((AM1 (p0.1,p0.2.1,()) (p1.1,p1.2.1,())).bind fun u6=>
  some (((((),u6.1.1.2.1,()),0,false,()),()),(u6.2.1,())))
 ((g87 (p1.1,p1.2.1,())).bind fun u7=>
 (g86 p2).bind fun u8=>
 if u7.2.1.length+1<=Go.M.C_ then(
 let x9:AAH:=u7.2.1++[(u8.2.1,false,0,())]
 some (((((),u7.1.1.2.1,()),(x9.length:Int),true,()),()),(x9,())))else none)))) v:=by rcases ω with _|⟨_|_,_|⟨_|_,_|⟨_|_,_|⟨_|_,_⟩⟩⟩⟩<;>kernel_rfl
theorem AeF(n:Nat)(ω:List Bool)(v:wZ.V):C9 AcA AZN Tryz.f187 (LX 0 ATG n) ω v=wZ.un (M3) v:=Abo Gz Ll DU Eo Ed n ω v
def AWr:SQ:=mk Tryz.func187 wZ ALo M3 [s32,s46,s86,s87,AKd] [(4,[0,1,2])] ATG (hJ:= .nil) (he:=AeF AZ)
abbrev ze:BI:=uo
abbrev AT5:BI:=⟨pN,[.mem [.ref 1,.v tI,.ref 2,.ref 3,.ref 9,.v tI,.ref 10,.ref 11,.ref 7,.ref 8,.v .bool],DM,Xo,DM,F8,F8,F8,PF,KT,Lm,Sj,T9]⟩
def AW9:Qn:=⟨ze,AT5,(ze.un Km)⟩
def Aaz:bF:=⟨T,Qb (SP.l [AWr,AIV]),CM [(3,[0,1,2,3,4,5,6,7,8])]⟩
def AUX:List (Lp AT5):=[]
theorem Aah(AWs:ABS->ACc->List Int->Option fK)(AA0:Int->Option Hs)(n:Nat)(ω:List Bool)(v:ze.V):C9 ⟨T,Qb [(187,⟨wZ,ALo,wZ.un AWs⟩),(188,⟨AAl,AIR,AAl.un AA0⟩)],CM [(3,[0,1,2,3,4,5,6,7,8])]⟩ AW9 Tryz.f112 (LX 9 AUX n) ω v=ze.un (fun(p1:Int) (AF:Int) (Ab:Int) (AM:Bool) (b1:AAB) (b2:AAQ) (b3:AAB) (b4:AAH) (b5:AAj) (b6:AA6) (b7:ABA) (b8:AAT)=>
 cond (((b5.length:Int)==4))
  (some ((4,()),(((),AF,(),(),(),Ab,(),(),(),(),AM,()),b1,b2,b3,(),(),(),b7,b8,b4,b5,b6,())))
 ((AA0 p1).bind fun u2=>
 (AWs (b1,AF,()) (b4,Ab,()) u2.2.1).bind fun u3=>
 cond (!u3.1.1.2.2.1)
  (some ((4,()),(((),AF,(),(),(),Ab,(),(),(),(),AM,()),b1,b2,b3,(),(),(),b7,b8,b4,b5,b6,())))
 (if b5.length+1<=Go.M.C_ then(
 some ((0,()),(((),AF,(),(),(),u3.1.1.1.2.1,(),(),(),(),AM,()),b1,b2,b3,(),(),(),b7,b8,u3.2.1,(b5++[(u3.1.1.2.1,[],())]),[],())))else none))) v:=by rcases ω with _|⟨_|_,_|⟨_|_,_⟩⟩<;>kernel_rfl
theorem Acw(n:Nat)(ω:List Bool)(v:ze.V):C9 Aaz AW9 Tryz.f112 (LX 9 AUX n) ω v=ze.un (Km) v:=Aah M3 IE n ω v
def Ac5:SQ:=mk Tryz.func112 ze AT5 Km [AWr,AIV] [(3,[0,1,2,3,4,5,6,7,8])] AUX (hJ:= .nil) (he:=Acw AZ)
abbrev ASn:BI:=AHd
abbrev AWQ:BI:=AHB
def ATB:SQ:=mk Tryz.func257 ASn AWQ Ea [s89,s96] [] []
abbrev ve:BI:=AOd
abbrev AJ4:BI:=AOe
def AZI:Qn:=⟨ve,AJ4,(ve.un KC)⟩
def Aa_:bF:=⟨T,Qb (SP.l [s89,s96,ATB]),CM []⟩
def AS5:List (Lp AJ4):=[]
theorem Adr(g89:ACi->Option K3)(g96:ABS->ACi->Option Nl)(ATx:ABS->ACi->Option YE)(n:Nat)(ω:List Bool)(v:ve.V):C9 ⟨T,Qb [(89,⟨i89,o89,i89.un g89⟩),(96,⟨i96,o96,i96.un g96⟩),(257,⟨ASn,AWQ,ASn.un ATx⟩)],CM []⟩ AZI Tryz.f189 (LX 0 AS5 n) ω v=ve.un (fun(p0:ABS) (p1:ACi) (p2:ACH)=>
 (g89 (p1.1,p1.2.1,())).bind fun u1=>
 if u1.2.1.length+1<=Go.M.C_ then(
 let x2:ACG:=u1.2.1++[(p2,[],false,())]
 (g96 (p0.1,p0.2.1,()) (p1.1,p1.2.1,())).bind fun u3=>
 cond (!u3.1.1)
  ((ATx (p0.1,p0.2.1,()) (p1.1,p1.2.1,())).bind fun u4=>
  some ((((u4.1.1.1,(),()),0,false,()),()),(u4.2.1,())))
 ((g96 (p0.1,p0.2.1,()) (u1.1.1.1,x2,())).bind fun u5=>
 cond (!u5.1.1)
  ((ATx (p0.1,p0.2.1,()) (p1.1,p1.2.1,())).bind fun u6=>
  some ((((u6.1.1.1,(),()),0,false,()),()),(u6.2.1,())))
 (some ((((u1.1.1.1,(),()),(x2.length:Int),true,()),()),(x2,())))))else none) v:=by rcases ω with _|⟨_|_,_|⟨_|_,_⟩⟩<;>kernel_rfl
theorem Abw(n:Nat)(ω:List Bool)(v:ve.V):C9 Aa_ AZI Tryz.f189 (LX 0 AS5 n) ω v=ve.un (KC) v:=Adr GF Gv Ea n ω v
def AY2:SQ:=mk Tryz.func189 ve AJ4 KC [s89,s96,ATB] [] AS5 (hJ:= .nil) (he:=Abw AZ)
abbrev i31:BI:=oN
abbrev o31:BI:=qJ
def s31:SQ:=mk Tryz.func31 i31 o31 D2 [s72,s73] [] []
def Aeg:SQ:=mk Tryz.func159 ⟨[(0,.row Y10),(1,BQ)],[]⟩ F4 L5 [] [] []
def Aa3:SQ:=mk Tryz.func158 ⟨[(0,AJh),(1,BQ),(2,.c (.fn 159 []))],[]⟩ qJ Bb [Aeg] [] [⟨3,⟨[(0,AJh),(1,BQ),(2,.c (.fn 159 [])),(8,BQ),(9,BQ),(10,BQ)],[]⟩,Aw⟩]
abbrev i67:BI:=ABB
abbrev o67:BI:=qJ
def s67:SQ:=mk Tryz.func67 i67 o67 Ir [Aa3] [] []
abbrev AXE:BI:=⟨[(0,oY),(1,BQ),(2,AJh)],[KT]⟩
abbrev AeX:BI:=⟨AML,[F8,KT]⟩
def AXn:SQ:=ARi (ρ:=Jt 190 0 258 259 34 45) (nm:= "slices.Insert[[]loop.example/g00178/impl.Sent,loop.example/g00178/impl.Sent]") (fv:=Tryz.f258) tOk (og.ins ⟨by kernel_rfl,by kernel_rfl,by kernel_rfl,by kernel_rfl,by kernel_rfl,by kernel_rfl,by kernel_rfl,by kernel_rfl,by kernel_rfl,by kernel_rfl,by kernel_rfl,by kernel_rfl⟩ mx (by kernel_rfl) (by kernel_rfl) (by kernel_rfl) (by kernel_rfl) (by kernel_rfl) (by kernel_rfl) (by kernel_rfl)) (r:=Y10) rfl (by kernel_rfl) (by kernel_rfl) EZ (fun _=>rfl)
abbrev AAb:BI:=⟨[(0,Jq),(1,BQ),(2,.c (.v .str))],iJ⟩
abbrev APZ:BI:=⟨pN,[.mem [.ref 1,.v tI,.ref 2,.ref 3,.ref 4,.v tI,.ref 5,.ref 6,.ref 7,.ref 9,.v .bool],DM,Xo,DM,Lm,Sj,T9,PF,F8,KT]⟩
def AXF:Qn:=⟨AAb,APZ,(AAb.un ME)⟩
def AdZ:bF:=⟨T,Qb (SP.l [s31,jy,s67,AY2,AXn]),CM [(3,[0,1,2,3,4,5,6,7,8]),(8,[0,1,2,3,4,6,7,8])]⟩
def AQZ:List (Lp APZ):=[]
theorem Aak(g31:Int->Int->Option Mh)(g43:Int->Int->Int->Option Nz)(g67:ABl->Int->Option Wu)(AZJ:ABS->ACi->List UInt8->Option bl)(AVr:Int->AAT->AAT->Option JQ)(n:Nat)(ω:List Bool)(v:AAb.V):C9 ⟨T,Qb [(31,⟨i31,o31,i31.un g31⟩),(43,⟨i43,o43,i43.un g43⟩),(67,⟨i67,o67,i67.un g67⟩),(189,⟨ve,AJ4,ve.un AZJ⟩),(190,⟨AXE,AeX,AXE.un AVr⟩)],CM [(3,[0,1,2,3,4,5,6,7,8]),(8,[0,1,2,3,4,6,7,8])]⟩ AXF Tryz.f113 (LX 9 AQZ n) ω v=AAb.un (fun(p1:Int) (p2:ACH) (AF:Int) (Ab:Int) (AM:Bool) (b1:AAB) (b2:AAQ) (b3:AAB) (b4:AAH) (b5:AAj) (b6:AA6) (b7:ABA) (b8:AAT)=>
 (g43 p1 0 (AW ((b5.length:Int)-1))).bind fun u2=>
 cond (!u2.1.1)
  (some ((2,()),(((),AF,(),(),(),Ab,(),(),(),(),AM,()),b1,b2,b3,b4,b5,b6,b7,(),b8,())))
 (if(0:Int)<=p1/\p1<(b5.length:Int)then(
 (AZJ (b1,AF,()) ((b5.getD (p1.toNat) (0,[],())).1,(b5.getD (p1.toNat) (0,[],())).2.1,()) p2).bind fun u3=>
 (g31 u3.1.1.1.1 u3.1.1.2.1).bind fun u4=>
 (g67 (b1,AF,b2,b3,b4,Ab,b5,b6,b7,b8,AM,()) u4.1.1.1).bind fun u5=>
 cond (!u3.1.1.2.2.1)
  (some ((4,()),(((),AF,(),(),(),Ab,(),(),(),(),AM,()),b1,b2,b3,b4,b5,b6,b7,(),b8,())))
 (cond (((b8.length:Int)==120))
  (some ((4,()),(((),AF,(),(),(),Ab,(),(),(),(),AM,()),b1,b2,b3,b4,b5,b6,b7,(),b8,())))
 (cond (u5.1.1.2.1)
  (some ((4,()),(((),AF,(),(),(),Ab,(),(),(),(),AM,()),b1,b2,b3,b4,b5,b6,b7,(),b8,())))
 (if(0:Int)<=p1/\p1<(b5.length:Int)then(
 (AVr u5.1.1.1 [(u4.1.1.1,p2,false,())] b8).bind fun u8=>
 some ((0,()),(((),AF,(),(),(),Ab,(),(),(),(),AM,()),b1,b2,b3,b4,(b5.set (p1.toNat) (u3.1.1.1.1,u3.2.1,())),b6,b7,(),u8.2.2.1,())))else none))))else none)) v:=by rcases ω with _|⟨_|_,_⟩<;>kernel_rfl
theorem Abk(n:Nat)(ω:List Bool)(v:AAb.V):C9 AdZ AXF Tryz.f113 (LX 9 AQZ n) ω v=AAb.un (ME) v:=Aak D2 BE Ir KC EZ n ω v
def Acx:SQ:=mk Tryz.func113 AAb APZ ME [s31,jy,s67,AY2,AXn] [(3,[0,1,2,3,4,5,6,7,8]),(8,[0,1,2,3,4,6,7,8])] AQZ (hJ:= .nil) (he:=Abk AZ)
def AEO:SQ:=mk Tryz.func193 ABB F4 Ej [jy,s93] [] []
abbrev AUH:BI:=ANy
abbrev AXX:BI:=eJ
def AFs:SQ:=mk Tryz.func156 AUH AXX H8 [jy,s86] [] []
abbrev AAU:BI:=⟨[(0,yE),(1,BQ),(2,BQ)],[]⟩
abbrev AJ3:BI:=F4
def AFg:SQ:=mk Tryz.func191 AAU AJ3 Dt [AFs,zK,AEO] [] []
def ANB:SQ:=mk Tryz.func263 oK AHf Dy [s88,s92] [] []
def Adh:SQ:=mk Tryz.func260 AEx uU VC [s88,s92,s95,ANS,ANB] [(3,[0,1,2])] []
abbrev AGP:BI:=Cz
abbrev AQK:BI:=F4
def xl:SQ:=mk Tryz.func125 AGP AQK Kt [] [] []
abbrev ASS:BI:=⟨[(0,Jq),(1,BQ),(2,.row Y1)],iJ⟩
abbrev AWZ:BI:=sP
def ATN:SQ:=mk Tryz.func192 ASS AWZ MC [xl,Adh] [(1,[0,1,2,3,4,5,6,7,8,9]),(3,[0,1,3,4,5,6,7,8,9])] [] (he:=fun ω v=>by rcases ω with _|⟨_|_,_⟩<;>kernel_rfl)
abbrev AAO:BI:=AOZ
abbrev AP4:BI:=sP
def AYp:Qn:=⟨AAO,AP4,(AAO.un Jl)⟩
def Aca:bF:=⟨T,Qb (SP.l [s31,jy,AFg,ATN]),CM [(1,[0,1,2,3,4,5,6,7,8,9]),(3,[0,1,2,3,4,5,6,7,8,9]),(10,[9,10])]⟩
def AR2:List (Lp AP4):=[]
theorem Abu(g31:Int->Int->Option Mh)(g43:Int->Int->Int->Option Nz)(vn:ABl->Int->Int->Option Ib)(AVu:Int->AD_->Int->Int->Bool->List Int->AAQ->List Int->AAH->AAj->AA6->ABA->AAT->Option bd)(n:Nat)(ω:List Bool)(v:AAO.V):C9 ⟨T,Qb [(31,⟨i31,o31,i31.un g31⟩),(43,⟨i43,o43,i43.un g43⟩),(191,⟨AAU,AJ3,AAU.un vn⟩),(192,⟨ASS,AWZ,ASS.un AVu⟩)],CM [(1,[0,1,2,3,4,5,6,7,8,9]),(3,[0,1,2,3,4,5,6,7,8,9]),(10,[9,10])]⟩ AYp Tryz.f114 (LX 9 AR2 n) ω v=AAO.un (fun(p1:ADe) (AF:Int) (Ab:Int) (AM:Bool) (b1:AAB) (b2:AAQ) (b3:AAB) (b4:AAH) (b5:AAj) (b6:AA6) (b7:ABA) (b8:AAT)=>
 (g43 p1.2.1 0 (AW ((b5.length:Int)-1))).bind fun u2=>
 cond (!u2.1.1)
  (some ((2,()),(((),AF,(),(),(),Ab,(),(),(),(),AM,()),b1,b2,b3,b4,b5,b6,b7,b8,())))
 (if(0:Int)<=p1.2.1/\p1.2.1<(b5.length:Int)then(
 (g43 p1.2.2.1 1 (((b5.getD (p1.2.1.toNat) (0,[],())).2.1).length:Int)).bind fun u4=>
 cond (!u4.1.1)
  (some ((2,()),(((),AF,(),(),(),Ab,(),(),(),(),AM,()),b1,b2,b3,b4,b5,b6,b7,b8,())))
 ((vn (b1,AF,b2,b3,b4,Ab,b5,b6,b7,b8,AM,()) p1.2.2.2.1 ((b5.getD (p1.2.1.toNat) (0,[],())).1)).bind fun u6=>
 cond (u6.1.1 !=0)
  (some ((u6.1.1,()),(((),AF,(),(),(),Ab,(),(),(),(),AM,()),b1,b2,b3,b4,b5,b6,b7,b8,())))
 ((g31 ((b5.getD (p1.2.1.toNat) (0,[],())).1) p1.2.2.1).bind fun u8=>
 if(0:Int)<=AW (p1.2.2.1-1)/\AW (p1.2.2.1-1)<(((b5.getD (p1.2.1.toNat) (0,[],())).2.1).length:Int)then(
 (AVu p1.2.2.2.1 (u8.1.1.1,0,false,((((b5.getD (p1.2.1.toNat) (0,[],())).2.1).getD ((AW (p1.2.2.1-1)).toNat) ([],[],false,())).1),()) AF Ab AM b1 b2 b3 b4 b5 b6 b7 b8).bind fun EI=>
 some ((EI.1.1,()),(((),EI.2.1.2.1,(),(),(),EI.2.1.2.2.2.2.2.1,(),(),(),(),EI.2.1.2.2.2.2.2.2.2.2.2.2.1,()),EI.2.2.1,EI.2.2.2.1,EI.2.2.2.2.1,EI.2.2.2.2.2.1,EI.2.2.2.2.2.2.1,EI.2.2.2.2.2.2.2.1,EI.2.2.2.2.2.2.2.2.1,EI.2.2.2.2.2.2.2.2.2.1,())))else none)))else none)) v:=by kernel_rfl
theorem AbZ(n:Nat)(ω:List Bool)(v:AAO.V):C9 Aca AYp Tryz.f114 (LX 9 AR2 n) ω v=AAO.un (Jl) v:=Abu D2 BE Dt MC n ω v
def Aas:SQ:=mk Tryz.func114 AAO AP4 Jl [s31,jy,AFg,ATN] [(1,[0,1,2,3,4,5,6,7,8,9]),(3,[0,1,2,3,4,5,6,7,8,9]),(10,[9,10])] AR2 (hJ:= .nil) (he:=AbZ AZ)
def Ac2:SQ:=mk Tryz.func240 ⟨[(0,.row Y1),(1,BQ)],[]⟩ F4 TL [] [] []
def Ad9:SQ:=mk Tryz.func239 ⟨[(0,ZM),(1,BQ),(2,.c (.fn 240 []))],[]⟩ qJ CP [Ac2] [] [⟨3,⟨[(0,ZM),(1,BQ),(2,.c (.fn 240 [])),(8,BQ),(9,BQ),(10,BQ)],[]⟩,BC⟩]
def AV8:SQ:=mk Tryz.func146 AFM qJ S9 [Ad9] [] []
def Aa6:SQ:=ARi (ρ:=Jt 296 0 307 308 92 96) (nm:= "slices.Insert[[]loop.example/g00178/impl.Entry,loop.example/g00178/impl.Entry]") (fv:=Tryz.f307) tOk (og.ins ⟨by kernel_rfl,by kernel_rfl,by kernel_rfl,by kernel_rfl,by kernel_rfl,by kernel_rfl,by kernel_rfl,by kernel_rfl,by kernel_rfl,by kernel_rfl,by kernel_rfl,by kernel_rfl⟩ mx (by kernel_rfl) (by kernel_rfl) (by kernel_rfl) (by kernel_rfl) (by kernel_rfl) (by kernel_rfl) (by kernel_rfl)) (r:=Y1) rfl (by kernel_rfl) (by kernel_rfl) EB (fun _=>rfl)
def AXg:SQ:=mk Tryz.func297 AN9 AOy SE [] [] []
def ASt:SQ:=mk Tryz.func264 ⟨[(0,oY),(1,.row Y1)],tu⟩ AOp Xs [AV8,Aa6,AXg] [(4,[1])] []
def AWP:SQ:=mk Tryz.func197 j8 ABF Nj [jy,s88,s92,ANB,ASt] [] [⟨6,⟨[(1,BQ),(2,Jq),(4,Sl),(6,ot),(23,ZM),(24,BQ),(25,BQ)],[ASy,AHC,KD,KD,AKN,.sl 1 Y1,KD]⟩,J_⟩]
def AWz:SQ:=mk Tryz.func194 oK ABF O4 [AWP] [] []
abbrev i60:BI:=j8
abbrev o60:BI:=yM
def s60:SQ:=mk Tryz.func60 i60 o60 Gt [s92,AV8] [] []
def Ab5:SQ:=mk Tryz.func309 F4 Cz cmp_isNaN_int [] [] []
def Abj:SQ:=mk Tryz.func298 oN Cz cmp_Less_int [Ab5] [] []
def Aeb:SQ:=mk Tryz.func299 F4 Cz P7 [] [] []
def AdR:SQ:=mk Tryz.func265 oE qJ Gh [Abj,Aeb] [] [⟨3,⟨[(0,ZN),(1,BQ),(6,BQ),(7,BQ),(8,BQ)],[]⟩,D1⟩]
def Ab_:SQ:=ARi (ρ:=Jt 266 0 300 301 24 3) (nm:= "slices.Insert[[]int,int]") (fv:=Tryz.f300) tOk (og.ins ⟨by kernel_rfl,by kernel_rfl,by kernel_rfl,by kernel_rfl,by kernel_rfl,by kernel_rfl,by kernel_rfl,by kernel_rfl,by kernel_rfl,by kernel_rfl,by kernel_rfl,by kernel_rfl⟩ mx (by kernel_rfl) (by kernel_rfl) (by kernel_rfl) (by kernel_rfl) (by kernel_rfl) (by kernel_rfl) (by kernel_rfl)) (r:=tI) rfl (by kernel_rfl) (by kernel_rfl) KP (fun _=>rfl)
def AIE:SQ:=mk Tryz.func198 oE AB4 Lh [s86,AdR,Ab_] [] []
def Adp:SQ:=mk Tryz.func261 AN3 AOm Tt [s32,jy,s89,s96,AIE,ATB] [(6,[0,1,2,4])] []
def Ack:SQ:=mk Tryz.func195 AA8 ANp OI [s31,s60,s67,Adp] [(6,[0,1,2,3,4,6,7,8,9])] [⟨1,AGW,DD⟩]
abbrev AEN:BI:=AOC
abbrev ARv:BI:=yM
def AUY:SQ:=mk Tryz.func207 AEN ARv KA [s31] [] [⟨5,⟨[(2,Jq),(4,Sl),(6,BQ),(33,ZM),(34,BQ),(35,BQ)],[AAJ,ACP]⟩,Kw⟩]
def ARG:SQ:=mk Tryz.func269 uI xw FI [s90,s98] [] []
abbrev AFa:BI:=ANx
abbrev AQc:BI:=AO1
def AYU:SQ:=mk Tryz.func262 AFa AQc QU [jy,s90,s98,AIE,ARG] [(4,[0,1,2,3,4,6])] []
abbrev i196:BI:=AA8
abbrev AQG:BI:=ANp
def c196:Qn:=⟨i196,AQG,(i196.un Lx)⟩
def AYq:bF:=⟨T,Qb (SP.l [s60,AUY,AYU]),CM [(4,[0,1,2,3,4,5,6,7,8,9]),(6,[0,1,2,3,4,5,7,8,9,10])]⟩
def AE9:List (Lp AQG):=[⟨1,AGW,Bf⟩]
abbrev nP:BI:=AGW
theorem AUh(g60:ACd->Int->Option NX)(AJT:ABY->Int->Option Jp)(AI4:ABS->ABY->Int->Int->Option Yo)(n:Nat)(v:nP.V)(ω:List Bool):HW ⟨T,Qb [(60,⟨i60,o60,i60.un g60⟩),(207,⟨AEN,ARv,AEN.un AJT⟩),(262,⟨AFa,AQc,AFa.un AI4⟩)],CM [(4,[0,1,2,3,4,5,6,7,8,9]),(6,[0,1,2,3,4,5,7,8,9,10])]⟩ c196 Tryz.f196 (LX 9 AE9 n) 1 ω (nP.st 81 v)=nP.un (fun(t1:Int) (t2:Int) (t6:Int) (AF:Int) (Ab:Int) (AM:Bool) (b1:AAB) (b2:AAQ) (b3:AAB) (b4:AAH) (b5:AAj) (b6:AA6) (b7:ABA) (b8:AAT)=>
 if(0:Int)<=t1/\t1<(b6.length:Int)then(
 cond (decide (t6<=(((b6.getD (t1.toNat) (0,0,[],[],false,[],())).2.2.2.2.2.1).length:Int)))
  (if(0:Int)<=t1/\t1<(b6.length:Int)then(
  (AJT ((b6.getD (t1.toNat) (0,0,[],[],false,[],())).1,(b6.getD (t1.toNat) (0,0,[],[],false,[],())).2.1,(b6.getD (t1.toNat) (0,0,[],[],false,[],())).2.2.1,(b6.getD (t1.toNat) (0,0,[],[],false,[],())).2.2.2.1,(b6.getD (t1.toNat) (0,0,[],[],false,[],())).2.2.2.2.1,(b6.getD (t1.toNat) (0,0,[],[],false,[],())).2.2.2.2.2.1,()) t6).bind fun u2=>
  if(0:Int)<=t2/\t2<(b2.length:Int)then(
  (g60 ((b2.getD (t2.toNat) ([],[],0,())).1,(b2.getD (t2.toNat) ([],[],0,())).2.1,(b2.getD (t2.toNat) ([],[],0,())).2.2.1,()) u2.1.1.1.1).bind fun u3=>
  cond (u2.1.1.2.1)
   (cond (u3.1.1.2.1)
    (cond (((u3.1.1.1.1==u2.1.1.1.1)&&((u3.1.1.1.2.1==u2.1.1.1.2.1)&&((u3.1.1.1.2.2.1==u2.1.1.1.2.2.1)&&((u3.1.1.1.2.2.2.1==u2.1.1.1.2.2.2.1)&&true)))))
     (if(0:Int)<=t1/\t1<(b6.length:Int)then(
     (AI4 (b1,AF,()) ((b6.getD (t1.toNat) (0,0,[],[],false,[],())).1,(b6.getD (t1.toNat) (0,0,[],[],false,[],())).2.1,(b6.getD (t1.toNat) (0,0,[],[],false,[],())).2.2.1,(b6.getD (t1.toNat) (0,0,[],[],false,[],())).2.2.2.1,(b6.getD (t1.toNat) (0,0,[],[],false,[],())).2.2.2.2.1,(b6.getD (t1.toNat) (0,0,[],[],false,[],())).2.2.2.2.2.1,()) t6 t2).bind fun u5=>
     if(0:Int)<=t1/\t1<(b6.length:Int)then(
     (Bf n) t1 t2 (AW (t6+1)) AF Ab AM b1 b2 b3 b4 b5 (b6.set (t1.toNat) (u5.1.1.1.1,u5.1.1.1.2.1,u5.2.1,u5.2.2.1,u5.1.1.1.2.2.2.2.1,u5.2.2.2.1,())) b7 b8)else none)else none)
    ((Bf n) t1 t2 (AW (t6+1)) AF Ab AM b1 b2 b3 b4 b5 b6 b7 b8))
   ((Bf n) t1 t2 (AW (t6+1)) AF Ab AM b1 b2 b3 b4 b5 b6 b7 b8))
  ((Bf n) t1 t2 (AW (t6+1)) AF Ab AM b1 b2 b3 b4 b5 b6 b7 b8))else none)else none)
 (some (((()),()),(((),AF,(),(),(),Ab,(),(),(),(),AM,()),b1,b2,b3,b4,b5,b6,b7,b8,()))))else none) v:=by rcases ω with _|⟨_|_,_⟩<;>kernel_rfl
theorem AQF(n:Nat)(v:nP.V)(ω:List Bool):HW AYq c196 Tryz.f196 (LX 9 AE9 n) 1 ω (nP.st 81 v)=nP.un (Hb (Bf n)) v:=AUh Gt KA QU n v ω
theorem AeA(g60:ACd->Int->Option NX)(AJT:ABY->Int->Option Jp)(AI4:ABS->ABY->Int->Int->Option Yo)(n:Nat)(ω:List Bool)(v:i196.V):C9 ⟨T,Qb [(60,⟨i60,o60,i60.un g60⟩),(207,⟨AEN,ARv,AEN.un AJT⟩),(262,⟨AFa,AQc,AFa.un AI4⟩)],CM [(4,[0,1,2,3,4,5,6,7,8,9]),(6,[0,1,2,3,4,5,7,8,9,10])]⟩ c196 Tryz.f196 (LX 9 AE9 n) ω v=i196.un (fun(p1:Int) (p2:Int) (AF:Int) (Ab:Int) (AM:Bool) (b1:AAB) (b2:AAQ) (b3:AAB) (b4:AAH) (b5:AAj) (b6:AA6) (b7:ABA) (b8:AAT)=>
 (Bf n) p1 p2 1 AF Ab AM b1 b2 b3 b4 b5 b6 b7 b8) v:=by kernel_rfl
theorem AcR(n:Nat)(ω:List Bool)(v:i196.V):C9 AYq c196 Tryz.f196 (LX 9 AE9 n) ω v=i196.un (KZ (Bf n)) v:=AeA Gt KA QU n ω v
def Aa0:SQ:=mk Tryz.func196 i196 AQG Lx [s60,AUY,AYU] [(4,[0,1,2,3,4,5,6,7,8,9]),(6,[0,1,2,3,4,5,7,8,9,10])] AE9 (hJ:= .cons (fun _=>rfl) AQF (.nil)) (he:=AcR AZ)
def Abb:SQ:=mk Tryz.func115 uo sP RI [AFs,zK,AEO,AWz,Ack,Aa0] [(7,[0,1,3,4,5,6,7,8,11]),(11,[0,1,2,3,4,5,6,7,8,9,10]),(17,[0,1,2,3,4,5,6,7,8,9])] [⟨9,⟨[(0,Jq),(1,BQ),(6,gr),(41,.c (.ref 5)),(42,BQ),(43,BQ)],[ADw,DM,Xo,DM,Lm,Sj,T9,PF,KT,.mem [.any,.any,.v tI]]⟩,FM⟩,⟨15,⟨[(0,Jq),(1,BQ),(72,.c (.ref 6)),(73,BQ),(74,BQ)],iJ⟩,Fh⟩]
def AdX:SQ:=mk Tryz.func116 AA8 sP QA [xl,AEO,AWP] [(5,[0,1,3,4,5,6,7,8,11])] []
def AWE:SQ:=mk Tryz.func248 ⟨[(0,BQ),(1,.c (.pS (.cons tI .unit)))],[]⟩ Cz NV [] [] []
def ARE:SQ:=mk Tryz.func294 ⟨[(0,ZN),(1,AIk)],[]⟩ F4 ED [AWE] [] [⟨2,⟨[(0,ZN),(1,AIk),(7,BQ),(8,BQ)],[]⟩,B9⟩]
def ATR:SQ:=mk Tryz.func247 ⟨[(0,oY),(1,AIk)],t_⟩ AOL C0 [AWE,ARE] [] [⟨5,⟨[(0,oY),(1,AIk),(5,BQ),(6,BQ)],t_⟩,B4⟩]
abbrev i157:BI:=oE
abbrev AYw:BI:=AB4
def AFO:SQ:=mk Tryz.func157 i157 AYw GV [s86,ATR] [] []
def AdH:SQ:=mk Tryz.func199 AOQ AOm O0 [s89,s96,AFO] [(8,[0,1,2,4])] [⟨5,⟨[(2,BQ),(6,Jq),(8,xP9),(19,ALk),(20,BQ),(21,BQ)],[.mem [.v tI,.ref 1],nT,AUe,.sl 2 Y5]⟩,II⟩]
def AdT:SQ:=mk Tryz.func200 AOW AO1 RP [s90,s98,AFO] [(7,[0,1,2,3,4,5,6])] [⟨5,⟨[(2,BQ),(6,Jq),(8,ot),(19,AJ8),(20,BQ),(21,BQ)],[AYT,Et,KD,lB,AXD,Et,KD,.sl 2 (.sl tI)]⟩,KE⟩]
def Aaw:SQ:=mk Tryz.func117 uo ⟨pN,[AS7,DM,Xo,F8,Lm,Sj,T9,PF,KT,DM]⟩ RF [s32,AEO,AIE,AdH,AdT] [(9,[0,1,2,3,4,6,7,8,9,10]),(14,[0,1,2,3,4,5,7,8,9,10]),(16,[1,2,3,4,5,6,7,8,9])] [⟨7,⟨[(0,Jq),(1,BQ),(35,.c (.ref 5)),(36,BQ),(37,BQ)],AOU⟩,Hl⟩,⟨12,⟨[(0,Jq),(1,BQ),(62,.c (.ref 6)),(63,BQ),(64,BQ)],AOU⟩,HI⟩] (hJ:= .cons (fun _=>rfl) (fun n v ω=>by kernel_rfl) (.cons (fun _=>rfl) (fun n v ω=>by rcases ω with _|⟨_|_,_⟩<;>kernel_rfl) (.nil)))
def AcZ:SQ:=mk Tryz.func267 oL Cz Zy [s32,s74] [] []
def Ad2:SQ:=mk Tryz.func268 ⟨[(0,yG)],[]⟩ ⟨ACy,tu⟩ i7 [s92,ASt] [] [⟨3,⟨[(3,oY),(9,yG),(10,BQ),(11,BQ)],tu⟩,N3⟩,⟨8,⟨[(3,oY),(9,yG),(10,BQ),(11,BQ),(19,ZM),(20,BQ),(21,BQ)],tu⟩,Nt⟩]
abbrev i201:BI:=AO6
abbrev AWS:BI:=⟨AYB,[Un,.sl 1 Y1,KD]⟩
def AXO:SQ:=mk Tryz.func201 i201 AWS bT [s92,zK,AcZ,Ad2] [] [⟨5,⟨[(2,ZN),(4,BQ),(10,Sl),(12,.c (.ref 4)),(36,oY),(37,BQ),(38,BQ)],[Un,AHC,KD,KD,Un]⟩,Ts⟩]
abbrev AAK:BI:=uo
abbrev AR0:BI:=⟨pN,[AS7,DM,Un,F8,Lm,Sj,T9,PF,KT,DM]⟩
def AWx:Qn:=⟨AAK,AR0,(AAK.un Ko)⟩
def AbO:bF:=⟨T,Qb (SP.l [jy,s93,AFO,AXO]),CM [(3,[0,1,3,4,5,6,7,8]),(6,[0,1,3,4,5,6,7,8,9])]⟩
def ATJ:List (Lp AR0):=[]
theorem Acg(g43:Int->Int->Int->Option Nz)(g93:ABl->Int->Option L3)(AZC:List Int->Int->Option YW)(AZF:ABS->List Int->Int->Int->AAQ->Option Vn)(n:Nat)(ω:List Bool)(v:AAK.V):C9 ⟨T,Qb [(43,⟨i43,o43,i43.un g43⟩),(93,⟨i93,o93,i93.un g93⟩),(157,⟨i157,AYw,i157.un AZC⟩),(201,⟨i201,AWS,i201.un AZF⟩)],CM [(3,[0,1,3,4,5,6,7,8]),(6,[0,1,3,4,5,6,7,8,9])]⟩ AWx Tryz.f118 (LX 9 ATJ n) ω v=AAK.un (fun(p1:Int) (AF:Int) (Ab:Int) (AM:Bool) (b1:AAB) (b2:AAQ) (b3:AAB) (b4:AAH) (b5:AAj) (b6:AA6) (b7:ABA) (b8:AAT)=>
 (g43 p1 0 (AW ((b2.length:Int)-1))).bind fun u2=>
 cond (!u2.1.1)
  (some ((2,()),(((),AF,(),(),(),Ab,(),(),(),(),AM,()),b1,b2,(),b4,b5,b6,b7,b8,b3,())))
 ((g93 (b1,AF,b2,b3,b4,Ab,b5,b6,b7,b8,AM,()) p1).bind fun u3=>
 cond (!u3.1.1)
  (some ((2,()),(((),AF,(),(),(),Ab,(),(),(),(),AM,()),b1,b2,(),b4,b5,b6,b7,b8,b3,())))
 (let x4:Int:=AW ((b4.length:Int)-1)
 (AZF (b1,AF,()) b3 p1 (if 0>x4 then 0 else x4) b2).bind fun u6=>
 cond (!u6.1.1.2.1)
  (some ((4,()),(((),AF,(),(),(),Ab,(),(),(),(),AM,()),b1,u6.2.1,(),b4,b5,b6,b7,b8,b3,())))
 (if(0:Int)<=p1/\p1<(u6.2.1.length:Int)then(
 (AZC b3 p1).bind fun u8=>
 some ((0,()),(((),AF,(),(),(),Ab,(),(),(),(),AM,()),b1,(u6.2.1.set (p1.toNat) (u6.2.2.1,u6.2.2.2.1,u6.1.1.1.2.2.1,())),(),b4,b5,b6,b7,b8,u8.2.1,())))else none)))) v:=by rcases ω with _|⟨_|_,_⟩<;>kernel_rfl
theorem Ad8(n:Nat)(ω:List Bool)(v:AAK.V):C9 AbO AWx Tryz.f118 (LX 9 ATJ n) ω v=AAK.un (Ko) v:=Acg BE DH GV bT n ω v
def Ads:SQ:=mk Tryz.func118 AAK AR0 Ko [jy,s93,AFO,AXO] [(3,[0,1,3,4,5,6,7,8]),(6,[0,1,3,4,5,6,7,8,9])] ATJ (hJ:= .nil) (he:=Ad8 AZ)
def AcL:SQ:=mk Tryz.func202 oN xw kL [] [] []
def Abm:SQ:=mk Tryz.func119 AET ⟨pN,[.mem [.ref 1,.v tI,.ref 2,.ref 3,.ref 4,.v tI,.ref 5,.ref 9,.ref 7,.ref 8,.v .bool],DM,Xo,DM,Lm,Sj,F8,PF,KT,T9]⟩ RM [s36,AcL] [(1,[0,1,2,3,4,5,6,7,8])] []
abbrev i203:BI:=j8
abbrev AUt:BI:=ABF
def AWO:SQ:=mk Tryz.func203 i203 AUt Po [jy,AWz,ANB] [] []
abbrev AGq:BI:=j8
abbrev ARP:BI:=w9
def AWv:SQ:=mk Tryz.func205 AGq ARP Q1 [s92,s95] [] [⟨5,⟨[(1,BQ),(5,oY),(14,ZM),(15,BQ),(16,BQ)],[KD]⟩,Mo⟩]
abbrev AEm:BI:=ANw
abbrev APa:BI:=⟨AUB,[DM,.sl 1 Y1,lB]⟩
def AWU:SQ:=mk Tryz.func204 AEm APa Qs [s90,s95,s98,AIE,ASt,ARG] [(8,[0,1,2,3,4,5,6,7,8,9,10])] [⟨6,⟨[(4,Jq),(5,Sl),(8,xP9),(10,ADo),(31,ZM),(32,BQ),(33,BQ)],[pA,AAJ,AUz,Et,KD,lB,AP6,DM,.sl 1 Y1,lB]⟩,Mg⟩]
abbrev wE:BI:=uo
abbrev ASg:BI:=⟨pN,[ADw,DM,Xo,DM,Lm,Sj,.sl 2 Y7,PF,KT]⟩
def AR6:Qn:=⟨wE,ASg,(wE.un Kc)⟩
def Ab4:bF:=⟨T,Qb (SP.l [AFg,AWO,AWU,AWv]),CM [(7,[0,1,2,3,4,5,6,7,8,9]),(8,[0,1,2,3,4,5,6,7,8,9,10,11,12]),(11,[0,1,3,4,5,7,8,9,13])]⟩
def ANF:List (Lp ASg):=[]
def EA(ω:List Bool):Prop:= ∀(vn:ABl->Int->Int->Option Ib) (AB_:ACd->Int->Option U2) (ACI:ABS->ABY->Int->ABJ->Option Kj) (AC0:ACd->Int->Option Kh) (n:Nat) (v:wE.V),C9 ⟨T,Qb [(191,⟨AAU,AJ3,AAU.un vn⟩),(203,⟨i203,AUt,i203.un AB_⟩),(204,⟨AEm,APa,AEm.un ACI⟩),(205,⟨AGq,ARP,AGq.un AC0⟩)],CM [(7,[0,1,2,3,4,5,6,7,8,9]),(8,[0,1,2,3,4,5,6,7,8,9,10,11,12]),(11,[0,1,3,4,5,7,8,9,13])]⟩ AR6 Tryz.f120 (LX 9 ANF n) ω v=wE.un (fun(p1:Int) (AF:Int) (Ab:Int) (AM:Bool) (b1:AAB) (b2:AAQ) (b3:AAB) (b4:AAH) (b5:AAj) (b6:AA6) (b7:ABA) (b8:AAT)=>
 cond (((b6.length:Int)==0))
  (some ((2,()),(((),AF,(),(),(),Ab,(),(),(),(),AM,()),b1,b2,b3,b4,b5,b6,b7,b8,())))
 (if(0:Int)<=(0:Int)/\(0:Int)<(b6.length:Int)then(
 (vn (b1,AF,b2,b3,b4,Ab,b5,b6,b7,b8,AM,()) p1 ((b6.getD 0 (0,0,[],[],false,[],())).2.1)).bind fun u3=>
 cond (u3.1.1 !=0)
  (some ((u3.1.1,()),(((),AF,(),(),(),Ab,(),(),(),(),AM,()),b1,b2,b3,b4,b5,b6,b7,b8,())))
 (if(0:Int)<=p1/\p1<(b2.length:Int)then(
 (AB_ ((b2.getD (p1.toNat) ([],[],0,())).1,(b2.getD (p1.toNat) ([],[],0,())).2.1,(b2.getD (p1.toNat) ([],[],0,())).2.2.1,()) (AW (((b6.getD 0 (0,0,[],[],false,[],())).1)-1))).bind fun u5=>
 (AC0 (u5.2.1,u5.2.2.1,u5.1.1.1.2.2.1,()) ((b6.getD 0 (0,0,[],[],false,[],())).2.1)).bind fun u7=>
 (ACI (b1,AF,()) ((b6.getD 0 (0,0,[],[],false,[],())).1,(b6.getD 0 (0,0,[],[],false,[],())).2.1,(b6.getD 0 (0,0,[],[],false,[],())).2.2.1,(b6.getD 0 (0,0,[],[],false,[],())).2.2.2.1,(b6.getD 0 (0,0,[],[],false,[],())).2.2.2.2.1,(b6.getD 0 (0,0,[],[],false,[],())).2.2.2.2.2.1,()) p1 u7.2.1).bind fun u8=>
 cond (!u5.1.1.2.1)
  (some ((4,()),(((),AF,(),(),(),Ab,(),(),(),(),AM,()),b1,b2,b3,b4,b5,b6,b7,b8,())))
 (cond (!u8.1.1.2.1)
  (some ((4,()),(((),AF,(),(),(),Ab,(),(),(),(),AM,()),b1,b2,b3,b4,b5,b6,b7,b8,())))
 (if(0:Int)<=p1/\p1<(b2.length:Int)then(
 if(0:Int)<=(0:Int)/\(0:Int)<(b6.length:Int)then(
 some ((0,()),(((),AF,(),(),(),Ab,(),(),(),(),AM,()),b1,(b2.set (p1.toNat) (u5.2.1,u5.2.2.1,u5.1.1.1.2.2.1,())),b3,b4,b5,(b6.set 0 (u8.1.1.1.1,u8.1.1.1.2.1,u8.2.1,u8.2.2.1,u8.1.1.1.2.2.2.2.1,u8.2.2.2.1,())),b7,b8,())))else none)else none)))else none))else none)) v
theorem ARR:EA []:=by delta EA;intros;kernel_rfl
theorem AQ3:EA (false::[]):=by delta EA;intros;kernel_rfl
theorem ATt(ω:List Bool):EA (false::false::ω):=by delta EA;intros;kernel_rfl
theorem AQN:EA (false::true::[]):=by delta EA;intros;kernel_rfl
theorem AU8:EA (false::true::false::[]):=by delta EA;intros;kernel_rfl
theorem ARM(ω:List Bool):EA (false::true::false::false::ω):=by delta EA;intros;kernel_rfl
theorem AQV:EA (false::true::false::true::[]):=by delta EA;intros;kernel_rfl
theorem AQI(ω:List Bool):EA (false::true::false::true::false::ω):=by delta EA;intros;kernel_rfl
theorem AUV(ω:List Bool):EA (false::true::false::true::true::ω):=by delta EA;intros;kernel_rfl
theorem AH7:EA (false::true::true::[]):=by delta EA;intros;kernel_rfl
theorem AJi(ω:List Bool):EA (false::true::true::false::ω):=by delta EA;intros;kernel_rfl
theorem AKz:EA (false::true::true::true::[]):=by delta EA;intros;kernel_rfl
theorem AIQ(ω:List Bool):EA (false::true::true::true::false::ω):=by delta EA;intros;kernel_rfl
theorem AJ_(ω:List Bool):EA (false::true::true::true::true::ω):=by delta EA;intros;kernel_rfl
theorem AI2:EA (true::[]):=by delta EA;intros;kernel_rfl
theorem AJW(ω:List Bool):EA (true::false::ω):=by delta EA;intros;kernel_rfl
theorem AMK:EA (true::true::[]):=by delta EA;intros;kernel_rfl
theorem AL6:EA (true::true::false::[]):=by delta EA;intros;kernel_rfl
theorem AM8(ω:List Bool):EA (true::true::false::false::ω):=by delta EA;intros;kernel_rfl
theorem ALR:EA (true::true::false::true::[]):=by delta EA;intros;kernel_rfl
theorem AIz(ω:List Bool):EA (true::true::false::true::false::ω):=by delta EA;intros;kernel_rfl
theorem AMZ(ω:List Bool):EA (true::true::false::true::true::ω):=by delta EA;intros;kernel_rfl
theorem ALp:EA (true::true::true::[]):=by delta EA;intros;kernel_rfl
theorem ALh(ω:List Bool):EA (true::true::true::false::ω):=by delta EA;intros;kernel_rfl
theorem AMj:EA (true::true::true::true::[]):=by delta EA;intros;kernel_rfl
theorem ALl(ω:List Bool):EA (true::true::true::true::false::ω):=by delta EA;intros;kernel_rfl
theorem ALf(ω:List Bool):EA (true::true::true::true::true::ω):=by delta EA;intros;kernel_rfl
theorem Abq(vn:ABl->Int->Int->Option Ib)(AB_:ACd->Int->Option U2)(ACI:ABS->ABY->Int->ABJ->Option Kj)(AC0:ACd->Int->Option Kh)(n:Nat)(ω:List Bool)(v:wE.V):C9 ⟨T,Qb [(191,⟨AAU,AJ3,AAU.un vn⟩),(203,⟨i203,AUt,i203.un AB_⟩),(204,⟨AEm,APa,AEm.un ACI⟩),(205,⟨AGq,ARP,AGq.un AC0⟩)],CM [(7,[0,1,2,3,4,5,6,7,8,9]),(8,[0,1,2,3,4,5,6,7,8,9,10,11,12]),(11,[0,1,3,4,5,7,8,9,13])]⟩ AR6 Tryz.f120 (LX 9 ANF n) ω v=wE.un (fun(p1:Int) (AF:Int) (Ab:Int) (AM:Bool) (b1:AAB) (b2:AAQ) (b3:AAB) (b4:AAH) (b5:AAj) (b6:AA6) (b7:ABA) (b8:AAT)=>
 cond (((b6.length:Int)==0))
  (some ((2,()),(((),AF,(),(),(),Ab,(),(),(),(),AM,()),b1,b2,b3,b4,b5,b6,b7,b8,())))
 (if(0:Int)<=(0:Int)/\(0:Int)<(b6.length:Int)then(
 (vn (b1,AF,b2,b3,b4,Ab,b5,b6,b7,b8,AM,()) p1 ((b6.getD 0 (0,0,[],[],false,[],())).2.1)).bind fun u3=>
 cond (u3.1.1 !=0)
  (some ((u3.1.1,()),(((),AF,(),(),(),Ab,(),(),(),(),AM,()),b1,b2,b3,b4,b5,b6,b7,b8,())))
 (if(0:Int)<=p1/\p1<(b2.length:Int)then(
 (AB_ ((b2.getD (p1.toNat) ([],[],0,())).1,(b2.getD (p1.toNat) ([],[],0,())).2.1,(b2.getD (p1.toNat) ([],[],0,())).2.2.1,()) (AW (((b6.getD 0 (0,0,[],[],false,[],())).1)-1))).bind fun u5=>
 (AC0 (u5.2.1,u5.2.2.1,u5.1.1.1.2.2.1,()) ((b6.getD 0 (0,0,[],[],false,[],())).2.1)).bind fun u7=>
 (ACI (b1,AF,()) ((b6.getD 0 (0,0,[],[],false,[],())).1,(b6.getD 0 (0,0,[],[],false,[],())).2.1,(b6.getD 0 (0,0,[],[],false,[],())).2.2.1,(b6.getD 0 (0,0,[],[],false,[],())).2.2.2.1,(b6.getD 0 (0,0,[],[],false,[],())).2.2.2.2.1,(b6.getD 0 (0,0,[],[],false,[],())).2.2.2.2.2.1,()) p1 u7.2.1).bind fun u8=>
 cond (!u5.1.1.2.1)
  (some ((4,()),(((),AF,(),(),(),Ab,(),(),(),(),AM,()),b1,b2,b3,b4,b5,b6,b7,b8,())))
 (cond (!u8.1.1.2.1)
  (some ((4,()),(((),AF,(),(),(),Ab,(),(),(),(),AM,()),b1,b2,b3,b4,b5,b6,b7,b8,())))
 (if(0:Int)<=p1/\p1<(b2.length:Int)then(
 if(0:Int)<=(0:Int)/\(0:Int)<(b6.length:Int)then(
 some ((0,()),(((),AF,(),(),(),Ab,(),(),(),(),AM,()),b1,(b2.set (p1.toNat) (u5.2.1,u5.2.2.1,u5.1.1.1.2.2.1,())),b3,b4,b5,(b6.set 0 (u8.1.1.1.1,u8.1.1.1.2.1,u8.2.1,u8.2.2.1,u8.1.1.1.2.2.2.2.1,u8.2.2.2.1,())),b7,b8,())))else none)else none)))else none))else none)) v:=(AE ARR (AE AQ3 ATt (AE AQN (AE AU8 ARM (AE AQV AQI AUV)) (AE AH7 AJi (AE AKz AIQ AJ_)))) (AE AI2 AJW (AE AMK (AE AL6 AM8 (AE ALR AIz AMZ)) (AE ALp ALh (AE AMj ALl ALf))))) ω vn AB_ ACI AC0 n v
theorem AdU(n:Nat)(ω:List Bool)(v:wE.V):C9 Ab4 AR6 Tryz.f120 (LX 9 ANF n) ω v=wE.un (Kc) v:=Abq Dt Po Qs Q1 n ω v
def Ac1:SQ:=mk Tryz.func120 wE ASg Kc [AFg,AWO,AWU,AWv] [(7,[0,1,2,3,4,5,6,7,8,9]),(8,[0,1,2,3,4,5,6,7,8,9,10,11,12]),(11,[0,1,3,4,5,7,8,9,13])] ANF (hJ:= .nil) (he:=AdU AZ)
def AeS:SQ:=mk Tryz.func302 AFv eJ gI [s74,zK] [] [⟨5,⟨[(2,ZN),(7,oY),(22,ZN),(23,BQ),(24,BQ)],kP⟩,TU⟩]
def AZY:SQ:=mk Tryz.func270 AFv Cz HT [s32,s74,AMp,AeS] [(3,[0,1])] []
abbrev i206:BI:=AOH
abbrev AWY:BI:=xu
def AXq:SQ:=mk Tryz.func206 i206 AWY Qx [s90,s98,AMp,AXC,ARG,AZY] [(1,[0,1,2])] []
abbrev zj:BI:=AET
abbrev ASD:BI:=sP
def AWi:Qn:=⟨zj,ASD,(zj.un Kl)⟩
def AcV:bF:=⟨T,Qb (SP.l [xl,AFs,AXq]),CM [(3,[0,1,2,3,4,5,6,7,8]),(4,[0,1,2,3,4,5,7,8,9])]⟩
def ATs:List (Lp ASD):=[]
theorem Ad7(ADi:Bool->Option fc)(AWw:ACc->Int->Option eC)(AWm:ABS->ABY->List Int->Option du)(n:Nat)(ω:List Bool)(v:zj.V):C9 ⟨T,Qb [(125,⟨AGP,AQK,AGP.un ADi⟩),(156,⟨AUH,AXX,AUH.un AWw⟩),(206,⟨i206,AWY,i206.un AWm⟩)],CM [(3,[0,1,2,3,4,5,6,7,8]),(4,[0,1,2,3,4,5,7,8,9])]⟩ AWi Tryz.f121 (LX 9 ATs n) ω v=zj.un (fun(AF:Int) (Ab:Int) (AM:Bool) (b1:AAB) (b2:AAQ) (b3:AAB) (b4:AAH) (b5:AAj) (b6:AA6) (b7:ABA) (b8:AAT)=>
 cond (((b6.length:Int)==0))
  (some ((2,()),(((),AF,(),(),(),Ab,(),(),(),(),AM,()),b1,b2,b3,b4,b5,b6,b7,b8,())))
 (if(0:Int)<=(0:Int)/\(0:Int)<(b6.length:Int)then(
 if(0:Int)<=(0:Int)/\(0:Int)<(b6.length:Int)then(
 (AWw (b4,Ab,()) ((b6.getD 0 (0,0,[],[],false,[],())).2.1)).bind fun u3=>
 (AWm (b1,AF,()) ((b6.getD 0 (0,0,[],[],false,[],())).1,(b6.getD 0 (0,0,[],[],false,[],())).2.1,(b6.getD 0 (0,0,[],[],false,[],())).2.2.1,(b6.getD 0 (0,0,[],[],false,[],())).2.2.2.1,(b6.getD 0 (0,0,[],[],false,[],())).2.2.2.2.1,(b6.getD 0 (0,0,[],[],false,[],())).2.2.2.2.2.1,()) u3.2.1).bind fun u4=>
 if(0:Int)<=(0:Int)/\(0:Int)<(b6.length:Int)then(
 (ADi u4.1.1.2.1).bind fun u6=>
 some ((u6.1.1,()),(((),AF,(),(),(),Ab,(),(),(),(),AM,()),b1,b2,b3,b4,b5,(b6.set 0 (u4.1.1.1.1,u4.1.1.1.2.1,u4.2.1,u4.2.2.1,u4.1.1.1.2.2.2.2.1,u4.2.2.2.1,())),b7,b8,())))else none)else none)else none)) v:=by rcases ω with _|⟨_|_,_|⟨_|_,_⟩⟩<;>kernel_rfl
theorem AeZ(n:Nat)(ω:List Bool)(v:zj.V):C9 AcV AWi Tryz.f121 (LX 9 ATs n) ω v=zj.un (Kl) v:=Ad7 Kt H8 Qx n ω v
def Aan:SQ:=mk Tryz.func121 zj ASD Kl [xl,AFs,AXq] [(3,[0,1,2,3,4,5,6,7,8]),(4,[0,1,2,3,4,5,7,8,9])] ATs (hJ:= .nil) (he:=AeZ AZ)
def Aaq:SQ:=mk Tryz.func122 AA8 sP TM [AFg,ATN,AUY] [] []
abbrev i208:BI:=uI
abbrev AX4:BI:=Cz
def AZc:SQ:=mk Tryz.func208 i208 AX4 Pn [s32,s98] [] [⟨4,⟨[(2,Jq),(17,AJ8),(18,BQ),(19,BQ)],AQ4⟩,K8⟩]
abbrev ARy:BI:=AOz
abbrev AWg:BI:=ABL
def AX_:SQ:=mk Tryz.func209 ARy AWg Qu [s36,jy,s46,s87,AKd] [(5,[0,1,2,4])] []
abbrev AAM:BI:=AET
abbrev AQx:BI:=⟨pN,[.mem [.ref 1,.v tI,.ref 2,.ref 3,.ref 9,.v tI,.ref 5,.ref 10,.ref 7,.ref 8,.v .bool],DM,Xo,DM,F8,Sj,F8,PF,KT,Lm,T9]⟩
def AWN:Qn:=⟨AAM,AQx,(AAM.un Ja)⟩
def Aa4:bF:=⟨T,Qb (SP.l [xl,AZc,AX_]),CM [(3,[0,1,2,3,4,5,6,7,8]),(5,[0,1,2,3,4,5,6,7,8])]⟩
def ATV:List (Lp AQx):=[]
theorem AbC(ADi:Bool->Option fc)(AYl:ABS->ABY->Option Mk)(AYk:ABS->ACc->Int->Int->Option dd)(n:Nat)(ω:List Bool)(v:AAM.V):C9 ⟨T,Qb [(125,⟨AGP,AQK,AGP.un ADi⟩),(208,⟨i208,AX4,i208.un AYl⟩),(209,⟨ARy,AWg,ARy.un AYk⟩)],CM [(3,[0,1,2,3,4,5,6,7,8]),(5,[0,1,2,3,4,5,6,7,8])]⟩ AWN Tryz.f123 (LX 9 ATV n) ω v=AAM.un (fun(AF:Int) (Ab:Int) (AM:Bool) (b1:AAB) (b2:AAQ) (b3:AAB) (b4:AAH) (b5:AAj) (b6:AA6) (b7:ABA) (b8:AAT)=>
 cond (((b6.length:Int)==0))
  (some ((2,()),(((),AF,(),(),(),Ab,(),(),(),(),AM,()),b1,b2,b3,(),b5,(),b7,b8,b4,b6,())))
 (if(0:Int)<=(0:Int)/\(0:Int)<(b6.length:Int)then(
 (AYl (b1,AF,()) ((b6.getD 0 (0,0,[],[],false,[],())).1,(b6.getD 0 (0,0,[],[],false,[],())).2.1,(b6.getD 0 (0,0,[],[],false,[],())).2.2.1,(b6.getD 0 (0,0,[],[],false,[],())).2.2.2.1,(b6.getD 0 (0,0,[],[],false,[],())).2.2.2.2.1,(b6.getD 0 (0,0,[],[],false,[],())).2.2.2.2.2.1,())).bind fun u2=>
 cond (!u2.1.1)
  (some ((5,()),(((),AF,(),(),(),Ab,(),(),(),(),AM,()),b1,b2,b3,(),b5,(),b7,b8,b4,b6,())))
 (if(0:Int)<=(0:Int)/\(0:Int)<(b6.length:Int)then(
 if(0:Int)<=(0:Int)/\(0:Int)<(b6.length:Int)then(
 (AYk (b1,AF,()) (b4,Ab,()) ((b6.getD 0 (0,0,[],[],false,[],())).1) (((b6.getD 0 (0,0,[],[],false,[],())).2.2.2.2.2.1).length:Int)).bind fun u5=>
 cond (u5.1.1.2.1)
  ((ADi u5.1.1.2.1).bind fun u6=>
  some ((u6.1.1,()),(((),AF,(),(),(),u5.1.1.1.2.1,(),(),(),(),AM,()),b1,b2,b3,(),b5,(),b7,b8,u5.2.1,[],())))
 ((ADi u5.1.1.2.1).bind fun u7=>
 some ((u7.1.1,()),(((),AF,(),(),(),Ab,(),(),(),(),AM,()),b1,b2,b3,(),b5,(),b7,b8,b4,b6,()))))else none)else none))else none)) v:=by rcases ω with _|⟨_|_,_⟩<;>kernel_rfl
theorem AcD(n:Nat)(ω:List Bool)(v:AAM.V):C9 Aa4 AWN Tryz.f123 (LX 9 ATV n) ω v=AAM.un (Ja) v:=AbC Kt Pn Qu n ω v
def Adu:SQ:=mk Tryz.func123 AAM AQx Ja [xl,AZc,AX_] [(3,[0,1,2,3,4,5,6,7,8]),(5,[0,1,2,3,4,5,6,7,8])] ATV (hJ:= .nil) (he:=AcD AZ)
def AdN:SQ:=mk Tryz.func124 AOR ABL Xa [jy,s46,s87,s95,AKd] [(1,[0,1,2])] []
def Aco:SQ:=mk Tryz.func274 AA9 F4 RG [] [] [⟨2,⟨[(1,Jq),(6,ALk),(7,BQ),(8,BQ)],[AJ0]⟩,Jw⟩]
abbrev i212:BI:=yP
abbrev AT2:BI:=F4
def AXe:SQ:=mk Tryz.func212 i212 AT2 Sb [Aco] [] [⟨2,⟨[(1,BQ),(8,.c (.sl false Y6)),(9,BQ),(10,BQ)],[]⟩,PJ⟩]
def Ach:SQ:=mk Tryz.func271 ⟨[(0,s_)],[]⟩ eJ Pz [] [] [⟨3,⟨[(3,oY),(7,s_),(8,BQ),(9,BQ)],kP⟩,Na⟩]
def s54:SQ:=mk Tryz.func54 ⟨[(0,BQ),(1,.row Y9)],[]⟩ Cz Xn [s95,ARF] [(2,[0])] []
def AVx:SQ:=mk Tryz.func272 ⟨[(0,Jq),(1,.row Y8)],AN6⟩ AOg FX [] [(1,[2])] [] (he:=fun ω v=>by rcases ω with _|⟨_|_,_⟩<;>kernel_rfl)
def Abc:SQ:=mk Tryz.func303 ⟨[(0,s_),(1,ZN),(2,BQ)],[]⟩ yM Z5 [zK,ANS,AXg] [] [⟨3,⟨[(1,ZN),(2,BQ),(6,Jq),(8,Sl),(9,xP0),(13,s_),(14,BQ),(15,BQ)],[ACP,ACP]⟩,Pg⟩]
def Aap:SQ:=mk Tryz.func273 ⟨[(0,Jq),(1,s_),(2,ZN)],AN6⟩ AOg DG [s31,AVx,Abc] [(0,[0,1])] []
abbrev AEY:BI:=AOn
abbrev AQg:BI:=⟨AYh,[.sl 1 Y8]⟩
def AYC:SQ:=mk Tryz.func211 AEY AQg Kr [s46,s54,s74,s91,s95,s99,ARF,AMp,AZY,Ach,AVx,Aap] [(1,[0,1,2,3]),(8,[0,1,2,3,4,8,9]),(11,[0,1,2,3,4,5,6,7])] []
abbrev AAY:BI:=⟨AZS,AOV⟩
abbrev ASV:BI:=⟨pN,AOV⟩
def AJy:Qn:=⟨AAY,ASV,(AAY.un Np)⟩
def AYY:bF:=⟨T,Qb (SP.l [s31,jy,s60,s93,AIV,AYC,AXe]),CM [(13,[0,1,2,3,4,5,6,7,8,9,10,11]),(16,[0,1,2,3,4,5,6,8,9,10,11])]⟩
def AG9:List (Lp ASV):=[⟨7,⟨[(0,Jq),(1,BQ),(7,gr),(8,BQ),(10,.c (.ref 10)),(43,.c (.ref 11)),(44,BQ),(45,BQ)],[ADw,DM,Xo,DM,Lm,Sj,T9,.sl 1 Y9,KT,.mem [.v tI,.v tI,.sl true Y8],.sl 9 Y14,Et]⟩,DP⟩]
abbrev mS:BI:=⟨[(0,Jq),(1,BQ),(7,gr),(8,BQ),(10,.c (.ref 10)),(43,.c (.ref 11)),(44,BQ),(45,BQ)],[ADw,DM,Xo,DM,Lm,Sj,T9,.sl 1 Y9,KT,.mem [.v tI,.v tI,.sl true Y8],.sl 9 Y14,Et]⟩
theorem AQH(g31:Int->Int->Option Mh)(g43:Int->Int->Int->Option Nz)(g60:ACd->Int->Option NX)(g93:ABl->Int->Option L3)(AA0:Int->Option Hs)(AIW:ABS->ACc->Int->AEA->ADT->Option LH)(AI7:ABl->Int->Option N7)(n:Nat)(v:mS.V)(ω:List Bool):HW ⟨T,Qb [(31,⟨i31,o31,i31.un g31⟩),(43,⟨i43,o43,i43.un g43⟩),(60,⟨i60,o60,i60.un g60⟩),(93,⟨i93,o93,i93.un g93⟩),(188,⟨AAl,AIR,AAl.un AA0⟩),(211,⟨AEY,AQg,AEY.un AIW⟩),(212,⟨i212,AT2,i212.un AI7⟩)],CM [(13,[0,1,2,3,4,5,6,7,8,9,10,11]),(16,[0,1,2,3,4,5,6,8,9,10,11])]⟩ AJy Tryz.f126 (LX 9 AG9 n) 7 ω (mS.st 111 v)=mS.un (fun(t1:Int) (t8:Int) (t44:Int) (t45:Int) (AF:Int) (Ab:Int) (AM:Bool) (b1:AAB) (b2:AAQ) (b3:AAB) (b4:AAH) (b5:AAj) (b6:AA6) (b7:ABA) (b8:AAT) (kG:Int) (Eb:Int) (fT:AEF) (NY:ADT) (Ez:AAB)=>
 cond (decide (t45<t44))
  (if(0:Int)<=t45/\t45<(Ez.length:Int)then(
  let x8:Int:=(Ez.getD (t45.toNat) 0)
  cond ((decide (x8<(b2.length:Int))))
   ((g93 (b1,AF,b2,b3,b4,Ab,b5,b6,b7,b8,AM,()) x8).bind fun EI=>
   cond (!EI.1.1)
    (if(0:Int)<=x8/\x8<(b2.length:Int)then(
    (g60 ((b2.getD (x8.toNat) ([],[],0,())).1,(b2.getD (x8.toNat) ([],[],0,())).2.1,(b2.getD (x8.toNat) ([],[],0,())).2.2.1,()) t8).bind fun Mv=>
    if NY.length+1<=Go.M.C_ then(
    (DP n) t1 t8 t44 (AW (t45+1)) AF Ab AM b1 b2 b3 b4 b5 b6 b7 b8 kG Eb fT (NY++[(x8,Mv.1.1.2.1,Mv.1.1.1.1,Mv.1.1.1.2.1,Mv.1.1.1.2.2.1,Mv.1.1.1.2.2.2.1,())]) Ez)else none)else none)
   ((DP n) t1 t8 t44 (AW (t45+1)) AF Ab AM b1 b2 b3 b4 b5 b6 b7 b8 kG Eb fT NY Ez))
  ((DP n) t1 t8 t44 (AW (t45+1)) AF Ab AM b1 b2 b3 b4 b5 b6 b7 b8 kG Eb fT NY Ez))else none)
 ((AI7 (b1,AF,b2,b3,b4,Ab,b5,b6,b7,b8,AM,()) kG).bind fun M6=>
 (AIW (b1,AF,()) (b4,Ab,()) M6.1.1 (kG,Eb,fT,()) NY).bind fun KV=>
 cond (KV.1.1.2.1 !=0)
  (some ((5,()),(((),AF,(),(),(),Ab,(),(),(),(),AM,()),b1,b2,b3,b4,b5,b6,b7,b8,())))
 (if(0:Int)<=t1/\t1<(b7.length:Int)then(
 some ((0,()),(((),AF,(),(),(),Ab,(),(),(),(),AM,()),b1,b2,b3,b4,b5,b6,(b7.set (t1.toNat) (KV.1.1.1.1,KV.1.1.1.2.1,KV.2.1,())),b8,())))else none))) v:=by rcases ω with _|⟨_|_,_|⟨_|_,_⟩⟩<;>kernel_rfl
theorem ARz(n:Nat)(v:mS.V)(ω:List Bool):HW AYY AJy Tryz.f126 (LX 9 AG9 n) 7 ω (mS.st 111 v)=mS.un (OJ (DP n)) v:=AQH D2 BE Gt DH IE Kr Sb n v ω
theorem AbA(g31:Int->Int->Option Mh)(g43:Int->Int->Int->Option Nz)(g60:ACd->Int->Option NX)(g93:ABl->Int->Option L3)(AA0:Int->Option Hs)(AIW:ABS->ACc->Int->AEA->ADT->Option LH)(AI7:ABl->Int->Option N7)(n:Nat)(ω:List Bool)(v:AAY.V):C9 ⟨T,Qb [(31,⟨i31,o31,i31.un g31⟩),(43,⟨i43,o43,i43.un g43⟩),(60,⟨i60,o60,i60.un g60⟩),(93,⟨i93,o93,i93.un g93⟩),(188,⟨AAl,AIR,AAl.un AA0⟩),(211,⟨AEY,AQg,AEY.un AIW⟩),(212,⟨i212,AT2,i212.un AI7⟩)],CM [(13,[0,1,2,3,4,5,6,7,8,9,10,11]),(16,[0,1,2,3,4,5,6,8,9,10,11])]⟩ AJy Tryz.f126 (LX 9 AG9 n) ω v=AAY.un (fun(p1:Int) (p2:Int) (AF:Int) (Ab:Int) (AM:Bool) (b1:AAB) (b2:AAQ) (b3:AAB) (b4:AAH) (b5:AAj) (b6:AA6) (b7:ABA) (b8:AAT)=>
 (g43 p1 0 (AW ((b7.length:Int)-1))).bind fun u2=>
 cond (!u2.1.1)
  (some ((2,()),(((),AF,(),(),(),Ab,(),(),(),(),AM,()),b1,b2,b3,b4,b5,b6,b7,b8,())))
 (if(0:Int)<=p1/\p1<(b7.length:Int)then(
 (g31 ((b7.getD (p1.toNat) (0,0,[],())).1) ((b7.getD (p1.toNat) (0,0,[],())).2.1)).bind fun u5=>
 (AA0 p2).bind fun u6=>
 (DP n) p1 u5.1.1.1 (u6.2.1.length:Int) 0 AF Ab AM b1 b2 b3 b4 b5 b6 b7 b8 ((b7.getD (p1.toNat) (0,0,[],())).1) ((b7.getD (p1.toNat) (0,0,[],())).2.1) ((b7.getD (p1.toNat) (0,0,[],())).2.2.1) [] u6.2.1)else none)) v:=by kernel_rfl
theorem AeL(n:Nat)(ω:List Bool)(v:AAY.V):C9 AYY AJy Tryz.f126 (LX 9 AG9 n) ω v=AAY.un (OS (DP n)) v:=AbA D2 BE Gt DH IE Kr Sb n ω v
def AcG:SQ:=mk Tryz.func126 AAY ASV Np [s31,jy,s60,s93,AIV,AYC,AXe] [(13,[0,1,2,3,4,5,6,7,8,9,10,11]),(16,[0,1,2,3,4,5,6,8,9,10,11])] AG9 (hJ:= .cons (fun _=>rfl) ARz (.nil)) (he:=AeL AZ)
def AYK:SQ:=mk Tryz.func276 ⟨[(0,.row Y1),(1,.c (.pS (.cons tI .unit)))],[]⟩ Cz QP [] [] []
def Aad:SQ:=mk Tryz.func304 ⟨[(0,ZM),(1,ANH)],[]⟩ F4 Cw [AYK] [] [⟨2,⟨[(0,ZM),(1,ANH),(7,BQ),(8,BQ)],[]⟩,BV⟩]
def Adg:SQ:=mk Tryz.func275 ⟨[(0,oY),(1,ANH)],tu⟩ AOp B5 [AYK,Aad] [] [⟨5,⟨[(0,oY),(1,ANH),(5,BQ),(6,BQ)],tu⟩,BR⟩]
def Ac0:SQ:=mk Tryz.func213 j8 ABF Su [s53,s88,s92,ANB,Adg] [] []
def AeY:SQ:=mk Tryz.func127 uo sP P4 [xl,AEO,Ac0] [(4,[0,1,2,3,4,5,6,7,8]),(5,[0,1,3,4,5,6,7,8])] [] (he:=fun ω v=>by rcases ω with _|⟨_|_,_⟩<;>kernel_rfl)
def Ace:SQ:=Ab7 (ρ:=Jt 0 128 0 0 31 63) (nm:= "slices.Delete[[]loop.example/g00178/impl.Writer,loop.example/g00178/impl.Writer]") tOk (og.del ⟨by kernel_rfl,by kernel_rfl,by kernel_rfl,by kernel_rfl,by kernel_rfl,by kernel_rfl,by kernel_rfl,by kernel_rfl,by kernel_rfl,by kernel_rfl,by kernel_rfl,by kernel_rfl⟩ mx (by kernel_rfl) (by kernel_rfl)) (r:=Y6) 2 rfl (by kernel_rfl) (by kernel_rfl) FT (fun _=>rfl)
def s57:SQ:=mk Tryz.func57 AOZ ⟨pN,[.mem [.ref 1,.v tI,.ref 2,.ref 9,.ref 10,.v tI,.ref 11,.ref 12,.ref 7,.ref 13,.v .bool],DM,Un,F8,F8,F8,F8,.sl 1 Y9,F8,DM,Lm,Sj,.sl 2 Y7,KT]⟩ VH [jy,Ac5,Acx,Aas,Abb,AdX,Aaw,Ads,Abm,Ac1,Aan,Aaq,Adu,AdN,xl,AcG,AeY,Ace] [(27,[0,1,2,3,4,5,6,7,8,9]),(34,[0,1,2,3,4,5,6,7,8,9]),(36,[1,2,3,4,6,7,8,9])] [] (he:=fun ω v=>by rcases ω with _|⟨_|_,_⟩<;>kernel_rfl)
def s21:SQ:=mk Tryz.func21 AOO ⟨APQ,AG6⟩ QG [s16,s40,s56,s57] [] []
abbrev i78:BI:=⟨[(0,AKD),(1,AKI)],AG6⟩
abbrev o78:BI:=⟨[(0,.NW [.inr [.ref 8,.v tI,.ref 9,.ref 10,.ref 11,.v tI,.ref 12,.ref 13,.ref 14,.ref 15,.v .bool],.inl (.v .bool)])],[F8,F8,F8,F8,F8,F8,F8,F8,DM,Un,DM,Lm,Sj,.sl 2 Y7,.sl 1 Y9,KT]⟩
def s78:SQ:=mk Tryz.func78 i78 o78 RW [s21] [] [⟨2,AZb,Ln⟩]
abbrev i65:BI:=lJ
abbrev o65:BI:=AGO
def s65:SQ:=mk Tryz.func65 i65 o65 Kk [s16,s40] [] []
abbrev i66:BI:=yP
abbrev o66:BI:=AB4
def s66:SQ:=mk Tryz.func66 i66 o66 Nq [AFs,AFO] [] [⟨3,⟨[(5,oY),(13,ZN),(14,BQ),(15,BQ)],t_⟩,Hv⟩]
abbrev i79:BI:=⟨[(0,BQ),(1,ZN)],[]⟩
abbrev o79:BI:=⟨ACy,[.sl 9 Y12]⟩
def s79:SQ:=mk Tryz.func79 i79 o79 Xz [] [] [⟨3,⟨[(0,BQ),(1,ZN),(5,oY),(6,BQ)],[.sl 9 Y12]⟩,Ep⟩,⟨6,⟨[(0,BQ),(1,ZN),(5,oY),(6,BQ),(15,ZN),(16,BQ),(17,BQ)],[.sl 9 Y12]⟩,G6⟩]
abbrev i34:BI:=lJ
abbrev o34:BI:=⟨AZT,AG6⟩
def c34:Qn:=⟨i34,o34,(i34.un Nr)⟩
def C34:bF:=⟨T,Qb (SP.l [s16,s40,s65,s66,s78,s79]),CM [(6,[0,1,10]),(13,[0,1,2,3,4,5,6,7,8,9,19]),(16,[0,1,2,3,4,5,6,7,8,9,19,21,22,23,24,25,26,27,28,29,30])]⟩
def L34:List (Lp o34):=[⟨9,⟨[(1,Jq),(2,Sl),(4,Yd),(6,.c (.ref 19)),(7,.c (.ref 20)),(40,.c (.ref 19)),(41,BQ),(42,BQ)],[ACT,AAm,Et,YK,Et,Pu,YI,Ym,Yq,XY,ACS,DM,Un,DM,Lm,Sj,.sl 2 Y7,.sl 1 Y9,KT,DM,.sl 9 Y12]⟩,C4⟩]
abbrev uT:BI:=⟨[(1,Jq),(2,Sl),(4,Yd),(6,.c (.ref 19)),(7,.c (.ref 20)),(40,.c (.ref 19)),(41,BQ),(42,BQ)],[ACT,AAm,Et,YK,Et,Pu,YI,Ym,Yq,XY,ACS,DM,Un,DM,Lm,Sj,.sl 2 Y7,.sl 1 Y9,KT,DM,.sl 9 Y12]⟩
def DS(ω:List Bool):Prop:= ∀(n:Nat) (v:uT.V),HW C34 c34 Tryz.f34 (LX 0 L34 n) 9 ω (uT.st 83 v)=uT.un (Ek (C4 n)) v
theorem AMC:DS []:=by delta DS;intros;kernel_rfl
theorem ANX:DS (false::[]):=by delta DS;intros;kernel_rfl
theorem AJG:DS (false::false::[]):=by delta DS;intros;kernel_rfl
theorem AMf:DS (false::false::false::[]):=by delta DS;intros;kernel_rfl
theorem AMx:DS (false::false::false::false::[]):=by delta DS;intros;kernel_rfl
theorem AJr(ω:List Bool):DS (false::false::false::false::false::ω):=by delta DS;intros;kernel_rfl
theorem AIB(ω:List Bool):DS (false::false::false::false::true::ω):=by delta DS;intros;kernel_rfl
theorem AIc(ω:List Bool):DS (false::false::false::true::ω):=by delta DS;intros;kernel_rfl
theorem AMn(ω:List Bool):DS (false::false::true::ω):=by delta DS;intros;kernel_rfl
theorem AF7:DS (false::true::[]):=by delta DS;intros;kernel_rfl
theorem AEz:DS (false::true::false::[]):=by delta DS;intros;kernel_rfl
theorem AHP:DS (false::true::false::false::[]):=by delta DS;intros;kernel_rfl
theorem AFl(ω:List Bool):DS (false::true::false::false::false::ω):=by delta DS;intros;kernel_rfl
theorem AHJ(ω:List Bool):DS (false::true::false::false::true::ω):=by delta DS;intros;kernel_rfl
theorem AFU(ω:List Bool):DS (false::true::false::true::ω):=by delta DS;intros;kernel_rfl
theorem AFL(ω:List Bool):DS (false::true::true::ω):=by delta DS;intros;kernel_rfl
theorem AFC:DS (true::[]):=by delta DS;intros;kernel_rfl
theorem AGz:DS (true::false::[]):=by delta DS;intros;kernel_rfl
theorem AGj:DS (true::false::false::[]):=by delta DS;intros;kernel_rfl
theorem AEi(ω:List Bool):DS (true::false::false::false::ω):=by delta DS;intros;kernel_rfl
theorem AFQ(ω:List Bool):DS (true::false::false::true::ω):=by delta DS;intros;kernel_rfl
theorem AES(ω:List Bool):DS (true::false::true::ω):=by delta DS;intros;kernel_rfl
theorem AEg(ω:List Bool):DS (true::true::ω):=by delta DS;intros;kernel_rfl
theorem AXB(n:Nat)(v:uT.V)(ω:List Bool):HW C34 c34 Tryz.f34 (LX 0 L34 n) 9 ω (uT.st 83 v)=uT.un (Ek (C4 n)) v:=(AE AMC (AE ANX (AE AJG (AE AMf (AE AMx AJr AIB) AIc) AMn) (AE AF7 (AE AEz (AE AHP AFl AHJ) AFU) AFL)) (AE AFC (AE AGz (AE AGj AEi AFQ) AES) AEg)) ω n v
theorem e34(n:Nat)(ω:List Bool)(v:i34.V):C9 C34 c34 Tryz.f34 (LX 0 L34 n) ω v=i34.un (OL (C4 n)) v:=by kernel_rfl
def s34:SQ:=mk Tryz.func34 i34 o34 Nr [s16,s40,s65,s66,s78,s79] [(6,[0,1,10]),(13,[0,1,2,3,4,5,6,7,8,9,19]),(16,[0,1,2,3,4,5,6,7,8,9,19,21,22,23,24,25,26,27,28,29,30])] L34 (hJ:= .cons (fun _=>rfl) AXB (.nil)) (he:=e34 AZ)
def s68:SQ:=mk Tryz.func68 ⟨[(0,.row Y11),(1,ZN)],[]⟩ eJ Qr [ACz] [] []
def s80:SQ:=mk Tryz.func80 ⟨[(0,AX5),(1,AKI)],[]⟩ ANo N6 [s22] [(4,[0,1,2,3,4,5,6,7,8,9])] [⟨2,⟨[(1,AKI),(2,Jq),(4,Sl),(6,BQ)],[ASm,AAm,Et,YK,Et,Pu,YI,Ym,Yq,XY]⟩,Jh⟩] (hJ:= .cons (fun _=>rfl) (fun n v ω=>by rcases ω with _|⟨_|_,_⟩<;>kernel_rfl) (.nil))
def s35:SQ:=mk Tryz.func35 ANz ANo RU [s22,s51,s52,s68,s69,s80] [(9,[0,1,2]),(24,[0,1,2,3,4,5,6,7,8,9,10,11])] [⟨12,⟨[(1,Jq),(2,Sl),(4,Yd),(7,.c (.ref 11)),(8,.c (.ref 12)),(9,BQ)],AFX⟩,HJ⟩,⟨19,⟨[(1,Jq),(2,Sl),(4,Yd),(7,.c (.ref 11)),(8,.c (.ref 12)),(10,xP0),(11,BQ)],AFX⟩,HH⟩,⟨22,⟨[(1,Jq),(2,Sl),(4,Yd),(7,.c (.ref 11)),(8,.c (.ref 12)),(10,xP0),(11,BQ),(12,BQ)],AFX⟩,HK⟩]
abbrev i8:BI:=AGJ
abbrev o8:BI:=Cz
def s8:SQ:=mk Tryz.func8 i8 o8 K7 [s9,s16,s33,s34,s35,s36] [] []
end
end Go.Proofs.YtebiojjohcpanaaGreat.Wk
