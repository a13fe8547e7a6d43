/- Each function computes what was printed: by the kernel. -/
import Derived.Test.YtebiojjohcpanaaGreatE0
import Derived.Test.YtebiojjohcpanaaGreatProg
import Derived.KernelRfl
set_option linter.unusedVariables false
set_option linter.unusedSimpArgs false
set_option linter.unusedSectionVars false
namespace Go.Proofs.YtebiojjohcpanaaGreat.Wk
open Go Go.Fw Go.M Go.Proofs
noncomputable section
def s47:SQ:=mk Tryz.func47 xZ Cf Kw [s96,s97] [(4,[0])] [⟨2,⟨[(0,xc),(8,.c (.sl false Y6)),(9,BH),(10,BH)],[]⟩,Ek⟩]
def AR2:SQ:=mk Tryz.func110 Fo Fo UW [s53] [] []
def AVY:SQ:=mk Tryz.func177 wM Fo SN [AR2] [] []
def Aa3:SQ:=mk Tryz.func178 wM Cf VC [s95,AV9,AId] [(4,[0,1])] [⟨2,⟨[(1,J2),(6,Yo),(7,BH),(8,BH)],[yf]⟩,MF⟩]
def s98:SQ:=mk Tryz.func98 tK Cf H6 [jJ,s44,s72,s74,AVY,Aa3] [] [⟨2,⟨[(2,J2),(3,To),(10,ALB),(11,BH),(12,BH)],AGc⟩,MB⟩]
def s36:SQ:=mk Tryz.func36 ABA Fo L7 [] [] [⟨2,⟨[(6,.c (.sl false Y3)),(7,BH),(8,BH)],[]⟩,IL⟩]
def s48:SQ:=mk Tryz.func48 xZ Cf Mk [s36,s98] [(4,[0])] [⟨2,⟨[(0,xc),(8,.c (.sl false Y7)),(9,BH),(10,BH)],[]⟩,Fl⟩]
def s99:SQ:=mk Tryz.func99 ABJ Cf U6 [jJ] [] []
def s49:SQ:=mk Tryz.func49 xZ Cf Kb [s99] [] [⟨2,⟨[(0,xc),(8,.c (.sl false Y9)),(9,BH),(10,BH)],[]⟩,El⟩]
def s50:SQ:=mk Tryz.func50 xZ Cf OH [s95,s97,AI5] [(4,[0])] [⟨2,⟨[(0,xc),(8,AK6),(9,BH),(10,BH)],[]⟩,GQ⟩]
def s16:SQ:=mk Tryz.func16 nR Cf ND [s44,s45,s46,s47,s48,s49,s50] [] []
def Aae:SQ:=mk Tryz.func111 Fo ⟨[(0,ze)],[]⟩ cX [] [] []
def s56:SQ:=mk Tryz.func56 AFV Cf ZE [jJ,AI5,Aae] [] [⟨4,⟨[(1,J2),(3,To),(11,.c (.ref 2)),(12,BH),(13,BH)],[AE2,AE2,.sl 9 tU]⟩,Dx⟩]
def s85:SQ:=mk Tryz.func85 ABW ⟨[(0,.agg [.ref 0,.v tI])],gi⟩ Qw [s86] [(1,[0])] []
abbrev i87:BE:=ABA
abbrev o87:BE:=AF6
def s87:SQ:=mk Tryz.func87 i87 o87 Ef [s86] [] [⟨3,⟨[(2,J2),(3,xP9),(10,.c (.sl false Y3)),(11,BH),(12,BH)],[.mem [.ref 1,.v tI],Qg,.mem [.ref 3,.v tI],Qg]⟩,Hw⟩]
def AX9:SQ:=mk Tryz.func172 AAk wi JO [] [] []
def s88:SQ:=mk Tryz.func88 nq AEG C_ [AX9] [(1,[0])] []
abbrev i89:BE:=ABC
abbrev o89:BE:=AEW
def s89:SQ:=mk Tryz.func89 i89 o89 F4 [s86] [] [⟨3,⟨[(2,J2),(3,xP9),(10,AKR),(11,BH),(12,BH)],ANp⟩,JZ⟩]
def s90:SQ:=mk Tryz.func90 wM xG Gi [s86,AX9] [(2,[0,1]),(6,[0,1,2,3,5,6])] [⟨4,⟨[(2,J2),(3,oX),(17,ALB),(18,BH),(19,BH)],AMe⟩,L5⟩] (hJ:= .cons (fun _=>rfl) (fun n v ω=>by rcases ω with _|⟨_|_,_|⟨_|_,_⟩⟩<;>kernel_rfl) (.nil))
def s91:SQ:=mk Tryz.func91 ABJ ABI NS [] [] []
def s40:SQ:=mk Tryz.func40 nR AEE H8 [s85,s86,s87,s88,s89,s90,s91] [(1,[0,1]),(5,[0,1,2,3,4,5,6,7,8,9,11,13,14,15,16,17,18,19]),(10,[0,1,2,3,4,5,6,7,8,9,11,12,13,14,16,17,18,19]),(15,[0,1,2,3,4,5,6,7,8,9,11,12,13,14,15,17,18,19]),(20,[0,1,2,3,4,5,6,7,8,9,11,12,13,14,15,16,18,19])] [⟨3,⟨[(1,J2),(2,To),(3,aL),(25,ub),(26,BH),(27,BH)],dH⟩,Fb⟩,⟨8,⟨[(1,J2),(2,To),(3,aL),(40,.c (.sl false Y6)),(41,BH),(42,BH)],dH⟩,Fg⟩,⟨13,⟨[(1,J2),(2,To),(3,aL),(55,.c (.sl false Y7)),(56,BH),(57,BH)],dH⟩,E8⟩,⟨18,⟨[(1,J2),(2,To),(3,aL),(70,.c (.sl false Y9)),(71,BH),(72,BH)],dH⟩,Ep⟩] (hJ:= .cons (fun _=>rfl) (fun n v ω=>by rcases ω with _|⟨_|_,_|⟨_|_,_⟩⟩<;>kernel_rfl) (.cons (fun _=>rfl) (fun n v ω=>by rcases ω with _|⟨_|_,_|⟨_|_,_⟩⟩<;>kernel_rfl) (.cons (fun _=>rfl) (fun n v ω=>by rcases ω with _|⟨_|_,_|⟨_|_,_⟩⟩<;>kernel_rfl) (.cons (fun _=>rfl) (fun n v ω=>by rcases ω with _|⟨_|_,_|⟨_|_,_⟩⟩<;>kernel_rfl) (.nil))))) (he:=fun ω v=>by rcases ω with _|⟨_|_,_|⟨_|_,_|⟨_|_,_⟩⟩⟩<;>kernel_rfl)
abbrev zu:BE:=Fo
abbrev AMS:BE:=bX
def AIP:SQ:=mk Tryz.func188 zu AMS IB [jJ] [] [⟨5,⟨[(0,BH),(3,ot),(10,BH)],gi⟩,Kp⟩]
abbrev i210:BE:=AEo
abbrev AWl:BE:=AF6
def AIw:SQ:=mk Tryz.func210 i210 AWl EP [s46,s87] [] []
abbrev ux:BE:=AM8
abbrev AJf:BE:=ANQ
def AXo:Qf:=⟨ux,AJf,(ux.un NA)⟩
def Abd:aZ:=⟨T,QN (SP.l [s32,s46,s86,s87,AIw]),B_ [(4,[0,1,2])]⟩
def AOm:List (Lp AJf):=[]
theorem AcS(g32:ABU→List Int→Option j9)(g46:ABU→ACa→Option Sp)(g86:List Int→Option dX)(g87:ACa→Option Ii)(AIA:ABU→ACa→Option cz)(n:Nat)(ω:List Bool)(v:ux.V):Cy ⟨T,QN [(32,⟨i32,o32,i32.un g32⟩),(46,⟨i46,o46,i46.un g46⟩),(86,⟨i86,o86,i86.un g86⟩),(87,⟨i87,o87,i87.un g87⟩),(210,⟨i210,AWl,i210.un AIA⟩)],B_ [(4,[0,1,2])]⟩ AXo Tryz.f187 (LU 0 AOm n) ω v=ux.un (fun(p0:ABU) (p1:ACa) (p2:AAG)=>
 (g46 (p0.1,p0.2.1,()) (p1.1,p1.2.1,())).bind fun u1=>
 cond (!u1.1.1)
  ((AIA (p0.1,p0.2.1,()) (p1.1,p1.2.1,())).bind fun u2=>
  some (((((),u2.1.1.2.1,()),0,false,()),()),(u2.2.1,())))
 ((g32 (p0.1,p0.2.1,()) p2).bind fun u3=>
 cond (!u3.1.1)
  ((AIA (p0.1,p0.2.1,()) (p1.1,p1.2.1,())).bind fun u4=>
  some (((((),u4.1.1.2.1,()),0,false,()),()),(u4.2.1,())))
 (cond (((p1.1.length:Int)==30))
  ((AIA (p0.1,p0.2.1,()) (p1.1,p1.2.1,())).bind fun u6=>
  some (((((),u6.1.1.2.1,()),0,false,()),()),(u6.2.1,())))
 ((g87 (p1.1,p1.2.1,())).bind fun u7=>
 (g86 p2).bind fun u8=>
 if u7.2.1.length+1≤Go.M.DE then(
 let x9:AAX:=u7.2.1++[(u8.2.1,false,0,())]
 some (((((),u7.1.1.2.1,()),(x9.length:Int),true,()),()),(x9,())))else none)))) v:=by rcases ω with _|⟨_|_,_|⟨_|_,_|⟨_|_,_|⟨_|_,_⟩⟩⟩⟩<;>kernel_rfl
theorem Abh(n:Nat)(ω:List Bool)(v:ux.V):Cy Abd AXo Tryz.f187 (LU 0 AOm n) ω v=ux.un (NA) v:=AcS GF K7 DF Ef EP n ω v
def AU7:SQ:=mk Tryz.func187 ux AJf NA [s32,s46,s86,s87,AIw] [(4,[0,1,2])] AOm (hJ:= .nil) (he:=Abh Ac)
abbrev yk:BE:=tM
abbrev ATC:BE:=⟨ou,[.mem [.ref 1,.v tI,.ref 2,.ref 3,.ref 9,.v tI,.ref 10,.ref 11,.ref 7,.ref 8,.v .bool],C0,W6,C0,Iv,Iv,Iv,M4,JP,LL,Tm,Tn]⟩
def AVJ:Qf:=⟨yk,ATC,(yk.un KD)⟩
def Ab1:aZ:=⟨T,QN (SP.l [AU7,AIP]),B_ [(3,[0,1,2,3,4,5,6,7,8])]⟩
def APY:List (Lp ATC):=[]
theorem AZG(AXw:ABU→ACa→List Int→Option dz)(zG:Int→Option Hf)(n:Nat)(ω:List Bool)(v:yk.V):Cy ⟨T,QN [(187,⟨ux,AJf,ux.un AXw⟩),(188,⟨zu,AMS,zu.un zG⟩)],B_ [(3,[0,1,2,3,4,5,6,7,8])]⟩ AVJ Tryz.f112 (LU 9 APY n) ω v=yk.un (fun(p1:Int) (AE:Int) (AZ:Int) (AN:Bool) (b1:AAG) (b2:AAa) (b3:AAG) (b4:AAX) (b5:AAt) (b6:AA9) (b7:ABQ) (b8:AAl)=>
 cond (((b5.length:Int)==4))
  (some ((4,()),(((),AE,(),(),(),AZ,(),(),(),(),AN,()),b1,b2,b3,(),(),(),b7,b8,b4,b5,b6,())))
 ((zG p1).bind fun u2=>
 (AXw (b1,AE,()) (b4,AZ,()) u2.2.1).bind fun u3=>
 cond (!u3.1.1.2.2.1)
  (some ((4,()),(((),AE,(),(),(),AZ,(),(),(),(),AN,()),b1,b2,b3,(),(),(),b7,b8,b4,b5,b6,())))
 (if b5.length+1≤Go.M.DE then(
 some ((0,()),(((),AE,(),(),(),u3.1.1.1.2.1,(),(),(),(),AN,()),b1,b2,b3,(),(),(),b7,b8,u3.2.1,(b5++[(u3.1.1.2.1,[],())]),[],())))else none))) v:=by rcases ω with _|⟨_|_,_|⟨_|_,_⟩⟩<;>kernel_rfl
theorem Acn(n:Nat)(ω:List Bool)(v:yk.V):Cy Ab1 AVJ Tryz.f112 (LU 9 APY n) ω v=yk.un (KD) v:=AZG NA IB n ω v
def Aaf:SQ:=mk Tryz.func112 yk ATC KD [AU7,AIP] [(3,[0,1,2,3,4,5,6,7,8])] APY (hJ:= .nil) (he:=Acn Ac)
abbrev APF:BE:=AFH
abbrev AWU:BE:=AEW
def ARy:SQ:=mk Tryz.func257 APF AWU EU [s89,s96] [] []
abbrev vV:BE:=ANm
abbrev ALs:BE:=ANe
def AXg:Qf:=⟨vV,ALs,(vV.un Jb)⟩
def AcT:aZ:=⟨T,QN (SP.l [s89,s96,ARy]),B_ []⟩
def APW:List (Lp ALs):=[]
theorem AZ5(g89:ACt→Option Ko)(g96:ABU→ACt→Option NX)(AQK:ABU→ACt→Option Ye)(n:Nat)(ω:List Bool)(v:vV.V):Cy ⟨T,QN [(89,⟨i89,o89,i89.un g89⟩),(96,⟨i96,o96,i96.un g96⟩),(257,⟨APF,AWU,APF.un AQK⟩)],B_ []⟩ AXg Tryz.f189 (LU 0 APW n) ω v=vV.un (fun(p0:ABU) (p1:ACt) (p2:ABp)=>
 (g89 (p1.1,p1.2.1,())).bind fun u1=>
 if u1.2.1.length+1≤Go.M.DE then(
 let x2:AB4:=u1.2.1++[(p2,[],false,())]
 (g96 (p0.1,p0.2.1,()) (p1.1,p1.2.1,())).bind fun u3=>
 cond (!u3.1.1)
  ((AQK (p0.1,p0.2.1,()) (p1.1,p1.2.1,())).bind fun u4=>
  some ((((u4.1.1.1,(),()),0,false,()),()),(u4.2.1,())))
 ((g96 (p0.1,p0.2.1,()) (u1.1.1.1,x2,())).bind fun u5=>
 cond (!u5.1.1)
  ((AQK (p0.1,p0.2.1,()) (p1.1,p1.2.1,())).bind fun u6=>
  some ((((u6.1.1.1,(),()),0,false,()),()),(u6.2.1,())))
 (some ((((u1.1.1.1,(),()),(x2.length:Int),true,()),()),(x2,())))))else none) v:=by rcases ω with _|⟨_|_,_|⟨_|_,_⟩⟩<;>kernel_rfl
theorem Aba(n:Nat)(ω:List Bool)(v:vV.V):Cy AcT AXg Tryz.f189 (LU 0 APW n) ω v=vV.un (Jb) v:=AZ5 F4 Gh EU n ω v
def AXN:SQ:=mk Tryz.func189 vV ALs Jb [s89,s96,ARy] [] APW (hJ:= .nil) (he:=Aba Ac)
abbrev i31:BE:=mw
abbrev o31:BE:=rN
def s31:SQ:=mk Tryz.func31 i31 o31 DA [s72,s73] [] []
def Ab8:SQ:=mk Tryz.func159 ⟨[(0,.row Y10),(1,BH)],[]⟩ Fo Lk [] [] []
def AZX:SQ:=mk Tryz.func158 ⟨[(0,AK6),(1,BH),(2,.c (.fn 159 []))],[]⟩ rN BO [Ab8] [] [⟨3,⟨[(0,AK6),(1,BH),(2,.c (.fn 159 [])),(8,BH),(9,BH),(10,BH)],[]⟩,As⟩]
abbrev i67:BE:=ABN
abbrev o67:BE:=rN
def s67:SQ:=mk Tryz.func67 i67 o67 Ed [AZX] [] []
abbrev AWY:BE:=⟨[(0,ot),(1,BH),(2,AK6)],[JP]⟩
abbrev Abw:BE:=⟨AHi,[Iv,JP]⟩
def AVA:SQ:=AO3 (ρ:=Jo 190 0 258 259 34 45) (nm:= "slices.Insert[[]loop.example/g00178/impl.Sent,loop.example/g00178/impl.Sent]") (fv:=Tryz.f258) tOk (nN.ins ⟨by kernel_rfl,by kernel_rfl,by kernel_rfl,by kernel_rfl,by kernel_rfl,by kernel_rfl,by kernel_rfl,by kernel_rfl,by kernel_rfl,by kernel_rfl,by kernel_rfl,by kernel_rfl⟩ mx (by kernel_rfl) (by kernel_rfl) (by kernel_rfl) (by kernel_rfl) (by kernel_rfl) (by kernel_rfl) (by kernel_rfl)) (r:=Y10) rfl (by kernel_rfl) (by kernel_rfl) EO (fun _=>rfl)
abbrev zF:BE:=⟨[(0,J2),(1,BH),(2,ze)],gd⟩
abbrev AOq:BE:=⟨ou,[.mem [.ref 1,.v tI,.ref 2,.ref 3,.ref 4,.v tI,.ref 5,.ref 6,.ref 7,.ref 9,.v .bool],C0,W6,C0,LL,Tm,Tn,M4,Iv,JP]⟩
def AX5:Qf:=⟨zF,AOq,(zF.un L3)⟩
def AbI:aZ:=⟨T,QN (SP.l [s31,jJ,s67,AXN,AVA]),B_ [(3,[0,1,2,3,4,5,6,7,8]),(8,[0,1,2,3,4,6,7,8])]⟩
def APq:List (Lp AOq):=[]
theorem AcO(g31:Int→Int→Option Mc)(g43:Int→Int→Int→Option Nj)(g67:ABf→Int→Option Wh)(AVd:ABU→ACt→List UInt8→Option bP)(AVy:Int→AAl→AAl→Option I9)(n:Nat)(ω:List Bool)(v:zF.V):Cy ⟨T,QN [(31,⟨i31,o31,i31.un g31⟩),(43,⟨i43,o43,i43.un g43⟩),(67,⟨i67,o67,i67.un g67⟩),(189,⟨vV,ALs,vV.un AVd⟩),(190,⟨AWY,Abw,AWY.un AVy⟩)],B_ [(3,[0,1,2,3,4,5,6,7,8]),(8,[0,1,2,3,4,6,7,8])]⟩ AX5 Tryz.f113 (LU 9 APq n) ω v=zF.un (fun(p1:Int) (p2:ABp) (AE:Int) (AZ:Int) (AN:Bool) (b1:AAG) (b2:AAa) (b3:AAG) (b4:AAX) (b5:AAt) (b6:AA9) (b7:ABQ) (b8:AAl)=>
 (g43 p1 0 (AS ((b5.length:Int)-1))).bind fun u2=>
 cond (!u2.1.1)
  (some ((2,()),(((),AE,(),(),(),AZ,(),(),(),(),AN,()),b1,b2,b3,b4,b5,b6,b7,(),b8,())))
 (if(0:Int)≤p1∧p1<(b5.length:Int)then(
 (AVd (b1,AE,()) ((b5.getD (p1.toNat) (0,[],())).1,(b5.getD (p1.toNat) (0,[],())).2.1,()) p2).bind fun u3=>
 (g31 u3.1.1.1.1 u3.1.1.2.1).bind fun u4=>
 (g67 (b1,AE,b2,b3,b4,AZ,b5,b6,b7,b8,AN,()) u4.1.1.1).bind fun u5=>
 cond (!u3.1.1.2.2.1)
  (some ((4,()),(((),AE,(),(),(),AZ,(),(),(),(),AN,()),b1,b2,b3,b4,b5,b6,b7,(),b8,())))
 (cond (((b8.length:Int)==120))
  (some ((4,()),(((),AE,(),(),(),AZ,(),(),(),(),AN,()),b1,b2,b3,b4,b5,b6,b7,(),b8,())))
 (cond (u5.1.1.2.1)
  (some ((4,()),(((),AE,(),(),(),AZ,(),(),(),(),AN,()),b1,b2,b3,b4,b5,b6,b7,(),b8,())))
 (if(0:Int)≤p1∧p1<(b5.length:Int)then(
 (AVy u5.1.1.1 [(u4.1.1.1,p2,false,())] b8).bind fun u8=>
 some ((0,()),(((),AE,(),(),(),AZ,(),(),(),(),AN,()),b1,b2,b3,b4,(b5.set (p1.toNat) (u3.1.1.1.1,u3.2.1,())),b6,b7,(),u8.2.2.1,())))else none))))else none)) v:=by rcases ω with _|⟨_|_,_⟩<;>kernel_rfl
theorem AaC(n:Nat)(ω:List Bool)(v:zF.V):Cy AbI AX5 Tryz.f113 (LU 9 APq n) ω v=zF.un (L3) v:=AcO DA A7 Ed Jb EO n ω v
def AZk:SQ:=mk Tryz.func113 zF AOq L3 [s31,jJ,s67,AXN,AVA] [(3,[0,1,2,3,4,5,6,7,8]),(8,[0,1,2,3,4,6,7,8])] APq (hJ:= .nil) (he:=AaC Ac)
def AEL:SQ:=mk Tryz.func193 ABN Fo EZ [jJ,s93] [] []
abbrev ATL:BE:=ANf
abbrev AXO:BE:=bX
def AFu:SQ:=mk Tryz.func156 ATL AXO Hl [jJ,s86] [] []
abbrev zN:BE:=⟨[(0,xc),(1,BH),(2,BH)],[]⟩
abbrev ALQ:BE:=Fo
def ADp:SQ:=mk Tryz.func191 zN ALQ Dm [AFu,zQ,AEL] [] []
def AL6:SQ:=mk Tryz.func263 nq AEG Ds [s88,s92] [] []
def Ach:SQ:=mk Tryz.func260 AEr tY Uw [s88,s92,s95,AId,AL6] [(3,[0,1,2])] []
abbrev AEJ:BE:=Cf
abbrev ARu:BE:=Fo
def xA:SQ:=mk Tryz.func125 AEJ ARu KK [] [] []
abbrev APU:BE:=⟨[(0,J2),(1,BH),(2,.row Y1)],gd⟩
abbrev AVx:BE:=qX
def ATo:SQ:=mk Tryz.func192 APU AVx MD [xA,Ach] [(1,[0,1,2,3,4,5,6,7,8,9]),(3,[0,1,3,4,5,6,7,8,9])] [] (he:=fun ω v=>by rcases ω with _|⟨_|_,_⟩<;>kernel_rfl)
abbrev yp:BE:=AMV
abbrev ARc:BE:=qX
def AXl:Qf:=⟨yp,ARc,(yp.un JI)⟩
def AZt:aZ:=⟨T,QN (SP.l [s31,jJ,ADp,ATo]),B_ [(1,[0,1,2,3,4,5,6,7,8,9]),(3,[0,1,2,3,4,5,6,7,8,9]),(10,[9,10])]⟩
def AQw:List (Lp ARc):=[]
theorem AZ2(g31:Int→Int→Option Mc)(g43:Int→Int→Int→Option Nj)(ve:ABf→Int→Int→Option IF)(AVH:Int→ADZ→Int→Int→Bool→List Int→AAa→List Int→AAX→AAt→AA9→ABQ→AAl→Option bT)(n:Nat)(ω:List Bool)(v:yp.V):Cy ⟨T,QN [(31,⟨i31,o31,i31.un g31⟩),(43,⟨i43,o43,i43.un g43⟩),(191,⟨zN,ALQ,zN.un ve⟩),(192,⟨APU,AVx,APU.un AVH⟩)],B_ [(1,[0,1,2,3,4,5,6,7,8,9]),(3,[0,1,2,3,4,5,6,7,8,9]),(10,[9,10])]⟩ AXl Tryz.f114 (LU 9 AQw n) ω v=yp.un (fun(p1:ADW) (AE:Int) (AZ:Int) (AN:Bool) (b1:AAG) (b2:AAa) (b3:AAG) (b4:AAX) (b5:AAt) (b6:AA9) (b7:ABQ) (b8:AAl)=>
 (g43 p1.2.1 0 (AS ((b5.length:Int)-1))).bind fun u2=>
 cond (!u2.1.1)
  (some ((2,()),(((),AE,(),(),(),AZ,(),(),(),(),AN,()),b1,b2,b3,b4,b5,b6,b7,b8,())))
 (if(0:Int)≤p1.2.1∧p1.2.1<(b5.length:Int)then(
 (g43 p1.2.2.1 1 (((b5.getD (p1.2.1.toNat) (0,[],())).2.1).length:Int)).bind fun u4=>
 cond (!u4.1.1)
  (some ((2,()),(((),AE,(),(),(),AZ,(),(),(),(),AN,()),b1,b2,b3,b4,b5,b6,b7,b8,())))
 ((ve (b1,AE,b2,b3,b4,AZ,b5,b6,b7,b8,AN,()) p1.2.2.2.1 ((b5.getD (p1.2.1.toNat) (0,[],())).1)).bind fun u6=>
 cond (u6.1.1 !=0)
  (some ((u6.1.1,()),(((),AE,(),(),(),AZ,(),(),(),(),AN,()),b1,b2,b3,b4,b5,b6,b7,b8,())))
 ((g31 ((b5.getD (p1.2.1.toNat) (0,[],())).1) p1.2.2.1).bind fun u8=>
 if(0:Int)≤AS (p1.2.2.1-1)∧AS (p1.2.2.1-1)<(((b5.getD (p1.2.1.toNat) (0,[],())).2.1).length:Int)then(
 (AVH p1.2.2.2.1 (u8.1.1.1,0,false,((((b5.getD (p1.2.1.toNat) (0,[],())).2.1).getD ((AS (p1.2.2.1-1)).toNat) ([],[],false,())).1),()) AE AZ AN b1 b2 b3 b4 b5 b6 b7 b8).bind fun D9=>
 some ((D9.1.1,()),(((),D9.2.1.2.1,(),(),(),D9.2.1.2.2.2.2.2.1,(),(),(),(),D9.2.1.2.2.2.2.2.2.2.2.2.2.1,()),D9.2.2.1,D9.2.2.2.1,D9.2.2.2.2.1,D9.2.2.2.2.2.1,D9.2.2.2.2.2.2.1,D9.2.2.2.2.2.2.2.1,D9.2.2.2.2.2.2.2.2.1,D9.2.2.2.2.2.2.2.2.2.1,())))else none)))else none)) v:=by kernel_rfl
theorem Ac4(n:Nat)(ω:List Bool)(v:yp.V):Cy AZt AXl Tryz.f114 (LU 9 AQw n) ω v=yp.un (JI) v:=AZ2 DA A7 Dm MD n ω v
def Ab7:SQ:=mk Tryz.func114 yp ARc JI [s31,jJ,ADp,ATo] [(1,[0,1,2,3,4,5,6,7,8,9]),(3,[0,1,2,3,4,5,6,7,8,9]),(10,[9,10])] AQw (hJ:= .nil) (he:=Ac4 Ac)
def AbD:SQ:=mk Tryz.func240 ⟨[(0,.row Y1),(1,BH)],[]⟩ Fo SY [] [] []
def Aa_:SQ:=mk Tryz.func239 ⟨[(0,Yo),(1,BH),(2,.c (.fn 240 []))],[]⟩ rN CA [AbD] [] [⟨3,⟨[(0,Yo),(1,BH),(2,.c (.fn 240 [])),(8,BH),(9,BH),(10,BH)],[]⟩,A3⟩]
def AUm:SQ:=mk Tryz.func146 AEI rN S9 [Aa_] [] []
def Aco:SQ:=AO3 (ρ:=Jo 296 0 307 308 92 96) (nm:= "slices.Insert[[]loop.example/g00178/impl.Entry,loop.example/g00178/impl.Entry]") (fv:=Tryz.f307) tOk (nN.ins ⟨by kernel_rfl,by kernel_rfl,by kernel_rfl,by kernel_rfl,by kernel_rfl,by kernel_rfl,by kernel_rfl,by kernel_rfl,by kernel_rfl,by kernel_rfl,by kernel_rfl,by kernel_rfl⟩ mx (by kernel_rfl) (by kernel_rfl) (by kernel_rfl) (by kernel_rfl) (by kernel_rfl) (by kernel_rfl) (by kernel_rfl)) (r:=Y1) rfl (by kernel_rfl) (by kernel_rfl) D1 (fun _=>rfl)
def AVv:SQ:=mk Tryz.func297 ANK AM0 Rv [] [] []
def ARD:SQ:=mk Tryz.func264 ⟨[(0,ot),(1,.row Y1)],tW⟩ ANG Xg [AUm,Aco,AVv] [(4,[1])] []
def AVk:SQ:=mk Tryz.func197 j6 AAn NI [jJ,s88,s92,AL6,ARD] [] [⟨6,⟨[(1,BH),(2,J2),(4,To),(6,oX),(23,Yo),(24,BH),(25,BH)],[APp,AET,Ju,Ju,AG3,.sl 1 Y1,Ju]⟩,JY⟩]
def AVm:SQ:=mk Tryz.func194 nq AAn PC [AVk] [] []
abbrev i60:BE:=j6
abbrev o60:BE:=wj
def s60:SQ:=mk Tryz.func60 i60 o60 Fq [s92,AUm] [] []
def AZy:SQ:=mk Tryz.func309 Fo Cf cmp_isNaN_int [] [] []
def Abs:SQ:=mk Tryz.func298 mw Cf cmp_Less_int [AZy] [] []
def AaI:SQ:=mk Tryz.func299 Fo Cf Pm [] [] []
def AZR:SQ:=mk Tryz.func265 nE rN Gf [Abs,AaI] [] [⟨3,⟨[(0,bV),(1,BH),(6,BH),(7,BH),(8,BH)],[]⟩,Du⟩]
def AZF:SQ:=AO3 (ρ:=Jo 266 0 300 301 24 3) (nm:= "slices.Insert[[]int,int]") (fv:=Tryz.f300) tOk (nN.ins ⟨by kernel_rfl,by kernel_rfl,by kernel_rfl,by kernel_rfl,by kernel_rfl,by kernel_rfl,by kernel_rfl,by kernel_rfl,by kernel_rfl,by kernel_rfl,by kernel_rfl,by kernel_rfl⟩ mx (by kernel_rfl) (by kernel_rfl) (by kernel_rfl) (by kernel_rfl) (by kernel_rfl) (by kernel_rfl) (by kernel_rfl)) (r:=tI) rfl (by kernel_rfl) (by kernel_rfl) J3 (fun _=>rfl)
def AJC:SQ:=mk Tryz.func198 nE ABH LB [s86,AZR,AZF] [] []
def AcN:SQ:=mk Tryz.func261 AMz ANV TW [s32,jJ,s89,s96,AJC,ARy] [(6,[0,1,2,4])] []
def AZH:SQ:=mk Tryz.func195 AAi AM1 N1 [s31,s60,s67,AcN] [(6,[0,1,2,3,4,6,7,8,9])] [⟨1,AFw,C1⟩]
abbrev ADx:BE:=AMs
abbrev AQf:BE:=wj
def AQT:SQ:=mk Tryz.func207 ADx AQf JX [s31] [] [⟨5,⟨[(2,J2),(4,To),(6,BH),(33,Yo),(34,BH),(35,BH)],[yf,AC8]⟩,K5⟩]
def ANw:SQ:=mk Tryz.func269 tK xG E_ [s90,s98] [] []
abbrev AEk:BE:=AM3
abbrev AN_:BE:=ANF
def AV8:SQ:=mk Tryz.func262 AEk AN_ PU [jJ,s90,s98,AJC,ANw] [(4,[0,1,2,3,4,6])] []
abbrev i196:BE:=AAi
abbrev ARQ:BE:=AM1
def c196:Qf:=⟨i196,ARQ,(i196.un LZ)⟩
def AUq:aZ:=⟨T,QN (SP.l [s60,AQT,AV8]),B_ [(4,[0,1,2,3,4,5,6,7,8,9]),(6,[0,1,2,3,4,5,7,8,9,10])]⟩
def AE0:List (Lp ARQ):=[⟨1,AFw,BX⟩]
abbrev kv:BE:=AFw
theorem AN7(g60:ACn→Int→Option NW)(ALl:ABe→Int→Option JG)(AHB:ABU→ABe→Int→Int→Option Xs)(n:Nat)(v:kv.V)(ω:List Bool):Hg ⟨T,QN [(60,⟨i60,o60,i60.un g60⟩),(207,⟨ADx,AQf,ADx.un ALl⟩),(262,⟨AEk,AN_,AEk.un AHB⟩)],B_ [(4,[0,1,2,3,4,5,6,7,8,9]),(6,[0,1,2,3,4,5,7,8,9,10])]⟩ c196 Tryz.f196 (LU 9 AE0 n) 1 ω (kv.st 81 v)=kv.un (fun(t1:Int) (t2:Int) (t6:Int) (AE:Int) (AZ:Int) (AN:Bool) (b1:AAG) (b2:AAa) (b3:AAG) (b4:AAX) (b5:AAt) (b6:AA9) (b7:ABQ) (b8:AAl)=>
 if(0:Int)≤t1∧t1<(b6.length:Int)then(
 cond (decide (t6≤(((b6.getD (t1.toNat) (0,0,[],[],false,[],())).2.2.2.2.2.1).length:Int)))
  (if(0:Int)≤t1∧t1<(b6.length:Int)then(
  (ALl ((b6.getD (t1.toNat) (0,0,[],[],false,[],())).1,(b6.getD (t1.toNat) (0,0,[],[],false,[],())).2.1,(b6.getD (t1.toNat) (0,0,[],[],false,[],())).2.2.1,(b6.getD (t1.toNat) (0,0,[],[],false,[],())).2.2.2.1,(b6.getD (t1.toNat) (0,0,[],[],false,[],())).2.2.2.2.1,(b6.getD (t1.toNat) (0,0,[],[],false,[],())).2.2.2.2.2.1,()) t6).bind fun u2=>
  if(0:Int)≤t2∧t2<(b2.length:Int)then(
  (g60 ((b2.getD (t2.toNat) ([],[],0,())).1,(b2.getD (t2.toNat) ([],[],0,())).2.1,(b2.getD (t2.toNat) ([],[],0,())).2.2.1,()) u2.1.1.1.1).bind fun u3=>
  cond (u2.1.1.2.1)
   (cond (u3.1.1.2.1)
    (cond (((u3.1.1.1.1==u2.1.1.1.1)&&((u3.1.1.1.2.1==u2.1.1.1.2.1)&&((u3.1.1.1.2.2.1==u2.1.1.1.2.2.1)&&((u3.1.1.1.2.2.2.1==u2.1.1.1.2.2.2.1)&&true)))))
     (if(0:Int)≤t1∧t1<(b6.length:Int)then(
     (AHB (b1,AE,()) ((b6.getD (t1.toNat) (0,0,[],[],false,[],())).1,(b6.getD (t1.toNat) (0,0,[],[],false,[],())).2.1,(b6.getD (t1.toNat) (0,0,[],[],false,[],())).2.2.1,(b6.getD (t1.toNat) (0,0,[],[],false,[],())).2.2.2.1,(b6.getD (t1.toNat) (0,0,[],[],false,[],())).2.2.2.2.1,(b6.getD (t1.toNat) (0,0,[],[],false,[],())).2.2.2.2.2.1,()) t6 t2).bind fun u5=>
     if(0:Int)≤t1∧t1<(b6.length:Int)then(
     (BX n) t1 t2 (AS (t6+1)) AE AZ AN b1 b2 b3 b4 b5 (b6.set (t1.toNat) (u5.1.1.1.1,u5.1.1.1.2.1,u5.2.1,u5.2.2.1,u5.1.1.1.2.2.2.2.1,u5.2.2.2.1,())) b7 b8)else none)else none)
    ((BX n) t1 t2 (AS (t6+1)) AE AZ AN b1 b2 b3 b4 b5 b6 b7 b8))
   ((BX n) t1 t2 (AS (t6+1)) AE AZ AN b1 b2 b3 b4 b5 b6 b7 b8))
  ((BX n) t1 t2 (AS (t6+1)) AE AZ AN b1 b2 b3 b4 b5 b6 b7 b8))else none)else none)
 (some (((()),()),(((),AE,(),(),(),AZ,(),(),(),(),AN,()),b1,b2,b3,b4,b5,b6,b7,b8,()))))else none) v:=by rcases ω with _|⟨_|_,_⟩<;>kernel_rfl
theorem ATu(n:Nat)(v:kv.V)(ω:List Bool):Hg AUq c196 Tryz.f196 (LU 9 AE0 n) 1 ω (kv.st 81 v)=kv.un (HH (BX n)) v:=AN7 Fq JX PU n v ω
theorem AZc(g60:ACn→Int→Option NW)(ALl:ABe→Int→Option JG)(AHB:ABU→ABe→Int→Int→Option Xs)(n:Nat)(ω:List Bool)(v:i196.V):Cy ⟨T,QN [(60,⟨i60,o60,i60.un g60⟩),(207,⟨ADx,AQf,ADx.un ALl⟩),(262,⟨AEk,AN_,AEk.un AHB⟩)],B_ [(4,[0,1,2,3,4,5,6,7,8,9]),(6,[0,1,2,3,4,5,7,8,9,10])]⟩ c196 Tryz.f196 (LU 9 AE0 n) ω v=i196.un (fun(p1:Int) (p2:Int) (AE:Int) (AZ:Int) (AN:Bool) (b1:AAG) (b2:AAa) (b3:AAG) (b4:AAX) (b5:AAt) (b6:AA9) (b7:ABQ) (b8:AAl)=>
 (BX n) p1 p2 1 AE AZ AN b1 b2 b3 b4 b5 b6 b7 b8) v:=by kernel_rfl
theorem AZK(n:Nat)(ω:List Bool)(v:i196.V):Cy AUq c196 Tryz.f196 (LU 9 AE0 n) ω v=i196.un (J8 (BX n)) v:=AZc Fq JX PU n ω v
def AaD:SQ:=mk Tryz.func196 i196 ARQ LZ [s60,AQT,AV8] [(4,[0,1,2,3,4,5,6,7,8,9]),(6,[0,1,2,3,4,5,7,8,9,10])] AE0 (hJ:= .cons (fun _=>rfl) ATu (.nil)) (he:=AZK Ac)
def Acp:SQ:=mk Tryz.func115 tM qX Qj [AFu,zQ,AEL,AVm,AZH,AaD] [(7,[0,1,3,4,5,6,7,8,11]),(11,[0,1,2,3,4,5,6,7,8,9,10]),(17,[0,1,2,3,4,5,6,7,8,9])] [⟨9,⟨[(0,J2),(1,BH),(6,eU),(41,.c (.ref 5)),(42,BH),(43,BH)],[yu,C0,W6,C0,LL,Tm,Tn,M4,JP,.mem [.any,.any,.v tI]]⟩,Ex⟩,⟨15,⟨[(0,J2),(1,BH),(72,.c (.ref 6)),(73,BH),(74,BH)],gd⟩,FW⟩]
def Aca:SQ:=mk Tryz.func116 AAi qX Po [xA,AEL,AVk] [(5,[0,1,3,4,5,6,7,8,11])] []
def AXD:SQ:=mk Tryz.func248 ⟨[(0,BH),(1,.c (.oe (.cons tI .unit)))],[]⟩ Cf Mi [] [] []
def AOI:SQ:=mk Tryz.func294 ⟨[(0,bV),(1,AKT)],[]⟩ Fo D7 [AXD] [] [⟨2,⟨[(0,bV),(1,AKT),(7,BH),(8,BH)],[]⟩,Bv⟩]
def ARj:SQ:=mk Tryz.func247 ⟨[(0,ot),(1,AKT)],tZ⟩ ANn Cm [AXD,AOI] [] [⟨5,⟨[(0,ot),(1,AKT),(5,BH),(6,BH)],tZ⟩,Br⟩]
abbrev i157:BE:=nE
abbrev AVW:BE:=ABH
def AE3:SQ:=mk Tryz.func157 i157 AVW GI [s86,ARj] [] []
def AcG:SQ:=mk Tryz.func199 AMZ ANV OI [s89,s96,AE3] [(8,[0,1,2,4])] [⟨5,⟨[(2,BH),(6,J2),(8,xP9),(19,AKR),(20,BH),(21,BH)],[.mem [.v tI,.ref 1],lN,ASo,.sl 2 Y5]⟩,Hq⟩]
def Aad:SQ:=mk Tryz.func200 ANM ANF Qi [s90,s98,AE3] [(7,[0,1,2,3,4,5,6])] [⟨5,⟨[(2,BH),(6,J2),(8,oX),(19,ALB),(20,BH),(21,BH)],[AVC,FG,Ju,ki,AW_,FG,Ju,.sl 2 (.sl tI)]⟩,Jn⟩]
def AaB:SQ:=mk Tryz.func117 tM ⟨ou,[APO,C0,W6,Iv,LL,Tm,Tn,M4,JP,C0]⟩ Q3 [s32,AEL,AJC,AcG,Aad] [(9,[0,1,2,3,4,6,7,8,9,10]),(14,[0,1,2,3,4,5,7,8,9,10]),(16,[1,2,3,4,5,6,7,8,9])] [⟨7,⟨[(0,J2),(1,BH),(35,.c (.ref 5)),(36,BH),(37,BH)],ANi⟩,Hc⟩,⟨12,⟨[(0,J2),(1,BH),(62,.c (.ref 6)),(63,BH),(64,BH)],ANi⟩,G6⟩] (hJ:= .cons (fun _=>rfl) (fun n v ω=>by kernel_rfl) (.cons (fun _=>rfl) (fun n v ω=>by rcases ω with _|⟨_|_,_⟩<;>kernel_rfl) (.nil)))
def AaP:SQ:=mk Tryz.func267 mr Cf Zi [s32,s74] [] []
def AZv:SQ:=mk Tryz.func268 ⟨[(0,ub)],[]⟩ ⟨AFZ,tW⟩ iv [s92,ARD] [] [⟨3,⟨[(3,ot),(9,ub),(10,BH),(11,BH)],tW⟩,Nd⟩,⟨8,⟨[(3,ot),(9,ub),(10,BH),(11,BH),(19,Yo),(20,BH),(21,BH)],tW⟩,Nu⟩]
abbrev i201:BE:=ANJ
abbrev AV1:BE:=⟨AW4,[TQ,.sl 1 Y1,Ju]⟩
def AWj:SQ:=mk Tryz.func201 i201 AV1 bW [s92,zQ,AaP,AZv] [] [⟨5,⟨[(2,bV),(4,BH),(10,To),(12,.c (.ref 4)),(36,ot),(37,BH),(38,BH)],[TQ,AET,Ju,Ju,TQ]⟩,SF⟩]
abbrev zP:BE:=tM
abbrev AOQ:BE:=⟨ou,[APO,C0,TQ,Iv,LL,Tm,Tn,M4,JP,C0]⟩
def AYA:Qf:=⟨zP,AOQ,(zP.un KT)⟩
def Ac2:aZ:=⟨T,QN (SP.l [jJ,s93,AE3,AWj]),B_ [(3,[0,1,3,4,5,6,7,8]),(6,[0,1,3,4,5,6,7,8,9])]⟩
def AP5:List (Lp AOQ):=[]
theorem AcM(g43:Int→Int→Int→Option Nj)(g93:ABf→Int→Option Ln)(AV5:List Int→Int→Option YG)(AWE:ABU→List Int→Int→Int→AAa→Option Vy)(n:Nat)(ω:List Bool)(v:zP.V):Cy ⟨T,QN [(43,⟨i43,o43,i43.un g43⟩),(93,⟨i93,o93,i93.un g93⟩),(157,⟨i157,AVW,i157.un AV5⟩),(201,⟨i201,AV1,i201.un AWE⟩)],B_ [(3,[0,1,3,4,5,6,7,8]),(6,[0,1,3,4,5,6,7,8,9])]⟩ AYA Tryz.f118 (LU 9 AP5 n) ω v=zP.un (fun(p1:Int) (AE:Int) (AZ:Int) (AN:Bool) (b1:AAG) (b2:AAa) (b3:AAG) (b4:AAX) (b5:AAt) (b6:AA9) (b7:ABQ) (b8:AAl)=>
 (g43 p1 0 (AS ((b2.length:Int)-1))).bind fun u2=>
 cond (!u2.1.1)
  (some ((2,()),(((),AE,(),(),(),AZ,(),(),(),(),AN,()),b1,b2,(),b4,b5,b6,b7,b8,b3,())))
 ((g93 (b1,AE,b2,b3,b4,AZ,b5,b6,b7,b8,AN,()) p1).bind fun u3=>
 cond (!u3.1.1)
  (some ((2,()),(((),AE,(),(),(),AZ,(),(),(),(),AN,()),b1,b2,(),b4,b5,b6,b7,b8,b3,())))
 (let x4:Int:=AS ((b4.length:Int)-1)
 (AWE (b1,AE,()) b3 p1 (if 0>x4 then 0 else x4) b2).bind fun u6=>
 cond (!u6.1.1.2.1)
  (some ((4,()),(((),AE,(),(),(),AZ,(),(),(),(),AN,()),b1,u6.2.1,(),b4,b5,b6,b7,b8,b3,())))
 (if(0:Int)≤p1∧p1<(u6.2.1.length:Int)then(
 (AV5 b3 p1).bind fun u8=>
 some ((0,()),(((),AE,(),(),(),AZ,(),(),(),(),AN,()),b1,(u6.2.1.set (p1.toNat) (u6.2.2.1,u6.2.2.2.1,u6.1.1.1.2.2.1,())),(),b4,b5,b6,b7,b8,u8.2.1,())))else none)))) v:=by rcases ω with _|⟨_|_,_⟩<;>kernel_rfl
theorem AbN(n:Nat)(ω:List Bool)(v:zP.V):Cy Ac2 AYA Tryz.f118 (LU 9 AP5 n) ω v=zP.un (KT) v:=AcM A7 C5 GI bW n ω v
def AcU:SQ:=mk Tryz.func118 zP AOQ KT [jJ,s93,AE3,AWj] [(3,[0,1,3,4,5,6,7,8]),(6,[0,1,3,4,5,6,7,8,9])] AP5 (hJ:= .nil) (he:=AbN Ac)
def Acu:SQ:=mk Tryz.func202 mw xG jr [] [] []
def Acg:SQ:=mk Tryz.func119 AGH ⟨ou,[.mem [.ref 1,.v tI,.ref 2,.ref 3,.ref 4,.v tI,.ref 5,.ref 9,.ref 7,.ref 8,.v .bool],C0,W6,C0,LL,Tm,Iv,M4,JP,Tn]⟩ Qm [s36,Acu] [(1,[0,1,2,3,4,5,6,7,8])] []
abbrev i203:BE:=j6
abbrev AOG:BE:=AAn
def AWL:SQ:=mk Tryz.func203 i203 AOG O7 [jJ,AVm,AL6] [] []
abbrev AGA:BE:=j6
abbrev ASK:BE:=wi
def AWG:SQ:=mk Tryz.func205 AGA ASK Qe [s92,s95] [] [⟨5,⟨[(1,BH),(5,ot),(14,Yo),(15,BH),(16,BH)],[Ju]⟩,MJ⟩]
abbrev ADo:BE:=AMw
abbrev AOP:BE:=⟨ATn,[C0,.sl 1 Y1,ki]⟩
def AVl:SQ:=mk Tryz.func204 ADo AOP QV [s90,s95,s98,AJC,ARD,ANw] [(8,[0,1,2,3,4,5,6,7,8,9,10])] [⟨6,⟨[(4,J2),(5,To),(8,xP9),(10,ACG),(31,Yo),(32,BH),(33,BH)],[oH,yf,ARa,FG,Ju,ki,AN1,C0,.sl 1 Y1,ki]⟩,Lu⟩]
abbrev wB:BE:=tM
abbrev AQ9:BE:=⟨ou,[yu,C0,W6,C0,LL,Tm,.sl 2 Y7,M4,JP]⟩
def AOb:Qf:=⟨wB,AQ9,(wB.un KS)⟩
def AZo:aZ:=⟨T,QN (SP.l [ADp,AWL,AVl,AWG]),B_ [(7,[0,1,2,3,4,5,6,7,8,9]),(8,[0,1,2,3,4,5,6,7,8,9,10,11,12]),(11,[0,1,3,4,5,7,8,9,13])]⟩
def AJq:List (Lp AQ9):=[]
def D2(ω:List Bool):Prop:= ∀(ve:ABf→Int→Int→Option IF) (ABi:ACn→Int→Option Ui) (ADG:ABU→ABe→Int→AA2→Option KE) (ACD:ACn→Int→Option KH) (n:Nat) (v:wB.V),Cy ⟨T,QN [(191,⟨zN,ALQ,zN.un ve⟩),(203,⟨i203,AOG,i203.un ABi⟩),(204,⟨ADo,AOP,ADo.un ADG⟩),(205,⟨AGA,ASK,AGA.un ACD⟩)],B_ [(7,[0,1,2,3,4,5,6,7,8,9]),(8,[0,1,2,3,4,5,6,7,8,9,10,11,12]),(11,[0,1,3,4,5,7,8,9,13])]⟩ AOb Tryz.f120 (LU 9 AJq n) ω v=wB.un (fun(p1:Int) (AE:Int) (AZ:Int) (AN:Bool) (b1:AAG) (b2:AAa) (b3:AAG) (b4:AAX) (b5:AAt) (b6:AA9) (b7:ABQ) (b8:AAl)=>
 cond (((b6.length:Int)==0))
  (some ((2,()),(((),AE,(),(),(),AZ,(),(),(),(),AN,()),b1,b2,b3,b4,b5,b6,b7,b8,())))
 (if(0:Int)≤(0:Int)∧(0:Int)<(b6.length:Int)then(
 (ve (b1,AE,b2,b3,b4,AZ,b5,b6,b7,b8,AN,()) p1 ((b6.getD 0 (0,0,[],[],false,[],())).2.1)).bind fun u3=>
 cond (u3.1.1 !=0)
  (some ((u3.1.1,()),(((),AE,(),(),(),AZ,(),(),(),(),AN,()),b1,b2,b3,b4,b5,b6,b7,b8,())))
 (if(0:Int)≤p1∧p1<(b2.length:Int)then(
 (ABi ((b2.getD (p1.toNat) ([],[],0,())).1,(b2.getD (p1.toNat) ([],[],0,())).2.1,(b2.getD (p1.toNat) ([],[],0,())).2.2.1,()) (AS (((b6.getD 0 (0,0,[],[],false,[],())).1)-1))).bind fun u5=>
 (ACD (u5.2.1,u5.2.2.1,u5.1.1.1.2.2.1,()) ((b6.getD 0 (0,0,[],[],false,[],())).2.1)).bind fun u7=>
 (ADG (b1,AE,()) ((b6.getD 0 (0,0,[],[],false,[],())).1,(b6.getD 0 (0,0,[],[],false,[],())).2.1,(b6.getD 0 (0,0,[],[],false,[],())).2.2.1,(b6.getD 0 (0,0,[],[],false,[],())).2.2.2.1,(b6.getD 0 (0,0,[],[],false,[],())).2.2.2.2.1,(b6.getD 0 (0,0,[],[],false,[],())).2.2.2.2.2.1,()) p1 u7.2.1).bind fun u8=>
 cond (!u5.1.1.2.1)
  (some ((4,()),(((),AE,(),(),(),AZ,(),(),(),(),AN,()),b1,b2,b3,b4,b5,b6,b7,b8,())))
 (cond (!u8.1.1.2.1)
  (some ((4,()),(((),AE,(),(),(),AZ,(),(),(),(),AN,()),b1,b2,b3,b4,b5,b6,b7,b8,())))
 (if(0:Int)≤p1∧p1<(b2.length:Int)then(
 if(0:Int)≤(0:Int)∧(0:Int)<(b6.length:Int)then(
 some ((0,()),(((),AE,(),(),(),AZ,(),(),(),(),AN,()),b1,(b2.set (p1.toNat) (u5.2.1,u5.2.2.1,u5.1.1.1.2.2.1,())),b3,b4,b5,(b6.set 0 (u8.1.1.1.1,u8.1.1.1.2.1,u8.2.1,u8.2.2.1,u8.1.1.1.2.2.2.2.1,u8.2.2.2.1,())),b7,b8,())))else none)else none)))else none))else none)) v
theorem ARL:D2 []:=by delta D2;intros;kernel_rfl
theorem APe:D2 (false::[]):=by delta D2;intros;kernel_rfl
theorem ASW(ω:List Bool):D2 (false::false::ω):=by delta D2;intros;kernel_rfl
theorem ARR:D2 (false::true::[]):=by delta D2;intros;kernel_rfl
theorem ATp:D2 (false::true::false::[]):=by delta D2;intros;kernel_rfl
theorem ASc(ω:List Bool):D2 (false::true::false::false::ω):=by delta D2;intros;kernel_rfl
theorem AR6:D2 (false::true::false::true::[]):=by delta D2;intros;kernel_rfl
theorem AOT(ω:List Bool):D2 (false::true::false::true::false::ω):=by delta D2;intros;kernel_rfl
theorem AOJ(ω:List Bool):D2 (false::true::false::true::true::ω):=by delta D2;intros;kernel_rfl
theorem AH1:D2 (false::true::true::[]):=by delta D2;intros;kernel_rfl
theorem AHr(ω:List Bool):D2 (false::true::true::false::ω):=by delta D2;intros;kernel_rfl
theorem AG1:D2 (false::true::true::true::[]):=by delta D2;intros;kernel_rfl
theorem AMN(ω:List Bool):D2 (false::true::true::true::false::ω):=by delta D2;intros;kernel_rfl
theorem AKu(ω:List Bool):D2 (false::true::true::true::true::ω):=by delta D2;intros;kernel_rfl
theorem AG5:D2 (true::[]):=by delta D2;intros;kernel_rfl
theorem AKF(ω:List Bool):D2 (true::false::ω):=by delta D2;intros;kernel_rfl
theorem ALp:D2 (true::true::[]):=by delta D2;intros;kernel_rfl
theorem AH7:D2 (true::true::false::[]):=by delta D2;intros;kernel_rfl
theorem ALC(ω:List Bool):D2 (true::true::false::false::ω):=by delta D2;intros;kernel_rfl
theorem AI_:D2 (true::true::false::true::[]):=by delta D2;intros;kernel_rfl
theorem AK0(ω:List Bool):D2 (true::true::false::true::false::ω):=by delta D2;intros;kernel_rfl
theorem ALr(ω:List Bool):D2 (true::true::false::true::true::ω):=by delta D2;intros;kernel_rfl
theorem AIT:D2 (true::true::true::[]):=by delta D2;intros;kernel_rfl
theorem AIQ(ω:List Bool):D2 (true::true::true::false::ω):=by delta D2;intros;kernel_rfl
theorem AHP:D2 (true::true::true::true::[]):=by delta D2;intros;kernel_rfl
theorem AJE(ω:List Bool):D2 (true::true::true::true::false::ω):=by delta D2;intros;kernel_rfl
theorem AJk(ω:List Bool):D2 (true::true::true::true::true::ω):=by delta D2;intros;kernel_rfl
theorem AZp(ve:ABf→Int→Int→Option IF)(ABi:ACn→Int→Option Ui)(ADG:ABU→ABe→Int→AA2→Option KE)(ACD:ACn→Int→Option KH)(n:Nat)(ω:List Bool)(v:wB.V):Cy ⟨T,QN [(191,⟨zN,ALQ,zN.un ve⟩),(203,⟨i203,AOG,i203.un ABi⟩),(204,⟨ADo,AOP,ADo.un ADG⟩),(205,⟨AGA,ASK,AGA.un ACD⟩)],B_ [(7,[0,1,2,3,4,5,6,7,8,9]),(8,[0,1,2,3,4,5,6,7,8,9,10,11,12]),(11,[0,1,3,4,5,7,8,9,13])]⟩ AOb Tryz.f120 (LU 9 AJq n) ω v=wB.un (fun(p1:Int) (AE:Int) (AZ:Int) (AN:Bool) (b1:AAG) (b2:AAa) (b3:AAG) (b4:AAX) (b5:AAt) (b6:AA9) (b7:ABQ) (b8:AAl)=>
 cond (((b6.length:Int)==0))
  (some ((2,()),(((),AE,(),(),(),AZ,(),(),(),(),AN,()),b1,b2,b3,b4,b5,b6,b7,b8,())))
 (if(0:Int)≤(0:Int)∧(0:Int)<(b6.length:Int)then(
 (ve (b1,AE,b2,b3,b4,AZ,b5,b6,b7,b8,AN,()) p1 ((b6.getD 0 (0,0,[],[],false,[],())).2.1)).bind fun u3=>
 cond (u3.1.1 !=0)
  (some ((u3.1.1,()),(((),AE,(),(),(),AZ,(),(),(),(),AN,()),b1,b2,b3,b4,b5,b6,b7,b8,())))
 (if(0:Int)≤p1∧p1<(b2.length:Int)then(
 (ABi ((b2.getD (p1.toNat) ([],[],0,())).1,(b2.getD (p1.toNat) ([],[],0,())).2.1,(b2.getD (p1.toNat) ([],[],0,())).2.2.1,()) (AS (((b6.getD 0 (0,0,[],[],false,[],())).1)-1))).bind fun u5=>
 (ACD (u5.2.1,u5.2.2.1,u5.1.1.1.2.2.1,()) ((b6.getD 0 (0,0,[],[],false,[],())).2.1)).bind fun u7=>
 (ADG (b1,AE,()) ((b6.getD 0 (0,0,[],[],false,[],())).1,(b6.getD 0 (0,0,[],[],false,[],())).2.1,(b6.getD 0 (0,0,[],[],false,[],())).2.2.1,(b6.getD 0 (0,0,[],[],false,[],())).2.2.2.1,(b6.getD 0 (0,0,[],[],false,[],())).2.2.2.2.1,(b6.getD 0 (0,0,[],[],false,[],())).2.2.2.2.2.1,()) p1 u7.2.1).bind fun u8=>
 cond (!u5.1.1.2.1)
  (some ((4,()),(((),AE,(),(),(),AZ,(),(),(),(),AN,()),b1,b2,b3,b4,b5,b6,b7,b8,())))
 (cond (!u8.1.1.2.1)
  (some ((4,()),(((),AE,(),(),(),AZ,(),(),(),(),AN,()),b1,b2,b3,b4,b5,b6,b7,b8,())))
 (if(0:Int)≤p1∧p1<(b2.length:Int)then(
 if(0:Int)≤(0:Int)∧(0:Int)<(b6.length:Int)then(
 some ((0,()),(((),AE,(),(),(),AZ,(),(),(),(),AN,()),b1,(b2.set (p1.toNat) (u5.2.1,u5.2.2.1,u5.1.1.1.2.2.1,())),b3,b4,b5,(b6.set 0 (u8.1.1.1.1,u8.1.1.1.2.1,u8.2.1,u8.2.2.1,u8.1.1.1.2.2.2.2.1,u8.2.2.2.1,())),b7,b8,())))else none)else none)))else none))else none)) v:=(AF ARL (AF APe ASW (AF ARR (AF ATp ASc (AF AR6 AOT AOJ)) (AF AH1 AHr (AF AG1 AMN AKu)))) (AF AG5 AKF (AF ALp (AF AH7 ALC (AF AI_ AK0 ALr)) (AF AIT AIQ (AF AHP AJE AJk))))) ω ve ABi ADG ACD n v
theorem AbH(n:Nat)(ω:List Bool)(v:wB.V):Cy AZo AOb Tryz.f120 (LU 9 AJq n) ω v=wB.un (KS) v:=AZp Dm O7 QV Qe n ω v
def AZZ:SQ:=mk Tryz.func120 wB AQ9 KS [ADp,AWL,AVl,AWG] [(7,[0,1,2,3,4,5,6,7,8,9]),(8,[0,1,2,3,4,5,6,7,8,9,10,11,12]),(11,[0,1,3,4,5,7,8,9,13])] AJq (hJ:= .nil) (he:=AbH Ac)
def Aap:SQ:=mk Tryz.func302 AEH bX fZ [s74,zQ] [] [⟨5,⟨[(2,bV),(7,ot),(22,bV),(23,BH),(24,BH)],gi⟩,SM⟩]
def AWr:SQ:=mk Tryz.func270 AEH Cf HE [s32,s74,AKV,Aap] [(3,[0,1])] []
abbrev i206:BE:=AND
abbrev AWI:BE:=xj
def AVq:SQ:=mk Tryz.func206 i206 AWI QP [s90,s98,AKV,AVY,ANw,AWr] [(1,[0,1,2])] []
abbrev zc:BE:=AGH
abbrev AO0:BE:=qX
def AVr:Qf:=⟨zc,AO0,(zc.un KJ)⟩
def AY9:aZ:=⟨T,QN (SP.l [xA,AFu,AVq]),B_ [(3,[0,1,2,3,4,5,6,7,8]),(4,[0,1,2,3,4,5,7,8,9])]⟩
def AOU:List (Lp AO0):=[]
theorem AbE(ADC:Bool→Option eT)(AXG:ACa→Int→Option dL)(AVz:ABU→ABe→List Int→Option cw)(n:Nat)(ω:List Bool)(v:zc.V):Cy ⟨T,QN [(125,⟨AEJ,ARu,AEJ.un ADC⟩),(156,⟨ATL,AXO,ATL.un AXG⟩),(206,⟨i206,AWI,i206.un AVz⟩)],B_ [(3,[0,1,2,3,4,5,6,7,8]),(4,[0,1,2,3,4,5,7,8,9])]⟩ AVr Tryz.f121 (LU 9 AOU n) ω v=zc.un (fun(AE:Int) (AZ:Int) (AN:Bool) (b1:AAG) (b2:AAa) (b3:AAG) (b4:AAX) (b5:AAt) (b6:AA9) (b7:ABQ) (b8:AAl)=>
 cond (((b6.length:Int)==0))
  (some ((2,()),(((),AE,(),(),(),AZ,(),(),(),(),AN,()),b1,b2,b3,b4,b5,b6,b7,b8,())))
 (if(0:Int)≤(0:Int)∧(0:Int)<(b6.length:Int)then(
 if(0:Int)≤(0:Int)∧(0:Int)<(b6.length:Int)then(
 (AXG (b4,AZ,()) ((b6.getD 0 (0,0,[],[],false,[],())).2.1)).bind fun u3=>
 (AVz (b1,AE,()) ((b6.getD 0 (0,0,[],[],false,[],())).1,(b6.getD 0 (0,0,[],[],false,[],())).2.1,(b6.getD 0 (0,0,[],[],false,[],())).2.2.1,(b6.getD 0 (0,0,[],[],false,[],())).2.2.2.1,(b6.getD 0 (0,0,[],[],false,[],())).2.2.2.2.1,(b6.getD 0 (0,0,[],[],false,[],())).2.2.2.2.2.1,()) u3.2.1).bind fun u4=>
 if(0:Int)≤(0:Int)∧(0:Int)<(b6.length:Int)then(
 (ADC u4.1.1.2.1).bind fun u6=>
 some ((u6.1.1,()),(((),AE,(),(),(),AZ,(),(),(),(),AN,()),b1,b2,b3,b4,b5,(b6.set 0 (u4.1.1.1.1,u4.1.1.1.2.1,u4.2.1,u4.2.2.1,u4.1.1.1.2.2.2.2.1,u4.2.2.2.1,())),b7,b8,())))else none)else none)else none)) v:=by rcases ω with _|⟨_|_,_|⟨_|_,_⟩⟩<;>kernel_rfl
theorem AaJ(n:Nat)(ω:List Bool)(v:zc.V):Cy AY9 AVr Tryz.f121 (LU 9 AOU n) ω v=zc.un (KJ) v:=AbE KK Hl QP n ω v
def Aam:SQ:=mk Tryz.func121 zc AO0 KJ [xA,AFu,AVq] [(3,[0,1,2,3,4,5,6,7,8]),(4,[0,1,2,3,4,5,7,8,9])] AOU (hJ:= .nil) (he:=AaJ Ac)
def AZ3:SQ:=mk Tryz.func122 AAi qX SR [ADp,ATo,AQT] [] []
abbrev i208:BE:=tK
abbrev AU6:BE:=Cf
def AXr:SQ:=mk Tryz.func208 i208 AU6 PM [s32,s98] [] [⟨4,⟨[(2,J2),(17,ALB),(18,BH),(19,BH)],ASd⟩,KY⟩]
abbrev AP4:BE:=AMW
abbrev AVI:BE:=AA4
def AUt:SQ:=mk Tryz.func209 AP4 AVI QY [s36,jJ,s46,s87,AIw] [(5,[0,1,2,4])] []
abbrev AAJ:BE:=AGH
abbrev ASl:BE:=⟨ou,[.mem [.ref 1,.v tI,.ref 2,.ref 3,.ref 9,.v tI,.ref 5,.ref 10,.ref 7,.ref 8,.v .bool],C0,W6,C0,Iv,Tm,Iv,M4,JP,LL,Tn]⟩
def AWB:Qf:=⟨AAJ,ASl,(AAJ.un JJ)⟩
def Aci:aZ:=⟨T,QN (SP.l [xA,AXr,AUt]),B_ [(3,[0,1,2,3,4,5,6,7,8]),(5,[0,1,2,3,4,5,6,7,8])]⟩
def ATR:List (Lp ASl):=[]
theorem Aan(ADC:Bool→Option eT)(AX1:ABU→ABe→Option Lt)(AVB:ABU→ACa→Int→Int→Option dR)(n:Nat)(ω:List Bool)(v:AAJ.V):Cy ⟨T,QN [(125,⟨AEJ,ARu,AEJ.un ADC⟩),(208,⟨i208,AU6,i208.un AX1⟩),(209,⟨AP4,AVI,AP4.un AVB⟩)],B_ [(3,[0,1,2,3,4,5,6,7,8]),(5,[0,1,2,3,4,5,6,7,8])]⟩ AWB Tryz.f123 (LU 9 ATR n) ω v=AAJ.un (fun(AE:Int) (AZ:Int) (AN:Bool) (b1:AAG) (b2:AAa) (b3:AAG) (b4:AAX) (b5:AAt) (b6:AA9) (b7:ABQ) (b8:AAl)=>
 cond (((b6.length:Int)==0))
  (some ((2,()),(((),AE,(),(),(),AZ,(),(),(),(),AN,()),b1,b2,b3,(),b5,(),b7,b8,b4,b6,())))
 (if(0:Int)≤(0:Int)∧(0:Int)<(b6.length:Int)then(
 (AX1 (b1,AE,()) ((b6.getD 0 (0,0,[],[],false,[],())).1,(b6.getD 0 (0,0,[],[],false,[],())).2.1,(b6.getD 0 (0,0,[],[],false,[],())).2.2.1,(b6.getD 0 (0,0,[],[],false,[],())).2.2.2.1,(b6.getD 0 (0,0,[],[],false,[],())).2.2.2.2.1,(b6.getD 0 (0,0,[],[],false,[],())).2.2.2.2.2.1,())).bind fun u2=>
 cond (!u2.1.1)
  (some ((5,()),(((),AE,(),(),(),AZ,(),(),(),(),AN,()),b1,b2,b3,(),b5,(),b7,b8,b4,b6,())))
 (if(0:Int)≤(0:Int)∧(0:Int)<(b6.length:Int)then(
 if(0:Int)≤(0:Int)∧(0:Int)<(b6.length:Int)then(
 (AVB (b1,AE,()) (b4,AZ,()) ((b6.getD 0 (0,0,[],[],false,[],())).1) (((b6.getD 0 (0,0,[],[],false,[],())).2.2.2.2.2.1).length:Int)).bind fun u5=>
 cond (u5.1.1.2.1)
  ((ADC u5.1.1.2.1).bind fun u6=>
  some ((u6.1.1,()),(((),AE,(),(),(),u5.1.1.1.2.1,(),(),(),(),AN,()),b1,b2,b3,(),b5,(),b7,b8,u5.2.1,[],())))
 ((ADC u5.1.1.2.1).bind fun u7=>
 some ((u7.1.1,()),(((),AE,(),(),(),AZ,(),(),(),(),AN,()),b1,b2,b3,(),b5,(),b7,b8,b4,b6,()))))else none)else none))else none)) v:=by rcases ω with _|⟨_|_,_⟩<;>kernel_rfl
theorem AbS(n:Nat)(ω:List Bool)(v:AAJ.V):Cy Aci AWB Tryz.f123 (LU 9 ATR n) ω v=AAJ.un (JJ) v:=Aan KK PM QY n ω v
def Aat:SQ:=mk Tryz.func123 AAJ ASl JJ [xA,AXr,AUt] [(3,[0,1,2,3,4,5,6,7,8]),(5,[0,1,2,3,4,5,6,7,8])] ATR (hJ:= .nil) (he:=AbS Ac)
def Abr:SQ:=mk Tryz.func124 ANT AA4 W8 [jJ,s46,s87,s95,AIw] [(1,[0,1,2])] []
def Aaw:SQ:=mk Tryz.func274 ABC Fo Q0 [] [] [⟨2,⟨[(1,J2),(6,AKR),(7,BH),(8,BH)],[AHq]⟩,Jh⟩]
abbrev i212:BE:=rC
abbrev ATi:BE:=Fo
def AWD:SQ:=mk Tryz.func212 i212 ATi R0 [Aaw] [] [⟨2,⟨[(1,BH),(8,.c (.sl false Y6)),(9,BH),(10,BH)],[]⟩,Oh⟩]
def AZ4:SQ:=mk Tryz.func271 ⟨[(0,s8)],[]⟩ bX Pv [] [] [⟨3,⟨[(3,ot),(7,s8),(8,BH),(9,BH)],gi⟩,NR⟩]
def s54:SQ:=mk Tryz.func54 ⟨[(0,BH),(1,.row Y9)],[]⟩ Cf Ww [s95,AR2] [(2,[0])] []
def AWS:SQ:=mk Tryz.func272 ⟨[(0,J2),(1,.row Y8)],AMj⟩ AM4 FR [] [(1,[2])] [] (he:=fun ω v=>by rcases ω with _|⟨_|_,_⟩<;>kernel_rfl)
def Acz:SQ:=mk Tryz.func303 ⟨[(0,s8),(1,bV),(2,BH)],[]⟩ wj ZV [zQ,AId,AVv] [] [⟨3,⟨[(1,bV),(2,BH),(6,J2),(8,To),(9,xP0),(13,s8),(14,BH),(15,BH)],[AC8,AC8]⟩,Of⟩]
def AaG:SQ:=mk Tryz.func273 ⟨[(0,J2),(1,s8),(2,bV)],AMj⟩ AM4 C6 [s31,AWS,Acz] [(0,[0,1])] []
abbrev AFa:BE:=ANH
abbrev APB:BE:=⟨AW9,[.sl 1 Y8]⟩
def AUd:SQ:=mk Tryz.func211 AFa APB KL [s46,s54,s74,s91,s95,s99,AR2,AKV,AWr,AZ4,AWS,AaG] [(1,[0,1,2,3]),(8,[0,1,2,3,4,8,9]),(11,[0,1,2,3,4,5,6,7])] []
abbrev ye:BE:=⟨AWi,ANb⟩
abbrev ASq:BE:=⟨ou,ANb⟩
def AIF:Qf:=⟨ye,ASq,(ye.un NK)⟩
def AXt:aZ:=⟨T,QN (SP.l [s31,jJ,s60,s93,AIP,AUd,AWD]),B_ [(13,[0,1,2,3,4,5,6,7,8,9,10,11]),(16,[0,1,2,3,4,5,6,8,9,10,11])]⟩
def AFx:List (Lp ASq):=[⟨7,⟨[(0,J2),(1,BH),(7,eU),(8,BH),(10,.c (.ref 10)),(43,.c (.ref 11)),(44,BH),(45,BH)],[yu,C0,W6,C0,LL,Tm,Tn,.sl 1 Y9,JP,.mem [.v tI,.v tI,.sl true Y8],.sl 9 Y14,FG]⟩,C9⟩]
abbrev mj:BE:=⟨[(0,J2),(1,BH),(7,eU),(8,BH),(10,.c (.ref 10)),(43,.c (.ref 11)),(44,BH),(45,BH)],[yu,C0,W6,C0,LL,Tm,Tn,.sl 1 Y9,JP,.mem [.v tI,.v tI,.sl true Y8],.sl 9 Y14,FG]⟩
theorem APh(g31:Int→Int→Option Mc)(g43:Int→Int→Int→Option Nj)(g60:ACn→Int→Option NW)(g93:ABf→Int→Option Ln)(zG:Int→Option Hf)(ALH:ABU→ACa→Int→ADa→ADJ→Option Kv)(AL3:ABf→Int→Option Ns)(n:Nat)(v:mj.V)(ω:List Bool):Hg ⟨T,QN [(31,⟨i31,o31,i31.un g31⟩),(43,⟨i43,o43,i43.un g43⟩),(60,⟨i60,o60,i60.un g60⟩),(93,⟨i93,o93,i93.un g93⟩),(188,⟨zu,AMS,zu.un zG⟩),(211,⟨AFa,APB,AFa.un ALH⟩),(212,⟨i212,ATi,i212.un AL3⟩)],B_ [(13,[0,1,2,3,4,5,6,7,8,9,10,11]),(16,[0,1,2,3,4,5,6,8,9,10,11])]⟩ AIF Tryz.f126 (LU 9 AFx n) 7 ω (mj.st 111 v)=mj.un (fun(t1:Int) (t8:Int) (t44:Int) (t45:Int) (AE:Int) (AZ:Int) (AN:Bool) (b1:AAG) (b2:AAa) (b3:AAG) (b4:AAX) (b5:AAt) (b6:AA9) (b7:ABQ) (b8:AAl) (kc:Int) (Dr:Int) (fB:ADf) (Mf:ADJ) (FC:AAG)=>
 cond (decide (t45<t44))
  (if(0:Int)≤t45∧t45<(FC.length:Int)then(
  let x8:Int:=(FC.getD (t45.toNat) 0)
  cond ((decide (x8<(b2.length:Int))))
   ((g93 (b1,AE,b2,b3,b4,AZ,b5,b6,b7,b8,AN,()) x8).bind fun D9=>
   cond (!D9.1.1)
    (if(0:Int)≤x8∧x8<(b2.length:Int)then(
    (g60 ((b2.getD (x8.toNat) ([],[],0,())).1,(b2.getD (x8.toNat) ([],[],0,())).2.1,(b2.getD (x8.toNat) ([],[],0,())).2.2.1,()) t8).bind fun Kg=>
    if Mf.length+1≤Go.M.DE then(
    (C9 n) t1 t8 t44 (AS (t45+1)) AE AZ AN b1 b2 b3 b4 b5 b6 b7 b8 kc Dr fB (Mf++[(x8,Kg.1.1.2.1,Kg.1.1.1.1,Kg.1.1.1.2.1,Kg.1.1.1.2.2.1,Kg.1.1.1.2.2.2.1,())]) FC)else none)else none)
   ((C9 n) t1 t8 t44 (AS (t45+1)) AE AZ AN b1 b2 b3 b4 b5 b6 b7 b8 kc Dr fB Mf FC))
  ((C9 n) t1 t8 t44 (AS (t45+1)) AE AZ AN b1 b2 b3 b4 b5 b6 b7 b8 kc Dr fB Mf FC))else none)
 ((AL3 (b1,AE,b2,b3,b4,AZ,b5,b6,b7,b8,AN,()) kc).bind fun J9=>
 (ALH (b1,AE,()) (b4,AZ,()) J9.1.1 (kc,Dr,fB,()) Mf).bind fun Kc=>
 cond (Kc.1.1.2.1 !=0)
  (some ((5,()),(((),AE,(),(),(),AZ,(),(),(),(),AN,()),b1,b2,b3,b4,b5,b6,b7,b8,())))
 (if(0:Int)≤t1∧t1<(b7.length:Int)then(
 some ((0,()),(((),AE,(),(),(),AZ,(),(),(),(),AN,()),b1,b2,b3,b4,b5,b6,(b7.set (t1.toNat) (Kc.1.1.1.1,Kc.1.1.1.2.1,Kc.2.1,())),b8,())))else none))) v:=by rcases ω with _|⟨_|_,_|⟨_|_,_⟩⟩<;>kernel_rfl
theorem AOF(n:Nat)(v:mj.V)(ω:List Bool):Hg AXt AIF Tryz.f126 (LU 9 AFx n) 7 ω (mj.st 111 v)=mj.un (Nv (C9 n)) v:=APh DA A7 Fq C5 IB KL R0 n v ω
theorem AaY(g31:Int→Int→Option Mc)(g43:Int→Int→Int→Option Nj)(g60:ACn→Int→Option NW)(g93:ABf→Int→Option Ln)(zG:Int→Option Hf)(ALH:ABU→ACa→Int→ADa→ADJ→Option Kv)(AL3:ABf→Int→Option Ns)(n:Nat)(ω:List Bool)(v:ye.V):Cy ⟨T,QN [(31,⟨i31,o31,i31.un g31⟩),(43,⟨i43,o43,i43.un g43⟩),(60,⟨i60,o60,i60.un g60⟩),(93,⟨i93,o93,i93.un g93⟩),(188,⟨zu,AMS,zu.un zG⟩),(211,⟨AFa,APB,AFa.un ALH⟩),(212,⟨i212,ATi,i212.un AL3⟩)],B_ [(13,[0,1,2,3,4,5,6,7,8,9,10,11]),(16,[0,1,2,3,4,5,6,8,9,10,11])]⟩ AIF Tryz.f126 (LU 9 AFx n) ω v=ye.un (fun(p1:Int) (p2:Int) (AE:Int) (AZ:Int) (AN:Bool) (b1:AAG) (b2:AAa) (b3:AAG) (b4:AAX) (b5:AAt) (b6:AA9) (b7:ABQ) (b8:AAl)=>
 (g43 p1 0 (AS ((b7.length:Int)-1))).bind fun u2=>
 cond (!u2.1.1)
  (some ((2,()),(((),AE,(),(),(),AZ,(),(),(),(),AN,()),b1,b2,b3,b4,b5,b6,b7,b8,())))
 (if(0:Int)≤p1∧p1<(b7.length:Int)then(
 (g31 ((b7.getD (p1.toNat) (0,0,[],())).1) ((b7.getD (p1.toNat) (0,0,[],())).2.1)).bind fun u5=>
 (zG p2).bind fun u6=>
 (C9 n) p1 u5.1.1.1 (u6.2.1.length:Int) 0 AE AZ AN b1 b2 b3 b4 b5 b6 b7 b8 ((b7.getD (p1.toNat) (0,0,[],())).1) ((b7.getD (p1.toNat) (0,0,[],())).2.1) ((b7.getD (p1.toNat) (0,0,[],())).2.2.1) [] u6.2.1)else none)) v:=by kernel_rfl
theorem AZ1(n:Nat)(ω:List Bool)(v:ye.V):Cy AXt AIF Tryz.f126 (LU 9 AFx n) ω v=ye.un (N9 (C9 n)) v:=AaY DA A7 Fq C5 IB KL R0 n ω v
def Aag:SQ:=mk Tryz.func126 ye ASq NK [s31,jJ,s60,s93,AIP,AUd,AWD] [(13,[0,1,2,3,4,5,6,7,8,9,10,11]),(16,[0,1,2,3,4,5,6,8,9,10,11])] AFx (hJ:= .cons (fun _=>rfl) AOF (.nil)) (he:=AZ1 Ac)
def AUz:SQ:=mk Tryz.func276 ⟨[(0,.row Y1),(1,.c (.oe (.cons tI .unit)))],[]⟩ Cf Pg [] [] []
def Ab6:SQ:=mk Tryz.func304 ⟨[(0,Yo),(1,ALD)],[]⟩ Fo Cj [AUz] [] [⟨2,⟨[(0,Yo),(1,ALD),(7,BH),(8,BH)],[]⟩,BL⟩]
def Aas:SQ:=mk Tryz.func275 ⟨[(0,ot),(1,ALD)],tW⟩ ANG Bq [AUz,Ab6] [] [⟨5,⟨[(0,ot),(1,ALD),(5,BH),(6,BH)],tW⟩,BG⟩]
def AcP:SQ:=mk Tryz.func213 j6 AAn SZ [s53,s88,s92,AL6,Aas] [] []
def AY7:SQ:=mk Tryz.func127 tM qX Pb [xA,AEL,AcP] [(4,[0,1,2,3,4,5,6,7,8]),(5,[0,1,3,4,5,6,7,8])] [] (he:=fun ω v=>by rcases ω with _|⟨_|_,_⟩<;>kernel_rfl)
def AcZ:SQ:=AZ7 (ρ:=Jo 0 128 0 0 31 63) (nm:= "slices.Delete[[]loop.example/g00178/impl.Writer,loop.example/g00178/impl.Writer]") tOk (nN.del ⟨by kernel_rfl,by kernel_rfl,by kernel_rfl,by kernel_rfl,by kernel_rfl,by kernel_rfl,by kernel_rfl,by kernel_rfl,by kernel_rfl,by kernel_rfl,by kernel_rfl,by kernel_rfl⟩ mx (by kernel_rfl) (by kernel_rfl)) (r:=Y6) 2 rfl (by kernel_rfl) (by kernel_rfl) FQ (fun _=>rfl)
def s57:SQ:=mk Tryz.func57 AMV ⟨ou,[.mem [.ref 1,.v tI,.ref 2,.ref 9,.ref 10,.v tI,.ref 11,.ref 12,.ref 7,.ref 13,.v .bool],C0,TQ,Iv,Iv,Iv,Iv,.sl 1 Y9,Iv,C0,LL,Tm,.sl 2 Y7,JP]⟩ Ux [jJ,Aaf,AZk,Ab7,Acp,Aca,AaB,AcU,Acg,AZZ,Aam,AZ3,Aat,Abr,xA,Aag,AY7,AcZ] [(27,[0,1,2,3,4,5,6,7,8,9]),(34,[0,1,2,3,4,5,6,7,8,9]),(36,[1,2,3,4,6,7,8,9])] [] (he:=fun ω v=>by rcases ω with _|⟨_|_,_⟩<;>kernel_rfl)
def s21:SQ:=mk Tryz.func21 AM6 ⟨AN5,AMx⟩ Kd [s16,s40,s56,s57] [] []
def s65:SQ:=mk Tryz.func65 nR AEE Qu [s16,s40] [] []
def s66:SQ:=mk Tryz.func66 rC ABH Qn [AFu,AE3] [] [⟨3,⟨[(5,ot),(13,bV),(14,BH),(15,BH)],tZ⟩,HT⟩]
def s29:SQ:=mk Tryz.func29 AMr ⟨ARo,AMx⟩ Sx [s21,s31,s40,s65,s66,s67] [] [⟨7,⟨[(1,BH),(3,J2),(6,To),(8,aL),(10,gF),(11,BH),(41,.c (.ref 20)),(42,BH),(43,BH)],[zX,ACS,FG,aF,FG,Qg,aD,Z6,aH,Yp,z_,C0,TQ,C0,LL,Tm,.sl 2 Y7,.sl 1 Y9,JP,.mem [.v tI,.any],C0]⟩,IZ⟩]
def s68:SQ:=mk Tryz.func68 ⟨[(0,.row Y11),(1,bV)],[]⟩ bX aY [ADN] [] []
def s70:SQ:=mk Tryz.func70 rC Cf bm [] [] [⟨2,AMg,KP⟩]
def s30:SQ:=mk Tryz.func30 AMr ⟨ARo,AGG⟩ SI [s22,s51,s52,s68,s69,s70,s71] [(8,[0,1,2,3,4,5,6,7,8,9,10,11]),(12,[0,1,2,3,4,5,6,7,8,9,10,11,12,13,14,15,16,17,18,19,20]),(16,[0,1,2,3,4,5,6,7,8,9,10,11,12,13,14,15,16,17,18,19,20,21]),(19,[0,1,2,3,4,5,6,7,8,9,10,11,12,13,14,15,16,17,18,19,20])] [⟨10,⟨[(1,BH),(3,J2),(6,To),(8,aL),(10,gF),(11,BH),(12,.c (.ref 20)),(13,BH)],[zX,ACS,FG,aF,FG,Qg,aD,Z6,aH,Yp,z_,C0,TQ,C0,LL,cF,mZ,M4,JP,AOn,FG]⟩,EE⟩,⟨14,⟨[(1,BH),(3,J2),(6,To),(8,aL),(10,gF),(11,BH),(12,.c (.ref 20)),(13,BH),(14,.c (.ref 21)),(15,BH)],[zX,ACS,FG,aF,FG,Qg,aD,Z6,aH,Yp,z_,C0,TQ,C0,LL,cF,mZ,M4,JP,AOn,FG,.sl 9 Y12]⟩,Dc⟩] (hJ:= .cons (fun _=>rfl) (fun n v ω=>by kernel_rfl) (.cons (fun _=>rfl) (fun n v ω=>by rcases ω with _|⟨_|_,_⟩<;>kernel_rfl) (.nil)))
def s26:SQ:=mk Tryz.func26 rC bX TF [s16,s60] [] [⟨5,⟨[(1,BH),(5,ot),(16,ub),(17,BH),(18,BH)],gi⟩,IW⟩]
abbrev i7:BE:=AFK
abbrev o7:BE:=Cf
def s7:SQ:=mk Tryz.func7 i7 o7 MH [s9,s16,s26,s28,s29,s30,s31,s32] [(17,[0,1,2,3,4,5,6,7,8,9,10,11,12,13,14,15,16,17])] [⟨14,⟨[(3,J2),(5,ze),(6,eU),(11,BH),(12,xP0),(13,xP0),(14,BH)],[yu,C0,TQ,C0,.sl 1 Y3,cF,mZ,M4,JP,sY,C0,TQ,C0,LL,Tm,.sl 2 Y7,.sl 1 Y9,JP]⟩,E9⟩]
end
end Go.Proofs.YtebiojjohcpanaaGreat.Wk
