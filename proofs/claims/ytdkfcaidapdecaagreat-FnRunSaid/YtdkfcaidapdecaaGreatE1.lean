/- Each function computes what was printed: by the kernel. -/
import Derived.Test.YtdkfcaidapdecaaGreatE0
import Derived.Test.YtdkfcaidapdecaaGreatProg
import Derived.KernelRfl
set_option linter.unusedVariables false
set_option linter.unusedSimpArgs false
set_option linter.unusedSectionVars false
namespace Go.Proofs.YtdkfcaidapdecaaGreat.Wk
open Go Go.Fw Go.M Go.Proofs
noncomputable section
def s39:SQ:=mk Tryz.func39 AAT Cd E8 [ib] [] [⟨2,⟨[(1,Jp),(6,aW),(7,BI),(8,BI)],ADG⟩,MD⟩]
def AZC:SQ:=mk Tryz.func210 l8 Cd XQ [ib] [] [⟨2,⟨[(0,aW),(1,BI),(7,aW),(8,BI),(9,BI)],[]⟩,KW⟩]
def tT:SQ:=mk Tryz.func121 mZ Cd D6 [s39,AZC] [] []
def AJ4:SQ:=mk Tryz.func217 FT Cd Hl [ib] [] []
def AT6:SQ:=mk Tryz.func227 FT Cd Xt [ib] [] []
def ALx:SQ:=mk Tryz.func215 FT Cd D8 [AJ4,AT6] [] []
def s38:SQ:=mk Tryz.func38 ⟨[(0,.c (.v .str))],[]⟩ Cd GK [] [] []
def rY:SQ:=mk Tryz.func126 FT FT FI [ALx] [] []
def AH4:SQ:=mk Tryz.func267 ⟨[(0,.row Y1)],[]⟩ Cd Mx [ib,s38,rY,ALx] [(1,[0])] []
def AZ2:SQ:=mk Tryz.func211 zI Cd PR [AH4] [] [⟨2,⟨[(5,Yn),(6,BI),(7,BI)],[]⟩,IV⟩]
def ATe:SQ:=mk Tryz.func212 zI Cd Kr [] [(4,[0])] [⟨2,⟨[(0,Yn),(5,Yn),(6,BI),(7,BI)],[]⟩,GD⟩]
def tM:SQ:=mk Tryz.func122 mR Cd FL [ib,AZ2,ATe] [] []
def AZW:SQ:=mk Tryz.func233 l8 FT O5 [] [] [⟨2,⟨[(0,aW),(1,BI),(7,BI),(8,BI)],[]⟩,GP⟩]
def yc:SQ:=mk Tryz.func159 l8 Cd Bk [AZW] [] []
def ATd:SQ:=mk Tryz.func268 ⟨[(0,BI),(1,.c (.nV (.cons (.sl tI) .unit)))],[]⟩ Cd Ru [yc] [] []
def Aak:SQ:=mk Tryz.func276 ⟨[(0,aW),(1,AFz)],[]⟩ FT Dj [ATd] [] [⟨2,⟨[(0,aW),(1,AFz),(7,BI),(8,BI)],[]⟩,B5⟩]
def AYZ:SQ:=mk Tryz.func242 ⟨[(0,px),(1,AFz)],[C2]⟩ AMu Ck [ATd,Aak] [] [⟨5,⟨[(0,px),(1,AFz),(5,BI),(6,BI)],[C2]⟩,Bp⟩]
def AKn:SQ:=mk Tryz.func213 AAV ACp Np [s59,AYZ] [] []
abbrev xn:A6:=zo
abbrev ALu:A6:=Cd
def ACO:SQ:=mk Tryz.func123 xn ALu C4 [AKn] [] []
def AYs:SQ:=mk Tryz.func214 mZ FT ZV [tT,yc] [] [⟨5,⟨[(2,Jp),(5,xP8),(13,aW),(14,BI),(15,BI)],ADK⟩,PA⟩]
abbrev i124:A6:=mZ
abbrev AWP:A6:=Cd
def ry:SQ:=mk Tryz.func124 i124 AWP Gx [tT,AYs] [(1,[0])] []
def s40:SQ:=mk Tryz.func40 wH Cd LW [tT,tM,ACO,ry] [] [⟨4,⟨[(0,wG),(32,wW),(33,BI),(34,BI)],[]⟩,FG⟩]
def AYR:SQ:=mk Tryz.func125 ⟨[(0,rq),(1,.row Y3)],[]⟩ Cd bp [ib,ry] [] []
abbrev i41:A6:=ADB
abbrev o41:A6:=Cd
def s41:SQ:=mk Tryz.func41 i41 o41 LI [ib,s39,AYR,rY] [(7,[0,1])] [⟨2,⟨[(2,Jp),(3,Tk),(9,.c (.sl false Y3)),(10,BI),(11,BI)],AMf⟩,LA⟩]
def AYO:SQ:=mk Tryz.func216 Cd FT cN [] [] []
abbrev i127:A6:=AEE
abbrev AWH:A6:=Cd
def AAy:SQ:=mk Tryz.func127 i127 AWH GY [s38,s39,tT,ry,AYO,AJ4] [(5,[0,1,2])] [⟨3,⟨[(2,Jp),(3,Tk),(5,BI),(9,AIH),(10,BI),(11,BI)],AM9⟩,ML⟩]
def AV4:SQ:=mk Tryz.func128 zo Cd J5 [ib] [] []
def s42:SQ:=mk Tryz.func42 wH Cd Kw [AAy,AV4] [(4,[0])] [⟨2,⟨[(0,wG),(8,.c (.sl false Y6)),(9,BI),(10,BI)],[]⟩,Ee⟩]
def AP4:SQ:=mk Tryz.func250 FT FT T9 [ALx] [] []
def AWr:SQ:=mk Tryz.func218 wB FT SY [AP4] [] []
def AY2:SQ:=mk Tryz.func219 wB Cd Vc [rY,ATe,AH4] [(4,[0,1])] [⟨2,⟨[(1,Jp),(6,Yn),(7,BI),(8,BI)],[yi]⟩,Ly⟩]
def yr:SQ:=mk Tryz.func129 tD Cd Hr [ib,s39,tT,AJ4,AWr,AY2] [] [⟨2,⟨[(2,Jp),(3,Tk),(10,AKg),(11,BI),(12,BI)],ACw⟩,Lo⟩]
def ANi:SQ:=mk Tryz.func130 zf FT Lt [] [] [⟨2,⟨[(6,.c (.sl false Y3)),(7,BI),(8,BI)],[]⟩,IQ⟩]
def s43:SQ:=mk Tryz.func43 wH Cd Ms [yr,ANi] [(4,[0])] [⟨2,⟨[(0,wG),(8,.c (.sl false Y7)),(9,BI),(10,BI)],[]⟩,Fe⟩]
def AVs:SQ:=mk Tryz.func131 zi Cd U6 [ib] [] []
def s44:SQ:=mk Tryz.func44 wH Cd Kh [AVs] [] [⟨2,⟨[(0,wG),(8,.c (.sl false Y9)),(9,BI),(10,BI)],[]⟩,Ed⟩]
def s45:SQ:=mk Tryz.func45 wH Cd OG [s38,rY,AV4] [(4,[0])] [⟨2,⟨[(0,wG),(8,AGR),(9,BI),(10,BI)],[]⟩,GL⟩]
def s15:SQ:=mk Tryz.func15 pw Cd Su [s39,s40,s41,s42,s43,s44,s45] [] []
def s36:SQ:=mk Tryz.func36 FT ⟨[(0,.c (.v .str))],[]⟩ cH [] [] []
def s14:SQ:=mk Tryz.func14 ADR Cd Yu [s36,ib,s38] [] [⟨4,⟨[(1,Jp),(3,Tk),(11,.c (.ref 2)),(12,BI),(13,BI)],[ACi,ACi,.sl 9 tU]⟩,Ds⟩]
abbrev yn:A6:=FT
abbrev AG4:A6:=eE
def AJr:SQ:=mk Tryz.func150 yn AG4 Hw [ib] [] [⟨5,⟨[(0,BI),(3,px),(10,BI)],jM⟩,Km⟩]
abbrev AQW:A6:=ADB
abbrev AWD:A6:=AC9
def AIi:SQ:=mk Tryz.func177 AQW AWD EM [s41,s60] [] []
abbrev ta:A6:=AM5
abbrev AG6:A6:=AMJ
def ATU:QJ:=⟨ta,AG6,(ta.un NA)⟩
def AYe:Z1:=⟨T,Ps (SP.l [s41,s59,s60,ry,AIi]),B3 [(4,[0,1,2])]⟩
def ARP:List (Lp AG6):=[]
theorem Abk(g41:ABD→ACC→Option S1)(g59:List Int→Option dC)(g60:ACC→Option Iq)(AVS:ABD→List Int→Option jH)(AKP:ABD→ACC→Option dD)(n:Nat)(ω:List Bool)(v:ta.V):Ci ⟨T,Ps [(41,⟨i41,o41,i41.un g41⟩),(59,⟨i59,o59,i59.un g59⟩),(60,⟨i60,o60,i60.un g60⟩),(124,⟨i124,AWP,i124.un AVS⟩),(177,⟨AQW,AWD,AQW.un AKP⟩)],B3 [(4,[0,1,2])]⟩ ATU Tryz.f149 (K_ 0 ARP n) ω v=ta.un (fun(p0:ABD) (p1:ACC) (p2:AAD)=>
 (g41 (p0.1,p0.2.1,()) (p1.1,p1.2.1,())).bind fun u1=>
 cond (!u1.1.1)
  ((AKP (p0.1,p0.2.1,()) (p1.1,p1.2.1,())).bind fun u2=>
  some (((((),u2.1.1.2.1,()),0,false,()),()),(u2.2.1,())))
 ((AVS (p0.1,p0.2.1,()) p2).bind fun u3=>
 cond (!u3.1.1)
  ((AKP (p0.1,p0.2.1,()) (p1.1,p1.2.1,())).bind fun u4=>
  some (((((),u4.1.1.2.1,()),0,false,()),()),(u4.2.1,())))
 (cond (((p1.1.length:Int)==30))
  ((AKP (p0.1,p0.2.1,()) (p1.1,p1.2.1,())).bind fun u6=>
  some (((((),u6.1.1.2.1,()),0,false,()),()),(u6.2.1,())))
 ((g60 (p1.1,p1.2.1,())).bind fun u7=>
 (g59 p2).bind fun u8=>
 if u7.2.1.length+1≤Go.M.C7 then(
 let x9:AAg:=u7.2.1++[(u8.2.1,false,0,())]
 some (((((),u7.1.1.2.1,()),(x9.length:Int),true,()),()),(x9,())))else none)))) v:=by rcases ω with _|⟨_|_,_|⟨_|_,_|⟨_|_,_|⟨_|_,_⟩⟩⟩⟩<;>kernel_rfl
theorem AZZ(n:Nat)(ω:List Bool)(v:ta.V):Ci AYe ATU Tryz.f149 (K_ 0 ARP n) ω v=ta.un (NA) v:=Abk LI DF EY Gx EM n ω v
def AT0:SQ:=mk Tryz.func149 ta AG6 NA [s41,s59,s60,ry,AIi] [(4,[0,1,2])] ARP (hJ:= .nil) (he:=AZZ AX)
abbrev i83:A6:=r9
abbrev o83:A6:=⟨nU,[.mem [.ref 1,.v tI,.ref 2,.ref 3,.ref 9,.v tI,.ref 10,.ref 11,.ref 7,.ref 8,.v .bool],C2,XA,C2,Iv,Iv,Iv,Ny,KD,LN,Th,Tf]⟩
def c83:QJ:=⟨i83,o83,(i83.un Ka)⟩
def C83:Z1:=⟨T,Ps (SP.l [AT0,AJr]),B3 [(3,[0,1,2,3,4,5,6,7,8])]⟩
def L83:List (Lp o83):=[]
theorem b83(AVN:ABD→ACC→List Int→Option dq)(xq:Int→Option HQ)(n:Nat)(ω:List Bool)(v:i83.V):Ci ⟨T,Ps [(149,⟨ta,AG6,ta.un AVN⟩),(150,⟨yn,AG4,yn.un xq⟩)],B3 [(3,[0,1,2,3,4,5,6,7,8])]⟩ c83 Tryz.f83 (K_ 9 L83 n) ω v=i83.un (fun(p1:Int) (AE:Int) (Aa:Int) (AM:Bool) (b1:AAD) (b2:AAh) (b3:AAD) (b4:AAg) (b5:AAq) (b6:AA2) (b7:AA3) (b8:AAo)=>
 cond (((b5.length:Int)==4))
  (some ((4,()),(((),AE,(),(),(),Aa,(),(),(),(),AM,()),b1,b2,b3,(),(),(),b7,b8,b4,b5,b6,())))
 ((xq p1).bind fun u2=>
 (AVN (b1,AE,()) (b4,Aa,()) u2.2.1).bind fun u3=>
 cond (!u3.1.1.2.2.1)
  (some ((4,()),(((),AE,(),(),(),Aa,(),(),(),(),AM,()),b1,b2,b3,(),(),(),b7,b8,b4,b5,b6,())))
 (if b5.length+1≤Go.M.C7 then(
 some ((0,()),(((),AE,(),(),(),u3.1.1.1.2.1,(),(),(),(),AM,()),b1,b2,b3,(),(),(),b7,b8,u3.2.1,(b5++[(u3.1.1.2.1,[],())]),[],())))else none))) v:=by rcases ω with _|⟨_|_,_|⟨_|_,_⟩⟩<;>kernel_rfl
theorem e83(n:Nat)(ω:List Bool)(v:i83.V):Ci C83 c83 Tryz.f83 (K_ 9 L83 n) ω v=i83.un (Ka) v:=b83 NA Hw n ω v
def s83:SQ:=mk Tryz.func83 i83 o83 Ka [AT0,AJr] [(3,[0,1,2,3,4,5,6,7,8])] L83 (hJ:= .nil) (he:=e83 AX)
abbrev i226:A6:=AEE
abbrev ATt:A6:=AFa
def AOG:SQ:=mk Tryz.func226 i226 ATt EJ [s62,AAy] [] []
abbrev uI:A6:=ANV
abbrev AJu:A6:=AMQ
def AWw:QJ:=⟨uI,AJu,(uI.un Jk)⟩
def Aa7:Z1:=⟨T,Ps (SP.l [s62,AAy,AOG]),B3 []⟩
def ART:List (Lp AJu):=[]
theorem AZw(g62:ACE→Option K9)(APP:ABD→ACE→Option NR)(AN9:ABD→ACE→Option Xf)(n:Nat)(ω:List Bool)(v:uI.V):Ci ⟨T,Ps [(62,⟨i62,o62,i62.un g62⟩),(127,⟨i127,AWH,i127.un APP⟩),(226,⟨i226,ATt,i226.un AN9⟩)],B3 []⟩ AWw Tryz.f151 (K_ 0 ART n) ω v=uI.un (fun(p0:ABD) (p1:ACE) (p2:AB_)=>
 (g62 (p1.1,p1.2.1,())).bind fun u1=>
 if u1.2.1.length+1≤Go.M.C7 then(
 let x2:AB3:=u1.2.1++[(p2,[],false,())]
 (APP (p0.1,p0.2.1,()) (p1.1,p1.2.1,())).bind fun u3=>
 cond (!u3.1.1)
  ((AN9 (p0.1,p0.2.1,()) (p1.1,p1.2.1,())).bind fun u4=>
  some ((((u4.1.1.1,(),()),0,false,()),()),(u4.2.1,())))
 ((APP (p0.1,p0.2.1,()) (u1.1.1.1,x2,())).bind fun u5=>
 cond (!u5.1.1)
  ((AN9 (p0.1,p0.2.1,()) (p1.1,p1.2.1,())).bind fun u6=>
  some ((((u6.1.1.1,(),()),0,false,()),()),(u6.2.1,())))
 (some ((((u1.1.1.1,(),()),(x2.length:Int),true,()),()),(x2,())))))else none) v:=by rcases ω with _|⟨_|_,_|⟨_|_,_⟩⟩<;>kernel_rfl
theorem AYk(n:Nat)(ω:List Bool)(v:uI.V):Ci Aa7 AWw Tryz.f151 (K_ 0 ART n) ω v=uI.un (Jk) v:=AZw Fz GY EJ n ω v
def AUn:SQ:=mk Tryz.func151 uI AJu Jk [s62,AAy,AOG] [] ART (hJ:= .nil) (he:=AYk AX)
abbrev i152:A6:=mQ
abbrev ADi:A6:=qI
def uG:SQ:=mk Tryz.func152 i152 ADi Dm [AJ4,AT6] [] []
def Abb:SQ:=mk Tryz.func229 ⟨[(0,.row Y10),(1,BI)],[]⟩ FT LY [] [] []
def AY_:SQ:=mk Tryz.func228 ⟨[(0,AGR),(1,BI),(2,.c (.fn 229 []))],[]⟩ qI BM [Abb] [] [⟨3,⟨[(0,AGR),(1,BI),(2,.c (.fn 229 [])),(8,BI),(9,BI),(10,BI)],[]⟩,Ar⟩]
abbrev ARD:A6:=zo
abbrev AUt:A6:=qI
def AQe:SQ:=mk Tryz.func153 ARD AUt IW [AY_] [] []
abbrev i154:A6:=⟨[(0,px),(1,BI),(2,AGR)],[KD]⟩
abbrev Aa2:A6:=⟨AJM,[Iv,KD]⟩
def AVw:SQ:=AO2 (ρ:=Jw 154 0 230 231 34 100) (nm:= "slices.Insert[[]loop.example/g00178/impl.Sent,loop.example/g00178/impl.Sent]") (fv:=Tryz.f230) tOk (mC.ins ⟨by kernel_rfl,by kernel_rfl,by kernel_rfl,by kernel_rfl,by kernel_rfl,by kernel_rfl,by kernel_rfl,by kernel_rfl,by kernel_rfl,by kernel_rfl,by kernel_rfl,by kernel_rfl⟩ mx (by kernel_rfl) (by kernel_rfl) (by kernel_rfl) (by kernel_rfl) (by kernel_rfl) (by kernel_rfl) (by kernel_rfl)) (r:=Y10) rfl (by kernel_rfl) (by kernel_rfl) EI (fun _=>rfl)
abbrev i84:A6:=⟨[(0,Jp),(1,BI),(2,.c (.v .str))],gB⟩
abbrev o84:A6:=⟨nU,[.mem [.ref 1,.v tI,.ref 2,.ref 3,.ref 4,.v tI,.ref 5,.ref 6,.ref 7,.ref 9,.v .bool],C2,XA,C2,LN,Th,Tf,Ny,Iv,KD]⟩
def c84:QJ:=⟨i84,o84,(i84.un Lj)⟩
def C84:Z1:=⟨T,Ps (SP.l [ib,AUn,uG,AQe,AVw]),B3 [(3,[0,1,2,3,4,5,6,7,8]),(8,[0,1,2,3,4,6,7,8])]⟩
def L84:List (Lp o84):=[]
theorem b84(g37:Int→Int→Int→Option Nq)(AXD:ABD→ACE→List UInt8→Option au)(r6:Int→Int→Option Lq)(ATR:ABi→Int→Option Wt)(AT8:Int→AAo→AAo→Option JD)(n:Nat)(ω:List Bool)(v:i84.V):Ci ⟨T,Ps [(37,⟨i37,o37,i37.un g37⟩),(151,⟨uI,AJu,uI.un AXD⟩),(152,⟨i152,ADi,i152.un r6⟩),(153,⟨ARD,AUt,ARD.un ATR⟩),(154,⟨i154,Aa2,i154.un AT8⟩)],B3 [(3,[0,1,2,3,4,5,6,7,8]),(8,[0,1,2,3,4,6,7,8])]⟩ c84 Tryz.f84 (K_ 9 L84 n) ω v=i84.un (fun(p1:Int) (p2:AB_) (AE:Int) (Aa:Int) (AM:Bool) (b1:AAD) (b2:AAh) (b3:AAD) (b4:AAg) (b5:AAq) (b6:AA2) (b7:AA3) (b8:AAo)=>
 (g37 p1 0 (AS ((b5.length:Int)-1))).bind fun u2=>
 cond (!u2.1.1)
  (some ((2,()),(((),AE,(),(),(),Aa,(),(),(),(),AM,()),b1,b2,b3,b4,b5,b6,b7,(),b8,())))
 (if(0:Int)≤p1∧p1<(b5.length:Int)then(
 (AXD (b1,AE,()) ((b5.getD (p1.toNat) (0,[],())).1,(b5.getD (p1.toNat) (0,[],())).2.1,()) p2).bind fun u3=>
 (r6 u3.1.1.1.1 u3.1.1.2.1).bind fun u4=>
 (ATR (b1,AE,b2,b3,b4,Aa,b5,b6,b7,b8,AM,()) u4.1.1.1).bind fun u5=>
 cond (!u3.1.1.2.2.1)
  (some ((4,()),(((),AE,(),(),(),Aa,(),(),(),(),AM,()),b1,b2,b3,b4,b5,b6,b7,(),b8,())))
 (cond (((b8.length:Int)==120))
  (some ((4,()),(((),AE,(),(),(),Aa,(),(),(),(),AM,()),b1,b2,b3,b4,b5,b6,b7,(),b8,())))
 (cond (u5.1.1.2.1)
  (some ((4,()),(((),AE,(),(),(),Aa,(),(),(),(),AM,()),b1,b2,b3,b4,b5,b6,b7,(),b8,())))
 (if(0:Int)≤p1∧p1<(b5.length:Int)then(
 (AT8 u5.1.1.1 [(u4.1.1.1,p2,false,())] b8).bind fun u8=>
 some ((0,()),(((),AE,(),(),(),Aa,(),(),(),(),AM,()),b1,b2,b3,b4,(b5.set (p1.toNat) (u3.1.1.1.1,u3.2.1,())),b6,b7,(),u8.2.2.1,())))else none))))else none)) v:=by rcases ω with _|⟨_|_,_⟩<;>kernel_rfl
theorem e84(n:Nat)(ω:List Bool)(v:i84.V):Ci C84 c84 Tryz.f84 (K_ 9 L84 n) ω v=i84.un (Lj) v:=b84 A3 Jk Dm IW EI n ω v
def s84:SQ:=mk Tryz.func84 i84 o84 Lj [ib,AUn,uG,AQe,AVw] [(3,[0,1,2,3,4,5,6,7,8]),(8,[0,1,2,3,4,6,7,8])] L84 (hJ:= .nil) (he:=e84 AX)
def AFW:SQ:=mk Tryz.func157 zo FT ER [ib,ACO] [] []
abbrev i160:A6:=AM7
abbrev AV5:A6:=eE
def AI2:SQ:=mk Tryz.func160 i160 AV5 JK [ib,s59] [] []
abbrev xw:A6:=⟨[(0,wG),(1,BI),(2,BI)],[]⟩
abbrev AKW:A6:=FT
def AEf:SQ:=mk Tryz.func155 xw AKW Di [AFW,yc,AI2] [] []
def AIq:SQ:=mk Tryz.func236 mR ADu Dk [s61,tM] [] []
def AYS:SQ:=mk Tryz.func232 AFE sC Uy [s61,tM,rY,AIq,AH4] [(3,[0,1,2])] []
abbrev i96:A6:=Cd
abbrev o96:A6:=FT
def s96:SQ:=mk Tryz.func96 i96 o96 KV [] [] []
abbrev ANz:A6:=⟨[(0,Jp),(1,BI),(2,.row Y1)],gB⟩
abbrev AUJ:A6:=qq
def ARZ:SQ:=mk Tryz.func156 ANz AUJ Lm [s96,AYS] [(1,[0,1,2,3,4,5,6,7,8,9]),(3,[0,1,3,4,5,6,7,8,9])] [] (he:=fun ω v=>by rcases ω with _|⟨_|_,_⟩<;>kernel_rfl)
abbrev i85:A6:=AMw
abbrev o85:A6:=qq
def c85:QJ:=⟨i85,o85,(i85.un JY)⟩
def C85:Z1:=⟨T,Ps (SP.l [ib,uG,AEf,ARZ]),B3 [(1,[0,1,2,3,4,5,6,7,8,9]),(3,[0,1,2,3,4,5,6,7,8,9]),(10,[9,10])]⟩
def L85:List (Lp o85):=[]
theorem b85(g37:Int→Int→Int→Option Nq)(r6:Int→Int→Option Lq)(uw:ABi→Int→Int→Option IL)(ATW:Int→ACX→Int→Int→Bool→List Int→AAh→List Int→AAg→AAq→AA2→AA3→AAo→Option bH)(n:Nat)(ω:List Bool)(v:i85.V):Ci ⟨T,Ps [(37,⟨i37,o37,i37.un g37⟩),(152,⟨i152,ADi,i152.un r6⟩),(155,⟨xw,AKW,xw.un uw⟩),(156,⟨ANz,AUJ,ANz.un ATW⟩)],B3 [(1,[0,1,2,3,4,5,6,7,8,9]),(3,[0,1,2,3,4,5,6,7,8,9]),(10,[9,10])]⟩ c85 Tryz.f85 (K_ 9 L85 n) ω v=i85.un (fun(p1:ACS) (AE:Int) (Aa:Int) (AM:Bool) (b1:AAD) (b2:AAh) (b3:AAD) (b4:AAg) (b5:AAq) (b6:AA2) (b7:AA3) (b8:AAo)=>
 (g37 p1.2.1 0 (AS ((b5.length:Int)-1))).bind fun u2=>
 cond (!u2.1.1)
  (some ((2,()),(((),AE,(),(),(),Aa,(),(),(),(),AM,()),b1,b2,b3,b4,b5,b6,b7,b8,())))
 (if(0:Int)≤p1.2.1∧p1.2.1<(b5.length:Int)then(
 (g37 p1.2.2.1 1 (((b5.getD (p1.2.1.toNat) (0,[],())).2.1).length:Int)).bind fun u4=>
 cond (!u4.1.1)
  (some ((2,()),(((),AE,(),(),(),Aa,(),(),(),(),AM,()),b1,b2,b3,b4,b5,b6,b7,b8,())))
 ((uw (b1,AE,b2,b3,b4,Aa,b5,b6,b7,b8,AM,()) p1.2.2.2.1 ((b5.getD (p1.2.1.toNat) (0,[],())).1)).bind fun u6=>
 cond (u6.1.1 !=0)
  (some ((u6.1.1,()),(((),AE,(),(),(),Aa,(),(),(),(),AM,()),b1,b2,b3,b4,b5,b6,b7,b8,())))
 ((r6 ((b5.getD (p1.2.1.toNat) (0,[],())).1) p1.2.2.1).bind fun u8=>
 if(0:Int)≤AS (p1.2.2.1-1)∧AS (p1.2.2.1-1)<(((b5.getD (p1.2.1.toNat) (0,[],())).2.1).length:Int)then(
 (ATW p1.2.2.2.1 (u8.1.1.1,0,false,((((b5.getD (p1.2.1.toNat) (0,[],())).2.1).getD ((AS (p1.2.2.1-1)).toNat) ([],[],false,())).1),()) AE Aa AM b1 b2 b3 b4 b5 b6 b7 b8).bind fun Dd=>
 some ((Dd.1.1,()),(((),Dd.2.1.2.1,(),(),(),Dd.2.1.2.2.2.2.2.1,(),(),(),(),Dd.2.1.2.2.2.2.2.2.2.2.2.2.1,()),Dd.2.2.1,Dd.2.2.2.1,Dd.2.2.2.2.1,Dd.2.2.2.2.2.1,Dd.2.2.2.2.2.2.1,Dd.2.2.2.2.2.2.2.1,Dd.2.2.2.2.2.2.2.2.1,Dd.2.2.2.2.2.2.2.2.2.1,())))else none)))else none)) v:=by kernel_rfl
theorem e85(n:Nat)(ω:List Bool)(v:i85.V):Ci C85 c85 Tryz.f85 (K_ 9 L85 n) ω v=i85.un (JY) v:=b85 A3 Dm Di Lm n ω v
def s85:SQ:=mk Tryz.func85 i85 o85 JY [ib,uG,AEf,ARZ] [(1,[0,1,2,3,4,5,6,7,8,9]),(3,[0,1,2,3,4,5,6,7,8,9]),(10,[9,10])] L85 (hJ:= .nil) (he:=e85 AX)
def Abf:SQ:=mk Tryz.func279 ⟨[(0,.row Y1),(1,BI)],[]⟩ FT TV [] [] []
def AYh:SQ:=mk Tryz.func278 ⟨[(0,Yn),(1,BI),(2,.c (.fn 279 []))],[]⟩ qI B_ [Abf] [] [⟨3,⟨[(0,Yn),(1,BI),(2,.c (.fn 279 [])),(8,BI),(9,BI),(10,BI)],[]⟩,Ay⟩]
def AVY:SQ:=mk Tryz.func246 ADc qI SJ [AYh] [] []
def AZU:SQ:=AO2 (ρ:=Jw 270 0 284 285 84 134) (nm:= "slices.Insert[[]loop.example/g00178/impl.Entry,loop.example/g00178/impl.Entry]") (fv:=Tryz.f284) tOk (mC.ins ⟨by kernel_rfl,by kernel_rfl,by kernel_rfl,by kernel_rfl,by kernel_rfl,by kernel_rfl,by kernel_rfl,by kernel_rfl,by kernel_rfl,by kernel_rfl,by kernel_rfl,by kernel_rfl⟩ mx (by kernel_rfl) (by kernel_rfl) (by kernel_rfl) (by kernel_rfl) (by kernel_rfl) (by kernel_rfl) (by kernel_rfl)) (r:=Y1) rfl (by kernel_rfl) (by kernel_rfl) Dx (fun _=>rfl)
def AVP:SQ:=mk Tryz.func271 AMn ANQ Rj [] [] []
def AST:SQ:=mk Tryz.func237 ⟨[(0,px),(1,.row Y1)],sS⟩ AMT Xa [AVY,AZU,AVP] [(4,[1])] []
def AUq:SQ:=mk Tryz.func163 jl zn NU [ib,s61,tM,AIq,AST] [] [⟨6,⟨[(1,BI),(2,Jp),(4,Tk),(6,nG),(23,Yn),(24,BI),(25,BI)],[AQB,AEs,J1,J1,AJ9,.sl 1 Y1,J1]⟩,Jo⟩]
def AUf:SQ:=mk Tryz.func158 mR zn PD [AUq] [] []
abbrev uY:A6:=jl
abbrev ACe:A6:=wa
def ADQ:SQ:=mk Tryz.func178 uY ACe Ge [tM,AVY] [] []
def AZ6:SQ:=mk Tryz.func286 FT Cd cmp_isNaN_int [] [] []
def Aaf:SQ:=mk Tryz.func272 mQ Cd cmp_Less_int [AZ6] [] []
def Abo:SQ:=mk Tryz.func273 FT Cd Py [] [] []
def AY9:SQ:=mk Tryz.func238 l8 qI GU [Aaf,Abo] [] [⟨3,⟨[(0,aW),(1,BI),(6,BI),(7,BI),(8,BI)],[]⟩,Dq⟩]
def AbK:SQ:=AO2 (ρ:=Jw 239 0 274 275 24 3) (nm:= "slices.Insert[[]int,int]") (fv:=Tryz.f274) tOk (mC.ins ⟨by kernel_rfl,by kernel_rfl,by kernel_rfl,by kernel_rfl,by kernel_rfl,by kernel_rfl,by kernel_rfl,by kernel_rfl,by kernel_rfl,by kernel_rfl,by kernel_rfl,by kernel_rfl⟩ mx (by kernel_rfl) (by kernel_rfl) (by kernel_rfl) (by kernel_rfl) (by kernel_rfl) (by kernel_rfl) (by kernel_rfl)) (r:=tI) rfl (by kernel_rfl) (by kernel_rfl) KA (fun _=>rfl)
def AGl:SQ:=mk Tryz.func164 l8 ACp LL [s59,AY9,AbK] [] []
def AaQ:SQ:=mk Tryz.func234 AMs AMZ S6 [ib,s62,ry,AAy,AGl,AOG] [(6,[0,1,2,4])] []
def AYM:SQ:=mk Tryz.func161 AAU AMC N8 [uG,AQe,ADQ,AaQ] [(6,[0,1,2,3,4,6,7,8,9])] [⟨1,AD9,Cz⟩]
abbrev ADm:A6:=AM_
abbrev APo:A6:=wa
def APb:SQ:=mk Tryz.func174 ADm APo Jz [uG] [] [⟨5,⟨[(2,Jp),(4,Tk),(6,BI),(33,Yn),(34,BI),(35,BI)],[yi,ABp]⟩,Ki⟩]
def AOf:SQ:=mk Tryz.func244 tD vd El [s63,yr] [] []
abbrev AEy:A6:=AMY
abbrev ARs:A6:=AMy
def AT3:SQ:=mk Tryz.func235 AEy ARs P1 [ib,s63,yr,AGl,AOf] [(4,[0,1,2,3,4,6])] []
abbrev i162:A6:=AAU
abbrev ARo:A6:=AMC
def c162:QJ:=⟨i162,ARo,(i162.un Lb)⟩
def AWt:Z1:=⟨T,Ps (SP.l [APb,ADQ,AT3]),B3 [(4,[0,1,2,3,4,5,6,7,8,9]),(6,[0,1,2,3,4,5,7,8,9,10])]⟩
def AE4:List (Lp ARo):=[⟨1,AD9,BT⟩]
abbrev lK:A6:=AD9
theorem ARV(AIn:ABU→Int→Option JR)(uW:ACD→Int→Option NQ)(AJW:ABD→ABU→Int→Int→Option Xg)(n:Nat)(v:lK.V)(ω:List Bool):Hi ⟨T,Ps [(174,⟨ADm,APo,ADm.un AIn⟩),(178,⟨uY,ACe,uY.un uW⟩),(235,⟨AEy,ARs,AEy.un AJW⟩)],B3 [(4,[0,1,2,3,4,5,6,7,8,9]),(6,[0,1,2,3,4,5,7,8,9,10])]⟩ c162 Tryz.f162 (K_ 9 AE4 n) 1 ω (lK.st 81 v)=lK.un (fun(t1:Int) (t2:Int) (t6:Int) (AE:Int) (Aa:Int) (AM:Bool) (b1:AAD) (b2:AAh) (b3:AAD) (b4:AAg) (b5:AAq) (b6:AA2) (b7:AA3) (b8:AAo)=>
 if(0:Int)≤t1∧t1<(b6.length:Int)then(
 cond (decide (t6≤(((b6.getD (t1.toNat) (0,0,[],[],false,[],())).2.2.2.2.2.1).length:Int)))
  (if(0:Int)≤t1∧t1<(b6.length:Int)then(
  (AIn ((b6.getD (t1.toNat) (0,0,[],[],false,[],())).1,(b6.getD (t1.toNat) (0,0,[],[],false,[],())).2.1,(b6.getD (t1.toNat) (0,0,[],[],false,[],())).2.2.1,(b6.getD (t1.toNat) (0,0,[],[],false,[],())).2.2.2.1,(b6.getD (t1.toNat) (0,0,[],[],false,[],())).2.2.2.2.1,(b6.getD (t1.toNat) (0,0,[],[],false,[],())).2.2.2.2.2.1,()) t6).bind fun u2=>
  if(0:Int)≤t2∧t2<(b2.length:Int)then(
  (uW ((b2.getD (t2.toNat) ([],[],0,())).1,(b2.getD (t2.toNat) ([],[],0,())).2.1,(b2.getD (t2.toNat) ([],[],0,())).2.2.1,()) u2.1.1.1.1).bind fun u3=>
  cond (u2.1.1.2.1)
   (cond (u3.1.1.2.1)
    (cond (((u3.1.1.1.1==u2.1.1.1.1)&&((u3.1.1.1.2.1==u2.1.1.1.2.1)&&((u3.1.1.1.2.2.1==u2.1.1.1.2.2.1)&&((u3.1.1.1.2.2.2.1==u2.1.1.1.2.2.2.1)&&true)))))
     (if(0:Int)≤t1∧t1<(b6.length:Int)then(
     (AJW (b1,AE,()) ((b6.getD (t1.toNat) (0,0,[],[],false,[],())).1,(b6.getD (t1.toNat) (0,0,[],[],false,[],())).2.1,(b6.getD (t1.toNat) (0,0,[],[],false,[],())).2.2.1,(b6.getD (t1.toNat) (0,0,[],[],false,[],())).2.2.2.1,(b6.getD (t1.toNat) (0,0,[],[],false,[],())).2.2.2.2.1,(b6.getD (t1.toNat) (0,0,[],[],false,[],())).2.2.2.2.2.1,()) t6 t2).bind fun u5=>
     if(0:Int)≤t1∧t1<(b6.length:Int)then(
     (BT n) t1 t2 (AS (t6+1)) AE Aa AM b1 b2 b3 b4 b5 (b6.set (t1.toNat) (u5.1.1.1.1,u5.1.1.1.2.1,u5.2.1,u5.2.2.1,u5.1.1.1.2.2.2.2.1,u5.2.2.2.1,())) b7 b8)else none)else none)
    ((BT n) t1 t2 (AS (t6+1)) AE Aa AM b1 b2 b3 b4 b5 b6 b7 b8))
   ((BT n) t1 t2 (AS (t6+1)) AE Aa AM b1 b2 b3 b4 b5 b6 b7 b8))
  ((BT n) t1 t2 (AS (t6+1)) AE Aa AM b1 b2 b3 b4 b5 b6 b7 b8))else none)else none)
 (some (((()),()),(((),AE,(),(),(),Aa,(),(),(),(),AM,()),b1,b2,b3,b4,b5,b6,b7,b8,()))))else none) v:=by rcases ω with _|⟨_|_,_⟩<;>kernel_rfl
theorem ANW(n:Nat)(v:lK.V)(ω:List Bool):Hi AWt c162 Tryz.f162 (K_ 9 AE4 n) 1 ω (lK.st 81 v)=lK.un (HG (BT n)) v:=ARV Jz Ge P1 n v ω
theorem AaB(AIn:ABU→Int→Option JR)(uW:ACD→Int→Option NQ)(AJW:ABD→ABU→Int→Int→Option Xg)(n:Nat)(ω:List Bool)(v:i162.V):Ci ⟨T,Ps [(174,⟨ADm,APo,ADm.un AIn⟩),(178,⟨uY,ACe,uY.un uW⟩),(235,⟨AEy,ARs,AEy.un AJW⟩)],B3 [(4,[0,1,2,3,4,5,6,7,8,9]),(6,[0,1,2,3,4,5,7,8,9,10])]⟩ c162 Tryz.f162 (K_ 9 AE4 n) ω v=i162.un (fun(p1:Int) (p2:Int) (AE:Int) (Aa:Int) (AM:Bool) (b1:AAD) (b2:AAh) (b3:AAD) (b4:AAg) (b5:AAq) (b6:AA2) (b7:AA3) (b8:AAo)=>
 (BT n) p1 p2 1 AE Aa AM b1 b2 b3 b4 b5 b6 b7 b8) v:=by kernel_rfl
theorem AaY(n:Nat)(ω:List Bool)(v:i162.V):Ci AWt c162 Tryz.f162 (K_ 9 AE4 n) ω v=i162.un (KJ (BT n)) v:=AaB Jz Ge P1 n ω v
def AYB:SQ:=mk Tryz.func162 i162 ARo Lb [APb,ADQ,AT3] [(4,[0,1,2,3,4,5,6,7,8,9]),(6,[0,1,2,3,4,5,7,8,9,10])] AE4 (hJ:= .cons (fun _=>rfl) ANW (.nil)) (he:=AaY AX)
def s86:SQ:=mk Tryz.func86 r9 qq Qi [AFW,AUf,yc,AI2,AYM,AYB] [(7,[0,1,3,4,5,6,7,8,11]),(11,[0,1,2,3,4,5,6,7,8,9,10]),(17,[0,1,2,3,4,5,6,7,8,9])] [⟨9,⟨[(0,Jp),(1,BI),(6,dR),(41,.c (.ref 5)),(42,BI),(43,BI)],[uR,C2,XA,C2,LN,Th,Tf,Ny,KD,.mem [.any,.any,.v tI]]⟩,Ey⟩,⟨15,⟨[(0,Jp),(1,BI),(72,.c (.ref 6)),(73,BI),(74,BI)],gB⟩,FR⟩]
def s87:SQ:=mk Tryz.func87 AAU qq Pb [s96,AFW,AUq] [(5,[0,1,3,4,5,6,7,8,11])] []
def AVy:SQ:=mk Tryz.func243 ⟨[(0,BI),(1,.c (.nV (.cons tI .unit)))],[]⟩ Cd Mi [] [] []
def AQj:SQ:=mk Tryz.func276 ⟨[(0,aW),(1,AGz)],[]⟩ FT Dz [AVy] [] [⟨2,⟨[(0,aW),(1,AGz),(7,BI),(8,BI)],[]⟩,Bt⟩]
def ANs:SQ:=mk Tryz.func242 ⟨[(0,px),(1,AGz)],[C2]⟩ AMu Cl [AVy,AQj] [] [⟨5,⟨[(0,px),(1,AGz),(5,BI),(6,BI)],[C2]⟩,Bn⟩]
abbrev i168:A6:=l8
abbrev AVp:A6:=ACp
def AI4:SQ:=mk Tryz.func168 i168 AVp HY [s59,ANs] [] []
def Aaw:SQ:=mk Tryz.func165 AME AMZ OM [s62,AAy,AI4] [(8,[0,1,2,4])] [⟨5,⟨[(2,BI),(6,Jp),(8,nB),(19,AIH),(20,BI),(21,BI)],[.mem [.v tI,.ref 1],ko,ANo,.sl 2 Y5]⟩,H6⟩]
def AZI:SQ:=mk Tryz.func166 AMp AMy Ql [s63,yr,AI4] [(7,[0,1,2,3,4,5,6])] [⟨5,⟨[(2,BI),(6,Jp),(8,nG),(19,AKg),(20,BI),(21,BI)],[ATn,D3,J1,jx,AU9,D3,J1,.sl 2 (.sl tI)]⟩,J2⟩]
def s88:SQ:=mk Tryz.func88 r9 ⟨nU,[AO0,C2,XA,Iv,LN,Th,Tf,Ny,KD,C2]⟩ Qf [ry,AFW,AGl,Aaw,AZI] [(9,[0,1,2,3,4,6,7,8,9,10]),(14,[0,1,2,3,4,5,7,8,9,10]),(16,[1,2,3,4,5,6,7,8,9])] [⟨7,⟨[(0,Jp),(1,BI),(35,.c (.ref 5)),(36,BI),(37,BI)],ANE⟩,Hd⟩,⟨12,⟨[(0,Jp),(1,BI),(62,.c (.ref 6)),(63,BI),(64,BI)],ANE⟩,Gz⟩] (hJ:= .cons (fun _=>rfl) (fun n v ω=>by kernel_rfl) (.cons (fun _=>rfl) (fun n v ω=>by rcases ω with _|⟨_|_,_⟩<;>kernel_rfl) (.nil)))
def AYX:SQ:=mk Tryz.func240 mZ Cd Za [tT,ry] [] []
def Aae:SQ:=mk Tryz.func241 ⟨[(0,wW)],[]⟩ ⟨AC0,sS⟩ iP [tM,AST] [] [⟨3,⟨[(3,px),(9,wW),(10,BI),(11,BI)],sS⟩,Nb⟩,⟨8,⟨[(3,px),(9,wW),(10,BI),(11,BI),(19,Yn),(20,BI),(21,BI)],sS⟩,NZ⟩]
abbrev i167:A6:=ANA
abbrev AV7:A6:=⟨AXG,[UE,.sl 1 Y1,J1]⟩
def AUF:SQ:=mk Tryz.func167 i167 AV7 ax [tM,yc,AYX,Aae] [] [⟨5,⟨[(2,aW),(4,BI),(10,Tk),(12,.c (.ref 4)),(36,px),(37,BI),(38,BI)],[UE,AEs,J1,J1,UE]⟩,Sp⟩]
abbrev i89:A6:=r9
abbrev o89:A6:=⟨nU,[AO0,C2,UE,Iv,LN,Th,Tf,Ny,KD,C2]⟩
def c89:QJ:=⟨i89,o89,(i89.un Kb)⟩
def C89:Z1:=⟨T,Ps (SP.l [ib,ACO,AUF,AI4]),B3 [(3,[0,1,3,4,5,6,7,8]),(6,[0,1,3,4,5,6,7,8,9])]⟩
def L89:List (Lp o89):=[]
theorem b89(g37:Int→Int→Int→Option Nq)(yV:ABi→Int→Option Lg)(ATZ:ABD→List Int→Int→Int→AAh→Option Vm)(AW3:List Int→Int→Option X3)(n:Nat)(ω:List Bool)(v:i89.V):Ci ⟨T,Ps [(37,⟨i37,o37,i37.un g37⟩),(123,⟨xn,ALu,xn.un yV⟩),(167,⟨i167,AV7,i167.un ATZ⟩),(168,⟨i168,AVp,i168.un AW3⟩)],B3 [(3,[0,1,3,4,5,6,7,8]),(6,[0,1,3,4,5,6,7,8,9])]⟩ c89 Tryz.f89 (K_ 9 L89 n) ω v=i89.un (fun(p1:Int) (AE:Int) (Aa:Int) (AM:Bool) (b1:AAD) (b2:AAh) (b3:AAD) (b4:AAg) (b5:AAq) (b6:AA2) (b7:AA3) (b8:AAo)=>
 (g37 p1 0 (AS ((b2.length:Int)-1))).bind fun u2=>
 cond (!u2.1.1)
  (some ((2,()),(((),AE,(),(),(),Aa,(),(),(),(),AM,()),b1,b2,(),b4,b5,b6,b7,b8,b3,())))
 ((yV (b1,AE,b2,b3,b4,Aa,b5,b6,b7,b8,AM,()) p1).bind fun u3=>
 cond (!u3.1.1)
  (some ((2,()),(((),AE,(),(),(),Aa,(),(),(),(),AM,()),b1,b2,(),b4,b5,b6,b7,b8,b3,())))
 (let x4:Int:=AS ((b4.length:Int)-1)
 (ATZ (b1,AE,()) b3 p1 (if 0>x4 then 0 else x4) b2).bind fun u6=>
 cond (!u6.1.1.2.1)
  (some ((4,()),(((),AE,(),(),(),Aa,(),(),(),(),AM,()),b1,u6.2.1,(),b4,b5,b6,b7,b8,b3,())))
 (if(0:Int)≤p1∧p1<(u6.2.1.length:Int)then(
 (AW3 b3 p1).bind fun u8=>
 some ((0,()),(((),AE,(),(),(),Aa,(),(),(),(),AM,()),b1,(u6.2.1.set (p1.toNat) (u6.2.2.1,u6.2.2.2.1,u6.1.1.1.2.2.1,())),(),b4,b5,b6,b7,b8,u8.2.1,())))else none)))) v:=by rcases ω with _|⟨_|_,_⟩<;>kernel_rfl
theorem e89(n:Nat)(ω:List Bool)(v:i89.V):Ci C89 c89 Tryz.f89 (K_ 9 L89 n) ω v=i89.un (Kb) v:=b89 A3 C4 ax HY n ω v
def s89:SQ:=mk Tryz.func89 i89 o89 Kb [ib,ACO,AUF,AI4] [(3,[0,1,3,4,5,6,7,8]),(6,[0,1,3,4,5,6,7,8,9])] L89 (hJ:= .nil) (he:=e89 AX)
def AY5:SQ:=mk Tryz.func169 mQ vd jo [] [] []
def s90:SQ:=mk Tryz.func90 ADT ⟨nU,[.mem [.ref 1,.v tI,.ref 2,.ref 3,.ref 4,.v tI,.ref 5,.ref 9,.ref 7,.ref 8,.v .bool],C2,XA,C2,LN,Th,Iv,Ny,KD,Tf]⟩ Qu [ANi,AY5] [(1,[0,1,2,3,4,5,6,7,8])] []
abbrev ADb:A6:=jl
abbrev AOv:A6:=zn
def AUu:SQ:=mk Tryz.func170 ADb AOv O3 [ib,AUf,AIq] [] []
abbrev ADF:A6:=jl
abbrev ARW:A6:=vp
def AVz:SQ:=mk Tryz.func172 ADF ARW QO [tM,rY] [] [⟨5,⟨[(1,BI),(5,px),(14,Yn),(15,BI),(16,BI)],[J1]⟩,Lv⟩]
abbrev i171:A6:=AM6
abbrev ANn:A6:=⟨AQ4,[C2,.sl 1 Y1,jx]⟩
def AV1:SQ:=mk Tryz.func171 i171 ANn QT [s63,rY,yr,AGl,AST,AOf] [(8,[0,1,2,3,4,5,6,7,8,9,10])] [⟨6,⟨[(4,Jp),(5,Tk),(8,nB),(10,AAi),(31,Yn),(32,BI),(33,BI)],[nC,yi,AQN,D3,J1,jx,AOz,C2,.sl 1 Y1,jx]⟩,MR⟩]
abbrev i91:A6:=r9
abbrev o91:A6:=⟨nU,[uR,C2,XA,C2,LN,Th,.sl 2 Y7,Ny,KD]⟩
def c91:QJ:=⟨i91,o91,(i91.un KU)⟩
def C91:Z1:=⟨T,Ps (SP.l [AEf,AUu,AV1,AVz]),B3 [(7,[0,1,2,3,4,5,6,7,8,9]),(8,[0,1,2,3,4,5,6,7,8,9,10,11,12]),(11,[0,1,3,4,5,7,8,9,13])]⟩
def L91:List (Lp o91):=[]
def Hn(ω:List Bool):Prop:= ∀(uw:ABi→Int→Int→Option IL) (ABQ:ACD→Int→Option Ui) (ABa:ABD→ABU→Int→AAs→Option KK) (ABd:ACD→Int→Option KQ) (n:Nat) (v:i91.V),Ci ⟨T,Ps [(155,⟨xw,AKW,xw.un uw⟩),(170,⟨ADb,AOv,ADb.un ABQ⟩),(171,⟨i171,ANn,i171.un ABa⟩),(172,⟨ADF,ARW,ADF.un ABd⟩)],B3 [(7,[0,1,2,3,4,5,6,7,8,9]),(8,[0,1,2,3,4,5,6,7,8,9,10,11,12]),(11,[0,1,3,4,5,7,8,9,13])]⟩ c91 Tryz.f91 (K_ 9 L91 n) ω v=i91.un (fun(p1:Int) (AE:Int) (Aa:Int) (AM:Bool) (b1:AAD) (b2:AAh) (b3:AAD) (b4:AAg) (b5:AAq) (b6:AA2) (b7:AA3) (b8:AAo)=>
 cond (((b6.length:Int)==0))
  (some ((2,()),(((),AE,(),(),(),Aa,(),(),(),(),AM,()),b1,b2,b3,b4,b5,b6,b7,b8,())))
 (if(0:Int)≤(0:Int)∧(0:Int)<(b6.length:Int)then(
 (uw (b1,AE,b2,b3,b4,Aa,b5,b6,b7,b8,AM,()) p1 ((b6.getD 0 (0,0,[],[],false,[],())).2.1)).bind fun u3=>
 cond (u3.1.1 !=0)
  (some ((u3.1.1,()),(((),AE,(),(),(),Aa,(),(),(),(),AM,()),b1,b2,b3,b4,b5,b6,b7,b8,())))
 (if(0:Int)≤p1∧p1<(b2.length:Int)then(
 (ABQ ((b2.getD (p1.toNat) ([],[],0,())).1,(b2.getD (p1.toNat) ([],[],0,())).2.1,(b2.getD (p1.toNat) ([],[],0,())).2.2.1,()) (AS (((b6.getD 0 (0,0,[],[],false,[],())).1)-1))).bind fun u5=>
 (ABd (u5.2.1,u5.2.2.1,u5.1.1.1.2.2.1,()) ((b6.getD 0 (0,0,[],[],false,[],())).2.1)).bind fun u7=>
 (ABa (b1,AE,()) ((b6.getD 0 (0,0,[],[],false,[],())).1,(b6.getD 0 (0,0,[],[],false,[],())).2.1,(b6.getD 0 (0,0,[],[],false,[],())).2.2.1,(b6.getD 0 (0,0,[],[],false,[],())).2.2.2.1,(b6.getD 0 (0,0,[],[],false,[],())).2.2.2.2.1,(b6.getD 0 (0,0,[],[],false,[],())).2.2.2.2.2.1,()) p1 u7.2.1).bind fun u8=>
 cond (!u5.1.1.2.1)
  (some ((4,()),(((),AE,(),(),(),Aa,(),(),(),(),AM,()),b1,b2,b3,b4,b5,b6,b7,b8,())))
 (cond (!u8.1.1.2.1)
  (some ((4,()),(((),AE,(),(),(),Aa,(),(),(),(),AM,()),b1,b2,b3,b4,b5,b6,b7,b8,())))
 (if(0:Int)≤p1∧p1<(b2.length:Int)then(
 if(0:Int)≤(0:Int)∧(0:Int)<(b6.length:Int)then(
 some ((0,()),(((),AE,(),(),(),Aa,(),(),(),(),AM,()),b1,(b2.set (p1.toNat) (u5.2.1,u5.2.2.1,u5.1.1.1.2.2.1,())),b3,b4,b5,(b6.set 0 (u8.1.1.1.1,u8.1.1.1.2.1,u8.2.1,u8.2.2.1,u8.1.1.1.2.2.2.2.1,u8.2.2.2.1,())),b7,b8,())))else none)else none)))else none))else none)) v
theorem AXI:Hn []:=by delta Hn;intros;kernel_rfl
theorem AV2:Hn (false::[]):=by delta Hn;intros;kernel_rfl
theorem AUD(ω:List Bool):Hn (false::false::ω):=by delta Hn;intros;kernel_rfl
theorem AU2:Hn (false::true::[]):=by delta Hn;intros;kernel_rfl
theorem ATT:Hn (false::true::false::[]):=by delta Hn;intros;kernel_rfl
theorem AWp(ω:List Bool):Hn (false::true::false::false::ω):=by delta Hn;intros;kernel_rfl
theorem AW4:Hn (false::true::false::true::[]):=by delta Hn;intros;kernel_rfl
theorem ATr(ω:List Bool):Hn (false::true::false::true::false::ω):=by delta Hn;intros;kernel_rfl
theorem AUp(ω:List Bool):Hn (false::true::false::true::true::ω):=by delta Hn;intros;kernel_rfl
theorem AOV:Hn (false::true::true::[]):=by delta Hn;intros;kernel_rfl
theorem ASC(ω:List Bool):Hn (false::true::true::false::ω):=by delta Hn;intros;kernel_rfl
theorem ARF:Hn (false::true::true::true::[]):=by delta Hn;intros;kernel_rfl
theorem ANk(ω:List Bool):Hn (false::true::true::true::false::ω):=by delta Hn;intros;kernel_rfl
theorem AQa(ω:List Bool):Hn (false::true::true::true::true::ω):=by delta Hn;intros;kernel_rfl
theorem ARp:Hn (true::[]):=by delta Hn;intros;kernel_rfl
theorem AOg(ω:List Bool):Hn (true::false::ω):=by delta Hn;intros;kernel_rfl
theorem AQ3:Hn (true::true::[]):=by delta Hn;intros;kernel_rfl
theorem AOE:Hn (true::true::false::[]):=by delta Hn;intros;kernel_rfl
theorem ANf(ω:List Bool):Hn (true::true::false::false::ω):=by delta Hn;intros;kernel_rfl
theorem AO8:Hn (true::true::false::true::[]):=by delta Hn;intros;kernel_rfl
theorem AOn(ω:List Bool):Hn (true::true::false::true::false::ω):=by delta Hn;intros;kernel_rfl
theorem AQM(ω:List Bool):Hn (true::true::false::true::true::ω):=by delta Hn;intros;kernel_rfl
theorem AP1:Hn (true::true::true::[]):=by delta Hn;intros;kernel_rfl
theorem AOo(ω:List Bool):Hn (true::true::true::false::ω):=by delta Hn;intros;kernel_rfl
theorem AQo:Hn (true::true::true::true::[]):=by delta Hn;intros;kernel_rfl
theorem ARx(ω:List Bool):Hn (true::true::true::true::false::ω):=by delta Hn;intros;kernel_rfl
theorem ARy(ω:List Bool):Hn (true::true::true::true::true::ω):=by delta Hn;intros;kernel_rfl
theorem b91(uw:ABi→Int→Int→Option IL)(ABQ:ACD→Int→Option Ui)(ABa:ABD→ABU→Int→AAs→Option KK)(ABd:ACD→Int→Option KQ)(n:Nat)(ω:List Bool)(v:i91.V):Ci ⟨T,Ps [(155,⟨xw,AKW,xw.un uw⟩),(170,⟨ADb,AOv,ADb.un ABQ⟩),(171,⟨i171,ANn,i171.un ABa⟩),(172,⟨ADF,ARW,ADF.un ABd⟩)],B3 [(7,[0,1,2,3,4,5,6,7,8,9]),(8,[0,1,2,3,4,5,6,7,8,9,10,11,12]),(11,[0,1,3,4,5,7,8,9,13])]⟩ c91 Tryz.f91 (K_ 9 L91 n) ω v=i91.un (fun(p1:Int) (AE:Int) (Aa:Int) (AM:Bool) (b1:AAD) (b2:AAh) (b3:AAD) (b4:AAg) (b5:AAq) (b6:AA2) (b7:AA3) (b8:AAo)=>
 cond (((b6.length:Int)==0))
  (some ((2,()),(((),AE,(),(),(),Aa,(),(),(),(),AM,()),b1,b2,b3,b4,b5,b6,b7,b8,())))
 (if(0:Int)≤(0:Int)∧(0:Int)<(b6.length:Int)then(
 (uw (b1,AE,b2,b3,b4,Aa,b5,b6,b7,b8,AM,()) p1 ((b6.getD 0 (0,0,[],[],false,[],())).2.1)).bind fun u3=>
 cond (u3.1.1 !=0)
  (some ((u3.1.1,()),(((),AE,(),(),(),Aa,(),(),(),(),AM,()),b1,b2,b3,b4,b5,b6,b7,b8,())))
 (if(0:Int)≤p1∧p1<(b2.length:Int)then(
 (ABQ ((b2.getD (p1.toNat) ([],[],0,())).1,(b2.getD (p1.toNat) ([],[],0,())).2.1,(b2.getD (p1.toNat) ([],[],0,())).2.2.1,()) (AS (((b6.getD 0 (0,0,[],[],false,[],())).1)-1))).bind fun u5=>
 (ABd (u5.2.1,u5.2.2.1,u5.1.1.1.2.2.1,()) ((b6.getD 0 (0,0,[],[],false,[],())).2.1)).bind fun u7=>
 (ABa (b1,AE,()) ((b6.getD 0 (0,0,[],[],false,[],())).1,(b6.getD 0 (0,0,[],[],false,[],())).2.1,(b6.getD 0 (0,0,[],[],false,[],())).2.2.1,(b6.getD 0 (0,0,[],[],false,[],())).2.2.2.1,(b6.getD 0 (0,0,[],[],false,[],())).2.2.2.2.1,(b6.getD 0 (0,0,[],[],false,[],())).2.2.2.2.2.1,()) p1 u7.2.1).bind fun u8=>
 cond (!u5.1.1.2.1)
  (some ((4,()),(((),AE,(),(),(),Aa,(),(),(),(),AM,()),b1,b2,b3,b4,b5,b6,b7,b8,())))
 (cond (!u8.1.1.2.1)
  (some ((4,()),(((),AE,(),(),(),Aa,(),(),(),(),AM,()),b1,b2,b3,b4,b5,b6,b7,b8,())))
 (if(0:Int)≤p1∧p1<(b2.length:Int)then(
 if(0:Int)≤(0:Int)∧(0:Int)<(b6.length:Int)then(
 some ((0,()),(((),AE,(),(),(),Aa,(),(),(),(),AM,()),b1,(b2.set (p1.toNat) (u5.2.1,u5.2.2.1,u5.1.1.1.2.2.1,())),b3,b4,b5,(b6.set 0 (u8.1.1.1.1,u8.1.1.1.2.1,u8.2.1,u8.2.2.1,u8.1.1.1.2.2.2.2.1,u8.2.2.2.1,())),b7,b8,())))else none)else none)))else none))else none)) v:=(AF AXI (AF AV2 AUD (AF AU2 (AF ATT AWp (AF AW4 ATr AUp)) (AF AOV ASC (AF ARF ANk AQa)))) (AF ARp AOg (AF AQ3 (AF AOE ANf (AF AO8 AOn AQM)) (AF AP1 AOo (AF AQo ARx ARy))))) ω uw ABQ ABa ABd n v
theorem e91(n:Nat)(ω:List Bool)(v:i91.V):Ci C91 c91 Tryz.f91 (K_ 9 L91 n) ω v=i91.un (KU) v:=b91 Di O3 QT QO n ω v
def s91:SQ:=mk Tryz.func91 i91 o91 KU [AEf,AUu,AV1,AVz] [(7,[0,1,2,3,4,5,6,7,8,9]),(8,[0,1,2,3,4,5,6,7,8,9,10,11,12]),(11,[0,1,3,4,5,7,8,9,13])] L91 (hJ:= .nil) (he:=e91 AX)
def AYc:SQ:=mk Tryz.func277 AEr eE e_ [tT,yc] [] [⟨5,⟨[(2,aW),(7,px),(22,aW),(23,BI),(24,BI)],jM⟩,SF⟩]
def AW7:SQ:=mk Tryz.func245 AEr Cd HB [tT,ry,AKn,AYc] [(3,[0,1])] []
abbrev i173:A6:=AMk
abbrev AVL:A6:=xE
def ATO:SQ:=mk Tryz.func173 i173 AVL QW [s63,yr,AKn,AWr,AOf,AW7] [(1,[0,1,2])] []
abbrev i92:A6:=ADT
abbrev o92:A6:=qq
def c92:QJ:=⟨i92,o92,(i92.un Kd)⟩
def C92:Z1:=⟨T,Ps (SP.l [s96,AI2,ATO]),B3 [(3,[0,1,2,3,4,5,6,7,8]),(4,[0,1,2,3,4,5,7,8,9])]⟩
def L92:List (Lp o92):=[]
theorem b92(g96:Bool→Option eK)(AUe:ACC→Int→Option cY)(AUG:ABD→ABU→List Int→Option dK)(n:Nat)(ω:List Bool)(v:i92.V):Ci ⟨T,Ps [(96,⟨i96,o96,i96.un g96⟩),(160,⟨i160,AV5,i160.un AUe⟩),(173,⟨i173,AVL,i173.un AUG⟩)],B3 [(3,[0,1,2,3,4,5,6,7,8]),(4,[0,1,2,3,4,5,7,8,9])]⟩ c92 Tryz.f92 (K_ 9 L92 n) ω v=i92.un (fun(AE:Int) (Aa:Int) (AM:Bool) (b1:AAD) (b2:AAh) (b3:AAD) (b4:AAg) (b5:AAq) (b6:AA2) (b7:AA3) (b8:AAo)=>
 cond (((b6.length:Int)==0))
  (some ((2,()),(((),AE,(),(),(),Aa,(),(),(),(),AM,()),b1,b2,b3,b4,b5,b6,b7,b8,())))
 (if(0:Int)≤(0:Int)∧(0:Int)<(b6.length:Int)then(
 if(0:Int)≤(0:Int)∧(0:Int)<(b6.length:Int)then(
 (AUe (b4,Aa,()) ((b6.getD 0 (0,0,[],[],false,[],())).2.1)).bind fun u3=>
 (AUG (b1,AE,()) ((b6.getD 0 (0,0,[],[],false,[],())).1,(b6.getD 0 (0,0,[],[],false,[],())).2.1,(b6.getD 0 (0,0,[],[],false,[],())).2.2.1,(b6.getD 0 (0,0,[],[],false,[],())).2.2.2.1,(b6.getD 0 (0,0,[],[],false,[],())).2.2.2.2.1,(b6.getD 0 (0,0,[],[],false,[],())).2.2.2.2.2.1,()) u3.2.1).bind fun u4=>
 if(0:Int)≤(0:Int)∧(0:Int)<(b6.length:Int)then(
 (g96 u4.1.1.2.1).bind fun u6=>
 some ((u6.1.1,()),(((),AE,(),(),(),Aa,(),(),(),(),AM,()),b1,b2,b3,b4,b5,(b6.set 0 (u4.1.1.1.1,u4.1.1.1.2.1,u4.2.1,u4.2.2.1,u4.1.1.1.2.2.2.2.1,u4.2.2.2.1,())),b7,b8,())))else none)else none)else none)) v:=by rcases ω with _|⟨_|_,_|⟨_|_,_⟩⟩<;>kernel_rfl
theorem e92(n:Nat)(ω:List Bool)(v:i92.V):Ci C92 c92 Tryz.f92 (K_ 9 L92 n) ω v=i92.un (Kd) v:=b92 KV JK QW n ω v
def s92:SQ:=mk Tryz.func92 i92 o92 Kd [s96,AI2,ATO] [(3,[0,1,2,3,4,5,6,7,8]),(4,[0,1,2,3,4,5,7,8,9])] L92 (hJ:= .nil) (he:=e92 AX)
def s93:SQ:=mk Tryz.func93 AAU qq Sa [AEf,ARZ,APb] [] []
abbrev i175:A6:=tD
abbrev AVc:A6:=Cd
def AWM:SQ:=mk Tryz.func175 i175 AVc O4 [ry,yr] [] [⟨4,⟨[(2,Jp),(17,AKg),(18,BI),(19,BI)],ADG⟩,K6⟩]
abbrev AQd:A6:=AMt
abbrev AUO:A6:=zj
def AVt:SQ:=mk Tryz.func176 AQd AUO QL [ib,s41,s60,ANi,AIi] [(5,[0,1,2,4])] []
abbrev i94:A6:=ADT
abbrev o94:A6:=⟨nU,[.mem [.ref 1,.v tI,.ref 2,.ref 3,.ref 9,.v tI,.ref 5,.ref 10,.ref 7,.ref 8,.v .bool],C2,XA,C2,Iv,Th,Iv,Ny,KD,LN,Tf]⟩
def c94:QJ:=⟨i94,o94,(i94.un JW)⟩
def C94:Z1:=⟨T,Ps (SP.l [s96,AWM,AVt]),B3 [(3,[0,1,2,3,4,5,6,7,8]),(5,[0,1,2,3,4,5,6,7,8])]⟩
def L94:List (Lp o94):=[]
theorem b94(g96:Bool→Option eK)(AVF:ABD→ABU→Option MV)(AU0:ABD→ACC→Int→Int→Option cu)(n:Nat)(ω:List Bool)(v:i94.V):Ci ⟨T,Ps [(96,⟨i96,o96,i96.un g96⟩),(175,⟨i175,AVc,i175.un AVF⟩),(176,⟨AQd,AUO,AQd.un AU0⟩)],B3 [(3,[0,1,2,3,4,5,6,7,8]),(5,[0,1,2,3,4,5,6,7,8])]⟩ c94 Tryz.f94 (K_ 9 L94 n) ω v=i94.un (fun(AE:Int) (Aa:Int) (AM:Bool) (b1:AAD) (b2:AAh) (b3:AAD) (b4:AAg) (b5:AAq) (b6:AA2) (b7:AA3) (b8:AAo)=>
 cond (((b6.length:Int)==0))
  (some ((2,()),(((),AE,(),(),(),Aa,(),(),(),(),AM,()),b1,b2,b3,(),b5,(),b7,b8,b4,b6,())))
 (if(0:Int)≤(0:Int)∧(0:Int)<(b6.length:Int)then(
 (AVF (b1,AE,()) ((b6.getD 0 (0,0,[],[],false,[],())).1,(b6.getD 0 (0,0,[],[],false,[],())).2.1,(b6.getD 0 (0,0,[],[],false,[],())).2.2.1,(b6.getD 0 (0,0,[],[],false,[],())).2.2.2.1,(b6.getD 0 (0,0,[],[],false,[],())).2.2.2.2.1,(b6.getD 0 (0,0,[],[],false,[],())).2.2.2.2.2.1,())).bind fun u2=>
 cond (!u2.1.1)
  (some ((5,()),(((),AE,(),(),(),Aa,(),(),(),(),AM,()),b1,b2,b3,(),b5,(),b7,b8,b4,b6,())))
 (if(0:Int)≤(0:Int)∧(0:Int)<(b6.length:Int)then(
 if(0:Int)≤(0:Int)∧(0:Int)<(b6.length:Int)then(
 (AU0 (b1,AE,()) (b4,Aa,()) ((b6.getD 0 (0,0,[],[],false,[],())).1) (((b6.getD 0 (0,0,[],[],false,[],())).2.2.2.2.2.1).length:Int)).bind fun u5=>
 cond (u5.1.1.2.1)
  ((g96 u5.1.1.2.1).bind fun u6=>
  some ((u6.1.1,()),(((),AE,(),(),(),u5.1.1.1.2.1,(),(),(),(),AM,()),b1,b2,b3,(),b5,(),b7,b8,u5.2.1,[],())))
 ((g96 u5.1.1.2.1).bind fun u7=>
 some ((u7.1.1,()),(((),AE,(),(),(),Aa,(),(),(),(),AM,()),b1,b2,b3,(),b5,(),b7,b8,b4,b6,()))))else none)else none))else none)) v:=by rcases ω with _|⟨_|_,_⟩<;>kernel_rfl
theorem e94(n:Nat)(ω:List Bool)(v:i94.V):Ci C94 c94 Tryz.f94 (K_ 9 L94 n) ω v=i94.un (JW) v:=b94 KV O4 QL n ω v
def s94:SQ:=mk Tryz.func94 i94 o94 JW [s96,AWM,AVt] [(3,[0,1,2,3,4,5,6,7,8]),(5,[0,1,2,3,4,5,6,7,8])] L94 (hJ:= .nil) (he:=e94 AX)
def s95:SQ:=mk Tryz.func95 AMD zj XT [ib,s41,s60,rY,AIi] [(1,[0,1,2])] []
def Abu:SQ:=mk Tryz.func252 zu FT Qw [] [] [⟨2,⟨[(1,Jp),(6,AIH),(7,BI),(8,BI)],[AIP]⟩,Js⟩]
abbrev AD5:A6:=z_
abbrev APk:A6:=FT
def AWF:SQ:=mk Tryz.func180 AD5 APk Rq [Abu] [] [⟨2,⟨[(1,BI),(8,.c (.sl false Y6)),(9,BI),(10,BI)],[]⟩,PJ⟩]
def AZR:SQ:=mk Tryz.func247 ⟨[(0,rV)],[]⟩ eE Pp [] [] [⟨3,⟨[(3,px),(7,rV),(8,BI),(9,BI)],jM⟩,NV⟩]
def AYW:SQ:=mk Tryz.func248 ⟨[(0,BI),(1,.row Y9)],[]⟩ Cd XX [rY,AP4] [(2,[0])] []
def AUc:SQ:=mk Tryz.func249 ⟨[(0,Jp),(1,.row Y8)],AMz⟩ AMj FF [] [(1,[2])] [] (he:=fun ω v=>by rcases ω with _|⟨_|_,_⟩<;>kernel_rfl)
def Aam:SQ:=mk Tryz.func280 ⟨[(0,rV),(1,aW),(2,BI)],[]⟩ wa Yz [yc,AH4,AVP] [] [⟨3,⟨[(1,aW),(2,BI),(6,Jp),(8,Tk),(9,xP1),(13,rV),(14,BI),(15,BI)],[ABp,ABp]⟩,O1⟩]
def AZm:SQ:=mk Tryz.func251 ⟨[(0,Jp),(1,rV),(2,aW)],AMz⟩ AMj C6 [uG,AUc,Aam] [(0,[0,1])] []
abbrev ACk:A6:=AMX
abbrev APV:A6:=⟨ATg,[.sl 1 Y8]⟩
def AUP:SQ:=mk Tryz.func179 ACk APV Ke [s41,s64,tT,rY,AVs,AKn,AW7,AZR,AYW,AUc,AP4,AZm] [(1,[0,1,2,3]),(8,[0,1,2,3,4,8,9]),(11,[0,1,2,3,4,5,6,7])] []
abbrev i97:A6:=⟨ATY,AMK⟩
abbrev o97:A6:=⟨nU,AMK⟩
def c97:QJ:=⟨i97,o97,(i97.un NM)⟩
def C97:Z1:=⟨T,Ps (SP.l [ib,ACO,AJr,uG,ADQ,AUP,AWF]),B3 [(13,[0,1,2,3,4,5,6,7,8,9,10,11]),(16,[0,1,2,3,4,5,6,8,9,10,11])]⟩
def L97:List (Lp o97):=[⟨7,⟨[(0,Jp),(1,BI),(7,dR),(8,BI),(10,.c (.ref 10)),(43,.c (.ref 11)),(44,BI),(45,BI)],[uR,C2,XA,C2,LN,Th,Tf,.sl 1 Y9,KD,.mem [.v tI,.v tI,.sl true Y8],.sl 9 Y14,D3]⟩,DD⟩]
abbrev sN:A6:=⟨[(0,Jp),(1,BI),(7,dR),(8,BI),(10,.c (.ref 10)),(43,.c (.ref 11)),(44,BI),(45,BI)],[uR,C2,XA,C2,LN,Th,Tf,.sl 1 Y9,KD,.mem [.v tI,.v tI,.sl true Y8],.sl 9 Y14,D3]⟩
theorem AUj(g37:Int→Int→Int→Option Nq)(yV:ABi→Int→Option Lg)(xq:Int→Option HQ)(r6:Int→Int→Option Lq)(uW:ACD→Int→Option NQ)(AIr:ABD→ACC→Int→ACY→ACR→Option Kk)(AIF:ABi→Int→Option Nt)(n:Nat)(v:sN.V)(ω:List Bool):Hi ⟨T,Ps [(37,⟨i37,o37,i37.un g37⟩),(123,⟨xn,ALu,xn.un yV⟩),(150,⟨yn,AG4,yn.un xq⟩),(152,⟨i152,ADi,i152.un r6⟩),(178,⟨uY,ACe,uY.un uW⟩),(179,⟨ACk,APV,ACk.un AIr⟩),(180,⟨AD5,APk,AD5.un AIF⟩)],B3 [(13,[0,1,2,3,4,5,6,7,8,9,10,11]),(16,[0,1,2,3,4,5,6,8,9,10,11])]⟩ c97 Tryz.f97 (K_ 9 L97 n) 7 ω (sN.st 111 v)=sN.un (fun(t1:Int) (t8:Int) (t44:Int) (t45:Int) (AE:Int) (Aa:Int) (AM:Bool) (b1:AAD) (b2:AAh) (b3:AAD) (b4:AAg) (b5:AAq) (b6:AA2) (b7:AA3) (b8:AAo) (fm:Int) (Dw:Int) (cA:ACU) (NG:ACR) (Ef:AAD)=>
 cond (decide (t45<t44))
  (if(0:Int)≤t45∧t45<(Ef.length:Int)then(
  let x8:Int:=(Ef.getD (t45.toNat) 0)
  cond ((decide (x8<(b2.length:Int))))
   ((yV (b1,AE,b2,b3,b4,Aa,b5,b6,b7,b8,AM,()) x8).bind fun Dd=>
   cond (!Dd.1.1)
    (if(0:Int)≤x8∧x8<(b2.length:Int)then(
    (uW ((b2.getD (x8.toNat) ([],[],0,())).1,(b2.getD (x8.toNat) ([],[],0,())).2.1,(b2.getD (x8.toNat) ([],[],0,())).2.2.1,()) t8).bind fun LR=>
    if NG.length+1≤Go.M.C7 then(
    (DD n) t1 t8 t44 (AS (t45+1)) AE Aa AM b1 b2 b3 b4 b5 b6 b7 b8 fm Dw cA (NG++[(x8,LR.1.1.2.1,LR.1.1.1.1,LR.1.1.1.2.1,LR.1.1.1.2.2.1,LR.1.1.1.2.2.2.1,())]) Ef)else none)else none)
   ((DD n) t1 t8 t44 (AS (t45+1)) AE Aa AM b1 b2 b3 b4 b5 b6 b7 b8 fm Dw cA NG Ef))
  ((DD n) t1 t8 t44 (AS (t45+1)) AE Aa AM b1 b2 b3 b4 b5 b6 b7 b8 fm Dw cA NG Ef))else none)
 ((AIF (b1,AE,b2,b3,b4,Aa,b5,b6,b7,b8,AM,()) fm).bind fun Mh=>
 (AIr (b1,AE,()) (b4,Aa,()) Mh.1.1 (fm,Dw,cA,()) NG).bind fun F5=>
 cond (F5.1.1.2.1 !=0)
  (some ((5,()),(((),AE,(),(),(),Aa,(),(),(),(),AM,()),b1,b2,b3,b4,b5,b6,b7,b8,())))
 (if(0:Int)≤t1∧t1<(b7.length:Int)then(
 some ((0,()),(((),AE,(),(),(),Aa,(),(),(),(),AM,()),b1,b2,b3,b4,b5,b6,(b7.set (t1.toNat) (F5.1.1.1.1,F5.1.1.1.2.1,F5.2.1,())),b8,())))else none))) v:=by rcases ω with _|⟨_|_,_|⟨_|_,_⟩⟩<;>kernel_rfl
theorem AW9(n:Nat)(v:sN.V)(ω:List Bool):Hi C97 c97 Tryz.f97 (K_ 9 L97 n) 7 ω (sN.st 111 v)=sN.un (Nx (DD n)) v:=AUj A3 C4 Hw Dm Ge Ke Rq n v ω
theorem b97(g37:Int→Int→Int→Option Nq)(yV:ABi→Int→Option Lg)(xq:Int→Option HQ)(r6:Int→Int→Option Lq)(uW:ACD→Int→Option NQ)(AIr:ABD→ACC→Int→ACY→ACR→Option Kk)(AIF:ABi→Int→Option Nt)(n:Nat)(ω:List Bool)(v:i97.V):Ci ⟨T,Ps [(37,⟨i37,o37,i37.un g37⟩),(123,⟨xn,ALu,xn.un yV⟩),(150,⟨yn,AG4,yn.un xq⟩),(152,⟨i152,ADi,i152.un r6⟩),(178,⟨uY,ACe,uY.un uW⟩),(179,⟨ACk,APV,ACk.un AIr⟩),(180,⟨AD5,APk,AD5.un AIF⟩)],B3 [(13,[0,1,2,3,4,5,6,7,8,9,10,11]),(16,[0,1,2,3,4,5,6,8,9,10,11])]⟩ c97 Tryz.f97 (K_ 9 L97 n) ω v=i97.un (fun(p1:Int) (p2:Int) (AE:Int) (Aa:Int) (AM:Bool) (b1:AAD) (b2:AAh) (b3:AAD) (b4:AAg) (b5:AAq) (b6:AA2) (b7:AA3) (b8:AAo)=>
 (g37 p1 0 (AS ((b7.length:Int)-1))).bind fun u2=>
 cond (!u2.1.1)
  (some ((2,()),(((),AE,(),(),(),Aa,(),(),(),(),AM,()),b1,b2,b3,b4,b5,b6,b7,b8,())))
 (if(0:Int)≤p1∧p1<(b7.length:Int)then(
 (r6 ((b7.getD (p1.toNat) (0,0,[],())).1) ((b7.getD (p1.toNat) (0,0,[],())).2.1)).bind fun u5=>
 (xq p2).bind fun u6=>
 (DD n) p1 u5.1.1.1 (u6.2.1.length:Int) 0 AE Aa AM b1 b2 b3 b4 b5 b6 b7 b8 ((b7.getD (p1.toNat) (0,0,[],())).1) ((b7.getD (p1.toNat) (0,0,[],())).2.1) ((b7.getD (p1.toNat) (0,0,[],())).2.2.1) [] u6.2.1)else none)) v:=by kernel_rfl
theorem e97(n:Nat)(ω:List Bool)(v:i97.V):Ci C97 c97 Tryz.f97 (K_ 9 L97 n) ω v=i97.un (N6 (DD n)) v:=b97 A3 C4 Hw Dm Ge Ke Rq n ω v
def s97:SQ:=mk Tryz.func97 i97 o97 NM [ib,ACO,AJr,uG,ADQ,AUP,AWF] [(13,[0,1,2,3,4,5,6,7,8,9,10,11]),(16,[0,1,2,3,4,5,6,8,9,10,11])] L97 (hJ:= .cons (fun _=>rfl) AW9 (.nil)) (he:=e97 AX)
def AWi:SQ:=mk Tryz.func254 ⟨[(0,.row Y1),(1,.c (.nV (.cons tI .unit)))],[]⟩ Cd P2 [] [] []
def AbZ:SQ:=mk Tryz.func281 ⟨[(0,Yn),(1,ALR)],[]⟩ FT Cj [AWi] [] [⟨2,⟨[(0,Yn),(1,ALR),(7,BI),(8,BI)],[]⟩,BF⟩]
def AZY:SQ:=mk Tryz.func253 ⟨[(0,px),(1,ALR)],sS⟩ AMT Bm [AWi,AbZ] [] [⟨5,⟨[(0,px),(1,ALR),(5,BI),(6,BI)],sS⟩,BB⟩]
def AZ_:SQ:=mk Tryz.func181 jl zn TA [s61,tM,ALx,AIq,AZY] [] []
def s98:SQ:=mk Tryz.func98 r9 qq Pk [s96,AFW,AZ_] [(4,[0,1,2,3,4,5,6,7,8]),(5,[0,1,3,4,5,6,7,8])] [] (he:=fun ω v=>by rcases ω with _|⟨_|_,_⟩<;>kernel_rfl)
def s99:SQ:=AYg (ρ:=Jw 0 99 0 0 31 91) (nm:= "slices.Delete[[]loop.example/g00178/impl.Writer,loop.example/g00178/impl.Writer]") tOk (mC.del ⟨by kernel_rfl,by kernel_rfl,by kernel_rfl,by kernel_rfl,by kernel_rfl,by kernel_rfl,by kernel_rfl,by kernel_rfl,by kernel_rfl,by kernel_rfl,by kernel_rfl,by kernel_rfl⟩ mx (by kernel_rfl) (by kernel_rfl)) (r:=Y6) 2 rfl (by kernel_rfl) (by kernel_rfl) FC (fun _=>rfl)
def s31:SQ:=mk Tryz.func31 AMw ⟨nU,[.mem [.ref 1,.v tI,.ref 2,.ref 9,.ref 10,.v tI,.ref 11,.ref 12,.ref 7,.ref 13,.v .bool],C2,UE,Iv,Iv,Iv,Iv,.sl 1 Y9,Iv,C2,LN,Th,.sl 2 Y7,KD]⟩ Ut [ib,s83,s84,s85,s86,s87,s88,s89,s90,s91,s92,s93,s94,s95,s96,s97,s98,s99] [(27,[0,1,2,3,4,5,6,7,8,9]),(34,[0,1,2,3,4,5,6,7,8,9]),(36,[1,2,3,4,6,7,8,9])] [] (he:=fun ω v=>by rcases ω with _|⟨_|_,_⟩<;>kernel_rfl)
def s11:SQ:=mk Tryz.func11 AMS ⟨ARL,[C2,UE,C2,LN,Th,.sl 2 Y7,.sl 1 Y9,KD]⟩ Pz [s14,s15,s25,s31] [] []
abbrev i17:A6:=AMa
abbrev o17:A6:=⟨AUU,[C2,UE,C2,LN,Th,.sl 2 Y7,.sl 1 Y9,KD,D3]⟩
def s17:SQ:=mk Tryz.func17 i17 o17 LG [s11,s15,s25] [] [⟨6,⟨[(4,Jp),(6,dR),(7,.c (.ref 18)),(25,AQr),(26,BI),(27,BI)],[uR,D3,V5,D3,Oa,V4,V6,V0,VW,rZ,C2,UE,C2,LN,Th,.sl 2 Y7,.sl 1 Y9,KD,D3]⟩,MG⟩]
abbrev i18:A6:=AMa
abbrev o18:A6:=⟨AUU,[C2,UE,C2,LN,en,qC,Ny,KD,D3]⟩
def s18:SQ:=mk Tryz.func18 i18 o18 QY [s10,s13,s26] [(8,[0,1,2,3,4,5,6,7,8,9,10,11,12,13,14,15,16,17,18])] [⟨6,⟨[(1,AQr),(4,Jp),(6,.c (.ref 9)),(7,Yp),(8,BI)],[uR,D3,V5,D3,Oa,V4,V6,V0,VW,D3,ym,C2,UE,C2,LN,en,qC,Ny,KD]⟩,MS⟩] (hJ:= .cons (fun _=>rfl) (fun n v ω=>by rcases ω with _|⟨_|_,_⟩<;>kernel_rfl) (.nil))
abbrev i19:A6:=AAV
abbrev o19:A6:=Cd
def s19:SQ:=mk Tryz.func19 i19 o19 Nc [] [] [⟨4,⟨[(0,aW),(1,aW),(5,BI)],[]⟩,MO⟩]
abbrev i20:A6:=⟨[(0,xP0),(1,BI)],[]⟩
abbrev o20:A6:=FT
def s20:SQ:=mk Tryz.func20 i20 o20 jA [] [] []
abbrev i21:A6:=⟨[(0,AI_),(1,AI_)],[]⟩
abbrev o21:A6:=Cd
def s21:SQ:=mk Tryz.func21 i21 o21 Kc [] [] [⟨4,⟨[(0,AI_),(1,AI_),(5,BI)],[]⟩,Jv⟩]
abbrev i5:A6:=AEo
abbrev o5:A6:=Cd
def c5:QJ:=⟨i5,o5,(i5.un RR)⟩
def C5:Z1:=⟨T,Ps (SP.l [s6,s16,s17,s18,s19,s20,s21]),B3 [(11,[0,1,2,3,4,5,6,7,8,9,10,11,12,13,14,15,16,17,18,19,20,21]),(12,[0,1,2,3,4,5,6,7,8,9,10,11,12,13,14,15,16,17,18,19,20,21,22,23,24,25,26,27,28,29,30,31]),(13,[0,1,2,3,4,5,6,7,8,9,10,11,12,13,14,15,16,17,18,19,20,21,22,23,24,25,26,27,28,29,30,31,32,33,34,35,36,37,38,39,40,41])]⟩
def L5:List (Lp o5):=[]
def zM(ω:List Bool):Prop:= ∀(g6:List Int→Option gx) (g16:List Int→Option FO) (g17:ABi→ACV→Option Ii) (g18:ABi→ACV→Option Ic) (g19:List Int→List Int→Option KL) (g20:List Int→Int→Option kR) (g21:ACU→ACU→Option IX) (n:Nat) (v:i5.V),Ci ⟨T,Ps [(6,⟨i6,o6,i6.un g6⟩),(16,⟨i16,o16,i16.un g16⟩),(17,⟨i17,o17,i17.un g17⟩),(18,⟨i18,o18,i18.un g18⟩),(19,⟨i19,o19,i19.un g19⟩),(20,⟨i20,o20,i20.un g20⟩),(21,⟨i21,o21,i21.un g21⟩)],B3 [(11,[0,1,2,3,4,5,6,7,8,9,10,11,12,13,14,15,16,17,18,19,20,21]),(12,[0,1,2,3,4,5,6,7,8,9,10,11,12,13,14,15,16,17,18,19,20,21,22,23,24,25,26,27,28,29,30,31]),(13,[0,1,2,3,4,5,6,7,8,9,10,11,12,13,14,15,16,17,18,19,20,21,22,23,24,25,26,27,28,29,30,31,32,33,34,35,36,37,38,39,40,41])]⟩ c5 Tryz.f5 (K_ 0 L5 n) ω v=i5.un (fun(p0:AAD)=>
 (g6 p0).bind fun u1=>
 cond (u1.1.1)
  (some ((true,()),()))
 ((g16 p0).bind fun u2=>
 (g17 (u2.1.1.1.1,u2.1.1.1.2.1,u2.1.1.1.2.2.1,u2.1.1.1.2.2.2.1,u2.1.1.1.2.2.2.2.1,u2.1.1.1.2.2.2.2.2.1,u2.1.1.1.2.2.2.2.2.2.1,u2.1.1.1.2.2.2.2.2.2.2.1,u2.1.1.1.2.2.2.2.2.2.2.2.1,u2.1.1.1.2.2.2.2.2.2.2.2.2.1,u2.1.1.1.2.2.2.2.2.2.2.2.2.2.1,()) u2.2.1).bind fun u3=>
 let x4:AAD:=u3.2.2.2.2.2.2.2.2.2.1
 (g18 (u2.1.1.1.1,u2.1.1.1.2.1,u2.1.1.1.2.2.1,u2.1.1.1.2.2.2.1,u2.1.1.1.2.2.2.2.1,u2.1.1.1.2.2.2.2.2.1,u2.1.1.1.2.2.2.2.2.2.1,u2.1.1.1.2.2.2.2.2.2.2.1,u2.1.1.1.2.2.2.2.2.2.2.2.1,u2.1.1.1.2.2.2.2.2.2.2.2.2.1,u2.1.1.1.2.2.2.2.2.2.2.2.2.2.1,()) u2.2.1).bind fun u5=>
 (g19 x4 u5.2.2.2.2.2.2.2.2.2.1).bind fun u7=>
 cond (!u7.1.1)
  (some ((false,()),()))
 (cond (((x4.length:Int)==0))
  (some (((u3.2.2.2.2.2.2.2.2.1.length:Int)==(u2.1.1.1.2.2.2.2.2.2.2.2.2.1.length:Int),()),()))
 ((g20 p0 1).bind fun LR=>
 let x12:Int:=(u2.2.1.length:Int)
 if AS (x12+1)=0 then none else(
 let gd:Int:=LR.1.1.tmod (AS (x12+1))
 if(0:Int)≤(0:Int)∧(0:Int)≤gd∧gd≤(u2.2.1.length:Int)then(
 (g17 (u2.1.1.1.1,u2.1.1.1.2.1,u2.1.1.1.2.2.1,u2.1.1.1.2.2.2.1,u2.1.1.1.2.2.2.2.1,u2.1.1.1.2.2.2.2.2.1,u2.1.1.1.2.2.2.2.2.2.1,u2.1.1.1.2.2.2.2.2.2.2.1,u2.1.1.1.2.2.2.2.2.2.2.2.1,u2.1.1.1.2.2.2.2.2.2.2.2.2.1,u2.1.1.1.2.2.2.2.2.2.2.2.2.2.1,()) ((u2.2.1.drop 0).take ((gd.toNat)-0))).bind fun F5=>
 let x16:AAD:=F5.2.2.2.2.2.2.2.2.2.1
 if(0:Int)≤gd∧gd≤(u2.2.1.length:Int)∧(u2.2.1.length:Int)≤(u2.2.1.length:Int)then(
 (g17 (F5.2.1,F5.1.1.1.2.1,F5.2.2.1,F5.2.2.2.1,F5.2.2.2.2.1,F5.1.1.1.2.2.2.2.2.1,F5.2.2.2.2.2.1,F5.2.2.2.2.2.2.1,F5.2.2.2.2.2.2.2.1,F5.2.2.2.2.2.2.2.2.1,F5.1.1.1.2.2.2.2.2.2.2.2.2.2.1,()) ((u2.2.1.drop (gd.toNat)).take (((u2.2.1.length:Int).toNat)-(gd.toNat)))).bind fun PS=>
 cond (((x16.length:Int)==gd))
  (cond (((AS ((x16.length:Int)+(PS.2.2.2.2.2.2.2.2.2.1.length:Int)))==(x4.length:Int)))
   (cond (((PS.2.2.2.2.2.2.2.2.1.length:Int)==(u3.2.2.2.2.2.2.2.2.1.length:Int)))
    ((g19 PS.2.2.2.1 u3.2.2.2.1).bind fun Yj=>
    cond (Yj.1.1)
     (if(0:Int)≤(0:Int)∧(0:Int)<(PS.2.2.2.2.2.2.2.1.length:Int)then(
     if(0:Int)≤(0:Int)∧(0:Int)<(u3.2.2.2.2.2.2.2.1.length:Int)then(
     (g21 ((PS.2.2.2.2.2.2.2.1.getD 0 (0,0,[],())).2.2.1) ((u3.2.2.2.2.2.2.2.1.getD 0 (0,0,[],())).2.2.1)).bind fun cw=>
     cond (cw.1.1)
      (if(0:Int)≤(1:Int)∧(1:Int)<(PS.2.2.2.2.2.2.2.1.length:Int)then(
      if(0:Int)≤(1:Int)∧(1:Int)<(u3.2.2.2.2.2.2.2.1.length:Int)then(
      (g21 ((PS.2.2.2.2.2.2.2.1.getD 1 (0,0,[],())).2.2.1) ((u3.2.2.2.2.2.2.2.1.getD 1 (0,0,[],())).2.2.1)).bind fun bW=>
      some ((bW.1.1,()),()))else none)else none)
     (some ((false,()),())))else none)else none)
    (some ((false,()),())))
   (some ((false,()),())))
  (some ((false,()),())))
 (some ((false,()),())))else none)else none))))) v
theorem AbA:zM []:=by delta zM;intros;kernel_rfl
theorem AZo:zM (false::[]):=by delta zM;intros;kernel_rfl
theorem Abt(ω:List Bool):zM (false::false::ω):=by delta zM;intros;kernel_rfl
theorem AX5(ω:List Bool):zM (false::true::ω):=by delta zM;intros;kernel_rfl
theorem AY8:zM (true::[]):=by delta zM;intros;kernel_rfl
theorem AZh(ω:List Bool):zM (true::false::ω):=by delta zM;intros;kernel_rfl
theorem AYd(ω:List Bool):zM (true::true::ω):=by delta zM;intros;kernel_rfl
theorem b5(g6:List Int→Option gx)(g16:List Int→Option FO)(g17:ABi→ACV→Option Ii)(g18:ABi→ACV→Option Ic)(g19:List Int→List Int→Option KL)(g20:List Int→Int→Option kR)(g21:ACU→ACU→Option IX)(n:Nat)(ω:List Bool)(v:i5.V):Ci ⟨T,Ps [(6,⟨i6,o6,i6.un g6⟩),(16,⟨i16,o16,i16.un g16⟩),(17,⟨i17,o17,i17.un g17⟩),(18,⟨i18,o18,i18.un g18⟩),(19,⟨i19,o19,i19.un g19⟩),(20,⟨i20,o20,i20.un g20⟩),(21,⟨i21,o21,i21.un g21⟩)],B3 [(11,[0,1,2,3,4,5,6,7,8,9,10,11,12,13,14,15,16,17,18,19,20,21]),(12,[0,1,2,3,4,5,6,7,8,9,10,11,12,13,14,15,16,17,18,19,20,21,22,23,24,25,26,27,28,29,30,31]),(13,[0,1,2,3,4,5,6,7,8,9,10,11,12,13,14,15,16,17,18,19,20,21,22,23,24,25,26,27,28,29,30,31,32,33,34,35,36,37,38,39,40,41])]⟩ c5 Tryz.f5 (K_ 0 L5 n) ω v=i5.un (fun(p0:AAD)=>
 (g6 p0).bind fun u1=>
 cond (u1.1.1)
  (some ((true,()),()))
 ((g16 p0).bind fun u2=>
 (g17 (u2.1.1.1.1,u2.1.1.1.2.1,u2.1.1.1.2.2.1,u2.1.1.1.2.2.2.1,u2.1.1.1.2.2.2.2.1,u2.1.1.1.2.2.2.2.2.1,u2.1.1.1.2.2.2.2.2.2.1,u2.1.1.1.2.2.2.2.2.2.2.1,u2.1.1.1.2.2.2.2.2.2.2.2.1,u2.1.1.1.2.2.2.2.2.2.2.2.2.1,u2.1.1.1.2.2.2.2.2.2.2.2.2.2.1,()) u2.2.1).bind fun u3=>
 let x4:AAD:=u3.2.2.2.2.2.2.2.2.2.1
 (g18 (u2.1.1.1.1,u2.1.1.1.2.1,u2.1.1.1.2.2.1,u2.1.1.1.2.2.2.1,u2.1.1.1.2.2.2.2.1,u2.1.1.1.2.2.2.2.2.1,u2.1.1.1.2.2.2.2.2.2.1,u2.1.1.1.2.2.2.2.2.2.2.1,u2.1.1.1.2.2.2.2.2.2.2.2.1,u2.1.1.1.2.2.2.2.2.2.2.2.2.1,u2.1.1.1.2.2.2.2.2.2.2.2.2.2.1,()) u2.2.1).bind fun u5=>
 (g19 x4 u5.2.2.2.2.2.2.2.2.2.1).bind fun u7=>
 cond (!u7.1.1)
  (some ((false,()),()))
 (cond (((x4.length:Int)==0))
  (some (((u3.2.2.2.2.2.2.2.2.1.length:Int)==(u2.1.1.1.2.2.2.2.2.2.2.2.2.1.length:Int),()),()))
 ((g20 p0 1).bind fun LR=>
 let x12:Int:=(u2.2.1.length:Int)
 if AS (x12+1)=0 then none else(
 let gd:Int:=LR.1.1.tmod (AS (x12+1))
 if(0:Int)≤(0:Int)∧(0:Int)≤gd∧gd≤(u2.2.1.length:Int)then(
 (g17 (u2.1.1.1.1,u2.1.1.1.2.1,u2.1.1.1.2.2.1,u2.1.1.1.2.2.2.1,u2.1.1.1.2.2.2.2.1,u2.1.1.1.2.2.2.2.2.1,u2.1.1.1.2.2.2.2.2.2.1,u2.1.1.1.2.2.2.2.2.2.2.1,u2.1.1.1.2.2.2.2.2.2.2.2.1,u2.1.1.1.2.2.2.2.2.2.2.2.2.1,u2.1.1.1.2.2.2.2.2.2.2.2.2.2.1,()) ((u2.2.1.drop 0).take ((gd.toNat)-0))).bind fun F5=>
 let x16:AAD:=F5.2.2.2.2.2.2.2.2.2.1
 if(0:Int)≤gd∧gd≤(u2.2.1.length:Int)∧(u2.2.1.length:Int)≤(u2.2.1.length:Int)then(
 (g17 (F5.2.1,F5.1.1.1.2.1,F5.2.2.1,F5.2.2.2.1,F5.2.2.2.2.1,F5.1.1.1.2.2.2.2.2.1,F5.2.2.2.2.2.1,F5.2.2.2.2.2.2.1,F5.2.2.2.2.2.2.2.1,F5.2.2.2.2.2.2.2.2.1,F5.1.1.1.2.2.2.2.2.2.2.2.2.2.1,()) ((u2.2.1.drop (gd.toNat)).take (((u2.2.1.length:Int).toNat)-(gd.toNat)))).bind fun PS=>
 cond (((x16.length:Int)==gd))
  (cond (((AS ((x16.length:Int)+(PS.2.2.2.2.2.2.2.2.2.1.length:Int)))==(x4.length:Int)))
   (cond (((PS.2.2.2.2.2.2.2.2.1.length:Int)==(u3.2.2.2.2.2.2.2.2.1.length:Int)))
    ((g19 PS.2.2.2.1 u3.2.2.2.1).bind fun Yj=>
    cond (Yj.1.1)
     (if(0:Int)≤(0:Int)∧(0:Int)<(PS.2.2.2.2.2.2.2.1.length:Int)then(
     if(0:Int)≤(0:Int)∧(0:Int)<(u3.2.2.2.2.2.2.2.1.length:Int)then(
     (g21 ((PS.2.2.2.2.2.2.2.1.getD 0 (0,0,[],())).2.2.1) ((u3.2.2.2.2.2.2.2.1.getD 0 (0,0,[],())).2.2.1)).bind fun cw=>
     cond (cw.1.1)
      (if(0:Int)≤(1:Int)∧(1:Int)<(PS.2.2.2.2.2.2.2.1.length:Int)then(
      if(0:Int)≤(1:Int)∧(1:Int)<(u3.2.2.2.2.2.2.2.1.length:Int)then(
      (g21 ((PS.2.2.2.2.2.2.2.1.getD 1 (0,0,[],())).2.2.1) ((u3.2.2.2.2.2.2.2.1.getD 1 (0,0,[],())).2.2.1)).bind fun bW=>
      some ((bW.1.1,()),()))else none)else none)
     (some ((false,()),())))else none)else none)
    (some ((false,()),())))
   (some ((false,()),())))
  (some ((false,()),())))
 (some ((false,()),())))else none)else none))))) v:=(AF AbA (AF AZo Abt AX5) (AF AY8 AZh AYd)) ω g6 g16 g17 g18 g19 g20 g21 n v
theorem e5(n:Nat)(ω:List Bool)(v:i5.V):Ci C5 c5 Tryz.f5 (K_ 0 L5 n) ω v=i5.un (RR) v:=b5 jY K3 LG QY Nc jA Kc n ω v
def s5:SQ:=mk Tryz.func5 i5 o5 RR [s6,s16,s17,s18,s19,s20,s21] [(11,[0,1,2,3,4,5,6,7,8,9,10,11,12,13,14,15,16,17,18,19,20,21]),(12,[0,1,2,3,4,5,6,7,8,9,10,11,12,13,14,15,16,17,18,19,20,21,22,23,24,25,26,27,28,29,30,31]),(13,[0,1,2,3,4,5,6,7,8,9,10,11,12,13,14,15,16,17,18,19,20,21,22,23,24,25,26,27,28,29,30,31,32,33,34,35,36,37,38,39,40,41])] L5 (hJ:= .nil) (he:=e5 AX)
end
end Go.Proofs.YtdkfcaidapdecaaGreat.Wk
