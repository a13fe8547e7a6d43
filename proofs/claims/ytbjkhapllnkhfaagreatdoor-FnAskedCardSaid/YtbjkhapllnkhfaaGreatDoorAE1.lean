/- Each function computes what was printed: by the kernel. -/
import Derived.Test.YtbjkhapllnkhfaaGreatDoorAE0
import Derived.Test.YtbjkhapllnkhfaaGreatDoorProg
import Derived.KernelRfl
set_option linter.unusedVariables false
set_option linter.unusedSimpArgs false
set_option linter.unusedSectionVars false
namespace Go.Proofs.YtbjkhapllnkhfaaGreatDoor.Wk
open Go Go.Fw Go.M Go.Proofs
noncomputable section
open Go.Shelf Go.RowKit
abbrev i139:BK:=AOj
abbrev AIA:BK:=Bv
def UD:SQ:=mk Tryz.func139 i139 AIA BE [] [] []
def s67:SQ:=mk Tryz.func67 AGR Bv FT [UD] [] [⟨2,⟨[(1,IV),(6,fY),(7,BD),(8,BD)],AKN⟩,Mb⟩]
def Aa1:SQ:=mk Tryz.func218 tK Bv ak [UD] [] [⟨2,⟨[(0,fY),(1,BD),(7,fY),(8,BD),(9,BD)],[]⟩,K_⟩]
def ABs:SQ:=mk Tryz.func140 tC Bv EP [s67,Aa1] [] []
def ANs:SQ:=mk Tryz.func209 Ex Bv IP [UD] [] []
def AXW:SQ:=mk Tryz.func210 Ex Bv bj [UD] [] []
def AFq:SQ:=mk Tryz.func126 Ex Bv DO [ANs,AXW] [] []
def AL0:SQ:=mk Tryz.func150 cR Bv G1 [] [] []
def xi:SQ:=mk Tryz.func127 Ex Ex Es [AFq] [] []
def AMV:SQ:=mk Tryz.func302 ⟨[(0,.row Y1)],[]⟩ Bv NW [AFq,xi,UD,AL0] [(1,[0])] []
def AYj:SQ:=mk Tryz.func219 AGx Bv P_ [AMV] [] [⟨2,⟨[(5,dB),(6,BD),(7,BD)],[]⟩,JB⟩]
def AUU:SQ:=mk Tryz.func220 AGx Bv Ll [] [(4,[0])] [⟨2,⟨[(0,dB),(5,dB),(6,BD),(7,BD)],[]⟩,Gr⟩]
def ABM:SQ:=mk Tryz.func141 si Bv Fq [UD,AYj,AUU] [] []
abbrev i66:BK:=⟨[(0,fY)],[]⟩
abbrev o66:BK:=jG
def s66:SQ:=mk Tryz.func66 i66 o66 DV [] [] []
def AXX:SQ:=mk Tryz.func304 ⟨[(0,BD),(1,.c (.uT (.cons (.sl tI) .unit)))],[]⟩ Bv UA [AEu] [] []
def AcM:SQ:=mk Tryz.func351 ⟨[(0,fY),(1,AMg)],[]⟩ Ex D1 [AXX] [] [⟨2,⟨[(0,fY),(1,AMg),(7,BD),(8,BD)],[]⟩,CI⟩]
def AZU:SQ:=mk Tryz.func303 ⟨[(0,wT),(1,AMg)],[DX]⟩ AOz C3 [AXX,AcM] [] [⟨5,⟨[(0,wT),(1,AMg),(5,BD),(6,BD)],[DX]⟩,B9⟩]
def ANO:SQ:=mk Tryz.func221 AGC ALS Oj [s66,AZU] [] []
abbrev AFl:BK:=AGy
abbrev AMb:BK:=Bv
def AIC:SQ:=mk Tryz.func142 AFl AMb C4 [ANO] [] []
def AaQ:SQ:=mk Tryz.func222 tC Ex dI [ABs,AEu] [] [⟨5,⟨[(2,IV),(5,xP7),(13,fY),(14,BD),(15,BD)],AJv⟩,Qa⟩]
abbrev i143:BK:=tC
abbrev AWv:BK:=Bv
def yf:SQ:=mk Tryz.func143 i143 AWv HP [ABs,AaQ] [(1,[0])] []
def s68:SQ:=mk Tryz.func68 ADQ Bv MI [ABs,ABM,AIC,yf] [] [⟨4,⟨[(0,ADh),(32,AC1),(33,BD),(34,BD)],[]⟩,Fg⟩]
def Aaa:SQ:=mk Tryz.func144 ⟨[(0,zL),(1,.row Y3)],[]⟩ Bv ik [UD,yf] [] []
abbrev i69:BK:=AIo
abbrev o69:BK:=Bv
def s69:SQ:=mk Tryz.func69 i69 o69 L3 [s67,xi,UD,Aaa] [(7,[0,1])] [⟨2,⟨[(2,IV),(3,VN),(9,.c (.sl false Y3)),(10,BD),(11,BD)],AOY⟩,Lw⟩]
def Acl:SQ:=mk Tryz.func223 Bv Ex gu [] [] []
abbrev i145:BK:=AJT
abbrev AVf:BK:=Bv
def AHJ:SQ:=mk Tryz.func145 i145 AVf IM [s67,ABs,yf,AL0,ANs,Acl] [(5,[0,1,2])] [⟨3,⟨[(2,IV),(3,VN),(5,BD),(9,ANI),(10,BD),(11,BD)],APh⟩,NH⟩]
def AUv:SQ:=mk Tryz.func146 AGy Bv KM [UD] [] []
def s70:SQ:=mk Tryz.func70 ADQ Bv LV [AHJ,AUv] [(4,[0])] [⟨2,⟨[(0,ADh),(8,.c (.sl false Y6)),(9,BD),(10,BD)],[]⟩,Ez⟩]
def AMa:SQ:=mk Tryz.func128 Ex Ex TU [AFq] [] []
def AUN:SQ:=mk Tryz.func224 ACH Ex U5 [AMa] [] []
def Aa6:SQ:=mk Tryz.func225 ACH Bv X6 [xi,AUU,AMV] [(4,[0,1])] [⟨2,⟨[(1,IV),(6,dB),(7,BD),(8,BD)],[AFM]⟩,Mv⟩]
def AFL:SQ:=mk Tryz.func147 zZ Bv Im [s67,UD,ABs,ANs,AUN,Aa6] [] [⟨2,⟨[(2,IV),(3,VN),(10,AMi),(11,BD),(12,BD)],AKM⟩,M8⟩]
def ASR:SQ:=mk Tryz.func148 AGU Ex Mk [] [] [⟨2,⟨[(6,.c (.sl false Y3)),(7,BD),(8,BD)],[]⟩,I2⟩]
def s71:SQ:=mk Tryz.func71 ADQ Bv Nn [AFL,ASR] [(4,[0])] [⟨2,⟨[(0,ADh),(8,.c (.sl false Y7)),(9,BD),(10,BD)],[]⟩,GH⟩]
def AW6:SQ:=mk Tryz.func149 zj Bv XW [UD] [] []
def s72:SQ:=mk Tryz.func72 ADQ Bv La [AW6] [] [⟨2,⟨[(0,ADh),(8,xK),(9,BD),(10,BD)],[]⟩,Ey⟩]
def s73:SQ:=mk Tryz.func73 ADQ Bv Pr [xi,AUv,AL0] [(4,[0])] [⟨2,⟨[(0,ADh),(8,AHM),(9,BD),(10,BD)],[]⟩,Gv⟩]
def s36:SQ:=mk Tryz.func36 Va Bv D3 [s67,s68,s69,s70,s71,s72,s73] [] []
def s34:SQ:=mk Tryz.func34 AGR ⟨[(0,.agg [.ref 0,.v tI])],p8⟩ SY [s66] [(1,[0])] []
abbrev i74:BK:=AGU
abbrev o74:BK:=AKQ
def s74:SQ:=mk Tryz.func74 i74 o74 Ep [s66] [] [⟨3,⟨[(2,IV),(3,rS),(10,.c (.sl false Y3)),(11,BD),(12,BD)],[.mem [.ref 1,.v tI],UN,.mem [.ref 3,.v tI],UN]⟩,Ii⟩]
def AVm:SQ:=mk Tryz.func151 AGx ACs KC [] [] []
def s75:SQ:=mk Tryz.func75 si AKv DN [AVm] [(1,[0])] []
abbrev i76:BK:=AGJ
abbrev o76:BK:=AI2
def s76:SQ:=mk Tryz.func76 i76 o76 GX [s66] [] [⟨3,⟨[(2,IV),(3,rS),(10,ANI),(11,BD),(12,BD)],APe⟩,Kp⟩]
def s77:SQ:=mk Tryz.func77 ACH ACY G_ [s66,AVm] [(2,[0,1]),(6,[0,1,2,3,5,6])] [⟨4,⟨[(2,IV),(3,uR),(17,AMi),(18,BD),(19,BD)],APV⟩,Mc⟩] (hJ:= .cons (fun _=>rfl) (fun n v ω=>by rcases ω with _|⟨_|_,_|⟨_|_,_⟩⟩<;>kernel_rfl) (.nil))
def s78:SQ:=mk Tryz.func78 zj AGI OW [] [] []
def s37:SQ:=mk Tryz.func37 Va APY EC [s34,s66,s74,s75,s76,s77,s78] [(1,[0,1]),(5,[0,1,2,3,4,5,6,7,8,9,11,13,14,15,16,17,18,19]),(10,[0,1,2,3,4,5,6,7,8,9,11,12,13,14,16,17,18,19]),(15,[0,1,2,3,4,5,6,7,8,9,11,12,13,14,15,17,18,19]),(20,[0,1,2,3,4,5,6,7,8,9,11,12,13,14,15,16,18,19])] [⟨3,⟨[(1,IV),(2,VN),(3,jw),(25,AC1),(26,BD),(27,BD)],jZ⟩,GC⟩,⟨8,⟨[(1,IV),(2,VN),(3,jw),(40,.c (.sl false Y6)),(41,BD),(42,BD)],jZ⟩,GD⟩,⟨13,⟨[(1,IV),(2,VN),(3,jw),(55,.c (.sl false Y7)),(56,BD),(57,BD)],jZ⟩,FE⟩,⟨18,⟨[(1,IV),(2,VN),(3,jw),(70,xK),(71,BD),(72,BD)],jZ⟩,FQ⟩] (hJ:= .cons (fun _=>rfl) (fun n v ω=>by rcases ω with _|⟨_|_,_|⟨_|_,_⟩⟩<;>kernel_rfl) (.cons (fun _=>rfl) (fun n v ω=>by rcases ω with _|⟨_|_,_|⟨_|_,_⟩⟩<;>kernel_rfl) (.cons (fun _=>rfl) (fun n v ω=>by rcases ω with _|⟨_|_,_|⟨_|_,_⟩⟩<;>kernel_rfl) (.cons (fun _=>rfl) (fun n v ω=>by rcases ω with _|⟨_|_,_|⟨_|_,_⟩⟩<;>kernel_rfl) (.nil))))) (he:=fun ω v=>by rcases ω with _|⟨_|_,_|⟨_|_,_|⟨_|_,_⟩⟩⟩<;>kernel_rfl)
def AZ5:SQ:=mk Tryz.func122 AF9 Bv Xf [] [] []
def s50:SQ:=mk Tryz.func50 Va Bv Sk [s36,AZ5] [] [⟨2,AOT,E4⟩,⟨6,⟨[(1,IV),(5,BD),(6,xP0),(10,xK),(11,BD),(12,BD),(17,AAi),(18,BD),(19,BD)],jg⟩,IC⟩]
def Abg:SQ:=mk Tryz.func123 ACf zp dV [] [] [⟨2,⟨[(1,BD),(9,AHM),(10,BD),(11,BD)],[]⟩,QB⟩]
def s51:SQ:=mk Tryz.func51 Va Bv Uu [s36,Abg] [] [⟨2,AOT,GF⟩,⟨5,⟨[(1,IV),(10,xK),(11,BD),(12,BD),(17,AAi),(18,BD),(19,BD)],jg⟩,HE⟩]
def AVb:SQ:=mk Tryz.func124 AJp zp W9 [] [] [⟨2,⟨[(1,BD),(9,AAi),(10,BD),(11,BD)],[]⟩,UM⟩]
def ARQ:SQ:=mk Tryz.func125 ⟨[(0,BD),(1,.row Y9)],[]⟩ Bv Jk [xi,AMa] [(2,[0])] []
def s52:SQ:=mk Tryz.func52 Va Bv Vm [s36,AVb,ARQ] [] [⟨4,⟨[(1,IV),(19,xK),(20,BD),(21,BD)],jg⟩,GB⟩,⟨7,⟨[(1,IV),(4,VN),(19,xK),(20,BD),(21,BD),(26,AHM),(27,BD),(28,BD)],[AE5,AHR]⟩,HQ⟩]
def s53:SQ:=mk Tryz.func53 Va Bv Sh [s36] [] [⟨4,⟨[(17,xK),(18,BD),(19,BD)],[]⟩,Dk⟩,⟨7,⟨[(17,xK),(18,BD),(19,BD),(24,AAi),(25,BD),(26,BD)],[]⟩,Gp⟩]
def s54:SQ:=mk Tryz.func54 Va Bv Ua [s36,AVb,ARQ,AFq] [(9,[0,1]),(11,[0,1]),(12,[0,1])] [⟨4,⟨[(1,IV),(22,xK),(23,BD),(24,BD)],jg⟩,GA⟩,⟨7,⟨[(1,IV),(22,xK),(23,BD),(24,BD),(29,AAi),(30,BD),(31,BD)],jg⟩,HZ⟩]
def s20:SQ:=mk Tryz.func20 Va Bv L5 [s50,s51,s52,s53,s54] [] []
def s56:SQ:=mk Tryz.func56 Ex cR Hj [Acg] [] []
def s55:SQ:=mk Tryz.func55 Ex cR FD [s56,AFq,xi,AMa] [] []
def s21:SQ:=mk Tryz.func21 AF9 cR EX [s55,s56] [(5,[0])] []
def s38:SQ:=mk Tryz.func38 zj cR Lt [s21] [] []
def s81:SQ:=mk Tryz.func81 ⟨[],[]⟩ ⟨AHP,[.sl 9 .str]⟩ QU [] [] []
def s82:SQ:=mk Tryz.func82 Ex cR Q0 [] [] []
def AUJ:SQ:=txP (rZ (enters_of Tryz.func153 (by kernel_rfl) rfl) q_) rfl LG (fun _=>rfl)
abbrev i228:BK:=tP
abbrev AIm:BK:=om
def yj:SQ:=mk Tryz.func228 i228 AIm DL [ANs,AXW] [] []
def AaV:SQ:=mk Tryz.func154 cR om Qb [s55,s79,AUJ,Aat,yj] [] []
def s83:SQ:=mk Tryz.func83 ⟨[(0,IV),(1,.c (.v tU)),(2,ij)],AJd⟩ ⟨[(0,ij)],AJd⟩ N2 [s79,AUJ,AaV] [] []
def s85:SQ:=mk Tryz.func85 zk Bv Yn [s82,UD,AL0] [] [⟨4,⟨[(1,IV),(3,VN),(11,xP9),(12,BD),(13,BD)],APb⟩,D8⟩]
def AZh:SQ:=mk Tryz.func155 ⟨[(0,.row Y12),(1,.c (.v tU))],[]⟩ zp UL [s55,s56,AFq,AYu] [(4,[0]),(6,[0])] []
def s84:SQ:=mk Tryz.func84 zk zp Xl [s81,s82,s85,AZh] [(3,[0])] [⟨5,⟨[(1,IV),(4,ij),(21,xP7),(22,BD),(23,BD)],[vF,.sl 9 tU]⟩,KA⟩]
def s39:SQ:=mk Tryz.func39 cR AOy UQ [s79,s80,s81,s82,s83,s84] [] [⟨6,⟨[(0,ij),(2,IV),(5,ij),(7,VN),(30,xP9),(31,BD),(32,BD)],APb⟩,I1⟩]
abbrev AEB:BK:=Ex
abbrev ANY:BK:=jG
def ANq:SQ:=mk Tryz.func231 AEB ANY HG [UD] [] [⟨5,⟨[(0,BD),(3,wT),(10,BD)],p8⟩,Lg⟩]
abbrev ASB:BK:=AIo
abbrev AXO:BK:=AKQ
def AN7:SQ:=mk Tryz.func257 ASB AXO GN [s69,s74] [] []
abbrev ABe:BK:=APQ
abbrev AME:BK:=APB
def AW_:Rt:=⟨ABe,AME,(ABe.un Nb)⟩
def AZ1:fX:=⟨T,UE (SP.l [s66,s69,s74,yf,AN7]),Cn [(4,[0,1,2])]⟩
def ASj:List (Lp AME):=[]
theorem AbC(g66:List Int->Option ZX)(g69:ABt->AB_->Option RP)(g74:AB_->Option Hc)(ANc:ABt->List Int->Option gq)(AHs:ABt->AB_->Option Yt)(n:Nat)(ω:List Bool)(v:ABe.V):DR ⟨T,UE [(66,⟨i66,o66,i66.un g66⟩),(69,⟨i69,o69,i69.un g69⟩),(74,⟨i74,o74,i74.un g74⟩),(143,⟨i143,AWv,i143.un ANc⟩),(257,⟨ASB,AXO,ASB.un AHs⟩)],Cn [(4,[0,1,2])]⟩ AW_ Tryz.f230 (Nz 0 ASj n) ω v=ABe.un (cJ g66 g69 g74 ANc AHs) v:=by rcases ω with _|⟨_|_,_|⟨_|_,_|⟨_|_,_|⟨_|_,_⟩⟩⟩⟩<;>kernel_rfl
theorem Abz(n:Nat)(ω:List Bool)(v:ABe.V):DR AZ1 AW_ Tryz.f230 (Nz 0 ASj n) ω v=ABe.un (Nb) v:=AbC DV L3 Ep HP GN n ω v
def AUK:SQ:=mk Tryz.func230 ABe AME Nb [s66,s69,s74,yf,AN7] [(4,[0,1,2])] ASj (hJ:= .nil) (he:=Abz AU)
abbrev AFR:BK:=AAD
abbrev AP3:BK:=⟨u_,[.mem [.ref 1,.v tI,.ref 2,.ref 3,.ref 9,.v tI,.ref 10,.ref 11,.ref 7,.ref 8,.v .bool],DX,av,DX,Je,Je,Je,Px,Lv,N8,Xz,Vz]⟩
def c156:Rt:=⟨AFR,AP3,(AFR.un LA)⟩
def AaO:fX:=⟨T,UE (SP.l [AUK,ANq]),Cn [(3,hl3)]⟩
def AS1:List (Lp AP3):=[]
theorem Ab1(AMP:ABt->AB_->List Int->Option cK)(ri:Int->Option Fm)(n:Nat)(ω:List Bool)(v:AFR.V):DR ⟨T,UE [(230,⟨ABe,AME,ABe.un AMP⟩),(231,⟨AEB,ANY,AEB.un ri⟩)],Cn [(3,hl3)]⟩ c156 Tryz.f156 (Nz 9 AS1 n) ω v=AFR.un (UZ AMP ri) v:=by rcases ω with _|⟨_|_,_|⟨_|_,_⟩⟩<;>kernel_rfl
theorem AbZ(n:Nat)(ω:List Bool)(v:AFR.V):DR AaO c156 Tryz.f156 (Nz 9 AS1 n) ω v=AFR.un (LA) v:=Ab1 Nb HG n ω v
def AY6:SQ:=mk Tryz.func156 AFR AP3 LA [AUK,ANq] [(3,hl3)] AS1 (hJ:= .nil) (he:=AbZ AU)
abbrev ASq:BK:=AJT
abbrev AVQ:BK:=AI2
def AP4:SQ:=mk Tryz.func308 ASq AVQ Fc [s76,AHJ] [] []
abbrev i232:BK:=APG
abbrev AMR:BK:=AO8
def c232:Rt:=⟨i232,AMR,(i232.un KY)⟩
def AZp:fX:=⟨T,UE (SP.l [s76,AHJ,AP4]),Cn []⟩
def ARB:List (Lp AMR):=[]
theorem AZP(g76:ACj->Option I7)(AKd:ABt->ACj->Option OP)(AJf:ABt->ACj->Option TO)(n:Nat)(ω:List Bool)(v:i232.V):DR ⟨T,UE [(76,⟨i76,o76,i76.un g76⟩),(145,⟨i145,AVf,i145.un AKd⟩),(308,⟨ASq,AVQ,ASq.un AJf⟩)],Cn []⟩ c232 Tryz.f232 (Nz 0 ARB n) ω v=i232.un (W8 g76 AKd AJf) v:=by rcases ω with _|⟨_|_,_|⟨_|_,_⟩⟩<;>kernel_rfl
theorem AYY(n:Nat)(ω:List Bool)(v:i232.V):DR AZp c232 Tryz.f232 (Nz 0 ARB n) ω v=i232.un (KY) v:=AZP GX IM Fc n ω v
def AVU:SQ:=mk Tryz.func232 i232 AMR KY [s76,AHJ,AP4] [] ARB (hJ:= .nil) (he:=AYY AU)
def Acf:SQ:=mk Tryz.func310 ⟨[(0,.row Y10),(1,BD)],[]⟩ Ex MA [] [] []
def Aam:SQ:=mk Tryz.func309 ⟨[(0,AHM),(1,BD),(2,.c (.fn 310 []))],[]⟩ om Bc [Acf] [] [⟨3,⟨[(0,AHM),(1,BD),(2,.c (.fn 310 [])),(8,BD),(9,BD),(10,BD)],[]⟩,Ax⟩]
abbrev i233:BK:=AGy
abbrev AWn:BK:=om
def ART:SQ:=mk Tryz.func233 i233 AWn JA [Aam] [] []
abbrev i157:BK:=⟨[(0,IV),(1,BD),(2,ij)],mL⟩
abbrev AQi:BK:=⟨u_,[.mem [.ref 1,.v tI,.ref 2,.ref 3,.ref 4,.v tI,.ref 5,.ref 6,.ref 7,.ref 9,.v .bool],DX,av,DX,N8,Xz,Vz,Px,Je,Lv]⟩
def c157:Rt:=⟨i157,AQi,(i157.un MS)⟩
def AcP:fX:=⟨T,UE (SP.l [UD,yj,AVU,ART,AV6]),Cn [(3,hl3),(8,[0,1,2,3,4,6,7,8])]⟩
def ASY:List (Lp AQi):=[]
theorem AZI(aL:Int->Int->Int->Option GK)(jl:Int->Int->Option Fv)(AN2:ABt->ACj->List UInt8->Option Wb)(AMd:ABx->Int->Option Rh)(ALu:Int->AAr->AAr->Option GL)(n:Nat)(ω:List Bool)(v:i157.V):DR ⟨T,UE [(139,⟨i139,AIA,i139.un aL⟩),(228,⟨i228,AIm,i228.un jl⟩),(232,⟨i232,AMR,i232.un AN2⟩),(233,⟨i233,AWn,i233.un AMd⟩),(234,⟨i234,AZG,i234.un ALu⟩)],Cn [(3,hl3),(8,[0,1,2,3,4,6,7,8])]⟩ c157 Tryz.f157 (Nz 9 ASY n) ω v=i157.un (Ww aL jl AN2 AMd ALu) v:=by rcases ω with _|⟨_|_,_⟩<;>kernel_rfl
theorem AZJ(n:Nat)(ω:List Bool)(v:i157.V):DR AcP c157 Tryz.f157 (Nz 9 ASY n) ω v=i157.un (MS) v:=AZI BE DL KY JA Eb n ω v
def AZm:SQ:=mk Tryz.func157 i157 AQi MS [UD,yj,AVU,ART,AV6] [(3,hl3),(8,[0,1,2,3,4,6,7,8])] ASY (hJ:= .nil) (he:=AZJ AU)
def AJD:SQ:=mk Tryz.func237 AGy Ex Eh [UD,AIC] [] []
abbrev APt:BK:=APL
abbrev AVB:BK:=jG
def AL5:SQ:=mk Tryz.func240 APt AVB Jt [s66,UD] [] []
abbrev ALM:BK:=⟨[(0,ADh),(1,BD),(2,BD)],[]⟩
abbrev AR0:BK:=Ex
def AKn:SQ:=mk Tryz.func235 ALM AR0 Dx [AJD,AEu,AL5] [] []
def ANo:SQ:=mk Tryz.func317 si AKv D4 [s75,ABM] [] []
def AZH:SQ:=mk Tryz.func313 ALO zh Xr [s75,xi,ABM,AMV,ANo] [(3,[0,1,2])] []
abbrev AJB:BK:=Bv
abbrev ARY:BK:=Ex
def ADT:SQ:=mk Tryz.func169 AJB ARY Mt [] [] []
abbrev i236:BK:=⟨[(0,IV),(1,BD),(2,.row Y1)],mL⟩
abbrev AUl:BK:=xc
def AP0:SQ:=mk Tryz.func236 i236 AUl NJ [ADT,AZH] [(1,so),(3,AMu)] [] (he:=fun ω v=>by rcases ω with _|⟨_|_,_⟩<;>kernel_rfl)
abbrev AFF:BK:=AOI
abbrev ARs:BK:=xc
def AUz:Rt:=⟨AFF,ARs,(AFF.un KG)⟩
def AZ0:fX:=⟨T,UE (SP.l [UD,yj,AKn,AP0]),Cn [(1,so),(3,so),(10,[9,10])]⟩
def ASk:List (Lp ARs):=[]
theorem AYk(aL:Int->Int->Int->Option GK)(jl:Int->Int->Option Fv)(ABT:ABx->Int->Int->Option Gy)(AMq:Int->AD4->Int->Int->Bool->List Int->AAZ->List Int->AAP->AAw->AAx->AAp->AAr->Option XD)(n:Nat)(ω:List Bool)(v:AFF.V):DR ⟨T,UE [(139,⟨i139,AIA,i139.un aL⟩),(228,⟨i228,AIm,i228.un jl⟩),(235,⟨ALM,AR0,ALM.un ABT⟩),(236,⟨i236,AUl,i236.un AMq⟩)],Cn [(1,so),(3,so),(10,[9,10])]⟩ AUz Tryz.f158 (Nz 9 ASk n) ω v=AFF.un (Sy aL jl ABT AMq) v:=by kernel_rfl
theorem AYr(n:Nat)(ω:List Bool)(v:AFF.V):DR AZ0 AUz Tryz.f158 (Nz 9 ASk n) ω v=AFF.un (KG) v:=AYk BE DL Dx NJ n ω v
def AZn:SQ:=mk Tryz.func158 AFF ARs KG [UD,yj,AKn,AP0] [(1,so),(3,so),(10,[9,10])] ASk (hJ:= .nil) (he:=AYr AU)
def Aa_:SQ:=mk Tryz.func367 ⟨[(0,.row Y1),(1,BD)],[]⟩ Ex Uc [] [] []
def AZE:SQ:=mk Tryz.func366 ⟨[(0,dB),(1,BD),(2,.c (.fn 367 []))],[]⟩ om CT [Aa_] [] [⟨3,⟨[(0,dB),(1,BD),(2,.c (.fn 367 [])),(8,BD),(9,BD),(10,BD)],[]⟩,BC⟩]
def AUi:SQ:=mk Tryz.func326 AK4 om VD [AZE] [] []
def AUb:SQ:=mk Tryz.func360 AOv AO5 T5 [] [] []
def AQQ:SQ:=mk Tryz.func318 ⟨[(0,wT),(1,.row Y1)],zg⟩ AOL az [AUi,AZD,AUb] [(4,[1])] []
def AWK:SQ:=mk Tryz.func243 ow AGl Ob [s75,UD,ABM,ANo,AQQ] [] [⟨6,⟨[(1,BD),(2,IV),(4,VN),(6,uR),(23,dB),(24,BD),(25,BD)],[ASF,ALQ,KT,KT,ANb,.sl 1 Y1,KT]⟩,KO⟩]
def AWQ:SQ:=mk Tryz.func238 si AGl Qf [AWK] [] []
abbrev ABm:BK:=ow
abbrev AI9:BK:=ADL
def AKr:SQ:=mk Tryz.func258 ABm AI9 FU [ABM,AUi] [] []
def AL7:SQ:=mk Tryz.func244 tK ALS Lx [s66,AZQ,Abq] [] []
def AbO:SQ:=mk Tryz.func315 APM AO1 U8 [s76,UD,yf,AHJ,AL7,AP4] [(6,[0,1,2,4])] []
def AaI:SQ:=mk Tryz.func241 AF_ AOg O2 [yj,ART,AKr,AbO] [(6,[0,1,2,3,4,6,7,8,9])] [⟨1,AJi,DF⟩]
abbrev ALG:BK:=AOF
abbrev ASK:BK:=ADL
def ARn:SQ:=mk Tryz.func254 ALG ASK IZ [yj] [] [⟨5,⟨[(2,IV),(4,VN),(6,BD),(33,dB),(34,BD),(35,BD)],[AFM,AIP]⟩,Li⟩]
def AQB:SQ:=mk Tryz.func324 zZ ACY FJ [s77,AFL] [] []
abbrev AIs:BK:=AOk
abbrev AS2:BK:=AOR
def AVn:SQ:=mk Tryz.func316 AIs AS2 NV [s77,UD,AFL,AL7,AQB] [(4,[0,1,2,3,4,6])] []
abbrev AEa:BK:=AF_
abbrev AQ5:BK:=AOg
def AMw:Rt:=⟨AEa,AQ5,(AEa.un MF)⟩
def AUh:fX:=⟨T,UE (SP.l [ARn,AKr,AVn]),Cn [(4,so),(6,ALP)]⟩
def AJ4:List (Lp AQ5):=[⟨1,AJi,CF⟩]
abbrev rp:BK:=AJi
theorem AS0(ACt:ABv->Int->Option IA)(lB:ACo->Int->Option Ge)(AB3:ABt->ABv->Int->Int->Option QD)(n:Nat)(v:rp.V)(ω:List Bool):JU ⟨T,UE [(254,⟨ALG,ASK,ALG.un ACt⟩),(258,⟨ABm,AI9,ABm.un lB⟩),(316,⟨AIs,AS2,AIs.un AB3⟩)],Cn [(4,so),(6,ALP)]⟩ AMw Tryz.f242 (Nz 9 AJ4 n) 1 ω (rp.st 81 v)=rp.un (Jf ACt lB AB3 (CF n)) v:=by rcases ω with _|⟨_|_,_⟩<;>kernel_rfl
theorem ARM(n:Nat)(v:rp.V)(ω:List Bool):JU AUh AMw Tryz.f242 (Nz 9 AJ4 n) 1 ω (rp.st 81 v)=rp.un (Hq (CF n)) v:=AS0 IZ FU NV n v ω
theorem AZs(ACt:ABv->Int->Option IA)(lB:ACo->Int->Option Ge)(AB3:ABt->ABv->Int->Int->Option QD)(n:Nat)(ω:List Bool)(v:AEa.V):DR ⟨T,UE [(254,⟨ALG,ASK,ALG.un ACt⟩),(258,⟨ABm,AI9,ABm.un lB⟩),(316,⟨AIs,AS2,AIs.un AB3⟩)],Cn [(4,so),(6,ALP)]⟩ AMw Tryz.f242 (Nz 9 AJ4 n) ω v=AEa.un (Nk ACt lB AB3 (CF n)) v:=by kernel_rfl
theorem AYe(n:Nat)(ω:List Bool)(v:AEa.V):DR AUh AMw Tryz.f242 (Nz 9 AJ4 n) ω v=AEa.un (K7 (CF n)) v:=AZs IZ FU NV n ω v
def Aa0:SQ:=mk Tryz.func242 AEa AQ5 MF [ARn,AKr,AVn] [(4,so),(6,ALP)] AJ4 (hJ:= .cons (fun _=>rfl) ARM (.nil)) (he:=AYe AU)
def AbD:SQ:=mk Tryz.func159 AAD xc Se [AJD,AWQ,AEu,AL5,AaI,Aa0] [(7,[0,1,3,4,5,6,7,8,11]),(11,hl9),(17,so)] [⟨9,⟨[(0,IV),(1,BD),(6,mI),(41,.c (.ref 5)),(42,BD),(43,BD)],[AHw,DX,av,DX,N8,Xz,Vz,Px,Lv,.mem [.any,.any,.v tI]]⟩,FK⟩,⟨15,⟨[(0,IV),(1,BD),(72,.c (.ref 6)),(73,BD),(74,BD)],mL⟩,F5⟩]
def AbL:SQ:=mk Tryz.func160 AF_ xc RL [ADT,AJD,AWK] [(5,[0,1,3,4,5,6,7,8,11])] []
def AWb:SQ:=mk Tryz.func323 ⟨[(0,BD),(1,.c (.uT (.cons tI .unit)))],[]⟩ Bv NT [] [] []
def ARt:SQ:=mk Tryz.func351 ⟨[(0,fY),(1,AN1)],[]⟩ Ex EG [AWb] [] [⟨2,⟨[(0,fY),(1,AN1),(7,BD),(8,BD)],[]⟩,CD⟩]
def ARR:SQ:=mk Tryz.func303 ⟨[(0,wT),(1,AN1)],[DX]⟩ AOz C2 [AWb,ARt] [] [⟨5,⟨[(0,wT),(1,AN1),(5,BD),(6,BD)],[DX]⟩,B4⟩]
abbrev ARz:BK:=tK
abbrev AU2:BK:=ALS
def ANk:SQ:=mk Tryz.func248 ARz AU2 H7 [s66,ARR] [] []
def AaR:SQ:=mk Tryz.func245 AOM AO1 Pm [s76,AHJ,ANk] [(8,[0,1,2,4])] [⟨5,⟨[(2,BD),(6,IV),(8,rS),(19,ANI),(20,BD),(21,BD)],[.mem [.v tI,.ref 1],qu,ARx,.sl 2 Y5]⟩,Iv⟩]
def AbS:SQ:=mk Tryz.func246 APO AOR Sg [s77,AFL,ANk] [(7,[0,1,2,3,4,5,6])] [⟨5,⟨[(2,BD),(6,IV),(8,uR),(19,AMi),(20,BD),(21,BD)],[AWY,GW,KT,qD,AXQ,GW,KT,.sl 2 (.sl tI)]⟩,Ka⟩]
def AZV:SQ:=mk Tryz.func161 AAD ⟨u_,[ARK,DX,av,Je,N8,Xz,Vz,Px,Lv,DX]⟩ Sd [yf,AJD,AL7,AaR,AbS] [(9,[0,1,2,3,4,6,7,8,9,10]),(14,ALP),(16,hl8)] [⟨7,⟨[(0,IV),(1,BD),(35,.c (.ref 5)),(36,BD),(37,BD)],AOQ⟩,IF⟩,⟨12,⟨[(0,IV),(1,BD),(62,.c (.ref 6)),(63,BD),(64,BD)],AOQ⟩,Hd⟩] (hJ:= .cons (fun _=>rfl) (fun n v ω=>by kernel_rfl) (.cons (fun _=>rfl) (fun n v ω=>by rcases ω with _|⟨_|_,_⟩<;>kernel_rfl) (.nil)))
def AZO:SQ:=mk Tryz.func321 tC Bv dj [ABs,yf] [] []
def AcV:SQ:=mk Tryz.func322 ⟨[(0,AC1)],[]⟩ ⟨AHP,zg⟩ nw [ABM,AQQ] [] [⟨3,⟨[(3,wT),(9,AC1),(10,BD),(11,BD)],zg⟩,Om⟩,⟨8,⟨[(3,wT),(9,AC1),(10,BD),(11,BD),(19,dB),(20,BD),(21,BD)],zg⟩,Ot⟩]
abbrev ARG:BK:=AOo
abbrev AVZ:BK:=⟨AUw,[aP,.sl 1 Y1,KT]⟩
def AXB:SQ:=mk Tryz.func247 ARG AVZ fo [ABM,AEu,AZO,AcV] [] [⟨5,⟨[(2,fY),(4,BD),(10,VN),(12,.c (.ref 4)),(36,wT),(37,BD),(38,BD)],[aP,ALQ,KT,KT,aP]⟩,Vc⟩]
abbrev i162:BK:=AAD
abbrev ASe:BK:=⟨u_,[ARK,DX,aP,Je,N8,Xz,Vz,Px,Lv,DX]⟩
def c162:Rt:=⟨i162,ASe,(i162.un LH)⟩
def AbK:fX:=⟨T,UE (SP.l [UD,AIC,AXB,ANk]),Cn [(3,AMr),(6,AMu)]⟩
def ASI:List (Lp ASe):=[]
theorem AcI(aL:Int->Int->Int->Option GK)(sG:ABx->Int->Option F9)(AMI:ABt->List Int->Int->Int->AAZ->Option YQ)(ALq:List Int->Int->Option TN)(n:Nat)(ω:List Bool)(v:i162.V):DR ⟨T,UE [(139,⟨i139,AIA,i139.un aL⟩),(142,⟨AFl,AMb,AFl.un sG⟩),(247,⟨ARG,AVZ,ARG.un AMI⟩),(248,⟨ARz,AU2,ARz.un ALq⟩)],Cn [(3,AMr),(6,AMu)]⟩ c162 Tryz.f162 (Nz 9 ASI n) ω v=i162.un (Uw aL sG AMI ALq) v:=by rcases ω with _|⟨_|_,_⟩<;>kernel_rfl
theorem Abt(n:Nat)(ω:List Bool)(v:i162.V):DR AbK c162 Tryz.f162 (Nz 9 ASI n) ω v=i162.un (LH) v:=AcI BE C4 fo H7 n ω v
def AcW:SQ:=mk Tryz.func162 i162 ASe LH [UD,AIC,AXB,ANk] [(3,AMr),(6,AMu)] ASI (hJ:= .nil) (he:=Abt AU)
def AY9:SQ:=mk Tryz.func249 tP ACY oh [] [] []
def AYm:SQ:=mk Tryz.func163 AI1 ⟨u_,[.mem [.ref 1,.v tI,.ref 2,.ref 3,.ref 4,.v tI,.ref 5,.ref 9,.ref 7,.ref 8,.v .bool],DX,av,DX,N8,Xz,Je,Px,Lv,Vz]⟩ Sp [ASR,AY9] [(1,hl3)] []
abbrev ARy:BK:=ow
abbrev AWk:BK:=AGl
def AWr:SQ:=mk Tryz.func250 ARy AWk QP [UD,AWQ,ANo] [] []
abbrev ASH:BK:=ow
abbrev AT3:BK:=ACs
def AVd:SQ:=mk Tryz.func252 ASH AT3 SG [xi,ABM] [] [⟨5,⟨[(1,BD),(5,wT),(14,dB),(15,BD),(16,BD)],[KT]⟩,MM⟩]
abbrev AQy:BK:=APi
abbrev AUn:BK:=⟨AS4,[DX,.sl 1 Y1,qD]⟩
def AW7:SQ:=mk Tryz.func251 AQy AUn SJ [s77,xi,AFL,AL7,AQQ,AQB] [(8,hl9)] [⟨6,⟨[(4,IV),(5,VN),(8,rS),(10,AHj),(31,dB),(32,BD),(33,BD)],[uH,AFM,ARo,GW,KT,qD,AQ1,DX,.sl 1 Y1,qD]⟩,MZ⟩]
abbrev i164:BK:=AAD
abbrev ASS:BK:=⟨u_,[AHw,DX,av,DX,N8,Xz,.sl 2 Y7,Px,Lv]⟩
def c164:Rt:=⟨i164,ASS,(i164.un LI)⟩
def Abx:fX:=⟨T,UE (SP.l [AKn,AWr,AW7,AVd]),Cn [(7,so),(8,AHr),(11,AR4)]⟩
def ARH:List (Lp ASS):=[]
def AKt(ω:List Bool):Prop:= ∀(ABT:ABx->Int->Int->Option Gy) (AM0:ACo->Int->Option XQ) (ANB:ABt->ABv->Int->AAj->Option OO) (ANt:ACo->Int->Option Oc) (n:Nat) (v:i164.V),DR ⟨T,UE [(235,⟨ALM,AR0,ALM.un ABT⟩),(250,⟨ARy,AWk,ARy.un AM0⟩),(251,⟨AQy,AUn,AQy.un ANB⟩),(252,⟨ASH,AT3,ASH.un ANt⟩)],Cn [(7,so),(8,AHr),(11,AR4)]⟩ c164 Tryz.f164 (Nz 9 ARH n) ω v=i164.un (Ug ABT AM0 ANB ANt) v
theorem AR6:∀ω:List Bool,AKt (ω):=by refine AE ?_ (AE ?_ ?_ (AE ?_ (AE ?_ ?_ (AE ?_ ?_ ?_)) (AE ?_ ?_ (AE ?_ ?_ ?_)))) (AE ?_ ?_ (AE ?_ (AE ?_ ?_ (AE ?_ ?_ ?_)) (AE ?_ ?_ (AE ?_ ?_ ?_))))<;>(delta AKt;intros;kernel_rfl)
theorem Abc(ω:List Bool):AKt ω:=AR6 ω
theorem Ab_(n:Nat)(ω:List Bool)(v:i164.V):DR Abx c164 Tryz.f164 (Nz 9 ARH n) ω v=i164.un (LI) v:=Abc ω Dx QP SJ SG n v
def AbW:SQ:=mk Tryz.func164 i164 ASS LI [AKn,AWr,AW7,AVd] [(7,so),(8,AHr),(11,AR4)] ARH (hJ:= .nil) (he:=Ab_ AU)
def Acn:SQ:=mk Tryz.func365 AIw jG lX [ABs,AEu] [] [⟨5,⟨[(2,fY),(7,wT),(22,fY),(23,BD),(24,BD)],p8⟩,Vu⟩]
def AUp:SQ:=mk Tryz.func325 AIw Bv Hh [ABs,yf,ANO,Acn] [(3,[0,1])] []
abbrev AQ8:BK:=AOp
abbrev AVg:BK:=ACA
def AXM:SQ:=mk Tryz.func253 AQ8 AVg Rw [s77,AFL,ANO,AUN,AQB,AUp] [(1,[0,1,2])] []
abbrev AFa:BK:=AI1
abbrev AQn:BK:=xc
def AU4:Rt:=⟨AFa,AQn,(AFa.un LC)⟩
def AYo:fX:=⟨T,UE (SP.l [ADT,AL5,AXM]),Cn [(3,hl3),(4,AN6)]⟩
def AS8:List (Lp AQn):=[]
theorem AYh(zI:Bool->Option YG)(ANU:AB_->Int->Option Yx)(ANn:ABt->ABv->List Int->Option Zd)(n:Nat)(ω:List Bool)(v:AFa.V):DR ⟨T,UE [(169,⟨AJB,ARY,AJB.un zI⟩),(240,⟨APt,AVB,APt.un ANU⟩),(253,⟨AQ8,AVg,AQ8.un ANn⟩)],Cn [(3,hl3),(4,AN6)]⟩ AU4 Tryz.f165 (Nz 9 AS8 n) ω v=AFa.un (U1 zI ANU ANn) v:=by rcases ω with _|⟨_|_,_|⟨_|_,_⟩⟩<;>kernel_rfl
theorem AY2(n:Nat)(ω:List Bool)(v:AFa.V):DR AYo AU4 Tryz.f165 (Nz 9 AS8 n) ω v=AFa.un (LC) v:=AYh Mt Jt Rw n ω v
def AaP:SQ:=mk Tryz.func165 AFa AQn LC [ADT,AL5,AXM] [(3,hl3),(4,AN6)] AS8 (hJ:= .nil) (he:=AY2 AU)
def AZz:SQ:=mk Tryz.func166 AF_ xc Um [AKn,AP0,ARn] [] []
abbrev ASM:BK:=zZ
abbrev AVy:BK:=Bv
def AXR:SQ:=mk Tryz.func255 ASM AVy QL [yf,AFL] [] [⟨4,⟨[(2,IV),(17,AMi),(18,BD),(19,BD)],AKN⟩,LU⟩]
abbrev ASU:BK:=AOe
abbrev AU7:BK:=AGX
def AWj:SQ:=mk Tryz.func256 ASU AU7 SB [s69,s74,UD,ASR,AN7] [(5,[0,1,2,4])] []
abbrev i167:BK:=AI1
abbrev ASg:BK:=⟨u_,[.mem [.ref 1,.v tI,.ref 2,.ref 3,.ref 9,.v tI,.ref 5,.ref 10,.ref 7,.ref 8,.v .bool],DX,av,DX,Je,Xz,Je,Px,Lv,N8,Vz]⟩
def c167:Rt:=⟨i167,ASg,(i167.un KI)⟩
def Abd:fX:=⟨T,UE (SP.l [ADT,AXR,AWj]),Cn [(3,hl3),(5,hl3)]⟩
def ARU:List (Lp ASg):=[]
theorem AcS(zI:Bool->Option YG)(ALw:ABt->ABv->Option NL)(ANp:ABt->AB_->Int->Int->Option ZT)(n:Nat)(ω:List Bool)(v:i167.V):DR ⟨T,UE [(169,⟨AJB,ARY,AJB.un zI⟩),(255,⟨ASM,AVy,ASM.un ALw⟩),(256,⟨ASU,AU7,ASU.un ANp⟩)],Cn [(3,hl3),(5,hl3)]⟩ c167 Tryz.f167 (Nz 9 ARU n) ω v=i167.un (TC zI ALw ANp) v:=by rcases ω with _|⟨_|_,_⟩<;>kernel_rfl
theorem AYi(n:Nat)(ω:List Bool)(v:i167.V):DR Abd c167 Tryz.f167 (Nz 9 ARU n) ω v=i167.un (KI) v:=AcS Mt QL SB n ω v
def AZX:SQ:=mk Tryz.func167 i167 ASg KI [ADT,AXR,AWj] [(3,hl3),(5,hl3)] ARU (hJ:= .nil) (he:=AYi AU)
def Aa7:SQ:=mk Tryz.func168 AO4 AGX aF [s69,s74,xi,UD,AN7] [(1,[0,1,2])] []
def AaN:SQ:=mk Tryz.func330 AGJ Ex Sl [] [] [⟨2,⟨[(1,IV),(6,ANI),(7,BD),(8,BD)],[ANK]⟩,Kg⟩]
abbrev AJV:BK:=ACf
abbrev ARL:BK:=Ex
def AXD:SQ:=mk Tryz.func260 AJV ARL QW [AaN] [] [⟨2,⟨[(1,BD),(8,.c (.sl false Y6)),(9,BD),(10,BD)],[]⟩,P7⟩]
def Aap:SQ:=mk Tryz.func327 ⟨[(0,yc)],[]⟩ jG Q_ [] [] [⟨3,⟨[(3,wT),(7,yc),(8,BD),(9,BD)],p8⟩,OS⟩]
def AWf:SQ:=mk Tryz.func328 ⟨[(0,IV),(1,.row Y8)],AOn⟩ AOm Fu [] [(1,[2])] [] (he:=fun ω v=>by rcases ω with _|⟨_|_,_⟩<;>kernel_rfl)
def AcR:SQ:=mk Tryz.func368 ⟨[(0,yc),(1,fY),(2,BD)],[]⟩ ADL d_ [AEu,AMV,AUb] [] [⟨3,⟨[(1,fY),(2,BD),(6,IV),(8,VN),(9,xP0),(13,yc),(14,BD),(15,BD)],[AIP,AIP]⟩,Qg⟩]
def AY1:SQ:=mk Tryz.func329 ⟨[(0,IV),(1,yc),(2,fY)],AOn⟩ AOm DK [yj,AWf,AcR] [(0,[0,1])] []
abbrev AIt:BK:=AOr
abbrev ASV:BK:=⟨AOc,[.sl 1 Y8]⟩
def AWm:SQ:=mk Tryz.func259 AIt ASV JJ [s69,s78,ARQ,xi,AMa,ABs,AW6,ANO,AUp,Aap,AWf,AY1] [(1,[0,1,2,3]),(8,[0,1,2,3,4,8,9]),(11,[0,1,2,3,4,5,6,7])] []
abbrev AFY:BK:=⟨AOf,AON⟩
abbrev AQY:BK:=⟨u_,AON⟩
def AM2:Rt:=⟨AFY,AQY,(AFY.un OL)⟩
def AXF:fX:=⟨T,UE (SP.l [UD,AIC,yj,ANq,AKr,AWm,AXD]),Cn [(13,lx),(16,AMN)]⟩
def AJ6:List (Lp AQY):=[⟨7,⟨[(0,IV),(1,BD),(7,mI),(8,BD),(10,.c (.ref 10)),(43,.c (.ref 11)),(44,BD),(45,BD)],[AHw,DX,av,DX,N8,Xz,Vz,.sl 1 Y9,Lv,.mem [.v tI,.v tI,.sl true Y8],.sl 9 Y14,GW]⟩,ER⟩]
abbrev qo:BK:=⟨[(0,IV),(1,BD),(7,mI),(8,BD),(10,.c (.ref 10)),(43,.c (.ref 11)),(44,BD),(45,BD)],[AHw,DX,av,DX,N8,Xz,Vz,.sl 1 Y9,Lv,.mem [.v tI,.v tI,.sl true Y8],.sl 9 Y14,GW]⟩
theorem ARk(aL:Int->Int->Int->Option GK)(sG:ABx->Int->Option F9)(jl:Int->Int->Option Fv)(ri:Int->Option Fm)(lB:ACo->Int->Option Ge)(ACZ:ABt->AB_->Int->ADk->AD2->Option HS)(AC_:ABx->Int->Option Js)(n:Nat)(v:qo.V)(ω:List Bool):JU ⟨T,UE [(139,⟨i139,AIA,i139.un aL⟩),(142,⟨AFl,AMb,AFl.un sG⟩),(228,⟨i228,AIm,i228.un jl⟩),(231,⟨AEB,ANY,AEB.un ri⟩),(258,⟨ABm,AI9,ABm.un lB⟩),(259,⟨AIt,ASV,AIt.un ACZ⟩),(260,⟨AJV,ARL,AJV.un AC_⟩)],Cn [(13,lx),(16,AMN)]⟩ AM2 Tryz.f170 (Nz 9 AJ6 n) 7 ω (qo.st 111 v)=qo.un (TG aL sG jl ri lB ACZ AC_ (ER n)) v:=by rcases ω with _|⟨_|_,_|⟨_|_,_⟩⟩<;>kernel_rfl
theorem AQG(n:Nat)(v:qo.V)(ω:List Bool):JU AXF AM2 Tryz.f170 (Nz 9 AJ6 n) 7 ω (qo.st 111 v)=qo.un (O5 (ER n)) v:=ARk BE C4 DL HG FU JJ QW n v ω
theorem AYz(aL:Int->Int->Int->Option GK)(sG:ABx->Int->Option F9)(jl:Int->Int->Option Fv)(ri:Int->Option Fm)(lB:ACo->Int->Option Ge)(ACZ:ABt->AB_->Int->ADk->AD2->Option HS)(AC_:ABx->Int->Option Js)(n:Nat)(ω:List Bool)(v:AFY.V):DR ⟨T,UE [(139,⟨i139,AIA,i139.un aL⟩),(142,⟨AFl,AMb,AFl.un sG⟩),(228,⟨i228,AIm,i228.un jl⟩),(231,⟨AEB,ANY,AEB.un ri⟩),(258,⟨ABm,AI9,ABm.un lB⟩),(259,⟨AIt,ASV,AIt.un ACZ⟩),(260,⟨AJV,ARL,AJV.un AC_⟩)],Cn [(13,lx),(16,AMN)]⟩ AM2 Tryz.f170 (Nz 9 AJ6 n) ω v=AFY.un (TS aL sG jl ri lB ACZ AC_ (ER n)) v:=by kernel_rfl
theorem Aad(n:Nat)(ω:List Bool)(v:AFY.V):DR AXF AM2 Tryz.f170 (Nz 9 AJ6 n) ω v=AFY.un (PE (ER n)) v:=AYz BE C4 DL HG FU JJ QW n ω v
def AZj:SQ:=mk Tryz.func170 AFY AQY OL [UD,AIC,yj,ANq,AKr,AWm,AXD] [(13,lx),(16,AMN)] AJ6 (hJ:= .cons (fun _=>rfl) AQG (.nil)) (he:=Aad AU)
def AT8:SQ:=mk Tryz.func332 ⟨[(0,.row Y1),(1,.c (.uT (.cons tI .unit)))],[]⟩ Bv Qx [] [] []
def AZB:SQ:=mk Tryz.func369 ⟨[(0,dB),(1,AN4)],[]⟩ Ex C1 [AT8] [] [⟨2,⟨[(0,dB),(1,AN4),(7,BD),(8,BD)],[]⟩,BW⟩]
def AZi:SQ:=mk Tryz.func331 ⟨[(0,wT),(1,AN4)],zg⟩ AOL Bw [AT8,AZB] [] [⟨5,⟨[(0,wT),(1,AN4),(5,BD),(6,BD)],zg⟩,BR⟩]
def AaA:SQ:=mk Tryz.func261 ow AGl UO [s75,AFq,ABM,ANo,AZi] [] []
def AZS:SQ:=mk Tryz.func171 AAD xc Q5 [ADT,AJD,AaA] [(4,hl3),(5,AMr)] [] (he:=fun ω v=>by rcases ω with _|⟨_|_,_⟩<;>kernel_rfl)
def s86:SQ:=mk Tryz.func86 AOI ⟨u_,[.mem [.ref 1,.v tI,.ref 2,.ref 9,.ref 10,.v tI,.ref 11,.ref 12,.ref 7,.ref 13,.v .bool],DX,aP,Je,Je,Je,Je,.sl 1 Y9,Je,DX,N8,Xz,.sl 2 Y7,Lv]⟩ Xg [UD,AY6,AZm,AZn,AbD,AbL,AZV,AcW,AYm,AbW,AaP,AZz,AZX,Aa7,ADT,AZj,AZS,AZM] [(27,so),(34,so),(36,[1,2,3,4,6,7,8,9])] [] (he:=fun ω v=>by rcases ω with _|⟨_|_,_⟩<;>kernel_rfl)
def s40:SQ:=mk Tryz.func40 AO2 ⟨AP6,APD⟩ Nq [s36,s37,s85,s86] [] []
def s14:SQ:=mk Tryz.func14 ALD ⟨AKY,APD⟩ DB [s20,s36,s37,s38,s39,s40] [(10,[0]),(12,[0]),(17,[0,2,3,4,5,6,7,8,9,10,11])] [] (he:=fun ω v=>by rcases ω with _|⟨_|_,_|⟨_|_,_⟩⟩<;>kernel_rfl)
end
end Go.Proofs.YtbjkhapllnkhfaaGreatDoor.Wk
