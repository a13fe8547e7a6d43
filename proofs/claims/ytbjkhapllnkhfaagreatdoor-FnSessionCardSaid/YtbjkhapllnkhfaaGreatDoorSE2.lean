/- Each function computes what was printed: by the kernel. -/
import Derived.Test.YtbjkhapllnkhfaaGreatDoorSE0
import Derived.Test.YtbjkhapllnkhfaaGreatDoorProg
import Derived.KernelRfl
set_option linter.unusedVariables false
set_option linter.unusedSimpArgs false
set_option linter.unusedSectionVars false
namespace Go.Proofs.YtbjkhapllnkhfaaGreatDoor.Wk
open Go Go.Fw Go.M Go.Proofs
noncomputable section
open Go.Shelf Go.RowKit
def s27:SQ:=mk Tryz.func27 AGT AEN eg [] [] [⟨3,⟨[(0,.c (.sl true tU)),(3,BA),(4,BA)],[]⟩,Q_⟩]
def s61:SQ:=mk Tryz.func61 AEN AGu Mi [] [(2,[0]),(3,[0]),(4,[0])] []
def s31:SQ:=mk Tryz.func31 AL7 AGu Ag [s61] [] []
def s29:SQ:=mk Tryz.func29 AL7 ⟨[(0,zj)],uP⟩ BW [s31] [] []
def s28:SQ:=mk Tryz.func28 AEN AMJ MN [s29,s31] [(6,[1,2])] [⟨4,⟨[(0,Im),(2,cB),(3,xP4),(4,BA),(5,BA)],[AFI,.mem [.ref 2,.v tI],HG,AOZ,HG]⟩,Ip⟩] (hJ:= .cons (fun _=>rfl) (fun n v ω=>by rcases ω with _|⟨_|_,_|⟨_|_,_⟩⟩<;>kernel_rfl) (.nil))
def s60:SQ:=mk Tryz.func60 ⟨[(0,Im),(1,eC)],uP⟩ AGu Hw [s31] [] []
def s30:SQ:=mk Tryz.func30 AEN AMJ ay [s28,s31,s60] [(6,[1,4])] []
def Yl:SQ:=mk Tryz.func119 ALF CA CF [] [] []
abbrev i57:Bb:=ABc
abbrev o57:Bb:=CA
def s57:SQ:=mk Tryz.func57 i57 o57 Ge [Yl] [] [⟨4,⟨AKs,AQP⟩,Li⟩]
abbrev i58:Bb:=⟨[],[]⟩
abbrev o58:Bb:=ABX
def s58:SQ:=mk Tryz.func58 i58 o58 ZC [] [] []
abbrev i23:Bb:=ABc
abbrev o23:Bb:=AMe
def c23:RU:=⟨i23,o23,(i23.un Ey)⟩
def C23:eD:=⟨T,Ul (SP.l [s57,s58]),Cj [(3,[0,1]),(4,[0,4])]⟩
def L23:List (Lp o23):=[]
def LJ(ω:List Bool):Prop:= ∀(n:Nat) (v:i23.V),DO C23 c23 Tryz.f23 (Og 0 L23 n) ω v=i23.un (Ey) v
theorem ASL:LJ []:=by delta LJ;intros;kernel_rfl
theorem ATn:LJ (false::[]):=by delta LJ;intros;kernel_rfl
theorem AT8:LJ (false::false::[]):=by delta LJ;intros;kernel_rfl
theorem AUu:LJ (false::false::false::[]):=by delta LJ;intros;kernel_rfl
theorem ATc:LJ (false::false::false::false::[]):=by delta LJ;intros;kernel_rfl
theorem AVI:∀ω:List Bool,LJ (false::false::false::false::false::ω):=by refine AE ?_ (AE ?_ (AE ?_ ?_ ?_) (AE ?_ ?_ ?_)) (AE ?_ ?_ ?_)<;>(delta LJ;intros;kernel_rfl)
theorem ATm:∀ω:List Bool,LJ (false::false::false::false::true::ω):=by refine AE ?_ (AE ?_ ?_ ?_) ?_<;>(delta LJ;intros;kernel_rfl)
theorem AVK:∀ω:List Bool,LJ (false::false::false::true::ω):=by refine AE ?_ (AE ?_ ?_ ?_) ?_<;>(delta LJ;intros;kernel_rfl)
theorem ASg:∀ω:List Bool,LJ (false::false::true::ω):=by refine AE ?_ (AE ?_ (AE ?_ ?_ ?_) ?_) ?_<;>(delta LJ;intros;kernel_rfl)
theorem AMp:∀ω:List Bool,LJ (false::true::ω):=by refine AE ?_ (AE ?_ (AE ?_ ?_ ?_) ?_) ?_<;>(delta LJ;intros;kernel_rfl)
theorem AO_:LJ (true::[]):=by delta LJ;intros;kernel_rfl
theorem ANL:LJ (true::false::[]):=by delta LJ;intros;kernel_rfl
theorem AO2:LJ (true::false::false::[]):=by delta LJ;intros;kernel_rfl
theorem APQ:LJ (true::false::false::false::[]):=by delta LJ;intros;kernel_rfl
theorem AQx:LJ (true::false::false::false::false::[]):=by delta LJ;intros;kernel_rfl
theorem AQe:∀ω:List Bool,LJ (true::false::false::false::false::false::ω):=by refine AE ?_ (AE ?_ (AE ?_ ?_ ?_) (AE ?_ ?_ ?_)) (AE ?_ ?_ ?_)<;>(delta LJ;intros;kernel_rfl)
theorem AOG:∀ω:List Bool,LJ (true::false::false::false::false::true::ω):=by refine AE ?_ (AE ?_ ?_ ?_) ?_<;>(delta LJ;intros;kernel_rfl)
theorem ANO:∀ω:List Bool,LJ (true::false::false::false::true::ω):=by refine AE ?_ (AE ?_ ?_ ?_) ?_<;>(delta LJ;intros;kernel_rfl)
theorem AOX:∀ω:List Bool,LJ (true::false::false::true::ω):=by refine AE ?_ (AE ?_ (AE ?_ ?_ ?_) ?_) ?_<;>(delta LJ;intros;kernel_rfl)
theorem AQG:∀ω:List Bool,LJ (true::false::true::ω):=by refine AE ?_ (AE ?_ (AE ?_ ?_ ?_) ?_) ?_<;>(delta LJ;intros;kernel_rfl)
theorem ANz:∀ω:List Bool,LJ (true::true::ω):=by refine AE ?_ (AE ?_ (AE ?_ ?_ ?_) ?_) ?_<;>(delta LJ;intros;kernel_rfl)
theorem E23(ω:List Bool):LJ ω:=(AE ASL (AE ATn (AE AT8 (AE AUu (AE ATc AVI ATm) AVK) ASg) AMp) (AE AO_ (AE ANL (AE AO2 (AE APQ (AE AQx AQe AOG) ANO) AOX) AQG) ANz)) ω
theorem e23(n:Nat)(ω:List Bool)(v:i23.V):DO C23 c23 Tryz.f23 (Og 0 L23 n) ω v=i23.un (Ey) v:=E23 ω n v
def s23:SQ:=mk Tryz.func23 i23 o23 Ey [s57,s58] [(3,[0,1]),(4,[0,4])] L23 (hJ:= .nil) (he:=e23 AW)
def s32:SQ:=mk Tryz.func32 ⟨[(0,.c (.sl false tU)),(1,BA),(2,BA)],[]⟩ EZ Sv [] [] []
def s62:SQ:=mk Tryz.func62 ⟨[(0,Im),(1,xP7)],uP⟩ AHo FX [s31] [] []
def AR7:SQ:=mk Tryz.func203 ⟨[(0,eC),(1,BA),(2,BA)],[]⟩ CA Zh [Yl] [] [⟨2,⟨[(0,eC),(1,BA),(2,BA),(7,BA)],[]⟩,Nt⟩]
def ACf:SQ:=mk Tryz.func110 qA CA Gz [s57,AR7] [] []
def ATH:SQ:=mk Tryz.func204 qA EZ Wo [] [(6,[0,1])] [⟨4,⟨[(1,eC),(2,Im),(5,xP9),(6,BA),(7,BA)],[yG,.sl 9 .bool]⟩,Pc⟩]
abbrev AQr:Bb:=qA
abbrev AVB:Bb:=CA
def rp:SQ:=mk Tryz.func111 AQr AVB F4 [ACf,ATH] [(1,[0])] []
def wW:SQ:=mk Tryz.func120 EZ CA FE [Yl] [] []
abbrev ov:Bb:=EZ
abbrev ACB:Bb:=EZ
def rm:SQ:=mk Tryz.func121 ov ACB Cn [wW] [] []
def AJ9:SQ:=mk Tryz.func207 ⟨[(0,.row Y1)],[]⟩ CA Ml [Yl,wW,rm] [(1,[0])] []
def AXW:SQ:=mk Tryz.func205 AHC CA WW [AJ9] [] [⟨4,⟨[(0,aS),(5,BA)],[]⟩,MI⟩]
def ATo:SQ:=mk Tryz.func206 AD1 CA Z9 [] [] [⟨2,⟨[(0,aS),(3,BA)],[]⟩,GY⟩]
def ACT:SQ:=mk Tryz.func112 qb CA Gf [Yl,AXW,ATo] [] []
abbrev pS:Bb:=qG
abbrev AC3:Bb:=CA
def qe:SQ:=mk Tryz.func113 pS AC3 DI [] [] [⟨2,⟨[(0,eC),(1,BA),(5,BA)],[]⟩,RH⟩]
def AWP:SQ:=mk Tryz.func114 qb CA fE [] [] []
def s46:SQ:=mk Tryz.func46 Te CA WH [s57,ACf,rp,ACT,qe,AWP] [] [⟨4,AAi,Jm⟩]
abbrev APa:Bb:=AId
abbrev ATN:Bb:=CA
def AFj:SQ:=mk Tryz.func115 APa ATN M5 [s57,rp,Yl,wW,rm] [] [⟨5,⟨ASQ,AML⟩,LG⟩]
abbrev AQE:Bb:=AHV
abbrev ATk:Bb:=CA
def AIP:SQ:=mk Tryz.func116 AQE ATk Hr [s57,ACf,rp,Yl] [(8,[0,1,2])] [⟨5,⟨ASQ,ALn⟩,MJ⟩]
abbrev pM:Bb:=EZ
abbrev ADl:Bb:=EZ
def AHP:SQ:=mk Tryz.func216 pM ADl Gl [wW] [] []
def AUX:SQ:=mk Tryz.func208 ABh EZ Sx [AHP] [] []
def AFW:SQ:=mk Tryz.func117 AAe CA JK [s57,ACf,Yl,rm,ATo,AJ9,AUX] [(6,[0,1]),(11,[0,1]),(15,[0,1])] [⟨4,AL6,Jo⟩,⟨9,⟨[(2,Im),(3,cB),(6,BA)],AIb⟩,ID⟩]
def AKh:SQ:=mk Tryz.func118 ADm EZ Jq [] [] [⟨2,⟨AKs,[AO7]⟩,II⟩]
def s47:SQ:=mk Tryz.func47 Te CA TJ [AFj,AIP,AFW,AKh] [(7,[0]),(13,[0,1])] [⟨5,ALo,G4⟩,⟨10,⟨[(1,Im),(3,BA),(5,BA)],fl⟩,Ex⟩]
def s48:SQ:=mk Tryz.func48 xi CA Nn [Yl] [] []
def s49:SQ:=mk Tryz.func49 Te CA Ya [wW,rm] [(7,[0,1])] [⟨4,AAi,KW⟩]
def s17:SQ:=mk Tryz.func17 Te CA Gq [s46,s47,s48,s49] [] []
def AI0:SQ:=mk Tryz.func174 qY EZ Mm [] [] []
def AE8:SQ:=mk Tryz.func173 qG iM Mq [qe] [] [⟨4,⟨[(0,eC),(1,BA),(5,Zi),(6,zj),(7,BA)],ji⟩,LF⟩]
def s88:SQ:=mk Tryz.func88 ALt AMb QM [s29,s31,s60,AE8,AI0] [] [⟨4,⟨[(0,Im),(3,cB),(5,AFM),(6,BA),(7,BA)],AMT⟩,Iw⟩]
def AZY:SQ:=mk Tryz.func136 ALt AMb ME [s88,rp,AE8] [] [⟨3,⟨[(3,cB),(5,AFM),(6,BA)],AMT⟩,Km⟩]
def AYT:SQ:=mk Tryz.func135 ⟨[(0,eC)],[]⟩ EZ MF [AR7] [] [⟨5,⟨[(0,eC),(3,BA),(4,BA)],[]⟩,Kl⟩]
abbrev oZ:Bb:=AMW
abbrev ADB:Bb:=iM
def zn:SQ:=mk Tryz.func217 oZ ADB Ce [Yl] [] []
def AZV:SQ:=mk Tryz.func137 AD0 AHY MT [s29,s31,rp,AI0,zn] [(18,[1,2,3])] [⟨16,⟨[(0,Im),(3,cB),(4,vA),(5,xP4),(7,BA),(8,BA),(9,BA)],[AFI,ACJ,rR,ACq]⟩,GO⟩]
def AM5:SQ:=mk Tryz.func106 qY EZ NO [] [] []
def AX5:SQ:=mk Tryz.func138 AD0 AHY Gj [s29,s31,s62,AM5,zn] [] []
def s64:SQ:=mk Tryz.func64 AD0 AHY QL [s29,s31,AKh,AYT,AZY,AZV,AX5] [(16,[1]),(27,[1,2])] []
def AXM:SQ:=mk Tryz.func187 xB ALp cT [] [] []
def ATZ:SQ:=mk Tryz.func108 xB CA W0 [Yl,AXM] [(1,[0])] []
def ASd:SQ:=mk Tryz.func102 EZ Zk TM [] [] []
def ASa:SQ:=mk Tryz.func103 xB iM UB [] [] []
def ANA:SQ:=mk Tryz.func133 EZ Zk Pl [] [] [⟨4,⟨[(0,BA),(3,lT)],[]⟩,Q9⟩]
def AOI:SQ:=mk Tryz.func134 EZ Zk Fi [wW,rm,ANA,AHP] [] []
def s63:SQ:=mk Tryz.func63 xB xA JE [ASd,ASa,ATZ,Yl,wW,ANA,AOI] [] [⟨4,⟨[(1,Im),(4,BA)],AHO⟩,E_⟩,⟨11,⟨[(1,Im),(5,lT),(6,xP9),(7,BA)],[rR,HG]⟩,ET⟩]
def s65:SQ:=mk Tryz.func65 ⟨[(0,Im),(1,lT),(2,xP7)],uP⟩ AHo Mh [s31,s62,AM5] [] []
def s33:SQ:=mk Tryz.func33 AD0 AHo Qc [s17,s29,s62,s63,s64,s65] [] []
abbrev i95:Bb:=ADm
abbrev o95:Bb:=AGr
def s95:SQ:=mk Tryz.func95 i95 o95 GN [] [] [⟨3,⟨ATR,[AO7,.mem [.ref 2,.v tI],aT,AOZ,aT]⟩,PV⟩]
abbrev i96:Bb:=qb
abbrev o96:Bb:=AHQ
def s96:SQ:=mk Tryz.func96 i96 o96 Eg [] [(1,[0])] [] (he:=fun ω v=>by rcases ω with _|⟨_|_,_|⟨_|_,_⟩⟩<;>kernel_rfl)
abbrev i97:Bb:=AEf
abbrev o97:Bb:=AHB
def s97:SQ:=mk Tryz.func97 i97 o97 FT [] [] [⟨3,⟨ATR,[AKW,.mem [.v tI,.ref 2],.sl 9 Y5,.mem [.v tI,.ref 4],.sl 9 Y5]⟩,Pk⟩]
abbrev i98:Bb:=ABh
abbrev o98:Bb:=AAU
def c98:RU:=⟨i98,o98,(i98.un EO)⟩
def C98:eD:=⟨T,Ul (SP.l ([]:List SQ)),Cj [(1,[0,1]),(5,[0,1,2,3,4,6,7])]⟩
def L98:List (Lp o98):=[⟨3,⟨[(1,Im),(2,cB),(3,.c (.ptr 5 0)),(4,BA)],AHU⟩,H7⟩]
abbrev AGz:Bb:=⟨[(1,Im),(2,cB),(3,.c (.ptr 5 0)),(4,BA)],AHU⟩
theorem ASf(n:Nat)(v:AGz.V)(ω:List Bool):LM C98 c98 Tryz.f98 (Og 0 L98 n) 3 ω (AGz.st 40 v)=AGz.un (Tm (H7 n)) v:=by rcases ω with _|⟨_|_,_|⟨_|_,_|⟨_|_,_⟩⟩⟩<;>kernel_rfl
def ADC(ω:List Bool):Prop:= ∀(n:Nat) (v:i98.V),DO C98 c98 Tryz.f98 (Og 0 L98 n) ω v=i98.un (OM (H7 n)) v
theorem AUz:ADC []:=by delta ADC;intros;kernel_rfl
theorem ATE:∀ω:List Bool,ADC (false::ω):=by refine AE ?_ (AE ?_ ?_ (AE ?_ ?_ ?_)) (AE ?_ ?_ (AE ?_ ?_ (AE ?_ ?_ ?_)))<;>(delta ADC;intros;kernel_rfl)
theorem ARj:∀ω:List Bool,ADC (true::ω):=by refine AE ?_ (AE ?_ (AE ?_ ?_ ?_) (AE ?_ ?_ (AE ?_ ?_ ?_))) (AE ?_ ?_ (AE ?_ ?_ ?_))<;>(delta ADC;intros;kernel_rfl)
theorem E98(ω:List Bool):ADC ω:=(AE AUz ATE ARj) ω
theorem e98(n:Nat)(ω:List Bool)(v:i98.V):DO C98 c98 Tryz.f98 (Og 0 L98 n) ω v=i98.un (OM (H7 n)) v:=E98 ω n v
def s98:SQ:=mk Tryz.func98 i98 o98 EO [] [(1,[0,1]),(5,[0,1,2,3,4,6,7])] L98 (hJ:= .cons (fun _=>rfl) ASf (.nil)) (he:=e98 AW)
abbrev i99:Bb:=xi
abbrev o99:Bb:=ABX
def s99:SQ:=mk Tryz.func99 i99 o99 CU [] [] []
abbrev i42:Bb:=Te
abbrev o42:Bb:=ALw
def c42:RU:=⟨i42,o42,(i42.un Mz)⟩
def C42:eD:=⟨T,Ul (SP.l [s95,s96,s97,s98,s99]),Cj [(1,[0,1]),(5,[0,1,2,3,4,5,6,7,8,9,11,13,14,15,16,17,18]),(9,[0,1,2,3,4,5,6,7,8,9,11,12,13,14,16,17,18]),(13,[0,1,2,3,4,5,6,7,8,9,11,12,13,14,15,17,18]),(17,[0,1,2,3,4,5,6,7,8,9,11,12,13,14,15,16,18])]⟩
def L42:List (Lp o42):=[⟨3,⟨[(1,Im),(2,cB),(3,jw),(4,BA)],fq⟩,Cq⟩,⟨7,⟨[(1,Im),(2,cB),(3,jw),(5,BA)],fq⟩,Cp⟩,⟨11,⟨[(1,Im),(2,cB),(3,jw),(6,BA)],fq⟩,CZ⟩,⟨15,⟨[(1,Im),(2,cB),(3,jw),(7,BA)],fq⟩,Cb⟩]
abbrev wx:Bb:=⟨[(1,Im),(2,cB),(3,jw),(4,BA)],fq⟩
abbrev xD:Bb:=⟨[(1,Im),(2,cB),(3,jw),(5,BA)],fq⟩
abbrev oQ:Bb:=⟨[(1,Im),(2,cB),(3,jw),(6,BA)],fq⟩
abbrev nI:Bb:=⟨[(1,Im),(2,cB),(3,jw),(7,BA)],fq⟩
theorem AUs(g95:AB4->Option Ga)(g96:ADA->Option Np)(g97:AB5->Option GX)(g98:AB1->Option Hq)(g99:ADU->Option MG)(n:Nat)(v:wx.V)(ω:List Bool):LM ⟨T,Ul [(95,⟨i95,o95,i95.un g95⟩),(96,⟨i96,o96,i96.un g96⟩),(97,⟨i97,o97,i97.un g97⟩),(98,⟨i98,o98,i98.un g98⟩),(99,⟨i99,o99,i99.un g99⟩)],Cj [(1,[0,1]),(5,[0,1,2,3,4,5,6,7,8,9,11,13,14,15,16,17,18]),(9,[0,1,2,3,4,5,6,7,8,9,11,12,13,14,16,17,18]),(13,[0,1,2,3,4,5,6,7,8,9,11,12,13,14,15,17,18]),(17,[0,1,2,3,4,5,6,7,8,9,11,12,13,14,15,16,18])]⟩ c42 Tryz.f42 (Og 0 L42 n) 3 ω (wx.st 104 v)=wx.un (fun(t4:Int) (AK:AAA) (AF:Int) (AZ:AAd) (BD:AAA) (BI:AAf) (AO:Int) (Bl:ABE) (Bk:ABI) (BN:AAs) (Bo:AA8) (AH:Bool) (BL:Int) (FI:Int) (Hi:Bool) (b2:AAA) (b3:AAd) (b4:AAA) (b5:AAf) (b6:ABE) (b7:ABI) (b8:AAs) (b9:AA8) (FJ:Int) (HD:Int) (ED:Bool) (Hh:AAA) (EW:AAd) (Ii:AAA) (Iy:AAf) (FU:ABE) (GR:ABI) (HH:AAs) (cg:AA8)=>
 cond ((decide (t4<(AZ.length:Int))))
  (if(0:Int)<=t4/\t4<(AZ.length:Int)then(
  (g96 ((AZ.getD (t4.toNat) ([],[],0,())).1,(AZ.getD (t4.toNat) ([],[],0,())).2.1,(AZ.getD (t4.toNat) ([],[],0,())).2.2.1,())).bind fun AC2=>
  if EW.length+1<=Go.M.CN then(
  (Cq n) (AQ (t4+1)) AK AF AZ BD BI AO Bl Bk BN Bo AH BL FI Hi b2 b3 b4 b5 b6 b7 b8 b9 FJ HD ED Hh (EW++[(AC2.2.1,AC2.2.2.1,AC2.1.1.2.2.1,())]) Ii Iy FU GR HH cg)else none)else none)
 ((Cp n) 0 AK AF AZ BD BI AO Bl Bk BN Bo AH BL FI Hi b2 b3 b4 b5 b6 b7 b8 b9 FJ HD ED Hh EW Ii Iy FU GR HH cg)) v:=by rcases ω with _|⟨_|_,_|⟨_|_,_⟩⟩<;>kernel_rfl
theorem AUW(n:Nat)(v:wx.V)(ω:List Bool):LM C42 c42 Tryz.f42 (Og 0 L42 n) 3 ω (wx.st 104 v)=wx.un (SV (Cq n) (Cp n) (CZ n) (Cb n)) v:=AUs GN Eg FT EO CU n v ω
theorem ATM(g95:AB4->Option Ga)(g96:ADA->Option Np)(g97:AB5->Option GX)(g98:AB1->Option Hq)(g99:ADU->Option MG)(n:Nat)(v:xD.V)(ω:List Bool):LM ⟨T,Ul [(95,⟨i95,o95,i95.un g95⟩),(96,⟨i96,o96,i96.un g96⟩),(97,⟨i97,o97,i97.un g97⟩),(98,⟨i98,o98,i98.un g98⟩),(99,⟨i99,o99,i99.un g99⟩)],Cj [(1,[0,1]),(5,[0,1,2,3,4,5,6,7,8,9,11,13,14,15,16,17,18]),(9,[0,1,2,3,4,5,6,7,8,9,11,12,13,14,16,17,18]),(13,[0,1,2,3,4,5,6,7,8,9,11,12,13,14,15,17,18]),(17,[0,1,2,3,4,5,6,7,8,9,11,12,13,14,15,16,18])]⟩ c42 Tryz.f42 (Og 0 L42 n) 7 ω (xD.st 104 v)=xD.un (fun(t5:Int) (AK:AAA) (AF:Int) (AZ:AAd) (BD:AAA) (BI:AAf) (AO:Int) (Bl:ABE) (Bk:ABI) (BN:AAs) (Bo:AA8) (AH:Bool) (BL:Int) (FI:Int) (Hi:Bool) (b2:AAA) (b3:AAd) (b4:AAA) (b5:AAf) (b6:ABE) (b7:ABI) (b8:AAs) (b9:AA8) (FJ:Int) (HD:Int) (ED:Bool) (Hh:AAA) (EW:AAd) (Ii:AAA) (Iy:AAf) (FU:ABE) (GR:ABI) (HH:AAs) (cg:AA8)=>
 cond ((decide (t5<(Bl.length:Int))))
  (if(0:Int)<=t5/\t5<(Bl.length:Int)then(
  (g97 ((Bl.getD (t5.toNat) (0,[],())).1,(Bl.getD (t5.toNat) (0,[],())).2.1,())).bind fun AHv=>
  if FU.length+1<=Go.M.CN then(
  (Cp n) (AQ (t5+1)) AK AF AZ BD BI AO Bl Bk BN Bo AH BL FI Hi b2 b3 b4 b5 b6 b7 b8 b9 FJ HD ED Hh EW Ii Iy (FU++[(AHv.1.1.1,AHv.2.1,())]) GR HH cg)else none)else none)
 ((CZ n) 0 AK AF AZ BD BI AO Bl Bk BN Bo AH BL FI Hi b2 b3 b4 b5 b6 b7 b8 b9 FJ HD ED Hh EW Ii Iy FU GR HH cg)) v:=by rcases ω with _|⟨_|_,_|⟨_|_,_⟩⟩<;>kernel_rfl
theorem AUR(n:Nat)(v:xD.V)(ω:List Bool):LM C42 c42 Tryz.f42 (Og 0 L42 n) 7 ω (xD.st 104 v)=xD.un (SX (Cq n) (Cp n) (CZ n) (Cb n)) v:=ATM GN Eg FT EO CU n v ω
theorem AO8(g95:AB4->Option Ga)(g96:ADA->Option Np)(g97:AB5->Option GX)(g98:AB1->Option Hq)(g99:ADU->Option MG)(n:Nat)(v:oQ.V)(ω:List Bool):LM ⟨T,Ul [(95,⟨i95,o95,i95.un g95⟩),(96,⟨i96,o96,i96.un g96⟩),(97,⟨i97,o97,i97.un g97⟩),(98,⟨i98,o98,i98.un g98⟩),(99,⟨i99,o99,i99.un g99⟩)],Cj [(1,[0,1]),(5,[0,1,2,3,4,5,6,7,8,9,11,13,14,15,16,17,18]),(9,[0,1,2,3,4,5,6,7,8,9,11,12,13,14,16,17,18]),(13,[0,1,2,3,4,5,6,7,8,9,11,12,13,14,15,17,18]),(17,[0,1,2,3,4,5,6,7,8,9,11,12,13,14,15,16,18])]⟩ c42 Tryz.f42 (Og 0 L42 n) 11 ω (oQ.st 104 v)=oQ.un (fun(t6:Int) (AK:AAA) (AF:Int) (AZ:AAd) (BD:AAA) (BI:AAf) (AO:Int) (Bl:ABE) (Bk:ABI) (BN:AAs) (Bo:AA8) (AH:Bool) (BL:Int) (FI:Int) (Hi:Bool) (b2:AAA) (b3:AAd) (b4:AAA) (b5:AAf) (b6:ABE) (b7:ABI) (b8:AAs) (b9:AA8) (FJ:Int) (HD:Int) (ED:Bool) (Hh:AAA) (EW:AAd) (Ii:AAA) (Iy:AAf) (FU:ABE) (GR:ABI) (HH:AAs) (cg:AA8)=>
 cond ((decide (t6<(Bk.length:Int))))
  (if(0:Int)<=t6/\t6<(Bk.length:Int)then(
  (g98 ((Bk.getD (t6.toNat) (0,0,[],[],false,[],())).1,(Bk.getD (t6.toNat) (0,0,[],[],false,[],())).2.1,(Bk.getD (t6.toNat) (0,0,[],[],false,[],())).2.2.1,(Bk.getD (t6.toNat) (0,0,[],[],false,[],())).2.2.2.1,(Bk.getD (t6.toNat) (0,0,[],[],false,[],())).2.2.2.2.1,(Bk.getD (t6.toNat) (0,0,[],[],false,[],())).2.2.2.2.2.1,())).bind fun ni=>
  if GR.length+1<=Go.M.CN then(
  (CZ n) (AQ (t6+1)) AK AF AZ BD BI AO Bl Bk BN Bo AH BL FI Hi b2 b3 b4 b5 b6 b7 b8 b9 FJ HD ED Hh EW Ii Iy FU (GR++[(ni.1.1.1,ni.1.1.2.1,ni.2.1,ni.2.2.1,ni.1.1.2.2.2.2.1,ni.2.2.2.1,())]) HH cg)else none)else none)
 ((Cb n) 0 AK AF AZ BD BI AO Bl Bk BN Bo AH BL FI Hi b2 b3 b4 b5 b6 b7 b8 b9 FJ HD ED Hh EW Ii Iy FU GR HH cg)) v:=by rcases ω with _|⟨_|_,_|⟨_|_,_⟩⟩<;>kernel_rfl
theorem APZ(n:Nat)(v:oQ.V)(ω:List Bool):LM C42 c42 Tryz.f42 (Og 0 L42 n) 11 ω (oQ.st 104 v)=oQ.un (Qg (Cq n) (Cp n) (CZ n) (Cb n)) v:=AO8 GN Eg FT EO CU n v ω
theorem AN6(g95:AB4->Option Ga)(g96:ADA->Option Np)(g97:AB5->Option GX)(g98:AB1->Option Hq)(g99:ADU->Option MG)(n:Nat)(v:nI.V)(ω:List Bool):LM ⟨T,Ul [(95,⟨i95,o95,i95.un g95⟩),(96,⟨i96,o96,i96.un g96⟩),(97,⟨i97,o97,i97.un g97⟩),(98,⟨i98,o98,i98.un g98⟩),(99,⟨i99,o99,i99.un g99⟩)],Cj [(1,[0,1]),(5,[0,1,2,3,4,5,6,7,8,9,11,13,14,15,16,17,18]),(9,[0,1,2,3,4,5,6,7,8,9,11,12,13,14,16,17,18]),(13,[0,1,2,3,4,5,6,7,8,9,11,12,13,14,15,17,18]),(17,[0,1,2,3,4,5,6,7,8,9,11,12,13,14,15,16,18])]⟩ c42 Tryz.f42 (Og 0 L42 n) 15 ω (nI.st 104 v)=nI.un (fun(t7:Int) (AK:AAA) (AF:Int) (AZ:AAd) (BD:AAA) (BI:AAf) (AO:Int) (Bl:ABE) (Bk:ABI) (BN:AAs) (Bo:AA8) (AH:Bool) (BL:Int) (FI:Int) (Hi:Bool) (b2:AAA) (b3:AAd) (b4:AAA) (b5:AAf) (b6:ABE) (b7:ABI) (b8:AAs) (b9:AA8) (FJ:Int) (HD:Int) (ED:Bool) (Hh:AAA) (EW:AAd) (Ii:AAA) (Iy:AAf) (FU:ABE) (GR:ABI) (HH:AAs) (cg:AA8)=>
 cond ((decide (t7<(BN.length:Int))))
  (if(0:Int)<=t7/\t7<(BN.length:Int)then(
  (g99 ((BN.getD (t7.toNat) (0,0,[],())).1,(BN.getD (t7.toNat) (0,0,[],())).2.1,(BN.getD (t7.toNat) (0,0,[],())).2.2.1,())).bind fun ACe=>
  if HH.length+1<=Go.M.CN then(
  (Cb n) (AQ (t7+1)) AK AF AZ BD BI AO Bl Bk BN Bo AH BL FI Hi b2 b3 b4 b5 b6 b7 b8 b9 FJ HD ED Hh EW Ii Iy FU GR (HH++[(ACe.1.1.1,ACe.1.1.2.1,ACe.2.1,())]) cg)else none)else none)
 (some ((((),FJ,(),(),(),HD,(),(),(),(),ED,()),()),(Hh,EW,Ii,Iy,FU,GR,HH,cg,())))) v:=by rcases ω with _|⟨_|_,_|⟨_|_,_⟩⟩<;>kernel_rfl
theorem AQC(n:Nat)(v:nI.V)(ω:List Bool):LM C42 c42 Tryz.f42 (Og 0 L42 n) 15 ω (nI.st 104 v)=nI.un (Qh (Cq n) (Cp n) (CZ n) (Cb n)) v:=AN6 GN Eg FT EO CU n v ω
def C0(ω:List Bool):Prop:= ∀(g95:AB4->Option Ga) (g96:ADA->Option Np) (g97:AB5->Option GX) (g98:AB1->Option Hq) (g99:ADU->Option MG) (n:Nat) (v:i42.V),DO ⟨T,Ul [(95,⟨i95,o95,i95.un g95⟩),(96,⟨i96,o96,i96.un g96⟩),(97,⟨i97,o97,i97.un g97⟩),(98,⟨i98,o98,i98.un g98⟩),(99,⟨i99,o99,i99.un g99⟩)],Cj [(1,[0,1]),(5,[0,1,2,3,4,5,6,7,8,9,11,13,14,15,16,17,18]),(9,[0,1,2,3,4,5,6,7,8,9,11,12,13,14,16,17,18]),(13,[0,1,2,3,4,5,6,7,8,9,11,12,13,14,15,17,18]),(17,[0,1,2,3,4,5,6,7,8,9,11,12,13,14,15,16,18])]⟩ c42 Tryz.f42 (Og 0 L42 n) ω v=i42.un (fun(p0:AB0)=>
 if 0+p0.1.length<=Go.M.CN then(
 if 0+p0.2.2.2.1.length<=Go.M.CN then(
 (g95 (p0.2.2.2.2.1,p0.2.2.2.2.2.1,())).bind fun u2=>
 if 0+p0.2.2.2.2.2.2.2.2.2.1.length<=Go.M.CN then(
 (Cq n) 0 p0.1 p0.2.1 p0.2.2.1 p0.2.2.2.1 p0.2.2.2.2.1 p0.2.2.2.2.2.1 p0.2.2.2.2.2.2.1 p0.2.2.2.2.2.2.2.1 p0.2.2.2.2.2.2.2.2.1 p0.2.2.2.2.2.2.2.2.2.1 p0.2.2.2.2.2.2.2.2.2.2.1 0 0 false [] [] [] [] [] [] [] [] p0.2.1 u2.1.1.2.1 p0.2.2.2.2.2.2.2.2.2.2.1 p0.1 [] p0.2.2.2.1 u2.2.1 [] [] [] p0.2.2.2.2.2.2.2.2.2.1)else none)else none)else none) v
theorem AUP:C0 []:=by delta C0;intros;kernel_rfl
theorem ATu:C0 (false::[]):=by delta C0;intros;kernel_rfl
theorem AUY:C0 (false::false::[]):=by delta C0;intros;kernel_rfl
theorem ASH:C0 (false::false::false::[]):=by delta C0;intros;kernel_rfl
theorem ATi:∀ω:List Bool,C0 (false::false::false::false::ω):=by refine AE ?_ (AE ?_ ?_ (AE ?_ ?_ ?_)) (AE ?_ ?_ (AE ?_ ?_ (AE ?_ ?_ (AE ?_ ?_ ?_))))<;>(delta C0;intros;kernel_rfl)
theorem AUV:C0 (false::false::false::true::[]):=by delta C0;intros;kernel_rfl
theorem ASv:∀ω:List Bool,C0 (false::false::false::true::false::ω):=by refine AE ?_ (AE ?_ ?_ ?_) (AE ?_ ?_ (AE ?_ ?_ (AE ?_ ?_ ?_)))<;>(delta C0;intros;kernel_rfl)
theorem ARn:∀ω:List Bool,C0 (false::false::false::true::true::ω):=by refine AE ?_ ?_ (AE ?_ ?_ (AE ?_ ?_ ?_))<;>(delta C0;intros;kernel_rfl)
theorem ASc:C0 (false::false::true::[]):=by delta C0;intros;kernel_rfl
theorem AN_:C0 (false::false::true::false::[]):=by delta C0;intros;kernel_rfl
theorem ANk:∀ω:List Bool,C0 (false::false::true::false::false::ω):=by refine AE ?_ ?_ (AE ?_ ?_ ?_)<;>(delta C0;intros;kernel_rfl)
theorem ANS:∀ω:List Bool,C0 (false::false::true::false::true::ω):=by refine AE ?_ ?_ (AE ?_ ?_ (AE ?_ ?_ (AE ?_ ?_ (AE ?_ ?_ ?_))))<;>(delta C0;intros;kernel_rfl)
theorem AOY:C0 (false::false::true::true::[]):=by delta C0;intros;kernel_rfl
theorem AMr:∀ω:List Bool,C0 (false::false::true::true::false::ω):=by refine AE ?_ (AE ?_ ?_ ?_) (AE ?_ ?_ (AE ?_ ?_ (AE ?_ ?_ (AE ?_ ?_ ?_))))<;>(delta C0;intros;kernel_rfl)
theorem AO4:∀ω:List Bool,C0 (false::false::true::true::true::ω):=by refine AE ?_ ?_ (AE ?_ ?_ (AE ?_ ?_ (AE ?_ ?_ ?_)))<;>(delta C0;intros;kernel_rfl)
theorem ANP:C0 (false::true::[]):=by delta C0;intros;kernel_rfl
theorem AOL:C0 (false::true::false::[]):=by delta C0;intros;kernel_rfl
theorem AOM:∀ω:List Bool,C0 (false::true::false::false::ω):=by refine AE ?_ ?_ (AE ?_ ?_ (AE ?_ ?_ (AE ?_ ?_ ?_)))<;>(delta C0;intros;kernel_rfl)
theorem ANr:∀ω:List Bool,C0 (false::true::false::true::ω):=by refine AE ?_ ?_ (AE ?_ ?_ (AE ?_ ?_ (AE ?_ ?_ (AE ?_ ?_ ?_))))<;>(delta C0;intros;kernel_rfl)
theorem AOF:C0 (false::true::true::[]):=by delta C0;intros;kernel_rfl
theorem AMq:C0 (false::true::true::false::[]):=by delta C0;intros;kernel_rfl
theorem APc:∀ω:List Bool,C0 (false::true::true::false::false::ω):=by refine AE ?_ ?_ (AE ?_ ?_ (AE ?_ ?_ ?_))<;>(delta C0;intros;kernel_rfl)
theorem AOg:∀ω:List Bool,C0 (false::true::true::false::true::ω):=by refine AE ?_ ?_ (AE ?_ ?_ (AE ?_ ?_ (AE ?_ ?_ ?_)))<;>(delta C0;intros;kernel_rfl)
theorem APD:C0 (false::true::true::true::[]):=by delta C0;intros;kernel_rfl
theorem ANn:∀ω:List Bool,C0 (false::true::true::true::false::ω):=by refine AE ?_ (AE ?_ ?_ (AE ?_ ?_ ?_)) (AE ?_ ?_ (AE ?_ ?_ (AE ?_ ?_ ?_)))<;>(delta C0;intros;kernel_rfl)
theorem APE:∀ω:List Bool,C0 (false::true::true::true::true::ω):=by refine AE ?_ (AE ?_ (AE ?_ ?_ ?_) (AE ?_ ?_ (AE ?_ ?_ ?_))) (AE ?_ ?_ (AE ?_ ?_ ?_))<;>(delta C0;intros;kernel_rfl)
theorem ANp:C0 (true::[]):=by delta C0;intros;kernel_rfl
theorem APB:C0 (true::false::[]):=by delta C0;intros;kernel_rfl
theorem AQm:C0 (true::false::false::[]):=by delta C0;intros;kernel_rfl
theorem APS:C0 (true::false::false::false::[]):=by delta C0;intros;kernel_rfl
theorem AMk:∀ω:List Bool,C0 (true::false::false::false::false::ω):=by refine AE ?_ (AE ?_ ?_ ?_) (AE ?_ ?_ (AE ?_ ?_ (AE ?_ ?_ ?_)))<;>(delta C0;intros;kernel_rfl)
theorem API:∀ω:List Bool,C0 (true::false::false::false::true::ω):=by refine AE ?_ ?_ (AE ?_ ?_ (AE ?_ ?_ ?_))<;>(delta C0;intros;kernel_rfl)
theorem AM3:C0 (true::false::false::true::[]):=by delta C0;intros;kernel_rfl
theorem APK:∀ω:List Bool,C0 (true::false::false::true::false::ω):=by refine AE ?_ (AE ?_ ?_ ?_) (AE ?_ ?_ (AE ?_ ?_ (AE ?_ ?_ (AE ?_ ?_ ?_))))<;>(delta C0;intros;kernel_rfl)
theorem AQs:∀ω:List Bool,C0 (true::false::false::true::true::ω):=by refine AE ?_ ?_ (AE ?_ ?_ (AE ?_ ?_ (AE ?_ ?_ ?_)))<;>(delta C0;intros;kernel_rfl)
theorem APJ:C0 (true::false::true::[]):=by delta C0;intros;kernel_rfl
theorem AOn:C0 (true::false::true::false::[]):=by delta C0;intros;kernel_rfl
theorem AOx:∀ω:List Bool,C0 (true::false::true::false::false::ω):=by refine AE ?_ ?_ (AE ?_ ?_ (AE ?_ ?_ ?_))<;>(delta C0;intros;kernel_rfl)
theorem AO9:∀ω:List Bool,C0 (true::false::true::false::true::ω):=by refine AE ?_ ?_ (AE ?_ ?_ (AE ?_ ?_ (AE ?_ ?_ ?_)))<;>(delta C0;intros;kernel_rfl)
theorem AMj:C0 (true::false::true::true::[]):=by delta C0;intros;kernel_rfl
theorem ANv:∀ω:List Bool,C0 (true::false::true::true::false::ω):=by refine AE ?_ (AE ?_ ?_ (AE ?_ ?_ ?_)) (AE ?_ ?_ (AE ?_ ?_ (AE ?_ ?_ ?_)))<;>(delta C0;intros;kernel_rfl)
theorem APr:∀ω:List Bool,C0 (true::false::true::true::true::ω):=by refine AE ?_ (AE ?_ (AE ?_ ?_ ?_) (AE ?_ ?_ (AE ?_ ?_ ?_))) (AE ?_ ?_ (AE ?_ ?_ ?_))<;>(delta C0;intros;kernel_rfl)
theorem AQ2:C0 (true::true::[]):=by delta C0;intros;kernel_rfl
theorem AQN:C0 (true::true::false::[]):=by delta C0;intros;kernel_rfl
theorem ANB:∀ω:List Bool,C0 (true::true::false::false::ω):=by refine AE ?_ ?_ (AE ?_ ?_ (AE ?_ ?_ ?_))<;>(delta C0;intros;kernel_rfl)
theorem ANE:∀ω:List Bool,C0 (true::true::false::true::ω):=by refine AE ?_ ?_ (AE ?_ ?_ (AE ?_ ?_ (AE ?_ ?_ ?_)))<;>(delta C0;intros;kernel_rfl)
theorem AQB:C0 (true::true::true::[]):=by delta C0;intros;kernel_rfl
theorem AO6:∀ω:List Bool,C0 (true::true::true::false::ω):=by refine AE ?_ (AE ?_ ?_ (AE ?_ ?_ ?_)) (AE ?_ ?_ (AE ?_ ?_ (AE ?_ ?_ ?_)))<;>(delta C0;intros;kernel_rfl)
theorem AP2:∀ω:List Bool,C0 (true::true::true::true::ω):=by refine AE ?_ (AE ?_ (AE ?_ ?_ ?_) (AE ?_ ?_ (AE ?_ ?_ ?_))) (AE ?_ ?_ (AE ?_ ?_ ?_))<;>(delta C0;intros;kernel_rfl)
theorem b42(ω:List Bool):C0 ω:=(AE AUP (AE ATu (AE AUY (AE ASH ATi (AE AUV ASv ARn)) (AE ASc (AE AN_ ANk ANS) (AE AOY AMr AO4))) (AE ANP (AE AOL AOM ANr) (AE AOF (AE AMq APc AOg) (AE APD ANn APE)))) (AE ANp (AE APB (AE AQm (AE APS AMk API) (AE AM3 APK AQs)) (AE APJ (AE AOn AOx AO9) (AE AMj ANv APr))) (AE AQ2 (AE AQN ANB ANE) (AE AQB AO6 AP2)))) ω
theorem e42(n:Nat)(ω:List Bool)(v:i42.V):DO C42 c42 Tryz.f42 (Og 0 L42 n) ω v=i42.un (SH (Cq n) (Cp n) (CZ n) (Cb n)) v:=b42 ω GN Eg FT EO CU n v
def s42:SQ:=mk Tryz.func42 i42 o42 Mz [s95,s96,s97,s98,s99] [(1,[0,1]),(5,[0,1,2,3,4,5,6,7,8,9,11,13,14,15,16,17,18]),(9,[0,1,2,3,4,5,6,7,8,9,11,12,13,14,16,17,18]),(13,[0,1,2,3,4,5,6,7,8,9,11,12,13,14,15,17,18]),(17,[0,1,2,3,4,5,6,7,8,9,11,12,13,14,15,16,18])] L42 (hJ:= .cons (fun _=>rfl) AUW (.cons (fun _=>rfl) AUR (.cons (fun _=>rfl) APZ (.cons (fun _=>rfl) AQC (.nil))))) (he:=e42 AW)
def AZs:SQ:=mk Tryz.func337 AD3 CA Zj [Yl] [] []
def AX9:SQ:=mk Tryz.func276 xi CA Qx [AZs] [(6,[0])] [⟨3,⟨ATs,[AFE]⟩,Lw⟩]
def AYy:SQ:=mk Tryz.func181 Te CA RP [s17,AX9] [] []
def AZJ:SQ:=mk Tryz.func277 ⟨[(0,z_),(1,.row Y8)],[]⟩ CA YJ [] [(4,[0,1])] [⟨2,⟨AUG,[ACJ,.mem [.v tI,.v tI,.v .str]]⟩,Nd⟩]
def AYP:SQ:=mk Tryz.func182 Te CA UA [s17,AZJ] [] [⟨4,AAi,Gv⟩,⟨7,ALo,Gx⟩]
def AVD:SQ:=mk Tryz.func278 AHF xA M1 [] [] [⟨2,⟨[(1,BA),(2,Im),(6,BA)],[AFE]⟩,Nc⟩]
abbrev oy:Bb:=qY
abbrev ACo:Bb:=EZ
def ACA:SQ:=mk Tryz.func177 oy ACo Dh [] [] []
def AVA:SQ:=mk Tryz.func279 AHF CA H9 [ACA] [] []
def AWY:SQ:=mk Tryz.func183 Te CA T6 [s17,AVD,AVA] [(10,[0,1]),(11,[0,1])] [⟨4,AAi,G2⟩,⟨7,⟨[(1,Im),(3,BA),(4,BA),(14,.c (.ptr 0 10)),(15,zj),(16,zj)],fl⟩,G3⟩]
def AZ4:SQ:=mk Tryz.func184 Te CA Rh [s17] [] [⟨4,AAi,D3⟩,⟨7,⟨[(1,Im),(3,BA),(4,BA),(11,.c (.ptr 0 10)),(12,zj),(13,zj)],fl⟩,F6⟩]
def AY8:SQ:=mk Tryz.func280 ⟨[(0,z_),(1,.row Y9),(2,.row Y9)],[]⟩ CA Q6 [wW,AVD,AVA] [] [⟨2,⟨[(3,Im),(4,cB),(5,vA),(7,BA)],[ACJ,AFE,AFE]⟩,JU⟩]
def AWT:SQ:=mk Tryz.func185 Te CA TT [s17,AY8] [(3,[0])] []
def AaD:SQ:=mk Tryz.func100 Te CA V4 [AYy,AYP,AWY,AZ4,AWT] [] []
def AXw:SQ:=mk Tryz.func101 AD3 Zk G1 [ANA,AOI] [(5,[0])] []
def s43:SQ:=mk Tryz.func43 AHl Zk iY [AaD,AXw] [(8,[0])] [] (he:=fun ω v=>by rcases ω with _|⟨_|_,_⟩<;>kernel_rfl)
def ATe:SQ:=mk Tryz.func104 ASb ⟨[(0,.L8 [.inl (.v tI),.inl (.v tI)])],[]⟩ W6 [] [] [⟨3,⟨[(0,lT),(1,BA),(6,BA),(7,BA)],[]⟩,Ly⟩]
def AYE:SQ:=mk Tryz.func105 ⟨[(0,BA),(1,eC)],[]⟩ ALp e_ [] [] []
def AS5:SQ:=mk Tryz.func186 qY lK Ps [Yl] [] []
def AWN:SQ:=mk Tryz.func107 Zk lK UT [ATe,AOI,AS5] [] []
def s44:SQ:=mk Tryz.func44 Zk ALK T3 [s63,ASd,ASa,ATe,AYE,AM5,AWN] [] [⟨3,⟨[(0,lT),(2,Im),(4,cB),(5,BA)],[rR,rR]⟩,Dw⟩,⟨11,⟨[(0,lT),(2,Im),(4,cB),(5,BA),(7,BA),(8,BA),(9,AFM),(10,BA)],[rR,rR,HG]⟩,D8⟩]
def ASK:SQ:=mk Tryz.func281 EZ iM PU [Yl] [] [⟨3,⟨[(0,BA),(3,Zi),(4,BA)],ji⟩,Ia⟩]
abbrev AC8:Bb:=ALd
abbrev AQU:Bb:=ALO
def ASI:RU:=⟨AC8,AQU,(AC8.un P6)⟩
def AXc:eD:=⟨T,Ul (SP.l [s95,rp,AFj]),Cj [(6,[0,1,2])]⟩
def ANb:List (Lp AQU):=[]
theorem AaN(g95:AB4->Option Ga)(AVG:ABx->List Int->Option lN)(AUI:ABx->AB4->Option UL)(n:Nat)(ω:List Bool)(v:AC8.V):DO ⟨T,Ul [(95,⟨i95,o95,i95.un g95⟩),(111,⟨AQr,AVB,AQr.un AVG⟩),(115,⟨APa,ATN,APa.un AUI⟩)],Cj [(6,[0,1,2])]⟩ ASI Tryz.f266 (Og 0 ANb n) ω v=AC8.un (fun(p0:ABx) (p1:AB4) (p2:AAA)=>
 (AUI (p0.1,p0.2.1,()) (p1.1,p1.2.1,())).bind fun u1=>
 cond (!u1.1.1)
  (some (((((),0,()),0,false,()),()),([],())))
 ((g95 (p1.1,p1.2.1,())).bind fun u2=>
 (AVG (p0.1,p0.2.1,()) p2).bind fun u3=>
 cond (!u3.1.1)
  (some (((((),u2.1.1.2.1,()),0,false,()),()),(u2.2.1,())))
 (cond (((p1.1.length:Int)==30))
  (some (((((),u2.1.1.2.1,()),0,false,()),()),(u2.2.1,())))
 (if 0+p2.length<=Go.M.CN then(
 if u2.2.1.length+1<=Go.M.CN then(
 let x5:AAf:=u2.2.1++[(p2,false,0,())]
 some (((((),u2.1.1.2.1,()),(x5.length:Int),true,()),()),(x5,())))else none)else none)))) v:=by rcases ω with _|⟨_|_,_|⟨_|_,_|⟨_|_,_|⟨_|_,_|⟨_|_,_⟩⟩⟩⟩⟩<;>kernel_rfl
theorem AZj(n:Nat)(ω:List Bool)(v:AC8.V):DO AXc ASI Tryz.f266 (Og 0 ANb n) ω v=AC8.un (P6) v:=AaN GN F4 M5 n ω v
def AXP:SQ:=mk Tryz.func266 AC8 AQU P6 [s95,rp,AFj] [(6,[0,1,2])] ANb (hJ:= .nil) (he:=AZj AW)
def AY6:SQ:=mk Tryz.func188 f_ ⟨[(0,.L8 [.inr [.ref 0,.v tI,.ref 1,.ref 2,.ref 8,.v tI,.ref 9,.ref 10,.ref 6,.ref 7,.v .bool],.inl (.v tI)])],[DT,Yn,DT,Qu,Qu,Qu,P5,LN,Me,Vm,Uk]⟩ Ys [AXP,ASK] [(3,[0,1,2,3,4,5,6,7,8,9,10])] [] (he:=fun ω v=>by rcases ω with _|⟨_|_,_|⟨_|_,_⟩⟩<;>kernel_rfl)
def AQV:SQ:=mk Tryz.func282 ABH CA Lq [Yl] [] []
abbrev ACV:Bb:=AMR
abbrev AMg:Bb:=ALj
def ATF:RU:=⟨ACV,AMg,(ACV.un Lj)⟩
def AYk:eD:=⟨T,Ul (SP.l [s97,AIP]),Cj []⟩
def AP9:List (Lp AMg):=[]
theorem AXO(g97:AB5->Option GX)(AP1:ABx->AB5->Option Ni)(n:Nat)(ω:List Bool)(v:ACV.V):DO ⟨T,Ul [(97,⟨i97,o97,i97.un g97⟩),(116,⟨AQE,ATk,AQE.un AP1⟩)],Cj []⟩ ATF Tryz.f268 (Og 0 AP9 n) ω v=ACV.un (fun(p0:ABx) (p1:AB5) (p2:ABF)=>
 (AP1 (p0.1,p0.2.1,()) (p1.1,p1.2.1,())).bind fun u1=>
 cond (!u1.1.1)
  (some ((((0,(),()),0,false,()),()),([],())))
 ((g97 (p1.1,p1.2.1,())).bind fun u2=>
 if u2.2.1.length+1<=Go.M.CN then(
 let x3:AB3:=u2.2.1++[(p2,[],false,())]
 (AP1 (p0.1,p0.2.1,()) (u2.1.1.1,x3,())).bind fun u4=>
 cond (!u4.1.1)
  ((g97 (p1.1,p1.2.1,())).bind fun u5=>
  some ((((u5.1.1.1,(),()),0,false,()),()),(u5.2.1,())))
 (some ((((u2.1.1.1,(),()),(x3.length:Int),true,()),()),(x3,()))))else none)) v:=by rcases ω with _|⟨_|_,_|⟨_|_,_⟩⟩<;>kernel_rfl
theorem AZb(n:Nat)(ω:List Bool)(v:ACV.V):DO AYk ATF Tryz.f268 (Og 0 AP9 n) ω v=ACV.un (Lj) v:=AXO FT Hr n ω v
def AZn:SQ:=mk Tryz.func268 ACV AMg Lj [s97,AIP] [] AP9 (hJ:= .nil) (he:=AZb AW)
def AX6:SQ:=mk Tryz.func189 f_ ⟨[(0,.L8 [.inr [.ref 0,.v tI,.ref 1,.ref 2,.ref 3,.v tI,.ref 4,.ref 5,.ref 6,.ref 8,.v .bool],.inl (.v tI)])],[DT,Yn,DT,Me,Vm,Uk,P5,Qu,LN]⟩ aX [ACA,AZn,AQV] [(3,[0,1,2,3,4,5,6,7,8,9,10]),(7,[0,1,2,3,4,5,6,7,8,9,10]),(11,[0,1,2,3,4,5,6,7,8,9,10,11,12,13,14,15,16,17,18]),(18,[0,1,2,3,4,5,6,7,8,9,10,11,12,13,14,15,16,17,18,19])] [⟨9,⟨[(2,kb),(4,jX),(9,rU),(10,BA)],[DT,Yn,DT,Me,Vm,Uk,P5,LN,wX,yb,HG,kJ,HG,aT,kI,j_,ju,jL,ATb]⟩,Lu⟩,⟨16,⟨[(2,kb),(4,jX),(9,rU),(11,.c (.ref 19)),(12,zj),(13,BA)],[DT,Yn,DT,Me,Vm,Uk,P5,LN,wX,yb,HG,kJ,HG,aT,kI,j_,ju,jL,ATb,jL]⟩,Kh⟩] (he:=fun ω v=>by rcases ω with _|⟨_|_,_|⟨_|_,_|⟨_|_,_⟩⟩⟩<;>kernel_rfl)
def ACh:SQ:=mk Tryz.func283 ABH EZ Hk [qe,Yl] [] []
def AXg:SQ:=mk Tryz.func333 AGU CA Yi [rm] [(2,[0,1])] []
def ASk:SQ:=mk Tryz.func262 AGU wt Q8 [s96,ACT,AJ9,AXg] [] []
def AXx:SQ:=mk Tryz.func190 f_ xM WA [qe,Yl,ACA,zn,ASk,AQV,ACh] [(9,[0,1,2,3,4,5,6,7,8,9,10,11]),(11,[0,1,2,3,4,5,6,7,8,9,10,11,12])] [] (he:=fun ω v=>by rcases ω with _|⟨_|_,_|⟨_|_,_⟩⟩<;>kernel_rfl)
def ASq:SQ:=mk Tryz.func370 ALX ALq Se [] [] []
def AOV:SQ:=mk Tryz.func334 ⟨[(0,aS),(1,.row Y1)],[]⟩ AAt S3 [ASq] [(6,[0,1]),(7,[0]),(9,[0,1])] [⟨4,⟨[(0,aS),(3,Im),(5,xP9),(6,zj),(7,BA)],[AFC,Nf]⟩,J7⟩]
def AS2:SQ:=mk Tryz.func294 m_ wt NT [s96,ACT,Yl,AOV] [(3,[0,1]),(8,[0,1,2,3,5,6])] [⟨5,ALf,Jw⟩] (he:=fun ω v=>by rcases ω with _|⟨_|_,_|⟨_|_,_⟩⟩<;>kernel_rfl)
def ASx:SQ:=mk Tryz.func264 qb wt Pn [AS2] [] []
abbrev nj:Bb:=AHC
abbrev ACQ:Bb:=AA2
def AKD:SQ:=mk Tryz.func338 nj ACQ Hd [] [] [⟨2,⟨[(0,aS),(1,BA),(4,Im),(6,BA)],[AFC]⟩,RI⟩]
abbrev oM:Bb:=ALB
abbrev ACN:Bb:=ALy
def AVQ:SQ:=mk Tryz.func269 oM ACN Fj [s97,rp,AIP,Yl,AE8] [(6,[0,1,2,4]),(7,[0,1,2,4])] []
abbrev pI:Bb:=AMG
abbrev ACZ:Bb:=AA2
def ANj:SQ:=mk Tryz.func289 pI ACZ Eh [AS5,AKD] [] []
abbrev pQ:Bb:=ALG
abbrev ACd:Bb:=AAw
def AR_:SQ:=mk Tryz.func275 pQ ACd Hm [s98,AFW,Yl,AE8] [(6,[0,1,2,3,4,6])] []
abbrev ADQ:Bb:=⟨[(0,AN0),(1,BA)],[DT,Zx,DT,Me,Vm,Uk,P5,LN]⟩
abbrev APY:Bb:=⟨AOz,AGP⟩
def rZ:RU:=⟨ADQ,APY,(ADQ.un Yj)⟩
def AE7:eD:=⟨T,Ul (SP.l [qe,rm,ACA,AHP,zn,AVQ,AR_,ANj,AKD]),Cj [(10,[0,1,2,3,4,5,6,7,8,9,10,11]),(18,[0,1,2,3,4,5,6,7,8,9,10,11,12,13,14,15,16,17,18,19])]⟩
def oL:List (Lp APY):=[⟨3,⟨[(1,BA),(2,kb),(4,jX),(5,rU),(6,BA)],[DT,Zx,DT,Me,mY,Uk,P5,LN,wX,yb,HG,kJ,HG,aT,kI,j_,ju,jL,ADZ]⟩,Bi⟩,⟨8,⟨[(1,BA),(2,kb),(4,jX),(5,rU),(6,BA),(7,wF),(8,BA),(46,.c (.ptr 18 2)),(47,BA),(48,wF),(49,BA),(50,zj)],AEo⟩,Bh⟩,⟨15,⟨[(1,BA),(2,kb),(4,jX),(5,rU),(6,BA),(7,wF),(11,BA),(46,.c (.ptr 18 2)),(47,BA),(48,wF),(49,BA),(50,zj)],AEo⟩,BO⟩,⟨21,⟨[(1,BA),(2,kb),(4,jX),(5,rU),(13,BA)],[DT,Zx,DT,Me,mY,.sl 1 Y7,P5,LN,wX,yb,HG,kJ,HG,aT,kI,j_,ju,jL,ADZ]⟩,Bj⟩,⟨25,⟨[(1,BA),(2,kb),(4,jX),(5,rU),(13,BA),(14,wF),(15,BA)],[DT,Zx,DT,Me,mY,.sl 1 Y7,P5,LN,wX,yb,HG,kJ,HG,aT,kI,j_,ju,jL,ADZ,.mem [.v tI,.v tI,.sl true tI,.sl true Y1,.v .bool,.sl true (.sl tI)]]⟩,Bf⟩]
abbrev ot:Bb:=⟨[(1,BA),(2,kb),(4,jX),(5,rU),(6,BA)],[DT,Zx,DT,Me,mY,Uk,P5,LN,wX,yb,HG,kJ,HG,aT,kI,j_,ju,jL,ADZ]⟩
abbrev nP:Bb:=⟨[(1,BA),(2,kb),(4,jX),(5,rU),(6,BA),(7,wF),(8,BA),(46,.c (.ptr 18 2)),(47,BA),(48,wF),(49,BA),(50,zj)],AEo⟩
abbrev jA:Bb:=⟨[(1,BA),(2,kb),(4,jX),(5,rU),(6,BA),(7,wF),(11,BA),(46,.c (.ptr 18 2)),(47,BA),(48,wF),(49,BA),(50,zj)],AEo⟩
abbrev jD:Bb:=⟨[(1,BA),(2,kb),(4,jX),(5,rU),(13,BA)],[DT,Zx,DT,Me,mY,.sl 1 Y7,P5,LN,wX,yb,HG,kJ,HG,aT,kI,j_,ju,jL,ADZ]⟩
abbrev il:Bb:=⟨[(1,BA),(2,kb),(4,jX),(5,rU),(13,BA),(14,wF),(15,BA)],[DT,Zx,DT,Me,mY,.sl 1 Y7,P5,LN,wX,yb,HG,kJ,HG,aT,kI,j_,ju,jL,ADZ,.mem [.v tI,.v tI,.sl true tI,.sl true Y1,.v .bool,.sl true (.sl tI)]]⟩
theorem APq(n_:List Int->Int->Option Hj)(rY:Int->Option KE)(rL:Int->Int->Option KD)(oG:Int->Option M8)(oY:AB4->Int->Option Ig)(rX:ABx->AB5->Int->Int->Option Hg)(rC:ABx->AB1->Int->Int->Option KG)(qx:AB1->Int->Option Ha)(oc:ABd->Int->Option Hn)(n:Nat)(v:ot.V)(ω:List Bool):LM ⟨T,Ul [(113,⟨pS,AC3,pS.un n_⟩),(121,⟨ov,ACB,ov.un rY⟩),(177,⟨oy,ACo,oy.un rL⟩),(216,⟨pM,ADl,pM.un oG⟩),(217,⟨oZ,ADB,oZ.un oY⟩),(269,⟨oM,ACN,oM.un rX⟩),(275,⟨pQ,ACd,pQ.un rC⟩),(289,⟨pI,ACZ,pI.un qx⟩),(338,⟨nj,ACQ,nj.un oc⟩)],Cj [(10,[0,1,2,3,4,5,6,7,8,9,10,11]),(18,[0,1,2,3,4,5,6,7,8,9,10,11,12,13,14,15,16,17,18,19])]⟩ rZ Tryz.f284 (Og 8 oL n) 3 ω (ot.st 207 v)=ot.un (fun(t1:Int) (t6:Int) (b0:AAA) (b1:AAd) (b2:AAA) (b3:AAf) (b4:ABE) (b5:ABI) (b6:AAs) (b7:AA8) (D4:Int) (EJ:Int) (Cf:Bool) (E7:Int) (HM:Int) (De:Bool) (PX:AAA) (Hh:AAd) (EW:AAA) (Ii:AAf) (Iy:ABE) (FU:ABI) (GR:AAs) (HH:AA8) (C5:ABd) (DX:ABd) (C6:Int)=>
 cond ((decide (t6<(b4.length:Int))))
  (if(0:Int)<=t6/\t6<(b4.length:Int)then(
  (oY (b3,EJ,()) ((b4.getD (t6.toNat) (0,[],())).1)).bind fun u3=>
  (n_ u3.2.1 t1).bind fun u4=>
  cond (!u4.1.1)
   ((Bi n) t1 (AQ (t6+1)) b0 b1 b2 b3 b4 b5 b6 b7 D4 EJ Cf E7 HM De PX Hh EW Ii Iy FU GR HH C5 DX C6)
  (let x5:Int:=(b4.getD (t6.toNat) (0,[],())).1
  cond (decide (C6>=x5))
   ((Bi n) t1 (AQ (t6+1)) b0 b1 b2 b3 b4 b5 b6 b7 D4 EJ Cf E7 HM De PX Hh EW Ii Iy FU GR HH C5 DX C6)
  ((Bh n) t1 t6 1 C6 x5 (decide (C6>=x5)) b0 b1 b2 b3 b4 b5 b6 b7 D4 EJ Cf E7 HM De PX Hh EW Ii Iy FU GR HH C5 DX C6 ((b4.getD (t6.toNat) (0,[],())).1) ((b4.getD (t6.toNat) (0,[],())).2.1))))else none)
 ((Bj n) t1 0 b0 b1 b2 b3 b4 b5 b6 b7 D4 EJ Cf E7 HM De PX Hh EW Ii Iy FU GR HH C5 DX C6)) v:=by kernel_rfl
theorem AQO(n:Nat)(v:ot.V)(ω:List Bool):LM AE7 rZ Tryz.f284 (Og 8 oL n) 3 ω (ot.st 207 v)=ot.un (NM (Bi n) (Bh n) (BO n) (Bj n) (Bf n)) v:=APq DI Cn Dh Gl Ce Fj Hm Eh Hd n v ω
def Ua(ω:List Bool):Prop:= ∀(n_:List Int->Int->Option Hj) (rY:Int->Option KE) (rL:Int->Int->Option KD) (oG:Int->Option M8) (oY:AB4->Int->Option Ig) (rX:ABx->AB5->Int->Int->Option Hg) (rC:ABx->AB1->Int->Int->Option KG) (qx:AB1->Int->Option Ha) (oc:ABd->Int->Option Hn) (n:Nat) (v:nP.V),LM ⟨T,Ul [(113,⟨pS,AC3,pS.un n_⟩),(121,⟨ov,ACB,ov.un rY⟩),(177,⟨oy,ACo,oy.un rL⟩),(216,⟨pM,ADl,pM.un oG⟩),(217,⟨oZ,ADB,oZ.un oY⟩),(269,⟨oM,ACN,oM.un rX⟩),(275,⟨pQ,ACd,pQ.un rC⟩),(289,⟨pI,ACZ,pI.un qx⟩),(338,⟨nj,ACQ,nj.un oc⟩)],Cj [(10,[0,1,2,3,4,5,6,7,8,9,10,11]),(18,[0,1,2,3,4,5,6,7,8,9,10,11,12,13,14,15,16,17,18,19])]⟩ rZ Tryz.f284 (Og 8 oL n) 8 ω (nP.st 207 v)=nP.un (fun(t1:Int) (t6:Int) (t8:Int) (t47:Int) (t49:Int) (t50:Bool) (b0:AAA) (b1:AAd) (b2:AAA) (b3:AAf) (b4:ABE) (b5:ABI) (b6:AAs) (b7:AA8) (D4:Int) (EJ:Int) (Cf:Bool) (E7:Int) (HM:Int) (De:Bool) (PX:AAA) (Hh:AAd) (EW:AAA) (Ii:AAf) (Iy:ABE) (FU:ABI) (GR:AAs) (HH:AA8) (C5:ABd) (DX:ABd) (C6:Int) (GD:Int) (EB:AB3)=>
 cond ((decide (t8<=(EB.length:Int))))
  ((rL GD t8).bind fun u7=>
  (oc C5 u7.1.1).bind fun u8=>
  cond (!u8.1.1.2.1)
   ((Bh n) t1 t6 (AQ (t8+1)) t47 t49 t50 b0 b1 b2 b3 b4 b5 b6 b7 D4 EJ Cf E7 HM De PX Hh EW Ii Iy FU GR HH C5 DX C6 GD EB)
  (cond (u8.1.1.1.2.1 !=0)
   ((Bh n) t1 t6 (AQ (t8+1)) t47 t49 t50 b0 b1 b2 b3 b4 b5 b6 b7 D4 EJ Cf E7 HM De PX Hh EW Ii Iy FU GR HH C5 DX C6 GD EB)
  (if(0:Int)<=AQ (t8-1)/\AQ (t8-1)<(EB.length:Int)then(
  cond (((EB.getD ((AQ (t8-1)).toNat) ([],[],false,())).2.2.1))
   ((Bh n) t1 t6 (AQ (t8+1)) t47 t49 t50 b0 b1 b2 b3 b4 b5 b6 b7 D4 EJ Cf E7 HM De PX Hh EW Ii Iy FU GR HH C5 DX C6 GD EB)
  ((rX (b0,D4,()) (GD,EB,()) t8 t1).bind fun Dk=>
  (Bh n) t1 t6 (AQ (t8+1)) t47 t49 t50 b0 b1 b2 b3 b4 b5 b6 b7 D4 EJ Cf E7 HM De PX Hh EW Ii Iy FU GR HH C5 DX C6 Dk.1.1.1.1 Dk.2.1))else none)))
 (if(0:Int)<=t6/\t6<(b4.length:Int)then(
 (BO n) t1 t6 0 t47 t49 t50 b0 b1 b2 b3 (b4.set (t6.toNat) (GD,EB,())) b5 b6 b7 D4 EJ Cf E7 HM De PX Hh EW Ii Iy FU GR HH C5 DX C6 GD EB)else none)) v
theorem AGf:Ua []:=by delta Ua;intros;kernel_rfl
theorem AGe:Ua (false::[]):=by delta Ua;intros;kernel_rfl
theorem AGi:∀ω:List Bool,Ua (false::false::ω):=by refine AE ?_ (AE ?_ ?_ ?_) ?_<;>(delta Ua;intros;kernel_rfl)
theorem AIt:∀ω:List Bool,Ua (false::true::ω):=by refine AE ?_ (AE ?_ (AE ?_ ?_ ?_) (AE ?_ ?_ (AE ?_ ?_ ?_))) (AE ?_ ?_ (AE ?_ ?_ ?_))<;>(delta Ua;intros;kernel_rfl)
theorem AHX:∀ω:List Bool,Ua (true::ω):=by refine AE ?_ ?_ (AE ?_ ?_ (AE ?_ ?_ ?_))<;>(delta Ua;intros;kernel_rfl)
theorem AMh(ω:List Bool):Ua ω:=(AE AGf (AE AGe AGi AIt) AHX) ω
theorem ANi(n:Nat)(v:nP.V)(ω:List Bool):LM AE7 rZ Tryz.f284 (Og 8 oL n) 8 ω (nP.st 207 v)=nP.un (Ms (Bi n) (Bh n) (BO n) (Bj n) (Bf n)) v:=AMh ω DI Cn Dh Gl Ce Fj Hm Eh Hd n v
theorem AKc(n_:List Int->Int->Option Hj)(rY:Int->Option KE)(rL:Int->Int->Option KD)(oG:Int->Option M8)(oY:AB4->Int->Option Ig)(rX:ABx->AB5->Int->Int->Option Hg)(rC:ABx->AB1->Int->Int->Option KG)(qx:AB1->Int->Option Ha)(oc:ABd->Int->Option Hn)(n:Nat)(v:jA.V)(ω:List Bool):LM ⟨T,Ul [(113,⟨pS,AC3,pS.un n_⟩),(121,⟨ov,ACB,ov.un rY⟩),(177,⟨oy,ACo,oy.un rL⟩),(216,⟨pM,ADl,pM.un oG⟩),(217,⟨oZ,ADB,oZ.un oY⟩),(269,⟨oM,ACN,oM.un rX⟩),(275,⟨pQ,ACd,pQ.un rC⟩),(289,⟨pI,ACZ,pI.un qx⟩),(338,⟨nj,ACQ,nj.un oc⟩)],Cj [(10,[0,1,2,3,4,5,6,7,8,9,10,11]),(18,[0,1,2,3,4,5,6,7,8,9,10,11,12,13,14,15,16,17,18,19])]⟩ rZ Tryz.f284 (Og 8 oL n) 15 ω (jA.st 207 v)=jA.un (fun(t1:Int) (t6:Int) (t11:Int) (t47:Int) (t49:Int) (t50:Bool) (b0:AAA) (b1:AAd) (b2:AAA) (b3:AAf) (b4:ABE) (b5:ABI) (b6:AAs) (b7:AA8) (D4:Int) (EJ:Int) (Cf:Bool) (E7:Int) (HM:Int) (De:Bool) (PX:AAA) (Hh:AAd) (EW:AAA) (Ii:AAf) (Iy:ABE) (FU:ABI) (GR:AAs) (HH:AA8) (C5:ABd) (DX:ABd) (C6:Int) (GD:Int) (EB:AB3)=>
 cond ((decide (t11<(b7.length:Int))))
  (if(0:Int)<=t11/\t11<(b7.length:Int)then(
  let x65:Int:=(b7.getD (t11.toNat) (0,[],false,())).1
  (rY x65).bind fun u66=>
  cond (u66.1.1==GD)
   ((oG x65).bind fun u67=>
   cond ((decide (u67.1.1<=(EB.length:Int))))
    ((oG x65).bind fun u69=>
    if(0:Int)<=AQ (u69.1.1-1)/\AQ (u69.1.1-1)<(EB.length:Int)then(
    cond (((EB.getD ((AQ (u69.1.1-1)).toNat) ([],[],false,())).2.2.1))
     (if(0:Int)<=t11/\t11<(b7.length:Int)then(
     (BO n) t1 t6 (AQ (t11+1)) t47 t49 t50 b0 b1 b2 b3 b4 b5 b6 (b7.set (t11.toNat) ((b7.getD (t11.toNat) (0,[],false,())).1,(b7.getD (t11.toNat) (0,[],false,())).2.1,true,())) D4 EJ Cf E7 HM De PX Hh EW Ii Iy FU GR HH C5 DX C6 GD EB)else none)
    ((BO n) t1 t6 (AQ (t11+1)) t47 t49 t50 b0 b1 b2 b3 b4 b5 b6 b7 D4 EJ Cf E7 HM De PX Hh EW Ii Iy FU GR HH C5 DX C6 GD EB))else none)
   ((BO n) t1 t6 (AQ (t11+1)) t47 t49 t50 b0 b1 b2 b3 b4 b5 b6 b7 D4 EJ Cf E7 HM De PX Hh EW Ii Iy FU GR HH C5 DX C6 GD EB))
  ((BO n) t1 t6 (AQ (t11+1)) t47 t49 t50 b0 b1 b2 b3 b4 b5 b6 b7 D4 EJ Cf E7 HM De PX Hh EW Ii Iy FU GR HH C5 DX C6 GD EB))else none)
 ((Bi n) t1 (AQ (t6+1)) b0 b1 b2 b3 b4 b5 b6 b7 D4 EJ Cf E7 HM De PX Hh EW Ii Iy FU GR HH C5 DX C6)) v:=by kernel_rfl
theorem AJ2(n:Nat)(v:jA.V)(ω:List Bool):LM AE7 rZ Tryz.f284 (Og 8 oL n) 15 ω (jA.st 207 v)=jA.un (LS (Bi n) (Bh n) (BO n) (Bj n) (Bf n)) v:=AKc DI Cn Dh Gl Ce Fj Hm Eh Hd n v ω
theorem AJg(n_:List Int->Int->Option Hj)(rY:Int->Option KE)(rL:Int->Int->Option KD)(oG:Int->Option M8)(oY:AB4->Int->Option Ig)(rX:ABx->AB5->Int->Int->Option Hg)(rC:ABx->AB1->Int->Int->Option KG)(qx:AB1->Int->Option Ha)(oc:ABd->Int->Option Hn)(n:Nat)(v:jD.V)(ω:List Bool):LM ⟨T,Ul [(113,⟨pS,AC3,pS.un n_⟩),(121,⟨ov,ACB,ov.un rY⟩),(177,⟨oy,ACo,oy.un rL⟩),(216,⟨pM,ADl,pM.un oG⟩),(217,⟨oZ,ADB,oZ.un oY⟩),(269,⟨oM,ACN,oM.un rX⟩),(275,⟨pQ,ACd,pQ.un rC⟩),(289,⟨pI,ACZ,pI.un qx⟩),(338,⟨nj,ACQ,nj.un oc⟩)],Cj [(10,[0,1,2,3,4,5,6,7,8,9,10,11]),(18,[0,1,2,3,4,5,6,7,8,9,10,11,12,13,14,15,16,17,18,19])]⟩ rZ Tryz.f284 (Og 8 oL n) 21 ω (jD.st 207 v)=jD.un (fun(t1:Int) (t13:Int) (b0:AAA) (b1:AAd) (b2:AAA) (b3:AAf) (b4:ABE) (b5:ABI) (b6:AAs) (b7:AA8) (D4:Int) (EJ:Int) (Cf:Bool) (E7:Int) (HM:Int) (De:Bool) (PX:AAA) (Hh:AAd) (EW:AAA) (Ii:AAf) (Iy:ABE) (FU:ABI) (GR:AAs) (HH:AA8) (C5:ABd) (DX:ABd) (C6:Int)=>
 cond ((decide (t13<(b5.length:Int))))
  (if(0:Int)<=t13/\t13<(b5.length:Int)then(
  (Bf n) t1 t13 1 b0 b1 b2 b3 b4 b5 b6 b7 D4 EJ Cf E7 HM De PX Hh EW Ii Iy FU GR HH C5 DX C6 ((b5.getD (t13.toNat) (0,0,[],[],false,[],())).1) ((b5.getD (t13.toNat) (0,0,[],[],false,[],())).2.1) ((b5.getD (t13.toNat) (0,0,[],[],false,[],())).2.2.1) ((b5.getD (t13.toNat) (0,0,[],[],false,[],())).2.2.2.1) ((b5.getD (t13.toNat) (0,0,[],[],false,[],())).2.2.2.2.1) ((b5.getD (t13.toNat) (0,0,[],[],false,[],())).2.2.2.2.2.1))else none)
 (some ((((),D4,(),(),(),EJ,(),(),(),(),Cf,()),()),(b0,b1,b2,b3,b4,b5,b6,b7,())))) v:=by kernel_rfl
theorem AKY(n:Nat)(v:jD.V)(ω:List Bool):LM AE7 rZ Tryz.f284 (Og 8 oL n) 21 ω (jD.st 207 v)=jD.un (Lf (Bi n) (Bh n) (BO n) (Bj n) (Bf n)) v:=AJg DI Cn Dh Gl Ce Fj Hm Eh Hd n v ω
theorem AJQ(n_:List Int->Int->Option Hj)(rY:Int->Option KE)(rL:Int->Int->Option KD)(oG:Int->Option M8)(oY:AB4->Int->Option Ig)(rX:ABx->AB5->Int->Int->Option Hg)(rC:ABx->AB1->Int->Int->Option KG)(qx:AB1->Int->Option Ha)(oc:ABd->Int->Option Hn)(n:Nat)(v:il.V)(ω:List Bool):LM ⟨T,Ul [(113,⟨pS,AC3,pS.un n_⟩),(121,⟨ov,ACB,ov.un rY⟩),(177,⟨oy,ACo,oy.un rL⟩),(216,⟨pM,ADl,pM.un oG⟩),(217,⟨oZ,ADB,oZ.un oY⟩),(269,⟨oM,ACN,oM.un rX⟩),(275,⟨pQ,ACd,pQ.un rC⟩),(289,⟨pI,ACZ,pI.un qx⟩),(338,⟨nj,ACQ,nj.un oc⟩)],Cj [(10,[0,1,2,3,4,5,6,7,8,9,10,11]),(18,[0,1,2,3,4,5,6,7,8,9,10,11,12,13,14,15,16,17,18,19])]⟩ rZ Tryz.f284 (Og 8 oL n) 25 ω (il.st 207 v)=il.un (fun(t1:Int) (t13:Int) (t15:Int) (b0:AAA) (b1:AAd) (b2:AAA) (b3:AAf) (b4:ABE) (b5:ABI) (b6:AAs) (b7:AA8) (D4:Int) (EJ:Int) (Cf:Bool) (E7:Int) (HM:Int) (De:Bool) (PX:AAA) (Hh:AAd) (EW:AAA) (Ii:AAf) (Iy:ABE) (FU:ABI) (GR:AAs) (HH:AA8) (C5:ABd) (DX:ABd) (C6:Int) (GD:Int) (EB:Int) (dx:AAA) (dI:ABd) (dk:Bool) (cm:List AAA)=>
 if(0:Int)<=t13/\t13<(b5.length:Int)then(
 cond (decide (t15<=(((b5.getD (t13.toNat) (0,0,[],[],false,[],())).2.2.2.2.2.1).length:Int)))
  ((oY (b3,EJ,()) EB).bind fun u74=>
  (n_ u74.2.1 t1).bind fun u75=>
  cond (u75.1.1)
   ((qx (GD,EB,dx,dI,dk,cm,()) t15).bind fun u76=>
   (oc C5 u76.1.1.1.1).bind fun u77=>
   cond (u77.1.1.2.1)
    (cond (((u77.1.1.1.1==u76.1.1.1.1)&&((u77.1.1.1.2.1==u76.1.1.1.2.1)&&((u77.1.1.1.2.2.1==u76.1.1.1.2.2.1)&&((u77.1.1.1.2.2.2.1==u76.1.1.1.2.2.2.1)&&true)))))
     ((rC (b0,D4,()) (GD,EB,dx,dI,dk,cm,()) t15 t1).bind fun u79=>
     (Bf n) t1 t13 (AQ (t15+1)) b0 b1 b2 b3 b4 b5 b6 b7 D4 EJ Cf E7 HM De PX Hh EW Ii Iy FU GR HH C5 DX C6 u79.1.1.1.1 u79.1.1.1.2.1 u79.2.1 u79.2.2.1 u79.1.1.1.2.2.2.2.1 u79.2.2.2.1)
    ((Bf n) t1 t13 (AQ (t15+1)) b0 b1 b2 b3 b4 b5 b6 b7 D4 EJ Cf E7 HM De PX Hh EW Ii Iy FU GR HH C5 DX C6 GD EB dx dI dk cm))
   ((Bf n) t1 t13 (AQ (t15+1)) b0 b1 b2 b3 b4 b5 b6 b7 D4 EJ Cf E7 HM De PX Hh EW Ii Iy FU GR HH C5 DX C6 GD EB dx dI dk cm))
  (if(0:Int)<=t13/\t13<(b5.length:Int)then(
  (Bj n) t1 (AQ (t13+1)) b0 b1 b2 b3 b4 (b5.set (t13.toNat) (GD,EB,dx,dI,dk,cm,())) b6 b7 D4 EJ Cf E7 HM De PX Hh EW Ii Iy FU GR HH C5 DX C6)else none))
 (if(0:Int)<=t13/\t13<(b5.length:Int)then(
 (Bj n) t1 (AQ (t13+1)) b0 b1 b2 b3 b4 (b5.set (t13.toNat) (GD,EB,dx,dI,dk,cm,())) b6 b7 D4 EJ Cf E7 HM De PX Hh EW Ii Iy FU GR HH C5 DX C6)else none))else none) v:=by kernel_rfl
theorem AKa(n:Nat)(v:il.V)(ω:List Bool):LM AE7 rZ Tryz.f284 (Og 8 oL n) 25 ω (il.st 207 v)=il.un (Iv (Bi n) (Bh n) (BO n) (Bj n) (Bf n)) v:=AJQ DI Cn Dh Gl Ce Fj Hm Eh Hd n v ω
theorem AYJ(n_:List Int->Int->Option Hj)(rY:Int->Option KE)(rL:Int->Int->Option KD)(oG:Int->Option M8)(oY:AB4->Int->Option Ig)(rX:ABx->AB5->Int->Int->Option Hg)(rC:ABx->AB1->Int->Int->Option KG)(qx:AB1->Int->Option Ha)(oc:ABd->Int->Option Hn)(n:Nat)(ω:List Bool)(v:ADQ.V):DO ⟨T,Ul [(113,⟨pS,AC3,pS.un n_⟩),(121,⟨ov,ACB,ov.un rY⟩),(177,⟨oy,ACo,oy.un rL⟩),(216,⟨pM,ADl,pM.un oG⟩),(217,⟨oZ,ADB,oZ.un oY⟩),(269,⟨oM,ACN,oM.un rX⟩),(275,⟨pQ,ACd,pQ.un rC⟩),(289,⟨pI,ACZ,pI.un qx⟩),(338,⟨nj,ACQ,nj.un oc⟩)],Cj [(10,[0,1,2,3,4,5,6,7,8,9,10,11]),(18,[0,1,2,3,4,5,6,7,8,9,10,11,12,13,14,15,16,17,18,19])]⟩ rZ Tryz.f284 (Og 8 oL n) ω v=ADQ.un (fun(CP:Int) (CV:Int) (BX:Bool) (p1:Int) (b0:AAA) (b1:AAd) (b2:AAA) (b3:AAf) (b4:ABE) (b5:ABI) (b6:AAs) (b7:AA8)=>
 if(0:Int)<=p1/\p1<(b1.length:Int)then(
 (Bi n) p1 0 b0 b1 b2 b3 b4 b5 b6 b7 CP CV BX 0 0 false [] [] [] [] [] [] [] [] ((b1.getD (p1.toNat) ([],[],0,())).1) ((b1.getD (p1.toNat) ([],[],0,())).2.1) ((b1.getD (p1.toNat) ([],[],0,())).2.2.1))else none) v:=by kernel_rfl
theorem AZm(n:Nat)(ω:List Bool)(v:ADQ.V):DO AE7 rZ Tryz.f284 (Og 8 oL n) ω v=ADQ.un (SA (Bi n) (Bh n) (BO n) (Bj n) (Bf n)) v:=AYJ DI Cn Dh Gl Ce Fj Hm Eh Hd n ω v
def AXY:SQ:=mk Tryz.func284 ADQ APY Yj [qe,rm,ACA,AHP,zn,AVQ,AR_,ANj,AKD] [(10,[0,1,2,3,4,5,6,7,8,9,10,11]),(18,[0,1,2,3,4,5,6,7,8,9,10,11,12,13,14,15,16,17,18,19])] oL (hJ:= .cons (fun _=>rfl) AQO (.cons (fun _=>rfl) ANi (.cons (fun _=>rfl) AJ2 (.cons (fun _=>rfl) AKY (.cons (fun _=>rfl) AKa (.nil)))))) (he:=AZm AW)
def AXD:SQ:=mk Tryz.func191 f_ ALA Yq [ASx,ACh,AXY] [] []
def AGI:SQ:=mk Tryz.func288 AHk iM JF [qe] [] [⟨3,⟨[(0,eC),(1,eC),(5,Zi),(6,BA)],ji⟩,PL⟩]
def AWG:SQ:=mk Tryz.func285 AMV ALy OH [s97,AIP,AGI] [(8,[0,1,2])] [⟨5,⟨[(2,BA),(6,Im),(8,vA),(9,BA)],ALL⟩,Hy⟩] (hJ:= .cons (fun _=>rfl) (fun n v ω=>by rcases ω with _|⟨_|_,_⟩<;>kernel_rfl) (.nil))
def AZi:SQ:=mk Tryz.func286 ALW AAw Rb [s98,AFW,AGI] [(7,[0,1,2,3,4,5,6])] [⟨5,⟨[(2,BA),(6,Im),(8,ADk),(9,BA)],AMa⟩,KC⟩] (hJ:= .cons (fun _=>rfl) (fun n v ω=>by rcases ω with _|⟨_|_,_⟩<;>kernel_rfl) (.nil))
def AZz:SQ:=mk Tryz.func192 f_ ⟨AUC,[DT,Yn,Qu,Me,Vm,Uk,P5,LN,DT]⟩ YO [rp,AE8,ACh,AWG,AZi] [(9,[0,1,2,3,5,6,7,8,9,10,11,12,13,14,15,16,17,18,19]),(13,[0,1,2,3,4,6,7,8,9,10,11,12,13,14,15,16,17,18,19])] [⟨7,⟨[(2,kb),(3,jw),(4,.c (.ptr 11 0)),(7,BA)],ALV⟩,KT⟩,⟨11,⟨[(2,kb),(3,jw),(4,.c (.ptr 11 0)),(8,BA)],ALV⟩,Jc⟩]
def AYo:SQ:=mk Tryz.func339 qA CA bh [ACf,rp] [] []
def AXH:SQ:=mk Tryz.func340 ⟨[(0,AAo)],[]⟩ AAt cV [AOV] [] [⟨3,⟨[(0,AAo),(3,Zi),(4,BA)],[Nf]⟩,Jl⟩,⟨6,⟨[(0,AAo),(3,Zi),(4,BA),(5,BA)],[Nf]⟩,JV⟩]
def AZl:SQ:=mk Tryz.func287 AL9 ⟨ATP,[Zx,Nf,Nf]⟩ ix [s57,ACT,qe,AYo,AXH] [] [⟨6,⟨[(1,Zi),(2,eC),(4,BA),(10,cB),(12,ADk),(13,.c (.ref 7)),(14,BA)],ALC⟩,QH⟩,⟨11,⟨[(4,BA),(10,cB),(12,ADk),(13,.c (.ref 7)),(15,BA)],ALC⟩,Nj⟩]
def AW5:SQ:=mk Tryz.func193 f_ ⟨AUC,[DT,Zx,Qu,Me,Vm,Uk,P5,LN,DT]⟩ Yr [qe,AI0,AZl,AGI] [(3,[0,2,3,4,5,6,7,8,9,10])] [] (he:=fun ω v=>by rcases ω with _|⟨_|_,_|⟨_|_,_⟩⟩<;>kernel_rfl)
def AaV:SQ:=mk Tryz.func270 qY AAU mq [] [] []
def AY0:SQ:=mk Tryz.func194 AI4 ⟨[(0,.L8 [.inr [.ref 0,.v tI,.ref 1,.ref 2,.ref 3,.v tI,.ref 4,.ref 8,.ref 6,.ref 7,.v .bool],.inl (.v tI)])],[DT,Yn,DT,Me,Vm,Qu,P5,LN,Uk]⟩ Yp [AKh,AaV] [] []
def AWS:SQ:=mk Tryz.func265 m_ wt Tk [s96,ACT,Yl,AI0,ASx] [] []
def AZf:SQ:=mk Tryz.func272 m_ AAt WU [ACT,rm] [] [⟨3,⟨[(1,BA),(2,Im),(5,xP9),(6,BA)],[AP4,Nf]⟩,JW⟩]
def AW3:SQ:=mk Tryz.func271 ALS AAw Vv [s98,AFW,rm,AE8,AOV] [(8,[0,1,2,3,4,5,6,7,8,9]),(9,[0,1,2,3,4,5,7,8,9])] [⟨6,⟨[(3,aS),(4,Im),(5,cB),(8,vA),(10,.c (.ptr 6 0)),(11,BA)],[yG,ACq,AUb,HG,Nf,sg,AUk,HG,Nf,sg]⟩,Lh⟩]
def AYz:SQ:=mk Tryz.func195 f_ xM YR [qe,zn,AWS,AW3,AZf,ACh] [(7,[0,1,2,3,4,5,6,7,8,9,10,11]),(9,[0,1,2,3,4,5,6,7,8,9,10,11,12]),(10,[0,1,2,3,4,5,6,7,8,9,10,11,12,13,14,15])] [] (he:=fun ω v=>by rcases ω with _|⟨_|_,_|⟨_|_,_|⟨_|_,_⟩⟩⟩<;>kernel_rfl)
def ASs:SQ:=mk Tryz.func336 AHk iM Kw [AGI] [] []
def ATG:SQ:=mk Tryz.func335 AG9 CA Ky [ACf,rp,ATH,AGI] [(3,[0,1])] []
def AWn:SQ:=mk Tryz.func273 AL4 AAw V7 [s98,AFW,AUX,ATG,ASs] [(4,[0,1,2,3,4,5,6])] [⟨8,⟨[(4,Im),(6,cB),(8,.c (.ptr 5 0)),(9,BA)],AHU⟩,Ma⟩]
def AaR:SQ:=mk Tryz.func196 AI4 xM YQ [zn,AWn] [(3,[0,1,2,3,4,5,6,7,8,9])] [] (he:=fun ω v=>by rcases ω with _|⟨_|_,_|⟨_|_,_⟩⟩<;>kernel_rfl)
def AWQ:SQ:=mk Tryz.func197 f_ xM bn [qe,zn,ASk,ACh,ANj] [(3,[0,1,2,3,4,5,6,7,8,9,10]),(9,[0,1,2,3,4,5,6,7,8,9,10,11]),(11,[0,1,2,3,4,5,6,7,8,9,10,11,12])] [] (he:=fun ω v=>by rcases ω with _|⟨_|_,_|⟨_|_,_⟩⟩<;>kernel_rfl)
def AZ6:SQ:=mk Tryz.func290 AAe CA T9 [rp,AFW] [(6,[0,1])] [⟨4,AL6,K6⟩]
def AYQ:SQ:=mk Tryz.func267 AMc AEl Vy [s95,AFj,AKh,Yl] [] []
def AWC:SQ:=mk Tryz.func198 AI4 ⟨[(0,.L8 [.inr [.ref 0,.v tI,.ref 1,.ref 2,.ref 8,.v tI,.ref 4,.ref 9,.ref 6,.ref 7,.v .bool],.inl (.v tI)])],[DT,Yn,DT,Qu,Vm,Qu,P5,LN,Me,Uk]⟩ Vz [AYQ,AZ6] [(3,[0,1,2,3,4,5,6,7,8,9]),(5,[0,1,2,3,4,5,6,7,8,9])] [] (he:=fun ω v=>by rcases ω with _|⟨_|_,_⟩<;>kernel_rfl)
def AZo:SQ:=mk Tryz.func199 ALI AEl YW [s95,AFj,wW,rm,AI0] [(4,[0,1,2,3,4])] []
def AXB:SQ:=mk Tryz.func344 AEf EZ Xf [] [] [⟨2,⟨AKs,[AKW]⟩,J9⟩]
def AWU:SQ:=mk Tryz.func292 ABH EZ ie [AXB] [] [⟨2,⟨[(1,BA),(2,Im),(5,BA)],fl⟩,O3⟩]
def AYX:SQ:=mk Tryz.func293 ⟨[(0,z_),(1,.row Y9),(2,BA)],[]⟩ ⟨AEy,[.sl 9 Y14]⟩ Ro [ACA,ASK,ACh,AKD] [(6,[0,1,2,3]),(7,[0,1,2,3]),(8,[0,1,3,4])] [⟨4,⟨[(3,Im),(4,cB),(7,AFM),(8,.c (.ref 3)),(9,BA)],[ACJ,AFE,.sl 9 Y14,HG]⟩,Jz⟩] (hJ:= .cons (fun _=>rfl) (fun n v ω=>by rcases ω with _|⟨_|_,_|⟨_|_,_⟩⟩<;>kernel_rfl) (.nil))
def AYW:SQ:=mk Tryz.func341 ⟨[(0,vd),(1,wc)],[]⟩ ⟨[(0,.L8 [.inl (.ref 0),.inl (.v .bool)])],ji⟩ cN [ACf] [] [⟨3,⟨[(1,wc),(2,Im),(6,xP9),(7,BA)],ALv⟩,MZ⟩]
def AZ5:SQ:=mk Tryz.func342 ⟨[(0,.row Y9),(1,.row Y8),(2,BA),(3,BA)],[]⟩ ABX I7 [s99] [] []
def AWO:SQ:=mk Tryz.func343 ⟨[(0,eC),(1,BA),(2,wc)],[]⟩ ⟨[(0,.agg [.v tI,.v tI,.v .str])],[]⟩ My [qe,AJ9,ASq] [] [⟨4,⟨[(0,eC),(1,BA),(2,wc),(6,Im),(7,cB),(8,zj),(9,BA)],[.mem [.v tI,.v tI,.v .str],AFC]⟩,NY⟩]
def AYD:SQ:=mk Tryz.func291 ALP ⟨AR1,[.sl 9 Y8]⟩ Rp [s48,s99,AFj,rm,ACA,AHP,ATG,ASs,AYW,AZ5,AWO] [(9,[0,1,2,4,5]),(14,[0,1,2,3,4,5]),(16,[0,1,2,4,5,6])] []
def AWl:SQ:=mk Tryz.func200 f_ xM YT [Yl,AYD,AWU,AYX] [(3,[0,1,2,3,4,5,6,7,8,9,10])] [] (he:=fun ω v=>by rcases ω with _|⟨_|_,_|⟨_|_,_|⟨_|_,_⟩⟩⟩<;>kernel_rfl)
def AY3:SQ:=mk Tryz.func201 f_ ⟨[(0,.L8 [.inr [.ref 0,.v tI,.ref 1,.ref 2,.ref 3,.v tI,.ref 8,.ref 5,.ref 6,.ref 7,.v .bool],.inl (.v tI)])],[DT,Yn,DT,Me,Qu,Uk,P5,LN,mY]⟩ YZ [AQV] [] [⟨5,⟨[(2,kb),(3,jX),(4,jw),(6,.c (.ref 19)),(7,BA)],[DT,Yn,DT,Me,mY,Uk,P5,LN,wX,rR,AS1,HG,kJ,HG,aT,kI,j_,ju,jL,mY]⟩,NR⟩]
def AZU:SQ:=mk Tryz.func295 m_ wt Tn [s96,ACT,wW] [(11,[0,1,2,3,6])] [⟨8,ALf,Kr⟩] (hJ:= .cons (fun _=>rfl) (fun n v ω=>by rcases ω with _|⟨_|_,_⟩<;>kernel_rfl) (.nil))
def AZM:SQ:=mk Tryz.func202 f_ xM V8 [ACh,AS2,AZU] [(4,[0,1,2,3,4,5,6,7,8,9,10]),(6,[0,1,2,3,4,5,6,7,8,9,10,12])] [] (he:=fun ω v=>by rcases ω with _|⟨_|_,_⟩<;>kernel_rfl)
def AYr:SQ:=mk Tryz.func109 f_ ⟨[(0,.L8 [.inr [.ref 0,.v tI,.ref 1,.ref 8,.ref 9,.v tI,.ref 10,.ref 11,.ref 6,.ref 12,.v .bool],.inl (.v tI)])],[DT,Zx,Qu,Qu,Qu,Qu,P5,Qu,DT,Me,mY,.sl 1 Y7,LN]⟩ ei [AY6,AX6,AXx,AXD,AZz,AW5,AY0,AYz,AaR,AWQ,AWC,AZo,AWl,AY3,AZM] [] []
def s45:SQ:=mk Tryz.func45 AMZ ALA TE [s17,s42,ATZ,AYr] [(3,[0,1,2])] [] (he:=fun ω v=>by rcases ω with _|⟨_|_,_|⟨_|_,_⟩⟩<;>kernel_rfl)
def s16:SQ:=mk Tryz.func16 AHl ⟨ATX,AGP⟩ MC [s17,s42,s43,s44,s45] [(13,[0,2,3,4,5,6,7,8,9,10,11,12,13,14,15,16,17,18,19,20])] [] (he:=fun ω v=>by rcases ω with _|⟨_|_,_|⟨_|_,_⟩⟩<;>kernel_rfl)
def s12:SQ:=mk Tryz.func12 AGT ⟨[(0,.L8 [.inr [.ref 0,.v tI],.inl (.v .str)])],ji⟩ QF [s16,s23,s27,s28,s29,s30,s31,s32,s33] [] [⟨9,⟨[(2,Im),(4,vA),(5,xP4),(6,.c (.ptr 5 0)),(7,zj),(8,lT),(9,BA),(10,BA)],[ANf,HG,AFI,AOZ,HG,.mem [.ref 6,.v tI,.ref 7,.ref 8,.ref 9,.v tI,.ref 10,.ref 11,.ref 12,.ref 13,.v .bool],DT,Zx,DT,Me,mY,.sl 1 Y7,P5,LN]⟩,EN⟩,⟨17,⟨[(2,Im),(5,vA),(8,lT),(12,BA)],ALa⟩,Ek⟩,⟨21,⟨[(2,Im),(5,vA),(8,lT)],ALa⟩,El⟩]
def s7:SQ:=mk Tryz.func7 AMD ALD Ub [s16,s23] [(20,[0,1,2,3,4,5,6,7,8,9])] [⟨7,⟨[(1,lT),(6,Im),(8,.c (.ref 9)),(9,BA),(10,BA)],[za,HG,kJ,HG,aT,kI,j_,ju,jL,.sl 9 .str]⟩,Ij⟩,⟨18,⟨[(6,Im),(8,.c (.ref 9)),(11,lT),(12,BA)],[za,DT,Zx,DT,Me,mY,.sl 1 Y7,P5,LN,.sl 9 .str]⟩,HX⟩] (hJ:= .cons (fun _=>rfl) (fun n v ω=>by kernel_rfl) (.cons (fun _=>rfl) (fun n v ω=>by rcases ω with _|⟨_|_,_⟩<;>kernel_rfl) (.nil)))
end
end Go.Proofs.YtbjkhapllnkhfaaGreatDoor.Wk
