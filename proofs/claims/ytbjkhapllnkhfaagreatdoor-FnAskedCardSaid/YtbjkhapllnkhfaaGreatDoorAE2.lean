/- Each function computes what was printed: by the kernel. -/
import Derived.Test.YtbjkhapllnkhfaaGreatDoorAE0
import Derived.Test.YtbjkhapllnkhfaaGreatDoorProg
import Derived.KernelRfl
set_option linter.unusedVariables false
set_option linter.unusedSimpArgs false
set_option linter.unusedSectionVars false
namespace Go.Proofs.YtbjkhapllnkhfaaGreatDoor.Wk
open Go Go.Fw Go.M Go.Proofs
noncomputable section
open Go.Shelf Go.RowKit
def s27:SQ:=mk Tryz.func27 AJr mc iM [] [] [⟨3,⟨[(0,.c (.sl true tU)),(3,BD),(4,BD)],[]⟩,SH⟩]
abbrev i32:BK:=⟨[(0,.c (.sl false tU)),(1,BD),(2,BD)],[]⟩
abbrev o32:BK:=Ex
def s32:SQ:=mk Tryz.func32 i32 o32 X7 [] [] []
def s61:SQ:=mk Tryz.func61 mc AG5 NP [] [(2,[0]),(3,[0]),(4,[0])] []
abbrev i31:BK:=AJk
abbrev o31:BK:=AG5
def rO:SQ:=mk Tryz.func31 i31 o31 AJ [s61] [] []
abbrev i29:BK:=AJk
abbrev o29:BK:=⟨[(0,xP0)],gT⟩
def s29:SQ:=mk Tryz.func29 i29 o29 Av [rO] [] []
def s28:SQ:=mk Tryz.func28 mc AOi Mj [s29,rO] [(6,[1,2])] [⟨4,⟨[(0,IV),(2,VN),(3,xP4),(4,BD),(5,BD)],[aj,ARm,GW,ARi,GW]⟩,JV⟩] (hJ:= .cons (fun _=>rfl) (fun n v ω=>by rcases ω with _|⟨_|_,_|⟨_|_,_⟩⟩<;>kernel_rfl) (.nil))
def aS:SQ:=mk Tryz.func119 AOj Bv CR [] [] []
abbrev i57:BK:=AGR
abbrev o57:BK:=Bv
def s57:SQ:=mk Tryz.func57 i57 o57 G8 [aS] [] [⟨4,⟨ANz,AKN⟩,NF⟩]
def AWs:SQ:=mk Tryz.func203 ⟨[(0,fY),(1,BD),(2,BD)],[]⟩ Bv cE [aS] [] [⟨2,⟨[(0,fY),(1,BD),(2,BD),(7,BD)],[]⟩,Oh⟩]
def AFC:SQ:=mk Tryz.func110 tC Bv HW [s57,AWs] [] []
def AXK:SQ:=mk Tryz.func204 tC Ex YS [] [(6,[0,1])] [⟨4,⟨[(1,fY),(2,IV),(5,xP7),(6,BD),(7,BD)],[uH,.sl 9 .bool]⟩,Qk⟩]
abbrev AS3:BK:=tC
abbrev AXN:BK:=Bv
def qG:SQ:=mk Tryz.func111 AS3 AXN FP [AFC,AXK] [(1,[0])] []
abbrev i58:BK:=⟨[],[]⟩
abbrev o58:BK:=AGI
def s58:SQ:=mk Tryz.func58 i58 o58 bt [] [] []
abbrev i23:BK:=AGR
abbrev o23:BK:=⟨[(0,.NM [.inr [.ref 0,.v tI,.ref 1,.ref 2,.ref 3,.v tI,.ref 4,.ref 5,.ref 6,.ref 7,.v .bool],.inl (.v .bool)])],APj⟩
def c23:Rt:=⟨i23,o23,(i23.un IL)⟩
def C23:fX:=⟨T,UE (SP.l [s57,s58]),Cn [(3,[0,1]),(4,[0,4])]⟩
def L23:List (Lp o23):=[]
def vq(ω:List Bool):Prop:= ∀(n:Nat) (v:i23.V),DR C23 c23 Tryz.f23 (Nz 0 L23 n) ω v=i23.un (IL) v
theorem AVt:vq []:=by delta vq;intros;kernel_rfl
theorem AVD:∀ω:List Bool,vq (false::ω):=by refine AE ?_ (AE ?_ (AE ?_ (AE ?_ (AE ?_ (AE ?_ (AE ?_ ?_ ?_) (AE ?_ ?_ ?_)) (AE ?_ ?_ ?_)) (AE ?_ (AE ?_ ?_ ?_) ?_)) (AE ?_ (AE ?_ ?_ ?_) ?_)) (AE ?_ (AE ?_ (AE ?_ ?_ ?_) ?_) ?_)) (AE ?_ (AE ?_ (AE ?_ ?_ ?_) ?_) ?_)<;>(delta vq;intros;kernel_rfl)
theorem AVS:vq (true::[]):=by delta vq;intros;kernel_rfl
theorem ATw:∀ω:List Bool,vq (true::false::ω):=by refine AE ?_ (AE ?_ (AE ?_ (AE ?_ (AE ?_ (AE ?_ (AE ?_ ?_ ?_) (AE ?_ ?_ ?_)) (AE ?_ ?_ ?_)) (AE ?_ (AE ?_ ?_ ?_) ?_)) (AE ?_ (AE ?_ ?_ ?_) ?_)) (AE ?_ (AE ?_ (AE ?_ ?_ ?_) ?_) ?_)) (AE ?_ (AE ?_ (AE ?_ ?_ ?_) ?_) ?_)<;>(delta vq;intros;kernel_rfl)
theorem AUI:∀ω:List Bool,vq (true::true::ω):=by refine AE ?_ (AE ?_ (AE ?_ ?_ ?_) ?_) ?_<;>(delta vq;intros;kernel_rfl)
theorem E23(ω:List Bool):vq ω:=(AE AVt AVD (AE AVS ATw AUI)) ω
theorem e23(n:Nat)(ω:List Bool)(v:i23.V):DR C23 c23 Tryz.f23 (Nz 0 L23 n) ω v=i23.un (IL) v:=E23 ω n v
def s23:SQ:=mk Tryz.func23 i23 o23 IL [s57,s58] [(3,[0,1]),(4,[0,4])] L23 (hJ:= .nil) (he:=e23 AU)
abbrev AFS:BK:=tP
abbrev ANj:BK:=Ex
def ACG:SQ:=mk Tryz.func174 AFS ANj En [] [] []
abbrev qn:BK:=tK
abbrev AFI:BK:=Bv
def vC:SQ:=mk Tryz.func113 qn AFI Cf [] [] [⟨2,⟨[(0,fY),(1,BD),(5,BD)],[]⟩,Lu⟩]
def AEb:SQ:=mk Tryz.func173 tK jG JH [vC] [] [⟨4,⟨[(0,fY),(1,BD),(5,wT),(6,xP0),(7,BD)],p8⟩,IU⟩]
abbrev i60:BK:=⟨[(0,IV),(1,fY)],gT⟩
abbrev o60:BK:=AG5
def s60:SQ:=mk Tryz.func60 i60 o60 Ch [rO] [] []
abbrev i88:BK:=tE
abbrev o88:BK:=APK
def s88:SQ:=mk Tryz.func88 i88 o88 Ff [s29,rO,s60,AEb,ACG] [] [⟨4,⟨[(0,IV),(3,VN),(5,xP9),(6,BD),(7,BD)],AO6⟩,JY⟩]
def ASc:SQ:=mk Tryz.func136 tE APK Io [s88,qG,AEb] [] [⟨3,⟨[(3,VN),(5,xP9),(6,BD)],AO6⟩,LP⟩]
def AZT:SQ:=mk Tryz.func135 ⟨[(0,fY)],[]⟩ Ex ML [AWs] [] [⟨5,⟨[(0,fY),(3,BD),(4,BD)],[]⟩,Lj⟩]
def AOD:SQ:=mk Tryz.func118 AGU Ex KQ [] [] [⟨2,⟨ANz,[AQh]⟩,I3⟩]
abbrev rQ:BK:=APL
abbrev AEo:BK:=jG
def ACw:SQ:=mk Tryz.func217 rQ AEo CA [aS] [] []
def AbT:SQ:=mk Tryz.func137 AHB AJw NK [s29,rO,qG,ACG,ACw] [(18,[1,2,3])] [⟨16,⟨[(0,IV),(3,VN),(4,rS),(5,xP4),(7,BD),(8,BD),(9,BD)],[aj,AE5,vF,AFM]⟩,Gx⟩]
def s62:SQ:=mk Tryz.func62 ⟨[(0,IV),(1,AXT)],gT⟩ AIy Ei [rO] [] []
def AQ7:SQ:=mk Tryz.func106 tP Ex N1 [] [] []
def Aa4:SQ:=mk Tryz.func138 AHB AJw HH [s29,rO,s62,AQ7,ACw] [] []
def s64:SQ:=mk Tryz.func64 AHB AJw Mw [s29,rO,AOD,AZT,ASc,AbT,Aa4] [(16,[1]),(27,[1,2])] []
def zG:SQ:=mk Tryz.func120 Ex Bv Ft [aS] [] []
abbrev rA:BK:=Ex
abbrev AE3:BK:=Ex
def qp:SQ:=mk Tryz.func121 rA AE3 B3 [zG] [] []
def ANT:SQ:=mk Tryz.func207 ⟨[(0,.row Y1)],[]⟩ Bv NZ [aS,zG,qp] [(1,[0])] []
def AZ7:SQ:=mk Tryz.func205 AK4 Bv YW [ANT] [] [⟨4,⟨[(0,dB),(5,BD)],[]⟩,Mi⟩]
def AWC:SQ:=mk Tryz.func206 AGx Bv bM [] [] [⟨2,⟨[(0,dB),(3,BD)],[]⟩,HB⟩]
def AER:SQ:=mk Tryz.func112 si Bv HR [aS,AZ7,AWC] [] []
def Abr:SQ:=mk Tryz.func114 si Bv iY [] [] []
def s46:SQ:=mk Tryz.func46 Va Bv Xh [s57,AFC,qG,AER,vC,Abr] [] [⟨4,ADM,J3⟩]
abbrev APz:BK:=AIo
abbrev AUm:BK:=Bv
def AH3:SQ:=mk Tryz.func115 APz AUm Nx [s57,qG,aS,zG,qp] [] [⟨5,⟨AV2,AOY⟩,L7⟩]
abbrev AQ4:BK:=AJT
abbrev AW1:BK:=Bv
def AKI:SQ:=mk Tryz.func116 AQ4 AW1 Jo [s57,AFC,qG,aS] [(8,[0,1,2])] [⟨5,⟨AV2,APh⟩,M9⟩]
abbrev ru:BK:=Ex
abbrev AEt:BK:=Ex
def AKT:SQ:=mk Tryz.func216 ru AEt Ek [zG] [] []
def AXL:SQ:=mk Tryz.func208 ACH Ex Tv [AKT] [] []
def AHQ:SQ:=mk Tryz.func117 zZ Bv Jv [s57,AFC,aS,qp,AWC,ANT,AXL] [(6,[0,1]),(11,[0,1]),(15,[0,1])] [⟨4,APA,KS⟩,⟨9,⟨[(2,IV),(3,VN),(6,BD)],AKM⟩,Ir⟩]
def s47:SQ:=mk Tryz.func47 Va Bv Vq [AH3,AKI,AHQ,AOD] [(7,[0]),(13,[0,1])] [⟨5,APS,HD⟩,⟨10,⟨[(1,IV),(3,BD),(5,BD)],jg⟩,FN⟩]
def s48:SQ:=mk Tryz.func48 zj Bv Ou [aS] [] []
def s49:SQ:=mk Tryz.func49 Va Bv aM [zG,qp] [(7,[0,1])] [⟨4,ADM,LJ⟩]
def s17:SQ:=mk Tryz.func17 Va Bv GZ [s46,s47,s48,s49] [] []
def Abk:SQ:=mk Tryz.func187 zk AOa fW [] [] []
def AW8:SQ:=mk Tryz.func108 zk Bv YP [aS,Abk] [(1,[0])] []
abbrev i95:BK:=AGU
abbrev o95:BK:=AKQ
def s95:SQ:=mk Tryz.func95 i95 o95 EL [] [] [⟨3,⟨AV4,[AQh,ARm,UN,ARi,UN]⟩,P3⟩]
abbrev i96:BK:=si
abbrev o96:BK:=AKv
def s96:SQ:=mk Tryz.func96 i96 o96 Dh [] [(1,[0])] [] (he:=fun ω v=>by rcases ω with _|⟨_|_,_|⟨_|_,_⟩⟩<;>kernel_rfl)
abbrev i97:BK:=AGJ
abbrev o97:BK:=AI2
def s97:SQ:=mk Tryz.func97 i97 o97 Dg [] [] [⟨3,⟨AV4,[ANK,.mem [.v tI,.ref 2],qu,.mem [.v tI,.ref 4],qu]⟩,KP⟩]
abbrev i98:BK:=ACH
abbrev o98:BK:=ACY
def c98:Rt:=⟨i98,o98,(i98.un DP)⟩
def C98:fX:=⟨T,UE (SP.l ([]:List SQ)),Cn [(1,[0,1]),(5,[0,1,2,3,4,6,7])]⟩
def L98:List (Lp o98):=[⟨3,⟨[(1,IV),(2,VN),(3,.c (.ptr 5 0)),(4,BD)],AJC⟩,Ig⟩]
abbrev AIl:BK:=⟨[(1,IV),(2,VN),(3,.c (.ptr 5 0)),(4,BD)],AJC⟩
theorem AT_(n:Nat)(v:AIl.V)(ω:List Bool):JU C98 c98 Tryz.f98 (Nz 0 L98 n) 3 ω (AIl.st 40 v)=AIl.un (Vx (Ig n)) v:=by rcases ω with _|⟨_|_,_|⟨_|_,_|⟨_|_,_⟩⟩⟩<;>kernel_rfl
def AQP(ω:List Bool):Prop:= ∀(n:Nat) (v:i98.V),DR C98 c98 Tryz.f98 (Nz 0 L98 n) ω v=i98.un (Pd (Ig n)) v
theorem AVC:∀ω:List Bool,AQP (ω):=by refine AE ?_ (AE ?_ (AE ?_ ?_ (AE ?_ ?_ ?_)) (AE ?_ ?_ (AE ?_ ?_ (AE ?_ ?_ ?_)))) (AE ?_ (AE ?_ (AE ?_ ?_ ?_) (AE ?_ ?_ (AE ?_ ?_ ?_))) (AE ?_ ?_ (AE ?_ ?_ ?_)))<;>(delta AQP;intros;kernel_rfl)
theorem E98(ω:List Bool):AQP ω:=AVC ω
theorem e98(n:Nat)(ω:List Bool)(v:i98.V):DR C98 c98 Tryz.f98 (Nz 0 L98 n) ω v=i98.un (Pd (Ig n)) v:=E98 ω n v
def s98:SQ:=mk Tryz.func98 i98 o98 DP [] [(1,[0,1]),(5,[0,1,2,3,4,6,7])] L98 (hJ:= .cons (fun _=>rfl) AT_ (.nil)) (he:=e98 AU)
abbrev i99:BK:=zj
abbrev o99:BK:=AGI
def s99:SQ:=mk Tryz.func99 i99 o99 Bz [] [] []
abbrev i42:BK:=Va
abbrev o42:BK:=APY
def c42:Rt:=⟨i42,o42,(i42.un NU)⟩
def C42:fX:=⟨T,UE (SP.l [s95,s96,s97,s98,s99]),Cn [(1,[0,1]),(5,hl4),(9,hl5),(13,hl6),(17,hl7)]⟩
def L42:List (Lp o42):=[⟨3,⟨[(1,IV),(2,VN),(3,jw),(4,BD)],jZ⟩,CV⟩,⟨7,⟨[(1,IV),(2,VN),(3,jw),(5,BD)],jZ⟩,CW⟩,⟨11,⟨[(1,IV),(2,VN),(3,jw),(6,BD)],jZ⟩,B8⟩,⟨15,⟨[(1,IV),(2,VN),(3,jw),(7,BD)],jZ⟩,B7⟩]
abbrev z7:BK:=⟨[(1,IV),(2,VN),(3,jw),(4,BD)],jZ⟩
abbrev AAL:BK:=⟨[(1,IV),(2,VN),(3,jw),(5,BD)],jZ⟩
abbrev rL:BK:=⟨[(1,IV),(2,VN),(3,jw),(6,BD)],jZ⟩
abbrev sA:BK:=⟨[(1,IV),(2,VN),(3,jw),(7,BD)],jZ⟩
theorem AVG(uI:AB_->Option DU)(zm:ACo->Option GJ)(ta:ACj->Option DT)(zz:ABv->Option Ef)(zn:ADk->Option E5)(n:Nat)(v:z7.V)(ω:List Bool):JU ⟨T,UE [(95,⟨i95,o95,i95.un uI⟩),(96,⟨i96,o96,i96.un zm⟩),(97,⟨i97,o97,i97.un ta⟩),(98,⟨i98,o98,i98.un zz⟩),(99,⟨i99,o99,i99.un zn⟩)],Cn [(1,[0,1]),(5,hl4),(9,hl5),(13,hl6),(17,hl7)]⟩ c42 Tryz.f42 (Nz 0 L42 n) 3 ω (z7.st 104 v)=z7.un (Yy uI zm ta zz zn (CV n) (CW n) (B8 n) (B7 n)) v:=by rcases ω with _|⟨_|_,_|⟨_|_,_⟩⟩<;>kernel_rfl
theorem AUF(n:Nat)(v:z7.V)(ω:List Bool):JU C42 c42 Tryz.f42 (Nz 0 L42 n) 3 ω (z7.st 104 v)=z7.un (S6 (CV n) (CW n) (B8 n) (B7 n)) v:=AVG EL Dh Dg DP Bz n v ω
theorem AVu(uI:AB_->Option DU)(zm:ACo->Option GJ)(ta:ACj->Option DT)(zz:ABv->Option Ef)(zn:ADk->Option E5)(n:Nat)(v:AAL.V)(ω:List Bool):JU ⟨T,UE [(95,⟨i95,o95,i95.un uI⟩),(96,⟨i96,o96,i96.un zm⟩),(97,⟨i97,o97,i97.un ta⟩),(98,⟨i98,o98,i98.un zz⟩),(99,⟨i99,o99,i99.un zn⟩)],Cn [(1,[0,1]),(5,hl4),(9,hl5),(13,hl6),(17,hl7)]⟩ c42 Tryz.f42 (Nz 0 L42 n) 7 ω (AAL.st 104 v)=AAL.un (ZJ uI zm ta zz zn (CV n) (CW n) (B8 n) (B7 n)) v:=by rcases ω with _|⟨_|_,_|⟨_|_,_⟩⟩<;>kernel_rfl
theorem AVL(n:Nat)(v:AAL.V)(ω:List Bool):JU C42 c42 Tryz.f42 (Nz 0 L42 n) 7 ω (AAL.st 104 v)=AAL.un (TV (CV n) (CW n) (B8 n) (B7 n)) v:=AVu EL Dh Dg DP Bz n v ω
theorem ASp(uI:AB_->Option DU)(zm:ACo->Option GJ)(ta:ACj->Option DT)(zz:ABv->Option Ef)(zn:ADk->Option E5)(n:Nat)(v:rL.V)(ω:List Bool):JU ⟨T,UE [(95,⟨i95,o95,i95.un uI⟩),(96,⟨i96,o96,i96.un zm⟩),(97,⟨i97,o97,i97.un ta⟩),(98,⟨i98,o98,i98.un zz⟩),(99,⟨i99,o99,i99.un zn⟩)],Cn [(1,[0,1]),(5,hl4),(9,hl5),(13,hl6),(17,hl7)]⟩ c42 Tryz.f42 (Nz 0 L42 n) 11 ω (rL.st 104 v)=rL.un (XJ uI zm ta zz zn (CV n) (CW n) (B8 n) (B7 n)) v:=by rcases ω with _|⟨_|_,_|⟨_|_,_⟩⟩<;>kernel_rfl
theorem ASh(n:Nat)(v:rL.V)(ω:List Bool):JU C42 c42 Tryz.f42 (Nz 0 L42 n) 11 ω (rL.st 104 v)=rL.un (RV (CV n) (CW n) (B8 n) (B7 n)) v:=ASp EL Dh Dg DP Bz n v ω
theorem AQb(uI:AB_->Option DU)(zm:ACo->Option GJ)(ta:ACj->Option DT)(zz:ABv->Option Ef)(zn:ADk->Option E5)(n:Nat)(v:sA.V)(ω:List Bool):JU ⟨T,UE [(95,⟨i95,o95,i95.un uI⟩),(96,⟨i96,o96,i96.un zm⟩),(97,⟨i97,o97,i97.un ta⟩),(98,⟨i98,o98,i98.un zz⟩),(99,⟨i99,o99,i99.un zn⟩)],Cn [(1,[0,1]),(5,hl4),(9,hl5),(13,hl6),(17,hl7)]⟩ c42 Tryz.f42 (Nz 0 L42 n) 15 ω (sA.st 104 v)=sA.un (XN uI zm ta zz zn (CV n) (CW n) (B8 n) (B7 n)) v:=by rcases ω with _|⟨_|_,_|⟨_|_,_⟩⟩<;>kernel_rfl
theorem ATA(n:Nat)(v:sA.V)(ω:List Bool):JU C42 c42 Tryz.f42 (Nz 0 L42 n) 15 ω (sA.st 104 v)=sA.un (Rb (CV n) (CW n) (B8 n) (B7 n)) v:=AQb EL Dh Dg DP Bz n v ω
def KV(ω:List Bool):Prop:= ∀(uI:AB_->Option DU) (zm:ACo->Option GJ) (ta:ACj->Option DT) (zz:ABv->Option Ef) (zn:ADk->Option E5) (n:Nat) (v:i42.V),DR ⟨T,UE [(95,⟨i95,o95,i95.un uI⟩),(96,⟨i96,o96,i96.un zm⟩),(97,⟨i97,o97,i97.un ta⟩),(98,⟨i98,o98,i98.un zz⟩),(99,⟨i99,o99,i99.un zn⟩)],Cn [(1,[0,1]),(5,hl4),(9,hl5),(13,hl6),(17,hl7)]⟩ c42 Tryz.f42 (Nz 0 L42 n) ω v=i42.un (ZV uI zm ta zz zn (CV n) (CW n) (B8 n) (B7 n)) v
theorem AWa:KV []:=by delta KV;intros;kernel_rfl
theorem AUx:KV (false::[]):=by delta KV;intros;kernel_rfl
theorem AV_:KV (false::false::[]):=by delta KV;intros;kernel_rfl
theorem AWG:∀ω:List Bool,KV (false::false::false::ω):=by refine AE ?_ (AE ?_ (AE ?_ ?_ (AE ?_ ?_ ?_)) (AE ?_ ?_ (AE ?_ ?_ (AE ?_ ?_ (AE ?_ ?_ ?_))))) (AE ?_ (AE ?_ (AE ?_ ?_ ?_) (AE ?_ ?_ (AE ?_ ?_ (AE ?_ ?_ ?_)))) (AE ?_ ?_ (AE ?_ ?_ (AE ?_ ?_ ?_))))<;>(delta KV;intros;kernel_rfl)
theorem AXE:KV (false::false::true::[]):=by delta KV;intros;kernel_rfl
theorem AVp:∀ω:List Bool,KV (false::false::true::false::ω):=by refine AE ?_ (AE ?_ ?_ (AE ?_ ?_ ?_)) (AE ?_ ?_ (AE ?_ ?_ (AE ?_ ?_ (AE ?_ ?_ (AE ?_ ?_ ?_)))))<;>(delta KV;intros;kernel_rfl)
theorem AWU:∀ω:List Bool,KV (false::false::true::true::ω):=by refine AE ?_ (AE ?_ (AE ?_ ?_ ?_) (AE ?_ ?_ (AE ?_ ?_ (AE ?_ ?_ (AE ?_ ?_ ?_))))) (AE ?_ ?_ (AE ?_ ?_ (AE ?_ ?_ (AE ?_ ?_ ?_))))<;>(delta KV;intros;kernel_rfl)
theorem AV5:KV (false::true::[]):=by delta KV;intros;kernel_rfl
theorem AUX:∀ω:List Bool,KV (false::true::false::ω):=by refine AE ?_ (AE ?_ ?_ (AE ?_ ?_ (AE ?_ ?_ (AE ?_ ?_ ?_)))) (AE ?_ ?_ (AE ?_ ?_ (AE ?_ ?_ (AE ?_ ?_ (AE ?_ ?_ ?_)))))<;>(delta KV;intros;kernel_rfl)
theorem AQw:KV (false::true::true::[]):=by delta KV;intros;kernel_rfl
theorem ARr:∀ω:List Bool,KV (false::true::true::false::ω):=by refine AE ?_ (AE ?_ ?_ (AE ?_ ?_ (AE ?_ ?_ ?_))) (AE ?_ ?_ (AE ?_ ?_ (AE ?_ ?_ (AE ?_ ?_ ?_))))<;>(delta KV;intros;kernel_rfl)
theorem AQo:∀ω:List Bool,KV (false::true::true::true::ω):=by refine AE ?_ (AE ?_ (AE ?_ ?_ (AE ?_ ?_ ?_)) (AE ?_ ?_ (AE ?_ ?_ (AE ?_ ?_ ?_)))) (AE ?_ (AE ?_ (AE ?_ ?_ ?_) (AE ?_ ?_ (AE ?_ ?_ ?_))) (AE ?_ ?_ (AE ?_ ?_ ?_)))<;>(delta KV;intros;kernel_rfl)
theorem ARq:KV (true::[]):=by delta KV;intros;kernel_rfl
theorem ASN:KV (true::false::[]):=by delta KV;intros;kernel_rfl
theorem ASZ:KV (true::false::false::[]):=by delta KV;intros;kernel_rfl
theorem APo:∀ω:List Bool,KV (true::false::false::false::ω):=by refine AE ?_ (AE ?_ (AE ?_ ?_ ?_) (AE ?_ ?_ (AE ?_ ?_ (AE ?_ ?_ ?_)))) (AE ?_ ?_ (AE ?_ ?_ (AE ?_ ?_ ?_)))<;>(delta KV;intros;kernel_rfl)
theorem ASX:∀ω:List Bool,KV (true::false::false::true::ω):=by refine AE ?_ (AE ?_ (AE ?_ ?_ ?_) (AE ?_ ?_ (AE ?_ ?_ (AE ?_ ?_ (AE ?_ ?_ ?_))))) (AE ?_ ?_ (AE ?_ ?_ (AE ?_ ?_ (AE ?_ ?_ ?_))))<;>(delta KV;intros;kernel_rfl)
theorem AQz:KV (true::false::true::[]):=by delta KV;intros;kernel_rfl
theorem APn:∀ω:List Bool,KV (true::false::true::false::ω):=by refine AE ?_ (AE ?_ ?_ (AE ?_ ?_ (AE ?_ ?_ ?_))) (AE ?_ ?_ (AE ?_ ?_ (AE ?_ ?_ (AE ?_ ?_ ?_))))<;>(delta KV;intros;kernel_rfl)
theorem AQf:∀ω:List Bool,KV (true::false::true::true::ω):=by refine AE ?_ (AE ?_ (AE ?_ ?_ (AE ?_ ?_ ?_)) (AE ?_ ?_ (AE ?_ ?_ (AE ?_ ?_ ?_)))) (AE ?_ (AE ?_ (AE ?_ ?_ ?_) (AE ?_ ?_ (AE ?_ ?_ ?_))) (AE ?_ ?_ (AE ?_ ?_ ?_)))<;>(delta KV;intros;kernel_rfl)
theorem ARl:KV (true::true::[]):=by delta KV;intros;kernel_rfl
theorem ASw:∀ω:List Bool,KV (true::true::false::ω):=by refine AE ?_ (AE ?_ ?_ (AE ?_ ?_ (AE ?_ ?_ ?_))) (AE ?_ ?_ (AE ?_ ?_ (AE ?_ ?_ (AE ?_ ?_ ?_))))<;>(delta KV;intros;kernel_rfl)
theorem ARd:∀ω:List Bool,KV (true::true::true::ω):=by refine AE ?_ (AE ?_ (AE ?_ ?_ (AE ?_ ?_ ?_)) (AE ?_ ?_ (AE ?_ ?_ (AE ?_ ?_ ?_)))) (AE ?_ (AE ?_ (AE ?_ ?_ ?_) (AE ?_ ?_ (AE ?_ ?_ ?_))) (AE ?_ ?_ (AE ?_ ?_ ?_)))<;>(delta KV;intros;kernel_rfl)
theorem b42(ω:List Bool):KV ω:=(AE AWa (AE AUx (AE AV_ AWG (AE AXE AVp AWU)) (AE AV5 AUX (AE AQw ARr AQo))) (AE ARq (AE ASN (AE ASZ APo ASX) (AE AQz APn AQf)) (AE ARl ASw ARd))) ω
theorem e42(n:Nat)(ω:List Bool)(v:i42.V):DR C42 c42 Tryz.f42 (Nz 0 L42 n) ω v=i42.un (TY (CV n) (CW n) (B8 n) (B7 n)) v:=b42 ω EL Dh Dg DP Bz n v
def s42:SQ:=mk Tryz.func42 i42 o42 NU [s95,s96,s97,s98,s99] [(1,[0,1]),(5,hl4),(9,hl5),(13,hl6),(17,hl7)] L42 (hJ:= .cons (fun _=>rfl) AUF (.cons (fun _=>rfl) AVL (.cons (fun _=>rfl) ASh (.cons (fun _=>rfl) ATA (.nil))))) (he:=e42 AU)
def AVo:SQ:=mk Tryz.func281 Ex jG QH [aS] [] [⟨3,⟨[(0,BD),(3,wT),(4,BD)],p8⟩,I6⟩]
abbrev AEQ:BK:=APQ
abbrev AQV:BK:=APB
def AUo:Rt:=⟨AEQ,AQV,(AEQ.un Nw)⟩
def AaU:fX:=⟨T,UE (SP.l [s95,qG,AH3]),Cn [(6,[0,1,2])]⟩
def AP_:List (Lp AQV):=[]
theorem AZt(uI:AB_->Option DU)(ALy:ABt->List Int->Option gp)(ALx:ABt->AB_->Option VX)(n:Nat)(ω:List Bool)(v:AEQ.V):DR ⟨T,UE [(95,⟨i95,o95,i95.un uI⟩),(111,⟨AS3,AXN,AS3.un ALy⟩),(115,⟨APz,AUm,APz.un ALx⟩)],Cn [(6,[0,1,2])]⟩ AUo Tryz.f266 (Nz 0 AP_ n) ω v=AEQ.un (bE uI ALy ALx) v:=by rcases ω with _|⟨_|_,_|⟨_|_,_|⟨_|_,_|⟨_|_,_|⟨_|_,_⟩⟩⟩⟩⟩<;>kernel_rfl
theorem AaG(n:Nat)(ω:List Bool)(v:AEQ.V):DR AaU AUo Tryz.f266 (Nz 0 AP_ n) ω v=AEQ.un (Nw) v:=AZt EL FP Nx n ω v
def AVT:SQ:=mk Tryz.func266 AEQ AQV Nw [s95,qG,AH3] [(6,[0,1,2])] AP_ (hJ:= .nil) (he:=AaG AU)
def AbI:SQ:=mk Tryz.func188 jO ⟨[(0,.NM [.inr [.ref 0,.v tI,.ref 1,.ref 2,.ref 8,.v tI,.ref 9,.ref 10,.ref 6,.ref 7,.v .bool],.inl (.v tI)])],[DX,av,DX,Je,Je,Je,Px,Lv,N8,Xz,Vz]⟩ aa [AVT,AVo] [(3,hl9)] [] (he:=fun ω v=>by rcases ω with _|⟨_|_,_|⟨_|_,_⟩⟩<;>kernel_rfl)
def ASb:SQ:=mk Tryz.func282 ACf Bv Ms [aS] [] []
abbrev AEm:BK:=APG
abbrev ATE:BK:=AO8
def AVJ:Rt:=⟨AEm,ATE,(AEm.un HM)⟩
def AZC:fX:=⟨T,UE (SP.l [s97,AKI]),Cn []⟩
def AQq:List (Lp ATE):=[]
theorem Ab3(ta:ACj->Option DT)(AKf:ABt->ACj->Option OY)(n:Nat)(ω:List Bool)(v:AEm.V):DR ⟨T,UE [(97,⟨i97,o97,i97.un ta⟩),(116,⟨AQ4,AW1,AQ4.un AKf⟩)],Cn []⟩ AVJ Tryz.f268 (Nz 0 AQq n) ω v=AEm.un (Q9 ta AKf) v:=by rcases ω with _|⟨_|_,_|⟨_|_,_⟩⟩<;>kernel_rfl
theorem Aax(n:Nat)(ω:List Bool)(v:AEm.V):DR AZC AVJ Tryz.f268 (Nz 0 AQq n) ω v=AEm.un (HM) v:=Ab3 Dg Jo n ω v
def AXU:SQ:=mk Tryz.func268 AEm ATE HM [s97,AKI] [] AQq (hJ:= .nil) (he:=Aax AU)
abbrev qq:BK:=tP
abbrev AEf:BK:=Ex
def uf:SQ:=mk Tryz.func177 qq AEf Bo [] [] []
def AYc:SQ:=mk Tryz.func189 jO ⟨[(0,.NM [.inr [.ref 0,.v tI,.ref 1,.ref 2,.ref 3,.v tI,.ref 4,.ref 5,.ref 6,.ref 8,.v .bool],.inl (.v tI)])],[DX,av,DX,N8,Xz,Vz,Px,Je,Lv]⟩ dH [uf,AXU,ASb] [(3,hl9),(7,hl9),(11,[0,1,2,3,4,5,6,7,8,9,10,11,12,13,14,15,16,17,18]),(18,hl1)] [⟨9,⟨[(2,nW),(4,mI),(9,vD),(10,BD)],[DX,av,DX,N8,Xz,Vz,Px,Lv,zD,ABN,GW,jr,GW,UN,jk,jj,jn,iH,AT2]⟩,Mm⟩,⟨16,⟨[(2,nW),(4,mI),(9,vD),(11,.c (.ref 19)),(12,xP0),(13,BD)],[DX,av,DX,N8,Xz,Vz,Px,Lv,zD,ABN,GW,jr,GW,UN,jk,jj,jn,iH,AT2,iH]⟩,LD⟩] (he:=fun ω v=>by rcases ω with _|⟨_|_,_|⟨_|_,_|⟨_|_,_⟩⟩⟩<;>kernel_rfl)
def AEy:SQ:=mk Tryz.func283 ACf Ex IQ [vC,aS] [] []
def Acm:SQ:=mk Tryz.func333 ALO Bv al [qp] [(2,[0,1])] []
def AQN:SQ:=mk Tryz.func262 ALO zh Oi [s96,AER,ANT,Acm] [] []
def Acd:SQ:=mk Tryz.func190 jO AAS Xb [vC,aS,uf,ACw,AQN,ASb,AEy] [(9,lx),(11,AHr)] [] (he:=fun ω v=>by rcases ω with _|⟨_|_,_|⟨_|_,_⟩⟩<;>kernel_rfl)
def AUC:SQ:=mk Tryz.func370 AOv AO5 T1 [] [] []
def ASx:SQ:=mk Tryz.func334 ⟨[(0,dB),(1,.row Y1)],[]⟩ ACs T7 [AUC] [(6,[0,1]),(7,[0]),(9,[0,1])] [⟨4,⟨[(0,dB),(3,IV),(5,xP7),(6,xP0),(7,BD)],[AIP,KT]⟩,Ks⟩]
def AVY:SQ:=mk Tryz.func294 ow zh Oa [s96,AER,aS,ASx] [(3,[0,1]),(8,[0,1,2,3,5,6])] [⟨5,AOq,Kt⟩] (he:=fun ω v=>by rcases ω with _|⟨_|_,_|⟨_|_,_⟩⟩<;>kernel_rfl)
def ARu:SQ:=mk Tryz.func264 si zh Kj [AVY] [] []
abbrev rM:BK:=AK4
abbrev AFE:BK:=ADL
def AOE:SQ:=mk Tryz.func338 rM AFE FM [] [] [⟨2,⟨[(0,dB),(1,BD),(4,IV),(6,BD)],[AIP]⟩,Rv⟩]
abbrev qt:BK:=APM
abbrev AEj:BK:=AOZ
def ARI:SQ:=mk Tryz.func269 qt AEj Cj [s97,qG,AKI,aS,AEb] [(6,[0,1,2,4]),(7,[0,1,2,4])] []
def AWD:SQ:=mk Tryz.func186 tP om Qr [aS] [] []
abbrev r9:BK:=AOF
abbrev AEW:BK:=ADL
def ASD:SQ:=mk Tryz.func289 r9 AEW DA [AWD,AOE] [] []
abbrev gj:BK:=AOk
abbrev yw:BK:=ACA
def AMt:SQ:=mk Tryz.func275 gj yw Cv [s98,AHQ,aS,AEb] [(6,[0,1,2,3,4,6])] []
abbrev AED:BK:=⟨[(0,AQX),(1,BD)],[DX,aP,DX,N8,Xz,Vz,Px,Lv]⟩
abbrev AP8:BK:=⟨ARN,AI8⟩
def uF:Rt:=⟨AED,AP8,(AED.un af)⟩
def AIB:fX:=⟨T,UE (SP.l [vC,qp,uf,AKT,ACw,ARI,AMt,ASD,AOE]),Cn [(10,lx),(18,hl1)]⟩
def qe:List (Lp AP8):=[⟨3,⟨[(1,BD),(2,nW),(4,mI),(5,vD),(6,BD)],[DX,aP,DX,N8,mJ,Vz,Px,Lv,zD,ABN,GW,jr,GW,UN,jk,jj,jn,iH,AE1]⟩,Bb⟩,⟨8,⟨[(1,BD),(2,nW),(4,mI),(5,vD),(6,BD),(7,sE),(8,BD),(46,.c (.ptr 18 2)),(47,BD),(48,sE),(49,BD),(50,xP0)],AGs⟩,Bh⟩,⟨15,⟨[(1,BD),(2,nW),(4,mI),(5,vD),(6,BD),(7,sE),(11,BD),(46,.c (.ptr 18 2)),(47,BD),(48,sE),(49,BD),(50,xP0)],AGs⟩,BO⟩,⟨21,⟨[(1,BD),(2,nW),(4,mI),(5,vD),(13,BD)],[DX,aP,DX,N8,mJ,yu,Px,Lv,zD,ABN,GW,jr,GW,UN,jk,jj,jn,iH,AE1]⟩,BZ⟩,⟨25,⟨[(1,BD),(2,nW),(4,mI),(5,vD),(13,BD),(14,sE),(15,BD)],[DX,aP,DX,N8,mJ,yu,Px,Lv,zD,ABN,GW,jr,GW,UN,jk,jj,jn,iH,AE1,.mem [.v tI,.v tI,.sl true tI,.sl true Y1,.v .bool,.sl true (.sl tI)]]⟩,BV⟩]
abbrev ry:BK:=⟨[(1,BD),(2,nW),(4,mI),(5,vD),(6,BD)],[DX,aP,DX,N8,mJ,Vz,Px,Lv,zD,ABN,GW,jr,GW,UN,jk,jj,jn,iH,AE1]⟩
abbrev rF:BK:=⟨[(1,BD),(2,nW),(4,mI),(5,vD),(6,BD),(7,sE),(8,BD),(46,.c (.ptr 18 2)),(47,BD),(48,sE),(49,BD),(50,xP0)],AGs⟩
abbrev lh:BK:=⟨[(1,BD),(2,nW),(4,mI),(5,vD),(6,BD),(7,sE),(11,BD),(46,.c (.ptr 18 2)),(47,BD),(48,sE),(49,BD),(50,xP0)],AGs⟩
abbrev lW:BK:=⟨[(1,BD),(2,nW),(4,mI),(5,vD),(13,BD)],[DX,aP,DX,N8,mJ,yu,Px,Lv,zD,ABN,GW,jr,GW,UN,jk,jj,jn,iH,AE1]⟩
abbrev lZ:BK:=⟨[(1,BD),(2,nW),(4,mI),(5,vD),(13,BD),(14,sE),(15,BD)],[DX,aP,DX,N8,mJ,yu,Px,Lv,zD,ABN,GW,jr,GW,UN,jk,jj,jn,iH,AE1,.mem [.v tI,.v tI,.sl true tI,.sl true Y1,.v .bool,.sl true (.sl tI)]]⟩
theorem AQJ(ZC:List Int->Int->Option D2)(ah:Int->Option D7)(aG:Int->Int->Option EA)(ZK:Int->Option Fp)(ZQ:AB_->Int->Option DY)(aw:ABt->ACj->Int->Int->Option DI)(Oz:ABt->ABv->Int->Int->Option CY)(aK:ABv->Int->Option DH)(Yq:AAj->Int->Option Dy)(n:Nat)(v:ry.V)(ω:List Bool):JU ⟨T,UE [(113,⟨qn,AFI,qn.un ZC⟩),(121,⟨rA,AE3,rA.un ah⟩),(177,⟨qq,AEf,qq.un aG⟩),(216,⟨ru,AEt,ru.un ZK⟩),(217,⟨rQ,AEo,rQ.un ZQ⟩),(269,⟨qt,AEj,qt.un aw⟩),(275,⟨gj,yw,gj.un Oz⟩),(289,⟨r9,AEW,r9.un aK⟩),(338,⟨rM,AFE,rM.un Yq⟩)],Cn [(10,lx),(18,hl1)]⟩ uF Tryz.f284 (Nz 8 qe n) 3 ω (ry.st 207 v)=ry.un (Sn ZC ah aG ZK ZQ aw Oz aK Yq (Bb n) (Bh n) (BO n) (BZ n) (BV n)) v:=by kernel_rfl
theorem AR7(n:Nat)(v:ry.V)(ω:List Bool):JU AIB uF Tryz.f284 (Nz 8 qe n) 3 ω (ry.st 207 v)=ry.un (Na (Bb n) (Bh n) (BO n) (BZ n) (BV n)) v:=AQJ Cf B3 Bo Ek CA Cj Cv DA FM n v ω
def ABq(ω:List Bool):Prop:= ∀(ZC:List Int->Int->Option D2) (ah:Int->Option D7) (aG:Int->Int->Option EA) (ZK:Int->Option Fp) (ZQ:AB_->Int->Option DY) (aw:ABt->ACj->Int->Int->Option DI) (Oz:ABt->ABv->Int->Int->Option CY) (aK:ABv->Int->Option DH) (Yq:AAj->Int->Option Dy) (n:Nat) (v:rF.V),JU ⟨T,UE [(113,⟨qn,AFI,qn.un ZC⟩),(121,⟨rA,AE3,rA.un ah⟩),(177,⟨qq,AEf,qq.un aG⟩),(216,⟨ru,AEt,ru.un ZK⟩),(217,⟨rQ,AEo,rQ.un ZQ⟩),(269,⟨qt,AEj,qt.un aw⟩),(275,⟨gj,yw,gj.un Oz⟩),(289,⟨r9,AEW,r9.un aK⟩),(338,⟨rM,AFE,rM.un Yq⟩)],Cn [(10,lx),(18,hl1)]⟩ uF Tryz.f284 (Nz 8 qe n) 8 ω (rF.st 207 v)=rF.un (Sm ZC ah aG ZK ZQ aw Oz aK Yq (Bb n) (Bh n) (BO n) (BZ n) (BV n)) v
theorem ALW:∀ω:List Bool,ABq (ω):=by refine AE ?_ (AE ?_ (AE ?_ (AE ?_ ?_ ?_) ?_) (AE ?_ (AE ?_ (AE ?_ ?_ ?_) (AE ?_ ?_ (AE ?_ ?_ ?_))) (AE ?_ ?_ (AE ?_ ?_ ?_)))) (AE ?_ ?_ (AE ?_ ?_ (AE ?_ ?_ ?_)))<;>(delta ABq;intros;kernel_rfl)
theorem ATC(ω:List Bool):ABq ω:=ALW ω
theorem APw(n:Nat)(v:rF.V)(ω:List Bool):JU AIB uF Tryz.f284 (Nz 8 qe n) 8 ω (rF.st 207 v)=rF.un (OB (Bb n) (Bh n) (BO n) (BZ n) (BV n)) v:=ATC ω Cf B3 Bo Ek CA Cj Cv DA FM n v
theorem AL3(ZC:List Int->Int->Option D2)(ah:Int->Option D7)(aG:Int->Int->Option EA)(ZK:Int->Option Fp)(ZQ:AB_->Int->Option DY)(aw:ABt->ACj->Int->Int->Option DI)(Oz:ABt->ABv->Int->Int->Option CY)(aK:ABv->Int->Option DH)(Yq:AAj->Int->Option Dy)(n:Nat)(v:lh.V)(ω:List Bool):JU ⟨T,UE [(113,⟨qn,AFI,qn.un ZC⟩),(121,⟨rA,AE3,rA.un ah⟩),(177,⟨qq,AEf,qq.un aG⟩),(216,⟨ru,AEt,ru.un ZK⟩),(217,⟨rQ,AEo,rQ.un ZQ⟩),(269,⟨qt,AEj,qt.un aw⟩),(275,⟨gj,yw,gj.un Oz⟩),(289,⟨r9,AEW,r9.un aK⟩),(338,⟨rM,AFE,rM.un Yq⟩)],Cn [(10,lx),(18,hl1)]⟩ uF Tryz.f284 (Nz 8 qe n) 15 ω (lh.st 207 v)=lh.un (RO ZC ah aG ZK ZQ aw Oz aK Yq (Bb n) (Bh n) (BO n) (BZ n) (BV n)) v:=by kernel_rfl
theorem ANE(n:Nat)(v:lh.V)(ω:List Bool):JU AIB uF Tryz.f284 (Nz 8 qe n) 15 ω (lh.st 207 v)=lh.un (MG (Bb n) (Bh n) (BO n) (BZ n) (BV n)) v:=AL3 Cf B3 Bo Ek CA Cj Cv DA FM n v ω
theorem AMO(ZC:List Int->Int->Option D2)(ah:Int->Option D7)(aG:Int->Int->Option EA)(ZK:Int->Option Fp)(ZQ:AB_->Int->Option DY)(aw:ABt->ACj->Int->Int->Option DI)(Oz:ABt->ABv->Int->Int->Option CY)(aK:ABv->Int->Option DH)(Yq:AAj->Int->Option Dy)(n:Nat)(v:lW.V)(ω:List Bool):JU ⟨T,UE [(113,⟨qn,AFI,qn.un ZC⟩),(121,⟨rA,AE3,rA.un ah⟩),(177,⟨qq,AEf,qq.un aG⟩),(216,⟨ru,AEt,ru.un ZK⟩),(217,⟨rQ,AEo,rQ.un ZQ⟩),(269,⟨qt,AEj,qt.un aw⟩),(275,⟨gj,yw,gj.un Oz⟩),(289,⟨r9,AEW,r9.un aK⟩),(338,⟨rM,AFE,rM.un Yq⟩)],Cn [(10,lx),(18,hl1)]⟩ uF Tryz.f284 (Nz 8 qe n) 21 ω (lW.st 207 v)=lW.un (RG ZC ah aG ZK ZQ aw Oz aK Yq (Bb n) (Bh n) (BO n) (BZ n) (BV n)) v:=by kernel_rfl
theorem AML(n:Nat)(v:lW.V)(ω:List Bool):JU AIB uF Tryz.f284 (Nz 8 qe n) 21 ω (lW.st 207 v)=lW.un (MB (Bb n) (Bh n) (BO n) (BZ n) (BV n)) v:=AMO Cf B3 Bo Ek CA Cj Cv DA FM n v ω
theorem AMZ(ZC:List Int->Int->Option D2)(ah:Int->Option D7)(aG:Int->Int->Option EA)(ZK:Int->Option Fp)(ZQ:AB_->Int->Option DY)(aw:ABt->ACj->Int->Int->Option DI)(Oz:ABt->ABv->Int->Int->Option CY)(aK:ABv->Int->Option DH)(Yq:AAj->Int->Option Dy)(n:Nat)(v:lZ.V)(ω:List Bool):JU ⟨T,UE [(113,⟨qn,AFI,qn.un ZC⟩),(121,⟨rA,AE3,rA.un ah⟩),(177,⟨qq,AEf,qq.un aG⟩),(216,⟨ru,AEt,ru.un ZK⟩),(217,⟨rQ,AEo,rQ.un ZQ⟩),(269,⟨qt,AEj,qt.un aw⟩),(275,⟨gj,yw,gj.un Oz⟩),(289,⟨r9,AEW,r9.un aK⟩),(338,⟨rM,AFE,rM.un Yq⟩)],Cn [(10,lx),(18,hl1)]⟩ uF Tryz.f284 (Nz 8 qe n) 25 ω (lZ.st 207 v)=lZ.un (MW ZC ah aG ZK ZQ aw Oz aK Yq (Bb n) (Bh n) (BO n) (BZ n) (BV n)) v:=by kernel_rfl
theorem AMm(n:Nat)(v:lZ.V)(ω:List Bool):JU AIB uF Tryz.f284 (Nz 8 qe n) 25 ω (lZ.st 207 v)=lZ.un (JX (Bb n) (Bh n) (BO n) (BZ n) (BV n)) v:=AMZ Cf B3 Bo Ek CA Cj Cv DA FM n v ω
theorem Aaz(ZC:List Int->Int->Option D2)(ah:Int->Option D7)(aG:Int->Int->Option EA)(ZK:Int->Option Fp)(ZQ:AB_->Int->Option DY)(aw:ABt->ACj->Int->Int->Option DI)(Oz:ABt->ABv->Int->Int->Option CY)(aK:ABv->Int->Option DH)(Yq:AAj->Int->Option Dy)(n:Nat)(ω:List Bool)(v:AED.V):DR ⟨T,UE [(113,⟨qn,AFI,qn.un ZC⟩),(121,⟨rA,AE3,rA.un ah⟩),(177,⟨qq,AEf,qq.un aG⟩),(216,⟨ru,AEt,ru.un ZK⟩),(217,⟨rQ,AEo,rQ.un ZQ⟩),(269,⟨qt,AEj,qt.un aw⟩),(275,⟨gj,yw,gj.un Oz⟩),(289,⟨r9,AEW,r9.un aK⟩),(338,⟨rM,AFE,rM.un Yq⟩)],Cn [(10,lx),(18,hl1)]⟩ uF Tryz.f284 (Nz 8 qe n) ω v=AED.un (Za ZC ah aG ZK ZQ aw Oz aK Yq (Bb n) (Bh n) (BO n) (BZ n) (BV n)) v:=by kernel_rfl
theorem Aac(n:Nat)(ω:List Bool)(v:AED.V):DR AIB uF Tryz.f284 (Nz 8 qe n) ω v=AED.un (S_ (Bb n) (Bh n) (BO n) (BZ n) (BV n)) v:=Aaz Cf B3 Bo Ek CA Cj Cv DA FM n ω v
def AZ6:SQ:=mk Tryz.func284 AED AP8 af [vC,qp,uf,AKT,ACw,ARI,AMt,ASD,AOE] [(10,lx),(18,hl1)] qe (hJ:= .cons (fun _=>rfl) AR7 (.cons (fun _=>rfl) APw (.cons (fun _=>rfl) ANE (.cons (fun _=>rfl) AML (.cons (fun _=>rfl) AMm (.nil)))))) (he:=Aac AU)
def Aab:SQ:=mk Tryz.func191 jO AOH aT [ARu,AEy,AZ6] [] []
def AKB:SQ:=mk Tryz.func288 AGC jG Jy [vC] [] [⟨3,⟨[(0,fY),(1,fY),(5,wT),(6,BD)],p8⟩,Qh⟩]
def AaY:SQ:=mk Tryz.func285 AOM AOZ Pe [s97,AKI,AKB] [(8,[0,1,2])] [⟨5,⟨[(2,BD),(6,IV),(8,rS),(9,BD)],APe⟩,IY⟩] (hJ:= .cons (fun _=>rfl) (fun n v ω=>by rcases ω with _|⟨_|_,_⟩<;>kernel_rfl) (.nil))
def Abn:SQ:=mk Tryz.func286 APO ACA Su [s98,AHQ,AKB] [(7,[0,1,2,3,4,5,6])] [⟨5,⟨[(2,BD),(6,IV),(8,uR),(9,BD)],APV⟩,Ki⟩] (hJ:= .cons (fun _=>rfl) (fun n v ω=>by rcases ω with _|⟨_|_,_⟩<;>kernel_rfl) (.nil))
def AcG:SQ:=mk Tryz.func192 jO ⟨AWM,[DX,av,Je,N8,Xz,Vz,Px,Lv,DX]⟩ aE [qG,AEb,AEy,AaY,Abn] [(9,[0,1,2,3,5,6,7,8,9,10,11,12,13,14,15,16,17,18,19]),(13,[0,1,2,3,4,6,7,8,9,10,11,12,13,14,15,16,17,18,19])] [⟨7,⟨[(2,nW),(3,jw),(4,.c (.ptr 11 0)),(7,BD)],AOl⟩,LK⟩,⟨11,⟨[(2,nW),(3,jw),(4,.c (.ptr 11 0)),(8,BD)],AOl⟩,J_⟩]
def AcN:SQ:=mk Tryz.func339 tC Bv eE [AFC,qG] [] []
def Acj:SQ:=mk Tryz.func340 ⟨[(0,AC1)],[]⟩ ACs fK [ASx] [] [⟨3,⟨[(0,AC1),(3,wT),(4,BD)],[KT]⟩,KH⟩,⟨6,⟨[(0,AC1),(3,wT),(4,BD),(5,BD)],[KT]⟩,KD⟩]
def Aan:SQ:=mk Tryz.func287 AOo ⟨AUw,[aP,KT,KT]⟩ lr [s57,AER,vC,AcN,Acj] [] [⟨6,⟨[(1,wT),(2,fY),(4,BD),(10,VN),(12,uR),(13,.c (.ref 7)),(14,BD)],APH⟩,Qw⟩,⟨11,⟨[(4,BD),(10,VN),(12,uR),(13,.c (.ref 7)),(15,BD)],APH⟩,Ol⟩]
def AbF:SQ:=mk Tryz.func193 jO ⟨AWM,[DX,aP,Je,N8,Xz,Vz,Px,Lv,DX]⟩ an [vC,ACG,Aan,AKB] [(3,[0,2,3,4,5,6,7,8,9,10])] [] (he:=fun ω v=>by rcases ω with _|⟨_|_,_|⟨_|_,_⟩⟩<;>kernel_rfl)
abbrev AFn:BK:=tP
abbrev AN0:BK:=ACY
def ARb:SQ:=mk Tryz.func270 AFn AN0 Jd [] [] []
def AZu:SQ:=mk Tryz.func194 AJM ⟨[(0,.NM [.inr [.ref 0,.v tI,.ref 1,.ref 2,.ref 3,.v tI,.ref 4,.ref 8,.ref 6,.ref 7,.v .bool],.inl (.v tI)])],[DX,av,DX,N8,Xz,Je,Px,Lv,Vz]⟩ aX [AOD,ARb] [] []
def AW9:SQ:=mk Tryz.func265 ow zh P0 [s96,AER,aS,ACG,ARu] [] []
abbrev AFp:BK:=ow
abbrev ANr:BK:=ACs
def ARV:SQ:=mk Tryz.func272 AFp ANr G9 [AER,qp] [] [⟨3,⟨[(1,BD),(2,IV),(5,xP7),(6,BD)],[ASF,KT]⟩,J8⟩]
abbrev AEv:BK:=APi
abbrev ANa:BK:=ACA
def AQU:SQ:=mk Tryz.func271 AEv ANa HA [s98,AHQ,qp,AEb,ASx] [(8,so),(9,AN6)] [⟨6,⟨[(3,dB),(4,IV),(5,VN),(8,rS),(10,AHj),(11,BD)],[uH,AFM,ARo,GW,KT,qD,AQ1,GW,KT,qD]⟩,Mu⟩]
def AYq:SQ:=mk Tryz.func195 jO AAS aY [vC,ACw,AW9,AQU,ARV,AEy] [(7,lx),(9,AHr),(10,[0,1,2,3,4,5,6,7,8,9,10,11,12,13,14,15])] [] (he:=fun ω v=>by rcases ω with _|⟨_|_,_|⟨_|_,_|⟨_|_,_⟩⟩⟩<;>kernel_rfl)
def AWB:SQ:=mk Tryz.func336 AGC jG LS [AKB] [] []
def AWe:SQ:=mk Tryz.func335 AIw Bv LO [AFC,qG,AXK,AKB] [(3,[0,1])] []
abbrev AFO:BK:=AOp
abbrev ANw:BK:=ACA
def APv:SQ:=mk Tryz.func273 AFO ANw G7 [s98,AHQ,AXL,AWe,AWB] [(4,[0,1,2,3,4,5,6])] [⟨8,⟨[(4,IV),(6,VN),(8,.c (.ptr 5 0)),(9,BD)],AJC⟩,ND⟩]
def Aai:SQ:=mk Tryz.func196 AJM AAS aQ [ACw,APv] [(3,so)] [] (he:=fun ω v=>by rcases ω with _|⟨_|_,_|⟨_|_,_⟩⟩<;>kernel_rfl)
def AbH:SQ:=mk Tryz.func197 jO AAS eR [vC,ACw,AQN,AEy,ASD] [(3,hl9),(9,lx),(11,AHr)] [] (he:=fun ω v=>by rcases ω with _|⟨_|_,_|⟨_|_,_⟩⟩<;>kernel_rfl)
def AZW:SQ:=mk Tryz.func290 zZ Bv VE [qG,AHQ] [(6,[0,1])] [⟨4,APA,LQ⟩]
def AU_:SQ:=mk Tryz.func267 AOe AGX SV [s95,AH3,AOD,aS] [] []
def AbN:SQ:=mk Tryz.func198 AJM ⟨[(0,.NM [.inr [.ref 0,.v tI,.ref 1,.ref 2,.ref 8,.v tI,.ref 4,.ref 9,.ref 6,.ref 7,.v .bool],.inl (.v tI)])],[DX,av,DX,Je,Xz,Je,Px,Lv,N8,Vz]⟩ Xc [AU_,AZW] [(3,so),(5,so)] [] (he:=fun ω v=>by rcases ω with _|⟨_|_,_⟩<;>kernel_rfl)
def ATz:SQ:=mk Tryz.func199 AO4 AGX Ue [s95,AH3,zG,qp,ACG] [(4,[0,1,2,3,4])] []
def Aca:SQ:=mk Tryz.func344 AGJ Ex ZP [] [] [⟨2,⟨ANz,[ANK]⟩,KX⟩]
def AZk:SQ:=mk Tryz.func292 ACf Ex ko [Aca] [] [⟨2,⟨[(1,BD),(2,IV),(5,BD)],jg⟩,P9⟩]
def Acr:SQ:=mk Tryz.func293 ⟨[(0,ADr),(1,.row Y9),(2,BD)],[]⟩ ⟨AHP,[.sl 9 Y14]⟩ Sv [uf,AVo,AEy,AOE] [(6,[0,1,2,3]),(7,[0,1,2,3]),(8,[0,1,3,4])] [⟨4,⟨[(3,IV),(4,VN),(7,xP9),(8,.c (.ref 3)),(9,BD)],[AE5,AHR,.sl 9 Y14,GW]⟩,KZ⟩] (hJ:= .cons (fun _=>rfl) (fun n v ω=>by rcases ω with _|⟨_|_,_|⟨_|_,_⟩⟩<;>kernel_rfl) (.nil))
def AbA:SQ:=mk Tryz.func341 ⟨[(0,zL),(1,yc)],[]⟩ ⟨[(0,.NM [.inl (.ref 0),.inl (.v .bool)])],p8⟩ eX [AFC] [] [⟨3,⟨[(1,yc),(2,IV),(6,xP7),(7,BD)],AJv⟩,Mp⟩]
def AZq:SQ:=mk Tryz.func342 ⟨[(0,.row Y9),(1,.row Y8),(2,BD),(3,BD)],[]⟩ AGI Jc [s99] [] []
def AaS:SQ:=mk Tryz.func343 ⟨[(0,fY),(1,BD),(2,yc)],[]⟩ ⟨[(0,.agg [.v tI,.v tI,.v .str])],[]⟩ OA [vC,ANT,AUC] [] [⟨4,⟨[(0,fY),(1,BD),(2,yc),(6,IV),(7,VN),(8,xP0),(9,BD)],[.mem [.v tI,.v tI,.v .str],AIP]⟩,ON⟩]
def Ab5:SQ:=mk Tryz.func291 AOr ⟨AOc,[.sl 9 Y8]⟩ Sj [s48,s99,AH3,qp,uf,AKT,AWe,AWB,AbA,AZq,AaS] [(9,[0,1,2,4,5]),(14,[0,1,2,3,4,5]),(16,[0,1,2,4,5,6])] []
def Ab4:SQ:=mk Tryz.func200 jO AAS aW [aS,Ab5,AZk,Acr] [(3,hl9)] [] (he:=fun ω v=>by rcases ω with _|⟨_|_,_|⟨_|_,_|⟨_|_,_⟩⟩⟩<;>kernel_rfl)
def AY5:SQ:=mk Tryz.func201 jO ⟨[(0,.NM [.inr [.ref 0,.v tI,.ref 1,.ref 2,.ref 3,.v tI,.ref 8,.ref 5,.ref 6,.ref 7,.v .bool],.inl (.v tI)])],[DX,av,DX,N8,Je,Vz,Px,Lv,mJ]⟩ au [ASb] [] [⟨5,⟨[(2,nW),(3,mI),(4,jw),(6,.c (.ref 19)),(7,BD)],[DX,av,DX,N8,mJ,Vz,Px,Lv,zD,vF,AOB,GW,jr,GW,UN,jk,jj,jn,iH,mJ]⟩,OQ⟩]
def AcU:SQ:=mk Tryz.func295 ow zh Vj [s96,AER,zG] [(11,[0,1,2,3,6])] [⟨8,AOq,Lm⟩] (hJ:= .cons (fun _=>rfl) (fun n v ω=>by rcases ω with _|⟨_|_,_⟩<;>kernel_rfl) (.nil))
def AZ8:SQ:=mk Tryz.func202 jO AAS XX [AEy,AVY,AcU] [(4,hl9),(6,[0,1,2,3,4,5,6,7,8,9,10,12])] [] (he:=fun ω v=>by rcases ω with _|⟨_|_,_⟩<;>kernel_rfl)
def AZL:SQ:=mk Tryz.func109 jO ⟨[(0,.NM [.inr [.ref 0,.v tI,.ref 1,.ref 8,.ref 9,.v tI,.ref 10,.ref 11,.ref 6,.ref 12,.v .bool],.inl (.v tI)])],[DX,aP,Je,Je,Je,Je,Px,Je,DX,N8,mJ,yu,Lv]⟩ iD [AbI,AYc,Acd,Aab,AcG,AbF,AZu,AYq,Aai,AbH,AbN,ATz,Ab4,AY5,AZ8] [] []
def s45:SQ:=mk Tryz.func45 AO2 AOH Q1 [s17,s42,AW8,AZL] [(3,[0,1,2])] [] (he:=fun ω v=>by rcases ω with _|⟨_|_,_|⟨_|_,_⟩⟩<;>kernel_rfl)
abbrev i87:BK:=AJk
abbrev o87:BK:=⟨[(0,.NM [.inr [.ref 1,.v tI,.ref 2,.ref 3,.ref 4,.v tI,.ref 5,.ref 6,.ref 7,.ref 8,.v .bool],.inl (.ref 9),.inr [.ref 10,.v tI,.ref 11,.ref 12,.ref 13,.v tI,.ref 14,.ref 15,.ref 16,.ref 17,.v .bool]])],[aj,Je,Je,Je,Je,Je,Je,Je,Je,.sl 9 Y12,DX,aP,DX,N8,mJ,yu,Px,Lv]⟩
def s87:SQ:=mk Tryz.func87 i87 o87 LN [s23,s28,rO,s45,s64,qG] [(21,[0,2,3,4,5,6,7,8,9,11,12,13,14,15,16,17,18,19,28,29,30,31,32,33,34,35,36,37])] [⟨4,⟨[(0,IV),(1,BD),(4,VN),(6,jw),(7,sE),(8,.c (.ref 21)),(9,BD)],APE⟩,E6⟩,⟨7,⟨[(0,IV),(1,BD),(4,VN),(6,jw),(7,sE),(8,.c (.ref 21))],APE⟩,E8⟩,⟨14,AW4,Dw⟩]
def AVc:SQ:=mk Tryz.func263 mc APZ M5 [s29,rO,s62,qp,uf] [] []
abbrev i175:BK:=mc
abbrev AL4:BK:=AOs
def AS_:SQ:=mk Tryz.func175 i175 AL4 Eg [s29,rO,uf,AQN,AVc,ARu,AW9] [(6,[1,2,3,4,5,6]),(14,[1,2,3,4,5,6,9]),(25,[0,1,2,3,6])] [⟨4,⟨[(0,IV),(2,VN),(3,uR),(4,BD),(5,BD)],AGz⟩,Ej⟩,⟨20,⟨[(2,VN),(3,uR),(8,BD)],AGz⟩,E9⟩,⟨23,⟨[(2,VN),(3,uR),(8,BD),(9,BD)],AGz⟩,FA⟩] (hJ:= .cons (fun _=>rfl) (fun n v ω=>by rcases ω with _|⟨_|_,_|⟨_|_,_⟩⟩<;>kernel_rfl) (.cons (fun _=>rfl) (fun n v ω=>by kernel_rfl) (.cons (fun _=>rfl) (fun n v ω=>by rcases ω with _|⟨_|_,_|⟨_|_,_⟩⟩<;>kernel_rfl) (.nil))))
abbrev i94:BK:=mc
abbrev o94:BK:=AG5
def s94:SQ:=mk Tryz.func94 i94 o94 Fe [rO,s60,uf] [] []
def AWI:SQ:=mk Tryz.func176 mc APZ Tm [rO,s60,s94,AVc] [] []
abbrev i89:BK:=mc
abbrev o89:BK:=AOs
def s89:SQ:=mk Tryz.func89 i89 o89 YU [rO,s60,AS_,AWI,uf] [(6,[1,4]),(8,[1,3]),(10,[1,2,3,4,5,6]),(11,[0,1,2,3,5])] [⟨10,⟨[(0,IV),(2,VN),(3,uR)],AGz⟩,OI⟩] (hJ:= .cons (fun _=>rfl) (fun n v ω=>by rcases ω with _|⟨_|_,_|⟨_|_,_⟩⟩<;>kernel_rfl) (.nil)) (he:=fun ω v=>by rcases ω with _|⟨_|_,_|⟨_|_,_⟩⟩<;>kernel_rfl)
def AcJ:SQ:=mk Tryz.func178 tE ⟨APy,[aj,UN]⟩ Q7 [rO,ASc,uf,ATz,AVT,AU_] [(5,[1,2,3,4,5]),(8,[1,2,3,4,5]),(10,[1,2,3,4,5])] [⟨3,⟨AOS,[aj,uH,.mem [.ref 3,.v tI],UN,.mem [.ref 5,.v tI],UN]⟩,Hf⟩] (hJ:= .cons (fun _=>rfl) (fun n v ω=>by rcases ω with _|⟨_|_,_|⟨_|_,_⟩⟩<;>kernel_rfl) (.nil))
abbrev i90:BK:=tE
abbrev o90:BK:=⟨APy,[aj,.sl 1 Y3]⟩
def s90:SQ:=mk Tryz.func90 i90 o90 YK [rO,s60,s88,s94,ASc,AcJ] [(11,[1,2,5]),(14,[1,2,5]),(17,[1,2,3,4])] [⟨17,⟨[(0,IV),(4,VN),(5,xP4),(7,.c (.sl true tI))],[aj,ARm,UN,ARi,.sl 1 Y3]⟩,OX⟩]
abbrev AZF:BK:=tE
abbrev Aav:BK:=⟨[(0,.agg [.v tI,.ref 1])],[aj,qu]⟩
def AUs:SQ:=mk Tryz.func179 AZF Aav RD [s29,rO,s62,ACG,AXU,ARI] [(5,[1,2,3,4,5]),(7,[1,2,3,4,5])] [⟨3,⟨AOS,[aj,uH,ARx,qu,.mem [.v tI,.ref 5],qu]⟩,JT⟩] (hJ:= .cons (fun _=>rfl) (fun n v ω=>by rcases ω with _|⟨_|_,_|⟨_|_,_|⟨_|_,_⟩⟩⟩<;>kernel_rfl) (.nil))
abbrev i91:BK:=tE
abbrev o91:BK:=⟨[(0,.agg [.v tI,.ref 1])],[aj,.sl 1 Y5]⟩
def c91:Rt:=⟨i91,o91,(i91.un Qo)⟩
def C91:fX:=⟨T,UE (SP.l [rO,s60,AUs]),Cn [(7,[0,1,2,5]),(9,[1,2]),(12,[0,1,2])]⟩
def L91:List (Lp o91):=[⟨11,⟨[(4,VN),(5,xP4)],[aj,.mem [.v tI,.ref 2],qu,.mem [.v tI,.ref 4],.sl 1 Y5]⟩,Hm⟩]
abbrev AFm:BK:=⟨[(4,VN),(5,xP4)],[aj,.mem [.v tI,.ref 2],qu,.mem [.v tI,.ref 4],.sl 1 Y5]⟩
theorem AS6(n:Nat)(v:AFm.V)(ω:List Bool):JU C91 c91 Tryz.f91 (Nz 1 L91 n) 11 ω (AFm.st 68 v)=AFm.un (Tc (Hm n)) v:=by rcases ω with _|⟨_|_,_|⟨_|_,_|⟨_|_,_⟩⟩⟩<;>kernel_rfl
def AQ_(ω:List Bool):Prop:= ∀(n:Nat) (v:i91.V),DR C91 c91 Tryz.f91 (Nz 1 L91 n) ω v=i91.un (Pb (Hm n)) v
theorem AWx:∀ω:List Bool,AQ_ (ω):=by refine AE ?_ (AE ?_ (AE ?_ (AE ?_ ?_ ?_) ?_) ?_) ?_<;>(delta AQ_;intros;kernel_rfl)
theorem E91(ω:List Bool):AQ_ ω:=AWx ω
theorem e91(n:Nat)(ω:List Bool)(v:i91.V):DR C91 c91 Tryz.f91 (Nz 1 L91 n) ω v=i91.un (Pb (Hm n)) v:=E91 ω n v
def s91:SQ:=mk Tryz.func91 i91 o91 Qo [rO,s60,AUs] [(7,[0,1,2,5]),(9,[1,2]),(12,[0,1,2])] L91 (hJ:= .cons (fun _=>rfl) AS6 (.nil)) (he:=e91 AU)
abbrev AEd:BK:=zZ
abbrev ANi:BK:=jG
def AWX:SQ:=mk Tryz.func274 AEd ANi Jl [qG,AEb] [] [⟨3,⟨[(2,IV),(5,xP7),(6,BD)],AJv⟩,OV⟩]
abbrev AEq:BK:=tE
abbrev AQT:BK:=APW
def AIY:Rt:=⟨AEq,AQT,(AEq.un Mf)⟩
def AQr:fX:=⟨T,UE (SP.l [s29,rO,ACG,AS_,ARb,AQU,ARV,APv,AWX,AMt]),Cn [(6,hl8),(11,so),(17,hl8)]⟩
def AEM:List (Lp AQT):=[⟨4,⟨[(0,IV),(3,VN),(4,rS),(5,AHj),(6,BD),(7,BD)],AGu⟩,Cs⟩,⟨15,⟨[(0,IV),(3,VN),(4,rS),(5,AHj),(12,BD)],AGu⟩,Cd⟩]
abbrev qm:BK:=⟨[(0,IV),(3,VN),(4,rS),(5,AHj),(6,BD),(7,BD)],AGu⟩
abbrev lk:BK:=⟨[(0,IV),(3,VN),(4,rS),(5,AHj),(12,BD)],AGu⟩
def ABf(ω:List Bool):Prop:= ∀(g29:Int->List Int->Int->Int->Option Ly) (yQ:Int->List Int->Int->Int->Option HO) (uL:Int->Int->Option Ni) (tv:List Int->Int->Int->Option Co) (ua:Int->Int->Option KW) (uA:ABt->ABv->Int->AAj->Option GV) (ui:ACo->Int->Option GY) (uK:ABt->ABv->List Int->Option Gg) (uM:ABt->ABv->Option HT) (Oz:ABt->ABv->Int->Int->Option CY) (n:Nat) (v:qm.V),JU ⟨T,UE [(29,⟨i29,o29,i29.un g29⟩),(31,⟨i31,o31,i31.un yQ⟩),(174,⟨AFS,ANj,AFS.un uL⟩),(175,⟨i175,AL4,i175.un tv⟩),(270,⟨AFn,AN0,AFn.un ua⟩),(271,⟨AEv,ANa,AEv.un uA⟩),(272,⟨AFp,ANr,AFp.un ui⟩),(273,⟨AFO,ANw,AFO.un uK⟩),(274,⟨AEd,ANi,AEd.un uM⟩),(275,⟨gj,yw,gj.un Oz⟩)],Cn [(6,hl8),(11,so),(17,hl8)]⟩ AIY Tryz.f180 (Nz 1 AEM n) 4 ω (qm.st 85 v)=qm.un (Rs g29 yQ uL tv ua uA ui uK uM Oz (Cs n) (Cd n)) v
theorem AKH:∀ω:List Bool,ABf (ω):=by refine AE ?_ ?_ (AE ?_ ?_ (AE ?_ ?_ (AE ?_ ?_ ?_)))<;>(delta ABf;intros;kernel_rfl)
theorem ARw(ω:List Bool):ABf ω:=AKH ω
theorem ARE(n:Nat)(v:qm.V)(ω:List Bool):JU AQr AIY Tryz.f180 (Nz 1 AEM n) 4 ω (qm.st 85 v)=qm.un (OC (Cs n) (Cd n)) v:=ARw ω Av AJ En Eg Jd HA G9 G7 Jl Cv n v
def vU(ω:List Bool):Prop:= ∀(g29:Int->List Int->Int->Int->Option Ly) (yQ:Int->List Int->Int->Int->Option HO) (uL:Int->Int->Option Ni) (tv:List Int->Int->Int->Option Co) (ua:Int->Int->Option KW) (uA:ABt->ABv->Int->AAj->Option GV) (ui:ACo->Int->Option GY) (uK:ABt->ABv->List Int->Option Gg) (uM:ABt->ABv->Option HT) (Oz:ABt->ABv->Int->Int->Option CY) (n:Nat) (v:lk.V),JU ⟨T,UE [(29,⟨i29,o29,i29.un g29⟩),(31,⟨i31,o31,i31.un yQ⟩),(174,⟨AFS,ANj,AFS.un uL⟩),(175,⟨i175,AL4,i175.un tv⟩),(270,⟨AFn,AN0,AFn.un ua⟩),(271,⟨AEv,ANa,AEv.un uA⟩),(272,⟨AFp,ANr,AFp.un ui⟩),(273,⟨AFO,ANw,AFO.un uK⟩),(274,⟨AEd,ANi,AEd.un uM⟩),(275,⟨gj,yw,gj.un Oz⟩)],Cn [(6,hl8),(11,so),(17,hl8)]⟩ AIY Tryz.f180 (Nz 1 AEM n) 15 ω (lk.st 85 v)=lk.un (P1 g29 yQ uL tv ua uA ui uK uM Oz (Cs n) (Cd n)) v
theorem AHg:∀ω:List Bool,vU (ω):=by refine AE ?_ ?_ (AE ?_ ?_ (AE ?_ ?_ (AE ?_ ?_ ?_)))<;>(delta vU;intros;kernel_rfl)
theorem ALn(ω:List Bool):vU ω:=AHg ω
theorem AL_(n:Nat)(v:lk.V)(ω:List Bool):JU AQr AIY Tryz.f180 (Nz 1 AEM n) 15 ω (lk.st 85 v)=lk.un (Mn (Cs n) (Cd n)) v:=ALn ω Av AJ En Eg Jd HA G9 G7 Jl Cv n v
theorem Abl(g29:Int->List Int->Int->Int->Option Ly)(yQ:Int->List Int->Int->Int->Option HO)(uL:Int->Int->Option Ni)(tv:List Int->Int->Int->Option Co)(ua:Int->Int->Option KW)(uA:ABt->ABv->Int->AAj->Option GV)(ui:ACo->Int->Option GY)(uK:ABt->ABv->List Int->Option Gg)(uM:ABt->ABv->Option HT)(Oz:ABt->ABv->Int->Int->Option CY)(n:Nat)(ω:List Bool)(v:AEq.V):DR ⟨T,UE [(29,⟨i29,o29,i29.un g29⟩),(31,⟨i31,o31,i31.un yQ⟩),(174,⟨AFS,ANj,AFS.un uL⟩),(175,⟨i175,AL4,i175.un tv⟩),(270,⟨AFn,AN0,AFn.un ua⟩),(271,⟨AEv,ANa,AEv.un uA⟩),(272,⟨AFp,ANr,AFp.un ui⟩),(273,⟨AFO,ANw,AFO.un uK⟩),(274,⟨AEd,ANi,AEd.un uM⟩),(275,⟨gj,yw,gj.un Oz⟩)],Cn [(6,hl8),(11,so),(17,hl8)]⟩ AIY Tryz.f180 (Nz 1 AEM n) ω v=AEq.un (Rq g29 yQ uL tv ua uA ui uK uM Oz (Cs n) (Cd n)) v:=by kernel_rfl
theorem AbJ(n:Nat)(ω:List Bool)(v:AEq.V):DR AQr AIY Tryz.f180 (Nz 1 AEM n) ω v=AEq.un (Nh (Cs n) (Cd n)) v:=Abl Av AJ En Eg Jd HA G9 G7 Jl Cv n ω v
def Abs:SQ:=mk Tryz.func180 AEq AQT Mf [s29,rO,ACG,AS_,ARb,AQU,ARV,APv,AWX,AMt] [(6,hl8),(11,so),(17,hl8)] AEM (hJ:= .cons (fun _=>rfl) ARE (.cons (fun _=>rfl) AL_ (.nil))) (he:=AbJ AU)
abbrev i92:BK:=tE
abbrev o92:BK:=APW
def s92:SQ:=mk Tryz.func92 i92 o92 Ye [rO,s60,s88,AWI,Abs] [(8,[1,2,4,5]),(10,[1,2,4,6])] [] (he:=fun ω v=>by rcases ω with _|⟨_|_,_|⟨_|_,_⟩⟩<;>kernel_rfl)
abbrev i93:BK:=mc
abbrev o93:BK:=⟨[(0,.agg [.v tI,.v tI,.ref 1])],[aj,.sl 9 Y8]⟩
def s93:SQ:=mk Tryz.func93 i93 o93 KR [rO,s60,s94] [(5,[1,2])] [⟨3,⟨[(0,IV),(2,VN),(3,xP4),(4,BD)],[aj,.mem [.v tI,.v tI,.ref 2],.sl 9 Y8,.mem [.v tI,.v tI,.ref 4],.sl 9 Y8]⟩,Hz⟩] (hJ:= .cons (fun _=>rfl) (fun n v ω=>by rcases ω with _|⟨_|_,_|⟨_|_,_|⟨_|_,_⟩⟩⟩<;>kernel_rfl) (.nil))
abbrev i30:BK:=mc
abbrev o30:BK:=AOi
def s30:SQ:=mk Tryz.func30 i30 o30 Tu [s28,rO,s60] [(6,[1,4])] []
abbrev i41:BK:=⟨[(0,IV),(1,.c (.sl false tU))],gT⟩
abbrev o41:BK:=⟨[(0,.agg [.ref 1,.v tI,.ref 2,.ref 3,.ref 4,.v tI,.ref 5,.ref 6,.ref 7,.ref 8,.v .bool])],[aj,DX,aP,DX,.sl 1 Y3,mJ,yu,Px,Lv]⟩
def c41:Rt:=⟨i41,o41,(i41.un I9)⟩
def C41:fX:=⟨T,UE (SP.l [s30,rO,s32,s87,s88,s89,s90,s91,s92,s93,s94]),Cn [(6,APq),(10,ATD),(12,ARJ),(14,ASr),(16,ATJ)]⟩
def L41:List (Lp o41):=[]
def ASu(ω:List Bool):Prop:= ∀(g30:List Int->Int->Int->Option fP) (yQ:Int->List Int->Int->Int->Option HO) (g32:List Int->Int->Int->Option eW) (g87:Int->List Int->Int->Int->Option Dz) (g88:ABt->List Int->Int->Int->Option KU) (g89:List Int->Int->Int->Option SF) (g90:ABt->List Int->Int->Int->Option SX) (g91:ABt->List Int->Int->Int->Option SR) (g92:ABt->List Int->Int->Int->Option eo) (g93:List Int->Int->Int->Option Ia) (g94:List Int->Int->Int->Option Sz) (n:Nat) (v:i41.V),DR ⟨T,UE [(30,⟨i30,o30,i30.un g30⟩),(31,⟨i31,o31,i31.un yQ⟩),(32,⟨i32,o32,i32.un g32⟩),(87,⟨i87,o87,i87.un g87⟩),(88,⟨i88,o88,i88.un g88⟩),(89,⟨i89,o89,i89.un g89⟩),(90,⟨i90,o90,i90.un g90⟩),(91,⟨i91,o91,i91.un g91⟩),(92,⟨i92,o92,i92.un g92⟩),(93,⟨i93,o93,i93.un g93⟩),(94,⟨i94,o94,i94.un g94⟩)],Cn [(6,APq),(10,ATD),(12,ARJ),(14,ASr),(16,ATJ)]⟩ c41 Tryz.f41 (Nz 1 L41 n) ω v=i41.un (Ra g30 yQ g32 g87 g88 g89 g90 g91 g92 g93 g94) v
theorem AVe:∀ω:List Bool,ASu (ω):=by refine AE ?_ (AE ?_ (AE ?_ ?_ ?_) ?_) ?_<;>(delta ASu;intros;kernel_rfl)
theorem b41(ω:List Bool):ASu ω:=AVe ω
theorem e41(n:Nat)(ω:List Bool)(v:i41.V):DR C41 c41 Tryz.f41 (Nz 1 L41 n) ω v=i41.un (I9) v:=b41 ω Tu AJ X7 LN Ff YU YK Qo Ye KR Fe n v
def s41:SQ:=mk Tryz.func41 i41 o41 I9 [s30,rO,s32,s87,s88,s89,s90,s91,s92,s93,s94] [(6,APq),(10,ATD),(12,ARJ),(14,ASr),(16,ATJ)] L41 (hJ:= .nil) (he:=e41 AU)
def AVk:SQ:=mk Tryz.func102 Ex cR VV [] [] []
def AWS:SQ:=mk Tryz.func103 zk jG Uq [] [] []
def AR2:SQ:=mk Tryz.func133 Ex cR QC [] [] [⟨4,⟨[(0,BD),(3,ij)],[]⟩,SW⟩]
def ARe:SQ:=mk Tryz.func134 Ex cR GS [zG,qp,AR2,AKT] [] []
def s63:SQ:=mk Tryz.func63 zk zp Jr [AVk,AWS,AW8,aS,zG,AR2,ARe] [] [⟨4,⟨[(1,IV),(4,BD)],AJd⟩,Fy⟩,⟨11,⟨[(1,IV),(5,ij),(6,xP7),(7,BD)],[vF,GW]⟩,Eo⟩]
def s65:SQ:=mk Tryz.func65 ⟨[(0,IV),(1,ij),(2,AXT)],gT⟩ AIy NR [rO,s62,AQ7] [] []
def s33:SQ:=mk Tryz.func33 AHB AIy RJ [s17,s29,s62,s63,s64,s65] [] []
def s15:SQ:=mk Tryz.func15 AJr ⟨AKY,[DX,aP,DX,.sl 1 Y3,mJ,yu,Px,Lv]⟩ N7 [s27,s33,s41] [(3,[3,4,5,6,7,8,9,10,11])] []
def AYl:SQ:=mk Tryz.func337 AF9 Bv bf [aS] [] []
def Aah:SQ:=mk Tryz.func276 zj Bv R0 [AYl] [(6,[0])] [⟨3,⟨AWO,[AHR]⟩,MY⟩]
def AbY:SQ:=mk Tryz.func181 Va Bv Sa [s17,Aah] [] []
def AaE:SQ:=mk Tryz.func277 ⟨[(0,ADr),(1,.row Y8)],[]⟩ Bv aI [] [(4,[0,1])] [⟨2,⟨AXG,[AE5,.mem [.v tI,.v tI,.v .str]]⟩,OU⟩]
def AZA:SQ:=mk Tryz.func182 Va Bv Uz [s17,AaE] [] [⟨4,ADM,HX⟩,⟨7,APS,HF⟩]
def AUH:SQ:=mk Tryz.func278 AJp zp NS [] [] [⟨2,⟨[(1,BD),(2,IV),(6,BD)],[AHR]⟩,OM⟩]
def AVH:SQ:=mk Tryz.func279 AJp Bv Ie [uf] [] []
def AYf:SQ:=mk Tryz.func183 Va Bv VY [s17,AUH,AVH] [(10,[0,1]),(11,[0,1])] [⟨4,ADM,Ha⟩,⟨7,⟨[(1,IV),(3,BD),(4,BD),(14,.c (.ptr 0 10)),(15,xP0),(16,xP0)],jg⟩,HK⟩]
def AcK:SQ:=mk Tryz.func184 Va Bv Sr [s17] [] [⟨4,ADM,EM⟩,⟨7,⟨[(1,IV),(3,BD),(4,BD),(11,.c (.ptr 0 10)),(12,xP0),(13,xP0)],jg⟩,Gm⟩]
def AZr:SQ:=mk Tryz.func280 ⟨[(0,ADr),(1,.row Y9),(2,.row Y9)],[]⟩ Bv SE [zG,AUH,AVH] [] [⟨2,⟨[(3,IV),(4,VN),(5,rS),(7,BD)],[AE5,AHR,AHR]⟩,KE⟩]
def AcQ:SQ:=mk Tryz.func185 Va Bv VJ [s17,AZr] [(3,[0])] []
def AZa:SQ:=mk Tryz.func100 Va Bv XS [AbY,AZA,AYf,AcK,AcQ] [] []
def Abp:SQ:=mk Tryz.func101 AF9 cR It [AR2,ARe] [(5,[0])] []
def s43:SQ:=mk Tryz.func43 ALD cR km [AZa,Abp] [(8,[0])] [] (he:=fun ω v=>by rcases ω with _|⟨_|_,_⟩<;>kernel_rfl)
def AWA:SQ:=mk Tryz.func104 AUq ⟨[(0,.NM [.inl (.v tI),.inl (.v tI)])],[]⟩ Xu [] [] [⟨3,⟨[(0,ij),(1,BD),(6,BD),(7,BD)],[]⟩,M4⟩]
def Abo:SQ:=mk Tryz.func105 ⟨[(0,BD),(1,fY)],[]⟩ AOa hY [] [] []
def Acp:SQ:=mk Tryz.func107 cR om VC [AWA,ARe,AWD] [] []
def s44:SQ:=mk Tryz.func44 cR AOy VK [s63,AVk,AWS,AWA,Abo,AQ7,Acp] [] [⟨3,⟨[(0,ij),(2,IV),(4,VN),(5,BD)],[vF,vF]⟩,EF⟩,⟨11,⟨[(0,ij),(2,IV),(4,VN),(5,BD),(7,BD),(8,BD),(9,xP9),(10,BD)],[vF,vF,GW]⟩,ET⟩]
def s16:SQ:=mk Tryz.func16 ALD ⟨AKY,AI8⟩ My [s17,s42,s43,s44,s45] [(13,[0,2,3,4,5,6,7,8,9,10,11,12,13,14,15,16,17,18,19,20])] [] (he:=fun ω v=>by rcases ω with _|⟨_|_,_|⟨_|_,_⟩⟩<;>kernel_rfl)
end
end Go.Proofs.YtbjkhapllnkhfaaGreatDoor.Wk
