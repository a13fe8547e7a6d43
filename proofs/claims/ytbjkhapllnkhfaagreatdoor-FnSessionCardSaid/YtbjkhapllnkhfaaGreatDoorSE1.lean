/- Each function computes what was printed: by the kernel. -/
import Derived.Test.YtbjkhapllnkhfaaGreatDoorSE0
import Derived.Test.YtbjkhapllnkhfaaGreatDoorProg
import Derived.KernelRfl
set_option linter.unusedVariables false
set_option linter.unusedSimpArgs false
set_option linter.unusedSectionVars false
namespace Go.Proofs.YtbjkhapllnkhfaaGreatDoor.Wk
open Go Go.Fw Go.M Go.Proofs
noncomputable section
open Go.Shelf Go.RowKit
abbrev i66:Bb:=⟨[(0,eC)],[]⟩
abbrev o66:Bb:=iM
def s66:SQ:=mk Tryz.func66 i66 o66 DD [] [] []
abbrev i34:Bb:=ABc
abbrev o34:Bb:=⟨[(0,.agg [.ref 0,.v tI])],ji⟩
def s34:SQ:=mk Tryz.func34 i34 o34 Ie [s66] [(1,[0])] []
abbrev i35:Bb:=⟨[],[]⟩
abbrev o35:Bb:=ABX
def s35:SQ:=mk Tryz.func35 i35 o35 KB [] [] []
abbrev i139:Bb:=ALF
abbrev AFF:Bb:=CA
def S6:SQ:=mk Tryz.func139 i139 AFF A_ [] [] []
def s67:SQ:=mk Tryz.func67 ABc CA E6 [S6] [] [⟨2,⟨[(1,Im),(6,eC),(7,BA),(8,BA)],AQP⟩,Ln⟩]
def AXp:SQ:=mk Tryz.func218 qG CA Yg [S6] [] [⟨2,⟨[(0,eC),(1,BA),(7,eC),(8,BA),(9,BA)],[]⟩,Kb⟩]
def yk:SQ:=mk Tryz.func140 qA CA D2 [s67,AXp] [] []
def AKw:SQ:=mk Tryz.func209 EZ CA Hl [S6] [] []
def ARx:SQ:=mk Tryz.func210 EZ CA Zu [S6] [] []
def ACR:SQ:=mk Tryz.func126 EZ CA DB [AKw,ARx] [] []
def AKA:SQ:=mk Tryz.func150 Zk CA GF [] [] []
def ui:SQ:=mk Tryz.func127 EZ EZ EU [ACR] [] []
def AKL:SQ:=mk Tryz.func302 ⟨[(0,.row Y1)],[]⟩ CA NF [ACR,ui,S6,AKA] [(1,[0])] []
def AXS:SQ:=mk Tryz.func219 AD1 CA O9 [AKL] [] [⟨2,⟨[(5,aS),(6,BA),(7,BA)],[]⟩,IL⟩]
def ASR:SQ:=mk Tryz.func220 AD1 CA Ks [] [(4,[0])] [⟨2,⟨[(0,aS),(5,aS),(6,BA),(7,BA)],[]⟩,GG⟩]
def yy:SQ:=mk Tryz.func141 qb CA FA [S6,AXS,ASR] [] []
def AUw:SQ:=mk Tryz.func304 ⟨[(0,BA),(1,.c (.rA (.cons (.sl tI) .unit)))],[]⟩ CA Sj [ACI] [] []
def AaK:SQ:=mk Tryz.func351 ⟨[(0,eC),(1,AK9)],[]⟩ EZ Di [AUw] [] [⟨2,⟨[(0,eC),(1,AK9),(7,BA),(8,BA)],[]⟩,CD⟩]
def AaJ:SQ:=mk Tryz.func303 ⟨[(0,Zi),(1,AK9)],[DT]⟩ AMI Cm [AUw,AaK] [] [⟨5,⟨[(0,Zi),(1,AK9),(5,BA),(6,BA)],[DT]⟩,B6⟩]
def AKV:SQ:=mk Tryz.func221 AHk AGg Ny [s66,AaJ] [] []
abbrev ACK:Bb:=AER
abbrev AJq:Bb:=CA
def AFc:SQ:=mk Tryz.func142 ACK AJq C7 [AKV] [] []
def AaO:SQ:=mk Tryz.func222 qA EZ bl [yk,ACI] [] [⟨5,⟨[(2,Im),(5,xP9),(13,eC),(14,BA),(15,BA)],ALv⟩,PO⟩]
abbrev i143:Bb:=qA
abbrev AVF:Bb:=CA
def wO:SQ:=mk Tryz.func143 i143 AVF Gr [yk,AaO] [(1,[0])] []
def s68:SQ:=mk Tryz.func68 ABm CA LW [yk,yy,AFc,wO] [] [⟨4,⟨[(0,ABt),(32,AAo),(33,BA),(34,BA)],[]⟩,FD⟩]
def AYu:SQ:=mk Tryz.func144 ⟨[(0,vd),(1,.row Y3)],[]⟩ CA eI [S6,wO] [] []
abbrev i69:Bb:=AId
abbrev o69:Bb:=CA
def s69:SQ:=mk Tryz.func69 i69 o69 LL [s67,ui,S6,AYu] [(7,[0,1])] [⟨2,⟨[(2,Im),(3,cB),(9,.c (.sl false Y3)),(10,BA),(11,BA)],AML⟩,LH⟩]
def AZq:SQ:=mk Tryz.func223 CA EZ ew [] [] []
abbrev i145:Bb:=AHV
abbrev ASj:Bb:=CA
def AFN:SQ:=mk Tryz.func145 i145 ASj GW [s67,yk,wO,AKA,AKw,AZq] [(5,[0,1,2])] [⟨3,⟨[(2,Im),(3,cB),(5,BA),(9,AJm),(10,BA),(11,BA)],ALn⟩,MY⟩]
def AUH:SQ:=mk Tryz.func146 AER CA Jt [S6] [] []
def s70:SQ:=mk Tryz.func70 ABm CA Kp [AFN,AUH] [(4,[0])] [⟨2,⟨[(0,ABt),(8,.c (.sl false Y6)),(9,BA),(10,BA)],[]⟩,Ec⟩]
def AJN:SQ:=mk Tryz.func128 EZ EZ SU [ACR] [] []
def AUa:SQ:=mk Tryz.func224 ABh EZ Th [AJN] [] []
def AYS:SQ:=mk Tryz.func225 ABh CA Wy [ui,ASR,AKL] [(4,[0,1])] [⟨2,⟨[(1,Im),(6,aS),(7,BA),(8,BA)],[ACq]⟩,ML⟩]
def AC1:SQ:=mk Tryz.func147 AAe CA Ht [s67,S6,yk,AKw,AUa,AYS] [] [⟨2,⟨[(2,Im),(3,cB),(10,AKj),(11,BA),(12,BA)],AIb⟩,L4⟩]
def AN7:SQ:=mk Tryz.func148 ADm EZ L3 [] [] [⟨2,⟨[(6,.c (.sl false Y3)),(7,BA),(8,BA)],[]⟩,IU⟩]
def s71:SQ:=mk Tryz.func71 ABm CA Mv [AC1,AN7] [(4,[0])] [⟨2,⟨[(0,ABt),(8,.c (.sl false Y7)),(9,BA),(10,BA)],[]⟩,Fc⟩]
def ATf:SQ:=mk Tryz.func149 xi CA WS [S6] [] []
def s72:SQ:=mk Tryz.func72 ABm CA K7 [ATf] [] [⟨2,⟨[(0,ABt),(8,uj),(9,BA),(10,BA)],[]⟩,EY⟩]
def s73:SQ:=mk Tryz.func73 ABm CA Ot [ui,AUH,AKA] [(4,[0])] [⟨2,⟨[(0,ABt),(8,AF3),(9,BA),(10,BA)],[]⟩,GK⟩]
abbrev i36:Bb:=Te
abbrev o36:Bb:=CA
def s36:SQ:=mk Tryz.func36 i36 o36 Cz [s67,s68,s69,s70,s71,s72,s73] [] []
abbrev i13:Bb:=ABc
abbrev o13:Bb:=AMe
def c13:RU:=⟨i13,o13,(i13.un Du)⟩
def C13:eD:=⟨T,Ul (SP.l [s34,s35,s36]),Cj [(1,[0,1])]⟩
def L13:List (Lp o13):=[]
def W13(p0:ABx):Option fS:=
 (Ie (p0.1,p0.2.1,())).bind fun u1=>
 (
 let x2:AAd:=(List.replicate ((p0.1.length:Int).toNat) ([],[],0,()))
 (KB).bind fun u3=>
 (KB).bind fun u4=>
 (Cz (u1.2.1,u1.1.1.2.1,x2,[],[],0,[],[],[(u3.1.1.1,u3.1.1.2.1,u3.2.1,()),(u4.1.1.1,u4.1.1.2.1,u4.2.1,())],[],false,())).bind fun u5=>
 cond (!u5.1.1)
  (some (((((),0,(),(),(),0,(),(),(),(),false,()),false,()),()),([],[],[],[],[],[],[],[],())))
 (some (((((),u1.1.1.2.1,(),(),(),0,(),(),(),(),false,()),true,()),()),(u1.2.1,x2,[],[],[],[],[(u3.1.1.1,u3.1.1.2.1,u3.2.1,()),(u4.1.1.1,u4.1.1.2.1,u4.2.1,())],[],()))))
def YV(ω:List Bool):Prop:= ∀v,DO C13 c13 Tryz.f13 (Og 0 L13 AW) ω v=i13.un Du v
def B13(ω:List Bool):Prop:= ∀v,DO C13 c13 Tryz.f13 (Og 0 L13 AW) ω v=i13.un (fun p0=>if(0:Int)<=(p0.1.length:Int)/\(p0.1.length:Int)<=(p0.1.length:Int)/\(p0.1.length:Int)<=(Go.M.CN:Int)then W13 p0 else none) v
def S7(ω:List Bool):Prop:= ∀v u,i13.un Du v=some u->DO C13 c13 Tryz.f13 (Og 0 L13 AW) ω v=some u
theorem Je{ω:List Bool}(h:YV ω):S7 ω:=fun v u e=>(h v).trans e
theorem uI{ω:List Bool}(h:B13 ω):S7 ω:=fun v u e=>(h v).trans (by
 revert e
 show Du v.1.1=some u->(if(0:Int)<=(v.1.1.1.length:Int)/\(v.1.1.1.length:Int)<=(v.1.1.1.length:Int)/\(v.1.1.1.length:Int)<=(Go.M.CN:Int)then W13 v.1.1 else none)=some u
 intro e;unfold Du at e;cases hc:Ie (v.1.1.1,v.1.1.2.1,())with
 |none=>rw[hc]at e;cases e
 |some q=>
  rw[hc]at e;simp only[Option.bind_some]at e;by_cases hg:(0:Int)<=(v.1.1.1.length:Int)/\(v.1.1.1.length:Int)<=(v.1.1.1.length:Int)/\(v.1.1.1.length:Int)<=(Go.M.CN:Int)
  ·rw[if_pos hg]at e
   rw[if_pos hg];unfold W13;rw[hc];exact e
  ·rw[if_neg hg]at e
   cases e)
theorem ASV:S7 []:=Je (by delta YV;intros;kernel_rfl)
theorem ASZ:S7 (false::[]):=uI (by delta B13;intros;kernel_rfl)
theorem ASG:S7 (false::false::[]):=Je (by delta YV;intros;kernel_rfl)
theorem ATj(ω:List Bool):S7 (false::false::false::ω):=uI (by delta B13;intros;kernel_rfl)
theorem AU0:S7 (false::false::true::[]):=Je (by delta YV;intros;kernel_rfl)
theorem AS0:S7 (false::false::true::false::[]):=Je (by delta YV;intros;kernel_rfl)
theorem ATp:S7 (false::false::true::false::false::[]):=Je (by delta YV;intros;kernel_rfl)
theorem ASl(ω:List Bool):S7 (false::false::true::false::false::false::ω):=Je (by delta YV;intros;kernel_rfl)
theorem AUq(ω:List Bool):S7 (false::false::true::false::false::true::ω):=Je (by delta YV;intros;kernel_rfl)
theorem AOb(ω:List Bool):S7 (false::false::true::false::true::ω):=Je (by delta YV;intros;kernel_rfl)
theorem ANU(ω:List Bool):S7 (false::false::true::true::ω):=Je (by delta YV;intros;kernel_rfl)
theorem AN2:S7 (false::true::[]):=uI (by delta B13;intros;kernel_rfl)
theorem AMu(ω:List Bool):S7 (false::true::false::ω):=uI (by delta B13;intros;kernel_rfl)
theorem AMi:S7 (false::true::true::[]):=uI (by delta B13;intros;kernel_rfl)
theorem AQc(ω:List Bool):S7 (false::true::true::false::ω):=uI (by delta B13;intros;kernel_rfl)
theorem AQj:S7 (false::true::true::true::[]):=uI (by delta B13;intros;kernel_rfl)
theorem AQ1(ω:List Bool):S7 (false::true::true::true::false::ω):=uI (by delta B13;intros;kernel_rfl)
theorem AQi:S7 (false::true::true::true::true::[]):=uI (by delta B13;intros;kernel_rfl)
theorem ANq(ω:List Bool):S7 (false::true::true::true::true::false::ω):=uI (by delta B13;intros;kernel_rfl)
theorem ANo(ω:List Bool):S7 (false::true::true::true::true::true::ω):=uI (by delta B13;intros;kernel_rfl)
theorem AN5:S7 (true::[]):=Je (by delta YV;intros;kernel_rfl)
theorem AMm:S7 (true::false::[]):=Je (by delta YV;intros;kernel_rfl)
theorem AMz:S7 (true::false::false::[]):=Je (by delta YV;intros;kernel_rfl)
theorem AQS:S7 (true::false::false::false::[]):=Je (by delta YV;intros;kernel_rfl)
theorem AQb:S7 (true::false::false::false::false::[]):=Je (by delta YV;intros;kernel_rfl)
theorem ANm(ω:List Bool):S7 (true::false::false::false::false::false::ω):=Je (by delta YV;intros;kernel_rfl)
theorem APt(ω:List Bool):S7 (true::false::false::false::false::true::ω):=Je (by delta YV;intros;kernel_rfl)
theorem ANu(ω:List Bool):S7 (true::false::false::false::true::ω):=Je (by delta YV;intros;kernel_rfl)
theorem AP0(ω:List Bool):S7 (true::false::false::true::ω):=Je (by delta YV;intros;kernel_rfl)
theorem ANc:S7 (true::false::true::[]):=Je (by delta YV;intros;kernel_rfl)
theorem ANR:S7 (true::false::true::false::[]):=Je (by delta YV;intros;kernel_rfl)
theorem AMw:S7 (true::false::true::false::false::[]):=Je (by delta YV;intros;kernel_rfl)
theorem AP3:S7 (true::false::true::false::false::false::[]):=Je (by delta YV;intros;kernel_rfl)
theorem AQR(ω:List Bool):S7 (true::false::true::false::false::false::false::ω):=Je (by delta YV;intros;kernel_rfl)
theorem AMl(ω:List Bool):S7 (true::false::true::false::false::false::true::ω):=Je (by delta YV;intros;kernel_rfl)
theorem AMo(ω:List Bool):S7 (true::false::true::false::false::true::ω):=Je (by delta YV;intros;kernel_rfl)
theorem AQT:S7 (true::false::true::false::true::[]):=Je (by delta YV;intros;kernel_rfl)
theorem AQ3:S7 (true::false::true::false::true::false::[]):=Je (by delta YV;intros;kernel_rfl)
theorem AQo:S7 (true::false::true::false::true::false::false::[]):=Je (by delta YV;intros;kernel_rfl)
theorem AQ4(ω:List Bool):S7 (true::false::true::false::true::false::false::false::ω):=Je (by delta YV;intros;kernel_rfl)
theorem AOW(ω:List Bool):S7 (true::false::true::false::true::false::false::true::ω):=Je (by delta YV;intros;kernel_rfl)
theorem APH:S7 (true::false::true::false::true::false::true::[]):=Je (by delta YV;intros;kernel_rfl)
theorem APG(ω:List Bool):S7 (true::false::true::false::true::false::true::false::ω):=Je (by delta YV;intros;kernel_rfl)
theorem AO0(ω:List Bool):S7 (true::false::true::false::true::false::true::true::ω):=Je (by delta YV;intros;kernel_rfl)
theorem AQv:S7 (true::false::true::false::true::true::[]):=Je (by delta YV;intros;kernel_rfl)
theorem AOa(ω:List Bool):S7 (true::false::true::false::true::true::false::ω):=Je (by delta YV;intros;kernel_rfl)
theorem APk(ω:List Bool):S7 (true::false::true::false::true::true::true::ω):=Je (by delta YV;intros;kernel_rfl)
theorem AOj:S7 (true::false::true::true::[]):=Je (by delta YV;intros;kernel_rfl)
theorem ANQ(ω:List Bool):S7 (true::false::true::true::false::ω):=Je (by delta YV;intros;kernel_rfl)
theorem ANh:S7 (true::false::true::true::true::[]):=Je (by delta YV;intros;kernel_rfl)
theorem APO(ω:List Bool):S7 (true::false::true::true::true::false::ω):=Je (by delta YV;intros;kernel_rfl)
theorem AQz(ω:List Bool):S7 (true::false::true::true::true::true::ω):=Je (by delta YV;intros;kernel_rfl)
theorem AQM:S7 (true::true::[]):=Je (by delta YV;intros;kernel_rfl)
theorem AOk(ω:List Bool):S7 (true::true::false::ω):=Je (by delta YV;intros;kernel_rfl)
theorem AOo:S7 (true::true::true::[]):=Je (by delta YV;intros;kernel_rfl)
theorem ANZ(ω:List Bool):S7 (true::true::true::false::ω):=Je (by delta YV;intros;kernel_rfl)
theorem AOq:S7 (true::true::true::true::[]):=Je (by delta YV;intros;kernel_rfl)
theorem APC(ω:List Bool):S7 (true::true::true::true::false::ω):=Je (by delta YV;intros;kernel_rfl)
theorem ANt(ω:List Bool):S7 (true::true::true::true::true::ω):=Je (by delta YV;intros;kernel_rfl)
def s13:SQ:=AYp tOk mx Tryz.func13 i13 o13 Du [s34,s35,s36] [(1,[0,1])] L13 AW (by kernel_rfl) (by kernel_rfl) (by kernel_rfl) .nil (AE ASV (AE ASZ (AE ASG ATj (AE AU0 (AE AS0 (AE ATp ASl AUq) AOb) ANU)) (AE AN2 AMu (AE AMi AQc (AE AQj AQ1 (AE AQi ANq ANo))))) (AE AN5 (AE AMm (AE AMz (AE AQS (AE AQb ANm APt) ANu) AP0) (AE ANc (AE ANR (AE AMw (AE AP3 AQR AMl) AMo) (AE AQT (AE AQ3 (AE AQo AQ4 AOW) (AE APH APG AO0)) (AE AQv AOa APk))) (AE AOj ANQ (AE ANh APO AQz)))) (AE AQM AOk (AE AOo ANZ (AE AOq APC ANt)))))
abbrev i74:Bb:=ADm
abbrev o74:Bb:=AGr
def s74:SQ:=mk Tryz.func74 i74 o74 ES [s66] [] [⟨3,⟨[(2,Im),(3,vA),(10,.c (.sl false Y3)),(11,BA),(12,BA)],[ANf,aT,.mem [.ref 3,.v tI],aT]⟩,H3⟩]
def AU7:SQ:=mk Tryz.func151 AD1 AAt Ja [] [] []
def s75:SQ:=mk Tryz.func75 qb AHQ C_ [AU7] [(1,[0])] []
abbrev i76:Bb:=AEf
abbrev o76:Bb:=AHB
def s76:SQ:=mk Tryz.func76 i76 o76 Fv [s66] [] [⟨3,⟨[(2,Im),(3,vA),(10,AJm),(11,BA),(12,BA)],ALL⟩,J3⟩]
def s77:SQ:=mk Tryz.func77 ABh AAU Gd [s66,AU7] [(2,[0,1]),(6,[0,1,2,3,5,6])] [⟨4,⟨[(2,Im),(3,ADk),(17,AKj),(18,BA),(19,BA)],AMa⟩,Lt⟩] (hJ:= .cons (fun _=>rfl) (fun n v ω=>by rcases ω with _|⟨_|_,_|⟨_|_,_⟩⟩<;>kernel_rfl) (.nil))
def s78:SQ:=mk Tryz.func78 xi ABX NQ [] [] []
def s37:SQ:=mk Tryz.func37 Te ALw Dm [s34,s66,s74,s75,s76,s77,s78] [(1,[0,1]),(5,[0,1,2,3,4,5,6,7,8,9,11,13,14,15,16,17,18,19]),(10,[0,1,2,3,4,5,6,7,8,9,11,12,13,14,16,17,18,19]),(15,[0,1,2,3,4,5,6,7,8,9,11,12,13,14,15,17,18,19]),(20,[0,1,2,3,4,5,6,7,8,9,11,12,13,14,15,16,18,19])] [⟨3,⟨[(1,Im),(2,cB),(3,jw),(25,AAo),(26,BA),(27,BA)],fq⟩,FR⟩,⟨8,⟨[(1,Im),(2,cB),(3,jw),(40,.c (.sl false Y6)),(41,BA),(42,BA)],fq⟩,FP⟩,⟨13,⟨[(1,Im),(2,cB),(3,jw),(55,.c (.sl false Y7)),(56,BA),(57,BA)],fq⟩,Er⟩,⟨18,⟨[(1,Im),(2,cB),(3,jw),(70,uj),(71,BA),(72,BA)],fq⟩,En⟩] (hJ:= .cons (fun _=>rfl) (fun n v ω=>by rcases ω with _|⟨_|_,_|⟨_|_,_⟩⟩<;>kernel_rfl) (.cons (fun _=>rfl) (fun n v ω=>by rcases ω with _|⟨_|_,_|⟨_|_,_⟩⟩<;>kernel_rfl) (.cons (fun _=>rfl) (fun n v ω=>by rcases ω with _|⟨_|_,_|⟨_|_,_⟩⟩<;>kernel_rfl) (.cons (fun _=>rfl) (fun n v ω=>by rcases ω with _|⟨_|_,_|⟨_|_,_⟩⟩<;>kernel_rfl) (.nil))))) (he:=fun ω v=>by rcases ω with _|⟨_|_,_|⟨_|_,_|⟨_|_,_⟩⟩⟩<;>kernel_rfl)
def AYY:SQ:=mk Tryz.func122 AD3 CA WE [] [] []
def s50:SQ:=mk Tryz.func50 Te CA RT [s36,AYY] [] [⟨2,AMY,Ej⟩,⟨6,⟨[(1,Im),(5,BA),(6,zj),(10,uj),(11,BA),(12,BA),(17,AHD),(18,BA),(19,BA)],fl⟩,HW⟩]
def AXz:SQ:=mk Tryz.func123 ABH xA ai [] [] [⟨2,⟨[(1,BA),(9,AF3),(10,BA),(11,BA)],[]⟩,Pe⟩]
def s51:SQ:=mk Tryz.func51 Te CA TB [s36,AXz] [] [⟨2,AMY,FY⟩,⟨5,⟨[(1,Im),(10,uj),(11,BA),(12,BA),(17,AHD),(18,BA),(19,BA)],fl⟩,Gg⟩]
def ATd:SQ:=mk Tryz.func124 AHF xA Vk [] [] [⟨2,⟨[(1,BA),(9,AHD),(10,BA),(11,BA)],[]⟩,T5⟩]
def ANH:SQ:=mk Tryz.func125 ⟨[(0,BA),(1,.row Y9)],[]⟩ CA I_ [ui,AJN] [(2,[0])] []
def s52:SQ:=mk Tryz.func52 Te CA Tf [s36,ATd,ANH] [] [⟨4,⟨[(1,Im),(19,uj),(20,BA),(21,BA)],fl⟩,FQ⟩,⟨7,⟨[(1,Im),(4,cB),(19,uj),(20,BA),(21,BA),(26,AF3),(27,BA),(28,BA)],[ACJ,AFE]⟩,Gi⟩]
def s53:SQ:=mk Tryz.func53 Te CA RZ [s36] [] [⟨4,⟨[(17,uj),(18,BA),(19,BA)],[]⟩,DZ⟩,⟨7,⟨[(17,uj),(18,BA),(19,BA),(24,AHD),(25,BA),(26,BA)],[]⟩,F5⟩]
def s54:SQ:=mk Tryz.func54 Te CA T4 [s36,ATd,ANH,ACR] [(9,[0,1]),(11,[0,1]),(12,[0,1])] [⟨4,⟨[(1,Im),(22,uj),(23,BA),(24,BA)],fl⟩,FW⟩,⟨7,⟨[(1,Im),(22,uj),(23,BA),(24,BA),(29,AHD),(30,BA),(31,BA)],fl⟩,Gu⟩]
def s20:SQ:=mk Tryz.func20 Te CA V6 [s50,s51,s52,s53,s54] [] []
def s56:SQ:=mk Tryz.func56 EZ Zk HA [AWD] [] []
def s55:SQ:=mk Tryz.func55 EZ Zk Ee [s56,ACR,ui,AJN] [] []
def s21:SQ:=mk Tryz.func21 AD3 Zk PZ [s55,s56] [(5,[0])] []
def s38:SQ:=mk Tryz.func38 xi Zk Ns [s21] [] []
def s81:SQ:=mk Tryz.func81 ⟨[],[]⟩ ⟨AEy,[.sl 9 .str]⟩ PJ [] [] []
def s82:SQ:=mk Tryz.func82 EZ Zk QE [] [] []
def ARi:SQ:=txP (nT (enters_of Tryz.func153 (by kernel_rfl) rfl) oh) rfl Kj (fun _=>rfl)
abbrev i228:Bb:=qY
abbrev AGh:Bb:=lK
def wN:SQ:=mk Tryz.func228 i228 AGh DR [AKw,ARx] [] []
def AYj:SQ:=mk Tryz.func154 Zk lK Pd [s55,s79,ARi,AXa,wN] [] []
def s83:SQ:=mk Tryz.func83 ⟨[(0,Im),(1,.c (.v tU)),(2,lT)],AHO⟩ ⟨[(0,lT)],AHO⟩ Mn [s79,ARi,AYj] [] []
def s85:SQ:=mk Tryz.func85 xB CA XD [s82,S6,AKA] [] [⟨4,⟨[(1,Im),(3,cB),(11,AFM),(12,BA),(13,BA)],AMd⟩,Dr⟩]
def AW8:SQ:=mk Tryz.func155 ⟨[(0,.row Y12),(1,.c (.v tU))],[]⟩ xA Tz [s55,s56,ACR,AX0] [(4,[0]),(6,[0])] []
def s84:SQ:=mk Tryz.func84 xB xA WK [s81,s82,s85,AW8] [(3,[0])] [⟨5,⟨[(1,Im),(4,lT),(21,xP9),(22,BA),(23,BA)],[rR,.sl 9 tU]⟩,Jd⟩]
def s39:SQ:=mk Tryz.func39 Zk ALK TK [s79,s80,s81,s82,s83,s84] [] [⟨6,⟨[(0,lT),(2,Im),(5,lT),(7,cB),(30,AFM),(31,BA),(32,BA)],AMd⟩,IH⟩]
abbrev ACG:Bb:=EZ
abbrev AJ4:Bb:=iM
def AJr:SQ:=mk Tryz.func231 ACG AJ4 IB [S6] [] [⟨5,⟨[(0,BA),(3,Zi),(10,BA)],ji⟩,K8⟩]
abbrev AP6:Bb:=AId
abbrev ATq:Bb:=AGr
def AKb:SQ:=mk Tryz.func257 AP6 ATq EL [s69,s74] [] []
abbrev zL:Bb:=ALd
abbrev AJz:Bb:=ALO
def AS6:RU:=⟨zL,AJz,(zL.un Mj)⟩
def AZZ:eD:=⟨T,Ul (SP.l [s66,s69,s74,wO,AKb]),Cj [(4,[0,1,2])]⟩
def AOm:List (Lp AJz):=[]
theorem AW4(g66:List Int->Option fp)(g69:ABx->AB4->Option Td)(g74:AB4->Option Iq)(AU6:ABx->List Int->Option lq)(AJX:ABx->AB4->Option fi)(n:Nat)(ω:List Bool)(v:zL.V):DO ⟨T,Ul [(66,⟨i66,o66,i66.un g66⟩),(69,⟨i69,o69,i69.un g69⟩),(74,⟨i74,o74,i74.un g74⟩),(143,⟨i143,AVF,i143.un AU6⟩),(257,⟨AP6,ATq,AP6.un AJX⟩)],Cj [(4,[0,1,2])]⟩ AS6 Tryz.f230 (Og 0 AOm n) ω v=zL.un (fun(p0:ABx) (p1:AB4) (p2:AAA)=>
 (g69 (p0.1,p0.2.1,()) (p1.1,p1.2.1,())).bind fun u1=>
 cond (!u1.1.1)
  ((AJX (p0.1,p0.2.1,()) (p1.1,p1.2.1,())).bind fun u2=>
  some (((((),u2.1.1.2.1,()),0,false,()),()),(u2.2.1,())))
 ((AU6 (p0.1,p0.2.1,()) p2).bind fun u3=>
 cond (!u3.1.1)
  ((AJX (p0.1,p0.2.1,()) (p1.1,p1.2.1,())).bind fun u4=>
  some (((((),u4.1.1.2.1,()),0,false,()),()),(u4.2.1,())))
 (cond (((p1.1.length:Int)==30))
  ((AJX (p0.1,p0.2.1,()) (p1.1,p1.2.1,())).bind fun u6=>
  some (((((),u6.1.1.2.1,()),0,false,()),()),(u6.2.1,())))
 ((g74 (p1.1,p1.2.1,())).bind fun u7=>
 (g66 p2).bind fun u8=>
 if u7.2.1.length+1<=Go.M.CN then(
 let x9:AAf:=u7.2.1++[(u8.2.1,false,0,())]
 some (((((),u7.1.1.2.1,()),(x9.length:Int),true,()),()),(x9,())))else none)))) v:=by rcases ω with _|⟨_|_,_|⟨_|_,_|⟨_|_,_|⟨_|_,_⟩⟩⟩⟩<;>kernel_rfl
theorem AZ7(n:Nat)(ω:List Bool)(v:zL.V):DO AZZ AS6 Tryz.f230 (Og 0 AOm n) ω v=zL.un (Mj) v:=AW4 DD LL ES Gr EL n ω v
def ATx:SQ:=mk Tryz.func230 zL AJz Mj [s66,s69,s74,wO,AKb] [(4,[0,1,2])] AOm (hJ:= .nil) (he:=AZ7 AW)
abbrev AC9:Bb:=wz
abbrev ANV:Bb:=⟨rj,[.mem [.ref 1,.v tI,.ref 2,.ref 3,.ref 9,.v tI,.ref 10,.ref 11,.ref 7,.ref 8,.v .bool],DT,Yn,DT,Qu,Qu,Qu,P5,LN,Me,Vm,Uk]⟩
def c156:RU:=⟨AC9,ANV,(AC9.un Kc)⟩
def AXv:eD:=⟨T,Ul (SP.l [ATx,AJr]),Cj [(3,[0,1,2,3,4,5,6,7,8])]⟩
def AMs:List (Lp ANV):=[]
theorem AZD(AU4:ABx->AB4->List Int->Option gw)(ADb:Int->Option HY)(n:Nat)(ω:List Bool)(v:AC9.V):DO ⟨T,Ul [(230,⟨zL,AJz,zL.un AU4⟩),(231,⟨ACG,AJ4,ACG.un ADb⟩)],Cj [(3,[0,1,2,3,4,5,6,7,8])]⟩ c156 Tryz.f156 (Og 9 AMs n) ω v=AC9.un (fun(p1:Int) (AF:Int) (AO:Int) (AH:Bool) (b1:AAA) (b2:AAd) (b3:AAA) (b4:AAf) (b5:ABE) (b6:ABI) (b7:AAs) (b8:AA8)=>
 cond (((b5.length:Int)==4))
  (some ((4,()),(((),AF,(),(),(),AO,(),(),(),(),AH,()),b1,b2,b3,(),(),(),b7,b8,b4,b5,b6,())))
 ((ADb p1).bind fun u2=>
 (AU4 (b1,AF,()) (b4,AO,()) u2.2.1).bind fun u3=>
 cond (!u3.1.1.2.2.1)
  (some ((4,()),(((),AF,(),(),(),AO,(),(),(),(),AH,()),b1,b2,b3,(),(),(),b7,b8,b4,b5,b6,())))
 (if b5.length+1<=Go.M.CN then(
 some ((0,()),(((),AF,(),(),(),u3.1.1.1.2.1,(),(),(),(),AH,()),b1,b2,b3,(),(),(),b7,b8,u3.2.1,(b5++[(u3.1.1.2.1,[],())]),[],())))else none))) v:=by rcases ω with _|⟨_|_,_|⟨_|_,_⟩⟩<;>kernel_rfl
theorem AXX(n:Nat)(ω:List Bool)(v:AC9.V):DO AXv c156 Tryz.f156 (Og 9 AMs n) ω v=AC9.un (Kc) v:=AZD Mj IB n ω v
def AW1:SQ:=mk Tryz.func156 AC9 ANV Kc [ATx,AJr] [(3,[0,1,2,3,4,5,6,7,8])] AMs (hJ:= .nil) (he:=AXX AW)
abbrev AOt:Bb:=AHV
abbrev ATK:Bb:=AHB
def AN8:SQ:=mk Tryz.func308 AOt ATK EH [s76,AFN] [] []
abbrev i232:Bb:=AMR
abbrev AKE:Bb:=ALj
def c232:RU:=⟨i232,AKE,(i232.un J2)⟩
def AWd:eD:=⟨T,Ul (SP.l [s76,AFN,AN8]),Cj []⟩
def AQy:List (Lp AKE):=[]
theorem AXK(g76:AB5->Option Kk)(APA:ABx->AB5->Option Nh)(AOf:ABx->AB5->Option aA)(n:Nat)(ω:List Bool)(v:i232.V):DO ⟨T,Ul [(76,⟨i76,o76,i76.un g76⟩),(145,⟨i145,ASj,i145.un APA⟩),(308,⟨AOt,ATK,AOt.un AOf⟩)],Cj []⟩ c232 Tryz.f232 (Og 0 AQy n) ω v=i232.un (fun(p0:ABx) (p1:AB5) (p2:ABF)=>
 (g76 (p1.1,p1.2.1,())).bind fun u1=>
 if u1.2.1.length+1<=Go.M.CN then(
 let x2:AB3:=u1.2.1++[(p2,[],false,())]
 (APA (p0.1,p0.2.1,()) (p1.1,p1.2.1,())).bind fun u3=>
 cond (!u3.1.1)
  ((AOf (p0.1,p0.2.1,()) (p1.1,p1.2.1,())).bind fun u4=>
  some ((((u4.1.1.1,(),()),0,false,()),()),(u4.2.1,())))
 ((APA (p0.1,p0.2.1,()) (u1.1.1.1,x2,())).bind fun u5=>
 cond (!u5.1.1)
  ((AOf (p0.1,p0.2.1,()) (p1.1,p1.2.1,())).bind fun u6=>
  some ((((u6.1.1.1,(),()),0,false,()),()),(u6.2.1,())))
 (some ((((u1.1.1.1,(),()),(x2.length:Int),true,()),()),(x2,())))))else none) v:=by rcases ω with _|⟨_|_,_|⟨_|_,_⟩⟩<;>kernel_rfl
theorem AWy(n:Nat)(ω:List Bool)(v:i232.V):DO AWd c232 Tryz.f232 (Og 0 AQy n) ω v=i232.un (J2) v:=AXK Fv GW EH n ω v
def ARr:SQ:=mk Tryz.func232 i232 AKE J2 [s76,AFN,AN8] [] AQy (hJ:= .nil) (he:=AWy AW)
def AY7:SQ:=mk Tryz.func310 ⟨[(0,.row Y10),(1,BA)],[]⟩ EZ LV [] [] []
def AX3:SQ:=mk Tryz.func309 ⟨[(0,AF3),(1,BA),(2,.c (.fn 310 []))],[]⟩ lK BU [AY7] [] [⟨3,⟨[(0,AF3),(1,BA),(2,.c (.fn 310 [])),(8,BA),(9,BA),(10,BA)],[]⟩,As⟩]
abbrev i233:Bb:=AER
abbrev AT6:Bb:=lK
def AO1:SQ:=mk Tryz.func233 i233 AT6 IZ [AX3] [] []
abbrev i157:Bb:=⟨[(0,Im),(1,BA),(2,lT)],jm⟩
abbrev ANs:Bb:=⟨rj,[.mem [.ref 1,.v tI,.ref 2,.ref 3,.ref 4,.v tI,.ref 5,.ref 6,.ref 7,.ref 9,.v .bool],DT,Yn,DT,Me,Vm,Uk,P5,Qu,LN]⟩
def c157:RU:=⟨i157,ANs,(i157.un L5)⟩
def AYi:eD:=⟨T,Ul (SP.l [S6,wN,ARr,AO1,AUy]),Cj [(3,[0,1,2,3,4,5,6,7,8]),(8,[0,1,2,3,4,6,7,8])]⟩
def AOl:List (Lp ANs):=[]
theorem AXe(mE:Int->Int->Int->Option N2)(wR:Int->Int->Option Lx)(AT5:ABx->AB5->List UInt8->Option da)(AVU:AB0->Int->Option Xy)(AS4:Int->AA8->AA8->Option JD)(n:Nat)(ω:List Bool)(v:i157.V):DO ⟨T,Ul [(139,⟨i139,AFF,i139.un mE⟩),(228,⟨i228,AGh,i228.un wR⟩),(232,⟨i232,AKE,i232.un AT5⟩),(233,⟨i233,AT6,i233.un AVU⟩),(234,⟨i234,AWE,i234.un AS4⟩)],Cj [(3,[0,1,2,3,4,5,6,7,8]),(8,[0,1,2,3,4,6,7,8])]⟩ c157 Tryz.f157 (Og 9 AOl n) ω v=i157.un (fun(p1:Int) (p2:ABF) (AF:Int) (AO:Int) (AH:Bool) (b1:AAA) (b2:AAd) (b3:AAA) (b4:AAf) (b5:ABE) (b6:ABI) (b7:AAs) (b8:AA8)=>
 (mE p1 0 (AQ ((b5.length:Int)-1))).bind fun u2=>
 cond (!u2.1.1)
  (some ((2,()),(((),AF,(),(),(),AO,(),(),(),(),AH,()),b1,b2,b3,b4,b5,b6,b7,(),b8,())))
 (if(0:Int)<=p1/\p1<(b5.length:Int)then(
 (AT5 (b1,AF,()) ((b5.getD (p1.toNat) (0,[],())).1,(b5.getD (p1.toNat) (0,[],())).2.1,()) p2).bind fun u3=>
 (wR u3.1.1.1.1 u3.1.1.2.1).bind fun u4=>
 (AVU (b1,AF,b2,b3,b4,AO,b5,b6,b7,b8,AH,()) u4.1.1.1).bind fun u5=>
 cond (!u3.1.1.2.2.1)
  (some ((4,()),(((),AF,(),(),(),AO,(),(),(),(),AH,()),b1,b2,b3,b4,b5,b6,b7,(),b8,())))
 (cond (((b8.length:Int)==120))
  (some ((4,()),(((),AF,(),(),(),AO,(),(),(),(),AH,()),b1,b2,b3,b4,b5,b6,b7,(),b8,())))
 (cond (u5.1.1.2.1)
  (some ((4,()),(((),AF,(),(),(),AO,(),(),(),(),AH,()),b1,b2,b3,b4,b5,b6,b7,(),b8,())))
 (if(0:Int)<=p1/\p1<(b5.length:Int)then(
 (AS4 u5.1.1.1 [(u4.1.1.1,p2,false,())] b8).bind fun u8=>
 some ((0,()),(((),AF,(),(),(),AO,(),(),(),(),AH,()),b1,b2,b3,b4,(b5.set (p1.toNat) (u3.1.1.1.1,u3.2.1,())),b6,b7,(),u8.2.2.1,())))else none))))else none)) v:=by rcases ω with _|⟨_|_,_⟩<;>kernel_rfl
theorem AZF(n:Nat)(ω:List Bool)(v:i157.V):DO AYi c157 Tryz.f157 (Og 9 AOl n) ω v=i157.un (L5) v:=AXe A_ DR J2 IZ EE n ω v
def AX8:SQ:=mk Tryz.func157 i157 ANs L5 [S6,wN,ARr,AO1,AUy] [(3,[0,1,2,3,4,5,6,7,8]),(8,[0,1,2,3,4,6,7,8])] AOl (hJ:= .nil) (he:=AZF AW)
def AIV:SQ:=mk Tryz.func237 AER EZ EP [S6,AFc] [] []
abbrev APU:Bb:=AMW
abbrev ATU:Bb:=iM
def AJw:SQ:=mk Tryz.func240 APU ATU JJ [s66,S6] [] []
abbrev AGR:Bb:=⟨[(0,ABt),(1,BA),(2,BA)],[]⟩
abbrev AQt:Bb:=EZ
def AI5:SQ:=mk Tryz.func235 AGR AQt Df [AIV,ACI,AJw] [] []
def AKB:SQ:=mk Tryz.func317 qb AHQ Dj [s75,yy] [] []
def AWV:SQ:=mk Tryz.func313 AGU wt WD [s75,ui,yy,AKL,AKB] [(3,[0,1,2])] []
abbrev AGw:Bb:=CA
abbrev APP:Bb:=EZ
def AAj:SQ:=mk Tryz.func169 AGw APP KX [] [] []
abbrev i236:Bb:=⟨[(0,Im),(1,BA),(2,.row Y1)],jm⟩
abbrev ASC:Bb:=uz
def ANy:SQ:=mk Tryz.func236 i236 ASC L0 [AAj,AWV] [(1,[0,1,2,3,4,5,6,7,8,9]),(3,[0,1,3,4,5,6,7,8,9])] [] (he:=fun ω v=>by rcases ω with _|⟨_|_,_⟩<;>kernel_rfl)
abbrev ACt:Bb:=AMH
abbrev AOr:Bb:=uz
def AUx:RU:=⟨ACt,AOr,(ACt.un Jf)⟩
def AW6:eD:=⟨T,Ul (SP.l [S6,wN,AI5,ANy]),Cj [(1,[0,1,2,3,4,5,6,7,8,9]),(3,[0,1,2,3,4,5,6,7,8,9]),(10,[9,10])]⟩
def AMy:List (Lp AOr):=[]
theorem AZp(mE:Int->Int->Int->Option N2)(wR:Int->Int->Option Lx)(AIc:AB0->Int->Int->Option MS)(AVE:Int->AEe->Int->Int->Bool->List Int->AAd->List Int->AAf->ABE->ABI->AAs->AA8->Option dE)(n:Nat)(ω:List Bool)(v:ACt.V):DO ⟨T,Ul [(139,⟨i139,AFF,i139.un mE⟩),(228,⟨i228,AGh,i228.un wR⟩),(235,⟨AGR,AQt,AGR.un AIc⟩),(236,⟨i236,ASC,i236.un AVE⟩)],Cj [(1,[0,1,2,3,4,5,6,7,8,9]),(3,[0,1,2,3,4,5,6,7,8,9]),(10,[9,10])]⟩ AUx Tryz.f158 (Og 9 AMy n) ω v=ACt.un (fun(p1:ADJ) (AF:Int) (AO:Int) (AH:Bool) (b1:AAA) (b2:AAd) (b3:AAA) (b4:AAf) (b5:ABE) (b6:ABI) (b7:AAs) (b8:AA8)=>
 (mE p1.2.1 0 (AQ ((b5.length:Int)-1))).bind fun u2=>
 cond (!u2.1.1)
  (some ((2,()),(((),AF,(),(),(),AO,(),(),(),(),AH,()),b1,b2,b3,b4,b5,b6,b7,b8,())))
 (if(0:Int)<=p1.2.1/\p1.2.1<(b5.length:Int)then(
 (mE p1.2.2.1 1 (((b5.getD (p1.2.1.toNat) (0,[],())).2.1).length:Int)).bind fun u4=>
 cond (!u4.1.1)
  (some ((2,()),(((),AF,(),(),(),AO,(),(),(),(),AH,()),b1,b2,b3,b4,b5,b6,b7,b8,())))
 ((AIc (b1,AF,b2,b3,b4,AO,b5,b6,b7,b8,AH,()) p1.2.2.2.1 ((b5.getD (p1.2.1.toNat) (0,[],())).1)).bind fun u6=>
 cond (u6.1.1 !=0)
  (some ((u6.1.1,()),(((),AF,(),(),(),AO,(),(),(),(),AH,()),b1,b2,b3,b4,b5,b6,b7,b8,())))
 ((wR ((b5.getD (p1.2.1.toNat) (0,[],())).1) p1.2.2.1).bind fun u8=>
 if(0:Int)<=AQ (p1.2.2.1-1)/\AQ (p1.2.2.1-1)<(((b5.getD (p1.2.1.toNat) (0,[],())).2.1).length:Int)then(
 (AVE p1.2.2.2.1 (u8.1.1.1,0,false,((((b5.getD (p1.2.1.toNat) (0,[],())).2.1).getD ((AQ (p1.2.2.1-1)).toNat) ([],[],false,())).1),()) AF AO AH b1 b2 b3 b4 b5 b6 b7 b8).bind fun Dk=>
 some ((Dk.1.1,()),(((),Dk.2.1.2.1,(),(),(),Dk.2.1.2.2.2.2.2.1,(),(),(),(),Dk.2.1.2.2.2.2.2.2.2.2.2.2.1,()),Dk.2.2.1,Dk.2.2.2.1,Dk.2.2.2.2.1,Dk.2.2.2.2.2.1,Dk.2.2.2.2.2.2.1,Dk.2.2.2.2.2.2.2.1,Dk.2.2.2.2.2.2.2.2.1,Dk.2.2.2.2.2.2.2.2.2.1,())))else none)))else none)) v:=by kernel_rfl
theorem AW7(n:Nat)(ω:List Bool)(v:ACt.V):DO AW6 AUx Tryz.f158 (Og 9 AMy n) ω v=ACt.un (Jf) v:=AZp A_ DR Df L0 n ω v
def AXA:SQ:=mk Tryz.func158 ACt AOr Jf [S6,wN,AI5,ANy] [(1,[0,1,2,3,4,5,6,7,8,9]),(3,[0,1,2,3,4,5,6,7,8,9]),(10,[9,10])] AMy (hJ:= .nil) (he:=AW7 AW)
def AaF:SQ:=mk Tryz.func367 ⟨[(0,.row Y1),(1,BA)],[]⟩ EZ To [] [] []
def AXm:SQ:=mk Tryz.func366 ⟨[(0,aS),(1,BA),(2,.c (.fn 367 []))],[]⟩ lK CJ [AaF] [] [⟨3,⟨[(0,aS),(1,BA),(2,.c (.fn 367 [])),(8,BA),(9,BA),(10,BA)],[]⟩,Ay⟩]
def AU1:SQ:=mk Tryz.func326 AHC lK UK [AXm] [] []
def ATy:SQ:=mk Tryz.func360 ALX ALq Sd [] [] []
def APo:SQ:=mk Tryz.func318 ⟨[(0,Zi),(1,.row Y1)],xK⟩ AMP Yy [AU1,AZ3,ATy] [(4,[1])] []
def AUj:SQ:=mk Tryz.func243 m_ AD7 NP [s75,S6,yy,AKB,APo] [] [⟨6,⟨[(1,BA),(2,Im),(4,cB),(6,ADk),(23,aS),(24,BA),(25,BA)],[AP4,AJa,Nf,Nf,AN1,.sl 1 Y1,Nf]⟩,J_⟩]
def AVP:SQ:=mk Tryz.func238 qb AD7 Pz [AUj] [] []
abbrev y_:Bb:=m_
abbrev AIB:Bb:=AA2
def AIN:SQ:=mk Tryz.func258 y_ AIB GZ [yy,AU1] [] []
def AJf:SQ:=mk Tryz.func244 qG AGg K_ [s66,AYe,AYZ] [] []
def AaS:SQ:=mk Tryz.func315 ALB ALe UY [s76,S6,wO,AFN,AJf,AN8] [(6,[0,1,2,4])] []
def AWr:SQ:=mk Tryz.func241 AED AMA OE [wN,AO1,AIN,AaS] [(6,[0,1,2,3,4,6,7,8,9])] [⟨1,AH8,C3⟩]
abbrev AIh:Bb:=AMG
abbrev AN4:Bb:=AA2
def AM8:SQ:=mk Tryz.func254 AIh AN4 J0 [wN] [] [⟨5,⟨[(2,Im),(4,cB),(6,BA),(33,aS),(34,BA),(35,BA)],[ACq,AFC]⟩,K3⟩]
def ANY:SQ:=mk Tryz.func324 AAe AAU Em [s77,AC1] [] []
abbrev AH5:Bb:=ALG
abbrev AQL:Bb:=AMQ
def AT4:SQ:=mk Tryz.func316 AH5 AQL QZ [s77,S6,AC1,AJf,ANY] [(4,[0,1,2,3,4,6])] []
abbrev ACn:Bb:=AED
abbrev AOS:Bb:=AMA
def AJ1:RU:=⟨ACn,AOS,(ACn.un LU)⟩
def AS8:eD:=⟨T,Ul (SP.l [AM8,AIN,AT4]),Cj [(4,[0,1,2,3,4,5,6,7,8,9]),(6,[0,1,2,3,4,5,7,8,9,10])]⟩
def AHK:List (Lp AOS):=[⟨1,AH8,Ba⟩]
abbrev nW:Bb:=AH8
theorem AOA(AKR:AB1->Int->Option Jj)(zP:ADA->Int->Option NV)(AKG:ABx->AB1->Int->Int->Option ZK)(n:Nat)(v:nW.V)(ω:List Bool):LM ⟨T,Ul [(254,⟨AIh,AN4,AIh.un AKR⟩),(258,⟨y_,AIB,y_.un zP⟩),(316,⟨AH5,AQL,AH5.un AKG⟩)],Cj [(4,[0,1,2,3,4,5,6,7,8,9]),(6,[0,1,2,3,4,5,7,8,9,10])]⟩ AJ1 Tryz.f242 (Og 9 AHK n) 1 ω (nW.st 81 v)=nW.un (fun(t1:Int) (t2:Int) (t6:Int) (AF:Int) (AO:Int) (AH:Bool) (b1:AAA) (b2:AAd) (b3:AAA) (b4:AAf) (b5:ABE) (b6:ABI) (b7:AAs) (b8:AA8)=>
 if(0:Int)<=t1/\t1<(b6.length:Int)then(
 cond (decide (t6<=(((b6.getD (t1.toNat) (0,0,[],[],false,[],())).2.2.2.2.2.1).length:Int)))
  (if(0:Int)<=t1/\t1<(b6.length:Int)then(
  (AKR ((b6.getD (t1.toNat) (0,0,[],[],false,[],())).1,(b6.getD (t1.toNat) (0,0,[],[],false,[],())).2.1,(b6.getD (t1.toNat) (0,0,[],[],false,[],())).2.2.1,(b6.getD (t1.toNat) (0,0,[],[],false,[],())).2.2.2.1,(b6.getD (t1.toNat) (0,0,[],[],false,[],())).2.2.2.2.1,(b6.getD (t1.toNat) (0,0,[],[],false,[],())).2.2.2.2.2.1,()) t6).bind fun u2=>
  if(0:Int)<=t2/\t2<(b2.length:Int)then(
  (zP ((b2.getD (t2.toNat) ([],[],0,())).1,(b2.getD (t2.toNat) ([],[],0,())).2.1,(b2.getD (t2.toNat) ([],[],0,())).2.2.1,()) u2.1.1.1.1).bind fun u3=>
  cond (u2.1.1.2.1)
   (cond (u3.1.1.2.1)
    (cond (((u3.1.1.1.1==u2.1.1.1.1)&&((u3.1.1.1.2.1==u2.1.1.1.2.1)&&((u3.1.1.1.2.2.1==u2.1.1.1.2.2.1)&&((u3.1.1.1.2.2.2.1==u2.1.1.1.2.2.2.1)&&true)))))
     (if(0:Int)<=t1/\t1<(b6.length:Int)then(
     (AKG (b1,AF,()) ((b6.getD (t1.toNat) (0,0,[],[],false,[],())).1,(b6.getD (t1.toNat) (0,0,[],[],false,[],())).2.1,(b6.getD (t1.toNat) (0,0,[],[],false,[],())).2.2.1,(b6.getD (t1.toNat) (0,0,[],[],false,[],())).2.2.2.1,(b6.getD (t1.toNat) (0,0,[],[],false,[],())).2.2.2.2.1,(b6.getD (t1.toNat) (0,0,[],[],false,[],())).2.2.2.2.2.1,()) t6 t2).bind fun u5=>
     if(0:Int)<=t1/\t1<(b6.length:Int)then(
     (Ba n) t1 t2 (AQ (t6+1)) AF AO AH b1 b2 b3 b4 b5 (b6.set (t1.toNat) (u5.1.1.1.1,u5.1.1.1.2.1,u5.2.1,u5.2.2.1,u5.1.1.1.2.2.2.2.1,u5.2.2.2.1,())) b7 b8)else none)else none)
    ((Ba n) t1 t2 (AQ (t6+1)) AF AO AH b1 b2 b3 b4 b5 b6 b7 b8))
   ((Ba n) t1 t2 (AQ (t6+1)) AF AO AH b1 b2 b3 b4 b5 b6 b7 b8))
  ((Ba n) t1 t2 (AQ (t6+1)) AF AO AH b1 b2 b3 b4 b5 b6 b7 b8))else none)else none)
 (some (((()),()),(((),AF,(),(),(),AO,(),(),(),(),AH,()),b1,b2,b3,b4,b5,b6,b7,b8,()))))else none) v:=by rcases ω with _|⟨_|_,_⟩<;>kernel_rfl
theorem AOd(n:Nat)(v:nW.V)(ω:List Bool):LM AS8 AJ1 Tryz.f242 (Og 9 AHK n) 1 ω (nW.st 81 v)=nW.un (HI (Ba n)) v:=AOA J0 GZ QZ n v ω
theorem AYd(AKR:AB1->Int->Option Jj)(zP:ADA->Int->Option NV)(AKG:ABx->AB1->Int->Int->Option ZK)(n:Nat)(ω:List Bool)(v:ACn.V):DO ⟨T,Ul [(254,⟨AIh,AN4,AIh.un AKR⟩),(258,⟨y_,AIB,y_.un zP⟩),(316,⟨AH5,AQL,AH5.un AKG⟩)],Cj [(4,[0,1,2,3,4,5,6,7,8,9]),(6,[0,1,2,3,4,5,7,8,9,10])]⟩ AJ1 Tryz.f242 (Og 9 AHK n) ω v=ACn.un (fun(p1:Int) (p2:Int) (AF:Int) (AO:Int) (AH:Bool) (b1:AAA) (b2:AAd) (b3:AAA) (b4:AAf) (b5:ABE) (b6:ABI) (b7:AAs) (b8:AA8)=>
 (Ba n) p1 p2 1 AF AO AH b1 b2 b3 b4 b5 b6 b7 b8) v:=by kernel_rfl
theorem AYI(n:Nat)(ω:List Bool)(v:ACn.V):DO AS8 AJ1 Tryz.f242 (Og 9 AHK n) ω v=ACn.un (KR (Ba n)) v:=AYd J0 GZ QZ n ω v
def AZ9:SQ:=mk Tryz.func242 ACn AOS LU [AM8,AIN,AT4] [(4,[0,1,2,3,4,5,6,7,8,9]),(6,[0,1,2,3,4,5,7,8,9,10])] AHK (hJ:= .cons (fun _=>rfl) AOd (.nil)) (he:=AYI AW)
def AYh:SQ:=mk Tryz.func159 wz uz RM [AIV,AVP,ACI,AJw,AWr,AZ9] [(7,[0,1,3,4,5,6,7,8,11]),(11,[0,1,2,3,4,5,6,7,8,9,10]),(17,[0,1,2,3,4,5,6,7,8,9])] [⟨9,⟨[(0,Im),(1,BA),(6,jX),(41,.c (.ref 5)),(42,BA),(43,BA)],[za,DT,Yn,DT,Me,Vm,Uk,P5,LN,.mem [.any,.any,.v tI]]⟩,Ew⟩,⟨15,⟨[(0,Im),(1,BA),(72,.c (.ref 6)),(73,BA),(74,BA)],jm⟩,FN⟩]
def AWi:SQ:=mk Tryz.func160 AED uz QP [AAj,AIV,AUj] [(5,[0,1,3,4,5,6,7,8,11])] []
def ARm:SQ:=mk Tryz.func323 ⟨[(0,BA),(1,.c (.rA (.cons tI .unit)))],[]⟩ CA Mu [] [] []
def AQD:SQ:=mk Tryz.func351 ⟨[(0,eC),(1,AKN)],[]⟩ EZ Dz [ARm] [] [⟨2,⟨[(0,eC),(1,AKN),(7,BA),(8,BA)],[]⟩,B7⟩]
def AOJ:SQ:=mk Tryz.func303 ⟨[(0,Zi),(1,AKN)],[DT]⟩ AMI Co [ARm,AQD] [] [⟨5,⟨[(0,Zi),(1,AKN),(5,BA),(6,BA)],[DT]⟩,Bz⟩]
abbrev ANF:Bb:=qG
abbrev AVO:Bb:=AGg
def AKk:SQ:=mk Tryz.func248 ANF AVO HV [s66,AOJ] [] []
def AV_:SQ:=mk Tryz.func245 AMV ALe Oe [s76,AFN,AKk] [(8,[0,1,2,4])] [⟨5,⟨[(2,BA),(6,Im),(8,vA),(19,AJm),(20,BA),(21,BA)],[.mem [.v tI,.ref 1],.sl 9 Y5,.mem [.v tI,.ref 3],.sl 2 Y5]⟩,Hu⟩]
def AZe:SQ:=mk Tryz.func246 ALW AMQ RQ [s77,AC1,AKk] [(7,[0,1,2,3,4,5,6])] [⟨5,⟨[(2,BA),(6,Im),(8,ADk),(19,AKj),(20,BA),(21,BA)],[ASu,HG,Nf,sg,AUO,HG,Nf,.sl 2 (.sl tI)]⟩,Jx⟩]
def AWb:SQ:=mk Tryz.func161 wz ⟨rj,[AMn,DT,Yn,Qu,Me,Vm,Uk,P5,LN,DT]⟩ Ra [wO,AIV,AJf,AV_,AZe] [(9,[0,1,2,3,4,6,7,8,9,10]),(14,[0,1,2,3,4,5,7,8,9,10]),(16,[1,2,3,4,5,6,7,8,9])] [⟨7,⟨[(0,Im),(1,BA),(35,.c (.ref 5)),(36,BA),(37,BA)],AMX⟩,HU⟩,⟨12,⟨[(0,Im),(1,BA),(62,.c (.ref 6)),(63,BA),(64,BA)],AMX⟩,G7⟩] (hJ:= .cons (fun _=>rfl) (fun n v ω=>by kernel_rfl) (.cons (fun _=>rfl) (fun n v ω=>by rcases ω with _|⟨_|_,_⟩<;>kernel_rfl) (.nil)))
def AXR:SQ:=mk Tryz.func321 qA CA bC [yk,wO] [] []
def AZL:SQ:=mk Tryz.func322 ⟨[(0,AAo)],[]⟩ ⟨AEy,xK⟩ j6 [yy,APo] [] [⟨3,⟨[(3,Zi),(9,AAo),(10,BA),(11,BA)],xK⟩,Nz⟩,⟨8,⟨[(3,Zi),(9,AAo),(10,BA),(11,BA),(19,aS),(20,BA),(21,BA)],xK⟩,Nx⟩]
abbrev AOv:Bb:=AL9
abbrev ASn:Bb:=⟨ATP,[Zx,.sl 1 Y1,Nf]⟩
def AUB:SQ:=mk Tryz.func247 AOv ASn dr [yy,ACI,AXR,AZL] [] [⟨5,⟨[(2,eC),(4,BA),(10,cB),(12,.c (.ref 4)),(36,Zi),(37,BA),(38,BA)],[Zx,AJa,Nf,Nf,Zx]⟩,Ug⟩]
abbrev i162:Bb:=wz
abbrev AQp:Bb:=⟨rj,[AMn,DT,Zx,Qu,Me,Vm,Uk,P5,LN,DT]⟩
def c162:RU:=⟨i162,AQp,(i162.un KY)⟩
def AXJ:eD:=⟨T,Ul (SP.l [S6,AFc,AUB,AKk]),Cj [(3,[0,1,3,4,5,6,7,8]),(6,[0,1,3,4,5,6,7,8,9])]⟩
def AOu:List (Lp AQp):=[]
theorem AYB(mE:Int->Int->Int->Option N2)(ACp:AB0->Int->Option La)(ASA:ABx->List Int->Int->Int->AAd->Option Wt)(AUc:List Int->Int->Option ZA)(n:Nat)(ω:List Bool)(v:i162.V):DO ⟨T,Ul [(139,⟨i139,AFF,i139.un mE⟩),(142,⟨ACK,AJq,ACK.un ACp⟩),(247,⟨AOv,ASn,AOv.un ASA⟩),(248,⟨ANF,AVO,ANF.un AUc⟩)],Cj [(3,[0,1,3,4,5,6,7,8]),(6,[0,1,3,4,5,6,7,8,9])]⟩ c162 Tryz.f162 (Og 9 AOu n) ω v=i162.un (fun(p1:Int) (AF:Int) (AO:Int) (AH:Bool) (b1:AAA) (b2:AAd) (b3:AAA) (b4:AAf) (b5:ABE) (b6:ABI) (b7:AAs) (b8:AA8)=>
 (mE p1 0 (AQ ((b2.length:Int)-1))).bind fun u2=>
 cond (!u2.1.1)
  (some ((2,()),(((),AF,(),(),(),AO,(),(),(),(),AH,()),b1,b2,(),b4,b5,b6,b7,b8,b3,())))
 ((ACp (b1,AF,b2,b3,b4,AO,b5,b6,b7,b8,AH,()) p1).bind fun u3=>
 cond (!u3.1.1)
  (some ((2,()),(((),AF,(),(),(),AO,(),(),(),(),AH,()),b1,b2,(),b4,b5,b6,b7,b8,b3,())))
 (let x4:Int:=AQ ((b4.length:Int)-1)
 (ASA (b1,AF,()) b3 p1 (if 0>x4 then 0 else x4) b2).bind fun u6=>
 cond (!u6.1.1.2.1)
  (some ((4,()),(((),AF,(),(),(),AO,(),(),(),(),AH,()),b1,u6.2.1,(),b4,b5,b6,b7,b8,b3,())))
 (if(0:Int)<=p1/\p1<(u6.2.1.length:Int)then(
 (AUc b3 p1).bind fun u8=>
 some ((0,()),(((),AF,(),(),(),AO,(),(),(),(),AH,()),b1,(u6.2.1.set (p1.toNat) (u6.2.2.1,u6.2.2.2.1,u6.1.1.1.2.2.1,())),(),b4,b5,b6,b7,b8,u8.2.1,())))else none)))) v:=by rcases ω with _|⟨_|_,_⟩<;>kernel_rfl
theorem AWo(n:Nat)(ω:List Bool)(v:i162.V):DO AXJ c162 Tryz.f162 (Og 9 AOu n) ω v=i162.un (KY) v:=AYB A_ C7 dr HV n ω v
def AXE:SQ:=mk Tryz.func162 i162 AQp KY [S6,AFc,AUB,AKk] [(3,[0,1,3,4,5,6,7,8]),(6,[0,1,3,4,5,6,7,8,9])] AOu (hJ:= .nil) (he:=AWo AW)
def AWe:SQ:=mk Tryz.func249 qY AAU lM [] [] []
def AaP:SQ:=mk Tryz.func163 AHH ⟨rj,[.mem [.ref 1,.v tI,.ref 2,.ref 3,.ref 4,.v tI,.ref 5,.ref 9,.ref 7,.ref 8,.v .bool],DT,Yn,DT,Me,Vm,Qu,P5,LN,Uk]⟩ RJ [AN7,AWe] [(1,[0,1,2,3,4,5,6,7,8])] []
abbrev ANa:Bb:=m_
abbrev ATY:Bb:=AD7
def AUQ:SQ:=mk Tryz.func250 ANa ATY Pr [S6,AVP,AKB] [] []
abbrev AQq:Bb:=m_
abbrev ASM:Bb:=AAt
def ARe:SQ:=mk Tryz.func252 AQq ASM Q1 [ui,yy] [] [⟨5,⟨[(1,BA),(5,Zi),(14,aS),(15,BA),(16,BA)],[Nf]⟩,Lm⟩]
abbrev AOU:Bb:=ALS
abbrev ASz:Bb:=⟨AN9,[DT,.sl 1 Y1,sg]⟩
def ASD:SQ:=mk Tryz.func251 AOU ASz Q3 [s77,ui,AC1,AJf,APo,ANY] [(8,[0,1,2,3,4,5,6,7,8,9,10])] [⟨6,⟨[(4,Im),(5,cB),(8,vA),(10,.c (.ptr 6 0)),(31,aS),(32,BA),(33,BA)],[yG,ACq,AUb,HG,Nf,sg,AUk,DT,.sl 1 Y1,sg]⟩,MK⟩]
abbrev i164:Bb:=wz
abbrev AM2:Bb:=⟨rj,[za,DT,Yn,DT,Me,Vm,.sl 2 Y7,P5,LN]⟩
def c164:RU:=⟨i164,AM2,(i164.un Ki)⟩
def AWA:eD:=⟨T,Ul (SP.l [AI5,AUQ,ASD,ARe]),Cj [(7,[0,1,2,3,4,5,6,7,8,9]),(8,[0,1,2,3,4,5,6,7,8,9,10,11,12]),(11,[0,1,3,4,5,7,8,9,13])]⟩
def ANK:List (Lp AM2):=[]
def sZ(ω:List Bool):Prop:= ∀(AIc:AB0->Int->Int->Option MS) (ASh:ADA->Int->Option dM) (ATB:ABx->AB1->Int->ABd->Option NS) (ARq:ADA->Int->Option NW) (n:Nat) (v:i164.V),DO ⟨T,Ul [(235,⟨AGR,AQt,AGR.un AIc⟩),(250,⟨ANa,ATY,ANa.un ASh⟩),(251,⟨AOU,ASz,AOU.un ATB⟩),(252,⟨AQq,ASM,AQq.un ARq⟩)],Cj [(7,[0,1,2,3,4,5,6,7,8,9]),(8,[0,1,2,3,4,5,6,7,8,9,10,11,12]),(11,[0,1,3,4,5,7,8,9,13])]⟩ c164 Tryz.f164 (Og 9 ANK n) ω v=i164.un (fun(p1:Int) (AF:Int) (AO:Int) (AH:Bool) (b1:AAA) (b2:AAd) (b3:AAA) (b4:AAf) (b5:ABE) (b6:ABI) (b7:AAs) (b8:AA8)=>
 cond (((b6.length:Int)==0))
  (some ((2,()),(((),AF,(),(),(),AO,(),(),(),(),AH,()),b1,b2,b3,b4,b5,b6,b7,b8,())))
 (if(0:Int)<=(0:Int)/\(0:Int)<(b6.length:Int)then(
 (AIc (b1,AF,b2,b3,b4,AO,b5,b6,b7,b8,AH,()) p1 ((b6.getD 0 (0,0,[],[],false,[],())).2.1)).bind fun u3=>
 cond (u3.1.1 !=0)
  (some ((u3.1.1,()),(((),AF,(),(),(),AO,(),(),(),(),AH,()),b1,b2,b3,b4,b5,b6,b7,b8,())))
 (if(0:Int)<=p1/\p1<(b2.length:Int)then(
 (ASh ((b2.getD (p1.toNat) ([],[],0,())).1,(b2.getD (p1.toNat) ([],[],0,())).2.1,(b2.getD (p1.toNat) ([],[],0,())).2.2.1,()) (AQ (((b6.getD 0 (0,0,[],[],false,[],())).1)-1))).bind fun u5=>
 (ARq (u5.2.1,u5.2.2.1,u5.1.1.1.2.2.1,()) ((b6.getD 0 (0,0,[],[],false,[],())).2.1)).bind fun u7=>
 (ATB (b1,AF,()) ((b6.getD 0 (0,0,[],[],false,[],())).1,(b6.getD 0 (0,0,[],[],false,[],())).2.1,(b6.getD 0 (0,0,[],[],false,[],())).2.2.1,(b6.getD 0 (0,0,[],[],false,[],())).2.2.2.1,(b6.getD 0 (0,0,[],[],false,[],())).2.2.2.2.1,(b6.getD 0 (0,0,[],[],false,[],())).2.2.2.2.2.1,()) p1 u7.2.1).bind fun u8=>
 cond (!u5.1.1.2.1)
  (some ((4,()),(((),AF,(),(),(),AO,(),(),(),(),AH,()),b1,b2,b3,b4,b5,b6,b7,b8,())))
 (cond (!u8.1.1.2.1)
  (some ((4,()),(((),AF,(),(),(),AO,(),(),(),(),AH,()),b1,b2,b3,b4,b5,b6,b7,b8,())))
 (if(0:Int)<=p1/\p1<(b2.length:Int)then(
 if(0:Int)<=(0:Int)/\(0:Int)<(b6.length:Int)then(
 some ((0,()),(((),AF,(),(),(),AO,(),(),(),(),AH,()),b1,(b2.set (p1.toNat) (u5.2.1,u5.2.2.1,u5.1.1.1.2.2.1,())),b3,b4,b5,(b6.set 0 (u8.1.1.1.1,u8.1.1.1.2.1,u8.2.1,u8.2.2.1,u8.1.1.1.2.2.2.2.1,u8.2.2.2.1,())),b7,b8,())))else none)else none)))else none))else none)) v
theorem AOO:sZ []:=by delta sZ;intros;kernel_rfl
theorem AOw:∀ω:List Bool,sZ (false::ω):=by refine AE ?_ ?_ (AE ?_ (AE ?_ ?_ (AE ?_ ?_ ?_)) (AE ?_ ?_ (AE ?_ ?_ ?_)))<;>(delta sZ;intros;kernel_rfl)
theorem APj:∀ω:List Bool,sZ (true::ω):=by refine AE ?_ ?_ (AE ?_ (AE ?_ ?_ (AE ?_ ?_ ?_)) (AE ?_ ?_ (AE ?_ ?_ ?_)))<;>(delta sZ;intros;kernel_rfl)
theorem AaI(ω:List Bool):sZ ω:=(AE AOO AOw APj) ω
theorem AYn(n:Nat)(ω:List Bool)(v:i164.V):DO AWA c164 Tryz.f164 (Og 9 ANK n) ω v=i164.un (Ki) v:=AaI ω Df Pr Q3 Q1 n v
def AZr:SQ:=mk Tryz.func164 i164 AM2 Ki [AI5,AUQ,ASD,ARe] [(7,[0,1,2,3,4,5,6,7,8,9]),(8,[0,1,2,3,4,5,6,7,8,9,10,11,12]),(11,[0,1,3,4,5,7,8,9,13])] ANK (hJ:= .nil) (he:=AYn AW)
def AW_:SQ:=mk Tryz.func365 AG9 iM jH [yk,ACI] [] [⟨5,⟨[(2,eC),(7,Zi),(22,eC),(23,BA),(24,BA)],ji⟩,UF⟩]
def AT7:SQ:=mk Tryz.func325 AG9 CA HC [yk,wO,AKV,AW_] [(3,[0,1])] []
abbrev AQZ:Bb:=AL4
abbrev ASE:Bb:=AAw
def ARs:SQ:=mk Tryz.func253 AQZ ASE Q7 [s77,AC1,AKV,AUa,ANY,AT7] [(1,[0,1,2])] []
abbrev ADF:Bb:=AHH
abbrev APg:Bb:=uz
def AUp:RU:=⟨ADF,APg,(ADF.un Ke)⟩
def AZw:eD:=⟨T,Ul (SP.l [AAj,AJw,ARs]),Cj [(3,[0,1,2,3,4,5,6,7,8]),(4,[0,1,2,3,4,5,7,8,9])]⟩
def AQg:List (Lp APg):=[]
theorem AXd(AF5:Bool->Option ic)(ASO:AB4->Int->Option gG)(ATa:ABx->AB1->List Int->Option fb)(n:Nat)(ω:List Bool)(v:ADF.V):DO ⟨T,Ul [(169,⟨AGw,APP,AGw.un AF5⟩),(240,⟨APU,ATU,APU.un ASO⟩),(253,⟨AQZ,ASE,AQZ.un ATa⟩)],Cj [(3,[0,1,2,3,4,5,6,7,8]),(4,[0,1,2,3,4,5,7,8,9])]⟩ AUp Tryz.f165 (Og 9 AQg n) ω v=ADF.un (fun(AF:Int) (AO:Int) (AH:Bool) (b1:AAA) (b2:AAd) (b3:AAA) (b4:AAf) (b5:ABE) (b6:ABI) (b7:AAs) (b8:AA8)=>
 cond (((b6.length:Int)==0))
  (some ((2,()),(((),AF,(),(),(),AO,(),(),(),(),AH,()),b1,b2,b3,b4,b5,b6,b7,b8,())))
 (if(0:Int)<=(0:Int)/\(0:Int)<(b6.length:Int)then(
 if(0:Int)<=(0:Int)/\(0:Int)<(b6.length:Int)then(
 (ASO (b4,AO,()) ((b6.getD 0 (0,0,[],[],false,[],())).2.1)).bind fun u3=>
 (ATa (b1,AF,()) ((b6.getD 0 (0,0,[],[],false,[],())).1,(b6.getD 0 (0,0,[],[],false,[],())).2.1,(b6.getD 0 (0,0,[],[],false,[],())).2.2.1,(b6.getD 0 (0,0,[],[],false,[],())).2.2.2.1,(b6.getD 0 (0,0,[],[],false,[],())).2.2.2.2.1,(b6.getD 0 (0,0,[],[],false,[],())).2.2.2.2.2.1,()) u3.2.1).bind fun u4=>
 if(0:Int)<=(0:Int)/\(0:Int)<(b6.length:Int)then(
 (AF5 u4.1.1.2.1).bind fun u6=>
 some ((u6.1.1,()),(((),AF,(),(),(),AO,(),(),(),(),AH,()),b1,b2,b3,b4,b5,(b6.set 0 (u4.1.1.1.1,u4.1.1.1.2.1,u4.2.1,u4.2.2.1,u4.1.1.1.2.2.2.2.1,u4.2.2.2.1,())),b7,b8,())))else none)else none)else none)) v:=by rcases ω with _|⟨_|_,_|⟨_|_,_⟩⟩<;>kernel_rfl
theorem AWM(n:Nat)(ω:List Bool)(v:ADF.V):DO AZw AUp Tryz.f165 (Og 9 AQg n) ω v=ADF.un (Ke) v:=AXd KX JJ Q7 n ω v
def AWX:SQ:=mk Tryz.func165 ADF APg Ke [AAj,AJw,ARs] [(3,[0,1,2,3,4,5,6,7,8]),(4,[0,1,2,3,4,5,7,8,9])] AQg (hJ:= .nil) (he:=AWM AW)
def AYs:SQ:=mk Tryz.func166 AED uz TX [AI5,ANy,AM8] [] []
abbrev ANM:Bb:=AAe
abbrev AVR:Bb:=CA
def AUr:SQ:=mk Tryz.func255 ANM AVR PH [wO,AC1] [] [⟨4,⟨[(2,Im),(17,AKj),(18,BA),(19,BA)],AQP⟩,Kq⟩]
abbrev AM4:Bb:=AMc
abbrev AUJ:Bb:=AEl
def AUN:SQ:=mk Tryz.func256 AM4 AUJ Qw [s69,s74,S6,AN7,AKb] [(5,[0,1,2,4])] []
abbrev i167:Bb:=AHH
abbrev ANe:Bb:=⟨rj,[.mem [.ref 1,.v tI,.ref 2,.ref 3,.ref 9,.v tI,.ref 5,.ref 10,.ref 7,.ref 8,.v .bool],DT,Yn,DT,Qu,Vm,Qu,P5,LN,Me,Uk]⟩
def c167:RU:=⟨i167,ANe,(i167.un Jk)⟩
def AWf:eD:=⟨T,Ul (SP.l [AAj,AUr,AUN]),Cj [(3,[0,1,2,3,4,5,6,7,8]),(5,[0,1,2,3,4,5,6,7,8])]⟩
def AQX:List (Lp ANe):=[]
theorem AXT(AF5:Bool->Option ic)(AU9:ABx->AB1->Option Lg)(AR9:ABx->AB4->Int->Int->Option fU)(n:Nat)(ω:List Bool)(v:i167.V):DO ⟨T,Ul [(169,⟨AGw,APP,AGw.un AF5⟩),(255,⟨ANM,AVR,ANM.un AU9⟩),(256,⟨AM4,AUJ,AM4.un AR9⟩)],Cj [(3,[0,1,2,3,4,5,6,7,8]),(5,[0,1,2,3,4,5,6,7,8])]⟩ c167 Tryz.f167 (Og 9 AQX n) ω v=i167.un (fun(AF:Int) (AO:Int) (AH:Bool) (b1:AAA) (b2:AAd) (b3:AAA) (b4:AAf) (b5:ABE) (b6:ABI) (b7:AAs) (b8:AA8)=>
 cond (((b6.length:Int)==0))
  (some ((2,()),(((),AF,(),(),(),AO,(),(),(),(),AH,()),b1,b2,b3,(),b5,(),b7,b8,b4,b6,())))
 (if(0:Int)<=(0:Int)/\(0:Int)<(b6.length:Int)then(
 (AU9 (b1,AF,()) ((b6.getD 0 (0,0,[],[],false,[],())).1,(b6.getD 0 (0,0,[],[],false,[],())).2.1,(b6.getD 0 (0,0,[],[],false,[],())).2.2.1,(b6.getD 0 (0,0,[],[],false,[],())).2.2.2.1,(b6.getD 0 (0,0,[],[],false,[],())).2.2.2.2.1,(b6.getD 0 (0,0,[],[],false,[],())).2.2.2.2.2.1,())).bind fun u2=>
 cond (!u2.1.1)
  (some ((5,()),(((),AF,(),(),(),AO,(),(),(),(),AH,()),b1,b2,b3,(),b5,(),b7,b8,b4,b6,())))
 (if(0:Int)<=(0:Int)/\(0:Int)<(b6.length:Int)then(
 if(0:Int)<=(0:Int)/\(0:Int)<(b6.length:Int)then(
 (AR9 (b1,AF,()) (b4,AO,()) ((b6.getD 0 (0,0,[],[],false,[],())).1) (((b6.getD 0 (0,0,[],[],false,[],())).2.2.2.2.2.1).length:Int)).bind fun u5=>
 cond (u5.1.1.2.1)
  ((AF5 u5.1.1.2.1).bind fun u6=>
  some ((u6.1.1,()),(((),AF,(),(),(),u5.1.1.1.2.1,(),(),(),(),AH,()),b1,b2,b3,(),b5,(),b7,b8,u5.2.1,[],())))
 ((AF5 u5.1.1.2.1).bind fun u7=>
 some ((u7.1.1,()),(((),AF,(),(),(),AO,(),(),(),(),AH,()),b1,b2,b3,(),b5,(),b7,b8,b4,b6,()))))else none)else none))else none)) v:=by rcases ω with _|⟨_|_,_⟩<;>kernel_rfl
theorem AZ8(n:Nat)(ω:List Bool)(v:i167.V):DO AWf c167 Tryz.f167 (Og 9 AQX n) ω v=i167.un (Jk) v:=AXT KX PH Qw n ω v
def AX7:SQ:=mk Tryz.func167 i167 ANe Jk [AAj,AUr,AUN] [(3,[0,1,2,3,4,5,6,7,8]),(5,[0,1,2,3,4,5,6,7,8])] AQX (hJ:= .nil) (he:=AZ8 AW)
def AZI:SQ:=mk Tryz.func168 ALI AEl YS [s69,s74,ui,S6,AKb] [(1,[0,1,2])] []
def AWg:SQ:=mk Tryz.func330 AEf EZ Ri [] [] [⟨2,⟨[(1,Im),(6,AJm),(7,BA),(8,BA)],[AKW]⟩,J8⟩]
abbrev AG7:Bb:=ABH
abbrev ANI:Bb:=EZ
def AUh:SQ:=mk Tryz.func260 AG7 ANI Sq [AWg] [] [⟨2,⟨[(1,BA),(8,.c (.sl false Y6)),(9,BA),(10,BA)],[]⟩,Pu⟩]
def AX4:SQ:=mk Tryz.func327 ⟨[(0,wc)],[]⟩ iM Qa [] [] [⟨3,⟨[(3,Zi),(7,wc),(8,BA),(9,BA)],ji⟩,NZ⟩]
def AUv:SQ:=mk Tryz.func328 ⟨[(0,Im),(1,.row Y8)],ALE⟩ AMC FG [] [(1,[2])] [] (he:=fun ω v=>by rcases ω with _|⟨_|_,_⟩<;>kernel_rfl)
def AXV:SQ:=mk Tryz.func368 ⟨[(0,wc),(1,eC),(2,BA)],[]⟩ AA2 bc [ACI,AKL,ATy] [] [⟨3,⟨[(1,eC),(2,BA),(6,Im),(8,cB),(9,zj),(13,wc),(14,BA),(15,BA)],[AFC,AFC]⟩,PW⟩]
def AY2:SQ:=mk Tryz.func329 ⟨[(0,Im),(1,wc),(2,eC)],ALE⟩ AMC C4 [wN,AUv,AXV] [(0,[0,1])] []
abbrev AHe:Bb:=ALP
abbrev AQu:Bb:=⟨AR1,[.sl 1 Y8]⟩
def ARu:SQ:=mk Tryz.func259 AHe AQu Ka [s69,s78,ANH,ui,AJN,yk,ATf,AKV,AT7,AX4,AUv,AY2] [(1,[0,1,2,3]),(8,[0,1,2,3,4,8,9]),(11,[0,1,2,3,4,5,6,7])] []
abbrev ACi:Bb:=⟨AUE,AMF⟩
abbrev APw:Bb:=⟨rj,AMF⟩
def AKx:RU:=⟨ACi,APw,(ACi.un NU)⟩
def ATW:eD:=⟨T,Ul (SP.l [S6,AFc,wN,AJr,AIN,ARu,AUh]),Cj [(13,[0,1,2,3,4,5,6,7,8,9,10,11]),(16,[0,1,2,3,4,5,6,8,9,10,11])]⟩
def AGj:List (Lp APw):=[⟨7,⟨[(0,Im),(1,BA),(7,jX),(8,BA),(10,.c (.ref 10)),(43,.c (.ref 11)),(44,BA),(45,BA)],[za,DT,Yn,DT,Me,Vm,Uk,.sl 1 Y9,LN,.mem [.v tI,.v tI,.sl true Y8],.sl 9 Y14,HG]⟩,C9⟩]
abbrev pD:Bb:=⟨[(0,Im),(1,BA),(7,jX),(8,BA),(10,.c (.ref 10)),(43,.c (.ref 11)),(44,BA),(45,BA)],[za,DT,Yn,DT,Me,Vm,Uk,.sl 1 Y9,LN,.mem [.v tI,.v tI,.sl true Y8],.sl 9 Y14,HG]⟩
theorem APi(mE:Int->Int->Int->Option N2)(ACp:AB0->Int->Option La)(wR:Int->Int->Option Lx)(ADb:Int->Option HY)(zP:ADA->Int->Option NV)(AJb:ABx->AB4->Int->ADU->AD_->Option Kn)(AKK:AB0->Int->Option Nq)(n:Nat)(v:pD.V)(ω:List Bool):LM ⟨T,Ul [(139,⟨i139,AFF,i139.un mE⟩),(142,⟨ACK,AJq,ACK.un ACp⟩),(228,⟨i228,AGh,i228.un wR⟩),(231,⟨ACG,AJ4,ACG.un ADb⟩),(258,⟨y_,AIB,y_.un zP⟩),(259,⟨AHe,AQu,AHe.un AJb⟩),(260,⟨AG7,ANI,AG7.un AKK⟩)],Cj [(13,[0,1,2,3,4,5,6,7,8,9,10,11]),(16,[0,1,2,3,4,5,6,8,9,10,11])]⟩ AKx Tryz.f170 (Og 9 AGj n) 7 ω (pD.st 111 v)=pD.un (fun(t1:Int) (t8:Int) (t44:Int) (t45:Int) (AF:Int) (AO:Int) (AH:Bool) (b1:AAA) (b2:AAd) (b3:AAA) (b4:AAf) (b5:ABE) (b6:ABI) (b7:AAs) (b8:AA8) (lf:Int) (E7:Int) (gz:ADY) (PX:AD_) (Hh:AAA)=>
 cond (decide (t45<t44))
  (if(0:Int)<=t45/\t45<(Hh.length:Int)then(
  let x8:Int:=(Hh.getD (t45.toNat) 0)
  cond ((decide (x8<(b2.length:Int))))
   ((ACp (b1,AF,b2,b3,b4,AO,b5,b6,b7,b8,AH,()) x8).bind fun Dk=>
   cond (!Dk.1.1)
    (if(0:Int)<=x8/\x8<(b2.length:Int)then(
    (zP ((b2.getD (x8.toNat) ([],[],0,())).1,(b2.getD (x8.toNat) ([],[],0,())).2.1,(b2.getD (x8.toNat) ([],[],0,())).2.2.1,()) t8).bind fun Ed=>
    if PX.length+1<=Go.M.CN then(
    (C9 n) t1 t8 t44 (AQ (t45+1)) AF AO AH b1 b2 b3 b4 b5 b6 b7 b8 lf E7 gz (PX++[(x8,Ed.1.1.2.1,Ed.1.1.1.1,Ed.1.1.1.2.1,Ed.1.1.1.2.2.1,Ed.1.1.1.2.2.2.1,())]) Hh)else none)else none)
   ((C9 n) t1 t8 t44 (AQ (t45+1)) AF AO AH b1 b2 b3 b4 b5 b6 b7 b8 lf E7 gz PX Hh))
  ((C9 n) t1 t8 t44 (AQ (t45+1)) AF AO AH b1 b2 b3 b4 b5 b6 b7 b8 lf E7 gz PX Hh))else none)
 ((AKK (b1,AF,b2,b3,b4,AO,b5,b6,b7,b8,AH,()) lf).bind fun Nr=>
 (AJb (b1,AF,()) (b4,AO,()) Nr.1.1 (lf,E7,gz,()) PX).bind fun Mc=>
 cond (Mc.1.1.2.1 !=0)
  (some ((5,()),(((),AF,(),(),(),AO,(),(),(),(),AH,()),b1,b2,b3,b4,b5,b6,b7,b8,())))
 (if(0:Int)<=t1/\t1<(b7.length:Int)then(
 some ((0,()),(((),AF,(),(),(),AO,(),(),(),(),AH,()),b1,b2,b3,b4,b5,b6,(b7.set (t1.toNat) (Mc.1.1.1.1,Mc.1.1.1.2.1,Mc.2.1,())),b8,())))else none))) v:=by rcases ω with _|⟨_|_,_|⟨_|_,_⟩⟩<;>kernel_rfl
theorem ANw(n:Nat)(v:pD.V)(ω:List Bool):LM ATW AKx Tryz.f170 (Og 9 AGj n) 7 ω (pD.st 111 v)=pD.un (OG (C9 n)) v:=APi A_ C7 DR IB GZ Ka Sq n v ω
theorem AZc(mE:Int->Int->Int->Option N2)(ACp:AB0->Int->Option La)(wR:Int->Int->Option Lx)(ADb:Int->Option HY)(zP:ADA->Int->Option NV)(AJb:ABx->AB4->Int->ADU->AD_->Option Kn)(AKK:AB0->Int->Option Nq)(n:Nat)(ω:List Bool)(v:ACi.V):DO ⟨T,Ul [(139,⟨i139,AFF,i139.un mE⟩),(142,⟨ACK,AJq,ACK.un ACp⟩),(228,⟨i228,AGh,i228.un wR⟩),(231,⟨ACG,AJ4,ACG.un ADb⟩),(258,⟨y_,AIB,y_.un zP⟩),(259,⟨AHe,AQu,AHe.un AJb⟩),(260,⟨AG7,ANI,AG7.un AKK⟩)],Cj [(13,[0,1,2,3,4,5,6,7,8,9,10,11]),(16,[0,1,2,3,4,5,6,8,9,10,11])]⟩ AKx Tryz.f170 (Og 9 AGj n) ω v=ACi.un (fun(p1:Int) (p2:Int) (AF:Int) (AO:Int) (AH:Bool) (b1:AAA) (b2:AAd) (b3:AAA) (b4:AAf) (b5:ABE) (b6:ABI) (b7:AAs) (b8:AA8)=>
 (mE p1 0 (AQ ((b7.length:Int)-1))).bind fun u2=>
 cond (!u2.1.1)
  (some ((2,()),(((),AF,(),(),(),AO,(),(),(),(),AH,()),b1,b2,b3,b4,b5,b6,b7,b8,())))
 (if(0:Int)<=p1/\p1<(b7.length:Int)then(
 (wR ((b7.getD (p1.toNat) (0,0,[],())).1) ((b7.getD (p1.toNat) (0,0,[],())).2.1)).bind fun u5=>
 (ADb p2).bind fun u6=>
 (C9 n) p1 u5.1.1.1 (u6.2.1.length:Int) 0 AF AO AH b1 b2 b3 b4 b5 b6 b7 b8 ((b7.getD (p1.toNat) (0,0,[],())).1) ((b7.getD (p1.toNat) (0,0,[],())).2.1) ((b7.getD (p1.toNat) (0,0,[],())).2.2.1) [] u6.2.1)else none)) v:=by kernel_rfl
theorem AZT(n:Nat)(ω:List Bool)(v:ACi.V):DO ATW AKx Tryz.f170 (Og 9 AGj n) ω v=ACi.un (N3 (C9 n)) v:=AZc A_ C7 DR IB GZ Ka Sq n ω v
def AaQ:SQ:=mk Tryz.func170 ACi APw NU [S6,AFc,wN,AJr,AIN,ARu,AUh] [(13,[0,1,2,3,4,5,6,7,8,9,10,11]),(16,[0,1,2,3,4,5,6,8,9,10,11])] AGj (hJ:= .cons (fun _=>rfl) ANw (.nil)) (he:=AZT AW)
def ATt:SQ:=mk Tryz.func332 ⟨[(0,.row Y1),(1,.c (.rA (.cons tI .unit)))],[]⟩ CA P_ [] [] []
def AWc:SQ:=mk Tryz.func369 ⟨[(0,aS),(1,AK6)],[]⟩ EZ Ck [ATt] [] [⟨2,⟨[(0,aS),(1,AK6),(7,BA),(8,BA)],[]⟩,BS⟩]
def AYG:SQ:=mk Tryz.func331 ⟨[(0,Zi),(1,AK6)],xK⟩ AMP B3 [ATt,AWc] [] [⟨5,⟨[(0,Zi),(1,AK6),(5,BA),(6,BA)],xK⟩,BK⟩]
def AZk:SQ:=mk Tryz.func261 m_ AD7 UU [s75,ACR,yy,AKB,AYG] [] []
def AWH:SQ:=mk Tryz.func171 wz uz P4 [AAj,AIV,AZk] [(4,[0,1,2,3,4,5,6,7,8]),(5,[0,1,3,4,5,6,7,8])] [] (he:=fun ω v=>by rcases ω with _|⟨_|_,_⟩<;>kernel_rfl)
def s86:SQ:=mk Tryz.func86 AMH ⟨rj,[.mem [.ref 1,.v tI,.ref 2,.ref 9,.ref 10,.v tI,.ref 11,.ref 12,.ref 7,.ref 13,.v .bool],DT,Zx,Qu,Qu,Qu,Qu,.sl 1 Y9,Qu,DT,Me,Vm,.sl 2 Y7,LN]⟩ V0 [S6,AW1,AX8,AXA,AYh,AWi,AWb,AXE,AaP,AZr,AWX,AYs,AX7,AZI,AAj,AaQ,AWH,AZ0] [(27,[0,1,2,3,4,5,6,7,8,9]),(34,[0,1,2,3,4,5,6,7,8,9]),(36,[1,2,3,4,6,7,8,9])] [] (he:=fun ω v=>by rcases ω with _|⟨_|_,_⟩<;>kernel_rfl)
def s40:SQ:=mk Tryz.func40 AMZ ⟨APh,ALZ⟩ Mk [s36,s37,s85,s86] [] []
def s14:SQ:=mk Tryz.func14 AHl ⟨ATX,ALZ⟩ Dn [s20,s36,s37,s38,s39,s40] [(10,[0]),(12,[0]),(17,[0,2,3,4,5,6,7,8,9,10,11])] [] (he:=fun ω v=>by rcases ω with _|⟨_|_,_|⟨_|_,_⟩⟩<;>kernel_rfl)
def s9:SQ:=mk Tryz.func9 AMD ALD QJ [s13,s14,s25] [] [⟨11,⟨[(6,AR4),(7,Im),(9,lT),(45,AR4),(46,BA),(47,BA)],AMO⟩,JP⟩]
end
end Go.Proofs.YtbjkhapllnkhfaaGreatDoor.Wk
