/- Each function computes what was printed: by the kernel. -/
import Derived.Test.YtebiojjohcpanaaGreatE0
import Derived.Test.YtebiojjohcpanaaGreatProg
import Derived.KernelRfl
set_option linter.unusedVariables false
set_option linter.unusedSimpArgs false
set_option linter.unusedSectionVars false
namespace Go.Proofs.YtebiojjohcpanaaGreat.Wk
open Go Go.Fw Go.M Go.Proofs
noncomputable section
abbrev wb:Bh:=tq
abbrev ASn:Bh:=⟨oN,[sk,DS,Wf,DS,K_,RD,.sl 2 Y7,QC,Kk]⟩
def ATG:RC:=⟨wb,ASn,(wb.un KF)⟩
def AcE:ba:=⟨T,Rm (SP.l [AG0,AV_,AYN,AWl]),Cb [(7,[0,1,2,3,4,5,6,7,8,9]),(8,[0,1,2,3,4,5,6,7,8,9,10,11,12]),(11,[0,1,3,4,5,7,8,9,13])]⟩
def AKz:List (Lp ASn):=[]
def D7(ω:List Bool):Prop:= ∀(wG:ABg->Int->Int->Option IE) (ACi:ACt->Int->Option T_) (ACo:ABU->ABr->Int->ABR->Option KK) (AD7:ACt->Int->Option KS) (n:Nat) (v:wb.V),DY ⟨T,Rm [(191,⟨AAp,ALb,AAp.un wG⟩),(203,⟨i203,AOW,i203.un ACi⟩),(204,⟨AGs,ARA,AGs.un ACo⟩),(205,⟨AFn,ASE,AFn.un AD7⟩)],Cb [(7,[0,1,2,3,4,5,6,7,8,9]),(8,[0,1,2,3,4,5,6,7,8,9,10,11,12]),(11,[0,1,3,4,5,7,8,9,13])]⟩ ATG Tryz.f120 (MZ 9 AKz n) ω v=wb.un (fun(p1:Int) (AE:Int) (AS:Int) (AK:Bool) (b1:AAC) (b2:AAT) (b3:AAC) (b4:AAU) (b5:ABO) (b6:ABP) (b7:AAq) (b8:AA1)=>
 cond (((b6.length:Int)==0))
  (some ((2,()),(((),AE,(),(),(),AS,(),(),(),(),AK,()),b1,b2,b3,b4,b5,b6,b7,b8,())))
 (if(0:Int)<=(0:Int)/\(0:Int)<(b6.length:Int)then(
 (wG (b1,AE,b2,b3,b4,AS,b5,b6,b7,b8,AK,()) p1 ((b6.getD 0 (0,0,[],[],false,[],())).2.1)).bind fun u3=>
 cond (u3.1.1 !=0)
  (some ((u3.1.1,()),(((),AE,(),(),(),AS,(),(),(),(),AK,()),b1,b2,b3,b4,b5,b6,b7,b8,())))
 (if(0:Int)<=p1/\p1<(b2.length:Int)then(
 (ACi ((b2.getD (p1.toNat) ([],[],0,())).1,(b2.getD (p1.toNat) ([],[],0,())).2.1,(b2.getD (p1.toNat) ([],[],0,())).2.2.1,()) (Aa (((b6.getD 0 (0,0,[],[],false,[],())).1)-1))).bind fun u5=>
 (AD7 (u5.2.1,u5.2.2.1,u5.1.1.1.2.2.1,()) ((b6.getD 0 (0,0,[],[],false,[],())).2.1)).bind fun u7=>
 (ACo (b1,AE,()) ((b6.getD 0 (0,0,[],[],false,[],())).1,(b6.getD 0 (0,0,[],[],false,[],())).2.1,(b6.getD 0 (0,0,[],[],false,[],())).2.2.1,(b6.getD 0 (0,0,[],[],false,[],())).2.2.2.1,(b6.getD 0 (0,0,[],[],false,[],())).2.2.2.2.1,(b6.getD 0 (0,0,[],[],false,[],())).2.2.2.2.2.1,()) p1 u7.2.1).bind fun u8=>
 cond (!u5.1.1.2.1)
  (some ((4,()),(((),AE,(),(),(),AS,(),(),(),(),AK,()),b1,b2,b3,b4,b5,b6,b7,b8,())))
 (cond (!u8.1.1.2.1)
  (some ((4,()),(((),AE,(),(),(),AS,(),(),(),(),AK,()),b1,b2,b3,b4,b5,b6,b7,b8,())))
 (if(0:Int)<=p1/\p1<(b2.length:Int)then(
 if(0:Int)<=(0:Int)/\(0:Int)<(b6.length:Int)then(
 some ((0,()),(((),AE,(),(),(),AS,(),(),(),(),AK,()),b1,(b2.set (p1.toNat) (u5.2.1,u5.2.2.1,u5.1.1.1.2.2.1,())),b3,b4,b5,(b6.set 0 (u8.1.1.1.1,u8.1.1.1.2.1,u8.2.1,u8.2.2.1,u8.1.1.1.2.2.2.2.1,u8.2.2.2.1,())),b7,b8,())))else none)else none)))else none))else none)) v
theorem AQX:D7 []:=by delta D7;intros;kernel_rfl
theorem ASk:D7 (false::[]):=by delta D7;intros;kernel_rfl
theorem APW(ω:List Bool):D7 (false::false::ω):=by delta D7;intros;kernel_rfl
theorem APj:D7 (false::true::[]):=by delta D7;intros;kernel_rfl
theorem ATb:D7 (false::true::false::[]):=by delta D7;intros;kernel_rfl
theorem AR0(ω:List Bool):D7 (false::true::false::false::ω):=by delta D7;intros;kernel_rfl
theorem ARY:D7 (false::true::false::true::[]):=by delta D7;intros;kernel_rfl
theorem AQi(ω:List Bool):D7 (false::true::false::true::false::ω):=by delta D7;intros;kernel_rfl
theorem APU(ω:List Bool):D7 (false::true::false::true::true::ω):=by delta D7;intros;kernel_rfl
theorem AKO:D7 (false::true::true::[]):=by delta D7;intros;kernel_rfl
theorem AKh(ω:List Bool):D7 (false::true::true::false::ω):=by delta D7;intros;kernel_rfl
theorem AMT:D7 (false::true::true::true::[]):=by delta D7;intros;kernel_rfl
theorem AMs(ω:List Bool):D7 (false::true::true::true::false::ω):=by delta D7;intros;kernel_rfl
theorem AK4(ω:List Bool):D7 (false::true::true::true::true::ω):=by delta D7;intros;kernel_rfl
theorem AKm:D7 (true::[]):=by delta D7;intros;kernel_rfl
theorem AMG(ω:List Bool):D7 (true::false::ω):=by delta D7;intros;kernel_rfl
theorem AH6:D7 (true::true::[]):=by delta D7;intros;kernel_rfl
theorem AHh:D7 (true::true::false::[]):=by delta D7;intros;kernel_rfl
theorem AMv(ω:List Bool):D7 (true::true::false::false::ω):=by delta D7;intros;kernel_rfl
theorem AKp:D7 (true::true::false::true::[]):=by delta D7;intros;kernel_rfl
theorem AMN(ω:List Bool):D7 (true::true::false::true::false::ω):=by delta D7;intros;kernel_rfl
theorem AHg(ω:List Bool):D7 (true::true::false::true::true::ω):=by delta D7;intros;kernel_rfl
theorem AIo:D7 (true::true::true::[]):=by delta D7;intros;kernel_rfl
theorem AHi(ω:List Bool):D7 (true::true::true::false::ω):=by delta D7;intros;kernel_rfl
theorem AIl:D7 (true::true::true::true::[]):=by delta D7;intros;kernel_rfl
theorem AHy(ω:List Bool):D7 (true::true::true::true::false::ω):=by delta D7;intros;kernel_rfl
theorem AJU(ω:List Bool):D7 (true::true::true::true::true::ω):=by delta D7;intros;kernel_rfl
theorem AbF(wG:ABg->Int->Int->Option IE)(ACi:ACt->Int->Option T_)(ACo:ABU->ABr->Int->ABR->Option KK)(AD7:ACt->Int->Option KS)(n:Nat)(ω:List Bool)(v:wb.V):DY ⟨T,Rm [(191,⟨AAp,ALb,AAp.un wG⟩),(203,⟨i203,AOW,i203.un ACi⟩),(204,⟨AGs,ARA,AGs.un ACo⟩),(205,⟨AFn,ASE,AFn.un AD7⟩)],Cb [(7,[0,1,2,3,4,5,6,7,8,9]),(8,[0,1,2,3,4,5,6,7,8,9,10,11,12]),(11,[0,1,3,4,5,7,8,9,13])]⟩ ATG Tryz.f120 (MZ 9 AKz n) ω v=wb.un (fun(p1:Int) (AE:Int) (AS:Int) (AK:Bool) (b1:AAC) (b2:AAT) (b3:AAC) (b4:AAU) (b5:ABO) (b6:ABP) (b7:AAq) (b8:AA1)=>
 cond (((b6.length:Int)==0))
  (some ((2,()),(((),AE,(),(),(),AS,(),(),(),(),AK,()),b1,b2,b3,b4,b5,b6,b7,b8,())))
 (if(0:Int)<=(0:Int)/\(0:Int)<(b6.length:Int)then(
 (wG (b1,AE,b2,b3,b4,AS,b5,b6,b7,b8,AK,()) p1 ((b6.getD 0 (0,0,[],[],false,[],())).2.1)).bind fun u3=>
 cond (u3.1.1 !=0)
  (some ((u3.1.1,()),(((),AE,(),(),(),AS,(),(),(),(),AK,()),b1,b2,b3,b4,b5,b6,b7,b8,())))
 (if(0:Int)<=p1/\p1<(b2.length:Int)then(
 (ACi ((b2.getD (p1.toNat) ([],[],0,())).1,(b2.getD (p1.toNat) ([],[],0,())).2.1,(b2.getD (p1.toNat) ([],[],0,())).2.2.1,()) (Aa (((b6.getD 0 (0,0,[],[],false,[],())).1)-1))).bind fun u5=>
 (AD7 (u5.2.1,u5.2.2.1,u5.1.1.1.2.2.1,()) ((b6.getD 0 (0,0,[],[],false,[],())).2.1)).bind fun u7=>
 (ACo (b1,AE,()) ((b6.getD 0 (0,0,[],[],false,[],())).1,(b6.getD 0 (0,0,[],[],false,[],())).2.1,(b6.getD 0 (0,0,[],[],false,[],())).2.2.1,(b6.getD 0 (0,0,[],[],false,[],())).2.2.2.1,(b6.getD 0 (0,0,[],[],false,[],())).2.2.2.2.1,(b6.getD 0 (0,0,[],[],false,[],())).2.2.2.2.2.1,()) p1 u7.2.1).bind fun u8=>
 cond (!u5.1.1.2.1)
  (some ((4,()),(((),AE,(),(),(),AS,(),(),(),(),AK,()),b1,b2,b3,b4,b5,b6,b7,b8,())))
 (cond (!u8.1.1.2.1)
  (some ((4,()),(((),AE,(),(),(),AS,(),(),(),(),AK,()),b1,b2,b3,b4,b5,b6,b7,b8,())))
 (if(0:Int)<=p1/\p1<(b2.length:Int)then(
 if(0:Int)<=(0:Int)/\(0:Int)<(b6.length:Int)then(
 some ((0,()),(((),AE,(),(),(),AS,(),(),(),(),AK,()),b1,(b2.set (p1.toNat) (u5.2.1,u5.2.2.1,u5.1.1.1.2.2.1,())),b3,b4,b5,(b6.set 0 (u8.1.1.1.1,u8.1.1.1.2.1,u8.2.1,u8.2.2.1,u8.1.1.1.2.2.2.2.1,u8.2.2.2.1,())),b7,b8,())))else none)else none)))else none))else none)) v:=(AG AQX (AG ASk APW (AG APj (AG ATb AR0 (AG ARY AQi APU)) (AG AKO AKh (AG AMT AMs AK4)))) (AG AKm AMG (AG AH6 (AG AHh AMv (AG AKp AMN AHg)) (AG AIo AHi (AG AIl AHy AJU))))) ω wG ACi ACo AD7 n v
theorem AY6(n:Nat)(ω:List Bool)(v:wb.V):DY AcE ATG Tryz.f120 (MZ 9 AKz n) ω v=wb.un (KF) v:=AbF Ds O7 QJ QM n ω v
def AaV:SQ:=mk Tryz.func120 wb ASn KF [AG0,AV_,AYN,AWl] [(7,[0,1,2,3,4,5,6,7,8,9]),(8,[0,1,2,3,4,5,6,7,8,9,10,11,12]),(11,[0,1,3,4,5,7,8,9,13])] AKz (hJ:= .nil) (he:=AY6 Ae)
def AZz:SQ:=mk Tryz.func302 AF0 gZ fP [s74,zh] [] [⟨5,⟨[(2,cV),(7,o_),(22,cV),(23,BK),(24,BK)],wB⟩,Sh⟩]
def AXv:SQ:=mk Tryz.func270 AF0 CV HI [s32,s74,AJ0,AZz] [(3,[0,1])] []
abbrev i206:Bh:=ANh
abbrev AVb:Bh:=yL
def AWO:SQ:=mk Tryz.func206 i206 AVb QG [s90,s98,AJ0,AWd,ARn,AXv] [(1,[0,1,2])] []
abbrev z7:Bh:=AGn
abbrev AOm:Bh:=q9
def AVH:RC:=⟨z7,AOm,(z7.un KG)⟩
def AbE:ba:=⟨T,Rm (SP.l [xZ,AIx,AWO]),Cb [(3,[0,1,2,3,4,5,6,7,8]),(4,[0,1,2,3,4,5,7,8,9])]⟩
def ATU:List (Lp AOm):=[]
theorem AbH(AD1:Bool->Option eL)(AUy:ABy->Int->Option dM)(AXL:ABU->ABr->List Int->Option cr)(n:Nat)(ω:List Bool)(v:z7.V):DY ⟨T,Rm [(125,⟨AGE,ATq,AGE.un AD1⟩),(156,⟨AQr,AVI,AQr.un AUy⟩),(206,⟨i206,AVb,i206.un AXL⟩)],Cb [(3,[0,1,2,3,4,5,6,7,8]),(4,[0,1,2,3,4,5,7,8,9])]⟩ AVH Tryz.f121 (MZ 9 ATU n) ω v=z7.un (fun(AE:Int) (AS:Int) (AK:Bool) (b1:AAC) (b2:AAT) (b3:AAC) (b4:AAU) (b5:ABO) (b6:ABP) (b7:AAq) (b8:AA1)=>
 cond (((b6.length:Int)==0))
  (some ((2,()),(((),AE,(),(),(),AS,(),(),(),(),AK,()),b1,b2,b3,b4,b5,b6,b7,b8,())))
 (if(0:Int)<=(0:Int)/\(0:Int)<(b6.length:Int)then(
 if(0:Int)<=(0:Int)/\(0:Int)<(b6.length:Int)then(
 (AUy (b4,AS,()) ((b6.getD 0 (0,0,[],[],false,[],())).2.1)).bind fun u3=>
 (AXL (b1,AE,()) ((b6.getD 0 (0,0,[],[],false,[],())).1,(b6.getD 0 (0,0,[],[],false,[],())).2.1,(b6.getD 0 (0,0,[],[],false,[],())).2.2.1,(b6.getD 0 (0,0,[],[],false,[],())).2.2.2.1,(b6.getD 0 (0,0,[],[],false,[],())).2.2.2.2.1,(b6.getD 0 (0,0,[],[],false,[],())).2.2.2.2.2.1,()) u3.2.1).bind fun u4=>
 if(0:Int)<=(0:Int)/\(0:Int)<(b6.length:Int)then(
 (AD1 u4.1.1.2.1).bind fun u6=>
 some ((u6.1.1,()),(((),AE,(),(),(),AS,(),(),(),(),AK,()),b1,b2,b3,b4,b5,(b6.set 0 (u4.1.1.1.1,u4.1.1.1.2.1,u4.2.1,u4.2.2.1,u4.1.1.1.2.2.2.2.1,u4.2.2.2.1,())),b7,b8,())))else none)else none)else none)) v:=by rcases ω with _|⟨_|_,_|⟨_|_,_⟩⟩<;>kernel_rfl
theorem Aax(n:Nat)(ω:List Bool)(v:z7.V):DY AbE AVH Tryz.f121 (MZ 9 ATU n) ω v=z7.un (KG) v:=AbH KM I9 QG n ω v
def Aa8:SQ:=mk Tryz.func121 z7 AOm KG [xZ,AIx,AWO] [(3,[0,1,2,3,4,5,6,7,8]),(4,[0,1,2,3,4,5,7,8,9])] ATU (hJ:= .nil) (he:=Aax Ae)
def Aa3:SQ:=mk Tryz.func122 ABj q9 SA [AG0,AQ1,ARy] [] []
abbrev i208:Bh:=xG
abbrev AVa:Bh:=CV
def AWS:SQ:=mk Tryz.func208 i208 AVa O8 [s32,s98] [] [⟨4,⟨[(2,J7),(17,AJA),(18,BK),(19,BK)],APQ⟩,Kf⟩]
abbrev ARK:Bh:=ANp
abbrev AV0:Bh:=ABF
def AXD:SQ:=mk Tryz.func209 ARK AV0 QL [s36,iT,s46,s87,AJC] [(5,[0,1,2,4])] []
abbrev zP:Bh:=AGn
abbrev ARE:Bh:=⟨oN,[.mem [.ref 1,.v tI,.ref 2,.ref 3,.ref 9,.v tI,.ref 5,.ref 10,.ref 7,.ref 8,.v .bool],DS,Wf,DS,P1,RD,P1,QC,Kk,K_,TG]⟩
def AYQ:RC:=⟨zP,ARE,(zP.un JP)⟩
def AZ0:ba:=⟨T,Rm (SP.l [xZ,AWS,AXD]),Cb [(3,[0,1,2,3,4,5,6,7,8]),(5,[0,1,2,3,4,5,6,7,8])]⟩
def ASz:List (Lp ARE):=[]
theorem AZ_(AD1:Bool->Option eL)(AWP:ABU->ABr->Option LY)(AX5:ABU->ABy->Int->Int->Option dS)(n:Nat)(ω:List Bool)(v:zP.V):DY ⟨T,Rm [(125,⟨AGE,ATq,AGE.un AD1⟩),(208,⟨i208,AVa,i208.un AWP⟩),(209,⟨ARK,AV0,ARK.un AX5⟩)],Cb [(3,[0,1,2,3,4,5,6,7,8]),(5,[0,1,2,3,4,5,6,7,8])]⟩ AYQ Tryz.f123 (MZ 9 ASz n) ω v=zP.un (fun(AE:Int) (AS:Int) (AK:Bool) (b1:AAC) (b2:AAT) (b3:AAC) (b4:AAU) (b5:ABO) (b6:ABP) (b7:AAq) (b8:AA1)=>
 cond (((b6.length:Int)==0))
  (some ((2,()),(((),AE,(),(),(),AS,(),(),(),(),AK,()),b1,b2,b3,(),b5,(),b7,b8,b4,b6,())))
 (if(0:Int)<=(0:Int)/\(0:Int)<(b6.length:Int)then(
 (AWP (b1,AE,()) ((b6.getD 0 (0,0,[],[],false,[],())).1,(b6.getD 0 (0,0,[],[],false,[],())).2.1,(b6.getD 0 (0,0,[],[],false,[],())).2.2.1,(b6.getD 0 (0,0,[],[],false,[],())).2.2.2.1,(b6.getD 0 (0,0,[],[],false,[],())).2.2.2.2.1,(b6.getD 0 (0,0,[],[],false,[],())).2.2.2.2.2.1,())).bind fun u2=>
 cond (!u2.1.1)
  (some ((5,()),(((),AE,(),(),(),AS,(),(),(),(),AK,()),b1,b2,b3,(),b5,(),b7,b8,b4,b6,())))
 (if(0:Int)<=(0:Int)/\(0:Int)<(b6.length:Int)then(
 if(0:Int)<=(0:Int)/\(0:Int)<(b6.length:Int)then(
 (AX5 (b1,AE,()) (b4,AS,()) ((b6.getD 0 (0,0,[],[],false,[],())).1) (((b6.getD 0 (0,0,[],[],false,[],())).2.2.2.2.2.1).length:Int)).bind fun u5=>
 cond (u5.1.1.2.1)
  ((AD1 u5.1.1.2.1).bind fun u6=>
  some ((u6.1.1,()),(((),AE,(),(),(),u5.1.1.1.2.1,(),(),(),(),AK,()),b1,b2,b3,(),b5,(),b7,b8,u5.2.1,[],())))
 ((AD1 u5.1.1.2.1).bind fun u7=>
 some ((u7.1.1,()),(((),AE,(),(),(),AS,(),(),(),(),AK,()),b1,b2,b3,(),b5,(),b7,b8,b4,b6,()))))else none)else none))else none)) v:=by rcases ω with _|⟨_|_,_⟩<;>kernel_rfl
theorem Ac5(n:Nat)(ω:List Bool)(v:zP.V):DY AZ0 AYQ Tryz.f123 (MZ 9 ASz n) ω v=zP.un (JP) v:=AZ_ KM O8 QL n ω v
def Acm:SQ:=mk Tryz.func123 zP ARE JP [xZ,AWS,AXD] [(3,[0,1,2,3,4,5,6,7,8]),(5,[0,1,2,3,4,5,6,7,8])] ASz (hJ:= .nil) (he:=Ac5 Ae)
def AcT:SQ:=mk Tryz.func124 AN0 ABF Ww [iT,s46,s87,s95,AJC] [(1,[0,1,2])] []
def AbI:SQ:=mk Tryz.func274 AA_ Ft Qc [] [] [⟨2,⟨[(1,J7),(6,AML),(7,BK),(8,BK)],[ALM]⟩,Jt⟩]
abbrev i212:Bh:=tP
abbrev ARd:Bh:=Ft
def AUx:SQ:=mk Tryz.func212 i212 ARd RT [AbI] [] [⟨2,⟨[(1,BK),(8,.c (.sl false Y6)),(9,BK),(10,BK)],[]⟩,O0⟩]
def AZk:SQ:=mk Tryz.func271 ⟨[(0,tE)],[]⟩ gZ PU [] [] [⟨3,⟨[(3,o_),(7,tE),(8,BK),(9,BK)],wB⟩,M9⟩]
def s54:SQ:=mk Tryz.func54 ⟨[(0,BK),(1,.row Y9)],[]⟩ CV Iy [s95,AOw] [(2,[0])] []
def AUu:SQ:=mk Tryz.func272 ⟨[(0,J7),(1,.row Y8)],ANc⟩ AND FO [] [(1,[2])] [] (he:=fun ω v=>by rcases ω with _|⟨_|_,_⟩<;>kernel_rfl)
def AcW:SQ:=mk Tryz.func303 ⟨[(0,tE),(1,cV),(2,BK)],[]⟩ yg Zs [zh,AIw,AXZ] [] [⟨3,⟨[(1,cV),(2,BK),(6,J7),(8,aR),(9,xP0),(13,tE),(14,BK),(15,BK)],[ACr,ACr]⟩,Oh⟩]
def AbP:SQ:=mk Tryz.func273 ⟨[(0,J7),(1,tE),(2,cV)],ANc⟩ AND DL [s31,AUu,AcW] [(0,[0,1])] []
abbrev AEm:Bh:=ANy
abbrev AOy:Bh:=⟨AYH,[.sl 1 Y8]⟩
def AYK:SQ:=mk Tryz.func211 AEm AOy KE [s46,s54,s74,s91,s95,s99,AOw,AJ0,AXv,AZk,AUu,AbP] [(1,[0,1,2,3]),(8,[0,1,2,3,4,8,9]),(11,[0,1,2,3,4,5,6,7])] []
abbrev AAl:Bh:=⟨AWT,ANW⟩
abbrev AR_:Bh:=⟨oN,ANW⟩
def AKL:RC:=⟨AAl,AR_,(AAl.un NF)⟩
def AXU:ba:=⟨T,Rm (SP.l [s31,iT,s60,s93,ALV,AYK,AUx]),Cb [(13,[0,1,2,3,4,5,6,7,8,9,10,11]),(16,[0,1,2,3,4,5,6,8,9,10,11])]⟩
def AFD:List (Lp AR_):=[⟨7,⟨[(0,J7),(1,BK),(7,ed),(8,BK),(10,.c (.ref 10)),(43,.c (.ref 11)),(44,BK),(45,BK)],[sk,DS,Wf,DS,K_,RD,TG,su,Kk,.mem [.v tI,.v tI,.sl true Y8],.sl 9 Y14,Fc]⟩,DM⟩]
abbrev lM:Bh:=⟨[(0,J7),(1,BK),(7,ed),(8,BK),(10,.c (.ref 10)),(43,.c (.ref 11)),(44,BK),(45,BK)],[sk,DS,Wf,DS,K_,RD,TG,su,Kk,.mem [.v tI,.v tI,.sl true Y8],.sl 9 Y14,Fc]⟩
theorem ATd(g31:Int->Int->Option ME)(g43:Int->Int->Int->Option NN)(g60:ACt->Int->Option M7)(g93:ABg->Int->Option LJ)(zZ:Int->Option Ha)(ALc:ABU->ABy->Int->ADW->AC_->Option Ko)(AJl:ABg->Int->Option NQ)(n:Nat)(v:lM.V)(ω:List Bool):Hz ⟨T,Rm [(31,⟨i31,o31,i31.un g31⟩),(43,⟨i43,o43,i43.un g43⟩),(60,⟨i60,o60,i60.un g60⟩),(93,⟨i93,o93,i93.un g93⟩),(188,⟨zj,ALD,zj.un zZ⟩),(211,⟨AEm,AOy,AEm.un ALc⟩),(212,⟨i212,ARd,i212.un AJl⟩)],Cb [(13,[0,1,2,3,4,5,6,7,8,9,10,11]),(16,[0,1,2,3,4,5,6,8,9,10,11])]⟩ AKL Tryz.f126 (MZ 9 AFD n) 7 ω (lM.st 111 v)=lM.un (fun(t1:Int) (t8:Int) (t44:Int) (t45:Int) (AE:Int) (AS:Int) (AK:Bool) (b1:AAC) (b2:AAT) (b3:AAC) (b4:AAU) (b5:ABO) (b6:ABP) (b7:AAq) (b8:AA1) (jT:Int) (EE:Int) (eF:ADS) (LU:AC_) (GD:AAC)=>
 cond (decide (t45<t44))
  (if(0:Int)<=t45/\t45<(GD.length:Int)then(
  let x8:Int:=(GD.getD (t45.toNat) 0)
  cond ((decide (x8<(b2.length:Int))))
   ((g93 (b1,AE,b2,b3,b4,AS,b5,b6,b7,b8,AK,()) x8).bind fun EP=>
   cond (!EP.1.1)
    (if(0:Int)<=x8/\x8<(b2.length:Int)then(
    (g60 ((b2.getD (x8.toNat) ([],[],0,())).1,(b2.getD (x8.toNat) ([],[],0,())).2.1,(b2.getD (x8.toNat) ([],[],0,())).2.2.1,()) t8).bind fun M6=>
    if LU.length+1<=Go.M.D8 then(
    (DM n) t1 t8 t44 (Aa (t45+1)) AE AS AK b1 b2 b3 b4 b5 b6 b7 b8 jT EE eF (LU++[(x8,M6.1.1.2.1,M6.1.1.1.1,M6.1.1.1.2.1,M6.1.1.1.2.2.1,M6.1.1.1.2.2.2.1,())]) GD)else none)else none)
   ((DM n) t1 t8 t44 (Aa (t45+1)) AE AS AK b1 b2 b3 b4 b5 b6 b7 b8 jT EE eF LU GD))
  ((DM n) t1 t8 t44 (Aa (t45+1)) AE AS AK b1 b2 b3 b4 b5 b6 b7 b8 jT EE eF LU GD))else none)
 ((AJl (b1,AE,b2,b3,b4,AS,b5,b6,b7,b8,AK,()) jT).bind fun XC=>
 (ALc (b1,AE,()) (b4,AS,()) XC.1.1 (jT,EE,eF,()) LU).bind fun V0=>
 cond (V0.1.1.2.1 !=0)
  (some ((5,()),(((),AE,(),(),(),AS,(),(),(),(),AK,()),b1,b2,b3,b4,b5,b6,b7,b8,())))
 (if(0:Int)<=t1/\t1<(b7.length:Int)then(
 some ((0,()),(((),AE,(),(),(),AS,(),(),(),(),AK,()),b1,b2,b3,b4,b5,b6,(b7.set (t1.toNat) (V0.1.1.1.1,V0.1.1.1.2.1,V0.2.1,())),b8,())))else none))) v:=by rcases ω with _|⟨_|_,_|⟨_|_,_⟩⟩<;>kernel_rfl
theorem AO7(n:Nat)(v:lM.V)(ω:List Bool):Hz AXU AKL Tryz.f126 (MZ 9 AFD n) 7 ω (lM.st 111 v)=lM.un (Nk (DM n)) v:=ATd D3 BC Gm DI Hy KE RT n v ω
theorem Aav(g31:Int->Int->Option ME)(g43:Int->Int->Int->Option NN)(g60:ACt->Int->Option M7)(g93:ABg->Int->Option LJ)(zZ:Int->Option Ha)(ALc:ABU->ABy->Int->ADW->AC_->Option Ko)(AJl:ABg->Int->Option NQ)(n:Nat)(ω:List Bool)(v:AAl.V):DY ⟨T,Rm [(31,⟨i31,o31,i31.un g31⟩),(43,⟨i43,o43,i43.un g43⟩),(60,⟨i60,o60,i60.un g60⟩),(93,⟨i93,o93,i93.un g93⟩),(188,⟨zj,ALD,zj.un zZ⟩),(211,⟨AEm,AOy,AEm.un ALc⟩),(212,⟨i212,ARd,i212.un AJl⟩)],Cb [(13,[0,1,2,3,4,5,6,7,8,9,10,11]),(16,[0,1,2,3,4,5,6,8,9,10,11])]⟩ AKL Tryz.f126 (MZ 9 AFD n) ω v=AAl.un (fun(p1:Int) (p2:Int) (AE:Int) (AS:Int) (AK:Bool) (b1:AAC) (b2:AAT) (b3:AAC) (b4:AAU) (b5:ABO) (b6:ABP) (b7:AAq) (b8:AA1)=>
 (g43 p1 0 (Aa ((b7.length:Int)-1))).bind fun u2=>
 cond (!u2.1.1)
  (some ((2,()),(((),AE,(),(),(),AS,(),(),(),(),AK,()),b1,b2,b3,b4,b5,b6,b7,b8,())))
 (if(0:Int)<=p1/\p1<(b7.length:Int)then(
 (g31 ((b7.getD (p1.toNat) (0,0,[],())).1) ((b7.getD (p1.toNat) (0,0,[],())).2.1)).bind fun u5=>
 (zZ p2).bind fun u6=>
 (DM n) p1 u5.1.1.1 (u6.2.1.length:Int) 0 AE AS AK b1 b2 b3 b4 b5 b6 b7 b8 ((b7.getD (p1.toNat) (0,0,[],())).1) ((b7.getD (p1.toNat) (0,0,[],())).2.1) ((b7.getD (p1.toNat) (0,0,[],())).2.2.1) [] u6.2.1)else none)) v:=by kernel_rfl
theorem AbD(n:Nat)(ω:List Bool)(v:AAl.V):DY AXU AKL Tryz.f126 (MZ 9 AFD n) ω v=AAl.un (Nf (DM n)) v:=Aav D3 BC Gm DI Hy KE RT n ω v
def AbA:SQ:=mk Tryz.func126 AAl AR_ NF [s31,iT,s60,s93,ALV,AYK,AUx] [(13,[0,1,2,3,4,5,6,7,8,9,10,11]),(16,[0,1,2,3,4,5,6,8,9,10,11])] AFD (hJ:= .cons (fun _=>rfl) AO7 (.nil)) (he:=AbD Ae)
def AVg:SQ:=mk Tryz.func276 ⟨[(0,.row Y1),(1,.c (.ni (.cons tI .unit)))],[]⟩ CV PS [] [] []
def Aa1:SQ:=mk Tryz.func304 ⟨[(0,r8),(1,AME)],[]⟩ Ft Cw [AVg] [] [⟨2,⟨[(0,r8),(1,AME),(7,BK),(8,BK)],[]⟩,BV⟩]
def Aaq:SQ:=mk Tryz.func275 ⟨[(0,o_),(1,AME)],uT⟩ AOF B5 [AVg,Aa1] [] [⟨5,⟨[(0,o_),(1,AME),(5,BK),(6,BK)],uT⟩,BT⟩]
def AbM:SQ:=mk Tryz.func213 kJ ABd SF [s53,s88,s92,AMu,Aaq] [] []
def AaA:SQ:=mk Tryz.func127 tq q9 PK [xZ,AFt,AbM] [(4,[0,1,2,3,4,5,6,7,8]),(5,[0,1,3,4,5,6,7,8])] [] (he:=fun ω v=>by rcases ω with _|⟨_|_,_⟩<;>kernel_rfl)
def Aa0:SQ:=AcG (ρ:=Jh 0 128 0 0 31 63) (nm:= "slices.Delete[[]loop.example/g00178/impl.Writer,loop.example/g00178/impl.Writer]") tOk (mu.del ⟨by kernel_rfl,by kernel_rfl,by kernel_rfl,by kernel_rfl,by kernel_rfl,by kernel_rfl,by kernel_rfl,by kernel_rfl,by kernel_rfl,by kernel_rfl,by kernel_rfl,by kernel_rfl⟩ mx (by kernel_rfl) (by kernel_rfl)) (r:=Y6) 2 rfl (by kernel_rfl) (by kernel_rfl) FP (fun _=>rfl)
def s57:SQ:=mk Tryz.func57 ANL ⟨oN,[.mem [.ref 1,.v tI,.ref 2,.ref 9,.ref 10,.v tI,.ref 11,.ref 12,.ref 7,.ref 13,.v .bool],DS,Vs,P1,P1,P1,P1,su,P1,DS,K_,RD,.sl 2 Y7,Kk]⟩ Uk [iT,AaZ,Acu,Aal,AaN,Aao,Acw,AaU,AcQ,AaV,Aa8,Aa3,Acm,AcT,xZ,AbA,AaA,Aa0] [(27,[0,1,2,3,4,5,6,7,8,9]),(34,[0,1,2,3,4,5,6,7,8,9]),(36,[1,2,3,4,6,7,8,9])] [] (he:=fun ω v=>by rcases ω with _|⟨_|_,_⟩<;>kernel_rfl)
def s21:SQ:=mk Tryz.func21 ANH ⟨AO5,[DS,Vs,DS,K_,RD,.sl 2 Y7,su,Kk]⟩ PZ [s16,s40,s56,s57] [] []
abbrev i11:Bh:=⟨[(0,.row Y11),(1,.c (.sl false Y12))],[]⟩
abbrev o11:Bh:=⟨[(0,.Mo [.inr [.ref 0,.v tI,.ref 1,.ref 2,.ref 3,.v tI,.ref 4,.ref 5,.ref 6,.ref 7,.v .bool],.inl (.ref 8)])],[DS,Vs,DS,K_,RD,.sl 2 Y7,su,Kk,Fc]⟩
def s11:SQ:=mk Tryz.func11 i11 o11 I7 [s16,s21,s40] [] [⟨6,⟨[(4,J7),(6,ed),(7,.c (.ref 18)),(25,.c (.sl false Y12)),(26,BK),(27,BK)],[sk,Fc,Z7,Fc,TF,aB,Zz,Z0,Vp,sI,DS,Vs,DS,K_,RD,.sl 2 Y7,su,Kk,Fc]⟩,LX⟩]
def s41:SQ:=mk Tryz.func41 tP AN7 ZB [] [] [⟨2,⟨[(1,BK),(9,ACz),(10,BK),(11,BK)],[]⟩,Ov⟩]
abbrev i12:Bh:=bV
abbrev o12:Bh:=CV
def s12:SQ:=mk Tryz.func12 i12 o12 Gz [s16,s41] [] [⟨2,ANT,Fe⟩,⟨5,⟨[(1,J7),(10,qi),(11,BK),(12,BK),(17,ADa),(18,BK),(19,BK)],sG⟩,Gt⟩]
def s42:SQ:=mk Tryz.func42 ⟨[(0,.row Y8)],[]⟩ CV Ul [] [] []
abbrev i13:Bh:=bV
abbrev o13:Bh:=CV
def s13:SQ:=mk Tryz.func13 i13 o13 F9 [s16,s42] [] [⟨2,ANT,E7⟩,⟨6,⟨[(1,J7),(5,BK),(6,xP0),(10,qi),(11,BK),(12,BK),(17,ADa),(18,BK),(19,BK)],sG⟩,Hg⟩]
def s55:SQ:=mk Tryz.func55 ⟨[(0,.row Y9),(1,BK)],[]⟩ AN7 T5 [] [] [⟨2,⟨[(1,BK),(9,ADa),(10,BK),(11,BK)],[]⟩,Sq⟩]
def s24:SQ:=mk Tryz.func24 bV CV Sc [s16,s54,s55] [] [⟨4,⟨[(1,J7),(19,qi),(20,BK),(21,BK)],sG⟩,Fo⟩,⟨7,⟨[(1,J7),(4,aR),(19,qi),(20,BK),(21,BK),(26,ACz),(27,BK),(28,BK)],[AEW,AXM]⟩,G_⟩]
def s25:SQ:=mk Tryz.func25 bV CV Qi [s16] [] [⟨4,⟨[(17,qi),(18,BK),(19,BK)],[]⟩,Dl⟩,⟨7,⟨[(17,qi),(18,BK),(19,BK),(24,ADa),(25,BK),(26,BK)],[]⟩,GH⟩]
def s19:SQ:=mk Tryz.func19 bV CV S1 [s16,s53,s54,s55] [(9,[0,1]),(11,[0,1]),(12,[0,1])] [⟨4,⟨[(1,J7),(22,qi),(23,BK),(24,BK)],sG⟩,Ff⟩,⟨7,⟨[(1,J7),(22,qi),(23,BK),(24,BK),(29,ADa),(30,BK),(31,BK)],sG⟩,Gx⟩]
abbrev i14:Bh:=bV
abbrev o14:Bh:=CV
def s14:SQ:=mk Tryz.func14 i14 o14 JE [s12,s13,s19,s24,s25] [] []
abbrev i15:Bh:=tP
abbrev o15:Bh:=⟨ADv,[Vp]⟩
def s15:SQ:=mk Tryz.func15 i15 o15 MI [s16,iT] [] [⟨5,⟨[(5,o_),(27,ADa),(28,BK),(29,BK)],[Vp]⟩,LS⟩]
abbrev i3:Bh:=AFl
abbrev o3:Bh:=CV
def c3:RC:=⟨i3,o3,(i3.un Rf)⟩
def C3:ba:=⟨T,Rm (SP.l [s9,s10,s11,s12,s13,s14,s15,s16]),Cb [(18,[0,1,2,3,4,5,6,7,8,9]),(19,[0,1,2,3,4,5,6,7,8,9])]⟩
def L3:List (Lp o3):=[⟨8,⟨[(5,J7),(7,BK)],[sk,DS,Vs,DS,K_,RD,.sl 2 Y7,su,Kk]⟩,Cp⟩,⟨12,⟨[(5,J7),(7,BK),(8,.c (.ref 9)),(9,BK)],ACQ⟩,Ck⟩,⟨16,⟨[(5,J7),(7,BK),(8,.c (.ref 9)),(9,BK),(10,xP0),(11,BK)],ACQ⟩,C2⟩]
abbrev ADm:Bh:=⟨[(5,J7),(7,BK)],[sk,DS,Vs,DS,K_,RD,.sl 2 Y7,su,Kk]⟩
abbrev uX:Bh:=⟨[(5,J7),(7,BK),(8,.c (.ref 9)),(9,BK)],ACQ⟩
abbrev uM:Bh:=⟨[(5,J7),(7,BK),(8,.c (.ref 9)),(9,BK),(10,xP0),(11,BK)],ACQ⟩
theorem Ach(g9:List Int->Option Xg)(g10:List Int->Option IJ)(g11:ABg->AEK->Option GB)(g12:ABg->Option EZ)(g13:ABg->Option D_)(g14:ABg->Option NA)(g15:ABg->Int->Option JC)(g16:ABg->Option PF)(n:Nat)(v:ADm.V)(ω:List Bool):Hz ⟨T,Rm [(9,⟨i9,o9,i9.un g9⟩),(10,⟨i10,o10,i10.un g10⟩),(11,⟨i11,o11,i11.un g11⟩),(12,⟨i12,o12,i12.un g12⟩),(13,⟨i13,o13,i13.un g13⟩),(14,⟨i14,o14,i14.un g14⟩),(15,⟨i15,o15,i15.un g15⟩),(16,⟨i16,o16,i16.un g16⟩)],Cb [(18,[0,1,2,3,4,5,6,7,8,9]),(19,[0,1,2,3,4,5,6,7,8,9])]⟩ c3 Tryz.f3 (MZ 0 L3 n) 8 ω (ADm.st 116 v)=ADm.un (fun(t7:Int) (AE:Int) (AS:Int) (AK:Bool) (b1:AAC) (b2:AAT) (b3:AAC) (b4:AAU) (b5:ABO) (b6:ABP) (b7:AAq) (b8:AA1)=>
 cond (decide (t7<2))
  ((g15 (b1,AE,b2,b3,b4,AS,b5,b6,b7,b8,AK,()) t7).bind fun EP=>
  (Ck n) t7 0 AE AS AK b1 b2 b3 b4 b5 b6 b7 b8 EP.2.1)
 ((g16 (b1,AE,b2,b3,b4,AS,b5,b6,b7,b8,AK,())).bind fun M6=>
 some ((M6.1.1,()),()))) v:=by kernel_rfl
theorem Acv(n:Nat)(v:ADm.V)(ω:List Bool):Hz C3 c3 Tryz.f3 (MZ 0 L3 n) 8 ω (ADm.st 116 v)=ADm.un (N5 (Cp n) (Ck n) (C2 n)) v:=Ach Xn HL I7 Gz F9 JE MI Ca n v ω
theorem AYG(g9:List Int->Option Xg)(g10:List Int->Option IJ)(g11:ABg->AEK->Option GB)(g12:ABg->Option EZ)(g13:ABg->Option D_)(g14:ABg->Option NA)(g15:ABg->Int->Option JC)(g16:ABg->Option PF)(n:Nat)(v:uX.V)(ω:List Bool):Hz ⟨T,Rm [(9,⟨i9,o9,i9.un g9⟩),(10,⟨i10,o10,i10.un g10⟩),(11,⟨i11,o11,i11.un g11⟩),(12,⟨i12,o12,i12.un g12⟩),(13,⟨i13,o13,i13.un g13⟩),(14,⟨i14,o14,i14.un g14⟩),(15,⟨i15,o15,i15.un g15⟩),(16,⟨i16,o16,i16.un g16⟩)],Cb [(18,[0,1,2,3,4,5,6,7,8,9]),(19,[0,1,2,3,4,5,6,7,8,9])]⟩ c3 Tryz.f3 (MZ 0 L3 n) 12 ω (uX.st 116 v)=uX.un (fun(t7:Int) (t9:Int) (AE:Int) (AS:Int) (AK:Bool) (b1:AAC) (b2:AAT) (b3:AAC) (b4:AAU) (b5:ABO) (b6:ABP) (b7:AAq) (b8:AA1) (b9:AA1)=>
 cond ((decide (t9<(b9.length:Int))))
  ((C2 n) t7 t9 false 0 AE AS AK b1 b2 b3 b4 b5 b6 b7 b8 b9)
 ((Cp n) (Aa (t7+1)) AE AS AK b1 b2 b3 b4 b5 b6 b7 b8)) v:=by kernel_rfl
theorem AXy(n:Nat)(v:uX.V)(ω:List Bool):Hz C3 c3 Tryz.f3 (MZ 0 L3 n) 12 ω (uX.st 116 v)=uX.un (Mw (Cp n) (Ck n) (C2 n)) v:=AYG Xn HL I7 Gz F9 JE MI Ca n v ω
theorem AU6(g9:List Int->Option Xg)(g10:List Int->Option IJ)(g11:ABg->AEK->Option GB)(g12:ABg->Option EZ)(g13:ABg->Option D_)(g14:ABg->Option NA)(g15:ABg->Int->Option JC)(g16:ABg->Option PF)(n:Nat)(v:uM.V)(ω:List Bool):Hz ⟨T,Rm [(9,⟨i9,o9,i9.un g9⟩),(10,⟨i10,o10,i10.un g10⟩),(11,⟨i11,o11,i11.un g11⟩),(12,⟨i12,o12,i12.un g12⟩),(13,⟨i13,o13,i13.un g13⟩),(14,⟨i14,o14,i14.un g14⟩),(15,⟨i15,o15,i15.un g15⟩),(16,⟨i16,o16,i16.un g16⟩)],Cb [(18,[0,1,2,3,4,5,6,7,8,9]),(19,[0,1,2,3,4,5,6,7,8,9])]⟩ c3 Tryz.f3 (MZ 0 L3 n) 16 ω (uM.st 116 v)=uM.un (fun(t7:Int) (t9:Int) (t10:Bool) (t11:Int) (AE:Int) (AS:Int) (AK:Bool) (b1:AAC) (b2:AAT) (b3:AAC) (b4:AAU) (b5:ABO) (b6:ABP) (b7:AAq) (b8:AA1) (b9:AA1)=>
 cond ((decide (t11<(b8.length:Int))))
  (cond (t10)
   ((C2 n) t7 t9 true (Aa (t11+1)) AE AS AK b1 b2 b3 b4 b5 b6 b7 b8 b9)
  (if(0:Int)<=t11/\t11<(b8.length:Int)then(
  if(0:Int)<=t9/\t9<(b9.length:Int)then(
  cond (((b8.getD (t11.toNat) (0,[],false,())).1)==((b9.getD (t9.toNat) (0,[],false,())).1))
   (if(0:Int)<=t11/\t11<(b8.length:Int)then(
   if(0:Int)<=t9/\t9<(b9.length:Int)then(
   (C2 n) t7 t9 (((b8.getD (t11.toNat) (0,[],false,())).2.1)==((b9.getD (t9.toNat) (0,[],false,())).2.1)) (Aa (t11+1)) AE AS AK b1 b2 b3 b4 b5 b6 b7 b8 b9)else none)else none)
  ((C2 n) t7 t9 false (Aa (t11+1)) AE AS AK b1 b2 b3 b4 b5 b6 b7 b8 b9))else none)else none))
 (cond (!t10)
  (some ((false,()),()))
 (cond (decide (t9>0))
  (if(0:Int)<=Aa (t9-1)/\Aa (t9-1)<(b9.length:Int)then(
  if(0:Int)<=t9/\t9<(b9.length:Int)then(
  cond (decide (((b9.getD ((Aa (t9-1)).toNat) (0,[],false,())).1)>=((b9.getD (t9.toNat) (0,[],false,())).1)))
   (some ((false,()),()))
  ((Ck n) t7 (Aa (t9+1)) AE AS AK b1 b2 b3 b4 b5 b6 b7 b8 b9))else none)else none)
 ((Ck n) t7 (Aa (t9+1)) AE AS AK b1 b2 b3 b4 b5 b6 b7 b8 b9)))) v:=by kernel_rfl
theorem AYB(n:Nat)(v:uM.V)(ω:List Bool):Hz C3 c3 Tryz.f3 (MZ 0 L3 n) 16 ω (uM.st 116 v)=uM.un (Q_ (Cp n) (Ck n) (C2 n)) v:=AU6 Xn HL I7 Gz F9 JE MI Ca n v ω
theorem b3(g9:List Int->Option Xg)(g10:List Int->Option IJ)(g11:ABg->AEK->Option GB)(g12:ABg->Option EZ)(g13:ABg->Option D_)(g14:ABg->Option NA)(g15:ABg->Int->Option JC)(g16:ABg->Option PF)(n:Nat)(ω:List Bool)(v:i3.V):DY ⟨T,Rm [(9,⟨i9,o9,i9.un g9⟩),(10,⟨i10,o10,i10.un g10⟩),(11,⟨i11,o11,i11.un g11⟩),(12,⟨i12,o12,i12.un g12⟩),(13,⟨i13,o13,i13.un g13⟩),(14,⟨i14,o14,i14.un g14⟩),(15,⟨i15,o15,i15.un g15⟩),(16,⟨i16,o16,i16.un g16⟩)],Cb [(18,[0,1,2,3,4,5,6,7,8,9]),(19,[0,1,2,3,4,5,6,7,8,9])]⟩ c3 Tryz.f3 (MZ 0 L3 n) ω v=i3.un (fun(p0:AAC)=>
 (g9 p0).bind fun u1=>
 cond (u1.1.1)
  (some ((true,()),()))
 ((g10 p0).bind fun u2=>
 (g11 (u2.1.1.1.1,u2.1.1.1.2.1,u2.1.1.1.2.2.1,u2.1.1.1.2.2.2.1,u2.1.1.1.2.2.2.2.1,u2.1.1.1.2.2.2.2.2.1,u2.1.1.1.2.2.2.2.2.2.1,u2.1.1.1.2.2.2.2.2.2.2.1,u2.1.1.1.2.2.2.2.2.2.2.2.1,u2.1.1.1.2.2.2.2.2.2.2.2.2.1,u2.1.1.1.2.2.2.2.2.2.2.2.2.2.1,()) u2.2.1).bind fun u3=>
 cond (((u3.2.2.2.2.2.2.2.2.2.1.length:Int) !=(u2.2.1.length:Int)))
  (some ((false,()),()))
 ((g12 (u3.2.1,u3.1.1.1.2.1,u3.2.2.1,u3.2.2.2.1,u3.2.2.2.2.1,u3.1.1.1.2.2.2.2.2.1,u3.2.2.2.2.2.1,u3.2.2.2.2.2.2.1,u3.2.2.2.2.2.2.2.1,u3.2.2.2.2.2.2.2.2.1,u3.1.1.1.2.2.2.2.2.2.2.2.2.2.1,())).bind fun u7=>
 cond (!u7.1.1)
  (some ((false,()),()))
 ((g13 (u3.2.1,u3.1.1.1.2.1,u3.2.2.1,u3.2.2.2.1,u3.2.2.2.2.1,u3.1.1.1.2.2.2.2.2.1,u3.2.2.2.2.2.1,u3.2.2.2.2.2.2.1,u3.2.2.2.2.2.2.2.1,u3.2.2.2.2.2.2.2.2.1,u3.1.1.1.2.2.2.2.2.2.2.2.2.2.1,())).bind fun u8=>
 cond (!u8.1.1)
  (some ((false,()),()))
 ((g14 (u3.2.1,u3.1.1.1.2.1,u3.2.2.1,u3.2.2.2.1,u3.2.2.2.2.1,u3.1.1.1.2.2.2.2.2.1,u3.2.2.2.2.2.1,u3.2.2.2.2.2.2.1,u3.2.2.2.2.2.2.2.1,u3.2.2.2.2.2.2.2.2.1,u3.1.1.1.2.2.2.2.2.2.2.2.2.2.1,())).bind fun u9=>
 cond (!u9.1.1)
  (some ((false,()),()))
 ((Cp n) 0 u3.1.1.1.2.1 u3.1.1.1.2.2.2.2.2.1 u3.1.1.1.2.2.2.2.2.2.2.2.2.2.1 u3.2.1 u3.2.2.1 u3.2.2.2.1 u3.2.2.2.2.1 u3.2.2.2.2.2.1 u3.2.2.2.2.2.2.1 u3.2.2.2.2.2.2.2.1 u3.2.2.2.2.2.2.2.2.1)))))) v:=by kernel_rfl
theorem e3(n:Nat)(ω:List Bool)(v:i3.V):DY C3 c3 Tryz.f3 (MZ 0 L3 n) ω v=i3.un (Rv (Cp n) (Ck n) (C2 n)) v:=b3 Xn HL I7 Gz F9 JE MI Ca n ω v
def s3:SQ:=mk Tryz.func3 i3 o3 Rf [s9,s10,s11,s12,s13,s14,s15,s16] [(18,[0,1,2,3,4,5,6,7,8,9]),(19,[0,1,2,3,4,5,6,7,8,9])] L3 (hJ:= .cons (fun _=>rfl) Acv (.cons (fun _=>rfl) AXy (.cons (fun _=>rfl) AYB (.nil)))) (he:=e3 Ae)
end
end Go.Proofs.YtebiojjohcpanaaGreat.Wk
