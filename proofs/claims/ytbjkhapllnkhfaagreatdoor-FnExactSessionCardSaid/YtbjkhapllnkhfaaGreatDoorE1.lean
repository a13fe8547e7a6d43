/- Each function computes what was printed: by the kernel. -/
import Derived.Test.YtbjkhapllnkhfaaGreatDoorE0
import Derived.Test.YtbjkhapllnkhfaaGreatDoorProg
import Derived.KernelRfl
set_option linter.unusedVariables false
set_option linter.unusedSimpArgs false
set_option linter.unusedSectionVars false
namespace Go.Proofs.YtbjkhapllnkhfaaGreatDoor.Wk
open Go Go.Fw Go.M Go.Proofs
noncomputable section
abbrev i164:Bc:=vu
abbrev AMF:Bc:=⟨rr,[w9,DV,XT,DV,MO,UW,.sl 2 Y7,P7,Lq]⟩
def c164:Qv:=⟨i164,AMF,(i164.un KI)⟩
def AUg:cQ:=⟨T,Ry (SP.l [AFY,ARy,AQj,APV]),CV [(7,[0,1,2,3,4,5,6,7,8,9]),(8,[0,1,2,3,4,5,6,7,8,9,10,11,12]),(11,[0,1,3,4,5,7,8,9,13])]⟩
def AIK:List (Lp AMF):=[]
def vL(ω:List Bool):Prop:= ∀(xZ:AAi->Int->Int->Option Hz) (ADp:ABR->Int->Option Uh) (AC6:AAb->AAu->Int->AAa->Option J6) (AD8:ABR->Int->Option KE) (n:Nat) (v:i164.V),DB ⟨T,Ry [(235,⟨AAd,AHm,AAd.un xZ⟩),(250,⟨AGb,AOI,AGb.un ADp⟩),(251,⟨AE9,AOm,AE9.un AC6⟩),(252,⟨AHF,AMO,AHF.un AD8⟩)],CV [(7,[0,1,2,3,4,5,6,7,8,9]),(8,[0,1,2,3,4,5,6,7,8,9,10,11,12]),(11,[0,1,3,4,5,7,8,9,13])]⟩ c164 Tryz.f164 (M3 9 AIK n) ω v=i164.un (fun(p1:Int) (AF:Int) (AM:Int) (AG:Bool) (b1:AAN) (b2:AAT) (b3:AAN) (b4:AAU) (b5:AAX) (b6:AAY) (b7:AAV) (b8:AAW)=>
 cond (((b6.length:Int)==0))
  (some ((2,()),(((),AF,(),(),(),AM,(),(),(),(),AG,()),b1,b2,b3,b4,b5,b6,b7,b8,())))
 (if(0:Int)<=(0:Int)/\(0:Int)<(b6.length:Int)then(
 (xZ (b1,AF,b2,b3,b4,AM,b5,b6,b7,b8,AG,()) p1 ((b6.getD 0 (0,0,[],[],false,[],())).2.1)).bind fun u3=>
 cond (u3.1.1 !=0)
  (some ((u3.1.1,()),(((),AF,(),(),(),AM,(),(),(),(),AG,()),b1,b2,b3,b4,b5,b6,b7,b8,())))
 (if(0:Int)<=p1/\p1<(b2.length:Int)then(
 (ADp ((b2.getD (p1.toNat) ([],[],0,())).1,(b2.getD (p1.toNat) ([],[],0,())).2.1,(b2.getD (p1.toNat) ([],[],0,())).2.2.1,()) (AW (((b6.getD 0 (0,0,[],[],false,[],())).1)-1))).bind fun u5=>
 (AD8 (u5.2.1,u5.2.2.1,u5.1.1.1.2.2.1,()) ((b6.getD 0 (0,0,[],[],false,[],())).2.1)).bind fun u7=>
 (AC6 (b1,AF,()) ((b6.getD 0 (0,0,[],[],false,[],())).1,(b6.getD 0 (0,0,[],[],false,[],())).2.1,(b6.getD 0 (0,0,[],[],false,[],())).2.2.1,(b6.getD 0 (0,0,[],[],false,[],())).2.2.2.1,(b6.getD 0 (0,0,[],[],false,[],())).2.2.2.2.1,(b6.getD 0 (0,0,[],[],false,[],())).2.2.2.2.2.1,()) p1 u7.2.1).bind fun u8=>
 cond (!u5.1.1.2.1)
  (some ((4,()),(((),AF,(),(),(),AM,(),(),(),(),AG,()),b1,b2,b3,b4,b5,b6,b7,b8,())))
 (cond (!u8.1.1.2.1)
  (some ((4,()),(((),AF,(),(),(),AM,(),(),(),(),AG,()),b1,b2,b3,b4,b5,b6,b7,b8,())))
 (if(0:Int)<=p1/\p1<(b2.length:Int)then(
 if(0:Int)<=(0:Int)/\(0:Int)<(b6.length:Int)then(
 some ((0,()),(((),AF,(),(),(),AM,(),(),(),(),AG,()),b1,(b2.set (p1.toNat) (u5.2.1,u5.2.2.1,u5.1.1.1.2.2.1,())),b3,b4,b5,(b6.set 0 (u8.1.1.1.1,u8.1.1.1.2.1,u8.2.1,u8.2.2.1,u8.1.1.1.2.2.2.2.1,u8.2.2.2.1,())),b7,b8,())))else none)else none)))else none))else none)) v
theorem AKk:vL []:=by delta vL;intros;kernel_rfl
theorem AL8:∀ω:List Bool,vL (false::ω):=by refine AE ?_ ?_ (AE ?_ (AE ?_ ?_ (AE ?_ ?_ ?_)) (AE ?_ ?_ (AE ?_ ?_ ?_)))<;>(delta vL;intros;kernel_rfl)
theorem AMz:∀ω:List Bool,vL (true::ω):=by refine AE ?_ ?_ (AE ?_ (AE ?_ ?_ (AE ?_ ?_ ?_)) (AE ?_ ?_ (AE ?_ ?_ ?_)))<;>(delta vL;intros;kernel_rfl)
theorem AV9(xZ:AAi->Int->Int->Option Hz)(ADp:ABR->Int->Option Uh)(AC6:AAb->AAu->Int->AAa->Option J6)(AD8:ABR->Int->Option KE)(n:Nat)(ω:List Bool)(v:i164.V):DB ⟨T,Ry [(235,⟨AAd,AHm,AAd.un xZ⟩),(250,⟨AGb,AOI,AGb.un ADp⟩),(251,⟨AE9,AOm,AE9.un AC6⟩),(252,⟨AHF,AMO,AHF.un AD8⟩)],CV [(7,[0,1,2,3,4,5,6,7,8,9]),(8,[0,1,2,3,4,5,6,7,8,9,10,11,12]),(11,[0,1,3,4,5,7,8,9,13])]⟩ c164 Tryz.f164 (M3 9 AIK n) ω v=i164.un (fun(p1:Int) (AF:Int) (AM:Int) (AG:Bool) (b1:AAN) (b2:AAT) (b3:AAN) (b4:AAU) (b5:AAX) (b6:AAY) (b7:AAV) (b8:AAW)=>
 cond (((b6.length:Int)==0))
  (some ((2,()),(((),AF,(),(),(),AM,(),(),(),(),AG,()),b1,b2,b3,b4,b5,b6,b7,b8,())))
 (if(0:Int)<=(0:Int)/\(0:Int)<(b6.length:Int)then(
 (xZ (b1,AF,b2,b3,b4,AM,b5,b6,b7,b8,AG,()) p1 ((b6.getD 0 (0,0,[],[],false,[],())).2.1)).bind fun u3=>
 cond (u3.1.1 !=0)
  (some ((u3.1.1,()),(((),AF,(),(),(),AM,(),(),(),(),AG,()),b1,b2,b3,b4,b5,b6,b7,b8,())))
 (if(0:Int)<=p1/\p1<(b2.length:Int)then(
 (ADp ((b2.getD (p1.toNat) ([],[],0,())).1,(b2.getD (p1.toNat) ([],[],0,())).2.1,(b2.getD (p1.toNat) ([],[],0,())).2.2.1,()) (AW (((b6.getD 0 (0,0,[],[],false,[],())).1)-1))).bind fun u5=>
 (AD8 (u5.2.1,u5.2.2.1,u5.1.1.1.2.2.1,()) ((b6.getD 0 (0,0,[],[],false,[],())).2.1)).bind fun u7=>
 (AC6 (b1,AF,()) ((b6.getD 0 (0,0,[],[],false,[],())).1,(b6.getD 0 (0,0,[],[],false,[],())).2.1,(b6.getD 0 (0,0,[],[],false,[],())).2.2.1,(b6.getD 0 (0,0,[],[],false,[],())).2.2.2.1,(b6.getD 0 (0,0,[],[],false,[],())).2.2.2.2.1,(b6.getD 0 (0,0,[],[],false,[],())).2.2.2.2.2.1,()) p1 u7.2.1).bind fun u8=>
 cond (!u5.1.1.2.1)
  (some ((4,()),(((),AF,(),(),(),AM,(),(),(),(),AG,()),b1,b2,b3,b4,b5,b6,b7,b8,())))
 (cond (!u8.1.1.2.1)
  (some ((4,()),(((),AF,(),(),(),AM,(),(),(),(),AG,()),b1,b2,b3,b4,b5,b6,b7,b8,())))
 (if(0:Int)<=p1/\p1<(b2.length:Int)then(
 if(0:Int)<=(0:Int)/\(0:Int)<(b6.length:Int)then(
 some ((0,()),(((),AF,(),(),(),AM,(),(),(),(),AG,()),b1,(b2.set (p1.toNat) (u5.2.1,u5.2.2.1,u5.1.1.1.2.2.1,())),b3,b4,b5,(b6.set 0 (u8.1.1.1.1,u8.1.1.1.2.1,u8.2.1,u8.2.2.1,u8.1.1.1.2.2.2.2.1,u8.2.2.2.1,())),b7,b8,())))else none)else none)))else none))else none)) v:=(AE AKk AL8 AMz) ω xZ ADp AC6 AD8 n v
theorem AVj(n:Nat)(ω:List Bool)(v:i164.V):DB AUg c164 Tryz.f164 (M3 9 AIK n) ω v=i164.un (KI) v:=AV9 Dd OZ QL QJ n ω v
def AXd:SQ:=mk Tryz.func164 i164 AMF KI [AFY,ARy,AQj,APV] [(7,[0,1,2,3,4,5,6,7,8,9]),(8,[0,1,2,3,4,5,6,7,8,9,10,11,12]),(11,[0,1,3,4,5,7,8,9,13])] AIK (hJ:= .nil) (he:=AVj AX)
def AXq:SQ:=mk Tryz.func365 AG8 dq gQ [wW,AA0] [] [⟨5,⟨[(2,bt),(7,qR),(22,bt),(23,BB),(24,BB)],uB⟩,Sd⟩]
def ARj:SQ:=mk Tryz.func325 AG8 Bu G1 [wW,tc,AJF,AXq] [(3,[0,1])] []
abbrev AOP:Bc:=AJ8
abbrev ASh:Bc:=xz
def ARh:SQ:=mk Tryz.func253 AOP ASh QS [s77,ABs,AJF,ARg,AM1,ARj] [(1,[0,1,2])] []
abbrev AAl:Bc:=AFs
abbrev AOW:Bc:=qn
def ASo:Qv:=⟨AAl,AOW,(AAl.un KJ)⟩
def AUs:cQ:=⟨T,Ry (SP.l [xt,AIS,ARh]),CV [(3,[0,1,2,3,4,5,6,7,8]),(4,[0,1,2,3,4,5,7,8,9])]⟩
def ANZ:List (Lp AOW):=[]
theorem ATl(ADN:Bool->Option fD)(ARd:AA6->Int->Option eF)(APl:AAb->AAu->List Int->Option eO)(n:Nat)(ω:List Bool)(v:AAl.V):DB ⟨T,Ry [(169,⟨AHJ,ANI,AHJ.un ADN⟩),(240,⟨AMs,AQb,AMs.un ARd⟩),(253,⟨AOP,ASh,AOP.un APl⟩)],CV [(3,[0,1,2,3,4,5,6,7,8]),(4,[0,1,2,3,4,5,7,8,9])]⟩ ASo Tryz.f165 (M3 9 ANZ n) ω v=AAl.un (fun(AF:Int) (AM:Int) (AG:Bool) (b1:AAN) (b2:AAT) (b3:AAN) (b4:AAU) (b5:AAX) (b6:AAY) (b7:AAV) (b8:AAW)=>
 cond (((b6.length:Int)==0))
  (some ((2,()),(((),AF,(),(),(),AM,(),(),(),(),AG,()),b1,b2,b3,b4,b5,b6,b7,b8,())))
 (if(0:Int)<=(0:Int)/\(0:Int)<(b6.length:Int)then(
 if(0:Int)<=(0:Int)/\(0:Int)<(b6.length:Int)then(
 (ARd (b4,AM,()) ((b6.getD 0 (0,0,[],[],false,[],())).2.1)).bind fun u3=>
 (APl (b1,AF,()) ((b6.getD 0 (0,0,[],[],false,[],())).1,(b6.getD 0 (0,0,[],[],false,[],())).2.1,(b6.getD 0 (0,0,[],[],false,[],())).2.2.1,(b6.getD 0 (0,0,[],[],false,[],())).2.2.2.1,(b6.getD 0 (0,0,[],[],false,[],())).2.2.2.2.1,(b6.getD 0 (0,0,[],[],false,[],())).2.2.2.2.2.1,()) u3.2.1).bind fun u4=>
 if(0:Int)<=(0:Int)/\(0:Int)<(b6.length:Int)then(
 (ADN u4.1.1.2.1).bind fun u6=>
 some ((u6.1.1,()),(((),AF,(),(),(),AM,(),(),(),(),AG,()),b1,b2,b3,b4,b5,(b6.set 0 (u4.1.1.1.1,u4.1.1.1.2.1,u4.2.1,u4.2.2.1,u4.1.1.1.2.2.2.2.1,u4.2.2.2.1,())),b7,b8,())))else none)else none)else none)) v:=by rcases ω with _|⟨_|_,_|⟨_|_,_⟩⟩<;>kernel_rfl
theorem ATt(n:Nat)(ω:List Bool)(v:AAl.V):DB AUs ASo Tryz.f165 (M3 9 ANZ n) ω v=AAl.un (KJ) v:=ATl J8 Is QS n ω v
def AVa:SQ:=mk Tryz.func165 AAl AOW KJ [xt,AIS,ARh] [(3,[0,1,2,3,4,5,6,7,8]),(4,[0,1,2,3,4,5,7,8,9])] ANZ (hJ:= .nil) (he:=ATt AX)
def AXG:SQ:=mk Tryz.func166 ACn qn S5 [AFY,AM4,AN6] [] []
abbrev AOG:Bc:=zP
abbrev AS7:Bc:=Bu
def ARU:SQ:=mk Tryz.func255 AOG AS7 Oz [tc,ABs] [] [⟨4,⟨[(2,Ko),(17,AIo),(18,BB),(19,BB)],AMW⟩,Ki⟩]
abbrev AMc:Bc:=AJp
abbrev ASl:Bc:=ACR
def APW:SQ:=mk Tryz.func256 AMc ASl QP [s69,s74,Rw,ALS,AIz] [(5,[0,1,2,4])] []
abbrev i167:Bc:=AFs
abbrev ANg:Bc:=⟨rr,[.mem [.ref 1,.v tI,.ref 2,.ref 3,.ref 9,.v tI,.ref 5,.ref 10,.ref 7,.ref 8,.v .bool],DV,XT,DV,P4,UW,P4,P7,Lq,MO,Tj]⟩
def c167:Qv:=⟨i167,ANg,(i167.un I2)⟩
def AWH:cQ:=⟨T,Ry (SP.l [xt,ARU,APW]),CV [(3,[0,1,2,3,4,5,6,7,8]),(5,[0,1,2,3,4,5,6,7,8])]⟩
def AMf:List (Lp ANg):=[]
theorem AUt(ADN:Bool->Option fD)(AP0:AAb->AAu->Option Ld)(ASD:AAb->AA6->Int->Int->Option dk)(n:Nat)(ω:List Bool)(v:i167.V):DB ⟨T,Ry [(169,⟨AHJ,ANI,AHJ.un ADN⟩),(255,⟨AOG,AS7,AOG.un AP0⟩),(256,⟨AMc,ASl,AMc.un ASD⟩)],CV [(3,[0,1,2,3,4,5,6,7,8]),(5,[0,1,2,3,4,5,6,7,8])]⟩ c167 Tryz.f167 (M3 9 AMf n) ω v=i167.un (fun(AF:Int) (AM:Int) (AG:Bool) (b1:AAN) (b2:AAT) (b3:AAN) (b4:AAU) (b5:AAX) (b6:AAY) (b7:AAV) (b8:AAW)=>
 cond (((b6.length:Int)==0))
  (some ((2,()),(((),AF,(),(),(),AM,(),(),(),(),AG,()),b1,b2,b3,(),b5,(),b7,b8,b4,b6,())))
 (if(0:Int)<=(0:Int)/\(0:Int)<(b6.length:Int)then(
 (AP0 (b1,AF,()) ((b6.getD 0 (0,0,[],[],false,[],())).1,(b6.getD 0 (0,0,[],[],false,[],())).2.1,(b6.getD 0 (0,0,[],[],false,[],())).2.2.1,(b6.getD 0 (0,0,[],[],false,[],())).2.2.2.1,(b6.getD 0 (0,0,[],[],false,[],())).2.2.2.2.1,(b6.getD 0 (0,0,[],[],false,[],())).2.2.2.2.2.1,())).bind fun u2=>
 cond (!u2.1.1)
  (some ((5,()),(((),AF,(),(),(),AM,(),(),(),(),AG,()),b1,b2,b3,(),b5,(),b7,b8,b4,b6,())))
 (if(0:Int)<=(0:Int)/\(0:Int)<(b6.length:Int)then(
 if(0:Int)<=(0:Int)/\(0:Int)<(b6.length:Int)then(
 (ASD (b1,AF,()) (b4,AM,()) ((b6.getD 0 (0,0,[],[],false,[],())).1) (((b6.getD 0 (0,0,[],[],false,[],())).2.2.2.2.2.1).length:Int)).bind fun u5=>
 cond (u5.1.1.2.1)
  ((ADN u5.1.1.2.1).bind fun u6=>
  some ((u6.1.1,()),(((),AF,(),(),(),u5.1.1.1.2.1,(),(),(),(),AG,()),b1,b2,b3,(),b5,(),b7,b8,u5.2.1,[],())))
 ((ADN u5.1.1.2.1).bind fun u7=>
 some ((u7.1.1,()),(((),AF,(),(),(),AM,(),(),(),(),AG,()),b1,b2,b3,(),b5,(),b7,b8,b4,b6,()))))else none)else none))else none)) v:=by rcases ω with _|⟨_|_,_⟩<;>kernel_rfl
theorem AWC(n:Nat)(ω:List Bool)(v:i167.V):DB AWH c167 Tryz.f167 (M3 9 AMf n) ω v=i167.un (I2) v:=AUt J8 Oz QP n ω v
def AVO:SQ:=mk Tryz.func167 i167 ANg I2 [xt,ARU,APW] [(3,[0,1,2,3,4,5,6,7,8]),(5,[0,1,2,3,4,5,6,7,8])] AMf (hJ:= .nil) (he:=AWC AX)
def AT6:SQ:=mk Tryz.func168 AJd ACR XY [s69,s74,qu,Rw,AIz] [(1,[0,1,2])] []
def AV2:SQ:=mk Tryz.func330 ACS ET Qm [] [] [⟨2,⟨[(1,Ko),(6,AJE),(7,BB),(8,BB)],[AIE]⟩,Jj⟩]
abbrev AG7:Bc:=yO
abbrev ALo:Bc:=ET
def AP2:SQ:=mk Tryz.func260 AG7 ALo RU [AV2] [] [⟨2,⟨[(1,BB),(8,.c (.sl false Y6)),(9,BB),(10,BB)],[]⟩,PD⟩]
def AXR:SQ:=mk Tryz.func327 ⟨[(0,tq)],[]⟩ dq PZ [] [] [⟨3,⟨[(3,qR),(7,tq),(8,BB),(9,BB)],uB⟩,Mt⟩]
def ASG:SQ:=mk Tryz.func328 ⟨[(0,Ko),(1,.row Y8)],AKF⟩ AKU E4 [] [(1,[2])] [] (he:=fun ω v=>by rcases ω with _|⟨_|_,_⟩<;>kernel_rfl)
def ATv:SQ:=mk Tryz.func368 ⟨[(0,tq),(1,bt),(2,BB)],[]⟩ AAO Z4 [AA0,AIs,AR0] [] [⟨3,⟨[(1,bt),(2,BB),(6,Ko),(8,cV),(9,xP4),(13,tq),(14,BB),(15,BB)],[ADL,ADL]⟩,O2⟩]
def AU6:SQ:=mk Tryz.func329 ⟨[(0,Ko),(1,tq),(2,bt)],AKF⟩ AKU C2 [uC,ASG,ATv] [(0,[0,1])] []
abbrev AGA:Bc:=AKY
abbrev AK2:Bc:=⟨APw,[.sl 1 Y8]⟩
def AQc:SQ:=mk Tryz.func259 AGA AK2 J5 [s69,s78,AMt,qu,AI_,wW,AS0,AJF,ARj,AXR,ASG,AU6] [(1,[0,1,2,3]),(8,[0,1,2,3,4,8,9]),(11,[0,1,2,3,4,5,6,7])] []
abbrev ABf:Bc:=⟨AQ_,AKH⟩
abbrev ANH:Bc:=⟨rr,AKH⟩
def AIR:Qv:=⟨ABf,ANH,(ABf.un My)⟩
def AS1:cQ:=⟨T,Ry (SP.l [Rw,AEK,uC,AJB,AGK,AQc,AP2]),CV [(13,[0,1,2,3,4,5,6,7,8,9,10,11]),(16,[0,1,2,3,4,5,6,8,9,10,11])]⟩
def AFa:List (Lp ANH):=[⟨7,⟨[(0,Ko),(1,BB),(7,h_),(8,BB),(10,.c (.ref 10)),(43,.c (.ref 11)),(44,BB),(45,BB)],[w9,DV,XT,DV,MO,UW,Tj,.sl 1 Y9,Lq,.mem [.v tI,.v tI,.sl true Y8],.sl 9 Y13,Ih]⟩,C8⟩]
abbrev nR:Bc:=⟨[(0,Ko),(1,BB),(7,h_),(8,BB),(10,.c (.ref 10)),(43,.c (.ref 11)),(44,BB),(45,BB)],[w9,DV,XT,DV,MO,UW,Tj,.sl 1 Y9,Lq,.mem [.v tI,.v tI,.sl true Y8],.sl 9 Y13,Ih]⟩
theorem ANP(lK:Int->Int->Int->Option ND)(ABM:AAi->Int->Option LF)(th:Int->Int->Option La)(ABY:Int->Option HP)(xV:ABR->Int->Option Ms)(AIZ:AAb->AA6->Int->ACD->ACU->Option Kf)(AJG:AAi->Int->Option NJ)(n:Nat)(v:nR.V)(ω:List Bool):Ke ⟨T,Ry [(139,⟨i139,AD_,i139.un lK⟩),(142,⟨ABD,AHX,ABD.un ABM⟩),(228,⟨i228,AEo,i228.un th⟩),(231,⟨ABk,AH6,ABk.un ABY⟩),(258,⟨xh,AFq,xh.un xV⟩),(259,⟨AGA,AK2,AGA.un AIZ⟩),(260,⟨AG7,ALo,AG7.un AJG⟩)],CV [(13,[0,1,2,3,4,5,6,7,8,9,10,11]),(16,[0,1,2,3,4,5,6,8,9,10,11])]⟩ AIR Tryz.f170 (M3 9 AFa n) 7 ω (nR.st 111 v)=nR.un (fun(t1:Int) (t8:Int) (t44:Int) (t45:Int) (AF:Int) (AM:Int) (AG:Bool) (b1:AAN) (b2:AAT) (b3:AAN) (b4:AAU) (b5:AAX) (b6:AAY) (b7:AAV) (b8:AAW) (j7:Int) (EE:Int) (fH:ACH) (N3:ACU) (G6:AAN)=>
 cond (decide (t45<t44))
  (if(0:Int)<=t45/\t45<(G6.length:Int)then(
  let x8:Int:=(G6.getD (t45.toNat) 0)
  cond ((decide (x8<(b2.length:Int))))
   ((ABM (b1,AF,b2,b3,b4,AM,b5,b6,b7,b8,AG,()) x8).bind fun FE=>
   cond (!FE.1.1)
    (if(0:Int)<=x8/\x8<(b2.length:Int)then(
    (xV ((b2.getD (x8.toNat) ([],[],0,())).1,(b2.getD (x8.toNat) ([],[],0,())).2.1,(b2.getD (x8.toNat) ([],[],0,())).2.2.1,()) t8).bind fun Hj=>
    if N3.length+1<=Go.M.Cm then(
    (C8 n) t1 t8 t44 (AW (t45+1)) AF AM AG b1 b2 b3 b4 b5 b6 b7 b8 j7 EE fH (N3++[(x8,Hj.1.1.2.1,Hj.1.1.1.1,Hj.1.1.1.2.1,Hj.1.1.1.2.2.1,Hj.1.1.1.2.2.2.1,())]) G6)else none)else none)
   ((C8 n) t1 t8 t44 (AW (t45+1)) AF AM AG b1 b2 b3 b4 b5 b6 b7 b8 j7 EE fH N3 G6))
  ((C8 n) t1 t8 t44 (AW (t45+1)) AF AM AG b1 b2 b3 b4 b5 b6 b7 b8 j7 EE fH N3 G6))else none)
 ((AJG (b1,AF,b2,b3,b4,AM,b5,b6,b7,b8,AG,()) j7).bind fun WL=>
 (AIZ (b1,AF,()) (b4,AM,()) WL.1.1 (j7,EE,fH,()) N3).bind fun Pd=>
 cond (Pd.1.1.2.1 !=0)
  (some ((5,()),(((),AF,(),(),(),AM,(),(),(),(),AG,()),b1,b2,b3,b4,b5,b6,b7,b8,())))
 (if(0:Int)<=t1/\t1<(b7.length:Int)then(
 some ((0,()),(((),AF,(),(),(),AM,(),(),(),(),AG,()),b1,b2,b3,b4,b5,b6,(b7.set (t1.toNat) (Pd.1.1.1.1,Pd.1.1.1.2.1,Pd.2.1,())),b8,())))else none))) v:=by rcases ω with _|⟨_|_,_|⟨_|_,_⟩⟩<;>kernel_rfl
theorem ALh(n:Nat)(v:nR.V)(ω:List Bool):Ke AS1 AIR Tryz.f170 (M3 9 AFa n) 7 ω (nR.st 111 v)=nR.un (NT (C8 n)) v:=ANP Ay C4 DP Hp GL J5 RU n v ω
theorem AWy(lK:Int->Int->Int->Option ND)(ABM:AAi->Int->Option LF)(th:Int->Int->Option La)(ABY:Int->Option HP)(xV:ABR->Int->Option Ms)(AIZ:AAb->AA6->Int->ACD->ACU->Option Kf)(AJG:AAi->Int->Option NJ)(n:Nat)(ω:List Bool)(v:ABf.V):DB ⟨T,Ry [(139,⟨i139,AD_,i139.un lK⟩),(142,⟨ABD,AHX,ABD.un ABM⟩),(228,⟨i228,AEo,i228.un th⟩),(231,⟨ABk,AH6,ABk.un ABY⟩),(258,⟨xh,AFq,xh.un xV⟩),(259,⟨AGA,AK2,AGA.un AIZ⟩),(260,⟨AG7,ALo,AG7.un AJG⟩)],CV [(13,[0,1,2,3,4,5,6,7,8,9,10,11]),(16,[0,1,2,3,4,5,6,8,9,10,11])]⟩ AIR Tryz.f170 (M3 9 AFa n) ω v=ABf.un (fun(p1:Int) (p2:Int) (AF:Int) (AM:Int) (AG:Bool) (b1:AAN) (b2:AAT) (b3:AAN) (b4:AAU) (b5:AAX) (b6:AAY) (b7:AAV) (b8:AAW)=>
 (lK p1 0 (AW ((b7.length:Int)-1))).bind fun u2=>
 cond (!u2.1.1)
  (some ((2,()),(((),AF,(),(),(),AM,(),(),(),(),AG,()),b1,b2,b3,b4,b5,b6,b7,b8,())))
 (if(0:Int)<=p1/\p1<(b7.length:Int)then(
 (th ((b7.getD (p1.toNat) (0,0,[],())).1) ((b7.getD (p1.toNat) (0,0,[],())).2.1)).bind fun u5=>
 (ABY p2).bind fun u6=>
 (C8 n) p1 u5.1.1.1 (u6.2.1.length:Int) 0 AF AM AG b1 b2 b3 b4 b5 b6 b7 b8 ((b7.getD (p1.toNat) (0,0,[],())).1) ((b7.getD (p1.toNat) (0,0,[],())).2.1) ((b7.getD (p1.toNat) (0,0,[],())).2.2.1) [] u6.2.1)else none)) v:=by kernel_rfl
theorem AUO(n:Nat)(ω:List Bool)(v:ABf.V):DB AS1 AIR Tryz.f170 (M3 9 AFa n) ω v=ABf.un (NR (C8 n)) v:=AWy Ay C4 DP Hp GL J5 RU n ω v
def AX0:SQ:=mk Tryz.func170 ABf ANH My [Rw,AEK,uC,AJB,AGK,AQc,AP2] [(13,[0,1,2,3,4,5,6,7,8,9,10,11]),(16,[0,1,2,3,4,5,6,8,9,10,11])] AFa (hJ:= .cons (fun _=>rfl) ALh (.nil)) (he:=AUO AX)
def ARZ:SQ:=mk Tryz.func332 ⟨[(0,.row Y1),(1,.c (.pT (.cons tI .unit)))],[]⟩ Bu PW [] [] []
def AU4:SQ:=mk Tryz.func369 ⟨[(0,ZP),(1,AHr)],[]⟩ ET Ci [ARZ] [] [⟨2,⟨[(0,ZP),(1,AHr),(7,BB),(8,BB)],[]⟩,BK⟩]
def AXQ:SQ:=mk Tryz.func331 ⟨[(0,qR),(1,AHr)],vf⟩ AJV Br [ARZ,AU4] [] [⟨5,⟨[(0,qR),(1,AHr),(5,BB),(6,BB)],vf⟩,BI⟩]
def AXr:SQ:=mk Tryz.func261 jz ACI Ta [s75,AB0,xU,AIV,AXQ] [] []
def AW3:SQ:=mk Tryz.func171 vu qn Pg [xt,AGG,AXr] [(4,[0,1,2,3,4,5,6,7,8]),(5,[0,1,3,4,5,6,7,8])] [] (he:=fun ω v=>by rcases ω with _|⟨_|_,_⟩<;>kernel_rfl)
def AUf:SQ:=AW2 (ρ:=Jl 0 172 0 0 40 105) (nm:= "slices.Delete[[]loop.example/g00178/impl.Writer,loop.example/g00178/impl.Writer]") tOk (oG.del ⟨by kernel_rfl,by kernel_rfl,by kernel_rfl,by kernel_rfl,by kernel_rfl,by kernel_rfl,by kernel_rfl,by kernel_rfl,by kernel_rfl,by kernel_rfl,by kernel_rfl,by kernel_rfl⟩ mx (by kernel_rfl) (by kernel_rfl)) (r:=Y6) 2 rfl (by kernel_rfl) (by kernel_rfl) Ez (fun _=>rfl)
def s86:SQ:=mk Tryz.func86 AJ0 ⟨rr,[.mem [.ref 1,.v tI,.ref 2,.ref 9,.ref 10,.v tI,.ref 11,.ref 12,.ref 7,.ref 13,.v .bool],DV,ZO,P4,P4,P4,P4,.sl 1 Y9,P4,DV,MO,UW,.sl 2 Y7,Lq]⟩ Uz [Rw,AW8,AXf,AUY,AUX,AWG,AXN,AWo,AWF,AXd,AVa,AXG,AVO,AT6,xt,AX0,AW3,AUf] [(27,[0,1,2,3,4,5,6,7,8,9]),(34,[0,1,2,3,4,5,6,7,8,9]),(36,[1,2,3,4,6,7,8,9])] [] (he:=fun ω v=>by rcases ω with _|⟨_|_,_⟩<;>kernel_rfl)
def s40:SQ:=mk Tryz.func40 AKC ⟨AOV,AJY⟩ MT [s36,s37,s85,s86] [] []
def s14:SQ:=mk Tryz.func14 AG9 ⟨ASe,AJY⟩ O5 [s20,s36,s37,s38,s39,s40] [(10,[0]),(12,[0]),(17,[0,2,3,4,5,6,7,8,9,10,11])] [] (he:=fun ω v=>by rcases ω with _|⟨_|_,_|⟨_|_,_⟩⟩<;>kernel_rfl)
def s9:SQ:=mk Tryz.func9 AG0 AJ9 Mk [s13,s14,s25] [] [⟨11,⟨[(6,ARe),(7,Ko),(9,az),(45,ARe),(46,BB),(47,BB)],[w9,DV,ZO,DV,MO,UW,.sl 2 Y7,.sl 1 Y9,Lq]⟩,JF⟩]
def s26:SQ:=mk Tryz.func26 ACj Bu aC [] [] [⟨4,⟨[(0,bt),(1,bt),(5,BB)],[]⟩,Ol⟩]
def s10:SQ:=mk Tryz.func10 ⟨[(0,qZ),(1,qZ)],[]⟩ Bu Uu [s26] [] []
abbrev i3:Bc:=AG0
abbrev o3:Bc:=Bu
def s3:SQ:=mk Tryz.func3 i3 o3 IY [s6,s7,s8,s9,s10] [(12,[0,1,2,3])] []
end
end Go.Proofs.YtbjkhapllnkhfaaGreatDoor.Wk
