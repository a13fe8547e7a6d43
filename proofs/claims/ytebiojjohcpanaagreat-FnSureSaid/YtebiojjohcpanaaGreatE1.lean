/- Each function computes what was printed: by the kernel. -/
import Derived.Test.YtebiojjohcpanaaGreatE0
import Derived.Test.YtebiojjohcpanaaGreatProg
import Derived.KernelRfl
set_option linter.unusedVariables false
set_option linter.unusedSimpArgs false
set_option linter.unusedSectionVars false
namespace Go.Proofs.YtebiojjohcpanaaGreat.Wk
open Go Go.Fw Go.M Go.Proofs
noncomputable section
abbrev tT:BX:=sJ
abbrev AR4:BX:=⟨l9,[ABa,Df,V3,Df,Mp,TT,.sl 2 Y7,PQ,Ls]⟩
def AMc:QP:=⟨tT,AR4,(tT.un Jr)⟩
def AX9:Z9:=⟨T,QA (SP.l [ADq,AUs,AUe,AUT]),CO [(7,[0,1,2,3,4,5,6,7,8,9]),(8,[0,1,2,3,4,5,6,7,8,9,10,11,12]),(11,[0,1,3,4,5,7,8,9,13])]⟩
def AK6:List (Lp AR4):=[]
def Dv(ω:List Bool):Prop:= ∀(uE:ABS→Int→Int→Option H6) (ACT:ACP→Int→Option S_) (ABC:ABO→ABi→Int→AA_→Option J3) (ACA:ACP→Int→Option Jw) (n:Nat) (v:tT.V),DP ⟨T,QA [(191,⟨zE,AI3,zE.un uE⟩),(203,⟨i203,ASX,i203.un ACT⟩),(204,⟨AE4,AQe,AE4.un ABC⟩),(205,⟨ADh,AMv,ADh.un ACA⟩)],CO [(7,[0,1,2,3,4,5,6,7,8,9]),(8,[0,1,2,3,4,5,6,7,8,9,10,11,12]),(11,[0,1,3,4,5,7,8,9,13])]⟩ AMc Tryz.f120 (Lr 9 AK6 n) ω v=tT.un (fun(p1:Int) (AE:Int) (AU:Int) (AK:Bool) (b1:AAH) (b2:AAQ) (b3:AAH) (b4:AAk) (b5:AAt) (b6:AAu) (b7:AA2) (b8:AAs)=>
 cond (((b6.length:Int)==0))
  (some ((2,()),(((),AE,(),(),(),AU,(),(),(),(),AK,()),b1,b2,b3,b4,b5,b6,b7,b8,())))
 (if(0:Int)≤(0:Int)∧(0:Int)<(b6.length:Int)then(
 (uE (b1,AE,b2,b3,b4,AU,b5,b6,b7,b8,AK,()) p1 ((b6.getD 0 (0,0,[],[],false,[],())).2.1)).bind fun u3=>
 cond (u3.1.1 !=0)
  (some ((u3.1.1,()),(((),AE,(),(),(),AU,(),(),(),(),AK,()),b1,b2,b3,b4,b5,b6,b7,b8,())))
 (if(0:Int)≤p1∧p1<(b2.length:Int)then(
 (ACT ((b2.getD (p1.toNat) ([],[],0,())).1,(b2.getD (p1.toNat) ([],[],0,())).2.1,(b2.getD (p1.toNat) ([],[],0,())).2.2.1,()) (AX (((b6.getD 0 (0,0,[],[],false,[],())).1)-1))).bind fun u5=>
 (ACA (u5.2.1,u5.2.2.1,u5.1.1.1.2.2.1,()) ((b6.getD 0 (0,0,[],[],false,[],())).2.1)).bind fun u7=>
 (ABC (b1,AE,()) ((b6.getD 0 (0,0,[],[],false,[],())).1,(b6.getD 0 (0,0,[],[],false,[],())).2.1,(b6.getD 0 (0,0,[],[],false,[],())).2.2.1,(b6.getD 0 (0,0,[],[],false,[],())).2.2.2.1,(b6.getD 0 (0,0,[],[],false,[],())).2.2.2.2.1,(b6.getD 0 (0,0,[],[],false,[],())).2.2.2.2.2.1,()) p1 u7.2.1).bind fun u8=>
 cond (!u5.1.1.2.1)
  (some ((4,()),(((),AE,(),(),(),AU,(),(),(),(),AK,()),b1,b2,b3,b4,b5,b6,b7,b8,())))
 (cond (!u8.1.1.2.1)
  (some ((4,()),(((),AE,(),(),(),AU,(),(),(),(),AK,()),b1,b2,b3,b4,b5,b6,b7,b8,())))
 (if(0:Int)≤p1∧p1<(b2.length:Int)then(
 if(0:Int)≤(0:Int)∧(0:Int)<(b6.length:Int)then(
 some ((0,()),(((),AE,(),(),(),AU,(),(),(),(),AK,()),b1,(b2.set (p1.toNat) (u5.2.1,u5.2.2.1,u5.1.1.1.2.2.1,())),b3,b4,b5,(b6.set 0 (u8.1.1.1.1,u8.1.1.1.2.1,u8.2.1,u8.2.2.1,u8.1.1.1.2.2.2.2.1,u8.2.2.2.1,())),b7,b8,())))else none)else none)))else none))else none)) v
theorem AO1:Dv []:=by delta Dv;intros;kernel_rfl
theorem ANr:Dv (false::[]):=by delta Dv;intros;kernel_rfl
theorem APG(ω:List Bool):Dv (false::false::ω):=by delta Dv;intros;kernel_rfl
theorem AM0:Dv (false::true::[]):=by delta Dv;intros;kernel_rfl
theorem AOw:Dv (false::true::false::[]):=by delta Dv;intros;kernel_rfl
theorem ARo(ω:List Bool):Dv (false::true::false::false::ω):=by delta Dv;intros;kernel_rfl
theorem AMk:Dv (false::true::false::true::[]):=by delta Dv;intros;kernel_rfl
theorem ANn(ω:List Bool):Dv (false::true::false::true::false::ω):=by delta Dv;intros;kernel_rfl
theorem APg(ω:List Bool):Dv (false::true::false::true::true::ω):=by delta Dv;intros;kernel_rfl
theorem AIe:Dv (false::true::true::[]):=by delta Dv;intros;kernel_rfl
theorem AJi(ω:List Bool):Dv (false::true::true::false::ω):=by delta Dv;intros;kernel_rfl
theorem AF4:Dv (false::true::true::true::[]):=by delta Dv;intros;kernel_rfl
theorem AJS(ω:List Bool):Dv (false::true::true::true::false::ω):=by delta Dv;intros;kernel_rfl
theorem ALN(ω:List Bool):Dv (false::true::true::true::true::ω):=by delta Dv;intros;kernel_rfl
theorem AKo:Dv (true::[]):=by delta Dv;intros;kernel_rfl
theorem AJ8(ω:List Bool):Dv (true::false::ω):=by delta Dv;intros;kernel_rfl
theorem AI0:Dv (true::true::[]):=by delta Dv;intros;kernel_rfl
theorem AJr:Dv (true::true::false::[]):=by delta Dv;intros;kernel_rfl
theorem AF1(ω:List Bool):Dv (true::true::false::false::ω):=by delta Dv;intros;kernel_rfl
theorem AJK:Dv (true::true::false::true::[]):=by delta Dv;intros;kernel_rfl
theorem AG9(ω:List Bool):Dv (true::true::false::true::false::ω):=by delta Dv;intros;kernel_rfl
theorem AJY(ω:List Bool):Dv (true::true::false::true::true::ω):=by delta Dv;intros;kernel_rfl
theorem AJ_:Dv (true::true::true::[]):=by delta Dv;intros;kernel_rfl
theorem AJN(ω:List Bool):Dv (true::true::true::false::ω):=by delta Dv;intros;kernel_rfl
theorem AGk:Dv (true::true::true::true::[]):=by delta Dv;intros;kernel_rfl
theorem AGU(ω:List Bool):Dv (true::true::true::true::false::ω):=by delta Dv;intros;kernel_rfl
theorem AKf(ω:List Bool):Dv (true::true::true::true::true::ω):=by delta Dv;intros;kernel_rfl
theorem AbJ(uE:ABS→Int→Int→Option H6)(ACT:ACP→Int→Option S_)(ABC:ABO→ABi→Int→AA_→Option J3)(ACA:ACP→Int→Option Jw)(n:Nat)(ω:List Bool)(v:tT.V):DP ⟨T,QA [(191,⟨zE,AI3,zE.un uE⟩),(203,⟨i203,ASX,i203.un ACT⟩),(204,⟨AE4,AQe,AE4.un ABC⟩),(205,⟨ADh,AMv,ADh.un ACA⟩)],CO [(7,[0,1,2,3,4,5,6,7,8,9]),(8,[0,1,2,3,4,5,6,7,8,9,10,11,12]),(11,[0,1,3,4,5,7,8,9,13])]⟩ AMc Tryz.f120 (Lr 9 AK6 n) ω v=tT.un (fun(p1:Int) (AE:Int) (AU:Int) (AK:Bool) (b1:AAH) (b2:AAQ) (b3:AAH) (b4:AAk) (b5:AAt) (b6:AAu) (b7:AA2) (b8:AAs)=>
 cond (((b6.length:Int)==0))
  (some ((2,()),(((),AE,(),(),(),AU,(),(),(),(),AK,()),b1,b2,b3,b4,b5,b6,b7,b8,())))
 (if(0:Int)≤(0:Int)∧(0:Int)<(b6.length:Int)then(
 (uE (b1,AE,b2,b3,b4,AU,b5,b6,b7,b8,AK,()) p1 ((b6.getD 0 (0,0,[],[],false,[],())).2.1)).bind fun u3=>
 cond (u3.1.1 !=0)
  (some ((u3.1.1,()),(((),AE,(),(),(),AU,(),(),(),(),AK,()),b1,b2,b3,b4,b5,b6,b7,b8,())))
 (if(0:Int)≤p1∧p1<(b2.length:Int)then(
 (ACT ((b2.getD (p1.toNat) ([],[],0,())).1,(b2.getD (p1.toNat) ([],[],0,())).2.1,(b2.getD (p1.toNat) ([],[],0,())).2.2.1,()) (AX (((b6.getD 0 (0,0,[],[],false,[],())).1)-1))).bind fun u5=>
 (ACA (u5.2.1,u5.2.2.1,u5.1.1.1.2.2.1,()) ((b6.getD 0 (0,0,[],[],false,[],())).2.1)).bind fun u7=>
 (ABC (b1,AE,()) ((b6.getD 0 (0,0,[],[],false,[],())).1,(b6.getD 0 (0,0,[],[],false,[],())).2.1,(b6.getD 0 (0,0,[],[],false,[],())).2.2.1,(b6.getD 0 (0,0,[],[],false,[],())).2.2.2.1,(b6.getD 0 (0,0,[],[],false,[],())).2.2.2.2.1,(b6.getD 0 (0,0,[],[],false,[],())).2.2.2.2.2.1,()) p1 u7.2.1).bind fun u8=>
 cond (!u5.1.1.2.1)
  (some ((4,()),(((),AE,(),(),(),AU,(),(),(),(),AK,()),b1,b2,b3,b4,b5,b6,b7,b8,())))
 (cond (!u8.1.1.2.1)
  (some ((4,()),(((),AE,(),(),(),AU,(),(),(),(),AK,()),b1,b2,b3,b4,b5,b6,b7,b8,())))
 (if(0:Int)≤p1∧p1<(b2.length:Int)then(
 if(0:Int)≤(0:Int)∧(0:Int)<(b6.length:Int)then(
 some ((0,()),(((),AE,(),(),(),AU,(),(),(),(),AK,()),b1,(b2.set (p1.toNat) (u5.2.1,u5.2.2.1,u5.1.1.1.2.2.1,())),b3,b4,b5,(b6.set 0 (u8.1.1.1.1,u8.1.1.1.2.1,u8.2.1,u8.2.2.1,u8.1.1.1.2.2.2.2.1,u8.2.2.2.1,())),b7,b8,())))else none)else none)))else none))else none)) v:=(AF AO1 (AF ANr APG (AF AM0 (AF AOw ARo (AF AMk ANn APg)) (AF AIe AJi (AF AF4 AJS ALN)))) (AF AKo AJ8 (AF AI0 (AF AJr AF1 (AF AJK AG9 AJY)) (AF AJ_ AJN (AF AGk AGU AKf))))) ω uE ACT ABC ACA n v
theorem AaF(n:Nat)(ω:List Bool)(v:tT.V):DP AX9 AMc Tryz.f120 (Lr 9 AK6 n) ω v=tT.un (Jr) v:=AbJ Dg Np PX Ph n ω v
def AXQ:SQ:=mk Tryz.func120 tT AR4 Jr [ADq,AUs,AUe,AUT] [(7,[0,1,2,3,4,5,6,7,8,9]),(8,[0,1,2,3,4,5,6,7,8,9,10,11,12]),(11,[0,1,3,4,5,7,8,9,13])] AK6 (hJ:= .nil) (he:=AaF Ae)
def AXX:SQ:=mk Tryz.func302 AFZ dH dd [s74,zA] [] [⟨5,⟨[(2,aN),(7,nE),(22,aN),(23,BJ),(24,BJ)],qg⟩,SH⟩]
def AUp:SQ:=mk Tryz.func270 AFZ Cr G1 [s32,s74,AJ2,AXX] [(3,[0,1])] []
abbrev i206:BX:=ALZ
abbrev AVd:BX:=vd
def AVf:SQ:=mk Tryz.func206 i206 AVd Pb [s90,s98,AJ2,AT6,AOR,AUp] [(1,[0,1,2])] []
abbrev zB:BX:=AC7
abbrev AQG:BX:=od
def AT7:QP:=⟨zB,AQG,(zB.un Jt)⟩
def AZg:Z9:=⟨T,QA (SP.l [wE,AHV,AVf]),CO [(3,[0,1,2,3,4,5,6,7,8]),(4,[0,1,2,3,4,5,7,8,9])]⟩
def AQL:List (Lp AQG):=[]
theorem Aaq(AA1:Bool→Option cK)(AUG:ACC→Int→Option bL)(ATT:ABO→ABi→List Int→Option bj)(n:Nat)(ω:List Bool)(v:zB.V):DP ⟨T,QA [(125,⟨AFM,AOL,AFM.un AA1⟩),(156,⟨AOA,AWS,AOA.un AUG⟩),(206,⟨i206,AVd,i206.un ATT⟩)],CO [(3,[0,1,2,3,4,5,6,7,8]),(4,[0,1,2,3,4,5,7,8,9])]⟩ AT7 Tryz.f121 (Lr 9 AQL n) ω v=zB.un (fun(AE:Int) (AU:Int) (AK:Bool) (b1:AAH) (b2:AAQ) (b3:AAH) (b4:AAk) (b5:AAt) (b6:AAu) (b7:AA2) (b8:AAs)=>
 cond (((b6.length:Int)==0))
  (some ((2,()),(((),AE,(),(),(),AU,(),(),(),(),AK,()),b1,b2,b3,b4,b5,b6,b7,b8,())))
 (if(0:Int)≤(0:Int)∧(0:Int)<(b6.length:Int)then(
 if(0:Int)≤(0:Int)∧(0:Int)<(b6.length:Int)then(
 (AUG (b4,AU,()) ((b6.getD 0 (0,0,[],[],false,[],())).2.1)).bind fun u3=>
 (ATT (b1,AE,()) ((b6.getD 0 (0,0,[],[],false,[],())).1,(b6.getD 0 (0,0,[],[],false,[],())).2.1,(b6.getD 0 (0,0,[],[],false,[],())).2.2.1,(b6.getD 0 (0,0,[],[],false,[],())).2.2.2.1,(b6.getD 0 (0,0,[],[],false,[],())).2.2.2.2.1,(b6.getD 0 (0,0,[],[],false,[],())).2.2.2.2.2.1,()) u3.2.1).bind fun u4=>
 if(0:Int)≤(0:Int)∧(0:Int)<(b6.length:Int)then(
 (AA1 u4.1.1.2.1).bind fun u6=>
 some ((u6.1.1,()),(((),AE,(),(),(),AU,(),(),(),(),AK,()),b1,b2,b3,b4,b5,(b6.set 0 (u4.1.1.1.1,u4.1.1.1.2.1,u4.2.1,u4.2.2.1,u4.1.1.1.2.2.2.2.1,u4.2.2.2.1,())),b7,b8,())))else none)else none)else none)) v:=by rcases ω with _|⟨_|_,_|⟨_|_,_⟩⟩<;>kernel_rfl
theorem AbD(n:Nat)(ω:List Bool)(v:zB.V):DP AZg AT7 Tryz.f121 (Lr 9 AQL n) ω v=zB.un (Jt) v:=Aaq J0 Il Pb n ω v
def AX3:SQ:=mk Tryz.func121 zB AQG Jt [wE,AHV,AVf] [(3,[0,1,2,3,4,5,6,7,8]),(4,[0,1,2,3,4,5,7,8,9])] AQL (hJ:= .nil) (he:=AbD Ae)
def AZQ:SQ:=mk Tryz.func122 zy od RF [ADq,AOc,ANJ] [] []
abbrev i208:BX:=vh
abbrev AWg:BX:=Cr
def ATh:SQ:=mk Tryz.func208 i208 AWg Nk [s32,s98] [] [⟨4,⟨[(2,KA),(17,AF9),(18,BJ),(19,BJ)],AOp⟩,KL⟩]
abbrev ANo:BX:=AL8
abbrev AT3:BX:=AAe
def AVp:SQ:=mk Tryz.func209 ANo AT3 Pd [s36,gd,s46,s87,AIP] [(5,[0,1,2,4])] []
abbrev zC:BX:=AC7
abbrev AM_:BX:=⟨l9,[.mem [.ref 1,.v tI,.ref 2,.ref 3,.ref 9,.v tI,.ref 5,.ref 10,.ref 7,.ref 8,.v .bool],Df,V3,Df,PK,TT,PK,PQ,Ls,Mp,SV]⟩
def AUM:QP:=⟨zC,AM_,(zC.un I3)⟩
def AaI:Z9:=⟨T,QA (SP.l [wE,ATh,AVp]),CO [(3,[0,1,2,3,4,5,6,7,8]),(5,[0,1,2,3,4,5,6,7,8])]⟩
def AO6:List (Lp AM_):=[]
theorem AaZ(AA1:Bool→Option cK)(ATY:ABO→ABi→Option LJ)(AWV:ABO→ACC→Int→Int→Option bJ)(n:Nat)(ω:List Bool)(v:zC.V):DP ⟨T,QA [(125,⟨AFM,AOL,AFM.un AA1⟩),(208,⟨i208,AWg,i208.un ATY⟩),(209,⟨ANo,AT3,ANo.un AWV⟩)],CO [(3,[0,1,2,3,4,5,6,7,8]),(5,[0,1,2,3,4,5,6,7,8])]⟩ AUM Tryz.f123 (Lr 9 AO6 n) ω v=zC.un (fun(AE:Int) (AU:Int) (AK:Bool) (b1:AAH) (b2:AAQ) (b3:AAH) (b4:AAk) (b5:AAt) (b6:AAu) (b7:AA2) (b8:AAs)=>
 cond (((b6.length:Int)==0))
  (some ((2,()),(((),AE,(),(),(),AU,(),(),(),(),AK,()),b1,b2,b3,(),b5,(),b7,b8,b4,b6,())))
 (if(0:Int)≤(0:Int)∧(0:Int)<(b6.length:Int)then(
 (ATY (b1,AE,()) ((b6.getD 0 (0,0,[],[],false,[],())).1,(b6.getD 0 (0,0,[],[],false,[],())).2.1,(b6.getD 0 (0,0,[],[],false,[],())).2.2.1,(b6.getD 0 (0,0,[],[],false,[],())).2.2.2.1,(b6.getD 0 (0,0,[],[],false,[],())).2.2.2.2.1,(b6.getD 0 (0,0,[],[],false,[],())).2.2.2.2.2.1,())).bind fun u2=>
 cond (!u2.1.1)
  (some ((5,()),(((),AE,(),(),(),AU,(),(),(),(),AK,()),b1,b2,b3,(),b5,(),b7,b8,b4,b6,())))
 (if(0:Int)≤(0:Int)∧(0:Int)<(b6.length:Int)then(
 if(0:Int)≤(0:Int)∧(0:Int)<(b6.length:Int)then(
 (AWV (b1,AE,()) (b4,AU,()) ((b6.getD 0 (0,0,[],[],false,[],())).1) (((b6.getD 0 (0,0,[],[],false,[],())).2.2.2.2.2.1).length:Int)).bind fun u5=>
 cond (u5.1.1.2.1)
  ((AA1 u5.1.1.2.1).bind fun u6=>
  some ((u6.1.1,()),(((),AE,(),(),(),u5.1.1.1.2.1,(),(),(),(),AK,()),b1,b2,b3,(),b5,(),b7,b8,u5.2.1,[],())))
 ((AA1 u5.1.1.2.1).bind fun u7=>
 some ((u7.1.1,()),(((),AE,(),(),(),AU,(),(),(),(),AK,()),b1,b2,b3,(),b5,(),b7,b8,b4,b6,()))))else none)else none))else none)) v:=by rcases ω with _|⟨_|_,_⟩<;>kernel_rfl
theorem AXu(n:Nat)(ω:List Bool)(v:zC.V):DP AaI AUM Tryz.f123 (Lr 9 AO6 n) ω v=zC.un (I3) v:=AaZ J0 Nk Pd n ω v
def AbP:SQ:=mk Tryz.func123 zC AM_ I3 [wE,ATh,AVp] [(3,[0,1,2,3,4,5,6,7,8]),(5,[0,1,2,3,4,5,6,7,8])] AO6 (hJ:= .nil) (he:=AXu Ae)
def AYC:SQ:=mk Tryz.func124 ALl AAe Vf [gd,s46,s87,s95,AIP] [(1,[0,1,2])] []
def Aa8:SQ:=mk Tryz.func274 zQ Fg P3 [] [] [⟨2,⟨[(1,KA),(6,AJT),(7,BJ),(8,BJ)],[AKZ]⟩,JP⟩]
abbrev i212:BX:=wq
abbrev APr:BX:=Fg
def AUn:SQ:=mk Tryz.func212 i212 APr Qm [Aa8] [] [⟨2,⟨[(1,BJ),(8,.c (.sl false Y6)),(9,BJ),(10,BJ)],[]⟩,N5⟩]
def AYB:SQ:=mk Tryz.func271 ⟨[(0,qW)],[]⟩ dH Of [] [] [⟨3,⟨[(3,nE),(7,qW),(8,BJ),(9,BJ)],qg⟩,Mf⟩]
def s54:SQ:=mk Tryz.func54 ⟨[(0,BJ),(1,.row Y9)],[]⟩ Cr Vm [s95,APQ] [(2,[0])] []
def AUC:SQ:=mk Tryz.func272 ⟨[(0,KA),(1,.row Y8)],AMT⟩ AMN E_ [] [(1,[2])] [] (he:=fun ω v=>by rcases ω with _|⟨_|_,_⟩<;>kernel_rfl)
def AXU:SQ:=mk Tryz.func303 ⟨[(0,qW),(1,aN),(2,BJ)],[]⟩ wO X2 [zA,AK1,AVu] [] [⟨3,⟨[(1,aN),(2,BJ),(6,KA),(8,Zq),(9,xP0),(13,qW),(14,BJ),(15,BJ)],[ABQ,ABQ]⟩,OQ⟩]
def AXc:SQ:=mk Tryz.func273 ⟨[(0,KA),(1,qW),(2,aN)],AMT⟩ AMN C7 [s31,AUC,AXU] [(0,[0,1])] []
abbrev AFK:BX:=AML
abbrev ARv:BX:=⟨ATd,[.sl 1 Y8]⟩
def AT1:SQ:=mk Tryz.func211 AFK ARv Jz [s46,s54,s74,s91,s95,s99,APQ,AJ2,AUp,AYB,AUC,AXc] [(1,[0,1,2,3]),(8,[0,1,2,3,4,8,9]),(11,[0,1,2,3,4,5,6,7])] []
abbrev yh:BX:=⟨AVy,AMH⟩
abbrev ASM:BX:=⟨l9,AMH⟩
def AHm:QP:=⟨yh,ASM,(yh.un Mj)⟩
def AVZ:Z9:=⟨T,QA (SP.l [s31,gd,s60,s93,AHJ,AT1,AUn]),CO [(13,[0,1,2,3,4,5,6,7,8,9,10,11]),(16,[0,1,2,3,4,5,6,8,9,10,11])]⟩
def AFH:List (Lp ASM):=[⟨7,⟨[(0,KA),(1,BJ),(7,eL),(8,BJ),(10,.c (.ref 10)),(43,.c (.ref 11)),(44,BJ),(45,BJ)],[ABa,Df,V3,Df,Mp,TT,SV,.sl 1 Y9,Ls,.mem [.v tI,.v tI,.sl true Y8],.sl 9 Y14,Ft]⟩,DA⟩]
abbrev kY:BX:=⟨[(0,KA),(1,BJ),(7,eL),(8,BJ),(10,.c (.ref 10)),(43,.c (.ref 11)),(44,BJ),(45,BJ)],[ABa,Df,V3,Df,Mp,TT,SV,.sl 1 Y9,Ls,.mem [.v tI,.v tI,.sl true Y8],.sl 9 Y14,Ft]⟩
theorem AMm(g31:Int→Int→Option LP)(g43:Int→Int→Int→Option Mt)(g60:ACP→Int→Option Mi)(g93:ABS→Int→Option Ks)(yG:Int→Option HC)(AKQ:ABO→ACC→Int→ACh→ACe→Option KT)(AKU:ABS→Int→Option Ms)(n:Nat)(v:kY.V)(ω:List Bool):G2 ⟨T,QA [(31,⟨i31,o31,i31.un g31⟩),(43,⟨i43,o43,i43.un g43⟩),(60,⟨i60,o60,i60.un g60⟩),(93,⟨i93,o93,i93.un g93⟩),(188,⟨xy,AJO,xy.un yG⟩),(211,⟨AFK,ARv,AFK.un AKQ⟩),(212,⟨i212,APr,i212.un AKU⟩)],CO [(13,[0,1,2,3,4,5,6,7,8,9,10,11]),(16,[0,1,2,3,4,5,6,8,9,10,11])]⟩ AHm Tryz.f126 (Lr 9 AFH n) 7 ω (kY.st 111 v)=kY.un (fun(t1:Int) (t8:Int) (t44:Int) (t45:Int) (AE:Int) (AU:Int) (AK:Bool) (b1:AAH) (b2:AAQ) (b3:AAH) (b4:AAk) (b5:AAt) (b6:AAu) (b7:AA2) (b8:AAs) (iv:Int) (EJ:Int) (cS:ADU) (HU:ACe) (GM:AAH)=>
 cond (decide (t45<t44))
  (if(0:Int)≤t45∧t45<(GM.length:Int)then(
  let x8:Int:=(GM.getD (t45.toNat) 0)
  cond ((decide (x8<(b2.length:Int))))
   ((g93 (b1,AE,b2,b3,b4,AU,b5,b6,b7,b8,AK,()) x8).bind fun EW=>
   cond (!EW.1.1)
    (if(0:Int)≤x8∧x8<(b2.length:Int)then(
    (g60 ((b2.getD (x8.toNat) ([],[],0,())).1,(b2.getD (x8.toNat) ([],[],0,())).2.1,(b2.getD (x8.toNat) ([],[],0,())).2.2.1,()) t8).bind fun Nq=>
    if HU.length+1≤Go.M.Ds then(
    (DA n) t1 t8 t44 (AX (t45+1)) AE AU AK b1 b2 b3 b4 b5 b6 b7 b8 iv EJ cS (HU++[(x8,Nq.1.1.2.1,Nq.1.1.1.1,Nq.1.1.1.2.1,Nq.1.1.1.2.2.1,Nq.1.1.1.2.2.2.1,())]) GM)else none)else none)
   ((DA n) t1 t8 t44 (AX (t45+1)) AE AU AK b1 b2 b3 b4 b5 b6 b7 b8 iv EJ cS HU GM))
  ((DA n) t1 t8 t44 (AX (t45+1)) AE AU AK b1 b2 b3 b4 b5 b6 b7 b8 iv EJ cS HU GM))else none)
 ((AKU (b1,AE,b2,b3,b4,AU,b5,b6,b7,b8,AK,()) iv).bind fun V5=>
 (AKQ (b1,AE,()) (b4,AU,()) V5.1.1 (iv,EJ,cS,()) HU).bind fun VO=>
 cond (VO.1.1.2.1 !=0)
  (some ((5,()),(((),AE,(),(),(),AU,(),(),(),(),AK,()),b1,b2,b3,b4,b5,b6,b7,b8,())))
 (if(0:Int)≤t1∧t1<(b7.length:Int)then(
 some ((0,()),(((),AE,(),(),(),AU,(),(),(),(),AK,()),b1,b2,b3,b4,b5,b6,(b7.set (t1.toNat) (VO.1.1.1.1,VO.1.1.1.2.1,VO.2.1,())),b8,())))else none))) v:=by rcases ω with _|⟨_|_,_|⟨_|_,_⟩⟩<;>kernel_rfl
theorem AOO(n:Nat)(v:kY.V)(ω:List Bool):G2 AVZ AHm Tryz.f126 (Lr 9 AFH n) 7 ω (kY.st 111 v)=kY.un (NB (DA n)) v:=AMm Dn A4 Fb C8 He Jz Qm n v ω
theorem AZc(g31:Int→Int→Option LP)(g43:Int→Int→Int→Option Mt)(g60:ACP→Int→Option Mi)(g93:ABS→Int→Option Ks)(yG:Int→Option HC)(AKQ:ABO→ACC→Int→ACh→ACe→Option KT)(AKU:ABS→Int→Option Ms)(n:Nat)(ω:List Bool)(v:yh.V):DP ⟨T,QA [(31,⟨i31,o31,i31.un g31⟩),(43,⟨i43,o43,i43.un g43⟩),(60,⟨i60,o60,i60.un g60⟩),(93,⟨i93,o93,i93.un g93⟩),(188,⟨xy,AJO,xy.un yG⟩),(211,⟨AFK,ARv,AFK.un AKQ⟩),(212,⟨i212,APr,i212.un AKU⟩)],CO [(13,[0,1,2,3,4,5,6,7,8,9,10,11]),(16,[0,1,2,3,4,5,6,8,9,10,11])]⟩ AHm Tryz.f126 (Lr 9 AFH n) ω v=yh.un (fun(p1:Int) (p2:Int) (AE:Int) (AU:Int) (AK:Bool) (b1:AAH) (b2:AAQ) (b3:AAH) (b4:AAk) (b5:AAt) (b6:AAu) (b7:AA2) (b8:AAs)=>
 (g43 p1 0 (AX ((b7.length:Int)-1))).bind fun u2=>
 cond (!u2.1.1)
  (some ((2,()),(((),AE,(),(),(),AU,(),(),(),(),AK,()),b1,b2,b3,b4,b5,b6,b7,b8,())))
 (if(0:Int)≤p1∧p1<(b7.length:Int)then(
 (g31 ((b7.getD (p1.toNat) (0,0,[],())).1) ((b7.getD (p1.toNat) (0,0,[],())).2.1)).bind fun u5=>
 (yG p2).bind fun u6=>
 (DA n) p1 u5.1.1.1 (u6.2.1.length:Int) 0 AE AU AK b1 b2 b3 b4 b5 b6 b7 b8 ((b7.getD (p1.toNat) (0,0,[],())).1) ((b7.getD (p1.toNat) (0,0,[],())).2.1) ((b7.getD (p1.toNat) (0,0,[],())).2.2.1) [] u6.2.1)else none)) v:=by kernel_rfl
theorem AaK(n:Nat)(ω:List Bool)(v:yh.V):DP AVZ AHm Tryz.f126 (Lr 9 AFH n) ω v=yh.un (M6 (DA n)) v:=AZc Dn A4 Fb C8 He Jz Qm n ω v
def Aak:SQ:=mk Tryz.func126 yh ASM Mj [s31,gd,s60,s93,AHJ,AT1,AUn] [(13,[0,1,2,3,4,5,6,7,8,9,10,11]),(16,[0,1,2,3,4,5,6,8,9,10,11])] AFH (hJ:= .cons (fun _=>rfl) AOO (.nil)) (he:=AaK Ae)
def AVX:SQ:=mk Tryz.func276 ⟨[(0,.row Y1),(1,.c (.mb (.cons tI .unit)))],[]⟩ Cr Oj [] [] []
def AX5:SQ:=mk Tryz.func304 ⟨[(0,qM),(1,ALG)],[]⟩ Fg Cn [AVX] [] [⟨2,⟨[(0,qM),(1,ALG),(7,BJ),(8,BJ)],[]⟩,BH⟩]
def AYV:SQ:=mk Tryz.func275 ⟨[(0,nE),(1,ALG)],rj⟩ AMK Bv [AVX,AX5] [] [⟨5,⟨[(0,nE),(1,ALG),(5,BJ),(6,BJ)],rj⟩,BE⟩]
def AZu:SQ:=mk Tryz.func213 gj zW RN [s53,s88,s92,AKX,AYV] [] []
def AaS:SQ:=mk Tryz.func127 sJ od Oq [wE,AEV,AZu] [(4,[0,1,2,3,4,5,6,7,8]),(5,[0,1,3,4,5,6,7,8])] [] (he:=fun ω v=>by rcases ω with _|⟨_|_,_⟩<;>kernel_rfl)
def AXp:SQ:=AXZ (ρ:=I_ 0 128 0 0 31 63) (nm:= "slices.Delete[[]loop.example/g00178/impl.Writer,loop.example/g00178/impl.Writer]") tOk (lY.del ⟨by kernel_rfl,by kernel_rfl,by kernel_rfl,by kernel_rfl,by kernel_rfl,by kernel_rfl,by kernel_rfl,by kernel_rfl,by kernel_rfl,by kernel_rfl,by kernel_rfl,by kernel_rfl⟩ mx (by kernel_rfl) (by kernel_rfl)) (r:=Y6) 2 rfl (by kernel_rfl) (by kernel_rfl) FC (fun _=>rfl)
def s57:SQ:=mk Tryz.func57 ALk ⟨l9,[.mem [.ref 1,.v tI,.ref 2,.ref 9,.ref 10,.v tI,.ref 11,.ref 12,.ref 7,.ref 13,.v .bool],Df,ZD,PK,PK,PK,PK,.sl 1 Y9,PK,Df,Mp,TT,.sl 2 Y7,Ls]⟩ Tp [gd,AXb,AY_,AYY,AYK,Aaj,AYP,AY1,AZY,AXQ,AX3,AZQ,AbP,AYC,wE,Aak,AaS,AXp] [(27,[0,1,2,3,4,5,6,7,8,9]),(34,[0,1,2,3,4,5,6,7,8,9]),(36,[1,2,3,4,6,7,8,9])] [] (he:=fun ω v=>by rcases ω with _|⟨_|_,_⟩<;>kernel_rfl)
abbrev i21:BX:=AMP
abbrev o21:BX:=⟨ANc,[Df,ZD,Df,Mp,TT,.sl 2 Y7,.sl 1 Y9,Ls]⟩
def s21:SQ:=mk Tryz.func21 i21 o21 Gi [s16,s40,s56,s57] [] []
abbrev i23:BX:=ij
abbrev o23:BX:=ALv
def s23:SQ:=mk Tryz.func23 i23 o23 L0 [s16] [] [⟨5,⟨[(1,KA),(3,xI),(12,ADi),(13,BJ),(14,BJ)],zh⟩,PY⟩]
abbrev i26:BX:=wq
abbrev o26:BX:=dH
def s26:SQ:=mk Tryz.func26 i26 o26 Gf [s16,s60] [] [⟨5,⟨[(1,BJ),(5,nE),(16,tv),(17,BJ),(18,BJ)],qg⟩,H7⟩]
abbrev i27:BX:=ij
abbrev o27:BX:=ALv
def s27:SQ:=mk Tryz.func27 i27 o27 Kg [s52] [(5,[0,1])] [⟨3,⟨[(1,KA),(3,xI),(4,BJ)],zh⟩,M3⟩]
abbrev i6:BX:=ADQ
abbrev o6:BX:=Cr
def c6:QP:=⟨i6,o6,(i6.un QZ)⟩
def C6:Z9:=⟨T,QA (SP.l [s9,s10,s16,s21,s22,s23,s26,s27]),CO [(7,[0,1]),(8,[0,1,2,3,4,5,6,7,8,9,10]),(19,[0,1,2,3,4,5,6,7,8,9,10]),(30,[0,1])]⟩
def L6:List (Lp o6):=[⟨5,⟨[(3,KA),(4,xI),(5,BJ)],[w_,.sl 9 Y12]⟩,CM⟩,⟨13,⟨[(3,KA),(4,xI),(5,BJ),(6,xP8),(10,BJ)],AAK⟩,CH⟩,⟨17,⟨[(3,KA),(4,xI),(5,BJ),(6,xP8),(10,BJ),(11,xP0),(12,BJ)],AAK⟩,B_⟩,⟨28,⟨[(3,KA),(15,xI),(16,BJ)],zh⟩,CR⟩]
abbrev sk:BX:=⟨[(3,KA),(4,xI),(5,BJ)],[w_,.sl 9 Y12]⟩
abbrev rZ:BX:=⟨[(3,KA),(4,xI),(5,BJ),(6,xP8),(10,BJ)],AAK⟩
abbrev sH:BX:=⟨[(3,KA),(4,xI),(5,BJ),(6,xP8),(10,BJ),(11,xP0),(12,BJ)],AAK⟩
abbrev r8:BX:=⟨[(3,KA),(15,xI),(16,BJ)],zh⟩
def X3(ω:List Bool):Prop:= ∀(g9:List Int→Option QM) (g10:List Int→Option FT) (g16:ABS→Option JW) (g21:ABS→ACa→Option Jb) (g22:ABS→ACa→Option JF) (g23:ABS→Option Ha) (g26:ABS→Int→Option EF) (g27:ABS→Option HX) (n:Nat) (v:sk.V),G2 ⟨T,QA [(9,⟨i9,o9,i9.un g9⟩),(10,⟨i10,o10,i10.un g10⟩),(16,⟨i16,o16,i16.un g16⟩),(21,⟨i21,o21,i21.un g21⟩),(22,⟨i22,o22,i22.un g22⟩),(23,⟨i23,o23,i23.un g23⟩),(26,⟨i26,o26,i26.un g26⟩),(27,⟨i27,o27,i27.un g27⟩)],CO [(7,[0,1]),(8,[0,1,2,3,4,5,6,7,8,9,10]),(19,[0,1,2,3,4,5,6,7,8,9,10]),(30,[0,1])]⟩ c6 Tryz.f6 (Lr 0 L6 n) 5 ω (sk.st 135 v)=sk.un (fun(t5:Int) (AR:AAH) (AE:Int) (Ah:AAQ) (Bc:AAH) (Br:AAk) (AU:Int) (Bp:AAt) (Bm:AAu) (CG:AA2) (Bk:AAs) (AK:Bool) (b1:ACk)=>
 cond ((decide (t5<(b1.length:Int))))
  (if(0:Int)≤t5∧t5<(b1.length:Int)then(
  (g21 (AR,AE,Ah,Bc,Br,AU,Bp,Bm,CG,Bk,AK,()) ((b1.getD (t5.toNat) (0,0,0,0,[],())).1,(b1.getD (t5.toNat) (0,0,0,0,[],())).2.1,(b1.getD (t5.toNat) (0,0,0,0,[],())).2.2.1,(b1.getD (t5.toNat) (0,0,0,0,[],())).2.2.2.1,(b1.getD (t5.toNat) (0,0,0,0,[],())).2.2.2.2.1,())).bind fun u4=>
  if(0:Int)≤t5∧t5<(b1.length:Int)then(
  (g22 (AR,AE,Ah,Bc,Br,AU,Bp,Bm,CG,Bk,AK,()) ((b1.getD (t5.toNat) (0,0,0,0,[],())).1,(b1.getD (t5.toNat) (0,0,0,0,[],())).2.1,(b1.getD (t5.toNat) (0,0,0,0,[],())).2.2.1,(b1.getD (t5.toNat) (0,0,0,0,[],())).2.2.2.1,(b1.getD (t5.toNat) (0,0,0,0,[],())).2.2.2.2.1,())).bind fun u5=>
  cond ((u4.1.1.2.1 !=u5.1.1.2.1))
   (some ((false,()),()))
  (cond (u4.1.1.2.1 !=0)
   ((CM n) (AX (t5+1)) AR AE Ah Bc Br AU Bp Bm CG Bk AK b1)
  ((CH n) t5 0 AR AE Ah Bc Br AU Bp Bm CG Bk AK b1 u4.1.1.1.2.1 u4.1.1.1.2.2.2.2.2.1 u4.1.1.1.2.2.2.2.2.2.2.2.2.2.1 u4.2.1 u4.2.2.1 u4.2.2.2.1 u4.2.2.2.2.1 u4.2.2.2.2.2.1 u4.2.2.2.2.2.2.1 u4.2.2.2.2.2.2.2.1 u4.2.2.2.2.2.2.2.2.1)))else none)else none)
 ((g16 (AR,AE,Ah,Bc,Br,AU,Bp,Bm,CG,Bk,AK,())).bind fun u16=>
 cond (!u16.1.1)
  (some ((false,()),()))
 ((g23 (AR,AE,Ah,Bc,Br,AU,Bp,Bm,CG,Bk,AK,())).bind fun dm=>
 (CR n) 0 AR AE Ah Bc Br AU Bp Bm CG Bk AK dm.2.1))) v
theorem ARR:X3 []:=by delta X3;intros;kernel_rfl
theorem AQW:X3 (false::[]):=by delta X3;intros;kernel_rfl
theorem APD(ω:List Bool):X3 (false::false::ω):=by delta X3;intros;kernel_rfl
theorem AMd(ω:List Bool):X3 (false::true::ω):=by delta X3;intros;kernel_rfl
theorem APm:X3 (true::[]):=by delta X3;intros;kernel_rfl
theorem AN9(ω:List Bool):X3 (true::false::ω):=by delta X3;intros;kernel_rfl
theorem APn(ω:List Bool):X3 (true::true::ω):=by delta X3;intros;kernel_rfl
theorem AX2(g9:List Int→Option QM)(g10:List Int→Option FT)(g16:ABS→Option JW)(g21:ABS→ACa→Option Jb)(g22:ABS→ACa→Option JF)(g23:ABS→Option Ha)(g26:ABS→Int→Option EF)(g27:ABS→Option HX)(n:Nat)(v:sk.V)(ω:List Bool):G2 ⟨T,QA [(9,⟨i9,o9,i9.un g9⟩),(10,⟨i10,o10,i10.un g10⟩),(16,⟨i16,o16,i16.un g16⟩),(21,⟨i21,o21,i21.un g21⟩),(22,⟨i22,o22,i22.un g22⟩),(23,⟨i23,o23,i23.un g23⟩),(26,⟨i26,o26,i26.un g26⟩),(27,⟨i27,o27,i27.un g27⟩)],CO [(7,[0,1]),(8,[0,1,2,3,4,5,6,7,8,9,10]),(19,[0,1,2,3,4,5,6,7,8,9,10]),(30,[0,1])]⟩ c6 Tryz.f6 (Lr 0 L6 n) 5 ω (sk.st 135 v)=sk.un (fun(t5:Int) (AR:AAH) (AE:Int) (Ah:AAQ) (Bc:AAH) (Br:AAk) (AU:Int) (Bp:AAt) (Bm:AAu) (CG:AA2) (Bk:AAs) (AK:Bool) (b1:ACk)=>
 cond ((decide (t5<(b1.length:Int))))
  (if(0:Int)≤t5∧t5<(b1.length:Int)then(
  (g21 (AR,AE,Ah,Bc,Br,AU,Bp,Bm,CG,Bk,AK,()) ((b1.getD (t5.toNat) (0,0,0,0,[],())).1,(b1.getD (t5.toNat) (0,0,0,0,[],())).2.1,(b1.getD (t5.toNat) (0,0,0,0,[],())).2.2.1,(b1.getD (t5.toNat) (0,0,0,0,[],())).2.2.2.1,(b1.getD (t5.toNat) (0,0,0,0,[],())).2.2.2.2.1,())).bind fun u4=>
  if(0:Int)≤t5∧t5<(b1.length:Int)then(
  (g22 (AR,AE,Ah,Bc,Br,AU,Bp,Bm,CG,Bk,AK,()) ((b1.getD (t5.toNat) (0,0,0,0,[],())).1,(b1.getD (t5.toNat) (0,0,0,0,[],())).2.1,(b1.getD (t5.toNat) (0,0,0,0,[],())).2.2.1,(b1.getD (t5.toNat) (0,0,0,0,[],())).2.2.2.1,(b1.getD (t5.toNat) (0,0,0,0,[],())).2.2.2.2.1,())).bind fun u5=>
  cond ((u4.1.1.2.1 !=u5.1.1.2.1))
   (some ((false,()),()))
  (cond (u4.1.1.2.1 !=0)
   ((CM n) (AX (t5+1)) AR AE Ah Bc Br AU Bp Bm CG Bk AK b1)
  ((CH n) t5 0 AR AE Ah Bc Br AU Bp Bm CG Bk AK b1 u4.1.1.1.2.1 u4.1.1.1.2.2.2.2.2.1 u4.1.1.1.2.2.2.2.2.2.2.2.2.2.1 u4.2.1 u4.2.2.1 u4.2.2.2.1 u4.2.2.2.2.1 u4.2.2.2.2.2.1 u4.2.2.2.2.2.2.1 u4.2.2.2.2.2.2.2.1 u4.2.2.2.2.2.2.2.2.1)))else none)else none)
 ((g16 (AR,AE,Ah,Bc,Br,AU,Bp,Bm,CG,Bk,AK,())).bind fun u16=>
 cond (!u16.1.1)
  (some ((false,()),()))
 ((g23 (AR,AE,Ah,Bc,Br,AU,Bp,Bm,CG,Bk,AK,())).bind fun dm=>
 (CR n) 0 AR AE Ah Bc Br AU Bp Bm CG Bk AK dm.2.1))) v:=(AF ARR (AF AQW APD AMd) (AF APm AN9 APn)) ω g9 g10 g16 g21 g22 g23 g26 g27 n v
theorem AYX(n:Nat)(v:sk.V)(ω:List Bool):G2 C6 c6 Tryz.f6 (Lr 0 L6 n) 5 ω (sk.st 135 v)=sk.un (NR (CM n) (CH n) (B_ n) (CR n)) v:=AX2 US Fi Fm Gi HY L0 Gf Kg n v ω
theorem ATg(g9:List Int→Option QM)(g10:List Int→Option FT)(g16:ABS→Option JW)(g21:ABS→ACa→Option Jb)(g22:ABS→ACa→Option JF)(g23:ABS→Option Ha)(g26:ABS→Int→Option EF)(g27:ABS→Option HX)(n:Nat)(v:rZ.V)(ω:List Bool):G2 ⟨T,QA [(9,⟨i9,o9,i9.un g9⟩),(10,⟨i10,o10,i10.un g10⟩),(16,⟨i16,o16,i16.un g16⟩),(21,⟨i21,o21,i21.un g21⟩),(22,⟨i22,o22,i22.un g22⟩),(23,⟨i23,o23,i23.un g23⟩),(26,⟨i26,o26,i26.un g26⟩),(27,⟨i27,o27,i27.un g27⟩)],CO [(7,[0,1]),(8,[0,1,2,3,4,5,6,7,8,9,10]),(19,[0,1,2,3,4,5,6,7,8,9,10]),(30,[0,1])]⟩ c6 Tryz.f6 (Lr 0 L6 n) 13 ω (rZ.st 135 v)=rZ.un (fun(t5:Int) (t10:Int) (AR:AAH) (AE:Int) (Ah:AAQ) (Bc:AAH) (Br:AAk) (AU:Int) (Bp:AAt) (Bm:AAu) (CG:AA2) (Bk:AAs) (AK:Bool) (b1:ACk) (PO:Int) (ar:Int) (Q_:Bool) (b3:AAH) (b4:AAQ) (b5:AAH) (b6:AAk) (b7:AAt) (b8:AAu) (b9:AA2) (HU:AAs)=>
 cond ((decide (t10<(Bk.length:Int))))
  ((B_ n) t5 t10 false 0 AR AE Ah Bc Br AU Bp Bm CG Bk AK b1 PO ar Q_ b3 b4 b5 b6 b7 b8 b9 HU)
 ((CM n) (AX (t5+1)) b3 PO b4 b5 b6 ar b7 b8 b9 HU Q_ b1)) v:=by kernel_rfl
theorem AVY(n:Nat)(v:rZ.V)(ω:List Bool):G2 C6 c6 Tryz.f6 (Lr 0 L6 n) 13 ω (rZ.st 135 v)=rZ.un (L9 (CM n) (CH n) (B_ n) (CR n)) v:=ATg US Fi Fm Gi HY L0 Gf Kg n v ω
theorem ATX(g9:List Int→Option QM)(g10:List Int→Option FT)(g16:ABS→Option JW)(g21:ABS→ACa→Option Jb)(g22:ABS→ACa→Option JF)(g23:ABS→Option Ha)(g26:ABS→Int→Option EF)(g27:ABS→Option HX)(n:Nat)(v:sH.V)(ω:List Bool):G2 ⟨T,QA [(9,⟨i9,o9,i9.un g9⟩),(10,⟨i10,o10,i10.un g10⟩),(16,⟨i16,o16,i16.un g16⟩),(21,⟨i21,o21,i21.un g21⟩),(22,⟨i22,o22,i22.un g22⟩),(23,⟨i23,o23,i23.un g23⟩),(26,⟨i26,o26,i26.un g26⟩),(27,⟨i27,o27,i27.un g27⟩)],CO [(7,[0,1]),(8,[0,1,2,3,4,5,6,7,8,9,10]),(19,[0,1,2,3,4,5,6,7,8,9,10]),(30,[0,1])]⟩ c6 Tryz.f6 (Lr 0 L6 n) 17 ω (sH.st 135 v)=sH.un (fun(t5:Int) (t10:Int) (t11:Bool) (t12:Int) (AR:AAH) (AE:Int) (Ah:AAQ) (Bc:AAH) (Br:AAk) (AU:Int) (Bp:AAt) (Bm:AAu) (CG:AA2) (Bk:AAs) (AK:Bool) (b1:ACk) (PO:Int) (ar:Int) (Q_:Bool) (b3:AAH) (b4:AAQ) (b5:AAH) (b6:AAk) (b7:AAt) (b8:AAu) (b9:AA2) (HU:AAs)=>
 cond ((decide (t12<(HU.length:Int))))
  (if(0:Int)≤t10∧t10<(Bk.length:Int)then(
  if(0:Int)≤t12∧t12<(HU.length:Int)then(
  cond (t11)
   ((B_ n) t5 t10 true (AX (t12+1)) AR AE Ah Bc Br AU Bp Bm CG Bk AK b1 PO ar Q_ b3 b4 b5 b6 b7 b8 b9 HU)
  (cond (((Bk.getD (t10.toNat) (0,[],false,())).1)==((HU.getD (t12.toNat) (0,[],false,())).1))
   (cond (((Bk.getD (t10.toNat) (0,[],false,())).2.1)==((HU.getD (t12.toNat) (0,[],false,())).2.1))
    (cond (!((Bk.getD (t10.toNat) (0,[],false,())).2.2.1))
     ((B_ n) t5 t10 true (AX (t12+1)) AR AE Ah Bc Br AU Bp Bm CG Bk AK b1 PO ar Q_ b3 b4 b5 b6 b7 b8 b9 HU)
    ((B_ n) t5 t10 ((HU.getD (t12.toNat) (0,[],false,())).2.2.1) (AX (t12+1)) AR AE Ah Bc Br AU Bp Bm CG Bk AK b1 PO ar Q_ b3 b4 b5 b6 b7 b8 b9 HU))
   ((B_ n) t5 t10 false (AX (t12+1)) AR AE Ah Bc Br AU Bp Bm CG Bk AK b1 PO ar Q_ b3 b4 b5 b6 b7 b8 b9 HU))
  ((B_ n) t5 t10 false (AX (t12+1)) AR AE Ah Bc Br AU Bp Bm CG Bk AK b1 PO ar Q_ b3 b4 b5 b6 b7 b8 b9 HU)))else none)else none)
 (cond (!t11)
  (some ((false,()),()))
 ((CH n) t5 (AX (t10+1)) AR AE Ah Bc Br AU Bp Bm CG Bk AK b1 PO ar Q_ b3 b4 b5 b6 b7 b8 b9 HU))) v:=by rcases ω with _|⟨_|_,_⟩<;>kernel_rfl
theorem AVr(n:Nat)(v:sH.V)(ω:List Bool):G2 C6 c6 Tryz.f6 (Lr 0 L6 n) 17 ω (sH.st 135 v)=sH.un (QU (CM n) (CH n) (B_ n) (CR n)) v:=ATX US Fi Fm Gi HY L0 Gf Kg n v ω
theorem AWN(g9:List Int→Option QM)(g10:List Int→Option FT)(g16:ABS→Option JW)(g21:ABS→ACa→Option Jb)(g22:ABS→ACa→Option JF)(g23:ABS→Option Ha)(g26:ABS→Int→Option EF)(g27:ABS→Option HX)(n:Nat)(v:r8.V)(ω:List Bool):G2 ⟨T,QA [(9,⟨i9,o9,i9.un g9⟩),(10,⟨i10,o10,i10.un g10⟩),(16,⟨i16,o16,i16.un g16⟩),(21,⟨i21,o21,i21.un g21⟩),(22,⟨i22,o22,i22.un g22⟩),(23,⟨i23,o23,i23.un g23⟩),(26,⟨i26,o26,i26.un g26⟩),(27,⟨i27,o27,i27.un g27⟩)],CO [(7,[0,1]),(8,[0,1,2,3,4,5,6,7,8,9,10]),(19,[0,1,2,3,4,5,6,7,8,9,10]),(30,[0,1])]⟩ c6 Tryz.f6 (Lr 0 L6 n) 28 ω (r8.st 135 v)=r8.un (fun(t16:Int) (AR:AAH) (AE:Int) (Ah:AAQ) (Bc:AAH) (Br:AAk) (AU:Int) (Bp:AAt) (Bm:AAu) (CG:AA2) (Bk:AAs) (AK:Bool) (b1:AAs)=>
 cond ((decide (t16<(b1.length:Int))))
  (cond (!AK)
   (if(0:Int)≤t16∧t16<(b1.length:Int)then(
   (g26 (AR,AE,Ah,Bc,Br,AU,Bp,Bm,CG,Bk,AK,()) ((b1.getD (t16.toNat) (0,[],false,())).1)).bind fun nY=>
   cond ((nY.2.1.length:Int)==0)
    (some ((false,()),()))
   ((CR n) (AX (t16+1)) AR AE Ah Bc Br AU Bp Bm CG Bk AK b1))else none)
  ((g27 (AR,AE,Ah,Bc,Br,AU,Bp,Bm,CG,Bk,AK,())).bind fun xR=>
  some ((((b1.length:Int)==(xR.2.1.length:Int)),()),())))
 ((g27 (AR,AE,Ah,Bc,Br,AU,Bp,Bm,CG,Bk,AK,())).bind fun u39=>
 some ((((b1.length:Int)==(u39.2.1.length:Int)),()),()))) v:=by kernel_rfl
theorem AUZ(n:Nat)(v:r8.V)(ω:List Bool):G2 C6 c6 Tryz.f6 (Lr 0 L6 n) 28 ω (r8.st 135 v)=r8.un (MI (CM n) (CH n) (B_ n) (CR n)) v:=AWN US Fi Fm Gi HY L0 Gf Kg n v ω
theorem b6(g9:List Int→Option QM)(g10:List Int→Option FT)(g16:ABS→Option JW)(g21:ABS→ACa→Option Jb)(g22:ABS→ACa→Option JF)(g23:ABS→Option Ha)(g26:ABS→Int→Option EF)(g27:ABS→Option HX)(n:Nat)(ω:List Bool)(v:i6.V):DP ⟨T,QA [(9,⟨i9,o9,i9.un g9⟩),(10,⟨i10,o10,i10.un g10⟩),(16,⟨i16,o16,i16.un g16⟩),(21,⟨i21,o21,i21.un g21⟩),(22,⟨i22,o22,i22.un g22⟩),(23,⟨i23,o23,i23.un g23⟩),(26,⟨i26,o26,i26.un g26⟩),(27,⟨i27,o27,i27.un g27⟩)],CO [(7,[0,1]),(8,[0,1,2,3,4,5,6,7,8,9,10]),(19,[0,1,2,3,4,5,6,7,8,9,10]),(30,[0,1])]⟩ c6 Tryz.f6 (Lr 0 L6 n) ω v=i6.un (fun(p0:AAH)=>
 (g9 p0).bind fun u1=>
 cond (u1.1.1)
  (some ((true,()),()))
 ((g10 p0).bind fun u2=>
 (CM n) 0 u2.1.1.1.1 u2.1.1.1.2.1 u2.1.1.1.2.2.1 u2.1.1.1.2.2.2.1 u2.1.1.1.2.2.2.2.1 u2.1.1.1.2.2.2.2.2.1 u2.1.1.1.2.2.2.2.2.2.1 u2.1.1.1.2.2.2.2.2.2.2.1 u2.1.1.1.2.2.2.2.2.2.2.2.1 u2.1.1.1.2.2.2.2.2.2.2.2.2.1 u2.1.1.1.2.2.2.2.2.2.2.2.2.2.1 u2.2.1)) v:=by kernel_rfl
theorem e6(n:Nat)(ω:List Bool)(v:i6.V):DP C6 c6 Tryz.f6 (Lr 0 L6 n) ω v=i6.un (Q7 (CM n) (CH n) (B_ n) (CR n)) v:=b6 US Fi Fm Gi HY L0 Gf Kg n ω v
def s6:SQ:=mk Tryz.func6 i6 o6 QZ [s9,s10,s16,s21,s22,s23,s26,s27] [(7,[0,1]),(8,[0,1,2,3,4,5,6,7,8,9,10]),(19,[0,1,2,3,4,5,6,7,8,9,10]),(30,[0,1])] L6 (hJ:= .cons (fun _=>rfl) AYX (.cons (fun _=>rfl) AVY (.cons (fun _=>rfl) AVr (.cons (fun _=>rfl) AUZ (.nil))))) (he:=e6 Ae)
end
end Go.Proofs.YtebiojjohcpanaaGreat.Wk
