/- Each function computes what was printed: by the kernel. -/
import Derived.Test.YtebiojjohcpanaaGreatE0
import Derived.Test.YtebiojjohcpanaaGreatProg
import Derived.KernelRfl
set_option linter.unusedVariables false
set_option linter.unusedSimpArgs false
set_option linter.unusedSectionVars false
namespace Go.Proofs.YtebiojjohcpanaaGreat.Wk
open Go Go.Fw Go.M Go.Proofs
noncomputable section
abbrev uV:Ba:=tK
abbrev AOP:Ba:=⟨nP,[rQ,C6,V3,C6,KX,Q4,.sl 2 Y7,Ox,Jh]⟩
def AOv:QU:=⟨uV,AOP,(uV.un Jv)⟩
def AbJ:aN:=⟨T,Q_ (SP.l [AEM,AVa,AVn,AUm]),CX [(7,[0,1,2,3,4,5,6,7,8,9]),(8,[0,1,2,3,4,5,6,7,8,9,10,11,12]),(11,[0,1,3,4,5,7,8,9,13])]⟩
def ALP:List (Lp AOP):=[]
def Dt(ω:List Bool):Prop:= ∀(uM:ABF→Int→Int→Option Hs) (ABe:ACN→Int→Option TX) (ABi:AA9→ABH→Int→AAw→Option Jo) (AB8:ACN→Int→Option Js) (n:Nat) (v:uV.V),DR ⟨T,Q_ [(191,⟨zp,AJ5,zp.un uM⟩),(203,⟨i203,ASO,i203.un ABe⟩),(204,⟨AD2,AQR,AD2.un ABi⟩),(205,⟨ADj,APp,ADj.un AB8⟩)],CX [(7,[0,1,2,3,4,5,6,7,8,9]),(8,[0,1,2,3,4,5,6,7,8,9,10,11,12]),(11,[0,1,3,4,5,7,8,9,13])]⟩ AOv Tryz.f120 (M9 9 ALP n) ω v=uV.un (fun(p1:Int) (AG:Int) (AW:Int) (AL:Bool) (b1:AAO) (b2:AAP) (b3:AAO) (b4:AAS) (b5:AAr) (b6:AAv) (b7:AAs) (b8:AAk)=>
 cond (((b6.length:Int)==0))
  (some ((2,()),(((),AG,(),(),(),AW,(),(),(),(),AL,()),b1,b2,b3,b4,b5,b6,b7,b8,())))
 (if(0:Int)≤(0:Int)∧(0:Int)<(b6.length:Int)then(
 (uM (b1,AG,b2,b3,b4,AW,b5,b6,b7,b8,AL,()) p1 ((b6.getD 0 (0,0,[],[],false,[],())).2.1)).bind fun u3=>
 cond (u3.1.1 !=0)
  (some ((u3.1.1,()),(((),AG,(),(),(),AW,(),(),(),(),AL,()),b1,b2,b3,b4,b5,b6,b7,b8,())))
 (if(0:Int)≤p1∧p1<(b2.length:Int)then(
 (ABe ((b2.getD (p1.toNat) ([],[],0,())).1,(b2.getD (p1.toNat) ([],[],0,())).2.1,(b2.getD (p1.toNat) ([],[],0,())).2.2.1,()) (AZ (((b6.getD 0 (0,0,[],[],false,[],())).1)-1))).bind fun u5=>
 (AB8 (u5.2.1,u5.2.2.1,u5.1.1.1.2.2.1,()) ((b6.getD 0 (0,0,[],[],false,[],())).2.1)).bind fun u7=>
 (ABi (b1,AG,()) ((b6.getD 0 (0,0,[],[],false,[],())).1,(b6.getD 0 (0,0,[],[],false,[],())).2.1,(b6.getD 0 (0,0,[],[],false,[],())).2.2.1,(b6.getD 0 (0,0,[],[],false,[],())).2.2.2.1,(b6.getD 0 (0,0,[],[],false,[],())).2.2.2.2.1,(b6.getD 0 (0,0,[],[],false,[],())).2.2.2.2.2.1,()) p1 u7.2.1).bind fun u8=>
 cond (!u5.1.1.2.1)
  (some ((4,()),(((),AG,(),(),(),AW,(),(),(),(),AL,()),b1,b2,b3,b4,b5,b6,b7,b8,())))
 (cond (!u8.1.1.2.1)
  (some ((4,()),(((),AG,(),(),(),AW,(),(),(),(),AL,()),b1,b2,b3,b4,b5,b6,b7,b8,())))
 (if(0:Int)≤p1∧p1<(b2.length:Int)then(
 if(0:Int)≤(0:Int)∧(0:Int)<(b6.length:Int)then(
 some ((0,()),(((),AG,(),(),(),AW,(),(),(),(),AL,()),b1,(b2.set (p1.toNat) (u5.2.1,u5.2.2.1,u5.1.1.1.2.2.1,())),b3,b4,b5,(b6.set 0 (u8.1.1.1.1,u8.1.1.1.2.1,u8.2.1,u8.2.2.1,u8.1.1.1.2.2.2.2.1,u8.2.2.2.1,())),b7,b8,())))else none)else none)))else none))else none)) v
theorem ARn:Dt []:=by delta Dt;intros;kernel_rfl
theorem AQw:Dt (false::[]):=by delta Dt;intros;kernel_rfl
theorem AN6(ω:List Bool):Dt (false::false::ω):=by delta Dt;intros;kernel_rfl
theorem AOh:Dt (false::true::[]):=by delta Dt;intros;kernel_rfl
theorem AP5:Dt (false::true::false::[]):=by delta Dt;intros;kernel_rfl
theorem ARP(ω:List Bool):Dt (false::true::false::false::ω):=by delta Dt;intros;kernel_rfl
theorem APQ:Dt (false::true::false::true::[]):=by delta Dt;intros;kernel_rfl
theorem ARG(ω:List Bool):Dt (false::true::false::true::false::ω):=by delta Dt;intros;kernel_rfl
theorem AOe(ω:List Bool):Dt (false::true::false::true::true::ω):=by delta Dt;intros;kernel_rfl
theorem AGs:Dt (false::true::true::[]):=by delta Dt;intros;kernel_rfl
theorem ALb(ω:List Bool):Dt (false::true::true::false::ω):=by delta Dt;intros;kernel_rfl
theorem AJD:Dt (false::true::true::true::[]):=by delta Dt;intros;kernel_rfl
theorem ALn(ω:List Bool):Dt (false::true::true::true::false::ω):=by delta Dt;intros;kernel_rfl
theorem AHY(ω:List Bool):Dt (false::true::true::true::true::ω):=by delta Dt;intros;kernel_rfl
theorem AGi:Dt (true::[]):=by delta Dt;intros;kernel_rfl
theorem AKw(ω:List Bool):Dt (true::false::ω):=by delta Dt;intros;kernel_rfl
theorem AIP:Dt (true::true::[]):=by delta Dt;intros;kernel_rfl
theorem AHp:Dt (true::true::false::[]):=by delta Dt;intros;kernel_rfl
theorem AIr(ω:List Bool):Dt (true::true::false::false::ω):=by delta Dt;intros;kernel_rfl
theorem AKy:Dt (true::true::false::true::[]):=by delta Dt;intros;kernel_rfl
theorem AKS(ω:List Bool):Dt (true::true::false::true::false::ω):=by delta Dt;intros;kernel_rfl
theorem AH1(ω:List Bool):Dt (true::true::false::true::true::ω):=by delta Dt;intros;kernel_rfl
theorem AGq:Dt (true::true::true::[]):=by delta Dt;intros;kernel_rfl
theorem AK9(ω:List Bool):Dt (true::true::true::false::ω):=by delta Dt;intros;kernel_rfl
theorem AIQ:Dt (true::true::true::true::[]):=by delta Dt;intros;kernel_rfl
theorem AK8(ω:List Bool):Dt (true::true::true::true::false::ω):=by delta Dt;intros;kernel_rfl
theorem AH6(ω:List Bool):Dt (true::true::true::true::true::ω):=by delta Dt;intros;kernel_rfl
theorem Abg(uM:ABF→Int→Int→Option Hs)(ABe:ACN→Int→Option TX)(ABi:AA9→ABH→Int→AAw→Option Jo)(AB8:ACN→Int→Option Js)(n:Nat)(ω:List Bool)(v:uV.V):DR ⟨T,Q_ [(191,⟨zp,AJ5,zp.un uM⟩),(203,⟨i203,ASO,i203.un ABe⟩),(204,⟨AD2,AQR,AD2.un ABi⟩),(205,⟨ADj,APp,ADj.un AB8⟩)],CX [(7,[0,1,2,3,4,5,6,7,8,9]),(8,[0,1,2,3,4,5,6,7,8,9,10,11,12]),(11,[0,1,3,4,5,7,8,9,13])]⟩ AOv Tryz.f120 (M9 9 ALP n) ω v=uV.un (fun(p1:Int) (AG:Int) (AW:Int) (AL:Bool) (b1:AAO) (b2:AAP) (b3:AAO) (b4:AAS) (b5:AAr) (b6:AAv) (b7:AAs) (b8:AAk)=>
 cond (((b6.length:Int)==0))
  (some ((2,()),(((),AG,(),(),(),AW,(),(),(),(),AL,()),b1,b2,b3,b4,b5,b6,b7,b8,())))
 (if(0:Int)≤(0:Int)∧(0:Int)<(b6.length:Int)then(
 (uM (b1,AG,b2,b3,b4,AW,b5,b6,b7,b8,AL,()) p1 ((b6.getD 0 (0,0,[],[],false,[],())).2.1)).bind fun u3=>
 cond (u3.1.1 !=0)
  (some ((u3.1.1,()),(((),AG,(),(),(),AW,(),(),(),(),AL,()),b1,b2,b3,b4,b5,b6,b7,b8,())))
 (if(0:Int)≤p1∧p1<(b2.length:Int)then(
 (ABe ((b2.getD (p1.toNat) ([],[],0,())).1,(b2.getD (p1.toNat) ([],[],0,())).2.1,(b2.getD (p1.toNat) ([],[],0,())).2.2.1,()) (AZ (((b6.getD 0 (0,0,[],[],false,[],())).1)-1))).bind fun u5=>
 (AB8 (u5.2.1,u5.2.2.1,u5.1.1.1.2.2.1,()) ((b6.getD 0 (0,0,[],[],false,[],())).2.1)).bind fun u7=>
 (ABi (b1,AG,()) ((b6.getD 0 (0,0,[],[],false,[],())).1,(b6.getD 0 (0,0,[],[],false,[],())).2.1,(b6.getD 0 (0,0,[],[],false,[],())).2.2.1,(b6.getD 0 (0,0,[],[],false,[],())).2.2.2.1,(b6.getD 0 (0,0,[],[],false,[],())).2.2.2.2.1,(b6.getD 0 (0,0,[],[],false,[],())).2.2.2.2.2.1,()) p1 u7.2.1).bind fun u8=>
 cond (!u5.1.1.2.1)
  (some ((4,()),(((),AG,(),(),(),AW,(),(),(),(),AL,()),b1,b2,b3,b4,b5,b6,b7,b8,())))
 (cond (!u8.1.1.2.1)
  (some ((4,()),(((),AG,(),(),(),AW,(),(),(),(),AL,()),b1,b2,b3,b4,b5,b6,b7,b8,())))
 (if(0:Int)≤p1∧p1<(b2.length:Int)then(
 if(0:Int)≤(0:Int)∧(0:Int)<(b6.length:Int)then(
 some ((0,()),(((),AG,(),(),(),AW,(),(),(),(),AL,()),b1,(b2.set (p1.toNat) (u5.2.1,u5.2.2.1,u5.1.1.1.2.2.1,())),b3,b4,b5,(b6.set 0 (u8.1.1.1.1,u8.1.1.1.2.1,u8.2.1,u8.2.2.1,u8.1.1.1.2.2.2.2.1,u8.2.2.2.1,())),b7,b8,())))else none)else none)))else none))else none)) v:=(AF ARn (AF AQw AN6 (AF AOh (AF AP5 ARP (AF APQ ARG AOe)) (AF AGs ALb (AF AJD ALn AHY)))) (AF AGi AKw (AF AIP (AF AHp AIr (AF AKy AKS AH1)) (AF AGq AK9 (AF AIQ AK8 AH6))))) ω uM ABe ABi AB8 n v
theorem AZC(n:Nat)(ω:List Bool)(v:uV.V):DR AbJ AOv Tryz.f120 (M9 9 ALP n) ω v=uV.un (Jv) v:=Abg De N5 Pc PU n ω v
def AbD:SQ:=mk Tryz.func120 uV AOP Jv [AEM,AVa,AVn,AUm] [(7,[0,1,2,3,4,5,6,7,8,9]),(8,[0,1,2,3,4,5,6,7,8,9,10,11,12]),(11,[0,1,3,4,5,7,8,9,13])] ALP (hJ:= .nil) (he:=AZC Ae)
def AaZ:SQ:=mk Tryz.func302 AEv fJ eF [s74,zY] [] [⟨5,⟨[(2,Z8),(7,nq),(22,Z8),(23,BO),(24,BO)],uj⟩,RH⟩]
def ATm:SQ:=mk Tryz.func270 AEv CY Gw [s32,s74,AJs,AaZ] [(3,[0,1])] []
abbrev i206:Ba:=AMR
abbrev AVv:Ba:=wY
def AUD:SQ:=mk Tryz.func206 i206 AVv PV [s90,s98,AJs,AVX,AOo,ATm] [(1,[0,1,2])] []
abbrev zb:Ba:=AFf
abbrev ARm:Ba:=pd
def AVM:QU:=⟨zb,ARm,(zb.un Ju)⟩
def AZq:aN:=⟨T,Q_ (SP.l [vj,AIi,AUD]),CX [(3,[0,1,2,3,4,5,6,7,8]),(4,[0,1,2,3,4,5,7,8,9])]⟩
def AQ_:List (Lp ARm):=[]
theorem AaV(ACi:Bool→Option di)(ATj:ABr→Int→Option bt)(ATh:AA9→ABH→List Int→Option cE)(n:Nat)(ω:List Bool)(v:zb.V):DR ⟨T,Q_ [(125,⟨AEU,AQC,AEU.un ACi⟩),(156,⟨ARs,AV0,ARs.un ATj⟩),(206,⟨i206,AVv,i206.un ATh⟩)],CX [(3,[0,1,2,3,4,5,6,7,8]),(4,[0,1,2,3,4,5,7,8,9])]⟩ AVM Tryz.f121 (M9 9 AQ_ n) ω v=zb.un (fun(AG:Int) (AW:Int) (AL:Bool) (b1:AAO) (b2:AAP) (b3:AAO) (b4:AAS) (b5:AAr) (b6:AAv) (b7:AAs) (b8:AAk)=>
 cond (((b6.length:Int)==0))
  (some ((2,()),(((),AG,(),(),(),AW,(),(),(),(),AL,()),b1,b2,b3,b4,b5,b6,b7,b8,())))
 (if(0:Int)≤(0:Int)∧(0:Int)<(b6.length:Int)then(
 if(0:Int)≤(0:Int)∧(0:Int)<(b6.length:Int)then(
 (ATj (b4,AW,()) ((b6.getD 0 (0,0,[],[],false,[],())).2.1)).bind fun u3=>
 (ATh (b1,AG,()) ((b6.getD 0 (0,0,[],[],false,[],())).1,(b6.getD 0 (0,0,[],[],false,[],())).2.1,(b6.getD 0 (0,0,[],[],false,[],())).2.2.1,(b6.getD 0 (0,0,[],[],false,[],())).2.2.2.1,(b6.getD 0 (0,0,[],[],false,[],())).2.2.2.2.1,(b6.getD 0 (0,0,[],[],false,[],())).2.2.2.2.2.1,()) u3.2.1).bind fun u4=>
 if(0:Int)≤(0:Int)∧(0:Int)<(b6.length:Int)then(
 (ACi u4.1.1.2.1).bind fun u6=>
 some ((u6.1.1,()),(((),AG,(),(),(),AW,(),(),(),(),AL,()),b1,b2,b3,b4,b5,(b6.set 0 (u4.1.1.1.1,u4.1.1.1.2.1,u4.2.1,u4.2.2.1,u4.1.1.1.2.2.2.2.1,u4.2.2.2.1,())),b7,b8,())))else none)else none)else none)) v:=by rcases ω with _|⟨_|_,_|⟨_|_,_⟩⟩<;>kernel_rfl
theorem AYg(n:Nat)(ω:List Bool)(v:zb.V):DR AZq AVM Tryz.f121 (M9 9 AQ_ n) ω v=zb.un (Ju) v:=AaV Jw Ik PV n ω v
def AZR:SQ:=mk Tryz.func121 zb ARm Ju [vj,AIi,AUD] [(3,[0,1,2,3,4,5,6,7,8]),(4,[0,1,2,3,4,5,7,8,9])] AQ_ (hJ:= .nil) (he:=AYg Ae)
def AZr:SQ:=mk Tryz.func122 AAE pd SR [AEM,AO1,APG] [] []
abbrev i208:Ba:=xB
abbrev ATi:Ba:=CY
def AVD:SQ:=mk Tryz.func208 i208 ATi OL [s32,s98] [] [⟨4,⟨[(2,Kf),(17,ALf),(18,BO),(19,BO)],API⟩,KL⟩]
abbrev ARU:Ba:=AL9
abbrev AW8:Ba:=AAL
def AW_:SQ:=mk Tryz.func209 ARU AW8 Pk [s36,fq,s46,s87,AKR] [(5,[0,1,2,4])] []
abbrev yt:Ba:=AFf
abbrev AN5:Ba:=⟨nP,[.mem [.ref 1,.v tI,.ref 2,.ref 3,.ref 9,.v tI,.ref 5,.ref 10,.ref 7,.ref 8,.v .bool],C6,V3,C6,PS,Q4,PS,Ox,Jh,KX,SZ]⟩
def AUy:QU:=⟨yt,AN5,(yt.un Iw)⟩
def AY3:aN:=⟨T,Q_ (SP.l [vj,AVD,AW_]),CX [(3,[0,1,2,3,4,5,6,7,8]),(5,[0,1,2,3,4,5,6,7,8])]⟩
def AOb:List (Lp AN5):=[]
theorem AYF(ACi:Bool→Option di)(AW4:AA9→ABH→Option K9)(AUE:AA9→ABr→Int→Int→Option bu)(n:Nat)(ω:List Bool)(v:yt.V):DR ⟨T,Q_ [(125,⟨AEU,AQC,AEU.un ACi⟩),(208,⟨i208,ATi,i208.un AW4⟩),(209,⟨ARU,AW8,ARU.un AUE⟩)],CX [(3,[0,1,2,3,4,5,6,7,8]),(5,[0,1,2,3,4,5,6,7,8])]⟩ AUy Tryz.f123 (M9 9 AOb n) ω v=yt.un (fun(AG:Int) (AW:Int) (AL:Bool) (b1:AAO) (b2:AAP) (b3:AAO) (b4:AAS) (b5:AAr) (b6:AAv) (b7:AAs) (b8:AAk)=>
 cond (((b6.length:Int)==0))
  (some ((2,()),(((),AG,(),(),(),AW,(),(),(),(),AL,()),b1,b2,b3,(),b5,(),b7,b8,b4,b6,())))
 (if(0:Int)≤(0:Int)∧(0:Int)<(b6.length:Int)then(
 (AW4 (b1,AG,()) ((b6.getD 0 (0,0,[],[],false,[],())).1,(b6.getD 0 (0,0,[],[],false,[],())).2.1,(b6.getD 0 (0,0,[],[],false,[],())).2.2.1,(b6.getD 0 (0,0,[],[],false,[],())).2.2.2.1,(b6.getD 0 (0,0,[],[],false,[],())).2.2.2.2.1,(b6.getD 0 (0,0,[],[],false,[],())).2.2.2.2.2.1,())).bind fun u2=>
 cond (!u2.1.1)
  (some ((5,()),(((),AG,(),(),(),AW,(),(),(),(),AL,()),b1,b2,b3,(),b5,(),b7,b8,b4,b6,())))
 (if(0:Int)≤(0:Int)∧(0:Int)<(b6.length:Int)then(
 if(0:Int)≤(0:Int)∧(0:Int)<(b6.length:Int)then(
 (AUE (b1,AG,()) (b4,AW,()) ((b6.getD 0 (0,0,[],[],false,[],())).1) (((b6.getD 0 (0,0,[],[],false,[],())).2.2.2.2.2.1).length:Int)).bind fun u5=>
 cond (u5.1.1.2.1)
  ((ACi u5.1.1.2.1).bind fun u6=>
  some ((u6.1.1,()),(((),AG,(),(),(),u5.1.1.1.2.1,(),(),(),(),AL,()),b1,b2,b3,(),b5,(),b7,b8,u5.2.1,[],())))
 ((ACi u5.1.1.2.1).bind fun u7=>
 some ((u7.1.1,()),(((),AG,(),(),(),AW,(),(),(),(),AL,()),b1,b2,b3,(),b5,(),b7,b8,b4,b6,()))))else none)else none))else none)) v:=by rcases ω with _|⟨_|_,_⟩<;>kernel_rfl
theorem AZc(n:Nat)(ω:List Bool)(v:yt.V):DR AY3 AUy Tryz.f123 (M9 9 AOb n) ω v=yt.un (Iw) v:=AYF Jw OL Pk n ω v
def AbX:SQ:=mk Tryz.func123 yt AN5 Iw [vj,AVD,AW_] [(3,[0,1,2,3,4,5,6,7,8]),(5,[0,1,2,3,4,5,6,7,8])] AOb (hJ:= .nil) (he:=AZc Ae)
def Abi:SQ:=mk Tryz.func124 AMx AAL Vx [fq,s46,s87,s95,AKR] [(1,[0,1,2])] []
def Aao:SQ:=mk Tryz.func274 AAB Ff Pm [] [] [⟨2,⟨[(1,Kf),(6,AJX),(7,BO),(8,BO)],[AH3]⟩,JF⟩]
abbrev i212:Ba:=xW
abbrev ARS:Ba:=Ff
def AVL:SQ:=mk Tryz.func212 i212 ARS Qi [Aao] [] [⟨2,⟨[(1,BO),(8,.c (.sl false Y6)),(9,BO),(10,BO)],[]⟩,OS⟩]
def AXw:SQ:=mk Tryz.func271 ⟨[(0,rB)],[]⟩ fJ Od [] [] [⟨3,⟨[(3,nq),(7,rB),(8,BO),(9,BO)],uj⟩,Mj⟩]
def s54:SQ:=mk Tryz.func54 ⟨[(0,BO),(1,.row Y9)],[]⟩ CY KQ [s95,ANf] [(2,[0])] []
def AVu:SQ:=mk Tryz.func272 ⟨[(0,Kf),(1,.row Y8)],AMM⟩ AM2 E9 [] [(1,[2])] [] (he:=fun ω v=>by rcases ω with _|⟨_|_,_⟩<;>kernel_rfl)
def AY6:SQ:=mk Tryz.func303 ⟨[(0,rB),(1,Z8),(2,BO)],[]⟩ vt X3 [zY,AGl,AUQ] [] [⟨3,⟨[(1,Z8),(2,BO),(6,Kf),(8,Ze),(9,xP0),(13,rB),(14,BO),(15,BO)],[ABd,ABd]⟩,N7⟩]
def Aaa:SQ:=mk Tryz.func273 ⟨[(0,Kf),(1,rB),(2,Z8)],AMM⟩ AM2 C1 [s31,AVu,AY6] [(0,[0,1])] []
abbrev AEs:Ba:=AMl
abbrev ASL:Ba:=⟨AUp,[.sl 1 Y8]⟩
def AVZ:SQ:=mk Tryz.func211 AEs ASL Jp [s46,s54,s74,s91,s95,s99,ANf,AJs,ATm,AXw,AVu,Aaa] [(1,[0,1,2,3]),(8,[0,1,2,3,4,8,9]),(11,[0,1,2,3,4,5,6,7])] []
abbrev yf:Ba:=⟨AVp,AMi⟩
abbrev AQv:Ba:=⟨nP,AMi⟩
def ALJ:QU:=⟨yf,AQv,(yf.un MW)⟩
def AUk:aN:=⟨T,Q_ (SP.l [s31,fq,s60,s93,AKz,AVZ,AVL]),CX [(13,[0,1,2,3,4,5,6,7,8,9,10,11]),(16,[0,1,2,3,4,5,6,8,9,10,11])]⟩
def AFk:List (Lp AQv):=[⟨7,⟨[(0,Kf),(1,BO),(7,cT),(8,BO),(10,.c (.ref 10)),(43,.c (.ref 11)),(44,BO),(45,BO)],[rQ,C6,V3,C6,KX,Q4,SZ,.sl 1 Y9,Jh,.mem [.v tI,.v tI,.sl true Y8],.sl 9 Y14,Es]⟩,C5⟩]
abbrev kG:Ba:=⟨[(0,Kf),(1,BO),(7,cT),(8,BO),(10,.c (.ref 10)),(43,.c (.ref 11)),(44,BO),(45,BO)],[rQ,C6,V3,C6,KX,Q4,SZ,.sl 1 Y9,Jh,.mem [.v tI,.v tI,.sl true Y8],.sl 9 Y14,Es]⟩
theorem AN_(g31:Int→Int→Option K7)(g43:Int→Int→Int→Option Mw)(g60:ACN→Int→Option Me)(g93:ABF→Int→Option Kr)(y9:Int→Option HG)(AGh:AA9→ABr→Int→AC8→ACx→Option J_)(AHO:ABF→Int→Option Mz)(n:Nat)(v:kG.V)(ω:List Bool):JR ⟨T,Q_ [(31,⟨i31,o31,i31.un g31⟩),(43,⟨i43,o43,i43.un g43⟩),(60,⟨i60,o60,i60.un g60⟩),(93,⟨i93,o93,i93.un g93⟩),(188,⟨zD,AHt,zD.un y9⟩),(211,⟨AEs,ASL,AEs.un AGh⟩),(212,⟨i212,ARS,i212.un AHO⟩)],CX [(13,[0,1,2,3,4,5,6,7,8,9,10,11]),(16,[0,1,2,3,4,5,6,8,9,10,11])]⟩ ALJ Tryz.f126 (M9 9 AFk n) 7 ω (kG.st 111 v)=kG.un (fun(t1:Int) (t8:Int) (t44:Int) (t45:Int) (AG:Int) (AW:Int) (AL:Bool) (b1:AAO) (b2:AAP) (b3:AAO) (b4:AAS) (b5:AAr) (b6:AAv) (b7:AAs) (b8:AAk) (iG:Int) (Dx:Int) (dq:ADC) (Jc:ACx) (FV:AAO)=>
 cond (decide (t45<t44))
  (if(0:Int)≤t45∧t45<(FV.length:Int)then(
  let x8:Int:=(FV.getD (t45.toNat) 0)
  cond ((decide (x8<(b2.length:Int))))
   ((g93 (b1,AG,b2,b3,b4,AW,b5,b6,b7,b8,AL,()) x8).bind fun ED=>
   cond (!ED.1.1)
    (if(0:Int)≤x8∧x8<(b2.length:Int)then(
    (g60 ((b2.getD (x8.toNat) ([],[],0,())).1,(b2.getD (x8.toNat) ([],[],0,())).2.1,(b2.getD (x8.toNat) ([],[],0,())).2.2.1,()) t8).bind fun N9=>
    if Jc.length+1≤Go.M.Dr then(
    (C5 n) t1 t8 t44 (AZ (t45+1)) AG AW AL b1 b2 b3 b4 b5 b6 b7 b8 iG Dx dq (Jc++[(x8,N9.1.1.2.1,N9.1.1.1.1,N9.1.1.1.2.1,N9.1.1.1.2.2.1,N9.1.1.1.2.2.2.1,())]) FV)else none)else none)
   ((C5 n) t1 t8 t44 (AZ (t45+1)) AG AW AL b1 b2 b3 b4 b5 b6 b7 b8 iG Dx dq Jc FV))
  ((C5 n) t1 t8 t44 (AZ (t45+1)) AG AW AL b1 b2 b3 b4 b5 b6 b7 b8 iG Dx dq Jc FV))else none)
 ((AHO (b1,AG,b2,b3,b4,AW,b5,b6,b7,b8,AL,()) iG).bind fun WL=>
 (AGh (b1,AG,()) (b4,AW,()) WL.1.1 (iG,Dx,dq,()) Jc).bind fun VH=>
 cond (VH.1.1.2.1 !=0)
  (some ((5,()),(((),AG,(),(),(),AW,(),(),(),(),AL,()),b1,b2,b3,b4,b5,b6,b7,b8,())))
 (if(0:Int)≤t1∧t1<(b7.length:Int)then(
 some ((0,()),(((),AG,(),(),(),AW,(),(),(),(),AL,()),b1,b2,b3,b4,b5,b6,(b7.set (t1.toNat) (VH.1.1.1.1,VH.1.1.1.2.1,VH.2.1,())),b8,())))else none))) v:=by rcases ω with _|⟨_|_,_|⟨_|_,_⟩⟩<;>kernel_rfl
theorem ANz(n:Nat)(v:kG.V)(ω:List Bool):JR AUk ALJ Tryz.f126 (M9 9 AFk n) 7 ω (kG.st 111 v)=kG.un (NA (C5 n)) v:=AN_ Dl A5 GQ C3 Hc Jp Qi n v ω
theorem Aak(g31:Int→Int→Option K7)(g43:Int→Int→Int→Option Mw)(g60:ACN→Int→Option Me)(g93:ABF→Int→Option Kr)(y9:Int→Option HG)(AGh:AA9→ABr→Int→AC8→ACx→Option J_)(AHO:ABF→Int→Option Mz)(n:Nat)(ω:List Bool)(v:yf.V):DR ⟨T,Q_ [(31,⟨i31,o31,i31.un g31⟩),(43,⟨i43,o43,i43.un g43⟩),(60,⟨i60,o60,i60.un g60⟩),(93,⟨i93,o93,i93.un g93⟩),(188,⟨zD,AHt,zD.un y9⟩),(211,⟨AEs,ASL,AEs.un AGh⟩),(212,⟨i212,ARS,i212.un AHO⟩)],CX [(13,[0,1,2,3,4,5,6,7,8,9,10,11]),(16,[0,1,2,3,4,5,6,8,9,10,11])]⟩ ALJ Tryz.f126 (M9 9 AFk n) ω v=yf.un (fun(p1:Int) (p2:Int) (AG:Int) (AW:Int) (AL:Bool) (b1:AAO) (b2:AAP) (b3:AAO) (b4:AAS) (b5:AAr) (b6:AAv) (b7:AAs) (b8:AAk)=>
 (g43 p1 0 (AZ ((b7.length:Int)-1))).bind fun u2=>
 cond (!u2.1.1)
  (some ((2,()),(((),AG,(),(),(),AW,(),(),(),(),AL,()),b1,b2,b3,b4,b5,b6,b7,b8,())))
 (if(0:Int)≤p1∧p1<(b7.length:Int)then(
 (g31 ((b7.getD (p1.toNat) (0,0,[],())).1) ((b7.getD (p1.toNat) (0,0,[],())).2.1)).bind fun u5=>
 (y9 p2).bind fun u6=>
 (C5 n) p1 u5.1.1.1 (u6.2.1.length:Int) 0 AG AW AL b1 b2 b3 b4 b5 b6 b7 b8 ((b7.getD (p1.toNat) (0,0,[],())).1) ((b7.getD (p1.toNat) (0,0,[],())).2.1) ((b7.getD (p1.toNat) (0,0,[],())).2.2.1) [] u6.2.1)else none)) v:=by kernel_rfl
theorem AaK(n:Nat)(ω:List Bool)(v:yf.V):DR AUk ALJ Tryz.f126 (M9 9 AFk n) ω v=yf.un (M5 (C5 n)) v:=Aak Dl A5 GQ C3 Hc Jp Qi n ω v
def AZ1:SQ:=mk Tryz.func126 yf AQv MW [s31,fq,s60,s93,AKz,AVZ,AVL] [(13,[0,1,2,3,4,5,6,7,8,9,10,11]),(16,[0,1,2,3,4,5,6,8,9,10,11])] AFk (hJ:= .cons (fun _=>rfl) ANz (.nil)) (he:=AaK Ae)
def AVS:SQ:=mk Tryz.func276 ⟨[(0,.row Y1),(1,.c (.my (.cons tI .unit)))],[]⟩ CY O3 [] [] []
def AZf:SQ:=mk Tryz.func304 ⟨[(0,qv),(1,AJp)],[]⟩ Ff Cg [AVS] [] [⟨2,⟨[(0,qv),(1,AJp),(7,BO),(8,BO)],[]⟩,BK⟩]
def Aac:SQ:=mk Tryz.func275 ⟨[(0,nq),(1,AJp)],sy⟩ AMa Bq [AVS,AZf] [] [⟨5,⟨[(0,nq),(1,AJp),(5,BO),(6,BO)],sy⟩,BH⟩]
def AbB:SQ:=mk Tryz.func213 iM AAD SI [s53,s88,s92,ALD,Aac] [] []
def AX_:SQ:=mk Tryz.func127 tK pd Oj [vj,AF1,AbB] [(4,[0,1,2,3,4,5,6,7,8]),(5,[0,1,3,4,5,6,7,8])] [] (he:=fun ω v=>by rcases ω with _|⟨_|_,_⟩<;>kernel_rfl)
def AZp:SQ:=AXx (ρ:=JD 0 128 0 0 31 63) (nm:= "slices.Delete[[]loop.example/g00178/impl.Writer,loop.example/g00178/impl.Writer]") tOk (mI.del ⟨by kernel_rfl,by kernel_rfl,by kernel_rfl,by kernel_rfl,by kernel_rfl,by kernel_rfl,by kernel_rfl,by kernel_rfl,by kernel_rfl,by kernel_rfl,by kernel_rfl,by kernel_rfl⟩ mx (by kernel_rfl) (by kernel_rfl)) (r:=Y6) 2 rfl (by kernel_rfl) (by kernel_rfl) FB (fun _=>rfl)
def s57:SQ:=mk Tryz.func57 AMN ⟨nP,[.mem [.ref 1,.v tI,.ref 2,.ref 9,.ref 10,.v tI,.ref 11,.ref 12,.ref 7,.ref 13,.v .bool],C6,UQ,PS,PS,PS,PS,.sl 1 Y9,PS,C6,KX,Q4,.sl 2 Y7,Jh]⟩ Tl [fq,AZg,AYi,AbU,AXp,AZL,Aa3,AZB,AaQ,AbD,AZR,AZr,AbX,Abi,vj,AZ1,AX_,AZp] [(27,[0,1,2,3,4,5,6,7,8,9]),(34,[0,1,2,3,4,5,6,7,8,9]),(36,[1,2,3,4,6,7,8,9])] [] (he:=fun ω v=>by rcases ω with _|⟨_|_,_⟩<;>kernel_rfl)
def s21:SQ:=mk Tryz.func21 AMJ ⟨AST,[C6,UQ,C6,KX,Q4,.sl 2 Y7,.sl 1 Y9,Jh]⟩ PB [s16,s40,s56,s57] [] []
abbrev i11:Ba:=AMz
abbrev o11:Ba:=⟨AVw,[C6,UQ,C6,KX,Q4,.sl 2 Y7,.sl 1 Y9,Jh,Es]⟩
def s11:SQ:=mk Tryz.func11 i11 o11 Mv [s16,s21,s40] [] [⟨6,⟨[(4,Kf),(6,cT),(7,.c (.ref 18)),(25,ARB),(26,BO),(27,BO)],[rQ,Es,Xo,Es,RN,Xu,Xs,Xk,Rr,rh,C6,UQ,C6,KX,Q4,.sl 2 Y7,.sl 1 Y9,Jh,Es]⟩,La⟩]
abbrev i17:Ba:=AMz
abbrev o17:Ba:=⟨AVw,[C6,UQ,C6,KX,ij,.sl 1 Y7,Ox,Jh,Es]⟩
def s17:SQ:=mk Tryz.func17 i17 o17 Mr [s22,s51,s52] [(8,[0,1,2,3,4,5,6,7,8,9,10,11,12,13,14,15,16,17,18])] [⟨6,⟨[(1,ARB),(4,Kf),(6,.c (.ref 9)),(7,bO),(8,BO)],[rQ,Es,Xo,Es,RN,Xu,Xs,Xk,Rr,Es,ABt,C6,UQ,C6,KX,ij,.sl 1 Y7,Ox,Jh]⟩,LK⟩] (hJ:= .cons (fun _=>rfl) (fun n v ω=>by rcases ω with _|⟨_|_,_⟩<;>kernel_rfl) (.nil))
abbrev i18:Ba:=AAJ
abbrev o18:Ba:=CY
def s18:SQ:=mk Tryz.func18 i18 o18 Ms [] [] [⟨4,⟨[(0,Z8),(1,Z8),(5,BO)],[]⟩,LP⟩]
def s55:SQ:=mk Tryz.func55 ⟨[(0,.row Y9),(1,BO)],[]⟩ ⟨[(0,.MH [.inl (.v .str),.inl (.v .bool)])],[]⟩ aF [] [] [⟨2,⟨[(1,BO),(9,.c (.sl false Y8)),(10,BO),(11,BO)],[]⟩,RQ⟩]
abbrev i19:Ba:=lr
abbrev o19:Ba:=CY
def s19:SQ:=mk Tryz.func19 i19 o19 K4 [s16,s53,s54,s55] [(9,[0,1]),(11,[0,1]),(12,[0,1])] [⟨4,⟨[(1,Kf),(22,ALK),(23,BO),(24,BO)],ACw⟩,FO⟩,⟨7,⟨[(1,Kf),(22,ALK),(23,BO),(24,BO),(29,.c (.sl false Y8)),(30,BO),(31,BO)],ACw⟩,Gl⟩]
abbrev i15:Ba:=xW
abbrev o15:Ba:=⟨ACI,[Rr]⟩
def s15:SQ:=mk Tryz.func15 i15 o15 Nt [s16,fq] [] [⟨5,⟨[(5,nq),(27,.c (.sl false Y8)),(28,BO),(29,BO)],[Rr]⟩,Lb⟩]
abbrev i20:Ba:=⟨[(0,ACa),(1,.row Y10)],[]⟩
abbrev o20:Ba:=CY
def s20:SQ:=mk Tryz.func20 i20 o20 Jq [] [(4,[0])] [⟨2,⟨[(0,ACa),(3,Kf),(5,BO)],[AQp]⟩,I3⟩]
abbrev i4:Ba:=AEI
abbrev o4:Ba:=CY
def c4:QU:=⟨i4,o4,(i4.un Qv)⟩
def C4:aN:=⟨T,Q_ (SP.l [s9,s10,s11,s15,s17,s18,s19,s20]),CX [(8,[0,1,2,3,4,5,6,7,8,9,10,11,12,13,14,15,16,17,18,19,20,21]),(12,[0,1,2,3,4,5,6,7,8,9,10])]⟩
def L4:List (Lp o4):=[⟨10,⟨[(5,Kf),(9,.c (.ref 9)),(10,.c (.ref 10)),(11,BO)],[rQ,C6,UQ,C6,KX,Q4,.sl 2 Y7,.sl 1 Y9,Jh,Rr,Rr]⟩,D_⟩]
abbrev ru:Ba:=⟨[(5,Kf),(9,.c (.ref 9)),(10,.c (.ref 10)),(11,BO)],[rQ,C6,UQ,C6,KX,Q4,.sl 2 Y7,.sl 1 Y9,Jh,Rr,Rr]⟩
theorem AU6(g9:List Int→Option ft)(g10:List Int→Option NF)(g11:ABF→ADB→Option H9)(g15:ABF→Int→Option Mu)(g17:ABF→ADB→Option H4)(g18:List Int→List Int→Option Jt)(g19:ABF→Option F6)(g20:AAk→AEe→Option Ht)(n:Nat)(v:ru.V)(ω:List Bool):JR ⟨T,Q_ [(9,⟨i9,o9,i9.un g9⟩),(10,⟨i10,o10,i10.un g10⟩),(11,⟨i11,o11,i11.un g11⟩),(15,⟨i15,o15,i15.un g15⟩),(17,⟨i17,o17,i17.un g17⟩),(18,⟨i18,o18,i18.un g18⟩),(19,⟨i19,o19,i19.un g19⟩),(20,⟨i20,o20,i20.un g20⟩)],CX [(8,[0,1,2,3,4,5,6,7,8,9,10,11,12,13,14,15,16,17,18,19,20,21]),(12,[0,1,2,3,4,5,6,7,8,9,10])]⟩ c4 Tryz.f4 (M9 0 L4 n) 10 ω (ru.st 93 v)=ru.un (fun(t11:Int) (AG:Int) (AW:Int) (AL:Bool) (b1:AAO) (b2:AAP) (b3:AAO) (b4:AAS) (b5:AAr) (b6:AAv) (b7:AAs) (b8:AAk) (b9:AAk) (Jc:AAk)=>
 cond ((decide (t11<(b9.length:Int))))
  (cond (!AL)
   (if(0:Int)≤t11∧t11<(b9.length:Int)then(
   cond (decide (((b9.getD (t11.toNat) (0,[],false,())).1)>AW))
    (if(0:Int)≤(1:Int)∧(1:Int)<(b7.length:Int)then(
    if(0:Int)≤(1:Int)∧(1:Int)<(b7.length:Int)then(
    if(0:Int)≤t11∧t11<(b9.length:Int)then(
    cond ((decide ((AZ ((AZ (4294967296*((b7.getD 1 (0,0,[],())).1)))+((b7.getD 1 (0,0,[],())).2.1)))>((b9.getD (t11.toNat) (0,[],false,())).1))))
     (if(0:Int)≤t11∧t11<(b9.length:Int)then(
     (g20 Jc ((b9.getD (t11.toNat) (0,[],false,())).1,(b9.getD (t11.toNat) (0,[],false,())).2.1,(b9.getD (t11.toNat) (0,[],false,())).2.2.1,())).bind fun nf=>
     cond (!nf.1.1)
      (some ((false,()),()))
     ((D_ n) (AZ (t11+1)) AG AW AL b1 b2 b3 b4 b5 b6 b7 b8 b9 Jc))else none)
    ((D_ n) (AZ (t11+1)) AG AW AL b1 b2 b3 b4 b5 b6 b7 b8 b9 Jc))else none)else none)else none)
   ((D_ n) (AZ (t11+1)) AG AW AL b1 b2 b3 b4 b5 b6 b7 b8 b9 Jc))else none)
  (some ((true,()),())))
 (some ((true,()),()))) v:=by kernel_rfl
theorem AVR(n:Nat)(v:ru.V)(ω:List Bool):JR C4 c4 Tryz.f4 (M9 0 L4 n) 10 ω (ru.st 93 v)=ru.un (P_ (D_ n)) v:=AU6 de Jz Mv Nt Mr Ms K4 Jq n v ω
theorem b4(g9:List Int→Option ft)(g10:List Int→Option NF)(g11:ABF→ADB→Option H9)(g15:ABF→Int→Option Mu)(g17:ABF→ADB→Option H4)(g18:List Int→List Int→Option Jt)(g19:ABF→Option F6)(g20:AAk→AEe→Option Ht)(n:Nat)(ω:List Bool)(v:i4.V):DR ⟨T,Q_ [(9,⟨i9,o9,i9.un g9⟩),(10,⟨i10,o10,i10.un g10⟩),(11,⟨i11,o11,i11.un g11⟩),(15,⟨i15,o15,i15.un g15⟩),(17,⟨i17,o17,i17.un g17⟩),(18,⟨i18,o18,i18.un g18⟩),(19,⟨i19,o19,i19.un g19⟩),(20,⟨i20,o20,i20.un g20⟩)],CX [(8,[0,1,2,3,4,5,6,7,8,9,10,11,12,13,14,15,16,17,18,19,20,21]),(12,[0,1,2,3,4,5,6,7,8,9,10])]⟩ c4 Tryz.f4 (M9 0 L4 n) ω v=i4.un (fun(p0:AAO)=>
 (g9 p0).bind fun u1=>
 cond (u1.1.1)
  (some ((true,()),()))
 ((g10 p0).bind fun u2=>
 (g11 (u2.1.1.1.1,u2.1.1.1.2.1,u2.1.1.1.2.2.1,u2.1.1.1.2.2.2.1,u2.1.1.1.2.2.2.2.1,u2.1.1.1.2.2.2.2.2.1,u2.1.1.1.2.2.2.2.2.2.1,u2.1.1.1.2.2.2.2.2.2.2.1,u2.1.1.1.2.2.2.2.2.2.2.2.1,u2.1.1.1.2.2.2.2.2.2.2.2.2.1,u2.1.1.1.2.2.2.2.2.2.2.2.2.2.1,()) u2.2.1).bind fun u3=>
 (g17 (u2.1.1.1.1,u2.1.1.1.2.1,u2.1.1.1.2.2.1,u2.1.1.1.2.2.2.1,u2.1.1.1.2.2.2.2.1,u2.1.1.1.2.2.2.2.2.1,u2.1.1.1.2.2.2.2.2.2.1,u2.1.1.1.2.2.2.2.2.2.2.1,u2.1.1.1.2.2.2.2.2.2.2.2.1,u2.1.1.1.2.2.2.2.2.2.2.2.2.1,u2.1.1.1.2.2.2.2.2.2.2.2.2.2.1,()) u2.2.1).bind fun u5=>
 (g18 u3.2.2.2.2.2.2.2.2.2.1 u5.2.2.2.2.2.2.2.2.2.1).bind fun u7=>
 cond (!u7.1.1)
  (some ((false,()),()))
 ((g19 (u3.2.1,u3.1.1.1.2.1,u3.2.2.1,u3.2.2.2.1,u3.2.2.2.2.1,u3.1.1.1.2.2.2.2.2.1,u3.2.2.2.2.2.1,u3.2.2.2.2.2.2.1,u3.2.2.2.2.2.2.2.1,u3.2.2.2.2.2.2.2.2.1,u3.1.1.1.2.2.2.2.2.2.2.2.2.2.1,())).bind fun u8=>
 cond (!u8.1.1)
  (some ((false,()),()))
 ((g15 (u3.2.1,u3.1.1.1.2.1,u3.2.2.1,u3.2.2.2.1,u3.2.2.2.2.1,u3.1.1.1.2.2.2.2.2.1,u3.2.2.2.2.2.1,u3.2.2.2.2.2.2.1,u3.2.2.2.2.2.2.2.1,u3.2.2.2.2.2.2.2.2.1,u3.1.1.1.2.2.2.2.2.2.2.2.2.2.1,()) 0).bind fun u9=>
 (g15 (u3.2.1,u3.1.1.1.2.1,u3.2.2.1,u3.2.2.2.1,u3.2.2.2.2.1,u3.1.1.1.2.2.2.2.2.1,u3.2.2.2.2.2.1,u3.2.2.2.2.2.2.1,u3.2.2.2.2.2.2.2.1,u3.2.2.2.2.2.2.2.2.1,u3.1.1.1.2.2.2.2.2.2.2.2.2.2.1,()) 1).bind fun ED=>
 (D_ n) 0 u3.1.1.1.2.1 u3.1.1.1.2.2.2.2.2.1 u3.1.1.1.2.2.2.2.2.2.2.2.2.2.1 u3.2.1 u3.2.2.1 u3.2.2.2.1 u3.2.2.2.2.1 u3.2.2.2.2.2.1 u3.2.2.2.2.2.2.1 u3.2.2.2.2.2.2.2.1 u3.2.2.2.2.2.2.2.2.1 u9.2.1 ED.2.1)))) v:=by kernel_rfl
theorem e4(n:Nat)(ω:List Bool)(v:i4.V):DR C4 c4 Tryz.f4 (M9 0 L4 n) ω v=i4.un (SC (D_ n)) v:=b4 de Jz Mv Nt Mr Ms K4 Jq n ω v
def s4:SQ:=mk Tryz.func4 i4 o4 Qv [s9,s10,s11,s15,s17,s18,s19,s20] [(8,[0,1,2,3,4,5,6,7,8,9,10,11,12,13,14,15,16,17,18,19,20,21]),(12,[0,1,2,3,4,5,6,7,8,9,10])] L4 (hJ:= .cons (fun _=>rfl) AVR (.nil)) (he:=e4 Ae)
end
end Go.Proofs.YtebiojjohcpanaaGreat.Wk
