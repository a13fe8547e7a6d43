/- Each function computes what was printed: by the kernel. -/
import Derived.Test.YtebiojjohcpanaaGreatE0
import Derived.Test.YtebiojjohcpanaaGreatProg
import Derived.KernelRfl
set_option linter.unusedVariables false
set_option linter.unusedSimpArgs false
set_option linter.unusedSectionVars false
namespace Go.Proofs.YtebiojjohcpanaaGreat.Wk
open Go Go.Fw Go.M Go.Proofs
noncomputable section
abbrev uj:BZ:=sY
abbrev AQR:BZ:=⟨mT,[ACg,Du,Vz,Du,M_,Un,.sl 2 Y7,Ps,MO]⟩
def APv:QN:=⟨uj,AQR,(uj.un Jx)⟩
def Aaw:aW:=⟨T,RD (SP.l [AFS,AUn,AUS,AU8]),CQ [(7,[0,1,2,3,4,5,6,7,8,9]),(8,[0,1,2,3,4,5,6,7,8,9,10,11,12]),(11,[0,1,3,4,5,7,8,9,13])]⟩
def AKB:List (Lp AQR):=[]
def Dy(ω:List Bool):Prop:= ∀(uA:ABN→Int→Int→Option ID) (ABX:ACc→Int→Option TX) (ACu:ABL→ABZ→Int→ABE→Option Jy) (AC8:ACc→Int→Option J3) (n:Nat) (v:uj.V),DO ⟨T,RD [(191,⟨zO,ALH,zO.un uA⟩),(203,⟨i203,AO5,i203.un ABX⟩),(204,⟨ADx,ASh,ADx.un ACu⟩),(205,⟨AGI,AQG,AGI.un AC8⟩)],CQ [(7,[0,1,2,3,4,5,6,7,8,9]),(8,[0,1,2,3,4,5,6,7,8,9,10,11,12]),(11,[0,1,3,4,5,7,8,9,13])]⟩ APv Tryz.f120 (L0 9 AKB n) ω v=uj.un (fun(p1:Int) (AF:Int) (AU:Int) (AK:Bool) (b1:AAH) (b2:AAh) (b3:AAH) (b4:AAo) (b5:AA1) (b6:ABB) (b7:AAs) (b8:AAX)=>
 cond (((b6.length:Int)==0))
  (some ((2,()),(((),AF,(),(),(),AU,(),(),(),(),AK,()),b1,b2,b3,b4,b5,b6,b7,b8,())))
 (if(0:Int)≤(0:Int)∧(0:Int)<(b6.length:Int)then(
 (uA (b1,AF,b2,b3,b4,AU,b5,b6,b7,b8,AK,()) p1 ((b6.getD 0 (0,0,[],[],false,[],())).2.1)).bind fun u3=>
 cond (u3.1.1 !=0)
  (some ((u3.1.1,()),(((),AF,(),(),(),AU,(),(),(),(),AK,()),b1,b2,b3,b4,b5,b6,b7,b8,())))
 (if(0:Int)≤p1∧p1<(b2.length:Int)then(
 (ABX ((b2.getD (p1.toNat) ([],[],0,())).1,(b2.getD (p1.toNat) ([],[],0,())).2.1,(b2.getD (p1.toNat) ([],[],0,())).2.2.1,()) (AZ (((b6.getD 0 (0,0,[],[],false,[],())).1)-1))).bind fun u5=>
 (AC8 (u5.2.1,u5.2.2.1,u5.1.1.1.2.2.1,()) ((b6.getD 0 (0,0,[],[],false,[],())).2.1)).bind fun u7=>
 (ACu (b1,AF,()) ((b6.getD 0 (0,0,[],[],false,[],())).1,(b6.getD 0 (0,0,[],[],false,[],())).2.1,(b6.getD 0 (0,0,[],[],false,[],())).2.2.1,(b6.getD 0 (0,0,[],[],false,[],())).2.2.2.1,(b6.getD 0 (0,0,[],[],false,[],())).2.2.2.2.1,(b6.getD 0 (0,0,[],[],false,[],())).2.2.2.2.2.1,()) p1 u7.2.1).bind fun u8=>
 cond (!u5.1.1.2.1)
  (some ((4,()),(((),AF,(),(),(),AU,(),(),(),(),AK,()),b1,b2,b3,b4,b5,b6,b7,b8,())))
 (cond (!u8.1.1.2.1)
  (some ((4,()),(((),AF,(),(),(),AU,(),(),(),(),AK,()),b1,b2,b3,b4,b5,b6,b7,b8,())))
 (if(0:Int)≤p1∧p1<(b2.length:Int)then(
 if(0:Int)≤(0:Int)∧(0:Int)<(b6.length:Int)then(
 some ((0,()),(((),AF,(),(),(),AU,(),(),(),(),AK,()),b1,(b2.set (p1.toNat) (u5.2.1,u5.2.2.1,u5.1.1.1.2.2.1,())),b3,b4,b5,(b6.set 0 (u8.1.1.1.1,u8.1.1.1.2.1,u8.2.1,u8.2.2.1,u8.1.1.1.2.2.2.2.1,u8.2.2.2.1,())),b7,b8,())))else none)else none)))else none))else none)) v
theorem AP2:Dy []:=by delta Dy;intros;kernel_rfl
theorem ASX:Dy (false::[]):=by delta Dy;intros;kernel_rfl
theorem AS0(ω:List Bool):Dy (false::false::ω):=by delta Dy;intros;kernel_rfl
theorem AOk:Dy (false::true::[]):=by delta Dy;intros;kernel_rfl
theorem AQ7:Dy (false::true::false::[]):=by delta Dy;intros;kernel_rfl
theorem AO0(ω:List Bool):Dy (false::true::false::false::ω):=by delta Dy;intros;kernel_rfl
theorem ANx:Dy (false::true::false::true::[]):=by delta Dy;intros;kernel_rfl
theorem AQC(ω:List Bool):Dy (false::true::false::true::false::ω):=by delta Dy;intros;kernel_rfl
theorem AOF(ω:List Bool):Dy (false::true::false::true::true::ω):=by delta Dy;intros;kernel_rfl
theorem AJm:Dy (false::true::true::[]):=by delta Dy;intros;kernel_rfl
theorem AI0(ω:List Bool):Dy (false::true::true::false::ω):=by delta Dy;intros;kernel_rfl
theorem AIu:Dy (false::true::true::true::[]):=by delta Dy;intros;kernel_rfl
theorem AIY(ω:List Bool):Dy (false::true::true::true::false::ω):=by delta Dy;intros;kernel_rfl
theorem AJs(ω:List Bool):Dy (false::true::true::true::true::ω):=by delta Dy;intros;kernel_rfl
theorem AJj:Dy (true::[]):=by delta Dy;intros;kernel_rfl
theorem AIT(ω:List Bool):Dy (true::false::ω):=by delta Dy;intros;kernel_rfl
theorem AIA:Dy (true::true::[]):=by delta Dy;intros;kernel_rfl
theorem AJV:Dy (true::true::false::[]):=by delta Dy;intros;kernel_rfl
theorem AL7(ω:List Bool):Dy (true::true::false::false::ω):=by delta Dy;intros;kernel_rfl
theorem AKw:Dy (true::true::false::true::[]):=by delta Dy;intros;kernel_rfl
theorem ALT(ω:List Bool):Dy (true::true::false::true::false::ω):=by delta Dy;intros;kernel_rfl
theorem ALs(ω:List Bool):Dy (true::true::false::true::true::ω):=by delta Dy;intros;kernel_rfl
theorem AGg:Dy (true::true::true::[]):=by delta Dy;intros;kernel_rfl
theorem AJW(ω:List Bool):Dy (true::true::true::false::ω):=by delta Dy;intros;kernel_rfl
theorem AG_:Dy (true::true::true::true::[]):=by delta Dy;intros;kernel_rfl
theorem AHC(ω:List Bool):Dy (true::true::true::true::false::ω):=by delta Dy;intros;kernel_rfl
theorem AIb(ω:List Bool):Dy (true::true::true::true::true::ω):=by delta Dy;intros;kernel_rfl
theorem AbN(uA:ABN→Int→Int→Option ID)(ABX:ACc→Int→Option TX)(ACu:ABL→ABZ→Int→ABE→Option Jy)(AC8:ACc→Int→Option J3)(n:Nat)(ω:List Bool)(v:uj.V):DO ⟨T,RD [(191,⟨zO,ALH,zO.un uA⟩),(203,⟨i203,AO5,i203.un ABX⟩),(204,⟨ADx,ASh,ADx.un ACu⟩),(205,⟨AGI,AQG,AGI.un AC8⟩)],CQ [(7,[0,1,2,3,4,5,6,7,8,9]),(8,[0,1,2,3,4,5,6,7,8,9,10,11,12]),(11,[0,1,3,4,5,7,8,9,13])]⟩ APv Tryz.f120 (L0 9 AKB n) ω v=uj.un (fun(p1:Int) (AF:Int) (AU:Int) (AK:Bool) (b1:AAH) (b2:AAh) (b3:AAH) (b4:AAo) (b5:AA1) (b6:ABB) (b7:AAs) (b8:AAX)=>
 cond (((b6.length:Int)==0))
  (some ((2,()),(((),AF,(),(),(),AU,(),(),(),(),AK,()),b1,b2,b3,b4,b5,b6,b7,b8,())))
 (if(0:Int)≤(0:Int)∧(0:Int)<(b6.length:Int)then(
 (uA (b1,AF,b2,b3,b4,AU,b5,b6,b7,b8,AK,()) p1 ((b6.getD 0 (0,0,[],[],false,[],())).2.1)).bind fun u3=>
 cond (u3.1.1 !=0)
  (some ((u3.1.1,()),(((),AF,(),(),(),AU,(),(),(),(),AK,()),b1,b2,b3,b4,b5,b6,b7,b8,())))
 (if(0:Int)≤p1∧p1<(b2.length:Int)then(
 (ABX ((b2.getD (p1.toNat) ([],[],0,())).1,(b2.getD (p1.toNat) ([],[],0,())).2.1,(b2.getD (p1.toNat) ([],[],0,())).2.2.1,()) (AZ (((b6.getD 0 (0,0,[],[],false,[],())).1)-1))).bind fun u5=>
 (AC8 (u5.2.1,u5.2.2.1,u5.1.1.1.2.2.1,()) ((b6.getD 0 (0,0,[],[],false,[],())).2.1)).bind fun u7=>
 (ACu (b1,AF,()) ((b6.getD 0 (0,0,[],[],false,[],())).1,(b6.getD 0 (0,0,[],[],false,[],())).2.1,(b6.getD 0 (0,0,[],[],false,[],())).2.2.1,(b6.getD 0 (0,0,[],[],false,[],())).2.2.2.1,(b6.getD 0 (0,0,[],[],false,[],())).2.2.2.2.1,(b6.getD 0 (0,0,[],[],false,[],())).2.2.2.2.2.1,()) p1 u7.2.1).bind fun u8=>
 cond (!u5.1.1.2.1)
  (some ((4,()),(((),AF,(),(),(),AU,(),(),(),(),AK,()),b1,b2,b3,b4,b5,b6,b7,b8,())))
 (cond (!u8.1.1.2.1)
  (some ((4,()),(((),AF,(),(),(),AU,(),(),(),(),AK,()),b1,b2,b3,b4,b5,b6,b7,b8,())))
 (if(0:Int)≤p1∧p1<(b2.length:Int)then(
 if(0:Int)≤(0:Int)∧(0:Int)<(b6.length:Int)then(
 some ((0,()),(((),AF,(),(),(),AU,(),(),(),(),AK,()),b1,(b2.set (p1.toNat) (u5.2.1,u5.2.2.1,u5.1.1.1.2.2.1,())),b3,b4,b5,(b6.set 0 (u8.1.1.1.1,u8.1.1.1.2.1,u8.2.1,u8.2.2.1,u8.1.1.1.2.2.2.2.1,u8.2.2.2.1,())),b7,b8,())))else none)else none)))else none))else none)) v:=(AE AP2 (AE ASX AS0 (AE AOk (AE AQ7 AO0 (AE ANx AQC AOF)) (AE AJm AI0 (AE AIu AIY AJs)))) (AE AJj AIT (AE AIA (AE AJV AL7 (AE AKw ALT ALs)) (AE AGg AJW (AE AG_ AHC AIb))))) ω uA ABX ACu AC8 n v
theorem AYL(n:Nat)(ω:List Bool)(v:uj.V):DO Aaw APv Tryz.f120 (L0 9 AKB n) ω v=uj.un (Jx) v:=AbN Dj N5 Px Pk n ω v
def Aa2:SQ:=mk Tryz.func120 uj AQR Jx [AFS,AUn,AUS,AU8] [(7,[0,1,2,3,4,5,6,7,8,9]),(8,[0,1,2,3,4,5,6,7,8,9,10,11,12]),(11,[0,1,3,4,5,7,8,9,13])] AKB (hJ:= .nil) (he:=AYL Ae)
def AYM:SQ:=mk Tryz.func302 AD4 fI eE [s74,zL] [] [⟨5,⟨[(2,az),(7,nt),(22,az),(23,BI),(24,BI)],vB⟩,RQ⟩]
def AVN:SQ:=mk Tryz.func270 AD4 Cf G3 [s32,s74,ALn,AYM] [(3,[0,1])] []
abbrev i206:BZ:=ANG
abbrev AVR:BZ:=vp
def AUe:SQ:=mk Tryz.func206 i206 AVR Pw [s90,s98,ALn,AVK,ARP,AVN] [(1,[0,1,2])] []
abbrev zr:BZ:=AE5
abbrev APe:BZ:=pg
def AUT:QN:=⟨zr,APe,(zr.un KA)⟩
def AYD:aW:=⟨T,RD (SP.l [wz,AJv,AUe]),CQ [(3,[0,1,2,3,4,5,6,7,8]),(4,[0,1,2,3,4,5,7,8,9])]⟩
def APT:List (Lp APe):=[]
theorem AYZ(ACY:Bool→Option cz)(AWh:ABk→Int→Option bj)(AXM:ABL→ABZ→List Int→Option bu)(n:Nat)(ω:List Bool)(v:zr.V):DO ⟨T,RD [(125,⟨AEK,APm,AEK.un ACY⟩),(156,⟨ARO,AUx,ARO.un AWh⟩),(206,⟨i206,AVR,i206.un AXM⟩)],CQ [(3,[0,1,2,3,4,5,6,7,8]),(4,[0,1,2,3,4,5,7,8,9])]⟩ AUT Tryz.f121 (L0 9 APT n) ω v=zr.un (fun(AF:Int) (AU:Int) (AK:Bool) (b1:AAH) (b2:AAh) (b3:AAH) (b4:AAo) (b5:AA1) (b6:ABB) (b7:AAs) (b8:AAX)=>
 cond (((b6.length:Int)==0))
  (some ((2,()),(((),AF,(),(),(),AU,(),(),(),(),AK,()),b1,b2,b3,b4,b5,b6,b7,b8,())))
 (if(0:Int)≤(0:Int)∧(0:Int)<(b6.length:Int)then(
 if(0:Int)≤(0:Int)∧(0:Int)<(b6.length:Int)then(
 (AWh (b4,AU,()) ((b6.getD 0 (0,0,[],[],false,[],())).2.1)).bind fun u3=>
 (AXM (b1,AF,()) ((b6.getD 0 (0,0,[],[],false,[],())).1,(b6.getD 0 (0,0,[],[],false,[],())).2.1,(b6.getD 0 (0,0,[],[],false,[],())).2.2.1,(b6.getD 0 (0,0,[],[],false,[],())).2.2.2.1,(b6.getD 0 (0,0,[],[],false,[],())).2.2.2.2.1,(b6.getD 0 (0,0,[],[],false,[],())).2.2.2.2.2.1,()) u3.2.1).bind fun u4=>
 if(0:Int)≤(0:Int)∧(0:Int)<(b6.length:Int)then(
 (ACY u4.1.1.2.1).bind fun u6=>
 some ((u6.1.1,()),(((),AF,(),(),(),AU,(),(),(),(),AK,()),b1,b2,b3,b4,b5,(b6.set 0 (u4.1.1.1.1,u4.1.1.1.2.1,u4.2.1,u4.2.2.1,u4.1.1.1.2.2.2.2.1,u4.2.2.2.1,())),b7,b8,())))else none)else none)else none)) v:=by rcases ω with _|⟨_|_,_|⟨_|_,_⟩⟩<;>kernel_rfl
theorem AYe(n:Nat)(ω:List Bool)(v:zr.V):DO AYD AUT Tryz.f121 (L0 9 APT n) ω v=zr.un (KA) v:=AYZ J1 Iq Pw n ω v
def AaN:SQ:=mk Tryz.func121 zr APe KA [wz,AJv,AUe] [(3,[0,1,2,3,4,5,6,7,8]),(4,[0,1,2,3,4,5,7,8,9])] APT (hJ:= .nil) (he:=AYe Ae)
def AY9:SQ:=mk Tryz.func122 AA7 pg R0 [AFS,ANt,AQ9] [] []
abbrev i208:BZ:=wW
abbrev AV7:BZ:=Cf
def AWA:SQ:=mk Tryz.func208 i208 AV7 OX [s32,s98] [] [⟨4,⟨[(2,KD),(17,AGv),(18,BI),(19,BI)],ARa⟩,KJ⟩]
abbrev AQW:BZ:=AMg
abbrev AW5:BZ:=AAG
def AVa:SQ:=mk Tryz.func209 AQW AW5 Pj [s36,gl,s46,s87,AKK] [(5,[0,1,2,4])] []
abbrev yz:BZ:=AE5
abbrev AO1:BZ:=⟨mT,[.mem [.ref 1,.v tI,.ref 2,.ref 3,.ref 9,.v tI,.ref 5,.ref 10,.ref 7,.ref 8,.v .bool],Du,Vz,Du,PV,Un,PV,Ps,MO,M_,Sc]⟩
def AWN:QN:=⟨yz,AO1,(yz.un I4)⟩
def AZq:aW:=⟨T,RD (SP.l [wz,AWA,AVa]),CQ [(3,[0,1,2,3,4,5,6,7,8]),(5,[0,1,2,3,4,5,6,7,8])]⟩
def AOb:List (Lp AO1):=[]
theorem AYN(ACY:Bool→Option cz)(AWu:ABL→ABZ→Option LU)(AWk:ABL→ABk→Int→Int→Option cJ)(n:Nat)(ω:List Bool)(v:yz.V):DO ⟨T,RD [(125,⟨AEK,APm,AEK.un ACY⟩),(208,⟨i208,AV7,i208.un AWu⟩),(209,⟨AQW,AW5,AQW.un AWk⟩)],CQ [(3,[0,1,2,3,4,5,6,7,8]),(5,[0,1,2,3,4,5,6,7,8])]⟩ AWN Tryz.f123 (L0 9 AOb n) ω v=yz.un (fun(AF:Int) (AU:Int) (AK:Bool) (b1:AAH) (b2:AAh) (b3:AAH) (b4:AAo) (b5:AA1) (b6:ABB) (b7:AAs) (b8:AAX)=>
 cond (((b6.length:Int)==0))
  (some ((2,()),(((),AF,(),(),(),AU,(),(),(),(),AK,()),b1,b2,b3,(),b5,(),b7,b8,b4,b6,())))
 (if(0:Int)≤(0:Int)∧(0:Int)<(b6.length:Int)then(
 (AWu (b1,AF,()) ((b6.getD 0 (0,0,[],[],false,[],())).1,(b6.getD 0 (0,0,[],[],false,[],())).2.1,(b6.getD 0 (0,0,[],[],false,[],())).2.2.1,(b6.getD 0 (0,0,[],[],false,[],())).2.2.2.1,(b6.getD 0 (0,0,[],[],false,[],())).2.2.2.2.1,(b6.getD 0 (0,0,[],[],false,[],())).2.2.2.2.2.1,())).bind fun u2=>
 cond (!u2.1.1)
  (some ((5,()),(((),AF,(),(),(),AU,(),(),(),(),AK,()),b1,b2,b3,(),b5,(),b7,b8,b4,b6,())))
 (if(0:Int)≤(0:Int)∧(0:Int)<(b6.length:Int)then(
 if(0:Int)≤(0:Int)∧(0:Int)<(b6.length:Int)then(
 (AWk (b1,AF,()) (b4,AU,()) ((b6.getD 0 (0,0,[],[],false,[],())).1) (((b6.getD 0 (0,0,[],[],false,[],())).2.2.2.2.2.1).length:Int)).bind fun u5=>
 cond (u5.1.1.2.1)
  ((ACY u5.1.1.2.1).bind fun u6=>
  some ((u6.1.1,()),(((),AF,(),(),(),u5.1.1.1.2.1,(),(),(),(),AK,()),b1,b2,b3,(),b5,(),b7,b8,u5.2.1,[],())))
 ((ACY u5.1.1.2.1).bind fun u7=>
 some ((u7.1.1,()),(((),AF,(),(),(),AU,(),(),(),(),AK,()),b1,b2,b3,(),b5,(),b7,b8,b4,b6,()))))else none)else none))else none)) v:=by rcases ω with _|⟨_|_,_⟩<;>kernel_rfl
theorem AZ2(n:Nat)(ω:List Bool)(v:yz.V):DO AZq AWN Tryz.f123 (L0 9 AOb n) ω v=yz.un (I4) v:=AYN J1 OX Pj n ω v
def AbC:SQ:=mk Tryz.func123 yz AO1 I4 [wz,AWA,AVa] [(3,[0,1,2,3,4,5,6,7,8]),(5,[0,1,2,3,4,5,6,7,8])] AOb (hJ:= .nil) (he:=AZ2 Ae)
def AYE:SQ:=mk Tryz.func124 AM2 AAG Vt [gl,s46,s87,s95,AKK] [(1,[0,1,2])] []
def Aak:SQ:=mk Tryz.func274 AAO Fi P_ [] [] [⟨2,⟨[(1,KD),(6,AG0),(7,BI),(8,BI)],[AHv]⟩,JX⟩]
abbrev i212:BZ:=xq
abbrev ARU:BZ:=Fi
def AWm:SQ:=mk Tryz.func212 i212 ARU Q4 [Aak] [] [⟨2,⟨[(1,BI),(8,.c (.sl false Y6)),(9,BI),(10,BI)],[]⟩,Nt⟩]
def AZT:SQ:=mk Tryz.func271 ⟨[(0,rP)],[]⟩ fI PI [] [] [⟨3,⟨[(3,nt),(7,rP),(8,BI),(9,BI)],vB⟩,Mn⟩]
def s54:SQ:=mk Tryz.func54 ⟨[(0,BI),(1,.row Y9)],[]⟩ Cf MU [s95,AQD] [(2,[0])] []
def AVs:SQ:=mk Tryz.func272 ⟨[(0,KD),(1,.row Y8)],AMK⟩ AMQ FG [] [(1,[2])] [] (he:=fun ω v=>by rcases ω with _|⟨_|_,_⟩<;>kernel_rfl)
def AYi:SQ:=mk Tryz.func303 ⟨[(0,rP),(1,az),(2,BI)],[]⟩ xe Yi [zL,AKb,AXP] [] [⟨3,⟨[(1,az),(2,BI),(6,KD),(8,Zg),(9,yK),(13,rP),(14,BI),(15,BI)],[ACt,ACt]⟩,OV⟩]
def AbW:SQ:=mk Tryz.func273 ⟨[(0,KD),(1,rP),(2,az)],AMK⟩ AMQ C_ [s31,AVs,AYi] [(0,[0,1])] []
abbrev AFq:BZ:=AMv
abbrev ANj:BZ:=⟨AT9,[.sl 1 Y8]⟩
def AXQ:SQ:=mk Tryz.func211 AFq ANj J4 [s46,s54,s74,s91,s95,s99,AQD,ALn,AVN,AZT,AVs,AbW] [(1,[0,1,2,3]),(8,[0,1,2,3,4,8,9]),(11,[0,1,2,3,4,5,6,7])] []
abbrev yq:BZ:=⟨AVY,AMN⟩
abbrev AOm:BZ:=⟨mT,AMN⟩
def AIX:QN:=⟨yq,AOm,(yq.un Mp)⟩
def AWb:aW:=⟨T,RD (SP.l [s31,gl,s60,s93,AJ0,AXQ,AWm]),CQ [(13,[0,1,2,3,4,5,6,7,8,9,10,11]),(16,[0,1,2,3,4,5,6,8,9,10,11])]⟩
def ADt:List (Lp AOm):=[⟨7,⟨[(0,KD),(1,BI),(7,eu),(8,BI),(10,.c (.ref 10)),(43,.c (.ref 11)),(44,BI),(45,BI)],[ACg,Du,Vz,Du,M_,Un,Sc,.sl 1 Y9,MO,.mem [.v tI,.v tI,.sl true Y8],.sl 9 Y14,Fv]⟩,DC⟩]
abbrev jt:BZ:=⟨[(0,KD),(1,BI),(7,eu),(8,BI),(10,.c (.ref 10)),(43,.c (.ref 11)),(44,BI),(45,BI)],[ACg,Du,Vz,Du,M_,Un,Sc,.sl 1 Y9,MO,.mem [.v tI,.v tI,.sl true Y8],.sl 9 Y14,Fv]⟩
theorem ARi(g31:Int→Int→Option Ll)(g43:Int→Int→Int→Option Mz)(g60:ACc→Int→Option Mw)(g93:ABN→Int→Option Kx)(z6:Int→Option HQ)(AKT:ABL→ABk→Int→ADF→ACv→Option KV)(AHm:ABN→Int→Option M3)(n:Nat)(v:jt.V)(ω:List Bool):HZ ⟨T,RD [(31,⟨i31,o31,i31.un g31⟩),(43,⟨i43,o43,i43.un g43⟩),(60,⟨i60,o60,i60.un g60⟩),(93,⟨i93,o93,i93.un g93⟩),(188,⟨yL,AL2,yL.un z6⟩),(211,⟨AFq,ANj,AFq.un AKT⟩),(212,⟨i212,ARU,i212.un AHm⟩)],CQ [(13,[0,1,2,3,4,5,6,7,8,9,10,11]),(16,[0,1,2,3,4,5,6,8,9,10,11])]⟩ AIX Tryz.f126 (L0 9 ADt n) 7 ω (jt.st 111 v)=jt.un (fun(t1:Int) (t8:Int) (t44:Int) (t45:Int) (AF:Int) (AU:Int) (AK:Bool) (b1:AAH) (b2:AAh) (b3:AAH) (b4:AAo) (b5:AA1) (b6:ABB) (b7:AAs) (b8:AAX) (iL:Int) (EM:Int) (dG:ADH) (MG:ACv) (GO:AAH)=>
 cond (decide (t45<t44))
  (if(0:Int)≤t45∧t45<(GO.length:Int)then(
  let x8:Int:=(GO.getD (t45.toNat) 0)
  cond ((decide (x8<(b2.length:Int))))
   ((g93 (b1,AF,b2,b3,b4,AU,b5,b6,b7,b8,AK,()) x8).bind fun EY=>
   cond (!EY.1.1)
    (if(0:Int)≤x8∧x8<(b2.length:Int)then(
    (g60 ((b2.getD (x8.toNat) ([],[],0,())).1,(b2.getD (x8.toNat) ([],[],0,())).2.1,(b2.getD (x8.toNat) ([],[],0,())).2.2.1,()) t8).bind fun Nj=>
    if MG.length+1≤Go.M.Dw then(
    (DC n) t1 t8 t44 (AZ (t45+1)) AF AU AK b1 b2 b3 b4 b5 b6 b7 b8 iL EM dG (MG++[(x8,Nj.1.1.2.1,Nj.1.1.1.1,Nj.1.1.1.2.1,Nj.1.1.1.2.2.1,Nj.1.1.1.2.2.2.1,())]) GO)else none)else none)
   ((DC n) t1 t8 t44 (AZ (t45+1)) AF AU AK b1 b2 b3 b4 b5 b6 b7 b8 iL EM dG MG GO))
  ((DC n) t1 t8 t44 (AZ (t45+1)) AF AU AK b1 b2 b3 b4 b5 b6 b7 b8 iL EM dG MG GO))else none)
 ((AHm (b1,AF,b2,b3,b4,AU,b5,b6,b7,b8,AK,()) iL).bind fun WW=>
 (AKT (b1,AF,()) (b4,AU,()) WW.1.1 (iL,EM,dG,()) MG).bind fun VP=>
 cond (VP.1.1.2.1 !=0)
  (some ((5,()),(((),AF,(),(),(),AU,(),(),(),(),AK,()),b1,b2,b3,b4,b5,b6,b7,b8,())))
 (if(0:Int)≤t1∧t1<(b7.length:Int)then(
 some ((0,()),(((),AF,(),(),(),AU,(),(),(),(),AK,()),b1,b2,b3,b4,b5,b6,(b7.set (t1.toNat) (VP.1.1.1.1,VP.1.1.1.2.1,VP.2.1,())),b8,())))else none))) v:=by rcases ω with _|⟨_|_,_|⟨_|_,_⟩⟩<;>kernel_rfl
theorem ANa(n:Nat)(v:jt.V)(ω:List Bool):HZ AWb AIX Tryz.f126 (L0 9 ADt n) 7 ω (jt.st 111 v)=jt.un (NK (DC n)) v:=ARi Dq A3 GS C6 Hm J4 Q4 n v ω
theorem AaW(g31:Int→Int→Option Ll)(g43:Int→Int→Int→Option Mz)(g60:ACc→Int→Option Mw)(g93:ABN→Int→Option Kx)(z6:Int→Option HQ)(AKT:ABL→ABk→Int→ADF→ACv→Option KV)(AHm:ABN→Int→Option M3)(n:Nat)(ω:List Bool)(v:yq.V):DO ⟨T,RD [(31,⟨i31,o31,i31.un g31⟩),(43,⟨i43,o43,i43.un g43⟩),(60,⟨i60,o60,i60.un g60⟩),(93,⟨i93,o93,i93.un g93⟩),(188,⟨yL,AL2,yL.un z6⟩),(211,⟨AFq,ANj,AFq.un AKT⟩),(212,⟨i212,ARU,i212.un AHm⟩)],CQ [(13,[0,1,2,3,4,5,6,7,8,9,10,11]),(16,[0,1,2,3,4,5,6,8,9,10,11])]⟩ AIX Tryz.f126 (L0 9 ADt n) ω v=yq.un (fun(p1:Int) (p2:Int) (AF:Int) (AU:Int) (AK:Bool) (b1:AAH) (b2:AAh) (b3:AAH) (b4:AAo) (b5:AA1) (b6:ABB) (b7:AAs) (b8:AAX)=>
 (g43 p1 0 (AZ ((b7.length:Int)-1))).bind fun u2=>
 cond (!u2.1.1)
  (some ((2,()),(((),AF,(),(),(),AU,(),(),(),(),AK,()),b1,b2,b3,b4,b5,b6,b7,b8,())))
 (if(0:Int)≤p1∧p1<(b7.length:Int)then(
 (g31 ((b7.getD (p1.toNat) (0,0,[],())).1) ((b7.getD (p1.toNat) (0,0,[],())).2.1)).bind fun u5=>
 (z6 p2).bind fun u6=>
 (DC n) p1 u5.1.1.1 (u6.2.1.length:Int) 0 AF AU AK b1 b2 b3 b4 b5 b6 b7 b8 ((b7.getD (p1.toNat) (0,0,[],())).1) ((b7.getD (p1.toNat) (0,0,[],())).2.1) ((b7.getD (p1.toNat) (0,0,[],())).2.2.1) [] u6.2.1)else none)) v:=by kernel_rfl
theorem Aad(n:Nat)(ω:List Bool)(v:yq.V):DO AWb AIX Tryz.f126 (L0 9 ADt n) ω v=yq.un (NI (DC n)) v:=AaW Dq A3 GS C6 Hm J4 Q4 n ω v
def AY5:SQ:=mk Tryz.func126 yq AOm Mp [s31,gl,s60,s93,AJ0,AXQ,AWm] [(13,[0,1,2,3,4,5,6,7,8,9,10,11]),(16,[0,1,2,3,4,5,6,8,9,10,11])] ADt (hJ:= .cons (fun _=>rfl) ANa (.nil)) (he:=Aad Ae)
def AWZ:SQ:=mk Tryz.func276 ⟨[(0,.row Y1),(1,.c (.mr (.cons tI .unit)))],[]⟩ Cf PB [] [] []
def AZo:SQ:=mk Tryz.func304 ⟨[(0,Xv),(1,ALi)],[]⟩ Fi Cn [AWZ] [] [⟨2,⟨[(0,Xv),(1,ALi),(7,BI),(8,BI)],[]⟩,BL⟩]
def AYA:SQ:=mk Tryz.func275 ⟨[(0,nt),(1,ALi)],tK⟩ ANI Bt [AWZ,AZo] [] [⟨5,⟨[(0,nt),(1,ALi),(5,BI),(6,BI)],tK⟩,BG⟩]
def Ab1:SQ:=mk Tryz.func213 iN AAR RZ [s53,s88,s92,AJh,AYA] [] []
def AZf:SQ:=mk Tryz.func127 sY pg Ol [wz,AD1,Ab1] [(4,[0,1,2,3,4,5,6,7,8]),(5,[0,1,3,4,5,6,7,8])] [] (he:=fun ω v=>by rcases ω with _|⟨_|_,_⟩<;>kernel_rfl)
def AZE:SQ:=Ab5 (ρ:=Jf 0 128 0 0 31 63) (nm:= "slices.Delete[[]loop.example/g00178/impl.Writer,loop.example/g00178/impl.Writer]") tOk (lp.del ⟨by kernel_rfl,by kernel_rfl,by kernel_rfl,by kernel_rfl,by kernel_rfl,by kernel_rfl,by kernel_rfl,by kernel_rfl,by kernel_rfl,by kernel_rfl,by kernel_rfl,by kernel_rfl⟩ mx (by kernel_rfl) (by kernel_rfl)) (r:=Y6) 2 rfl (by kernel_rfl) (by kernel_rfl) FC (fun _=>rfl)
def s57:SQ:=mk Tryz.func57 AMr ⟨mT,[.mem [.ref 1,.v tI,.ref 2,.ref 9,.ref 10,.v tI,.ref 11,.ref 12,.ref 7,.ref 13,.v .bool],Du,Z1,PV,PV,PV,PV,.sl 1 Y9,PV,Du,M_,Un,.sl 2 Y7,MO]⟩ T9 [gl,AZi,AYH,Aaq,AbK,Abd,AbI,Abq,AZK,Aa2,AaN,AY9,AbC,AYE,wz,AY5,AZf,AZE] [(27,[0,1,2,3,4,5,6,7,8,9]),(34,[0,1,2,3,4,5,6,7,8,9]),(36,[1,2,3,4,6,7,8,9])] [] (he:=fun ω v=>by rcases ω with _|⟨_|_,_⟩<;>kernel_rfl)
abbrev i21:BZ:=ANC
abbrev o21:BZ:=⟨AP9,[Du,Z1,Du,M_,Un,.sl 2 Y7,.sl 1 Y9,MO]⟩
def s21:SQ:=mk Tryz.func21 i21 o21 Ha [s16,s40,s56,s57] [] []
abbrev i23:BZ:=fH
abbrev o23:BZ:=AMF
def s23:SQ:=mk Tryz.func23 i23 o23 Oh [s16] [] [⟨5,⟨[(1,KD),(3,xP7),(12,wv),(13,BI),(14,BI)],ADj⟩,Pf⟩]
abbrev i15:BZ:=xq
abbrev o15:BZ:=AMF
def s15:SQ:=mk Tryz.func15 i15 o15 L1 [s16,gl] [] [⟨5,⟨[(5,nt),(27,.c (.sl false Y8)),(28,BI),(29,BI)],[Sg]⟩,Ls⟩]
def s55:SQ:=mk Tryz.func55 ⟨[(0,.row Y9),(1,BI)],[]⟩ ⟨[(0,.Me [.inl (.v .str),.inl (.v .bool)])],[]⟩ aH [] [] [⟨2,⟨[(1,BI),(9,.c (.sl false Y8)),(10,BI),(11,BI)],[]⟩,RP⟩]
abbrev i24:BZ:=fH
abbrev o24:BZ:=Cf
def s24:SQ:=mk Tryz.func24 i24 o24 Fc [s16,s54,s55] [] [⟨4,⟨[(1,KD),(19,ABo),(20,BI),(21,BI)],ADT⟩,FT⟩,⟨7,⟨[(1,KD),(4,Zg),(19,ABo),(20,BI),(21,BI),(26,wv),(27,BI),(28,BI)],[rB,AHW]⟩,Gt⟩]
abbrev i25:BZ:=fH
abbrev o25:BZ:=Cf
def s25:SQ:=mk Tryz.func25 i25 o25 E8 [s16] [] [⟨4,⟨[(17,ABo),(18,BI),(19,BI)],[]⟩,Db⟩,⟨7,⟨[(17,ABo),(18,BI),(19,BI),(24,.c (.sl false Y8)),(25,BI),(26,BI)],[]⟩,Fu⟩]
abbrev i20:BZ:=⟨[(0,wv),(1,.row Y10)],[]⟩
abbrev o20:BZ:=Cf
def s20:SQ:=mk Tryz.func20 i20 o20 G1 [] [(4,[0])] [⟨2,⟨[(0,wv),(3,KD),(5,BI)],[AOv]⟩,Jg⟩]
abbrev i5:BZ:=AEt
abbrev o5:BZ:=Cf
def c5:QN:=⟨i5,o5,(i5.un Ql)⟩
def C5:aW:=⟨T,RD (SP.l [s9,s10,s15,s20,s21,s22,s23,s24,s25]),CQ [(7,[0,1]),(8,[0,1,2,3,4,5,6,7,8,9,10]),(22,[0,1,2,3])]⟩
def L5:List (Lp o5):=[⟨5,⟨[(3,KD),(4,xP7),(5,BI)],[rB,.sl 9 Y12]⟩,Ci⟩,⟨15,⟨[(3,KD),(10,xP7),(11,BI)],ADj⟩,Cb⟩,⟨20,⟨[(3,KD),(10,xP7),(11,BI),(12,xP9),(13,xP4),(14,BI),(57,.c (.ptr 0 10)),(58,yK),(59,yK)],[rB,Sg,Sg,AHW]⟩,C7⟩]
abbrev vF:BZ:=⟨[(3,KD),(4,xP7),(5,BI)],[rB,.sl 9 Y12]⟩
abbrev sw:BZ:=⟨[(3,KD),(10,xP7),(11,BI)],ADj⟩
abbrev r7:BZ:=⟨[(3,KD),(10,xP7),(11,BI),(12,xP9),(13,xP4),(14,BI),(57,.c (.ptr 0 10)),(58,yK),(59,yK)],[rB,Sg,Sg,AHW]⟩
def YN(ω:List Bool):Prop:= ∀(g9:List Int→Option TN) (g10:List Int→Option Gm) (g15:ABN→Int→Option Hf) (g20:AAX→ADS→Option Ea) (g21:ABN→ACh→Option LC) (g22:ABN→ACh→Option K8) (g23:ABN→Option Il) (g24:ABN→Option Dn) (g25:ABN→Option DN) (n:Nat) (v:vF.V),HZ ⟨T,RD [(9,⟨i9,o9,i9.un g9⟩),(10,⟨i10,o10,i10.un g10⟩),(15,⟨i15,o15,i15.un g15⟩),(20,⟨i20,o20,i20.un g20⟩),(21,⟨i21,o21,i21.un g21⟩),(22,⟨i22,o22,i22.un g22⟩),(23,⟨i23,o23,i23.un g23⟩),(24,⟨i24,o24,i24.un g24⟩),(25,⟨i25,o25,i25.un g25⟩)],CQ [(7,[0,1]),(8,[0,1,2,3,4,5,6,7,8,9,10]),(22,[0,1,2,3])]⟩ c5 Tryz.f5 (L0 0 L5 n) 5 ω (vF.st 104 v)=vF.un (fun(t5:Int) (AR:AAH) (AF:Int) (Ai:AAh) (Bk:AAH) (B_:AAo) (AU:Int) (B9:AA1) (B4:ABB) (CH:AAs) (CT:AAX) (AK:Bool) (b1:AEY)=>
 cond ((decide (t5<(b1.length:Int))))
  (if(0:Int)≤t5∧t5<(b1.length:Int)then(
  (g21 (AR,AF,Ai,Bk,B_,AU,B9,B4,CH,CT,AK,()) ((b1.getD (t5.toNat) (0,0,0,0,[],())).1,(b1.getD (t5.toNat) (0,0,0,0,[],())).2.1,(b1.getD (t5.toNat) (0,0,0,0,[],())).2.2.1,(b1.getD (t5.toNat) (0,0,0,0,[],())).2.2.2.1,(b1.getD (t5.toNat) (0,0,0,0,[],())).2.2.2.2.1,())).bind fun u4=>
  if(0:Int)≤t5∧t5<(b1.length:Int)then(
  (g22 (AR,AF,Ai,Bk,B_,AU,B9,B4,CH,CT,AK,()) ((b1.getD (t5.toNat) (0,0,0,0,[],())).1,(b1.getD (t5.toNat) (0,0,0,0,[],())).2.1,(b1.getD (t5.toNat) (0,0,0,0,[],())).2.2.1,(b1.getD (t5.toNat) (0,0,0,0,[],())).2.2.2.1,(b1.getD (t5.toNat) (0,0,0,0,[],())).2.2.2.2.1,())).bind fun u5=>
  cond ((u4.1.1.2.1 !=u5.1.1.2.1))
   (some ((false,()),()))
  (cond (u4.1.1.2.1==0)
   ((Ci n) (AZ (t5+1)) u4.2.1 u4.1.1.1.2.1 u4.2.2.1 u4.2.2.2.1 u4.2.2.2.2.1 u4.1.1.1.2.2.2.2.2.1 u4.2.2.2.2.2.1 u4.2.2.2.2.2.2.1 u4.2.2.2.2.2.2.2.1 u4.2.2.2.2.2.2.2.2.1 u4.1.1.1.2.2.2.2.2.2.2.2.2.2.1 b1)
  ((Ci n) (AZ (t5+1)) AR AF Ai Bk B_ AU B9 B4 CH CT AK b1)))else none)else none)
 ((g23 (AR,AF,Ai,Bk,B_,AU,B9,B4,CH,CT,AK,())).bind fun u16=>
 (Cb n) 0 AR AF Ai Bk B_ AU B9 B4 CH CT AK u16.2.1)) v
theorem AOI:YN []:=by delta YN;intros;kernel_rfl
theorem AN4:YN (false::[]):=by delta YN;intros;kernel_rfl
theorem APS(ω:List Bool):YN (false::false::ω):=by delta YN;intros;kernel_rfl
theorem AQH(ω:List Bool):YN (false::true::ω):=by delta YN;intros;kernel_rfl
theorem ASL:YN (true::[]):=by delta YN;intros;kernel_rfl
theorem ARe(ω:List Bool):YN (true::false::ω):=by delta YN;intros;kernel_rfl
theorem AQ1(ω:List Bool):YN (true::true::ω):=by delta YN;intros;kernel_rfl
theorem AZl(g9:List Int→Option TN)(g10:List Int→Option Gm)(g15:ABN→Int→Option Hf)(g20:AAX→ADS→Option Ea)(g21:ABN→ACh→Option LC)(g22:ABN→ACh→Option K8)(g23:ABN→Option Il)(g24:ABN→Option Dn)(g25:ABN→Option DN)(n:Nat)(v:vF.V)(ω:List Bool):HZ ⟨T,RD [(9,⟨i9,o9,i9.un g9⟩),(10,⟨i10,o10,i10.un g10⟩),(15,⟨i15,o15,i15.un g15⟩),(20,⟨i20,o20,i20.un g20⟩),(21,⟨i21,o21,i21.un g21⟩),(22,⟨i22,o22,i22.un g22⟩),(23,⟨i23,o23,i23.un g23⟩),(24,⟨i24,o24,i24.un g24⟩),(25,⟨i25,o25,i25.un g25⟩)],CQ [(7,[0,1]),(8,[0,1,2,3,4,5,6,7,8,9,10]),(22,[0,1,2,3])]⟩ c5 Tryz.f5 (L0 0 L5 n) 5 ω (vF.st 104 v)=vF.un (fun(t5:Int) (AR:AAH) (AF:Int) (Ai:AAh) (Bk:AAH) (B_:AAo) (AU:Int) (B9:AA1) (B4:ABB) (CH:AAs) (CT:AAX) (AK:Bool) (b1:AEY)=>
 cond ((decide (t5<(b1.length:Int))))
  (if(0:Int)≤t5∧t5<(b1.length:Int)then(
  (g21 (AR,AF,Ai,Bk,B_,AU,B9,B4,CH,CT,AK,()) ((b1.getD (t5.toNat) (0,0,0,0,[],())).1,(b1.getD (t5.toNat) (0,0,0,0,[],())).2.1,(b1.getD (t5.toNat) (0,0,0,0,[],())).2.2.1,(b1.getD (t5.toNat) (0,0,0,0,[],())).2.2.2.1,(b1.getD (t5.toNat) (0,0,0,0,[],())).2.2.2.2.1,())).bind fun u4=>
  if(0:Int)≤t5∧t5<(b1.length:Int)then(
  (g22 (AR,AF,Ai,Bk,B_,AU,B9,B4,CH,CT,AK,()) ((b1.getD (t5.toNat) (0,0,0,0,[],())).1,(b1.getD (t5.toNat) (0,0,0,0,[],())).2.1,(b1.getD (t5.toNat) (0,0,0,0,[],())).2.2.1,(b1.getD (t5.toNat) (0,0,0,0,[],())).2.2.2.1,(b1.getD (t5.toNat) (0,0,0,0,[],())).2.2.2.2.1,())).bind fun u5=>
  cond ((u4.1.1.2.1 !=u5.1.1.2.1))
   (some ((false,()),()))
  (cond (u4.1.1.2.1==0)
   ((Ci n) (AZ (t5+1)) u4.2.1 u4.1.1.1.2.1 u4.2.2.1 u4.2.2.2.1 u4.2.2.2.2.1 u4.1.1.1.2.2.2.2.2.1 u4.2.2.2.2.2.1 u4.2.2.2.2.2.2.1 u4.2.2.2.2.2.2.2.1 u4.2.2.2.2.2.2.2.2.1 u4.1.1.1.2.2.2.2.2.2.2.2.2.2.1 b1)
  ((Ci n) (AZ (t5+1)) AR AF Ai Bk B_ AU B9 B4 CH CT AK b1)))else none)else none)
 ((g23 (AR,AF,Ai,Bk,B_,AU,B9,B4,CH,CT,AK,())).bind fun u16=>
 (Cb n) 0 AR AF Ai Bk B_ AU B9 B4 CH CT AK u16.2.1)) v:=(AE AOI (AE AN4 APS AQH) (AE ASL ARe AQ1)) ω g9 g10 g15 g20 g21 g22 g23 g24 g25 n v
theorem AZh(n:Nat)(v:vF.V)(ω:List Bool):HZ C5 c5 Tryz.f5 (L0 0 L5 n) 5 ω (vF.st 104 v)=vF.un (Nh (Ci n) (Cb n) (C7 n)) v:=AZl XG G2 L1 G1 Ha IZ Oh Fc E8 n v ω
theorem AVT(g9:List Int→Option TN)(g10:List Int→Option Gm)(g15:ABN→Int→Option Hf)(g20:AAX→ADS→Option Ea)(g21:ABN→ACh→Option LC)(g22:ABN→ACh→Option K8)(g23:ABN→Option Il)(g24:ABN→Option Dn)(g25:ABN→Option DN)(n:Nat)(v:sw.V)(ω:List Bool):HZ ⟨T,RD [(9,⟨i9,o9,i9.un g9⟩),(10,⟨i10,o10,i10.un g10⟩),(15,⟨i15,o15,i15.un g15⟩),(20,⟨i20,o20,i20.un g20⟩),(21,⟨i21,o21,i21.un g21⟩),(22,⟨i22,o22,i22.un g22⟩),(23,⟨i23,o23,i23.un g23⟩),(24,⟨i24,o24,i24.un g24⟩),(25,⟨i25,o25,i25.un g25⟩)],CQ [(7,[0,1]),(8,[0,1,2,3,4,5,6,7,8,9,10]),(22,[0,1,2,3])]⟩ c5 Tryz.f5 (L0 0 L5 n) 15 ω (sw.st 104 v)=sw.un (fun(t11:Int) (AR:AAH) (AF:Int) (Ai:AAh) (Bk:AAH) (B_:AAo) (AU:Int) (B9:AA1) (B4:ABB) (CH:AAs) (CT:AAX) (AK:Bool) (b1:AAX)=>
 cond (decide (t11<2))
  (cond (!AK)
   ((g15 (AR,AF,Ai,Bk,B_,AU,B9,B4,CH,CT,AK,()) t11).bind fun fR=>
   if(0:Int)≤t11∧t11<(CH.length:Int)then(
   (C7 n) t11 0 AK (!AK) AR AF Ai Bk B_ AU B9 B4 CH CT AK b1 fR.2.1 ((CH.getD (t11.toNat) (0,0,[],())).1) ((CH.getD (t11.toNat) (0,0,[],())).2.1) ((CH.getD (t11.toNat) (0,0,[],())).2.2.1))else none)
  ((g24 (AR,AF,Ai,Bk,B_,AU,B9,B4,CH,CT,AK,())).bind fun q6=>
  cond (q6.1.1)
   ((g25 (AR,AF,Ai,Bk,B_,AU,B9,B4,CH,CT,AK,())).bind fun gN=>
   some ((gN.1.1,()),()))
  (some ((false,()),()))))
 ((g24 (AR,AF,Ai,Bk,B_,AU,B9,B4,CH,CT,AK,())).bind fun P2=>
 cond (P2.1.1)
  ((g25 (AR,AF,Ai,Bk,B_,AU,B9,B4,CH,CT,AK,())).bind fun fX=>
  some ((fX.1.1,()),()))
 (some ((false,()),())))) v:=by kernel_rfl
theorem AWW(n:Nat)(v:sw.V)(ω:List Bool):HZ C5 c5 Tryz.f5 (L0 0 L5 n) 15 ω (sw.st 104 v)=sw.un (MM (Ci n) (Cb n) (C7 n)) v:=AVT XG G2 L1 G1 Ha IZ Oh Fc E8 n v ω
theorem AUO(g9:List Int→Option TN)(g10:List Int→Option Gm)(g15:ABN→Int→Option Hf)(g20:AAX→ADS→Option Ea)(g21:ABN→ACh→Option LC)(g22:ABN→ACh→Option K8)(g23:ABN→Option Il)(g24:ABN→Option Dn)(g25:ABN→Option DN)(n:Nat)(v:r7.V)(ω:List Bool):HZ ⟨T,RD [(9,⟨i9,o9,i9.un g9⟩),(10,⟨i10,o10,i10.un g10⟩),(15,⟨i15,o15,i15.un g15⟩),(20,⟨i20,o20,i20.un g20⟩),(21,⟨i21,o21,i21.un g21⟩),(22,⟨i22,o22,i22.un g22⟩),(23,⟨i23,o23,i23.un g23⟩),(24,⟨i24,o24,i24.un g24⟩),(25,⟨i25,o25,i25.un g25⟩)],CQ [(7,[0,1]),(8,[0,1,2,3,4,5,6,7,8,9,10]),(22,[0,1,2,3])]⟩ c5 Tryz.f5 (L0 0 L5 n) 20 ω (r7.st 104 v)=r7.un (fun(t11:Int) (t14:Int) (t58:Bool) (t59:Bool) (AR:AAH) (AF:Int) (Ai:AAh) (Bk:AAH) (B_:AAo) (AU:Int) (B9:AA1) (B4:ABB) (CH:AAs) (CT:AAX) (AK:Bool) (b1:AAX) (b2:AAX) (jk:Int) (cw:Int) (uW:ADH)=>
 cond ((decide (t14<(b1.length:Int))))
  (if(0:Int)≤t14∧t14<(b1.length:Int)then(
  cond ((decide ((AZ ((AZ (4294967296*jk))+cw))>((b1.getD (t14.toNat) (0,[],false,())).1))))
   (if(0:Int)≤t14∧t14<(b1.length:Int)then(
   (g20 b2 ((b1.getD (t14.toNat) (0,[],false,())).1,(b1.getD (t14.toNat) (0,[],false,())).2.1,(b1.getD (t14.toNat) (0,[],false,())).2.2.1,())).bind fun jr=>
   cond (!jr.1.1)
    (some ((false,()),()))
   ((C7 n) t11 (AZ (t14+1)) t58 t59 AR AF Ai Bk B_ AU B9 B4 CH CT AK b1 b2 jk cw uW))else none)
  ((C7 n) t11 (AZ (t14+1)) t58 t59 AR AF Ai Bk B_ AU B9 B4 CH CT AK b1 b2 jk cw uW))else none)
 ((Cb n) (AZ (t11+1)) AR AF Ai Bk B_ AU B9 B4 CH CT AK b1)) v:=by kernel_rfl
theorem AXB(n:Nat)(v:r7.V)(ω:List Bool):HZ C5 c5 Tryz.f5 (L0 0 L5 n) 20 ω (r7.st 104 v)=r7.un (QU (Ci n) (Cb n) (C7 n)) v:=AUO XG G2 L1 G1 Ha IZ Oh Fc E8 n v ω
theorem b5(g9:List Int→Option TN)(g10:List Int→Option Gm)(g15:ABN→Int→Option Hf)(g20:AAX→ADS→Option Ea)(g21:ABN→ACh→Option LC)(g22:ABN→ACh→Option K8)(g23:ABN→Option Il)(g24:ABN→Option Dn)(g25:ABN→Option DN)(n:Nat)(ω:List Bool)(v:i5.V):DO ⟨T,RD [(9,⟨i9,o9,i9.un g9⟩),(10,⟨i10,o10,i10.un g10⟩),(15,⟨i15,o15,i15.un g15⟩),(20,⟨i20,o20,i20.un g20⟩),(21,⟨i21,o21,i21.un g21⟩),(22,⟨i22,o22,i22.un g22⟩),(23,⟨i23,o23,i23.un g23⟩),(24,⟨i24,o24,i24.un g24⟩),(25,⟨i25,o25,i25.un g25⟩)],CQ [(7,[0,1]),(8,[0,1,2,3,4,5,6,7,8,9,10]),(22,[0,1,2,3])]⟩ c5 Tryz.f5 (L0 0 L5 n) ω v=i5.un (fun(p0:AAH)=>
 (g9 p0).bind fun u1=>
 cond (u1.1.1)
  (some ((true,()),()))
 ((g10 p0).bind fun u2=>
 (Ci n) 0 u2.1.1.1.1 u2.1.1.1.2.1 u2.1.1.1.2.2.1 u2.1.1.1.2.2.2.1 u2.1.1.1.2.2.2.2.1 u2.1.1.1.2.2.2.2.2.1 u2.1.1.1.2.2.2.2.2.2.1 u2.1.1.1.2.2.2.2.2.2.2.1 u2.1.1.1.2.2.2.2.2.2.2.2.1 u2.1.1.1.2.2.2.2.2.2.2.2.2.1 u2.1.1.1.2.2.2.2.2.2.2.2.2.2.1 u2.2.1)) v:=by kernel_rfl
theorem e5(n:Nat)(ω:List Bool)(v:i5.V):DO C5 c5 Tryz.f5 (L0 0 L5 n) ω v=i5.un (Rr (Ci n) (Cb n) (C7 n)) v:=b5 XG G2 L1 G1 Ha IZ Oh Fc E8 n ω v
def s5:SQ:=mk Tryz.func5 i5 o5 Ql [s9,s10,s15,s20,s21,s22,s23,s24,s25] [(7,[0,1]),(8,[0,1,2,3,4,5,6,7,8,9,10]),(22,[0,1,2,3])] L5 (hJ:= .cons (fun _=>rfl) AZh (.cons (fun _=>rfl) AWW (.cons (fun _=>rfl) AXB (.nil)))) (he:=e5 Ae)
end
end Go.Proofs.YtebiojjohcpanaaGreat.Wk
