/- Each function computes what was printed: by the kernel. -/
import Derived.Test.YtgaopeilfepjmaaGreatG0
import Derived.Test.YtgaopeilfepjmaaGreatProg
import Derived.KernelRfl
set_option linter.unusedVariables false
set_option linter.unusedSimpArgs false
set_option linter.unusedSectionVars false
namespace Go.Proofs.YtgaopeilfepjmaaGreat.Wk
open Go Go.Fw Go.M Go.Proofs
noncomputable section
abbrev tI:Ty:= .int .i64
abbrev tU:Ty:= .int .u8
abbrev Y0:Ty:=(.cons (.sl tI) (.cons tI .unit))
abbrev Y1:Ty:=(.cons tI (.cons tI (.cons .bool (.cons .str .unit))))
abbrev Y2:Ty:=(.cons (.sl Y1) (.cons (.sl Y1) (.cons tI .unit)))
abbrev Y3:Ty:=(.cons (.sl tI) (.cons .bool (.cons tI .unit)))
abbrev Y4:Ty:=(.cons (.sl Y3) (.cons tI .unit))
abbrev Y5:Ty:=(.cons .str (.cons (.sl tI) (.cons .bool .unit)))
abbrev Y6:Ty:=(.cons tI (.cons (.sl Y5) .unit))
abbrev Y7:Ty:=(.cons tI (.cons tI (.cons (.sl tI) (.cons (.sl Y1) (.cons .bool (.cons (.sl (.sl tI)) .unit))))))
abbrev Y8:Ty:=(.cons tI (.cons tI (.cons .str .unit)))
abbrev Y9:Ty:=(.cons tI (.cons tI (.cons (.sl Y8) .unit)))
abbrev ug:Ty:=(.cons tI (.cons .str (.cons .bool .unit)))
abbrev zM:Ty:=(.cons (.sl tI) (.cons tI (.cons (.sl Y2) (.cons (.sl tI) (.cons (.sl Y3) (.cons tI (.cons (.sl Y6) (.cons (.sl Y7) (.cons (.sl Y9) (.cons (.sl ug) (.cons .bool .unit)))))))))))
abbrev ny:Ty:=(.cons tI (.cons tI (.cons tI (.cons tI (.cons .str .unit)))))
abbrev Y13:Ty:=(.cons (.sl tU) (.cons tI (.cons tI .unit)))
abbrev Y14:Ty:=(.cons tI (.cons .bool (.cons tI (.cons tI (.cons .bool (.cons .str .unit))))))
def T:GH:=[(3,⟨1,8,.int .i64,some tI⟩),
 (4,⟨1,1,.bool,some .bool⟩),
 (5,⟨1,1,.int .u8,some tU⟩),
 (9,⟨1,16,.str,some .str⟩),
 (22,⟨1,24,.sl 5,some (.sl tU)⟩),
 (24,⟨1,24,.sl 3,some (.sl tI)⟩),
 (26,⟨2,32,.st [(0,24),(1,3)],some Y0⟩),
 (28,⟨1,24,.sl 149,some (.sl Y2)⟩),
 (29,⟨1,24,.sl 206,some (.sl Y3)⟩),
 (31,⟨2,32,.st [(0,29),(1,3)],some Y4⟩),
 (32,⟨1,24,.sl 91,some (.sl Y6)⟩),
 (33,⟨1,24,.sl 101,some (.sl Y7)⟩),
 (34,⟨1,24,.sl 60,some (.sl Y9)⟩),
 (35,⟨1,24,.sl 56,some (.sl ug)⟩),
 (37,⟨11,216,.st [(0,26),(2,28),(3,24),(4,31),(6,32),(7,33),(8,34),(9,35),(10,4)],some zM⟩),
 (46,⟨5,48,.st [(0,3),(1,3),(2,3),(3,3),(4,9)],some ny⟩),
 (56,⟨3,32,.st [(0,3),(1,9),(2,4)],some ug⟩),
 (58,⟨1,24,.sl 104,some (.sl Y8)⟩),
 (60,⟨3,40,.st [(0,3),(1,3),(2,58)],some Y9⟩),
 (78,⟨1,8,.ptr 140,none⟩),
 (89,⟨1,24,.sl 213,some (.sl Y5)⟩),
 (91,⟨2,32,.st [(0,3),(1,89)],some Y6⟩),
 (97,⟨1,24,.sl 46,some (.sl ny)⟩),
 (98,⟨1,24,.sl 222,some (.sl Y1)⟩),
 (99,⟨1,24,.sl 24,some (.sl (.sl tI))⟩),
 (101,⟨6,96,.st [(0,3),(1,3),(2,24),(3,98),(4,4),(5,99)],some Y7⟩),
 (104,⟨3,32,.st [(0,3),(1,3),(2,9)],some Y8⟩),
 (105,⟨1,8,.other,none⟩),
 (140,⟨3,40,.st [(0,22),(1,3),(2,3)],some Y13⟩),
 (144,⟨1,24,.sl 4,some (.sl .bool)⟩),
 (149,⟨3,56,.st [(0,98),(1,98),(2,3)],some Y2⟩),
 (154,⟨1,8,.ptr 37,none⟩),
 (165,⟨1,8,.other,none⟩),
 (206,⟨3,40,.st [(0,24),(1,4),(2,3)],some Y3⟩),
 (213,⟨3,48,.st [(0,9),(1,24),(2,4)],some Y5⟩),
 (222,⟨4,40,.st [(0,3),(1,3),(2,4),(3,9)],some Y1⟩),
 (240,⟨1,24,.sl 243,some (.sl Y14)⟩),
 (243,⟨6,56,.st [(0,3),(1,4),(2,222)],some Y14⟩),
 (247,⟨1,8,.int .u64,some (.int .u64)⟩),
 (287,⟨1,8,.other,none⟩),
 (312,⟨1,8,.other,none⟩),
 (313,⟨1,8,.ptr 60,none⟩)]
theorem yx:DO Tryz.prog T:=Z0 (by kernel_rfl)
theorem mx:Tryz.prog.follows .mixedOrders=true:=by kernel_rfl
abbrev SQ:=SP Tryz.prog
def mk{f:Nat}{fn:Func}(hf:Tryz.prog.funcs[f]? =some fn)(i o:Bg)(g:i.Cu (Option o.V))(l:List SQ)(h:List ADd)(L:List (Lp o))
  (hJ:M0 ⟨T,Rx (SP.l l),DS h⟩ ⟨i,o,i.un g⟩ fn (PI i.ES.length L) L:=by
   repeat refine M0.cons (fun _=>rfl) (fun _ _ _=>by kernel_rfl) ?_
   exact M0.nil)
  (he:∀ω v,Dl ⟨T,Rx (SP.l l),DS h⟩ ⟨i,o,i.un g⟩ fn (PI i.ES.length L Aq) ω v=i.un g v:=by intro ω v;kernel_rfl)
  (hL:Re fn=Lp.ls L:=by kernel_rfl) (hd:decide (Lp.ls L).Nodup=true:=by kernel_rfl) (hc:Ue fn ⟨i,o,i.un g⟩=true:=by kernel_rfl):SQ:=
 mkP yx mx hf i o g l h L Aq hL hd hc hJ he
abbrev OL:XP:= .c (.ptr 0 0)
abbrev Bb:XP:= .c (.v tI)
abbrev hD:XP:= .c (.ptr 1 0)
abbrev TO:XP:= .c (.sl false tI)
abbrev cL:XP:= .c (.ref 0)
abbrev gO:XP:= .row Y0
abbrev jI:XP:= .c (.sl false Y1)
abbrev xP7:XP:= .c (.cI 330 [(.cons (.sl tI) .unit)])
abbrev v_:XP:= .c (.ZE zM)
abbrev xP9:XP:= .c (.sl false Y2)
abbrev tQ:XP:= .c (.sl false Y5)
abbrev uj:XP:= .c (.sl false (.sl tI))
abbrev pB:XP:= .c (.sl false ug)
abbrev qj:XP:= .c (.ptr 2 0)
abbrev AAU:XP:= .agg [.ref 0,.v tI,.ref 1,.ref 2,.ref 3,.v tI,.ref 4,.ref 5,.ref 6,.ref 7,.v .bool]
abbrev k_:XP:= .c (.ptr 10 0)
abbrev sU:XP:= .c (.cI 217 [(.cons tI .unit)])
abbrev m_:XP:= .c (.sl false Y14)
abbrev tv:XP:= .c (.cI 285 [(.cons tI .unit)])
abbrev wU:BP:= .mem [.sl true tU,.v tI,.v tI]
abbrev I2:BP:= .sl 9 tI
abbrev js:BP:= .mem [.sl false tI,.v tI]
abbrev E6:BP:= .sl 1 tI
abbrev KH:BP:= .gone
abbrev sP:BP:= .mem [.v tI,.v tI,.sl false tI,.sl false Y1,.v .bool,.sl false (.sl tI)]
abbrev fb:BP:= .sl 9 Y2
abbrev WZ:BP:= .sl 9 Y3
abbrev gF:BP:= .sl 9 Y6
abbrev fj:BP:= .sl 9 Y7
abbrev fV:BP:= .sl 9 Y9
abbrev VU:BP:= .sl 9 ug
abbrev ACo:BP:= .mem [.v tI,.v tI,.v tI,.v tI,.v .str]
abbrev RZ:BP:= .sl 9 Y1
abbrev jx:BP:= .sl 9 (.sl tI)
abbrev ABQ:BP:= .mem [.v tI,.v tI,.ref 1,.ref 2,.v .bool,.ref 3]
abbrev AC9:BP:= .mem [.v tI,.v tI,.ref 5,.ref 6,.v .bool,.ref 7]
abbrev qf:BP:= .mem [.sl false tI,.v tI,.sl false Y2,.sl false tI,.sl false Y3,.v tI,.sl false Y6,.sl false Y7,.sl false Y9,.sl false ug,.v .bool]
abbrev uT:BP:= .mem [.ref 2,.v tI,.ref 3,.ref 4,.ref 5,.v tI,.ref 6,.ref 7,.ref 8,.ref 9,.v .bool]
abbrev uN:BP:= .mem [.ref 11,.v tI,.ref 12,.ref 13,.ref 14,.v tI,.ref 15,.ref 16,.ref 17,.ref 18,.v .bool]
abbrev gD:BP:= .mem [.ref 1,.v tI,.ref 2,.ref 3,.ref 4,.v tI,.ref 5,.ref 6,.ref 7,.ref 8,.v .bool]
abbrev XU:BP:= .sl 2 Y2
abbrev P3:BP:= .sl 2 Y3
abbrev Ph:BP:= .sl 3 Y6
abbrev Yz:BP:= .sl 3 Y7
abbrev cf:BP:= .sl 2 Y9
abbrev OD:BP:= .sl 1 ug
abbrev wt:BP:= .mem [.v tI,.v tI,.v .bool,.v .str]
abbrev xm:BP:= .mem [.ref 1,.v tI,.ref 2,.ref 9,.ref 4,.v tI,.ref 5,.ref 6,.ref 7,.ref 8,.v .bool]
abbrev WA:BP:= .sl 1 Y2
abbrev Zz:BP:= .sl 2 Y7
abbrev YE:BP:= .sl 1 Y9
abbrev ZU:List (Nat×XP):=[(0,Bb)]
abbrev nf:List (Nat×XP):=[(0,cL)]
abbrev wx:List (Nat×XP):=[(0,.c (.ref 1))]
abbrev AA3:List (Nat×XP):=[(0,.KK [.inr [.ref 0,.v tI,.ref 1,.ref 2,.ref 3,.v tI,.ref 4,.ref 5,.ref 6,.ref 7,.v .bool],.inl (.v .bool)])]
abbrev AAf:List (Nat×XP):=[(0,.KK [.inr [.ref 0,.ref 1,.v tI],.inl (.v .bool)])]
abbrev ADH:List (Nat×XP):=[(0,OL),(1,Bb),(2,Bb)]
abbrev yS:List (Nat×XP):=[(0,.KK [.inr [.v tI,.v tI,.ref 0,.ref 1,.v .bool,.ref 2],.inl (.v .bool)])]
abbrev oB:List BP:=[wU]
abbrev wu:List BP:=[js]
abbrev mW:List BP:=[E6]
abbrev ACl:List BP:=[I2,fb,I2,WZ,gF,fj,fV,VU]
abbrev ACJ:List BP:=[I2,RZ,jx]
abbrev tq:List BP:=[qf,uT,I2,fb,I2,WZ,gF,fj,fV,VU,uN,I2,fb,I2,WZ,gF,fj,fV,VU]
abbrev cj:List BP:=[gD,E6,XU,E6,P3,Ph,Yz,cf,OD]
abbrev mf:List BP:=[.sl 1 Y1]
abbrev z6:List BP:=[xm,E6,XU,E6,P3,Ph,Yz,cf,OD,E6]
abbrev AB1:List BP:=[.mem [.v tI,.v tI,.ref 1],.sl 1 Y8]
abbrev ACc:List BP:=[gD,E6,XU,E6,P3,Ph,Yz,YE,OD]
abbrev yk:List BP:=[E6,WA,E6,P3,Ph,Zz,YE,OD]
abbrev GD:Bg:=⟨[(0,.c (.v .bool))],[]⟩
abbrev wk:Bg:=⟨[(0,.c (.sl true tU))],[]⟩
abbrev tO:Bg:=⟨[(0,OL)],oB⟩
abbrev xB:Bg:=⟨ZU,oB⟩
abbrev ABp:Bg:=⟨[(0,OL),(1,Bb)],oB⟩
abbrev AB3:Bg:=⟨[(0,.agg [.ref 1,.v tI])],[wU,I2]⟩
abbrev AB2:Bg:=⟨[(0,.agg [.ref 0,.v tI])],[I2]⟩
abbrev pI:Bg:=⟨nf,[I2]⟩
abbrev sI:Bg:=⟨[(0,gO)],[]⟩
abbrev ABB:Bg:=⟨[(0,.agg [.v tI,.v tI,.ref 0])],[.sl 9 Y8]⟩
abbrev zk:Bg:=⟨[(0,Bb),(1,Bb),(2,Bb)],[]⟩
abbrev mG:Bg:=⟨[(0,TO),(1,Bb)],[]⟩
abbrev kc:Bg:=⟨[(0,gO),(1,TO)],[]⟩
abbrev Lw:Bg:=⟨ZU,[]⟩
abbrev wv:Bg:=⟨[(0,jI)],[]⟩
abbrev ur:Bg:=⟨[(0,.row Y2)],[]⟩
abbrev ABf:Bg:=⟨wx,[KH,E6]⟩
abbrev tY:Bg:=⟨nf,mW⟩
abbrev sQ:Bg:=⟨[(0,v_),(1,Bb)],[]⟩
abbrev rH:Bg:=⟨[(0,v_)],[]⟩
abbrev AAP:Bg:=⟨[(0,gO),(1,.row Y4)],[]⟩
abbrev AA9:Bg:=⟨[(0,gO),(1,.row Y6)],[]⟩
abbrev yC:Bg:=⟨[(0,.row Y7)],[]⟩
abbrev yg:Bg:=⟨[(0,gO),(1,.row Y7)],[]⟩
abbrev pZ:Bg:=⟨[(0,.row zM)],[]⟩
abbrev zp:Bg:=⟨[(0,.agg [.ref 0,.v tI])],[WZ]⟩
abbrev AB0:Bg:=⟨nf,[RZ]⟩
abbrev AA1:Bg:=⟨[(0,.agg [.ref 0,.ref 1,.v tI])],[RZ,RZ]⟩
abbrev AAn:Bg:=⟨[(0,.agg [.v tI,.ref 0])],[.sl 9 Y5]⟩
abbrev w9:Bg:=⟨[(0,.agg [.v tI,.v tI,.ref 0,.ref 1,.v .bool,.ref 2])],ACJ⟩
abbrev wB:Bg:=⟨[(0,AAU)],ACl⟩
abbrev dh:Bg:=⟨[(0,OL),(1,Bb)],cj⟩
abbrev pD:Bg:=⟨[(0,Bb),(1,Bb)],[]⟩
abbrev eC:Bg:=⟨[(0,.KK [.inl (.v tI),.inl (.v .bool)])],[]⟩
abbrev aE:Bg:=⟨ZU,cj⟩
abbrev v8:Bg:=⟨[(0,OL),(1,.row ny)],cj⟩
abbrev vV:Bg:=⟨wx,[KH,.sl 1 Y1]⟩
abbrev gk:Bg:=⟨[(0,.row Y2),(1,Bb)],[]⟩
abbrev lJ:Bg:=⟨AAf,[.sl 1 Y1,RZ]⟩
abbrev qv:Bg:=⟨[(0,.KK [.inr [.v tI,.v tI,.v .bool,.v .str],.inl (.v .bool)])],[]⟩
abbrev vd:Bg:=⟨[(0,.KK [.inr [.v tI,.ref 0],.inl (.v .bool)])],[.sl 2 Y5]⟩
abbrev lU:Bg:=⟨ADH,cj⟩
abbrev vZ:Bg:=⟨[(0,.KK [])],cj⟩
abbrev qq:Bg:=⟨[(0,OL),(1,Bb),(2,Bb),(6,Bb)],cj⟩
abbrev vq:Bg:=⟨yS,[I2,RZ,.sl 2 (.sl tI)]⟩
abbrev qM:Bg:=⟨[(0,OL)],cj⟩
abbrev ve:Bg:=⟨[(0,gO),(1,TO),(2,TO)],[]⟩
abbrev wH:Bg:=⟨[(0,.KK [.inr [.ref 0,.v tI],.inl (.v .bool)])],[WZ]⟩
abbrev iQ:Bg:=⟨[(0,.row zM),(1,Bb)],[]⟩
abbrev vR:Bg:=⟨[(0,.KK [])],[.mem [.v tI,.v tI,.ref 2],KH,.sl 1 Y8]⟩
abbrev vj:Bg:=⟨[(0,.KK [.inr [.ref 0,.v tI,.ref 1,.ref 2,.ref 3,.v tI,.ref 4,.ref 5,.ref 6,.ref 7,.v .bool],.inl (.v tI)])],yk⟩
abbrev vO:Bg:=⟨AA3,yk⟩
abbrev zw:Bg:=⟨[(2,.c (.ptr 8 0)),(4,.c (.ptr 17 0)),(10,.c (.sl false ny)),(11,Bb),(12,Bb)],[KH,KH,KH,KH,KH,KH,KH,KH,.mem [.ref 9,.v tI,.ref 10,.ref 11,.ref 12,.v tI,.ref 13,.ref 14,.ref 15,.ref 16,.v .bool],E6,WA,E6,P3,Ph,Zz,YE,OD,.mem [.ref 18,.v tI,.ref 19,.ref 20,.ref 21,.v tI,.ref 22,.ref 23,.ref 24,.ref 25,.v .bool],I2,fb,I2,WZ,gF,fj,fV,VU]⟩
abbrev wC:Bg:=⟨nf,[VU]⟩
def s5:SQ:=mk Tryz.func5 ⟨[(0,.c (.sl false tU))],[]⟩ GD bc [] [] []
def s28:SQ:=mk Tryz.func28 wk tO Sc [] [] [⟨3,⟨[(0,.c (.sl true tU)),(3,Bb),(4,Bb)],[]⟩,Kk⟩]
def AEa:SQ:=mk Tryz.func176 tO xB IW [] [(2,[0]),(3,[0]),(4,[0])] []
def s93:SQ:=mk Tryz.func93 ABp xB Fo [AEa] [] []
def AEC:SQ:=mk Tryz.func175 ABp ⟨[(0,.c (.v .bool))],oB⟩ QQ [s93] [] []
def s92:SQ:=mk Tryz.func92 tO AB3 J_ [s93,AEC] [(6,[1,2])] [⟨4,⟨[(0,OL),(2,hD),(3,.c (.ptr 3 0)),(4,Bb),(5,Bb)],[wU,.mem [.ref 2,.v tI],I2,.mem [.ref 4,.v tI],I2]⟩,Fe⟩] (hJ:= .cons (fun _=>rfl) (fun n v ω=>by rcases ω with _|⟨_|_,_|⟨_|_,_⟩⟩<;>kernel_rfl) (.nil))
def s94:SQ:=mk Tryz.func94 ⟨[(0,OL),(1,TO)],oB⟩ xB H5 [s93] [] []
def s27:SQ:=mk Tryz.func27 tO AB3 Ng [s92,s93,s94] [(6,[1,4])] []
def s6:SQ:=mk Tryz.func6 wk AB2 L4 [s27,s28] [] []
abbrev i95:Bg:=⟨[(0,TO)],[]⟩
abbrev o95:Bg:=pI
def qO:SQ:=mk Tryz.func95 i95 o95 CL [] [] []
abbrev i29:Bg:=sI
abbrev o29:Bg:=AB2
def s29:SQ:=mk Tryz.func29 i29 o29 Fb [qO] [(1,[0])] []
abbrev i30:Bg:=⟨[],[]⟩
abbrev o30:Bg:=ABB
def s30:SQ:=mk Tryz.func30 i30 o30 Hu [] [] []
abbrev oH:Bg:=zk
abbrev yz:Bg:=GD
def Vk:SQ:=mk Tryz.func47 oH yz Aj [] [] []
def s96:SQ:=mk Tryz.func96 sI GD De [Vk] [] [⟨2,⟨[(1,OL),(6,TO),(7,Bb),(8,Bb)],wu⟩,H0⟩]
def s37:SQ:=mk Tryz.func37 mG GD L9 [Vk] [] [⟨2,⟨[(0,TO),(1,Bb),(7,TO),(8,Bb),(9,Bb)],[]⟩,G1⟩]
def sG:SQ:=mk Tryz.func32 kc GD C1 [s37,s96] [] []
def uf:SQ:=mk Tryz.func131 Lw GD E5 [Vk] [] []
def AA4:SQ:=mk Tryz.func132 Lw GD Pd [Vk] [] []
def s48:SQ:=mk Tryz.func48 Lw GD Cy [uf,AA4] [] []
def sY:SQ:=mk Tryz.func106 ⟨[(0,.c (.v .str))],[]⟩ GD EL [] [] []
def dB:SQ:=mk Tryz.func180 Lw Lw Dj [s48] [] []
def sg:SQ:=mk Tryz.func329 ⟨[(0,.row Y1)],[]⟩ GD Ie [Vk,s48,sY,dB] [(1,[0])] []
def AF2:SQ:=mk Tryz.func258 wv GD J3 [sg] [] [⟨2,⟨[(5,jI),(6,Bb),(7,Bb)],[]⟩,FN⟩]
def AC2:SQ:=mk Tryz.func259 wv GD G4 [] [(4,[0])] [⟨2,⟨[(0,jI),(5,jI),(6,Bb),(7,Bb)],[]⟩,EI⟩]
def fP:SQ:=mk Tryz.func177 ur GD Dn [Vk,AF2,AC2] [] []
def AD4:SQ:=mk Tryz.func186 mG Lw Jn [] [] [⟨2,⟨[(0,TO),(1,Bb),(7,Bb),(8,Bb)],[]⟩,EH⟩]
def j4:SQ:=mk Tryz.func103 mG GD BH [AD4] [] []
def ACa:SQ:=mk Tryz.func330 ⟨[(0,Bb),(1,.c (.ZE (.cons (.sl tI) .unit)))],[]⟩ GD LZ [j4] [] []
def AGA:SQ:=mk Tryz.func286 ⟨[(0,TO),(1,xP7)],[]⟩ Lw Ch [ACa] [] [⟨2,⟨[(0,TO),(1,xP7),(7,Bb),(8,Bb)],[]⟩,BT⟩]
def AEn:SQ:=mk Tryz.func216 ⟨[(0,cL),(1,xP7)],mW⟩ ABf Bq [AGA,ACa] [] [⟨5,⟨[(0,cL),(1,xP7),(5,Bb),(6,Bb)],mW⟩,BO⟩]
def tf:SQ:=mk Tryz.func260 ⟨[(0,TO),(1,TO)],[]⟩ tY I7 [qO,AEn] [] []
abbrev j_:Bg:=sQ
abbrev tX:Bg:=GD
def nS:SQ:=mk Tryz.func178 j_ tX CA [tf] [] []
def s33:SQ:=mk Tryz.func33 kc Lw Qb [sG,j4] [] [⟨5,⟨[(2,OL),(5,.c (.ref 1)),(13,TO),(14,Bb),(15,Bb)],[js,I2]⟩,Js⟩]
abbrev i8:Bg:=kc
abbrev o8:Bg:=GD
def s8:SQ:=mk Tryz.func8 i8 o8 DT [sG,s33] [(1,[0])] []
def s97:SQ:=mk Tryz.func97 rH GD Hd [s8,sG,fP,nS] [] [⟨4,⟨[(0,v_),(32,xP9),(33,Bb),(34,Bb)],[]⟩,Dt⟩]
def AFK:SQ:=mk Tryz.func179 ⟨[(0,gO),(1,.row Y3)],[]⟩ GD Sn [s8,Vk] [] []
abbrev i98:Bg:=AAP
abbrev o98:Bg:=GD
def xj:SQ:=mk Tryz.func98 i98 o98 HR [Vk,s96,AFK,dB] [(7,[0,1])] [⟨2,⟨[(2,OL),(3,hD),(9,.c (.sl false Y3)),(10,Bb),(11,Bb)],[js,.mem [.sl false Y3,.v tI]]⟩,HQ⟩]
def AFH:SQ:=mk Tryz.func261 GD Lw R_ [] [] []
abbrev xD:Bg:=AA9
abbrev ACZ:Bg:=GD
def nq:SQ:=mk Tryz.func181 xD ACZ EU [s8,sG,s96,sY,uf,AFH] [(5,[0,1,2])] [⟨3,⟨[(2,OL),(3,hD),(5,Bb),(9,tQ),(10,Bb),(11,Bb)],[js,.mem [.v tI,.sl false Y5]]⟩,H4⟩]
def ACR:SQ:=mk Tryz.func182 sQ GD GI [Vk] [] []
def s99:SQ:=mk Tryz.func99 rH GD HE [nq,ACR] [(4,[0])] [⟨2,⟨[(0,v_),(8,.c (.sl false Y6)),(9,Bb),(10,Bb)],[]⟩,DP⟩]
def s20:SQ:=mk Tryz.func20 Lw Lw LF [s48] [] []
def ACj:SQ:=mk Tryz.func262 yC Lw ML [s20] [] []
def AEB:SQ:=mk Tryz.func263 yC GD N1 [dB,AC2,sg] [(4,[0,1])] [⟨2,⟨[(1,OL),(6,jI),(7,Bb),(8,Bb)],[sP]⟩,IJ⟩]
def kz:SQ:=mk Tryz.func183 yg GD FB [sG,Vk,s96,uf,ACj,AEB] [] [⟨2,⟨[(2,OL),(3,hD),(10,uj),(11,Bb),(12,Bb)],[js,sP]⟩,Hk⟩]
def yB:SQ:=mk Tryz.func184 ⟨[(0,.row Y4)],[]⟩ Lw IL [] [] [⟨2,⟨[(6,.c (.sl false Y3)),(7,Bb),(8,Bb)],[]⟩,FU⟩]
def AG8:SQ:=mk Tryz.func100 rH GD IX [kz,yB] [(4,[0])] [⟨2,⟨[(0,v_),(8,.c (.sl false Y7)),(9,Bb),(10,Bb)],[]⟩,D4⟩]
def ACO:SQ:=mk Tryz.func185 ⟨[(0,.row Y9)],[]⟩ GD NW [Vk] [] []
def AG9:SQ:=mk Tryz.func101 rH GD HJ [ACO] [] [⟨2,⟨[(0,v_),(8,.c (.sl false Y9)),(9,Bb),(10,Bb)],[]⟩,DN⟩]
def AGT:SQ:=mk Tryz.func102 rH GD JZ [sY,dB,ACR] [(4,[0])] [⟨2,⟨[(0,v_),(8,pB),(9,Bb),(10,Bb)],[]⟩,EK⟩]
abbrev i31:Bg:=pZ
abbrev o31:Bg:=GD
def ue:SQ:=mk Tryz.func31 i31 o31 D9 [s96,s97,xj,s99,AG8,AG9,AGT] [] []
abbrev i7:Bg:=sI
abbrev o7:Bg:=⟨AA3,ACl⟩
def c7:Ma:=⟨i7,o7,(i7.un Ez)⟩
def C7:Td:=⟨T,Rx (SP.l [s29,s30,ue]),DS [(1,[0,1])]⟩
def L7:List (Lp o7):=[]
def W7(p0:AA8):Option TA:=
 (Fb (p0.1,p0.2.1,())).bind fun u1=>
 (
 let x2:AAN:=(List.replicate ((p0.1.length:Int).toNat) ([],[],0,()))
 (Hu).bind fun u3=>
 (Hu).bind fun u4=>
 (D9 (u1.2.1,u1.1.1.2.1,x2,[],[],0,[],[],[(u3.1.1.1,u3.1.1.2.1,u3.2.1,()),(u4.1.1.1,u4.1.1.2.1,u4.2.1,())],[],false,())).bind fun u5=>
 cond (!u5.1.1)
  (some (((((),0,(),(),(),0,(),(),(),(),false,()),false,()),()),([],[],[],[],[],[],[],[],())))
 (some (((((),u1.1.1.2.1,(),(),(),0,(),(),(),(),false,()),true,()),()),(u1.2.1,x2,[],[],[],[],[(u3.1.1.1,u3.1.1.2.1,u3.2.1,()),(u4.1.1.1,u4.1.1.2.1,u4.2.1,())],[],()))))
def A7(ω:List Bool):Prop:= ∀v,Dl C7 c7 Tryz.f7 (PI 0 L7 Aq) ω v=i7.un Ez v
def B7(ω:List Bool):Prop:= ∀v,Dl C7 c7 Tryz.f7 (PI 0 L7 Aq) ω v=i7.un (fun p0=>if(0:Int)≤(p0.1.length:Int)∧(p0.1.length:Int)≤(p0.1.length:Int)∧(p0.1.length:Int)≤(Go.M.IQ:Int)then W7 p0 else none) v
def Q7(ω:List Bool):Prop:= ∀v u,i7.un Ez v=some u→Dl C7 c7 Tryz.f7 (PI 0 L7 Aq) ω v=some u
theorem PB{ω:List Bool}(h:A7 ω):Q7 ω:=fun v u e=>(h v).trans e
theorem pf{ω:List Bool}(h:B7 ω):Q7 ω:=fun v u e=>(h v).trans (by
 revert e
 show Ez v.1.1=some u→(if(0:Int)≤(v.1.1.1.length:Int)∧(v.1.1.1.length:Int)≤(v.1.1.1.length:Int)∧(v.1.1.1.length:Int)≤(Go.M.IQ:Int)then W7 v.1.1 else none)=some u
 intro e;unfold Ez at e;cases hc:Fb (v.1.1.1,v.1.1.2.1,())with
 |none=>rw[hc]at e;cases e
 |some q=>
  rw[hc]at e;simp only[Option.bind_some]at e;by_cases hg:(0:Int)≤(v.1.1.1.length:Int)∧(v.1.1.1.length:Int)≤(v.1.1.1.length:Int)∧(v.1.1.1.length:Int)≤(Go.M.IQ:Int)
  ·rw[if_pos hg]at e
   rw[if_pos hg];unfold W7;rw[hc];exact e
  ·rw[if_neg hg]at e
   cases e)
theorem AFF:Q7 []:=PB (by delta A7;intros;kernel_rfl)
theorem AGW:Q7 (false::[]):=pf (by delta B7;intros;kernel_rfl)
theorem AEo:Q7 (false::false::[]):=PB (by delta A7;intros;kernel_rfl)
theorem AE3(ω:List Bool):Q7 (false::false::false::ω):=pf (by delta B7;intros;kernel_rfl)
theorem AGE:Q7 (false::false::true::[]):=PB (by delta A7;intros;kernel_rfl)
theorem AFo:Q7 (false::false::true::false::[]):=PB (by delta A7;intros;kernel_rfl)
theorem AHC:Q7 (false::false::true::false::false::[]):=PB (by delta A7;intros;kernel_rfl)
theorem AEb(ω:List Bool):Q7 (false::false::true::false::false::false::ω):=PB (by delta A7;intros;kernel_rfl)
theorem AGz(ω:List Bool):Q7 (false::false::true::false::false::true::ω):=PB (by delta A7;intros;kernel_rfl)
theorem AAE(ω:List Bool):Q7 (false::false::true::false::true::ω):=PB (by delta A7;intros;kernel_rfl)
theorem ACV(ω:List Bool):Q7 (false::false::true::true::ω):=PB (by delta A7;intros;kernel_rfl)
theorem AC_:Q7 (false::true::[]):=pf (by delta B7;intros;kernel_rfl)
theorem ACE(ω:List Bool):Q7 (false::true::false::ω):=pf (by delta B7;intros;kernel_rfl)
theorem AAe:Q7 (false::true::true::[]):=pf (by delta B7;intros;kernel_rfl)
theorem AC6(ω:List Bool):Q7 (false::true::true::false::ω):=pf (by delta B7;intros;kernel_rfl)
theorem ABl:Q7 (false::true::true::true::[]):=pf (by delta B7;intros;kernel_rfl)
theorem ABv(ω:List Bool):Q7 (false::true::true::true::false::ω):=pf (by delta B7;intros;kernel_rfl)
theorem ACr:Q7 (false::true::true::true::true::[]):=pf (by delta B7;intros;kernel_rfl)
theorem AB_(ω:List Bool):Q7 (false::true::true::true::true::false::ω):=pf (by delta B7;intros;kernel_rfl)
theorem ACp(ω:List Bool):Q7 (false::true::true::true::true::true::ω):=pf (by delta B7;intros;kernel_rfl)
theorem ACt:Q7 (true::[]):=PB (by delta A7;intros;kernel_rfl)
theorem ACC:Q7 (true::false::[]):=PB (by delta A7;intros;kernel_rfl)
theorem zu:Q7 (true::false::false::[]):=PB (by delta A7;intros;kernel_rfl)
theorem ACP:Q7 (true::false::false::false::[]):=PB (by delta A7;intros;kernel_rfl)
theorem ACh:Q7 (true::false::false::false::false::[]):=PB (by delta A7;intros;kernel_rfl)
theorem AAy(ω:List Bool):Q7 (true::false::false::false::false::false::ω):=PB (by delta A7;intros;kernel_rfl)
theorem ADM(ω:List Bool):Q7 (true::false::false::false::false::true::ω):=PB (by delta A7;intros;kernel_rfl)
theorem ABz(ω:List Bool):Q7 (true::false::false::false::true::ω):=PB (by delta A7;intros;kernel_rfl)
theorem AAB(ω:List Bool):Q7 (true::false::false::true::ω):=PB (by delta A7;intros;kernel_rfl)
theorem AAh:Q7 (true::false::true::[]):=PB (by delta A7;intros;kernel_rfl)
theorem ADI:Q7 (true::false::true::false::[]):=PB (by delta A7;intros;kernel_rfl)
theorem AAQ:Q7 (true::false::true::false::false::[]):=PB (by delta A7;intros;kernel_rfl)
theorem zy:Q7 (true::false::true::false::false::false::[]):=PB (by delta A7;intros;kernel_rfl)
theorem zh(ω:List Bool):Q7 (true::false::true::false::false::false::false::ω):=PB (by delta A7;intros;kernel_rfl)
theorem ACi(ω:List Bool):Q7 (true::false::true::false::false::false::true::ω):=PB (by delta A7;intros;kernel_rfl)
theorem zi(ω:List Bool):Q7 (true::false::true::false::false::true::ω):=PB (by delta A7;intros;kernel_rfl)
theorem ACb:Q7 (true::false::true::false::true::[]):=PB (by delta A7;intros;kernel_rfl)
theorem zo:Q7 (true::false::true::false::true::false::[]):=PB (by delta A7;intros;kernel_rfl)
theorem zt:Q7 (true::false::true::false::true::false::false::[]):=PB (by delta A7;intros;kernel_rfl)
theorem ADD(ω:List Bool):Q7 (true::false::true::false::true::false::false::false::ω):=PB (by delta A7;intros;kernel_rfl)
theorem ACH(ω:List Bool):Q7 (true::false::true::false::true::false::false::true::ω):=PB (by delta A7;intros;kernel_rfl)
theorem AA0:Q7 (true::false::true::false::true::false::true::[]):=PB (by delta A7;intros;kernel_rfl)
theorem ACw(ω:List Bool):Q7 (true::false::true::false::true::false::true::false::ω):=PB (by delta A7;intros;kernel_rfl)
theorem ABE(ω:List Bool):Q7 (true::false::true::false::true::false::true::true::ω):=PB (by delta A7;intros;kernel_rfl)
theorem ACU:Q7 (true::false::true::false::true::true::[]):=PB (by delta A7;intros;kernel_rfl)
theorem ABq(ω:List Bool):Q7 (true::false::true::false::true::true::false::ω):=PB (by delta A7;intros;kernel_rfl)
theorem ACK(ω:List Bool):Q7 (true::false::true::false::true::true::true::ω):=PB (by delta A7;intros;kernel_rfl)
theorem z8:Q7 (true::false::true::true::[]):=PB (by delta A7;intros;kernel_rfl)
theorem AAZ(ω:List Bool):Q7 (true::false::true::true::false::ω):=PB (by delta A7;intros;kernel_rfl)
theorem ACG:Q7 (true::false::true::true::true::[]):=PB (by delta A7;intros;kernel_rfl)
theorem ADF(ω:List Bool):Q7 (true::false::true::true::true::false::ω):=PB (by delta A7;intros;kernel_rfl)
theorem ABI(ω:List Bool):Q7 (true::false::true::true::true::true::ω):=PB (by delta A7;intros;kernel_rfl)
theorem zW:Q7 (true::true::[]):=PB (by delta A7;intros;kernel_rfl)
theorem AAM(ω:List Bool):Q7 (true::true::false::ω):=PB (by delta A7;intros;kernel_rfl)
theorem ABU:Q7 (true::true::true::[]):=PB (by delta A7;intros;kernel_rfl)
theorem ACL(ω:List Bool):Q7 (true::true::true::false::ω):=PB (by delta A7;intros;kernel_rfl)
theorem ze:Q7 (true::true::true::true::[]):=PB (by delta A7;intros;kernel_rfl)
theorem ACW(ω:List Bool):Q7 (true::true::true::true::false::ω):=PB (by delta A7;intros;kernel_rfl)
theorem zX(ω:List Bool):Q7 (true::true::true::true::true::ω):=PB (by delta A7;intros;kernel_rfl)
def s7:SQ:=AF7 yx mx Tryz.func7 i7 o7 Ez [s29,s30,ue] [(1,[0,1])] L7 Aq (by kernel_rfl) (by kernel_rfl) (by kernel_rfl) .nil (BK AFF (BK AGW (BK AEo AE3 (BK AGE (BK AFo (BK AHC AEb AGz) AAE) ACV)) (BK AC_ ACE (BK AAe AC6 (BK ABl ABv (BK ACr AB_ ACp))))) (BK ACt (BK ACC (BK zu (BK ACP (BK ACh AAy ADM) ABz) AAB) (BK AAh (BK ADI (BK AAQ (BK zy zh ACi) zi) (BK ACb (BK zo (BK zt ADD ACH) (BK AA0 ACw ABE)) (BK ACU ABq ACK))) (BK z8 AAZ (BK ACG ADF ABI)))) (BK zW AAM (BK ABU ACL (BK ze ACW zX)))))
def s34:SQ:=mk Tryz.func34 zk GD KD [] [] []
def s9:SQ:=mk Tryz.func9 sI GD I5 [s34] [] [⟨4,⟨[(1,OL),(3,Bb)],wu⟩,IM⟩]
def AEi:SQ:=mk Tryz.func104 ⟨[(0,TO),(1,Bb),(2,Bb)],[]⟩ GD SV [s34] [] [⟨2,⟨[(0,TO),(1,Bb),(2,Bb),(7,Bb)],[]⟩,I9⟩]
def s35:SQ:=mk Tryz.func35 kc GD Of [s9,AEi] [] []
def s36:SQ:=mk Tryz.func36 kc Lw Qv [] [(6,[0,1])] [⟨4,⟨[(1,TO),(2,OL),(5,.c (.ref 1)),(6,Bb),(7,Bb)],[js,.sl 9 .bool]⟩,Jq⟩]
def s10:SQ:=mk Tryz.func10 kc GD PZ [s35,s36] [(1,[0])] []
def s11:SQ:=mk Tryz.func11 ⟨[(0,TO)],[]⟩ Lw L3 [s37] [] [⟨5,⟨[(3,Bb),(9,TO),(10,Bb),(11,Bb)],[]⟩,FP⟩]
def AFs:SQ:=mk Tryz.func105 Lw ⟨[(0,.c (.v .str))],[]⟩ Si [] [] []
def s38:SQ:=mk Tryz.func38 ⟨[(0,.row ny)],[]⟩ GD QG [Vk,AFs,sY] [] [⟨4,⟨[(1,OL),(3,hD),(11,.c (.ref 2)),(12,Bb),(13,Bb)],[ACo,ACo,.sl 9 tU]⟩,Cm⟩]
abbrev i107:Bg:=⟨[(0,.row Y4)],[]⟩
abbrev ABo:Bg:=zp
def mS:SQ:=mk Tryz.func107 i107 ABo DL [qO] [] [⟨3,⟨[(2,OL),(3,qj),(10,.c (.sl false Y3)),(11,Bb),(12,Bb)],[.mem [.ref 1,.v tI],WZ,.mem [.ref 3,.v tI],WZ]⟩,E9⟩]
def AC4:SQ:=mk Tryz.func187 wv AB0 F8 [] [] []
def qI:SQ:=mk Tryz.func108 ur AA1 CG [AC4] [(1,[0])] []
abbrev i109:Bg:=⟨[(0,.row Y6)],[]⟩
abbrev zg:Bg:=AAn
def mI:SQ:=mk Tryz.func109 i109 zg D_ [qO] [] [⟨3,⟨[(2,OL),(3,qj),(10,tQ),(11,Bb),(12,Bb)],[.mem [.v tI,.ref 1],.sl 9 Y5,.mem [.v tI,.ref 3],.sl 9 Y5]⟩,GY⟩]
def nU:SQ:=mk Tryz.func110 yC w9 ET [qO,AC4] [(2,[0,1]),(6,[0,1,2,3,5,6])] [⟨4,⟨[(2,OL),(3,.c (.ptr 4 0)),(17,uj),(18,Bb),(19,Bb)],[ABQ,I2,RZ,jx,AC9,I2,RZ,jx]⟩,IB⟩] (hJ:= .cons (fun _=>rfl) (fun n v ω=>by rcases ω with _|⟨_|_,_|⟨_|_,_⟩⟩<;>kernel_rfl) (.nil))
def ABr:SQ:=mk Tryz.func111 ⟨[(0,.row Y9)],[]⟩ ABB Iz [] [] []
abbrev i39:Bg:=pZ
abbrev o39:Bg:=wB
def y_:SQ:=mk Tryz.func39 i39 o39 C6 [s29,qO,mS,qI,mI,nU,ABr] [(1,[0,1]),(5,[0,1,2,3,4,5,6,7,8,9,11,13,14,15,16,17,18,19]),(10,[0,1,2,3,4,5,6,7,8,9,11,12,13,14,16,17,18,19]),(15,[0,1,2,3,4,5,6,7,8,9,11,12,13,14,15,17,18,19]),(20,[0,1,2,3,4,5,6,7,8,9,11,12,13,14,15,16,18,19])] [⟨3,⟨[(1,OL),(2,hD),(3,k_),(25,xP9),(26,Bb),(27,Bb)],tq⟩,Dz⟩,⟨8,⟨[(1,OL),(2,hD),(3,k_),(40,.c (.sl false Y6)),(41,Bb),(42,Bb)],tq⟩,D1⟩,⟨13,⟨[(1,OL),(2,hD),(3,k_),(55,.c (.sl false Y7)),(56,Bb),(57,Bb)],tq⟩,DR⟩,⟨18,⟨[(1,OL),(2,hD),(3,k_),(70,.c (.sl false Y9)),(71,Bb),(72,Bb)],tq⟩,DW⟩] (hJ:= .cons (fun _=>rfl) (fun n v ω=>by rcases ω with _|⟨_|_,_|⟨_|_,_⟩⟩<;>kernel_rfl) (.cons (fun _=>rfl) (fun n v ω=>by rcases ω with _|⟨_|_,_|⟨_|_,_⟩⟩<;>kernel_rfl) (.cons (fun _=>rfl) (fun n v ω=>by rcases ω with _|⟨_|_,_|⟨_|_,_⟩⟩<;>kernel_rfl) (.cons (fun _=>rfl) (fun n v ω=>by rcases ω with _|⟨_|_,_|⟨_|_,_⟩⟩<;>kernel_rfl) (.nil))))) (he:=fun ω v=>by rcases ω with _|⟨_|_,_|⟨_|_,_|⟨_|_,_⟩⟩⟩<;>kernel_rfl)
abbrev je:Bg:=Lw
abbrev tb:Bg:=pI
def tD:SQ:=mk Tryz.func189 je tb FC [Vk] [] [⟨5,⟨[(0,Bb),(3,cL),(10,Bb)],[I2]⟩,G5⟩]
abbrev yo:Bg:=AAP
abbrev AAt:Bg:=zp
def sC:SQ:=mk Tryz.func211 yo AAt C_ [xj,mS] [] []
abbrev gP:Bg:=⟨[(0,gO),(1,.row Y4),(2,TO)],[]⟩
abbrev sq:Bg:=⟨[(0,.KK [.inr [.ref 0,.v tI],.inl (.v tI),.inl (.v .bool)])],[WZ]⟩
def ACF:Ma:=⟨gP,sq,(gP.un Ii)⟩
def AGH:Td:=⟨T,Rx (SP.l [s8,qO,xj,mS,sC]),DS [(4,[0,1,2])]⟩
def xq:List (Lp sq):=[]
theorem AFI(g8:AA8→List Int→Option XK)(g95:List Int→Option TF)(g98:AA8→ACX→Option MH)(ABa:ACX→Option Fh)(sN:AA8→ACX→Option S4)(n:Nat)(ω:List Bool)(v:gP.V):Dl ⟨T,Rx [(8,⟨i8,o8,i8.un g8⟩),(95,⟨i95,o95,i95.un g95⟩),(98,⟨i98,o98,i98.un g98⟩),(107,⟨i107,ABo,i107.un ABa⟩),(211,⟨yo,AAt,yo.un sN⟩)],DS [(4,[0,1,2])]⟩ ACF Tryz.f188 (PI 0 xq n) ω v=gP.un (fun(p0:AA8) (p1:ACX) (p2:AAG)=>
 (g98 (p0.1,p0.2.1,()) (p1.1,p1.2.1,())).bind fun u1=>
 cond (!u1.1.1)
  ((sN (p0.1,p0.2.1,()) (p1.1,p1.2.1,())).bind fun u2=>
  some (((((),u2.1.1.2.1,()),0,false,()),()),(u2.2.1,())))
 ((g8 (p0.1,p0.2.1,()) p2).bind fun u3=>
 cond (!u3.1.1)
  ((sN (p0.1,p0.2.1,()) (p1.1,p1.2.1,())).bind fun u4=>
  some (((((),u4.1.1.2.1,()),0,false,()),()),(u4.2.1,())))
 (cond (((p1.1.length:Int)==30))
  ((sN (p0.1,p0.2.1,()) (p1.1,p1.2.1,())).bind fun u6=>
  some (((((),u6.1.1.2.1,()),0,false,()),()),(u6.2.1,())))
 ((ABa (p1.1,p1.2.1,())).bind fun u7=>
 (g95 p2).bind fun u8=>
 if u7.2.1.length+1≤Go.M.IQ then(
 let x9:AAS:=u7.2.1++[(u8.2.1,false,0,())]
 some (((((),u7.1.1.2.1,()),(x9.length:Int),true,()),()),(x9,())))else none)))) v:=by rcases ω with _|⟨_|_,_|⟨_|_,_|⟨_|_,_|⟨_|_,_⟩⟩⟩⟩<;>kernel_rfl
theorem AGq(n:Nat)(ω:List Bool)(v:gP.V):Dl AGH ACF Tryz.f188 (PI 0 xq n) ω v=gP.un (Ii) v:=AFI DT CL HR DL C_ n ω v
def AAT:SQ:=mk Tryz.func188 gP sq Ii [s8,qO,xj,mS,sC] [(4,[0,1,2])] xq (hJ:= .nil) (he:=AGq Aq)
abbrev kd:Bg:=dh
abbrev xL:Bg:=⟨ZU,[.mem [.ref 1,.v tI,.ref 2,.ref 3,.ref 9,.v tI,.ref 10,.ref 11,.ref 7,.ref 8,.v .bool],E6,XU,E6,KH,KH,KH,cf,OD,P3,Ph,Yz]⟩
def AAI:Ma:=⟨kd,xL,(kd.un Gp)⟩
def AGo:Td:=⟨T,Rx (SP.l [AAT,tD]),DS [(3,[0,1,2,3,4,5,6,7,8])]⟩
def ye:List (Lp xL):=[]
theorem AEW(ACn:AA8→ACX→List Int→Option Tf)(kJ:Int→Option Er)(n:Nat)(ω:List Bool)(v:kd.V):Dl ⟨T,Rx [(188,⟨gP,sq,gP.un ACn⟩),(189,⟨je,tb,je.un kJ⟩)],DS [(3,[0,1,2,3,4,5,6,7,8])]⟩ AAI Tryz.f112 (PI 9 ye n) ω v=kd.un (fun(p1:Int) (AJ:Int) (AS:Int) (AK:Bool) (b1:AAG) (b2:AAN) (b3:AAG) (b4:AAS) (b5:AAX) (b6:AAw) (b7:AA2) (b8:AAJ)=>
 cond (((b5.length:Int)==4))
  (some ((4,()),(((),AJ,(),(),(),AS,(),(),(),(),AK,()),b1,b2,b3,(),(),(),b7,b8,b4,b5,b6,())))
 ((kJ p1).bind fun u2=>
 (ACn (b1,AJ,()) (b4,AS,()) u2.2.1).bind fun u3=>
 cond (!u3.1.1.2.2.1)
  (some ((4,()),(((),AJ,(),(),(),AS,(),(),(),(),AK,()),b1,b2,b3,(),(),(),b7,b8,b4,b5,b6,())))
 (if b5.length+1≤Go.M.IQ then(
 some ((0,()),(((),AJ,(),(),(),u3.1.1.1.2.1,(),(),(),(),AK,()),b1,b2,b3,(),(),(),b7,b8,u3.2.1,(b5++[(u3.1.1.2.1,[],())]),[],())))else none))) v:=by rcases ω with _|⟨_|_,_|⟨_|_,_⟩⟩<;>kernel_rfl
theorem AEK(n:Nat)(ω:List Bool)(v:kd.V):Dl AGo AAI Tryz.f112 (PI 9 ye n) ω v=kd.un (Gp) v:=AEW Ii FC n ω v
def AGB:SQ:=mk Tryz.func112 kd xL Gp [AAT,tD] [(3,[0,1,2,3,4,5,6,7,8])] ye (hJ:= .nil) (he:=AEK Aq)
abbrev yP:Bg:=AA9
abbrev zU:Bg:=AAn
def xU:SQ:=mk Tryz.func264 yP zU DA [mI,nq] [] []
abbrev fW:Bg:=⟨[(0,gO),(1,.row Y6),(2,.c (.v .str))],[]⟩
abbrev vJ:Bg:=⟨[(0,.KK [.inr [.v tI,.ref 0],.inl (.v tI),.inl (.v .bool)])],[.sl 9 Y5]⟩
def ABg:Ma:=⟨fW,vJ,(fW.un GR)⟩
def AF9:Td:=⟨T,Rx (SP.l [mI,nq,xU]),DS []⟩
def xy:List (Lp vJ):=[]
theorem AEu(ACD:ACe→Option HA)(wN:AA8→ACe→Option I0)(yL:AA8→ACe→Option Pk)(n:Nat)(ω:List Bool)(v:fW.V):Dl ⟨T,Rx [(109,⟨i109,zg,i109.un ACD⟩),(181,⟨xD,ACZ,xD.un wN⟩),(264,⟨yP,zU,yP.un yL⟩)],DS []⟩ ABg Tryz.f190 (PI 0 xy n) ω v=fW.un (fun(p0:AA8) (p1:ACe) (p2:List UInt8)=>
 (ACD (p1.1,p1.2.1,())).bind fun u1=>
 if u1.2.1.length+1≤Go.M.IQ then(
 let x2:AB7:=u1.2.1++[(p2,[],false,())]
 (wN (p0.1,p0.2.1,()) (p1.1,p1.2.1,())).bind fun u3=>
 cond (!u3.1.1)
  ((yL (p0.1,p0.2.1,()) (p1.1,p1.2.1,())).bind fun u4=>
  some ((((u4.1.1.1,(),()),0,false,()),()),(u4.2.1,())))
 ((wN (p0.1,p0.2.1,()) (u1.1.1.1,x2,())).bind fun u5=>
 cond (!u5.1.1)
  ((yL (p0.1,p0.2.1,()) (p1.1,p1.2.1,())).bind fun u6=>
  some ((((u6.1.1.1,(),()),0,false,()),()),(u6.2.1,())))
 (some ((((u1.1.1.1,(),()),(x2.length:Int),true,()),()),(x2,())))))else none) v:=by rcases ω with _|⟨_|_,_|⟨_|_,_⟩⟩<;>kernel_rfl
theorem AHE(n:Nat)(ω:List Bool)(v:fW.V):Dl AF9 ABg Tryz.f190 (PI 0 xy n) ω v=fW.un (GR) v:=AEu D_ EU DA n ω v
def ABF:SQ:=mk Tryz.func190 fW vJ GR [mI,nq,xU] [] xy (hJ:= .nil) (he:=AHE Aq)
abbrev tJ:Bg:=pD
abbrev zx:Bg:=eC
def rk:SQ:=mk Tryz.func43 tJ zx CV [uf,AA4] [] []
def AGQ:SQ:=mk Tryz.func134 ⟨[(0,.row ug),(1,Bb)],[]⟩ Lw Hc [] [] []
def AEN:SQ:=mk Tryz.func133 ⟨[(0,pB),(1,Bb),(2,.c (.fn 134 []))],[]⟩ eC A0 [AGQ] [] [⟨3,⟨[(0,pB),(1,Bb),(2,.c (.fn 134 [])),(8,Bb),(9,Bb),(10,Bb)],[]⟩,Ae⟩]
abbrev i44:Bg:=sQ
abbrev o44:Bg:=eC
def s44:SQ:=mk Tryz.func44 i44 o44 DH [AEN] [] []
abbrev ABc:Bg:=⟨[(0,cL),(1,Bb),(2,pB)],[OD]⟩
abbrev AEF:Bg:=⟨wx,[KH,OD]⟩
def ACm:SQ:=yR (ρ:=GQ 191 0 265 266 35 56) (nm:= "slices.Insert[[]loop.example/g00178/impl.Sent,loop.example/g00178/impl.Sent]") (fv:=Tryz.f265) yx (YX.ins ⟨by kernel_rfl,by kernel_rfl,by kernel_rfl,by kernel_rfl,by kernel_rfl,by kernel_rfl,by kernel_rfl,by kernel_rfl,by kernel_rfl,by kernel_rfl,by kernel_rfl,by kernel_rfl⟩ mx (by kernel_rfl) (by kernel_rfl) (by kernel_rfl) (by kernel_rfl) (by kernel_rfl) (by kernel_rfl) (by kernel_rfl)) (r:=ug) rfl (by kernel_rfl) (by kernel_rfl) C9 (fun _=>rfl)
abbrev jh:Bg:=⟨[(0,OL),(1,Bb),(2,.c (.v .str))],cj⟩
abbrev yf:Bg:=⟨ZU,[.mem [.ref 1,.v tI,.ref 2,.ref 3,.ref 4,.v tI,.ref 5,.ref 6,.ref 7,.ref 9,.v .bool],E6,XU,E6,P3,Ph,Yz,cf,KH,OD]⟩
def AB4:Ma:=⟨jh,yf,(jh.un Hz)⟩
def AEE:Td:=⟨T,Rx (SP.l [rk,s44,Vk,ABF,ACm]),DS [(3,[0,1,2,3,4,5,6,7,8]),(8,[0,1,2,3,4,6,7,8])]⟩
def xh:List (Lp yf):=[]
theorem AFN(rp:Int→Int→Option Hv)(g44:ABH→Int→Option OZ)(lX:Int→Int→Int→Option I_)(AAo:AA8→ACe→List UInt8→Option RY)(ABs:Int→AAJ→AAJ→Option F5)(n:Nat)(ω:List Bool)(v:jh.V):Dl ⟨T,Rx [(43,⟨tJ,zx,tJ.un rp⟩),(44,⟨i44,o44,i44.un g44⟩),(47,⟨oH,yz,oH.un lX⟩),(190,⟨fW,vJ,fW.un AAo⟩),(191,⟨ABc,AEF,ABc.un ABs⟩)],DS [(3,[0,1,2,3,4,5,6,7,8]),(8,[0,1,2,3,4,6,7,8])]⟩ AB4 Tryz.f113 (PI 9 xh n) ω v=jh.un (fun(p1:Int) (p2:List UInt8) (AJ:Int) (AS:Int) (AK:Bool) (b1:AAG) (b2:AAN) (b3:AAG) (b4:AAS) (b5:AAX) (b6:AAw) (b7:AA2) (b8:AAJ)=>
 (lX p1 0 (A6 ((b5.length:Int)-1))).bind fun u2=>
 cond (!u2.1.1)
  (some ((2,()),(((),AJ,(),(),(),AS,(),(),(),(),AK,()),b1,b2,b3,b4,b5,b6,b7,(),b8,())))
 (if(0:Int)≤p1∧p1<(b5.length:Int)then(
 (AAo (b1,AJ,()) ((b5.getD (p1.toNat) (0,[],())).1,(b5.getD (p1.toNat) (0,[],())).2.1,()) p2).bind fun u3=>
 (rp u3.1.1.1.1 u3.1.1.2.1).bind fun u4=>
 (g44 (b1,AJ,b2,b3,b4,AS,b5,b6,b7,b8,AK,()) u4.1.1.1).bind fun u5=>
 cond (!u3.1.1.2.2.1)
  (some ((4,()),(((),AJ,(),(),(),AS,(),(),(),(),AK,()),b1,b2,b3,b4,b5,b6,b7,(),b8,())))
 (cond (((b8.length:Int)==120))
  (some ((4,()),(((),AJ,(),(),(),AS,(),(),(),(),AK,()),b1,b2,b3,b4,b5,b6,b7,(),b8,())))
 (cond (u5.1.1.2.1)
  (some ((4,()),(((),AJ,(),(),(),AS,(),(),(),(),AK,()),b1,b2,b3,b4,b5,b6,b7,(),b8,())))
 (if(0:Int)≤p1∧p1<(b5.length:Int)then(
 (ABs u5.1.1.1 [(u4.1.1.1,p2,false,())] b8).bind fun u8=>
 some ((0,()),(((),AJ,(),(),(),AS,(),(),(),(),AK,()),b1,b2,b3,b4,(b5.set (p1.toNat) (u3.1.1.1.1,u3.2.1,())),b6,b7,(),u8.2.2.1,())))else none))))else none)) v:=by rcases ω with _|⟨_|_,_⟩<;>kernel_rfl
theorem AFr(n:Nat)(ω:List Bool)(v:jh.V):Dl AEE AB4 Tryz.f113 (PI 9 xh n) ω v=jh.un (Hz) v:=AFN CV DH Aj GR C9 n ω v
def AEe:SQ:=mk Tryz.func113 jh yf Hz [rk,s44,Vk,ABF,ACm] [(3,[0,1,2,3,4,5,6,7,8]),(8,[0,1,2,3,4,6,7,8])] xh (hJ:= .nil) (he:=AFr Aq)
def oe:SQ:=mk Tryz.func194 sQ Lw DC [Vk,nS] [] []
abbrev xZ:Bg:=⟨[(0,.row Y4),(1,Bb)],[]⟩
abbrev ABy:Bg:=pI
def rC:SQ:=mk Tryz.func129 xZ ABy Ex [Vk,qO] [] []
abbrev j6:Bg:=⟨[(0,v_),(1,Bb),(2,Bb)],[]⟩
abbrev vK:Bg:=Lw
def ph:SQ:=mk Tryz.func192 j6 vK Cg [j4,rC,oe] [] []
def ta:SQ:=mk Tryz.func270 ur AA1 Ci [qI,fP] [] []
def AFV:SQ:=mk Tryz.func267 ⟨[(0,.row Y2),(1,.row Y1)],[]⟩ ⟨AAf,[RZ,RZ]⟩ NV [qI,fP,dB,ta,sg] [(3,[0,1,2])] []
abbrev o5:Bg:=GD
abbrev wK:Bg:=Lw
def iJ:SQ:=mk Tryz.func125 o5 wK Gt [] [] []
abbrev i193:Bg:=⟨[(0,OL),(1,Bb),(2,.row Y1)],cj⟩
abbrev AC3:Bg:=aE
def yq:SQ:=mk Tryz.func193 i193 AC3 Hw [iJ,AFV] [(1,[0,1,2,3,4,5,6,7,8,9]),(3,[0,1,3,4,5,6,7,8,9])] [] (he:=fun ω v=>by rcases ω with _|⟨_|_,_⟩<;>kernel_rfl)
abbrev kI:Bg:=v8
abbrev wW:Bg:=aE
def AAz:Ma:=⟨kI,wW,(kI.un F9)⟩
def AD0:Td:=⟨T,Rx (SP.l [rk,Vk,ph,yq]),DS [(1,[0,1,2,3,4,5,6,7,8,9]),(3,[0,1,2,3,4,5,6,7,8,9]),(10,[9,10])]⟩
def xG:List (Lp wW):=[]
theorem AD1(rp:Int→Int→Option Hv)(lX:Int→Int→Int→Option I_)(fC:ABH→Int→Int→Option FR)(ABA:Int→ACs→Int→Int→Bool→List Int→AAN→List Int→AAS→AAX→AAw→AA2→AAJ→Option Rw)(n:Nat)(ω:List Bool)(v:kI.V):Dl ⟨T,Rx [(43,⟨tJ,zx,tJ.un rp⟩),(47,⟨oH,yz,oH.un lX⟩),(192,⟨j6,vK,j6.un fC⟩),(193,⟨i193,AC3,i193.un ABA⟩)],DS [(1,[0,1,2,3,4,5,6,7,8,9]),(3,[0,1,2,3,4,5,6,7,8,9]),(10,[9,10])]⟩ AAz Tryz.f114 (PI 9 xG n) ω v=kI.un (fun(p1:ADU) (AJ:Int) (AS:Int) (AK:Bool) (b1:AAG) (b2:AAN) (b3:AAG) (b4:AAS) (b5:AAX) (b6:AAw) (b7:AA2) (b8:AAJ)=>
 (lX p1.2.1 0 (A6 ((b5.length:Int)-1))).bind fun u2=>
 cond (!u2.1.1)
  (some ((2,()),(((),AJ,(),(),(),AS,(),(),(),(),AK,()),b1,b2,b3,b4,b5,b6,b7,b8,())))
 (if(0:Int)≤p1.2.1∧p1.2.1<(b5.length:Int)then(
 (lX p1.2.2.1 1 (((b5.getD (p1.2.1.toNat) (0,[],())).2.1).length:Int)).bind fun u4=>
 cond (!u4.1.1)
  (some ((2,()),(((),AJ,(),(),(),AS,(),(),(),(),AK,()),b1,b2,b3,b4,b5,b6,b7,b8,())))
 ((fC (b1,AJ,b2,b3,b4,AS,b5,b6,b7,b8,AK,()) p1.2.2.2.1 ((b5.getD (p1.2.1.toNat) (0,[],())).1)).bind fun u6=>
 cond (u6.1.1 !=0)
  (some ((u6.1.1,()),(((),AJ,(),(),(),AS,(),(),(),(),AK,()),b1,b2,b3,b4,b5,b6,b7,b8,())))
 ((rp ((b5.getD (p1.2.1.toNat) (0,[],())).1) p1.2.2.1).bind fun u8=>
 if(0:Int)≤A6 (p1.2.2.1-1)∧A6 (p1.2.2.1-1)<(((b5.getD (p1.2.1.toNat) (0,[],())).2.1).length:Int)then(
 (ABA p1.2.2.2.1 (u8.1.1.1,0,false,((((b5.getD (p1.2.1.toNat) (0,[],())).2.1).getD ((A6 (p1.2.2.1-1)).toNat) ([],[],false,())).1),()) AJ AS AK b1 b2 b3 b4 b5 b6 b7 b8).bind fun Io=>
 some ((Io.1.1,()),(((),Io.2.1.2.1,(),(),(),Io.2.1.2.2.2.2.2.1,(),(),(),(),Io.2.1.2.2.2.2.2.2.2.2.2.2.1,()),Io.2.2.1,Io.2.2.2.1,Io.2.2.2.2.1,Io.2.2.2.2.2.1,Io.2.2.2.2.2.2.1,Io.2.2.2.2.2.2.2.1,Io.2.2.2.2.2.2.2.2.1,Io.2.2.2.2.2.2.2.2.2.1,())))else none)))else none)) v:=by kernel_rfl
theorem AFE(n:Nat)(ω:List Bool)(v:kI.V):Dl AD0 AAz Tryz.f114 (PI 9 xG n) ω v=kI.un (F9) v:=AD1 CV Aj Cg Hw n ω v
def AD_:SQ:=mk Tryz.func114 kI wW F9 [rk,Vk,ph,yq] [(1,[0,1,2,3,4,5,6,7,8,9]),(3,[0,1,2,3,4,5,6,7,8,9]),(10,[9,10])] xG (hJ:= .nil) (he:=AFE Aq)
def AGZ:SQ:=mk Tryz.func340 ⟨[(0,.row Y1),(1,Bb)],[]⟩ Lw Lr [] [] []
def AF4:SQ:=mk Tryz.func339 ⟨[(0,jI),(1,Bb),(2,.c (.fn 340 []))],[]⟩ eC Ba [AGZ] [] [⟨3,⟨[(0,jI),(1,Bb),(2,.c (.fn 340 [])),(8,Bb),(9,Bb),(10,Bb)],[]⟩,Ai⟩]
def zq:SQ:=mk Tryz.func278 ⟨[(0,jI),(1,Bb)],[]⟩ eC MK [AF4] [] []
def AFu:SQ:=yR (ρ:=GQ 332 0 359 360 98 222) (nm:= "slices.Insert[[]loop.example/g00178/impl.Entry,loop.example/g00178/impl.Entry]") (fv:=Tryz.f359) yx (YX.ins ⟨by kernel_rfl,by kernel_rfl,by kernel_rfl,by kernel_rfl,by kernel_rfl,by kernel_rfl,by kernel_rfl,by kernel_rfl,by kernel_rfl,by kernel_rfl,by kernel_rfl,by kernel_rfl⟩ mx (by kernel_rfl) (by kernel_rfl) (by kernel_rfl) (by kernel_rfl) (by kernel_rfl) (by kernel_rfl) (by kernel_rfl)) (r:=Y1) rfl (by kernel_rfl) (by kernel_rfl) Cn (fun _=>rfl)
def AAV:SQ:=mk Tryz.func333 ⟨[(0,.row Y1),(1,.row Y1)],[]⟩ ⟨[(0,.agg [.v tI,.v tI,.v .bool,.v .str])],[]⟩ LP [] [] []
def yX:SQ:=mk Tryz.func271 ⟨[(0,cL),(1,.row Y1)],mf⟩ vV O9 [zq,AFu,AAV] [(4,[1])] []
def zZ:SQ:=mk Tryz.func198 gk lJ Ip [Vk,qI,fP,ta,yX] [] [⟨6,⟨[(1,Bb),(2,OL),(4,hD),(6,.c (.ptr 4 0)),(23,jI),(24,Bb),(25,Bb)],[.mem [.sl false Y1,.sl false Y1,.v tI],.mem [.ref 2,.ref 3,.v tI],RZ,RZ,.mem [.ref 5,.ref 6,.v tI],.sl 1 Y1,RZ]⟩,GL⟩]
def AAq:SQ:=mk Tryz.func195 ur lJ J0 [zZ] [] []
abbrev i212:Bg:=gk
abbrev pr:Bg:=qv
def rX:SQ:=mk Tryz.func212 i212 pr EV [fP,zq] [] []
def AEh:SQ:=mk Tryz.func361 Lw GD cmp_isNaN_int [] [] []
def AFT:SQ:=mk Tryz.func334 pD GD cmp_Less_int [AEh] [] []
def AGU:SQ:=mk Tryz.func335 Lw GD KO [] [] []
def AFm:SQ:=mk Tryz.func272 mG eC ER [AFT,AGU] [] [⟨3,⟨[(0,TO),(1,Bb),(6,Bb),(7,Bb),(8,Bb)],[]⟩,Cj⟩]
def AFn:SQ:=yR (ρ:=GQ 273 0 336 337 24 3) (nm:= "slices.Insert[[]int,int]") (fv:=Tryz.f336) yx (YX.ins ⟨by kernel_rfl,by kernel_rfl,by kernel_rfl,by kernel_rfl,by kernel_rfl,by kernel_rfl,by kernel_rfl,by kernel_rfl,by kernel_rfl,by kernel_rfl,by kernel_rfl,by kernel_rfl⟩ mx (by kernel_rfl) (by kernel_rfl) (by kernel_rfl) (by kernel_rfl) (by kernel_rfl) (by kernel_rfl) (by kernel_rfl)) (r:=tI) rfl (by kernel_rfl) (by kernel_rfl) Ge (fun _=>rfl)
def uG:SQ:=mk Tryz.func199 mG tY HM [qO,AFm,AFn] [] []
def AG2:SQ:=mk Tryz.func268 ⟨[(0,gO),(1,.row Y6),(2,Bb),(3,Bb)],[]⟩ vd MQ [s8,Vk,mI,nq,uG,xU] [(6,[0,1,2,4])] []
def AG_:SQ:=mk Tryz.func196 lU vZ JJ [rk,s44,rX,AG2] [(6,[0,1,2,3,4,6,7,8,9])] [⟨1,qq,B9⟩]
abbrev i208:Bg:=⟨[(0,.row Y7),(1,Bb)],[]⟩
abbrev xP:Bg:=qv
def xR:SQ:=mk Tryz.func208 i208 xP GK [rk] [] [⟨5,⟨[(2,OL),(4,hD),(6,Bb),(33,jI),(34,Bb),(35,Bb)],[sP,wt]⟩,HD⟩]
def xe:SQ:=mk Tryz.func276 yg w9 DX [nU,kz] [] []
abbrev pE:Bg:=⟨[(0,gO),(1,.row Y7),(2,Bb),(3,Bb)],[]⟩
abbrev we:Bg:=vq
def AAv:SQ:=mk Tryz.func269 pE we KG [Vk,nU,kz,uG,xe] [(4,[0,1,2,3,4,6])] []
abbrev kZ:Bg:=lU
abbrev wL:Bg:=vZ
def vF:Ma:=⟨kZ,wL,(kZ.un Ha)⟩
def AAc:Td:=⟨T,Rx (SP.l [xR,rX,AAv]),DS [(4,[0,1,2,3,4,5,6,7,8,9]),(6,[0,1,2,3,4,5,7,8,9,10])]⟩
def qV:List (Lp wL):=[⟨1,qq,A5⟩]
abbrev Xs:Bg:=qq
theorem xn(uv:ABj→Int→Option F_)(ey:ACS→Int→Option Iu)(uK:AA8→ABj→Int→Int→Option PQ)(n:Nat)(v:Xs.V)(ω:List Bool):Tt ⟨T,Rx [(208,⟨i208,xP,i208.un uv⟩),(212,⟨i212,pr,i212.un ey⟩),(269,⟨pE,we,pE.un uK⟩)],DS [(4,[0,1,2,3,4,5,6,7,8,9]),(6,[0,1,2,3,4,5,7,8,9,10])]⟩ vF Tryz.f197 (PI 9 qV n) 1 ω (Xs.st 81 v)=Xs.un (fun(t1:Int) (t2:Int) (t6:Int) (AJ:Int) (AS:Int) (AK:Bool) (b1:AAG) (b2:AAN) (b3:AAG) (b4:AAS) (b5:AAX) (b6:AAw) (b7:AA2) (b8:AAJ)=>
 if(0:Int)≤t1∧t1<(b6.length:Int)then(
 cond (decide (t6≤(((b6.getD (t1.toNat) (0,0,[],[],false,[],())).2.2.2.2.2.1).length:Int)))
  (if(0:Int)≤t1∧t1<(b6.length:Int)then(
  (uv ((b6.getD (t1.toNat) (0,0,[],[],false,[],())).1,(b6.getD (t1.toNat) (0,0,[],[],false,[],())).2.1,(b6.getD (t1.toNat) (0,0,[],[],false,[],())).2.2.1,(b6.getD (t1.toNat) (0,0,[],[],false,[],())).2.2.2.1,(b6.getD (t1.toNat) (0,0,[],[],false,[],())).2.2.2.2.1,(b6.getD (t1.toNat) (0,0,[],[],false,[],())).2.2.2.2.2.1,()) t6).bind fun u2=>
  if(0:Int)≤t2∧t2<(b2.length:Int)then(
  (ey ((b2.getD (t2.toNat) ([],[],0,())).1,(b2.getD (t2.toNat) ([],[],0,())).2.1,(b2.getD (t2.toNat) ([],[],0,())).2.2.1,()) u2.1.1.1.1).bind fun u3=>
  cond (u2.1.1.2.1)
   (cond (u3.1.1.2.1)
    (cond (((u3.1.1.1.1==u2.1.1.1.1)&&((u3.1.1.1.2.1==u2.1.1.1.2.1)&&((u3.1.1.1.2.2.1==u2.1.1.1.2.2.1)&&((u3.1.1.1.2.2.2.1==u2.1.1.1.2.2.2.1)&&true)))))
     (if(0:Int)≤t1∧t1<(b6.length:Int)then(
     (uK (b1,AJ,()) ((b6.getD (t1.toNat) (0,0,[],[],false,[],())).1,(b6.getD (t1.toNat) (0,0,[],[],false,[],())).2.1,(b6.getD (t1.toNat) (0,0,[],[],false,[],())).2.2.1,(b6.getD (t1.toNat) (0,0,[],[],false,[],())).2.2.2.1,(b6.getD (t1.toNat) (0,0,[],[],false,[],())).2.2.2.2.1,(b6.getD (t1.toNat) (0,0,[],[],false,[],())).2.2.2.2.2.1,()) t6 t2).bind fun u5=>
     if(0:Int)≤t1∧t1<(b6.length:Int)then(
     (A5 n) t1 t2 (A6 (t6+1)) AJ AS AK b1 b2 b3 b4 b5 (b6.set (t1.toNat) (u5.1.1.1.1,u5.1.1.1.2.1,u5.2.1,u5.2.2.1,u5.1.1.1.2.2.2.2.1,u5.2.2.2.1,())) b7 b8)else none)else none)
    ((A5 n) t1 t2 (A6 (t6+1)) AJ AS AK b1 b2 b3 b4 b5 b6 b7 b8))
   ((A5 n) t1 t2 (A6 (t6+1)) AJ AS AK b1 b2 b3 b4 b5 b6 b7 b8))
  ((A5 n) t1 t2 (A6 (t6+1)) AJ AS AK b1 b2 b3 b4 b5 b6 b7 b8))else none)else none)
 (some (((()),()),(((),AJ,(),(),(),AS,(),(),(),(),AK,()),b1,b2,b3,b4,b5,b6,b7,b8,()))))else none) v:=by rcases ω with _|⟨_|_,_⟩<;>kernel_rfl
theorem yQ(n:Nat)(v:Xs.V)(ω:List Bool):Tt AAc vF Tryz.f197 (PI 9 qV n) 1 ω (Xs.st 81 v)=Xs.un (Ej (A5 n)) v:=xn GK EV KG n v ω
theorem AEI(uv:ABj→Int→Option F_)(ey:ACS→Int→Option Iu)(uK:AA8→ABj→Int→Int→Option PQ)(n:Nat)(ω:List Bool)(v:kZ.V):Dl ⟨T,Rx [(208,⟨i208,xP,i208.un uv⟩),(212,⟨i212,pr,i212.un ey⟩),(269,⟨pE,we,pE.un uK⟩)],DS [(4,[0,1,2,3,4,5,6,7,8,9]),(6,[0,1,2,3,4,5,7,8,9,10])]⟩ vF Tryz.f197 (PI 9 qV n) ω v=kZ.un (fun(p1:Int) (p2:Int) (AJ:Int) (AS:Int) (AK:Bool) (b1:AAG) (b2:AAN) (b3:AAG) (b4:AAS) (b5:AAX) (b6:AAw) (b7:AA2) (b8:AAJ)=>
 (A5 n) p1 p2 1 AJ AS AK b1 b2 b3 b4 b5 b6 b7 b8) v:=by kernel_rfl
theorem AEr(n:Nat)(ω:List Bool)(v:kZ.V):Dl AAc vF Tryz.f197 (PI 9 qV n) ω v=kZ.un (Gm (A5 n)) v:=AEI GK EV KG n ω v
def AEt:SQ:=mk Tryz.func197 kZ wL Ha [xR,rX,AAv] [(4,[0,1,2,3,4,5,6,7,8,9]),(6,[0,1,2,3,4,5,7,8,9,10])] qV (hJ:= .cons (fun _=>rfl) yQ (.nil)) (he:=AEr Aq)
def AGc:SQ:=mk Tryz.func115 dh aE Ks [j4,rC,oe,AAq,AG_,AEt] [(7,[0,1,3,4,5,6,7,8,11]),(11,[0,1,2,3,4,5,6,7,8,9,10]),(17,[0,1,2,3,4,5,6,7,8,9])] [⟨9,⟨[(0,OL),(1,Bb),(6,.c (.ptr 9 0)),(41,.c (.ref 5)),(42,Bb),(43,Bb)],[gD,E6,XU,E6,P3,Ph,Yz,cf,OD,.mem [.any,.any,.v tI]]⟩,DY⟩,⟨15,⟨[(0,OL),(1,Bb),(72,.c (.ref 6)),(73,Bb),(74,Bb)],cj⟩,Dv⟩]
def AGK:SQ:=mk Tryz.func116 lU aE KQ [iJ,oe,zZ] [(5,[0,1,3,4,5,6,7,8,11])] []
def ABb:SQ:=mk Tryz.func217 ⟨[(0,Bb),(1,.c (.ZE (.cons tI .unit)))],[]⟩ GD Ib [] [] []
def yN:SQ:=mk Tryz.func286 ⟨[(0,TO),(1,sU)],[]⟩ Lw Cr [ABb] [] [⟨2,⟨[(0,TO),(1,sU),(7,Bb),(8,Bb)],[]⟩,BQ⟩]
def wm:SQ:=mk Tryz.func216 ⟨[(0,cL),(1,sU)],mW⟩ ABf Br [ABb,yN] [] [⟨5,⟨[(0,cL),(1,sU),(5,Bb),(6,Bb)],mW⟩,BL⟩]
abbrev i130:Bg:=mG
abbrev ADA:Bg:=tY
def pT:SQ:=mk Tryz.func130 i130 ADA EM [qO,wm] [] []
def AEM:SQ:=mk Tryz.func200 ⟨[(0,gO),(1,.row Y6),(2,Bb)],[]⟩ vd JS [mI,pT,nq] [(8,[0,1,2,4])] [⟨5,⟨[(2,Bb),(6,OL),(8,qj),(19,tQ),(20,Bb),(21,Bb)],[.mem [.v tI,.ref 1],.sl 9 Y5,.mem [.v tI,.ref 3],.sl 2 Y5]⟩,FE⟩]
def AFx:SQ:=mk Tryz.func201 ⟨[(0,gO),(1,.row Y7),(2,Bb)],[]⟩ vq K4 [nU,pT,kz] [(7,[0,1,2,3,4,5,6])] [⟨5,⟨[(2,Bb),(6,OL),(8,.c (.ptr 4 0)),(19,uj),(20,Bb),(21,Bb)],[ABQ,I2,RZ,jx,AC9,I2,RZ,.sl 2 (.sl tI)]⟩,GS⟩]
def AFp:SQ:=mk Tryz.func117 dh ⟨ZU,[xm,E6,XU,KH,P3,Ph,Yz,cf,OD,E6]⟩ Kz [s8,oe,uG,AEM,AFx] [(9,[0,1,2,3,4,6,7,8,9,10]),(14,[0,1,2,3,4,5,7,8,9,10]),(16,[1,2,3,4,5,6,7,8,9])] [⟨7,⟨[(0,OL),(1,Bb),(35,.c (.ref 5)),(36,Bb),(37,Bb)],z6⟩,Ep⟩,⟨12,⟨[(0,OL),(1,Bb),(62,.c (.ref 6)),(63,Bb),(64,Bb)],z6⟩,Ec⟩] (hJ:= .cons (fun _=>rfl) (fun n v ω=>by kernel_rfl) (.cons (fun _=>rfl) (fun n v ω=>by rcases ω with _|⟨_|_,_⟩<;>kernel_rfl) (.nil)))
def AGs:SQ:=mk Tryz.func274 kc GD Qf [s8,sG] [] []
def AEp:SQ:=mk Tryz.func275 ⟨[(0,xP9)],[]⟩ ⟨nf,mf⟩ Vv [fP,yX] [] [⟨3,⟨[(3,cL),(9,xP9),(10,Bb),(11,Bb)],mf⟩,I4⟩,⟨8,⟨[(3,cL),(9,xP9),(10,Bb),(11,Bb),(19,jI),(20,Bb),(21,Bb)],mf⟩,JA⟩]
abbrev wb:Bg:=⟨[(0,gO),(1,cL),(2,TO),(3,Bb),(4,Bb)],[XU]⟩
abbrev zz:Bg:=⟨[(0,.KK [.inr [.ref 1,.ref 2,.v tI],.inl (.v .bool)])],[WA,.sl 1 Y1,RZ]⟩
def ACx:SQ:=mk Tryz.func202 wb zz Rt [j4,fP,AGs,AEp] [] [⟨5,⟨[(2,TO),(4,Bb),(10,hD),(12,.c (.ref 4)),(36,cL),(37,Bb),(38,Bb)],[WA,.mem [.ref 2,.ref 3,.v tI],RZ,RZ,WA]⟩,MY⟩]
abbrev jf:Bg:=dh
abbrev xi:Bg:=⟨ZU,[xm,E6,WA,KH,P3,Ph,Yz,cf,OD,E6]⟩
def ADN:Ma:=⟨jf,xi,(jf.un Gn)⟩
def AGF:Td:=⟨T,Rx (SP.l [Vk,pT,nS,ACx]),DS [(3,[0,1,3,4,5,6,7,8]),(6,[0,1,3,4,5,6,7,8,9])]⟩
def ym:List (Lp xi):=[]
theorem AFB(lX:Int→Int→Int→Option I_)(AAb:List Int→Int→Option Py)(kb:ABH→Int→Option Hg)(zf:AA8→List Int→Int→Int→AAN→Option Ns)(n:Nat)(ω:List Bool)(v:jf.V):Dl ⟨T,Rx [(47,⟨oH,yz,oH.un lX⟩),(130,⟨i130,ADA,i130.un AAb⟩),(178,⟨j_,tX,j_.un kb⟩),(202,⟨wb,zz,wb.un zf⟩)],DS [(3,[0,1,3,4,5,6,7,8]),(6,[0,1,3,4,5,6,7,8,9])]⟩ ADN Tryz.f118 (PI 9 ym n) ω v=jf.un (fun(p1:Int) (AJ:Int) (AS:Int) (AK:Bool) (b1:AAG) (b2:AAN) (b3:AAG) (b4:AAS) (b5:AAX) (b6:AAw) (b7:AA2) (b8:AAJ)=>
 (lX p1 0 (A6 ((b2.length:Int)-1))).bind fun u2=>
 cond (!u2.1.1)
  (some ((2,()),(((),AJ,(),(),(),AS,(),(),(),(),AK,()),b1,b2,(),b4,b5,b6,b7,b8,b3,())))
 ((kb (b1,AJ,b2,b3,b4,AS,b5,b6,b7,b8,AK,()) p1).bind fun u3=>
 cond (!u3.1.1)
  (some ((2,()),(((),AJ,(),(),(),AS,(),(),(),(),AK,()),b1,b2,(),b4,b5,b6,b7,b8,b3,())))
 (let x4:Int:=A6 ((b4.length:Int)-1)
 (zf (b1,AJ,()) b3 p1 (if 0>x4 then 0 else x4) b2).bind fun u6=>
 cond (!u6.1.1.2.1)
  (some ((4,()),(((),AJ,(),(),(),AS,(),(),(),(),AK,()),b1,u6.2.1,(),b4,b5,b6,b7,b8,b3,())))
 (if(0:Int)≤p1∧p1<(u6.2.1.length:Int)then(
 (AAb b3 p1).bind fun u8=>
 some ((0,()),(((),AJ,(),(),(),AS,(),(),(),(),AK,()),b1,(u6.2.1.set (p1.toNat) (u6.2.2.1,u6.2.2.2.1,u6.1.1.1.2.2.1,())),(),b4,b5,b6,b7,b8,u8.2.1,())))else none)))) v:=by rcases ω with _|⟨_|_,_⟩<;>kernel_rfl
theorem AGu(n:Nat)(ω:List Bool)(v:jf.V):Dl AGF ADN Tryz.f118 (PI 9 ym n) ω v=jf.un (Gn) v:=AFB Aj EM CA Rt n ω v
def AEj:SQ:=mk Tryz.func118 jf xi Gn [Vk,pT,nS,ACx] [(3,[0,1,3,4,5,6,7,8]),(6,[0,1,3,4,5,6,7,8,9])] ym (hJ:= .nil) (he:=AGu Aq)
def AFP:SQ:=mk Tryz.func203 pD w9 WB [] [] []
def AE5:SQ:=mk Tryz.func119 qM ⟨ZU,[.mem [.ref 1,.v tI,.ref 2,.ref 3,.ref 4,.v tI,.ref 5,.ref 9,.ref 7,.ref 8,.v .bool],E6,XU,E6,P3,Ph,KH,cf,OD,Yz]⟩ Kw [yB,AFP] [(1,[0,1,2,3,4,5,6,7,8])] []
abbrev o6:Bg:=gk
abbrev yJ:Bg:=lJ
def AAs:SQ:=mk Tryz.func204 o6 yJ Ji [Vk,AAq,ta] [] []
abbrev i206:Bg:=gk
abbrev yK:Bg:=AB0
def ABC:SQ:=mk Tryz.func206 i206 yK Ke [fP,dB] [] [⟨5,⟨[(1,Bb),(5,cL),(14,jI),(15,Bb),(16,Bb)],[RZ]⟩,H_⟩]
abbrev ou:Bg:=⟨[(0,gO),(1,.row Y7),(2,Bb),(3,jI)],[]⟩
abbrev xu:Bg:=⟨yS,[E6,.sl 1 Y1,jx]⟩
def AAK:SQ:=mk Tryz.func205 ou xu Kr [nU,dB,kz,uG,yX,xe] [(8,[0,1,2,3,4,5,6,7,8,9,10])] [⟨6,⟨[(4,OL),(5,hD),(8,qj),(10,.c (.ptr 6 0)),(31,jI),(32,Bb),(33,Bb)],[js,sP,.mem [.v tI,.v tI,.ref 3,.ref 4,.v .bool,.ref 5],I2,RZ,jx,.mem [.v tI,.v tI,.ref 7,.ref 8,.v .bool,.ref 9],E6,.sl 1 Y1,jx]⟩,IE⟩]
abbrev gS:Bg:=dh
abbrev wq:Bg:=⟨ZU,[gD,E6,XU,E6,P3,Ph,Zz,cf,OD]⟩
def xd:Ma:=⟨gS,wq,(gS.un Gy)⟩
def AFt:Td:=⟨T,Rx (SP.l [ph,AAs,AAK,ABC]),DS [(7,[0,1,2,3,4,5,6,7,8,9]),(8,[0,1,2,3,4,5,6,7,8,9,10,11,12]),(11,[0,1,3,4,5,7,8,9,13])]⟩
def vL:List (Lp wq):=[]
def Co(ω:List Bool):Prop:= ∀(fC:ABH→Int→Int→Option FR) (mT:ACS→Int→Option NC) (nW:AA8→ABj→Int→AA5→Option Gr) (mh:ACS→Int→Option Gu) (n:Nat) (v:gS.V),Dl ⟨T,Rx [(192,⟨j6,vK,j6.un fC⟩),(204,⟨o6,yJ,o6.un mT⟩),(205,⟨ou,xu,ou.un nW⟩),(206,⟨i206,yK,i206.un mh⟩)],DS [(7,[0,1,2,3,4,5,6,7,8,9]),(8,[0,1,2,3,4,5,6,7,8,9,10,11,12]),(11,[0,1,3,4,5,7,8,9,13])]⟩ xd Tryz.f120 (PI 9 vL n) ω v=gS.un (fun(p1:Int) (AJ:Int) (AS:Int) (AK:Bool) (b1:AAG) (b2:AAN) (b3:AAG) (b4:AAS) (b5:AAX) (b6:AAw) (b7:AA2) (b8:AAJ)=>
 cond (((b6.length:Int)==0))
  (some ((2,()),(((),AJ,(),(),(),AS,(),(),(),(),AK,()),b1,b2,b3,b4,b5,b6,b7,b8,())))
 (if(0:Int)≤(0:Int)∧(0:Int)<(b6.length:Int)then(
 (fC (b1,AJ,b2,b3,b4,AS,b5,b6,b7,b8,AK,()) p1 ((b6.getD 0 (0,0,[],[],false,[],())).2.1)).bind fun u3=>
 cond (u3.1.1 !=0)
  (some ((u3.1.1,()),(((),AJ,(),(),(),AS,(),(),(),(),AK,()),b1,b2,b3,b4,b5,b6,b7,b8,())))
 (if(0:Int)≤p1∧p1<(b2.length:Int)then(
 (mT ((b2.getD (p1.toNat) ([],[],0,())).1,(b2.getD (p1.toNat) ([],[],0,())).2.1,(b2.getD (p1.toNat) ([],[],0,())).2.2.1,()) (A6 (((b6.getD 0 (0,0,[],[],false,[],())).1)-1))).bind fun u5=>
 (mh (u5.2.1,u5.2.2.1,u5.1.1.1.2.2.1,()) ((b6.getD 0 (0,0,[],[],false,[],())).2.1)).bind fun u7=>
 (nW (b1,AJ,()) ((b6.getD 0 (0,0,[],[],false,[],())).1,(b6.getD 0 (0,0,[],[],false,[],())).2.1,(b6.getD 0 (0,0,[],[],false,[],())).2.2.1,(b6.getD 0 (0,0,[],[],false,[],())).2.2.2.1,(b6.getD 0 (0,0,[],[],false,[],())).2.2.2.2.1,(b6.getD 0 (0,0,[],[],false,[],())).2.2.2.2.2.1,()) p1 u7.2.1).bind fun u8=>
 cond (!u5.1.1.2.1)
  (some ((4,()),(((),AJ,(),(),(),AS,(),(),(),(),AK,()),b1,b2,b3,b4,b5,b6,b7,b8,())))
 (cond (!u8.1.1.2.1)
  (some ((4,()),(((),AJ,(),(),(),AS,(),(),(),(),AK,()),b1,b2,b3,b4,b5,b6,b7,b8,())))
 (if(0:Int)≤p1∧p1<(b2.length:Int)then(
 if(0:Int)≤(0:Int)∧(0:Int)<(b6.length:Int)then(
 some ((0,()),(((),AJ,(),(),(),AS,(),(),(),(),AK,()),b1,(b2.set (p1.toNat) (u5.2.1,u5.2.2.1,u5.1.1.1.2.2.1,())),b3,b4,b5,(b6.set 0 (u8.1.1.1.1,u8.1.1.1.2.1,u8.2.1,u8.2.2.1,u8.1.1.1.2.2.2.2.1,u8.2.2.2.1,())),b7,b8,())))else none)else none)))else none))else none)) v
theorem xt:Co []:=by delta Co;intros;kernel_rfl
theorem xz:Co (false::[]):=by delta Co;intros;kernel_rfl
theorem wP(ω:List Bool):Co (false::false::ω):=by delta Co;intros;kernel_rfl
theorem wV:Co (false::true::[]):=by delta Co;intros;kernel_rfl
theorem yW:Co (false::true::false::[]):=by delta Co;intros;kernel_rfl
theorem xg(ω:List Bool):Co (false::true::false::false::ω):=by delta Co;intros;kernel_rfl
theorem yE:Co (false::true::false::true::[]):=by delta Co;intros;kernel_rfl
theorem xr(ω:List Bool):Co (false::true::false::true::false::ω):=by delta Co;intros;kernel_rfl
theorem xc(ω:List Bool):Co (false::true::false::true::true::ω):=by delta Co;intros;kernel_rfl
theorem ui:Co (false::true::true::[]):=by delta Co;intros;kernel_rfl
theorem tH(ω:List Bool):Co (false::true::true::false::ω):=by delta Co;intros;kernel_rfl
theorem uM:Co (false::true::true::true::[]):=by delta Co;intros;kernel_rfl
theorem uU(ω:List Bool):Co (false::true::true::true::false::ω):=by delta Co;intros;kernel_rfl
theorem sw(ω:List Bool):Co (false::true::true::true::true::ω):=by delta Co;intros;kernel_rfl
theorem td:Co (true::[]):=by delta Co;intros;kernel_rfl
theorem tP(ω:List Bool):Co (true::false::ω):=by delta Co;intros;kernel_rfl
theorem uq:Co (true::true::[]):=by delta Co;intros;kernel_rfl
theorem tw:Co (true::true::false::[]):=by delta Co;intros;kernel_rfl
theorem tK(ω:List Bool):Co (true::true::false::false::ω):=by delta Co;intros;kernel_rfl
theorem sr:Co (true::true::false::true::[]):=by delta Co;intros;kernel_rfl
theorem uC(ω:List Bool):Co (true::true::false::true::false::ω):=by delta Co;intros;kernel_rfl
theorem sO(ω:List Bool):Co (true::true::false::true::true::ω):=by delta Co;intros;kernel_rfl
theorem r8:Co (true::true::true::[]):=by delta Co;intros;kernel_rfl
theorem r9(ω:List Bool):Co (true::true::true::false::ω):=by delta Co;intros;kernel_rfl
theorem tE:Co (true::true::true::true::[]):=by delta Co;intros;kernel_rfl
theorem tV(ω:List Bool):Co (true::true::true::true::false::ω):=by delta Co;intros;kernel_rfl
theorem uJ(ω:List Bool):Co (true::true::true::true::true::ω):=by delta Co;intros;kernel_rfl
theorem AF8(fC:ABH→Int→Int→Option FR)(mT:ACS→Int→Option NC)(nW:AA8→ABj→Int→AA5→Option Gr)(mh:ACS→Int→Option Gu)(n:Nat)(ω:List Bool)(v:gS.V):Dl ⟨T,Rx [(192,⟨j6,vK,j6.un fC⟩),(204,⟨o6,yJ,o6.un mT⟩),(205,⟨ou,xu,ou.un nW⟩),(206,⟨i206,yK,i206.un mh⟩)],DS [(7,[0,1,2,3,4,5,6,7,8,9]),(8,[0,1,2,3,4,5,6,7,8,9,10,11,12]),(11,[0,1,3,4,5,7,8,9,13])]⟩ xd Tryz.f120 (PI 9 vL n) ω v=gS.un (fun(p1:Int) (AJ:Int) (AS:Int) (AK:Bool) (b1:AAG) (b2:AAN) (b3:AAG) (b4:AAS) (b5:AAX) (b6:AAw) (b7:AA2) (b8:AAJ)=>
 cond (((b6.length:Int)==0))
  (some ((2,()),(((),AJ,(),(),(),AS,(),(),(),(),AK,()),b1,b2,b3,b4,b5,b6,b7,b8,())))
 (if(0:Int)≤(0:Int)∧(0:Int)<(b6.length:Int)then(
 (fC (b1,AJ,b2,b3,b4,AS,b5,b6,b7,b8,AK,()) p1 ((b6.getD 0 (0,0,[],[],false,[],())).2.1)).bind fun u3=>
 cond (u3.1.1 !=0)
  (some ((u3.1.1,()),(((),AJ,(),(),(),AS,(),(),(),(),AK,()),b1,b2,b3,b4,b5,b6,b7,b8,())))
 (if(0:Int)≤p1∧p1<(b2.length:Int)then(
 (mT ((b2.getD (p1.toNat) ([],[],0,())).1,(b2.getD (p1.toNat) ([],[],0,())).2.1,(b2.getD (p1.toNat) ([],[],0,())).2.2.1,()) (A6 (((b6.getD 0 (0,0,[],[],false,[],())).1)-1))).bind fun u5=>
 (mh (u5.2.1,u5.2.2.1,u5.1.1.1.2.2.1,()) ((b6.getD 0 (0,0,[],[],false,[],())).2.1)).bind fun u7=>
 (nW (b1,AJ,()) ((b6.getD 0 (0,0,[],[],false,[],())).1,(b6.getD 0 (0,0,[],[],false,[],())).2.1,(b6.getD 0 (0,0,[],[],false,[],())).2.2.1,(b6.getD 0 (0,0,[],[],false,[],())).2.2.2.1,(b6.getD 0 (0,0,[],[],false,[],())).2.2.2.2.1,(b6.getD 0 (0,0,[],[],false,[],())).2.2.2.2.2.1,()) p1 u7.2.1).bind fun u8=>
 cond (!u5.1.1.2.1)
  (some ((4,()),(((),AJ,(),(),(),AS,(),(),(),(),AK,()),b1,b2,b3,b4,b5,b6,b7,b8,())))
 (cond (!u8.1.1.2.1)
  (some ((4,()),(((),AJ,(),(),(),AS,(),(),(),(),AK,()),b1,b2,b3,b4,b5,b6,b7,b8,())))
 (if(0:Int)≤p1∧p1<(b2.length:Int)then(
 if(0:Int)≤(0:Int)∧(0:Int)<(b6.length:Int)then(
 some ((0,()),(((),AJ,(),(),(),AS,(),(),(),(),AK,()),b1,(b2.set (p1.toNat) (u5.2.1,u5.2.2.1,u5.1.1.1.2.2.1,())),b3,b4,b5,(b6.set 0 (u8.1.1.1.1,u8.1.1.1.2.1,u8.2.1,u8.2.2.1,u8.1.1.1.2.2.2.2.1,u8.2.2.2.1,())),b7,b8,())))else none)else none)))else none))else none)) v:=(BK xt (BK xz wP (BK wV (BK yW xg (BK yE xr xc)) (BK ui tH (BK uM uU sw)))) (BK td tP (BK uq (BK tw tK (BK sr uC sO)) (BK r8 r9 (BK tE tV uJ))))) ω fC mT nW mh n v
theorem AGt(n:Nat)(ω:List Bool)(v:gS.V):Dl AFt xd Tryz.f120 (PI 9 vL n) ω v=gS.un (Gy) v:=AF8 Cg Ji Kr Ke n ω v
def AFg:SQ:=mk Tryz.func120 gS wq Gy [ph,AAs,AAK,ABC] [(7,[0,1,2,3,4,5,6,7,8,9]),(8,[0,1,2,3,4,5,6,7,8,9,10,11,12]),(11,[0,1,3,4,5,7,8,9,13])] vL (hJ:= .nil) (he:=AGt Aq)
def AGj:SQ:=mk Tryz.func338 ve pI Uf [sG,j4] [] [⟨5,⟨[(2,TO),(7,cL),(22,TO),(23,Bb),(24,Bb)],[I2]⟩,MA⟩]
def ABT:SQ:=mk Tryz.func277 ve GD Eg [s8,sG,tf,AGj] [(3,[0,1])] []
abbrev yY:Bg:=⟨[(0,gO),(1,.row Y7),(2,TO)],[]⟩
abbrev AAm:Bg:=⟨yS,ACJ⟩
def AAd:SQ:=mk Tryz.func207 yY AAm Kl [nU,kz,tf,ACj,xe,ABT] [(1,[0,1,2])] []
abbrev jy:Bg:=qM
abbrev wQ:Bg:=aE
def AAj:Ma:=⟨jy,wQ,(jy.un Gw)⟩
def AFa:Td:=⟨T,Rx (SP.l [iJ,rC,AAd]),DS [(3,[0,1,2,3,4,5,6,7,8]),(4,[0,1,2,3,4,5,7,8,9])]⟩
def xM:List (Lp wQ):=[]
theorem AFd(mz:Bool→Option UR)(ACz:ACX→Int→Option TJ)(ABu:AA8→ABj→List Int→Option S7)(n:Nat)(ω:List Bool)(v:jy.V):Dl ⟨T,Rx [(125,⟨o5,wK,o5.un mz⟩),(129,⟨xZ,ABy,xZ.un ACz⟩),(207,⟨yY,AAm,yY.un ABu⟩)],DS [(3,[0,1,2,3,4,5,6,7,8]),(4,[0,1,2,3,4,5,7,8,9])]⟩ AAj Tryz.f121 (PI 9 xM n) ω v=jy.un (fun(AJ:Int) (AS:Int) (AK:Bool) (b1:AAG) (b2:AAN) (b3:AAG) (b4:AAS) (b5:AAX) (b6:AAw) (b7:AA2) (b8:AAJ)=>
 cond (((b6.length:Int)==0))
  (some ((2,()),(((),AJ,(),(),(),AS,(),(),(),(),AK,()),b1,b2,b3,b4,b5,b6,b7,b8,())))
 (if(0:Int)≤(0:Int)∧(0:Int)<(b6.length:Int)then(
 if(0:Int)≤(0:Int)∧(0:Int)<(b6.length:Int)then(
 (ACz (b4,AS,()) ((b6.getD 0 (0,0,[],[],false,[],())).2.1)).bind fun u3=>
 (ABu (b1,AJ,()) ((b6.getD 0 (0,0,[],[],false,[],())).1,(b6.getD 0 (0,0,[],[],false,[],())).2.1,(b6.getD 0 (0,0,[],[],false,[],())).2.2.1,(b6.getD 0 (0,0,[],[],false,[],())).2.2.2.1,(b6.getD 0 (0,0,[],[],false,[],())).2.2.2.2.1,(b6.getD 0 (0,0,[],[],false,[],())).2.2.2.2.2.1,()) u3.2.1).bind fun u4=>
 if(0:Int)≤(0:Int)∧(0:Int)<(b6.length:Int)then(
 (mz u4.1.1.2.1).bind fun u6=>
 some ((u6.1.1,()),(((),AJ,(),(),(),AS,(),(),(),(),AK,()),b1,b2,b3,b4,b5,(b6.set 0 (u4.1.1.1.1,u4.1.1.1.2.1,u4.2.1,u4.2.2.1,u4.1.1.1.2.2.2.2.1,u4.2.2.2.1,())),b7,b8,())))else none)else none)else none)) v:=by rcases ω with _|⟨_|_,_|⟨_|_,_⟩⟩<;>kernel_rfl
theorem AD8(n:Nat)(ω:List Bool)(v:jy.V):Dl AFa AAj Tryz.f121 (PI 9 xM n) ω v=jy.un (Gw) v:=AFd Gt Ex Kl n ω v
def AED:SQ:=mk Tryz.func121 jy wQ Gw [iJ,rC,AAd] [(3,[0,1,2,3,4,5,6,7,8]),(4,[0,1,2,3,4,5,7,8,9])] xM (hJ:= .nil) (he:=AD8 Aq)
def AFz:SQ:=mk Tryz.func122 lU aE L6 [ph,yq,xR] [] []
abbrev xf:Bg:=yg
abbrev ADL:Bg:=GD
def zd:SQ:=mk Tryz.func209 xf ADL J4 [s8,kz] [] [⟨4,⟨[(2,OL),(17,uj),(18,Bb),(19,Bb)],wu⟩,G7⟩]
abbrev i210:Bg:=⟨[(0,gO),(1,.row Y4),(2,Bb),(3,Bb)],[]⟩
abbrev AAp:Bg:=wH
def ACk:SQ:=mk Tryz.func210 i210 AAp Ki [Vk,xj,mS,yB,sC] [(5,[0,1,2,4])] []
abbrev jw:Bg:=qM
abbrev xT:Bg:=⟨ZU,[.mem [.ref 1,.v tI,.ref 2,.ref 3,.ref 9,.v tI,.ref 5,.ref 10,.ref 7,.ref 8,.v .bool],E6,XU,E6,KH,Ph,KH,cf,OD,P3,Yz]⟩
def zV:Ma:=⟨jw,xT,(jw.un GC)⟩
def AD3:Td:=⟨T,Rx (SP.l [iJ,zd,ACk]),DS [(3,[0,1,2,3,4,5,6,7,8]),(5,[0,1,2,3,4,5,6,7,8])]⟩
def wR:List (Lp xT):=[]
theorem AEg(mz:Bool→Option UR)(AC5:AA8→ABj→Option IH)(AAk:AA8→ACX→Int→Int→Option Sw)(n:Nat)(ω:List Bool)(v:jw.V):Dl ⟨T,Rx [(125,⟨o5,wK,o5.un mz⟩),(209,⟨xf,ADL,xf.un AC5⟩),(210,⟨i210,AAp,i210.un AAk⟩)],DS [(3,[0,1,2,3,4,5,6,7,8]),(5,[0,1,2,3,4,5,6,7,8])]⟩ zV Tryz.f123 (PI 9 wR n) ω v=jw.un (fun(AJ:Int) (AS:Int) (AK:Bool) (b1:AAG) (b2:AAN) (b3:AAG) (b4:AAS) (b5:AAX) (b6:AAw) (b7:AA2) (b8:AAJ)=>
 cond (((b6.length:Int)==0))
  (some ((2,()),(((),AJ,(),(),(),AS,(),(),(),(),AK,()),b1,b2,b3,(),b5,(),b7,b8,b4,b6,())))
 (if(0:Int)≤(0:Int)∧(0:Int)<(b6.length:Int)then(
 (AC5 (b1,AJ,()) ((b6.getD 0 (0,0,[],[],false,[],())).1,(b6.getD 0 (0,0,[],[],false,[],())).2.1,(b6.getD 0 (0,0,[],[],false,[],())).2.2.1,(b6.getD 0 (0,0,[],[],false,[],())).2.2.2.1,(b6.getD 0 (0,0,[],[],false,[],())).2.2.2.2.1,(b6.getD 0 (0,0,[],[],false,[],())).2.2.2.2.2.1,())).bind fun u2=>
 cond (!u2.1.1)
  (some ((5,()),(((),AJ,(),(),(),AS,(),(),(),(),AK,()),b1,b2,b3,(),b5,(),b7,b8,b4,b6,())))
 (if(0:Int)≤(0:Int)∧(0:Int)<(b6.length:Int)then(
 if(0:Int)≤(0:Int)∧(0:Int)<(b6.length:Int)then(
 (AAk (b1,AJ,()) (b4,AS,()) ((b6.getD 0 (0,0,[],[],false,[],())).1) (((b6.getD 0 (0,0,[],[],false,[],())).2.2.2.2.2.1).length:Int)).bind fun u5=>
 cond (u5.1.1.2.1)
  ((mz u5.1.1.2.1).bind fun u6=>
  some ((u6.1.1,()),(((),AJ,(),(),(),u5.1.1.1.2.1,(),(),(),(),AK,()),b1,b2,b3,(),b5,(),b7,b8,u5.2.1,[],())))
 ((mz u5.1.1.2.1).bind fun u7=>
 some ((u7.1.1,()),(((),AJ,(),(),(),AS,(),(),(),(),AK,()),b1,b2,b3,(),b5,(),b7,b8,b4,b6,()))))else none)else none))else none)) v:=by rcases ω with _|⟨_|_,_⟩<;>kernel_rfl
theorem AFb(n:Nat)(ω:List Bool)(v:jw.V):Dl AD3 zV Tryz.f123 (PI 9 wR n) ω v=jw.un (GC) v:=AEg Gt J4 Ki n ω v
def AEm:SQ:=mk Tryz.func123 jw xT GC [iJ,zd,ACk] [(3,[0,1,2,3,4,5,6,7,8]),(5,[0,1,2,3,4,5,6,7,8])] wR (hJ:= .nil) (he:=AFb Aq)
def AFf:SQ:=mk Tryz.func124 ⟨[(0,gO),(1,.row Y4),(2,Bb)],[]⟩ wH O3 [Vk,xj,mS,dB,sC] [(1,[0,1,2])] []
def AEA:SQ:=mk Tryz.func283 ⟨[(0,.row Y6)],[]⟩ Lw Ku [] [] [⟨2,⟨[(1,OL),(6,tQ),(7,Bb),(8,Bb)],[.mem [.v tI,.sl false Y5]]⟩,GN⟩]
abbrev pV:Bg:=iQ
abbrev xI:Bg:=Lw
def ADK:SQ:=mk Tryz.func214 pV xI LW [AEA] [] [⟨2,⟨[(1,Bb),(8,.c (.sl false Y6)),(9,Bb),(10,Bb)],[]⟩,Jg⟩]
def AGa:SQ:=mk Tryz.func279 ⟨[(0,m_)],[]⟩ pI KL [] [] [⟨3,⟨[(3,cL),(7,m_),(8,Bb),(9,Bb)],[I2]⟩,Ir⟩]
def AFv:SQ:=mk Tryz.func280 ⟨[(0,Bb),(1,.row Y9)],[]⟩ GD O5 [s20,dB] [(2,[0])] []
def AC8:SQ:=mk Tryz.func281 ⟨[(0,OL),(1,.row Y8)],AB1⟩ vR Ds [] [(1,[2])] [] (he:=fun ω v=>by rcases ω with _|⟨_|_,_⟩<;>kernel_rfl)
def AGO:SQ:=mk Tryz.func341 ⟨[(0,m_),(1,TO),(2,Bb)],[]⟩ qv QZ [j4,sg,AAV] [] [⟨3,⟨[(1,TO),(2,Bb),(6,OL),(8,hD),(9,.c (.v .bool)),(13,m_),(14,Bb),(15,Bb)],[wt,wt]⟩,Jm⟩]
def AEG:SQ:=mk Tryz.func282 ⟨[(0,OL),(1,m_),(2,TO)],AB1⟩ vR CB [rk,AC8,AGO] [(0,[0,1])] []
abbrev rF:Bg:=⟨[(0,gO),(1,.row Y4),(2,Bb),(3,.row Y9),(4,m_)],[]⟩
abbrev w6:Bg:=⟨[(0,.KK [.inr [.v tI,.v tI,.ref 0],.inl (.v tI)])],[.sl 1 Y8]⟩
def ABG:SQ:=mk Tryz.func213 rF w6 Gz [s20,sG,xj,ABr,dB,ACO,tf,ABT,AGa,AFv,AC8,AEG] [(1,[0,1,2,3]),(8,[0,1,2,3,4,8,9]),(11,[0,1,2,3,4,5,6,7])] []
abbrev ko:Bg:=⟨ADH,ACc⟩
abbrev xk:Bg:=⟨ZU,ACc⟩
def uk:Ma:=⟨ko,xk,(ko.un I1)⟩
def za:Td:=⟨T,Rx (SP.l [rk,Vk,nS,tD,rX,ABG,ADK]),DS [(13,[0,1,2,3,4,5,6,7,8,9,10,11]),(16,[0,1,2,3,4,5,6,8,9,10,11])]⟩
def qx:List (Lp xk):=[⟨7,⟨[(0,OL),(1,Bb),(7,.c (.ptr 9 0)),(8,Bb),(10,.c (.ref 10)),(43,.c (.ref 11)),(44,Bb),(45,Bb)],[gD,E6,XU,E6,P3,Ph,Yz,YE,OD,.mem [.v tI,.v tI,.sl true Y8],.sl 9 Y14,I2]⟩,CF⟩]
abbrev YN:Bg:=⟨[(0,OL),(1,Bb),(7,.c (.ptr 9 0)),(8,Bb),(10,.c (.ref 10)),(43,.c (.ref 11)),(44,Bb),(45,Bb)],[gD,E6,XU,E6,P3,Ph,Yz,YE,OD,.mem [.v tI,.v tI,.sl true Y8],.sl 9 Y14,I2]⟩
theorem wc(rp:Int→Int→Option Hv)(lX:Int→Int→Int→Option I_)(kb:ABH→Int→Option Hg)(kJ:Int→Option Er)(ey:ACS→Int→Option Iu)(sK:AA8→ACX→Int→ADP→ACq→Option HB)(vB:ABH→Int→Option I8)(n:Nat)(v:YN.V)(ω:List Bool):Tt ⟨T,Rx [(43,⟨tJ,zx,tJ.un rp⟩),(47,⟨oH,yz,oH.un lX⟩),(178,⟨j_,tX,j_.un kb⟩),(189,⟨je,tb,je.un kJ⟩),(212,⟨i212,pr,i212.un ey⟩),(213,⟨rF,w6,rF.un sK⟩),(214,⟨pV,xI,pV.un vB⟩)],DS [(13,[0,1,2,3,4,5,6,7,8,9,10,11]),(16,[0,1,2,3,4,5,6,8,9,10,11])]⟩ uk Tryz.f126 (PI 9 qx n) 7 ω (YN.st 111 v)=YN.un (fun(t1:Int) (t8:Int) (t44:Int) (t45:Int) (AJ:Int) (AS:Int) (AK:Bool) (b1:AAG) (b2:AAN) (b3:AAG) (b4:AAS) (b5:AAX) (b6:AAw) (b7:AA2) (b8:AAJ) (a_:Int) (ZQ:Int) (W9:ADQ) (Yr:ACq) (QA:AAG)=>
 cond (decide (t45<t44))
  (if(0:Int)≤t45∧t45<(QA.length:Int)then(
  let x8:Int:=(QA.getD (t45.toNat) 0)
  cond ((decide (x8<(b2.length:Int))))
   ((kb (b1,AJ,b2,b3,b4,AS,b5,b6,b7,b8,AK,()) x8).bind fun Io=>
   cond (!Io.1.1)
    (if(0:Int)≤x8∧x8<(b2.length:Int)then(
    (ey ((b2.getD (x8.toNat) ([],[],0,())).1,(b2.getD (x8.toNat) ([],[],0,())).2.1,(b2.getD (x8.toNat) ([],[],0,())).2.2.1,()) t8).bind fun Rk=>
    if Yr.length+1≤Go.M.IQ then(
    (CF n) t1 t8 t44 (A6 (t45+1)) AJ AS AK b1 b2 b3 b4 b5 b6 b7 b8 a_ ZQ W9 (Yr++[(x8,Rk.1.1.2.1,Rk.1.1.1.1,Rk.1.1.1.2.1,Rk.1.1.1.2.2.1,Rk.1.1.1.2.2.2.1,())]) QA)else none)else none)
   ((CF n) t1 t8 t44 (A6 (t45+1)) AJ AS AK b1 b2 b3 b4 b5 b6 b7 b8 a_ ZQ W9 Yr QA))
  ((CF n) t1 t8 t44 (A6 (t45+1)) AJ AS AK b1 b2 b3 b4 b5 b6 b7 b8 a_ ZQ W9 Yr QA))else none)
 ((vB (b1,AJ,b2,b3,b4,AS,b5,b6,b7,b8,AK,()) a_).bind fun Nc=>
 (sK (b1,AJ,()) (b4,AS,()) Nc.1.1 (a_,ZQ,W9,()) Yr).bind fun cK=>
 cond (cK.1.1.2.1 !=0)
  (some ((5,()),(((),AJ,(),(),(),AS,(),(),(),(),AK,()),b1,b2,b3,b4,b5,b6,b7,b8,())))
 (if(0:Int)≤t1∧t1<(b7.length:Int)then(
 some ((0,()),(((),AJ,(),(),(),AS,(),(),(),(),AK,()),b1,b2,b3,b4,b5,b6,(b7.set (t1.toNat) (cK.1.1.1.1,cK.1.1.1.2.1,cK.2.1,())),b8,())))else none))) v:=by rcases ω with _|⟨_|_,_|⟨_|_,_⟩⟩<;>kernel_rfl
theorem wS(n:Nat)(v:YN.V)(ω:List Bool):Tt za uk Tryz.f126 (PI 9 qx n) 7 ω (YN.st 111 v)=YN.un (JN (CF n)) v:=wc CV Aj CA FC EV Gz LW n v ω
theorem AGp(rp:Int→Int→Option Hv)(lX:Int→Int→Int→Option I_)(kb:ABH→Int→Option Hg)(kJ:Int→Option Er)(ey:ACS→Int→Option Iu)(sK:AA8→ACX→Int→ADP→ACq→Option HB)(vB:ABH→Int→Option I8)(n:Nat)(ω:List Bool)(v:ko.V):Dl ⟨T,Rx [(43,⟨tJ,zx,tJ.un rp⟩),(47,⟨oH,yz,oH.un lX⟩),(178,⟨j_,tX,j_.un kb⟩),(189,⟨je,tb,je.un kJ⟩),(212,⟨i212,pr,i212.un ey⟩),(213,⟨rF,w6,rF.un sK⟩),(214,⟨pV,xI,pV.un vB⟩)],DS [(13,[0,1,2,3,4,5,6,7,8,9,10,11]),(16,[0,1,2,3,4,5,6,8,9,10,11])]⟩ uk Tryz.f126 (PI 9 qx n) ω v=ko.un (fun(p1:Int) (p2:Int) (AJ:Int) (AS:Int) (AK:Bool) (b1:AAG) (b2:AAN) (b3:AAG) (b4:AAS) (b5:AAX) (b6:AAw) (b7:AA2) (b8:AAJ)=>
 (lX p1 0 (A6 ((b7.length:Int)-1))).bind fun u2=>
 cond (!u2.1.1)
  (some ((2,()),(((),AJ,(),(),(),AS,(),(),(),(),AK,()),b1,b2,b3,b4,b5,b6,b7,b8,())))
 (if(0:Int)≤p1∧p1<(b7.length:Int)then(
 (rp ((b7.getD (p1.toNat) (0,0,[],())).1) ((b7.getD (p1.toNat) (0,0,[],())).2.1)).bind fun u5=>
 (kJ p2).bind fun u6=>
 (CF n) p1 u5.1.1.1 (u6.2.1.length:Int) 0 AJ AS AK b1 b2 b3 b4 b5 b6 b7 b8 ((b7.getD (p1.toNat) (0,0,[],())).1) ((b7.getD (p1.toNat) (0,0,[],())).2.1) ((b7.getD (p1.toNat) (0,0,[],())).2.2.1) [] u6.2.1)else none)) v:=by kernel_rfl
theorem AEf(n:Nat)(ω:List Bool)(v:ko.V):Dl za uk Tryz.f126 (PI 9 qx n) ω v=ko.un (JD (CF n)) v:=AGp CV Aj CA FC EV Gz LW n ω v
def AEs:SQ:=mk Tryz.func126 ko xk I1 [rk,Vk,nS,tD,rX,ABG,ADK] [(13,[0,1,2,3,4,5,6,7,8,9,10,11]),(16,[0,1,2,3,4,5,6,8,9,10,11])] qx (hJ:= .cons (fun _=>rfl) wS (.nil)) (he:=AEf Aq)
def AA6:SQ:=mk Tryz.func285 ⟨[(0,.row Y1),(1,.c (.ZE (.cons tI .unit)))],[]⟩ GD KA [] [] []
def AFw:SQ:=mk Tryz.func342 ⟨[(0,jI),(1,tv)],[]⟩ Lw Bo [AA6] [] [⟨2,⟨[(0,jI),(1,tv),(7,Bb),(8,Bb)],[]⟩,Av⟩]
def AFG:SQ:=mk Tryz.func284 ⟨[(0,cL),(1,tv)],mf⟩ vV BM [AA6,AFw] [] [⟨5,⟨[(0,cL),(1,tv),(5,Bb),(6,Bb)],mf⟩,Au⟩]
def AG4:SQ:=mk Tryz.func215 gk lJ MF [s48,qI,fP,ta,AFG] [] []
def AGC:SQ:=mk Tryz.func127 dh aE KM [iJ,oe,AG4] [(4,[0,1,2,3,4,5,6,7,8]),(5,[0,1,3,4,5,6,7,8])] [] (he:=fun ω v=>by rcases ω with _|⟨_|_,_⟩<;>kernel_rfl)
def AGI:SQ:=AEl (ρ:=GQ 0 128 0 0 32 91) (nm:= "slices.Delete[[]loop.example/g00178/impl.Writer,loop.example/g00178/impl.Writer]") yx (YX.del ⟨by kernel_rfl,by kernel_rfl,by kernel_rfl,by kernel_rfl,by kernel_rfl,by kernel_rfl,by kernel_rfl,by kernel_rfl,by kernel_rfl,by kernel_rfl,by kernel_rfl,by kernel_rfl⟩ mx (by kernel_rfl) (by kernel_rfl)) (r:=Y6) 2 rfl (by kernel_rfl) (by kernel_rfl) Dq (fun _=>rfl)
def s40:SQ:=mk Tryz.func40 v8 ⟨ZU,[.mem [.ref 1,.v tI,.ref 2,.ref 9,.ref 10,.v tI,.ref 11,.ref 12,.ref 7,.ref 13,.v .bool],E6,WA,KH,KH,KH,KH,YE,KH,E6,P3,Ph,Zz,OD]⟩ NT [Vk,AGB,AEe,AD_,AGc,AGK,AFp,AEj,AE5,AFg,AED,AFz,AEm,AFf,iJ,AEs,AGC,AGI] [(27,[0,1,2,3,4,5,6,7,8,9]),(34,[0,1,2,3,4,5,6,7,8,9]),(36,[1,2,3,4,6,7,8,9])] [] (he:=fun ω v=>by rcases ω with _|⟨_|_,_⟩<;>kernel_rfl)
def s12:SQ:=mk Tryz.func12 ⟨[(0,.row zM),(1,.row ny)],[]⟩ vj EA [ue,s38,y_,s40] [] []
def s13:SQ:=mk Tryz.func13 ⟨[(0,.c (.sl false tU)),(1,Bb)],[]⟩ Lw Zc [] [] []
abbrev i41:Bg:=pZ
abbrev o41:Bg:=wB
def s41:SQ:=mk Tryz.func41 i41 o41 FY [ue,y_] [] []
abbrev i42:Bg:=iQ
abbrev o42:Bg:=tY
def s42:SQ:=mk Tryz.func42 i42 o42 Gv [rC,pT] [] [⟨3,⟨[(5,cL),(13,TO),(14,Bb),(15,Bb)],mW⟩,Ew⟩]
def s14:SQ:=mk Tryz.func14 ⟨[(0,.row zM),(1,Bb),(2,.c (.v .str))],[]⟩ vO MO [s12,y_,s41,s42,rk,s44] [] [⟨7,⟨[(1,Bb),(3,OL),(6,hD),(8,k_),(10,.c (.ptr 19 0)),(11,Bb),(41,.c (.ref 20)),(42,Bb),(43,Bb)],[qf,uT,I2,fb,I2,WZ,gF,fj,fV,VU,uN,E6,WA,E6,P3,Ph,Zz,YE,OD,.mem [.v tI,.any],E6]⟩,FL⟩]
abbrev i45:Bg:=⟨[(0,AAU),(1,.c (.sl false ny))],yk⟩
abbrev o45:Bg:=⟨[(0,.KK [.inr [.ref 8,.v tI,.ref 9,.ref 10,.ref 11,.v tI,.ref 12,.ref 13,.ref 14,.ref 15,.v .bool],.inl (.v .bool)])],[KH,KH,KH,KH,KH,KH,KH,KH,E6,WA,E6,P3,Ph,Zz,YE,OD]⟩
def s45:SQ:=mk Tryz.func45 i45 o45 LN [s12] [] [⟨2,zw,HN⟩]
abbrev i46:Bg:=⟨[(0,Bb),(1,TO)],[]⟩
abbrev o46:Bg:=⟨nf,[.sl 9 ny]⟩
def s46:SQ:=mk Tryz.func46 i46 o46 P6 [] [] [⟨3,⟨[(0,Bb),(1,TO),(5,cL),(6,Bb)],[.sl 9 ny]⟩,DI⟩,⟨6,⟨[(0,Bb),(1,TO),(5,cL),(6,Bb),(15,TO),(16,Bb),(17,Bb)],[.sl 9 ny]⟩,EW⟩]
abbrev z7:Bg:=pZ
abbrev o15:Bg:=vO
def zT:Ma:=⟨z7,o15,(z7.un Iy)⟩
def C15:Td:=⟨T,Rx (SP.l [ue,y_,s41,s42,s45,s46]),DS [(6,[0,1,10]),(13,[0,1,2,3,4,5,6,7,8,9,19]),(16,[0,1,2,3,4,5,6,7,8,9,19,21,22,23,24,25,26,27,28,29,30])]⟩
def L15:List (Lp o15):=[⟨9,⟨[(1,OL),(2,hD),(4,k_),(6,.c (.ref 19)),(7,.c (.ref 20)),(40,.c (.ref 19)),(41,Bb),(42,Bb)],[qf,uT,I2,fb,I2,WZ,gF,fj,fV,VU,uN,E6,WA,E6,P3,Ph,Zz,YE,OD,E6,.sl 9 ny]⟩,Bv⟩]
abbrev di:Bg:=⟨[(1,OL),(2,hD),(4,k_),(6,.c (.ref 19)),(7,.c (.ref 20)),(40,.c (.ref 19)),(41,Bb),(42,Bb)],[qf,uT,I2,fb,I2,WZ,gF,fj,fV,VU,uN,E6,WA,E6,P3,Ph,Zz,YE,OD,E6,.sl 9 ny]⟩
def CJ(ω:List Bool):Prop:= ∀(n:Nat) (v:di.V),Tt C15 zT Tryz.f15 (PI 0 L15 n) 9 ω (di.st 83 v)=di.un (DD (Bv n)) v
theorem tN:CJ []:=by delta CJ;intros;kernel_rfl
theorem ry:CJ (false::[]):=by delta CJ;intros;kernel_rfl
theorem tZ:CJ (false::false::[]):=by delta CJ;intros;kernel_rfl
theorem uo:CJ (false::false::false::[]):=by delta CJ;intros;kernel_rfl
theorem vA:CJ (false::false::false::false::[]):=by delta CJ;intros;kernel_rfl
theorem tG(ω:List Bool):CJ (false::false::false::false::false::ω):=by delta CJ;intros;kernel_rfl
theorem sj(ω:List Bool):CJ (false::false::false::false::true::ω):=by delta CJ;intros;kernel_rfl
theorem sR(ω:List Bool):CJ (false::false::false::true::ω):=by delta CJ;intros;kernel_rfl
theorem vD(ω:List Bool):CJ (false::false::true::ω):=by delta CJ;intros;kernel_rfl
theorem oE:CJ (false::true::[]):=by delta CJ;intros;kernel_rfl
theorem qw:CJ (false::true::false::[]):=by delta CJ;intros;kernel_rfl
theorem rf:CJ (false::true::false::false::[]):=by delta CJ;intros;kernel_rfl
theorem qD(ω:List Bool):CJ (false::true::false::false::false::ω):=by delta CJ;intros;kernel_rfl
theorem p_(ω:List Bool):CJ (false::true::false::false::true::ω):=by delta CJ;intros;kernel_rfl
theorem oM(ω:List Bool):CJ (false::true::false::true::ω):=by delta CJ;intros;kernel_rfl
theorem pt(ω:List Bool):CJ (false::true::true::ω):=by delta CJ;intros;kernel_rfl
theorem qk:CJ (true::[]):=by delta CJ;intros;kernel_rfl
theorem rQ:CJ (true::false::[]):=by delta CJ;intros;kernel_rfl
theorem oT:CJ (true::false::false::[]):=by delta CJ;intros;kernel_rfl
theorem qu(ω:List Bool):CJ (true::false::false::false::ω):=by delta CJ;intros;kernel_rfl
theorem oJ(ω:List Bool):CJ (true::false::false::true::ω):=by delta CJ;intros;kernel_rfl
theorem qU(ω:List Bool):CJ (true::false::true::ω):=by delta CJ;intros;kernel_rfl
theorem qP(ω:List Bool):CJ (true::true::ω):=by delta CJ;intros;kernel_rfl
theorem AAg(n:Nat)(v:di.V)(ω:List Bool):Tt C15 zT Tryz.f15 (PI 0 L15 n) 9 ω (di.st 83 v)=di.un (DD (Bv n)) v:=(BK tN (BK ry (BK tZ (BK uo (BK vA tG sj) sR) vD) (BK oE (BK qw (BK rf qD p_) oM) pt)) (BK qk (BK rQ (BK oT qu oJ) qU) qP)) ω n v
theorem e15(n:Nat)(ω:List Bool)(v:z7.V):Dl C15 zT Tryz.f15 (PI 0 L15 n) ω v=z7.un (JG (Bv n)) v:=by kernel_rfl
def s15:SQ:=mk Tryz.func15 z7 o15 Iy [ue,y_,s41,s42,s45,s46] [(6,[0,1,10]),(13,[0,1,2,3,4,5,6,7,8,9,19]),(16,[0,1,2,3,4,5,6,7,8,9,19,21,22,23,24,25,26,27,28,29,30])] L15 (hJ:= .cons (fun _=>rfl) AAg (.nil)) (he:=e15 Aq)
def s16:SQ:=mk Tryz.func16 iQ vj Ky [s12,ue,y_] [] [⟨5,⟨[(1,Bb),(4,OL),(6,.c (.ptr 9 0)),(7,Bb)],[gD,I2,fb,I2,WZ,gF,fj,fV,VU,.mem [.ref 10,.v tI,.ref 11,.ref 12,.ref 13,.v tI,.ref 14,.ref 15,.ref 16,.ref 17,.v .bool],E6,WA,E6,P3,Ph,Zz,YE,OD]⟩,GF⟩]
def s17:SQ:=mk Tryz.func17 iQ wC Qu [ue,Vk] [] [⟨5,⟨[(5,cL),(27,.c (.sl false Y8)),(28,Bb),(29,Bb)],[VU]⟩,Hq⟩]
def s18:SQ:=mk Tryz.func18 pZ wC Ps [ue] [] [⟨5,⟨[(1,OL),(3,.c (.ref 1)),(12,pB),(13,Bb),(14,Bb)],[qf,VU]⟩,Kj⟩]
def s19:SQ:=mk Tryz.func19 iQ ⟨[(0,.KK [.inl (.v .str),.inl (.v .bool)])],[]⟩ Sr [s18] [] [⟨2,⟨[(1,Bb),(9,cL),(10,Bb),(11,Bb)],[VU]⟩,Kn⟩]
abbrev i3:Bg:=wk
abbrev o3:Bg:=GD
def s3:SQ:=mk Tryz.func3 i3 o3 Ls [s5,s6,s7,s8,s9,s10,s11,s12,s13,s14,s15,s16,s17,s18,s19,s20] [(11,[0,1,2,3,4,5,6,7,8,9,10,11]),(32,[0,1,2,3,4,5,6,7,8,9,10]),(33,[0,1,2,3,4,5,6,7,8,9,10])] [⟨7,⟨[(0,.c (.sl true tU)),(3,OL),(4,qj),(5,.c (.v .bool)),(6,.c (.ref 11)),(7,Bb)],[.mem [.ref 1,.v tI],I2,.mem [.ref 3,.v tI,.ref 4,.ref 5,.ref 6,.v tI,.ref 7,.ref 8,.ref 9,.ref 10,.v .bool],I2,fb,I2,WZ,gF,fj,fV,VU,I2]⟩,EB⟩,⟨16,⟨[(4,OL),(8,Bb),(9,Bb),(10,Bb),(11,Bb)],[gD,E6,WA,E6,P3,Ph,Zz,YE,OD]⟩,Dk⟩,⟨30,⟨[(4,OL),(10,Bb),(17,.c (.ref 9)),(18,.c (.ref 10)),(19,Bb)],[gD,E6,WA,E6,P3,Ph,Zz,YE,OD,VU,VU]⟩,Dp⟩]
end
end Go.Proofs.YtgaopeilfepjmaaGreat.Wk
