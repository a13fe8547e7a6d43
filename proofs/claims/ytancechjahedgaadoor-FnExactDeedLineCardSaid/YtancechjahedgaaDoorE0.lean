/- Each function computes what was printed: by the kernel. -/
import Derived.Test.YtancechjahedgaaDoorG0
import Derived.Test.YtancechjahedgaaDoorProg
import Derived.KernelRfl
set_option linter.unusedVariables false
set_option linter.unusedSimpArgs false
set_option linter.unusedSectionVars false
namespace Go.Proofs.YtancechjahedgaaDoor.Wk
open Go Go.Fw Go.M Go.Proofs
noncomputable section
abbrev tI:Ty:= .int .i64
abbrev tU:Ty:= .int .u8
abbrev Y0:Ty:=(.cons tI (.cons tI (.cons tI (.cons tI (.cons .str .unit)))))
def T:Bb:=[(3,⟨1,8,.int .i64,some tI⟩),
 (4,⟨1,1,.bool,some .bool⟩),
 (5,⟨1,1,.int .u8,some tU⟩),
 (9,⟨1,16,.str,some .str⟩),
 (30,⟨5,48,.st [(0,3),(1,3),(2,3),(3,3),(4,9)],some Y0⟩),
 (34,⟨5,48,.st [(0,3),(1,3),(2,3),(3,3),(4,9)],some Y0⟩),
 (44,⟨1,24,.sl 3,some (.sl tI)⟩),
 (47,⟨1,24,.sl 9,some (.sl .str)⟩),
 (49,⟨1,24,.sl 5,some (.sl tU)⟩)]
theorem Vf:An Tryd.prog T:=KC (by kernel_rfl)
theorem mx:Tryd.prog.follows .mixedOrders=true:=by kernel_rfl
abbrev SQ:=SP Tryd.prog
def mk{f:Nat}{fn:Func}(hf:Tryd.prog.funcs[f]? =some fn)(i o:CS)(g:i.Cu (Option o.V))(l:List SQ)(h:List WD)(L:List (Lp o))
  (hJ:D7 ⟨T,PV (SP.l l),Jd h⟩ ⟨i,o,i.un g⟩ fn (Oj i.Az.length L) L:=by
   repeat refine D7.cons (fun _=>rfl) (fun _ _ _=>by kernel_rfl) ?_
   exact D7.nil)
  (he:∀ω v,IA ⟨T,PV (SP.l l),Jd h⟩ ⟨i,o,i.un g⟩ fn (Oj i.Az.length L HQ) ω v=i.un g v:=by intro ω v;kernel_rfl)
  (hL:Hf fn=Lp.ls L:=by kernel_rfl) (hd:decide (Lp.ls L).Nodup=true:=by kernel_rfl) (hc:He fn ⟨i,o,i.un g⟩=true:=by kernel_rfl):SQ:=
 U7 Vf mx hf i o g l h L HQ hL hd hc hJ he
abbrev OT:XP:= .c (.v tI)
abbrev Sp:XP:= .c (.v .str)
abbrev Sg:XP:= .c (.ptr 0 0)
abbrev SE:BP:= .mem [.v tI,.v tI,.v tI,.v tI,.v .str]
abbrev LP:CS:=⟨[(0,OT)],[]⟩
abbrev QI:CS:=⟨[(0,.row Y0)],[]⟩
abbrev To:CS:=⟨[(0,.agg [.v tI,.v tI,.v tI,.v tI,.v .str])],[]⟩
abbrev T_:CS:=⟨[(0,OT),(1,OT),(2,OT)],[]⟩
abbrev PU:CS:=⟨[(0,.c (.v .bool))],[]⟩
abbrev QX:CS:=⟨[(0,Sp)],[]⟩
abbrev Qu:CS:=⟨[(0,.DY [.inl (.v .str),.inl (.v .bool)])],[]⟩
open Go.Shelf
@[reducible] def L8:Go.Shelf.Ren:=⟨(fun x=>match x with|144=>46|143=>54|219=>55|217=>60|225=>61|224=>62|267=>63|266=>71|314=>72|n=>n),(fun x=>match x with|46=>75|146=>84|51=>83|n=>n),(fun x=>match x with|1=>0|n=>n)⟩
theorem Io:Lays.n144 Tryd.prog L8:={mixed:=by kernel_rfl,f143:=by kernel_rfl,f144:=by kernel_rfl,f217:=by kernel_rfl,f219:=by kernel_rfl,f224:=by kernel_rfl,f225:=by kernel_rfl,f266:=by kernel_rfl,f267:=by kernel_rfl,f314:=by kernel_rfl,t3:=by kernel_rfl,a3:=fun w=>by kernel_rfl,z3:=fun w=>by kernel_rfl,v3:=fun w=>by kernel_rfl,t4:=by kernel_rfl,a4:=fun w=>by kernel_rfl,z4:=fun w=>by kernel_rfl,v4:=fun w=>by kernel_rfl,t5:=by kernel_rfl,a5:=fun w=>by kernel_rfl,z5:=fun w=>by kernel_rfl,v5:=fun w=>by kernel_rfl,t9:=by kernel_rfl,a9:=fun w=>by kernel_rfl,z9:=fun w=>by kernel_rfl,v9:=fun w=>by kernel_rfl,t46:=by kernel_rfl,a46:=fun w=>by kernel_rfl,z46:=fun w=>by kernel_rfl,v46:=fun w=>by kernel_rfl,t51:=by kernel_rfl,a51:=fun w=>by kernel_rfl,z51:=fun w=>by kernel_rfl,v51:=fun w=>by kernel_rfl,t146:=by kernel_rfl,a146:=fun w=>by kernel_rfl,z146:=fun w=>by kernel_rfl,v146:=fun w=>by kernel_rfl,g1:=by kernel_rfl}
@[reducible] def Px:Go.Shelf.Ren:=⟨(fun x=>match x with|171=>42|243=>53|246=>59|283=>67|284=>68|285=>69|286=>70|129=>80|317=>79|318=>81|319=>82|320=>83|337=>87|338=>88|n=>n),(fun x=>match x with|171=>77|53=>78|37=>49|173=>81|212=>93|51=>83|213=>94|46=>75|232=>108|233=>109|n=>n),(fun x=>match x with|17=>1|18=>4|19=>5|n=>n)⟩
theorem NN:LaysM.n171 Tryd.prog Px:={mixed:=by kernel_rfl,f129:=by kernel_rfl,f171:=by kernel_rfl,f243:=by kernel_rfl,f246:=by kernel_rfl,f283:=by kernel_rfl,f284:=by kernel_rfl,f285:=by kernel_rfl,f286:=by kernel_rfl,f317:=by kernel_rfl,f318:=by kernel_rfl,f319:=by kernel_rfl,f320:=by kernel_rfl,f337:=by kernel_rfl,f338:=by kernel_rfl,t0:=by kernel_rfl,a0:=fun w=>by kernel_rfl,z0:=fun w=>by kernel_rfl,v0:=fun w=>by kernel_rfl,t2:=by kernel_rfl,a2:=fun w=>by kernel_rfl,z2:=fun w=>by kernel_rfl,v2:=fun w=>by kernel_rfl,t3:=by kernel_rfl,a3:=fun w=>by kernel_rfl,z3:=fun w=>by kernel_rfl,v3:=fun w=>by kernel_rfl,t4:=by kernel_rfl,a4:=fun w=>by kernel_rfl,z4:=fun w=>by kernel_rfl,v4:=fun w=>by kernel_rfl,t5:=by kernel_rfl,a5:=fun w=>by kernel_rfl,z5:=fun w=>by kernel_rfl,v5:=fun w=>by kernel_rfl,t9:=by kernel_rfl,a9:=fun w=>by kernel_rfl,z9:=fun w=>by kernel_rfl,v9:=fun w=>by kernel_rfl,t20:=by kernel_rfl,a20:=fun w=>by kernel_rfl,z20:=fun w=>by kernel_rfl,v20:=fun w=>by kernel_rfl,t37:=by kernel_rfl,a37:=fun w=>by kernel_rfl,z37:=fun w=>by kernel_rfl,v37:=fun w=>by kernel_rfl,t46:=by kernel_rfl,a46:=fun w=>by kernel_rfl,z46:=fun w=>by kernel_rfl,v46:=fun w=>by kernel_rfl,t51:=by kernel_rfl,a51:=fun w=>by kernel_rfl,z51:=fun w=>by kernel_rfl,v51:=fun w=>by kernel_rfl,t53:=by kernel_rfl,a53:=fun w=>by kernel_rfl,z53:=fun w=>by kernel_rfl,v53:=fun w=>by kernel_rfl,t171:=by kernel_rfl,a171:=fun w=>by kernel_rfl,z171:=fun w=>by kernel_rfl,v171:=fun w=>by kernel_rfl,t173:=by kernel_rfl,a173:=fun w=>by kernel_rfl,z173:=fun w=>by kernel_rfl,v173:=fun w=>by kernel_rfl,t212:=by kernel_rfl,a212:=fun w=>by kernel_rfl,z212:=fun w=>by kernel_rfl,v212:=fun w=>by kernel_rfl,t213:=by kernel_rfl,a213:=fun w=>by kernel_rfl,z213:=fun w=>by kernel_rfl,t232:=by kernel_rfl,a232:=fun w=>by kernel_rfl,z232:=fun w=>by kernel_rfl,v232:=fun w=>by kernel_rfl,t233:=by kernel_rfl,a233:=fun w=>by kernel_rfl,z233:=fun w=>by kernel_rfl,v233:=fun w=>by kernel_rfl,g17:=by kernel_rfl,g18:=by kernel_rfl,g19:=by kernel_rfl,i0:=by kernel_rfl,i2:=by kernel_rfl,i3:=by kernel_rfl,i4:=by kernel_rfl,i5:=by kernel_rfl,i9:=by kernel_rfl,i20:=by kernel_rfl,i37:=by kernel_rfl,i46:=by kernel_rfl,i51:=by kernel_rfl,i53:=by kernel_rfl,i171:=by kernel_rfl,i173:=by kernel_rfl,i212:=by kernel_rfl,i232:=by kernel_rfl,i233:=by kernel_rfl,m17:=by kernel_rfl,m18:=by kernel_rfl,m19:=by kernel_rfl}
theorem NF:Tryd.prog.globalNamed "internal/strconv.uint64pow10" =some Nx:=by kernel_rfl
theorem RY:∀w,GI w→Go.Lib.TabIs Tryd.prog w "internal/strconv.uint64pow10" .u64 Go.Lib.pow10Tab:=fun w h=>h.tab NF
theorem RL:∀w,GI w→ ∃m,w.cell? ⟨M3,0,none⟩=some (.int .i64 m):=fun w h=>h.2
theorem maxOf{w:World}(h:w.ShapedOpen Tryd.prog):∃m,w.cell? ⟨M3,0,none⟩=some (.int .i64 m):=
 cell_of_shapedOpen_int (t:=3) (zero:= #[.int .i64 0]) h (of_decide_eq_true (by kernel_rfl)) (by kernel_rfl) rfl (by kernel_rfl) (by kernel_rfl) (by kernel_rfl)
def Um:SQ:=mk Tryd.func10 ⟨[(0,.row Y0),(1,OT)],[]⟩ LP GU [] [] []
def Vj:SQ:=mk Tryd.func12 QI To EO [] [] []
def Ta:SQ:=mk Tryd.func25 T_ PU DJ [] [] []
def VY:SQ:=mk Tryd.func43 QI To Em [] [] []
def Vp:SQ:=mk Tryd.func21 QI PU EX [Ta,VY] [(1,[0])] []
def Sc:SQ:=mk Tryd.func22 LP PU Bu [Ta] [] []
def Uo:SQ:=mk Tryd.func23 LP QX Dr [] [] []
def Ti:SQ:=mk Tryd.func24 QI ⟨[(0,.c (.ref 0))],[.sl 9 tI]⟩ Dq [] [] []
def UT:SQ:=mk Tryd.func18 LP QX DF [] [] [⟨4,⟨[(0,OT),(3,Sp)],[]⟩,B4⟩]
def VS:SQ:=mk Tryd.func37 LP LP Dn [Sc] [] []
def Uz:SQ:=mk Tryd.func38 LP LP FF [Sc] [] []
def Uw:SQ:=mk Tryd.func17 LP QX Ct [UT,Sc,VS,Uz] [] []
def VZ:SQ:=mk Tryd.func11 QI Qu DO [Uw,UT,Vp,Sc,Uo,Ti,Ta] [] [⟨4,⟨[(1,Sg),(4,OT)],[SE]⟩,Ag⟩,⟨11,⟨[(1,Sg),(5,Sp),(6,.c (.ref 1)),(7,OT)],[SE,.sl 9 tI]⟩,Af⟩]
def Tp:SQ:=mk Tryd.func28 LP QX Cy [] [] []
def Sx:SQ:=mk Tryd.func44 T_ PU Cg [] [] []
def VQ:SQ:=mk Tryd.func45 QX PU EU [] [] []
def Uq:SQ:=mk Tryd.func26 QI PU Ed [Tp,Sx,VQ] [] [⟨4,⟨[(1,Sg),(3,.c (.ptr 1 0)),(11,.c (.ref 2)),(12,OT),(13,OT)],[SE,SE,.sl 9 tU]⟩,AR⟩]
def U4:SQ:=mk Tryd.func27 ⟨[],[]⟩ ⟨[(0,.c (.ref 0))],[.sl 9 .str]⟩ Dz [] [] []
def UZ:SQ:=UM (Jf Io (enters_of Io.f144 (by kernel_rfl) rfl) RL) rfl strings_Contains (fun _=>rfl)
def Va:SQ:=mk Tryd.func51 LP PU FX [Sx] [] []
def Ut:SQ:=mk Tryd.func52 LP PU HC [Sx] [] []
def Se:SQ:=mk Tryd.func39 LP PU Bw [Va,Ut] [] []
def VD:SQ:=mk Tryd.func40 LP LP Dt [Se] [] []
def Ud:SQ:=UM (Mw NN (enters_of NN.f171 (by kernel_rfl) rfl) RY) rfl strconv_Itoa (fun _=>rfl)
def Tu:SQ:=mk Tryd.func20 LP QX BO [Ud] [] []
def VJ:SQ:=mk Tryd.func41 LP LP FU [Se] [] []
def Ul:SQ:=mk Tryd.func19 LP QX Cx [Tu,Se,VD,VJ] [] []
def Ur:SQ:=mk Tryd.func29 ⟨[(0,.row Y0),(1,.c (.v tU))],[]⟩ Qu Cz [Ul,Tu,Se,UZ] [(4,[0]),(6,[0])] []
def Uh:SQ:=mk Tryd.func13 QI Qu DP [Uq,U4,Tp,Ur] [(3,[0])] [⟨5,⟨[(1,Sg),(4,Sp),(21,.c (.ref 1)),(22,OT),(23,OT)],[SE,.sl 9 tU]⟩,BR⟩]
abbrev i4:CS:=QI
abbrev o4:CS:=PU
def s4:SQ:=mk Tryd.func4 i4 o4 A7 [Um,VZ,Vj,Uh] [] []
end
end Go.Proofs.YtancechjahedgaaDoor.Wk
