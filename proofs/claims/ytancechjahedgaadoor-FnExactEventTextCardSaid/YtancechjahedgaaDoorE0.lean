/- Each function computes what was printed: by the kernel. -/
import Derived.Test.YtancechjahedgaaDoorG0
import Derived.Test.YtancechjahedgaaDoorProg
import Derived.KernelRfl
set_option linter.unusedVariables false
set_option linter.unusedSimpArgs false
set_option linter.unusedSectionVars false
namespace Go.Proofs.YtancechjahedgaaDoor.Wk
open Go Go.Fw Go.M Go.Proofs
noncomputable section
abbrev tI:Ty:= .int .i64
abbrev tU:Ty:= .int .u8
abbrev Y0:Ty:=(.cons tI (.cons tI (.cons .str .unit)))
def T:BQ:=[(3,⟨1,8,.int .i64,some tI⟩),
 (5,⟨1,1,.int .u8,some tU⟩),
 (9,⟨1,16,.str,some .str⟩),
 (23,⟨3,32,.st [(0,3),(1,3),(2,9)],some Y0⟩),
 (26,⟨3,32,.st [(0,3),(1,3),(2,9)],some Y0⟩),
 (49,⟨1,24,.sl 5,some (.sl tU)⟩)]
theorem Tr:Ag Tryd.prog T:=I5 (by kernel_rfl)
theorem mx:Tryd.prog.follows .mixedOrders=true:=by kernel_rfl
abbrev SQ:=SP Tryd.prog
def mk{f:Nat}{fn:Func}(hf:Tryd.prog.funcs[f]? =some fn)(i o:CM)(g:i.Cu (Option o.V))(l:List SQ)(h:List UD)(L:List (Lp o))
  (hJ:Di ⟨T,Nl (SP.l l),IU h⟩ ⟨i,o,i.un g⟩ fn (Nk i.Ar.length L) L:=by
   repeat refine Di.cons (fun _=>rfl) (fun _ _ _=>by kernel_rfl) ?_
   exact Di.nil)
  (he:∀ω v,Gy ⟨T,Nl (SP.l l),IU h⟩ ⟨i,o,i.un g⟩ fn (Nk i.Ar.length L Mi) ω v=i.un g v:=by intro ω v;kernel_rfl)
  (hL:Gg fn=Lp.ls L:=by kernel_rfl) (hd:decide (Lp.ls L).Nodup=true:=by kernel_rfl) (hc:Gl fn ⟨i,o,i.un g⟩=true:=by kernel_rfl):SQ:=
 S7 Tr mx hf i o g l h L Mi hL hd hc hJ he
abbrev Pf:XP:= .c (.v tI)
abbrev Kb:CM:=⟨[(0,Pf)],[]⟩
abbrev Qx:CM:=⟨[(0,.row Y0)],[]⟩
abbrev Rz:CM:=⟨[(0,Pf),(1,Pf),(2,Pf)],[]⟩
abbrev Oi:CM:=⟨[(0,.c (.v .bool))],[]⟩
abbrev PY:CM:=⟨[(0,.c (.v .str))],[]⟩
open Go.Shelf
@[reducible] def Ns:Go.Shelf.Ren:=⟨(fun x=>match x with|171=>42|243=>53|246=>59|283=>67|284=>68|285=>69|286=>70|129=>80|317=>79|318=>81|319=>82|320=>83|337=>87|338=>88|n=>n),(fun x=>match x with|171=>77|53=>78|37=>49|173=>81|212=>93|51=>83|213=>94|46=>75|232=>108|233=>109|n=>n),(fun x=>match x with|17=>1|18=>4|19=>5|n=>n)⟩
theorem ME:LaysM.n171 Tryd.prog Ns:={mixed:=by kernel_rfl,f129:=by kernel_rfl,f171:=by kernel_rfl,f243:=by kernel_rfl,f246:=by kernel_rfl,f283:=by kernel_rfl,f284:=by kernel_rfl,f285:=by kernel_rfl,f286:=by kernel_rfl,f317:=by kernel_rfl,f318:=by kernel_rfl,f319:=by kernel_rfl,f320:=by kernel_rfl,f337:=by kernel_rfl,f338:=by kernel_rfl,t0:=by kernel_rfl,a0:=fun w=>by kernel_rfl,z0:=fun w=>by kernel_rfl,v0:=fun w=>by kernel_rfl,t2:=by kernel_rfl,a2:=fun w=>by kernel_rfl,z2:=fun w=>by kernel_rfl,v2:=fun w=>by kernel_rfl,t3:=by kernel_rfl,a3:=fun w=>by kernel_rfl,z3:=fun w=>by kernel_rfl,v3:=fun w=>by kernel_rfl,t4:=by kernel_rfl,a4:=fun w=>by kernel_rfl,z4:=fun w=>by kernel_rfl,v4:=fun w=>by kernel_rfl,t5:=by kernel_rfl,a5:=fun w=>by kernel_rfl,z5:=fun w=>by kernel_rfl,v5:=fun w=>by kernel_rfl,t9:=by kernel_rfl,a9:=fun w=>by kernel_rfl,z9:=fun w=>by kernel_rfl,v9:=fun w=>by kernel_rfl,t20:=by kernel_rfl,a20:=fun w=>by kernel_rfl,z20:=fun w=>by kernel_rfl,v20:=fun w=>by kernel_rfl,t37:=by kernel_rfl,a37:=fun w=>by kernel_rfl,z37:=fun w=>by kernel_rfl,v37:=fun w=>by kernel_rfl,t46:=by kernel_rfl,a46:=fun w=>by kernel_rfl,z46:=fun w=>by kernel_rfl,v46:=fun w=>by kernel_rfl,t51:=by kernel_rfl,a51:=fun w=>by kernel_rfl,z51:=fun w=>by kernel_rfl,v51:=fun w=>by kernel_rfl,t53:=by kernel_rfl,a53:=fun w=>by kernel_rfl,z53:=fun w=>by kernel_rfl,v53:=fun w=>by kernel_rfl,t171:=by kernel_rfl,a171:=fun w=>by kernel_rfl,z171:=fun w=>by kernel_rfl,v171:=fun w=>by kernel_rfl,t173:=by kernel_rfl,a173:=fun w=>by kernel_rfl,z173:=fun w=>by kernel_rfl,v173:=fun w=>by kernel_rfl,t212:=by kernel_rfl,a212:=fun w=>by kernel_rfl,z212:=fun w=>by kernel_rfl,v212:=fun w=>by kernel_rfl,t213:=by kernel_rfl,a213:=fun w=>by kernel_rfl,z213:=fun w=>by kernel_rfl,t232:=by kernel_rfl,a232:=fun w=>by kernel_rfl,z232:=fun w=>by kernel_rfl,v232:=fun w=>by kernel_rfl,t233:=by kernel_rfl,a233:=fun w=>by kernel_rfl,z233:=fun w=>by kernel_rfl,v233:=fun w=>by kernel_rfl,g17:=by kernel_rfl,g18:=by kernel_rfl,g19:=by kernel_rfl,i0:=by kernel_rfl,i2:=by kernel_rfl,i3:=by kernel_rfl,i4:=by kernel_rfl,i5:=by kernel_rfl,i9:=by kernel_rfl,i20:=by kernel_rfl,i37:=by kernel_rfl,i46:=by kernel_rfl,i51:=by kernel_rfl,i53:=by kernel_rfl,i171:=by kernel_rfl,i173:=by kernel_rfl,i212:=by kernel_rfl,i232:=by kernel_rfl,i233:=by kernel_rfl,m17:=by kernel_rfl,m18:=by kernel_rfl,m19:=by kernel_rfl}
theorem Lb:Tryd.prog.globalNamed "internal/strconv.uint64pow10" =some MS:=by kernel_rfl
theorem Pw:∀w,GI w→Go.Lib.TabIs Tryd.prog w "internal/strconv.uint64pow10" .u64 Go.Lib.pow10Tab:=fun w h=>h.tab Lb
theorem SE:∀w,GI w→ ∃m,w.cell? ⟨LV,0,none⟩=some (.int .i64 m):=fun w h=>h.2
theorem maxOf{w:World}(h:w.ShapedOpen Tryd.prog):∃m,w.cell? ⟨LV,0,none⟩=some (.int .i64 m):=
 cell_of_shapedOpen_int (t:=3) (zero:= #[.int .i64 0]) h (of_decide_eq_true (by kernel_rfl)) (by kernel_rfl) rfl (by kernel_rfl) (by kernel_rfl) (by kernel_rfl)
def s6:SQ:=mk Tryd.func6 ⟨[(0,.row Y0),(1,Pf)],[]⟩ Kb ET [] [] []
def s8:SQ:=mk Tryd.func8 Qx ⟨[(0,.agg [.v tI,.v tI,.v .str])],[]⟩ DG [] [] []
def S5:SQ:=mk Tryd.func25 Rz Oi ED [] [] []
def Q2:SQ:=mk Tryd.func22 Kb Oi B8 [S5] [] []
def S2:SQ:=mk Tryd.func37 Kb Kb DK [Q2] [] []
def R8:SQ:=mk Tryd.func18 Kb PY CP [] [] [⟨4,⟨[(0,Pf),(3,.c (.v .str))],[]⟩,Bj⟩]
def Sp:SQ:=mk Tryd.func38 Kb Kb EX [Q2] [] []
def Sy:SQ:=mk Tryd.func17 Kb PY Ax [R8,Q2,S2,Sp] [] []
def s7:SQ:=mk Tryd.func7 Qx PY Bc [Sy,R8] [(5,[0])] []
def R3:SQ:=mk Tryd.func44 Rz Oi Dt [] [] []
def Td:SQ:=mk Tryd.func51 Kb Oi Ej [R3] [] []
def S1:SQ:=mk Tryd.func52 Kb Oi GC [R3] [] []
def RO:SQ:=mk Tryd.func39 Kb Oi B9 [Td,S1] [] []
def S4:SQ:=mk Tryd.func40 Kb Kb DN [RO] [] []
def Ti:SQ:=Tc (LX ME (enters_of ME.f171 (by kernel_rfl) rfl) Pw) rfl strconv_Itoa (fun _=>rfl)
def SO:SQ:=mk Tryd.func20 Kb PY Be [Ti] [] []
def Sk:SQ:=mk Tryd.func41 Kb Kb ES [RO] [] []
def Tg:SQ:=mk Tryd.func19 Kb PY Ay [SO,RO,S4,Sk] [] []
def s9:SQ:=mk Tryd.func9 Qx PY Cb [Tg,SO] [(5,[0])] []
abbrev i3:CM:=Qx
abbrev o3:CM:=Oi
def s3:SQ:=mk Tryd.func3 i3 o3 Av [s6,s7,s8,s9] [] []
end
end Go.Proofs.YtancechjahedgaaDoor.Wk
