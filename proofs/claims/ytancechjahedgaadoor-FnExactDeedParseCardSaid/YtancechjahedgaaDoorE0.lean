/- Each function computes what was printed: by the kernel. -/
import Derived.Test.YtancechjahedgaaDoorG0
import Derived.Test.YtancechjahedgaaDoorProg
import Derived.KernelRfl
import Derived.Shelf.Strconv.AtoiAll
import Derived.Lib.AtoiOr
import Derived.Lib.AtoiErrMem
import Derived.Lib.AtoiAllCases
import Derived.WalkKit
import Derived.BigCall
set_option linter.unusedVariables false
set_option linter.unusedSimpArgs false
set_option linter.unusedSectionVars false
namespace Go.Proofs.YtancechjahedgaaDoor.Wk
open Go Go.Fw Go.M Go.Proofs
noncomputable section
abbrev tI:Ty:= .int .i64
abbrev tU:Ty:= .int .u8
abbrev Y0:Ty:=(.cons tI (.cons tI (.cons tI (.cons tI (.cons .str .unit)))))
def T:Bw:=[(3,⟨1,8,.int .i64,some tI⟩),
 (4,⟨1,1,.bool,some .bool⟩),
 (5,⟨1,1,.int .u8,some tU⟩),
 (9,⟨1,16,.str,some .str⟩),
 (34,⟨5,48,.st [(0,3),(1,3),(2,3),(3,3),(4,9)],some Y0⟩),
 (44,⟨1,24,.sl 3,some (.sl tI)⟩),
 (47,⟨1,24,.sl 9,some (.sl .str)⟩),
 (49,⟨1,24,.sl 5,some (.sl tU)⟩),
 (65,⟨1,8,.ptr 34,none⟩)]
theorem Y1:Av Tryd.prog T:=K4 (by kernel_rfl)
theorem mx:Tryd.prog.follows .mixedOrders=true:=by kernel_rfl
abbrev SQ:=SP Tryd.prog
def mk{f:Nat}{fn:Func}(hf:Tryd.prog.funcs[f]? =some fn)(i o:C0)(g:i.Cu (Option o.V))(l:List SQ)(h:List ZL)(L:List (Lp o))
  (hJ:FD ⟨T,Rj (SP.l l),K8 h⟩ ⟨i,o,i.un g⟩ fn (RV i.A9.length L) L:=by
   repeat refine FD.cons (fun _=>rfl) (fun _ _ _=>by kernel_rfl) ?_
   exact FD.nil)
  (he:∀ω v,JI ⟨T,Rj (SP.l l),K8 h⟩ ⟨i,o,i.un g⟩ fn (RV i.A9.length L F5) ω v=i.un g v:=by intro ω v;kernel_rfl)
  (hL:Ii fn=Lp.ls L:=by kernel_rfl) (hd:decide (Lp.ls L).Nodup=true:=by kernel_rfl) (hc:IY fn ⟨i,o,i.un g⟩=true:=by kernel_rfl):SQ:=
 Xo Y1 mx hf i o g l h L F5 hL hd hc hJ he
abbrev KI:XP:= .c (.v tI)
abbrev PU:XP:= .c (.v .str)
abbrev Sh:XP:= .c (.ptr 0 0)
abbrev VU:XP:= .c (.ptr 1 0)
abbrev SA:BP:= .mem [.v tI,.v tI,.v tI,.v tI,.v .str]
abbrev WK:List BP:=[SA]
abbrev XN:List BP:=[SA,SA,.sl 9 tU]
abbrev Mq:C0:=⟨[(0,KI)],[]⟩
abbrev Qd:C0:=⟨[(0,PU)],[]⟩
abbrev Tr:C0:=⟨[(0,.row Y0)],[]⟩
abbrev Vl:C0:=⟨[(0,PU),(1,KI)],[]⟩
abbrev Uk:C0:=⟨[(0,.agg [.v tI,.v tI,.v tI,.v tI,.v .str])],[]⟩
abbrev Ta:C0:=⟨[(0,KI),(1,KI)],[]⟩
abbrev T8:C0:=⟨[(0,KI),(1,KI),(2,KI)],[]⟩
abbrev Lq:C0:=⟨[(0,.c (.v .bool))],[]⟩
abbrev TW:C0:=⟨[(0,.D6 [.inl (.v .str),.inl (.v .bool)])],[]⟩
abbrev R0:C0:=⟨[(0,.D6 [.inl (.v tI),.inl (.v .bool)])],[]⟩
abbrev UF:C0:=⟨[(0,.D6 [.inr [.v tI,.v tI,.v tI,.v tI,.v .str],.inl (.v .bool)])],[]⟩
abbrev Yf:C0:=⟨[(0,PU),(1,PU)],[]⟩
open Go.Shelf Go.RowKit
@[reducible] def Sz:Go.Shelf.Ren:=⟨(fun x=>match x with|145=>34|220=>48|219=>55|217=>60|225=>61|224=>62|267=>63|266=>71|314=>72|n=>n),(fun x=>match x with|59=>57|46=>75|146=>84|51=>83|n=>n),(fun x=>match x with|1=>0|n=>n)⟩
theorem Q1:Lays.n145 Tryd.prog Sz:={mixed:=by kernel_rfl,f145:=by kernel_rfl,f217:=by kernel_rfl,f219:=by kernel_rfl,f220:=by kernel_rfl,f224:=by kernel_rfl,f225:=by kernel_rfl,f266:=by kernel_rfl,f267:=by kernel_rfl,f314:=by kernel_rfl,t3:=by kernel_rfl,a3:=fun w=>by kernel_rfl,z3:=fun w=>by kernel_rfl,v3:=fun w=>by kernel_rfl,t4:=by kernel_rfl,a4:=fun w=>by kernel_rfl,z4:=fun w=>by kernel_rfl,v4:=fun w=>by kernel_rfl,t5:=by kernel_rfl,a5:=fun w=>by kernel_rfl,z5:=fun w=>by kernel_rfl,v5:=fun w=>by kernel_rfl,t9:=by kernel_rfl,a9:=fun w=>by kernel_rfl,z9:=fun w=>by kernel_rfl,v9:=fun w=>by kernel_rfl,t46:=by kernel_rfl,a46:=fun w=>by kernel_rfl,z46:=fun w=>by kernel_rfl,v46:=fun w=>by kernel_rfl,t51:=by kernel_rfl,a51:=fun w=>by kernel_rfl,z51:=fun w=>by kernel_rfl,v51:=fun w=>by kernel_rfl,t59:=by kernel_rfl,a59:=fun w=>by kernel_rfl,z59:=fun w=>by kernel_rfl,v59:=fun w=>by kernel_rfl,t146:=by kernel_rfl,a146:=fun w=>by kernel_rfl,z146:=fun w=>by kernel_rfl,v146:=fun w=>by kernel_rfl,g1:=by kernel_rfl}
@[reducible] def Qw:Go.Shelf.Ren:=⟨(fun x=>match x with|109=>35|n=>n),(fun x=>match x with|31=>47|n=>n),(fun x=>match x with|n=>n)⟩
theorem Nj:Lays.n109 Tryd.prog Qw:={mixed:=by kernel_rfl,f109:=by kernel_rfl,t0:=by kernel_rfl,a0:=fun w=>by kernel_rfl,z0:=fun w=>by kernel_rfl,v0:=fun w=>by kernel_rfl,t3:=by kernel_rfl,a3:=fun w=>by kernel_rfl,z3:=fun w=>by kernel_rfl,v3:=fun w=>by kernel_rfl,t4:=by kernel_rfl,a4:=fun w=>by kernel_rfl,z4:=fun w=>by kernel_rfl,v4:=fun w=>by kernel_rfl,t9:=by kernel_rfl,a9:=fun w=>by kernel_rfl,z9:=fun w=>by kernel_rfl,v9:=fun w=>by kernel_rfl,t31:=by kernel_rfl,a31:=fun w=>by kernel_rfl,z31:=fun w=>by kernel_rfl,v31:=fun w=>by kernel_rfl}
@[reducible] def Rk:Go.Shelf.Ren:=⟨(fun x=>match x with|101=>57|208=>66|206=>78|n=>n),(fun x=>match x with|n=>n),(fun x=>match x with|n=>n)⟩
theorem PS:Lays.n101 Tryd.prog Rk:={mixed:=by kernel_rfl,f101:=by kernel_rfl,f206:=by kernel_rfl,f208:=by kernel_rfl,t3:=by kernel_rfl,a3:=fun w=>by kernel_rfl,z3:=fun w=>by kernel_rfl,v3:=fun w=>by kernel_rfl,t4:=by kernel_rfl,a4:=fun w=>by kernel_rfl,z4:=fun w=>by kernel_rfl,v4:=fun w=>by kernel_rfl,t9:=by kernel_rfl,a9:=fun w=>by kernel_rfl,z9:=fun w=>by kernel_rfl,v9:=fun w=>by kernel_rfl}
@[reducible] def Rm:Go.Shelf.Ren:=⟨(fun x=>match x with|171=>42|243=>53|246=>59|283=>67|284=>68|285=>69|286=>70|129=>80|317=>79|318=>81|319=>82|320=>83|337=>87|338=>88|n=>n),(fun x=>match x with|171=>77|53=>78|37=>49|173=>81|212=>93|51=>83|213=>94|46=>75|232=>108|233=>109|n=>n),(fun x=>match x with|17=>1|18=>4|19=>5|n=>n)⟩
theorem Mz:LaysM.n171 Tryd.prog Rm:={mixed:=by kernel_rfl,f129:=by kernel_rfl,f171:=by kernel_rfl,f243:=by kernel_rfl,f246:=by kernel_rfl,f283:=by kernel_rfl,f284:=by kernel_rfl,f285:=by kernel_rfl,f286:=by kernel_rfl,f317:=by kernel_rfl,f318:=by kernel_rfl,f319:=by kernel_rfl,f320:=by kernel_rfl,f337:=by kernel_rfl,f338:=by kernel_rfl,t0:=by kernel_rfl,a0:=fun w=>by kernel_rfl,z0:=fun w=>by kernel_rfl,v0:=fun w=>by kernel_rfl,t2:=by kernel_rfl,a2:=fun w=>by kernel_rfl,z2:=fun w=>by kernel_rfl,v2:=fun w=>by kernel_rfl,t3:=by kernel_rfl,a3:=fun w=>by kernel_rfl,z3:=fun w=>by kernel_rfl,v3:=fun w=>by kernel_rfl,t4:=by kernel_rfl,a4:=fun w=>by kernel_rfl,z4:=fun w=>by kernel_rfl,v4:=fun w=>by kernel_rfl,t5:=by kernel_rfl,a5:=fun w=>by kernel_rfl,z5:=fun w=>by kernel_rfl,v5:=fun w=>by kernel_rfl,t9:=by kernel_rfl,a9:=fun w=>by kernel_rfl,z9:=fun w=>by kernel_rfl,v9:=fun w=>by kernel_rfl,t20:=by kernel_rfl,a20:=fun w=>by kernel_rfl,z20:=fun w=>by kernel_rfl,v20:=fun w=>by kernel_rfl,t37:=by kernel_rfl,a37:=fun w=>by kernel_rfl,z37:=fun w=>by kernel_rfl,v37:=fun w=>by kernel_rfl,t46:=by kernel_rfl,a46:=fun w=>by kernel_rfl,z46:=fun w=>by kernel_rfl,v46:=fun w=>by kernel_rfl,t51:=by kernel_rfl,a51:=fun w=>by kernel_rfl,z51:=fun w=>by kernel_rfl,v51:=fun w=>by kernel_rfl,t53:=by kernel_rfl,a53:=fun w=>by kernel_rfl,z53:=fun w=>by kernel_rfl,v53:=fun w=>by kernel_rfl,t171:=by kernel_rfl,a171:=fun w=>by kernel_rfl,z171:=fun w=>by kernel_rfl,v171:=fun w=>by kernel_rfl,t173:=by kernel_rfl,a173:=fun w=>by kernel_rfl,z173:=fun w=>by kernel_rfl,v173:=fun w=>by kernel_rfl,t212:=by kernel_rfl,a212:=fun w=>by kernel_rfl,z212:=fun w=>by kernel_rfl,v212:=fun w=>by kernel_rfl,t213:=by kernel_rfl,a213:=fun w=>by kernel_rfl,z213:=fun w=>by kernel_rfl,t232:=by kernel_rfl,a232:=fun w=>by kernel_rfl,z232:=fun w=>by kernel_rfl,v232:=fun w=>by kernel_rfl,t233:=by kernel_rfl,a233:=fun w=>by kernel_rfl,z233:=fun w=>by kernel_rfl,v233:=fun w=>by kernel_rfl,g17:=by kernel_rfl,g18:=by kernel_rfl,g19:=by kernel_rfl,i0:=by kernel_rfl,i2:=by kernel_rfl,i3:=by kernel_rfl,i4:=by kernel_rfl,i5:=by kernel_rfl,i9:=by kernel_rfl,i20:=by kernel_rfl,i37:=by kernel_rfl,i46:=by kernel_rfl,i51:=by kernel_rfl,i53:=by kernel_rfl,i171:=by kernel_rfl,i173:=by kernel_rfl,i212:=by kernel_rfl,i232:=by kernel_rfl,i233:=by kernel_rfl,m17:=by kernel_rfl,m18:=by kernel_rfl,m19:=by kernel_rfl}
@[reducible] def N6:Go.Shelf.Ren:=⟨(fun x=>match x with|144=>46|143=>54|219=>55|217=>60|225=>61|224=>62|267=>63|266=>71|314=>72|n=>n),(fun x=>match x with|46=>75|146=>84|51=>83|n=>n),(fun x=>match x with|1=>0|n=>n)⟩
theorem J8:Lays.n144 Tryd.prog N6:={mixed:=by kernel_rfl,f143:=by kernel_rfl,f144:=by kernel_rfl,f217:=by kernel_rfl,f219:=by kernel_rfl,f224:=by kernel_rfl,f225:=by kernel_rfl,f266:=by kernel_rfl,f267:=by kernel_rfl,f314:=by kernel_rfl,t3:=by kernel_rfl,a3:=fun w=>by kernel_rfl,z3:=fun w=>by kernel_rfl,v3:=fun w=>by kernel_rfl,t4:=by kernel_rfl,a4:=fun w=>by kernel_rfl,z4:=fun w=>by kernel_rfl,v4:=fun w=>by kernel_rfl,t5:=by kernel_rfl,a5:=fun w=>by kernel_rfl,z5:=fun w=>by kernel_rfl,v5:=fun w=>by kernel_rfl,t9:=by kernel_rfl,a9:=fun w=>by kernel_rfl,z9:=fun w=>by kernel_rfl,v9:=fun w=>by kernel_rfl,t46:=by kernel_rfl,a46:=fun w=>by kernel_rfl,z46:=fun w=>by kernel_rfl,v46:=fun w=>by kernel_rfl,t51:=by kernel_rfl,a51:=fun w=>by kernel_rfl,z51:=fun w=>by kernel_rfl,v51:=fun w=>by kernel_rfl,t146:=by kernel_rfl,a146:=fun w=>by kernel_rfl,z146:=fun w=>by kernel_rfl,v146:=fun w=>by kernel_rfl,g1:=by kernel_rfl}
@[reducible] def R8:Go.Shelf.Ren:=⟨(fun x=>match x with|172=>56|244=>64|245=>65|247=>73|279=>74|280=>75|281=>76|282=>77|287=>84|316=>85|171=>42|205=>86|321=>89|322=>90|243=>53|246=>59|283=>67|284=>68|285=>69|286=>70|129=>80|317=>79|318=>81|319=>82|320=>83|337=>87|338=>88|n=>n),(fun x=>match x with|75=>69|76=>70|167=>86|37=>49|85=>87|168=>89|53=>78|175=>96|46=>75|210=>100|127=>104|145=>107|143=>105|171=>77|173=>81|212=>93|51=>83|213=>94|232=>108|233=>109|80=>110|n=>n),(fun x=>match x with|15=>2|16=>3|17=>1|18=>4|19=>5|n=>n)⟩
theorem NU:LaysC.n172 Tryd.prog R8:={mixed:=by kernel_rfl,f129:=by kernel_rfl,f171:=by kernel_rfl,f172:=by kernel_rfl,f205:=by kernel_rfl,f243:=by kernel_rfl,f244:=by kernel_rfl,f245:=by kernel_rfl,f246:=by kernel_rfl,f247:=by kernel_rfl,f279:=by kernel_rfl,f280:=by kernel_rfl,f281:=by kernel_rfl,f282:=by kernel_rfl,f283:=by kernel_rfl,f284:=by kernel_rfl,f285:=by kernel_rfl,f286:=by kernel_rfl,f287:=by kernel_rfl,f316:=by kernel_rfl,f317:=by kernel_rfl,f318:=by kernel_rfl,f319:=by kernel_rfl,f320:=by kernel_rfl,f321:=by kernel_rfl,f322:=by kernel_rfl,f337:=by kernel_rfl,f338:=by kernel_rfl,t0:=by kernel_rfl,a0:=fun w=>by kernel_rfl,z0:=fun w=>by kernel_rfl,v0:=fun w=>by kernel_rfl,t2:=by kernel_rfl,a2:=fun w=>by kernel_rfl,z2:=fun w=>by kernel_rfl,v2:=fun w=>by kernel_rfl,t3:=by kernel_rfl,a3:=fun w=>by kernel_rfl,z3:=fun w=>by kernel_rfl,v3:=fun w=>by kernel_rfl,t4:=by kernel_rfl,a4:=fun w=>by kernel_rfl,z4:=fun w=>by kernel_rfl,v4:=fun w=>by kernel_rfl,t5:=by kernel_rfl,a5:=fun w=>by kernel_rfl,z5:=fun w=>by kernel_rfl,v5:=fun w=>by kernel_rfl,t9:=by kernel_rfl,a9:=fun w=>by kernel_rfl,z9:=fun w=>by kernel_rfl,v9:=fun w=>by kernel_rfl,t20:=by kernel_rfl,a20:=fun w=>by kernel_rfl,z20:=fun w=>by kernel_rfl,v20:=fun w=>by kernel_rfl,t21:=by kernel_rfl,a21:=fun w=>by kernel_rfl,z21:=fun w=>by kernel_rfl,v21:=fun w=>by kernel_rfl,t37:=by kernel_rfl,a37:=fun w=>by kernel_rfl,z37:=fun w=>by kernel_rfl,v37:=fun w=>by kernel_rfl,t46:=by kernel_rfl,a46:=fun w=>by kernel_rfl,z46:=fun w=>by kernel_rfl,v46:=fun w=>by kernel_rfl,t51:=by kernel_rfl,a51:=fun w=>by kernel_rfl,z51:=fun w=>by kernel_rfl,v51:=fun w=>by kernel_rfl,t53:=by kernel_rfl,a53:=fun w=>by kernel_rfl,z53:=fun w=>by kernel_rfl,v53:=fun w=>by kernel_rfl,t75:=by kernel_rfl,a75:=fun w=>by kernel_rfl,z75:=fun w=>by kernel_rfl,v75:=fun w=>by kernel_rfl,t76:=by kernel_rfl,a76:=fun w=>by kernel_rfl,z76:=fun w=>by kernel_rfl,v76:=fun w=>by kernel_rfl,t85:=by kernel_rfl,a85:=fun w=>by kernel_rfl,z85:=fun w=>by kernel_rfl,v85:=fun w=>by kernel_rfl,t127:=by kernel_rfl,a127:=fun w=>by kernel_rfl,z127:=fun w=>by kernel_rfl,v127:=fun w=>by kernel_rfl,t143:=by kernel_rfl,a143:=fun w=>by kernel_rfl,z143:=fun w=>by kernel_rfl,v143:=fun w=>by kernel_rfl,t145:=by kernel_rfl,a145:=fun w=>by kernel_rfl,z145:=fun w=>by kernel_rfl,v145:=fun w=>by kernel_rfl,t167:=by kernel_rfl,a167:=fun w=>by kernel_rfl,z167:=fun w=>by kernel_rfl,v167:=fun w=>by kernel_rfl,t168:=by kernel_rfl,a168:=fun w=>by kernel_rfl,z168:=fun w=>by kernel_rfl,v168:=fun w=>by kernel_rfl,t171:=by kernel_rfl,a171:=fun w=>by kernel_rfl,z171:=fun w=>by kernel_rfl,v171:=fun w=>by kernel_rfl,t173:=by kernel_rfl,a173:=fun w=>by kernel_rfl,z173:=fun w=>by kernel_rfl,v173:=fun w=>by kernel_rfl,t175:=by kernel_rfl,a175:=fun w=>by kernel_rfl,z175:=fun w=>by kernel_rfl,v175:=fun w=>by kernel_rfl,t210:=by kernel_rfl,a210:=fun w=>by kernel_rfl,z210:=fun w=>by kernel_rfl,v210:=fun w=>by kernel_rfl,t212:=by kernel_rfl,a212:=fun w=>by kernel_rfl,z212:=fun w=>by kernel_rfl,v212:=fun w=>by kernel_rfl,t213:=by kernel_rfl,a213:=fun w=>by kernel_rfl,z213:=fun w=>by kernel_rfl,t232:=by kernel_rfl,a232:=fun w=>by kernel_rfl,z232:=fun w=>by kernel_rfl,v232:=fun w=>by kernel_rfl,t233:=by kernel_rfl,a233:=fun w=>by kernel_rfl,z233:=fun w=>by kernel_rfl,v233:=fun w=>by kernel_rfl,g15:=by kernel_rfl,g16:=by kernel_rfl,g17:=by kernel_rfl,g18:=by kernel_rfl,g19:=by kernel_rfl,t80:=by kernel_rfl,a80:=fun w=>by kernel_rfl,z80:=fun w=>by kernel_rfl,v80:=fun w=>by kernel_rfl,i0:=by kernel_rfl,i2:=by kernel_rfl,i3:=by kernel_rfl,i4:=by kernel_rfl,i5:=by kernel_rfl,i9:=by kernel_rfl,i20:=by kernel_rfl,i21:=by kernel_rfl,i37:=by kernel_rfl,i46:=by kernel_rfl,i51:=by kernel_rfl,i53:=by kernel_rfl,i75:=by kernel_rfl,i76:=by kernel_rfl,i80:=by kernel_rfl,i85:=by kernel_rfl,i127:=by kernel_rfl,i143:=by kernel_rfl,i145:=by kernel_rfl,i167:=by kernel_rfl,i168:=by kernel_rfl,i171:=by kernel_rfl,i173:=by kernel_rfl,i175:=by kernel_rfl,i210:=by kernel_rfl,i212:=by kernel_rfl,i232:=by kernel_rfl,i233:=by kernel_rfl,m15:=by kernel_rfl,m16:=by kernel_rfl,m17:=by kernel_rfl,m18:=by kernel_rfl,m19:=by kernel_rfl,c0:=by kernel_rfl,c2:=by kernel_rfl,c3:=by kernel_rfl,c4:=by kernel_rfl,c5:=by kernel_rfl,c9:=by kernel_rfl,c20:=by kernel_rfl,c21:=by kernel_rfl,c37:=by kernel_rfl,c46:=by kernel_rfl,c51:=by kernel_rfl,c53:=by kernel_rfl,c75:=by kernel_rfl,c76:=by kernel_rfl,c80:=by kernel_rfl,c85:=by kernel_rfl,c127:=by kernel_rfl,c143:=by kernel_rfl,c145:=by kernel_rfl,c167:=by kernel_rfl,c168:=by kernel_rfl,c171:=by kernel_rfl,c173:=by kernel_rfl,c175:=by kernel_rfl,c210:=by kernel_rfl,c212:=by kernel_rfl,c213:=by kernel_rfl,c232:=by kernel_rfl,c233:=by kernel_rfl}
theorem PB:Tryd.prog.globalNamed "internal/strconv.uint64pow10" =some QE:=by kernel_rfl
theorem Se:∀w,GI w→Go.Lib.TabIs Tryd.prog w "internal/strconv.uint64pow10" .u64 Go.Lib.pow10Tab:=fun w h=>h.tab PB
theorem Sc:∀w,GI w→ ∃m,w.cell? ⟨SE,0,none⟩=some (.int .i64 m):=fun w h=>h.2.1
theorem maxOf{w:World}(h:w.ShapedOpen Tryd.prog):∃m,w.cell? ⟨SE,0,none⟩=some (.int .i64 m):=
 cell_of_shapedOpen_int (t:=3) (zero:= #[.int .i64 0]) h (of_decide_eq_true (by kernel_rfl)) (by kernel_rfl) rfl (by kernel_rfl) (by kernel_rfl) (by kernel_rfl)
set_option maxRecDepth 100000 in
theorem Jc(s:ByteArray)(most:Int)(w:World)(KB:s.size≤1048576)(hG:∀w',Below w.heap.size w w'→GI w'):
  Calls Tryd.prog 49 #[.string s,.int .i64 most] w fun e w' =>(∃a b,Am s.data.toList most=some (a,b)∧e= .returned (.tuple #[.int .i64 a,.bool b]))∧Below w.heap.size w w':=by
 have XE:=hG w (Below.refl _ _);have hs:=XE.2.2.1;have hr:=XE.2.2.2;have Uz:∀w',Below w.heap.size w w'→Go.Lib.TabIs Tryd.prog w' "internal/strconv.uint64pow10" .u64 Go.Lib.pow10Tab:=fun w' hb=>Se _ (hG w' hb)
 have hl:s.data.toList.length≤1048576:=KB;cases h:Go.Lib.atoiAll s.data.toList with
 |ok v=>
  have hv: -9223372036854775808≤v∧v≤9223372036854775807:=Go.Lib.atoiAll_bounds h;have e1:0≤v→(s.size:Int)≤most→Go.Lib.itoa v=s.data.toList→Am s.data.toList most=some (v,true):=fun a b c=>by unfold Am;rw[if_pos hl,h];simp only;rw[if_pos ⟨a,b,c⟩]
  have e2:(0≤v→(s.size:Int)≤most→Go.Lib.itoa v=s.data.toList→False)→Am s.data.toList most=some (0,false):=fun hh=>by unfold Am;rw[if_pos hl,h];simp only;rw[if_neg fun k=>hh k.1 k.2.1 k.2.2]
  have Ye:∀W1:World,Below w.heap.size w W1→Calls Tryd.prog 20 #[.int .i64 v] W1 fun e w' =>e= .returned (.string ⟨(Go.Lib.itoa v).toArray⟩)∧Below w.heap.size w w':=by
   intro W1 hb
   go_enter Tryd.func20,Tryd.ntmps20
   go_wp2_with (go_at_call 42;refine(Any.strconv_Itoa Mz v hv.1 hv.2 _ (Uz _ hb)).mono ?_;rintro e w' ⟨rfl,k,os,rfl⟩)
   go_ret
   exact⟨rfl,hb.trans ((Km k os).mono hb.size)⟩
  go_enter Tryd.func49,Tryd.ntmps49
  go_wp2_with (first|(go_at_call 56;refine(Any.strconv_Atoi_ok NU s (by omega) v h _).mono ?_;rintro e w' ⟨rfl,hw⟩)|(go_at_call 20;refine(Ye _ (by rcases hw with rfl|⟨t,rfl⟩;exact Below.refl _ _;exact Go.Lib.bytesWorld_below _ _ _)).mono ?_;rintro e w2 ⟨rfl,VP⟩))
  ·rename_i w2 VP hc
   go_ret2
   refine⟨⟨_,_,e2 fun p q r=> ?_,rfl⟩,VP⟩;rw[r,ByteArray.toList_eq]at hc;simp only[beq_self_eq_true,Bool.not_true,Bool.false_eq_true,or_false]at hc;omega
  ·rename_i w2 VP hc
   go_ret2
   refine⟨⟨_,_,e1 hc.1.1 hc.1.2 ?_,rfl⟩,VP⟩;have:=hc.2;rw[ByteArray.toList_eq]at this;simpa using this
  ·go_ret2
   refine⟨⟨_,.inl ⟨e2 fun p q r=> ?_,rfl⟩⟩,?_⟩
   ·omega
   ·rcases hw with rfl|⟨t,rfl⟩
    ·exact Below.refl _ _
    ·exact Go.Lib.bytesWorld_below _ _ _
  ·go_ret2
   refine⟨⟨_,.inl ⟨e2 fun p q r=> ?_,rfl⟩⟩,?_⟩
   ·omega
   ·rcases hw with rfl|⟨t,rfl⟩
    ·exact Below.refl _ _
    ·exact Go.Lib.bytesWorld_below _ _ _
 |range=>
  have e0:Am s.data.toList most=some (0,false):=by unfold Am;rw[if_pos hl,h]
  obtain⟨ev,hv,he⟩:=hr
  go_enter Tryd.func49,Tryd.ntmps49
  go_wp2_with (go_at_call 56;refine(Any.strconv_Atoi_range NU s (by omega) h ev _ hv he).mono ?_;rintro e W1 ⟨N,rfl,-,-,hb⟩)
  go_ret2
  exact⟨⟨_,_,e0,rfl⟩,hb⟩
 |_=>
  have e0:Am s.data.toList most=some (0,false):=by unfold Am;rw[if_pos hl,h]
  obtain⟨ev,hv,he⟩:=hs
  go_enter Tryd.func49,Tryd.ntmps49
  go_wp2_with (go_at_call 56;refine(Any.strconv_Atoi_syntax NU s (by omega) h ev _ hv he).mono ?_;rintro e W1 ⟨N,rfl,-,-,hb⟩)
  go_ret2
  exact⟨⟨_,_,e0,rfl⟩,hb⟩
def Wl:SQ:=mk Tryd.func23 Mq Qd De [] [] []
def VM:SQ:=mk Tryd.func24 Tr ⟨[(0,.c (.ref 0))],[.sl 9 tI]⟩ Db [] [] []
def XX:SQ:=mk Tryd.func30 Vl ⟨[(0,.D6 [.inl (.v tI),.inl (.v tI)])],[]⟩ EW [] [] [⟨3,⟨[(0,PU),(1,KI),(6,KI),(7,KI)],[]⟩,CH⟩]
def YX:SQ:=mk Tryd.func31 ⟨[(0,KI),(1,.c (.sl false tI))],[]⟩ Uk Gh [] [] []
def X9:SQ:=mk Tryd.func32 Ta Mq E6 [] [] []
def VW:SQ:=mk Tryd.func25 T8 Lq C5 [] [] []
def Xu:SQ:=mk Tryd.func43 Tr Uk Fv [] [] []
def Xg:SQ:=mk Tryd.func21 Tr Lq Fa [VW,Xu] [(1,[0])] []
def U8:SQ:=mk Tryd.func22 Mq Lq CT [VW] [] []
def W9:SQ:=mk Tryd.func18 Mq Qd ED [] [] [⟨4,⟨[(0,KI),(3,PU)],[]⟩,CX⟩]
def YC:SQ:=mk Tryd.func37 Mq Mq En [U8] [] []
def Ym:SQ:=mk Tryd.func38 Mq Mq Gd [U8] [] []
def Wo:SQ:=mk Tryd.func17 Mq Qd Cy [W9,U8,YC,Ym] [] []
def Ya:SQ:=mk Tryd.func11 Tr TW B8 [Wo,W9,Xg,U8,Wl,VM,VW] [] [⟨4,⟨[(1,Sh),(4,KI)],WK⟩,An⟩,⟨11,⟨[(1,Sh),(5,PU),(6,.c (.ref 1)),(7,KI)],[SA,.sl 9 tI]⟩,Aj⟩]
def Yq:SQ:=mk Tryd.func47 Ta R0 Dj [VW] [] []
def Yo:SQ:=mk Tryd.func33 Qd R0 D1 [Wo,XX,Yq] [] []
def Yd:SQ:=mk Tryd.func14 Qd UF Dl [Ya,Wl,VM,XX,YX,X9,Yo] [] [⟨3,⟨[(0,PU),(2,Sh),(4,VU),(5,KI)],[SA,SA]⟩,Ae⟩,⟨11,⟨[(0,PU),(2,Sh),(4,VU),(5,KI),(7,KI),(8,KI),(9,.c (.ref 2)),(10,KI)],[SA,SA,.sl 9 tI]⟩,Ag⟩]
def Vh:SQ:=Tz (QX Q1 (enters_of Q1.f145 (by kernel_rfl) rfl) Sc) rfl strings_Cut (fun _=>rfl)
def XW:SQ:=mk Tryd.func27 ⟨[],[]⟩ ⟨[(0,.c (.ref 0))],[.sl 9 .str]⟩ Cq [] [] []
def Xq:SQ:=Tz (NZ Nj (enters_of Nj.f109 (by kernel_rfl) rfl)) rfl Bn (fun _=>rfl)
def Vj:SQ:=mk Tryd.func28 Mq Qd C4 [] [] []
def W0:SQ:=Tz (Je (enters_of Tryd.func49 (by kernel_rfl) rfl) Jc) rfl Bv (fun _=>rfl)
def Xm:SQ:=Tz (Jh PS (enters_of PS.f101 (by kernel_rfl) rfl)) rfl strings_TrimPrefix (fun _=>rfl)
def Vg:SQ:=mk Tryd.func44 T8 Lq DX [] [] []
def W3:SQ:=mk Tryd.func51 Mq Lq Dd [Vg] [] []
def XJ:SQ:=mk Tryd.func52 Mq Lq FO [Vg] [] []
def Yt:SQ:=mk Tryd.func58 Ta R0 Da [W3,XJ] [] []
def VG:SQ:=mk Tryd.func39 Mq Lq CN [W3,XJ] [] []
def YZ:SQ:=mk Tryd.func40 Mq Mq Eg [VG] [] []
def YN:SQ:=Tz (Ox Mz (enters_of Mz.f171 (by kernel_rfl) rfl) Se) rfl strconv_Itoa (fun _=>rfl)
def Wt:SQ:=mk Tryd.func20 Mq Qd Bh [YN] [] []
def Xj:SQ:=mk Tryd.func41 Mq Mq Gm [VG] [] []
def XH:SQ:=mk Tryd.func19 Mq Qd CA [Wt,VG,YZ,Xj] [] []
def Xd:SQ:=mk Tryd.func50 Qd R0 Co [XH,Vh,W0,Xm,Yt] [] []
def Yj:SQ:=mk Tryd.func36 ⟨[(0,Sh),(1,.c (.v tU)),(2,PU)],WK⟩ ⟨[(0,PU)],WK⟩ CP [Vh,W0,Xd] [] []
def Xl:SQ:=mk Tryd.func45 Qd Lq Fj [] [] []
def YA:SQ:=mk Tryd.func26 Tr Lq Fl [Vj,Vg,Xl] [] [⟨4,⟨[(1,Sh),(3,VU),(11,.c (.ref 2)),(12,KI),(13,KI)],XN⟩,Ab⟩]
def Yx:SQ:=Tz (LO J8 (enters_of J8.f144 (by kernel_rfl) rfl) Sc) rfl strings_Contains (fun _=>rfl)
def Xp:SQ:=mk Tryd.func29 ⟨[(0,.row Y0),(1,.c (.v tU))],[]⟩ TW Dy [XH,Wt,VG,Yx] [(4,[0]),(6,[0])] []
def Yi:SQ:=mk Tryd.func13 Tr TW EH [YA,XW,Vj,Xp] [(3,[0])] [⟨5,⟨[(1,Sh),(4,PU),(21,.c (.ref 1)),(22,KI),(23,KI)],[SA,.sl 9 tU]⟩,Bk⟩]
def X0:SQ:=mk Tryd.func15 Qd UF Dh [Yi,XW,Vj,Vh,Xq,Yj] [] [⟨6,⟨[(0,PU),(2,Sh),(5,PU),(7,VU),(30,.c (.ref 2)),(31,KI),(32,KI)],XN⟩,BM⟩]
def XZ:SQ:=mk Tryd.func16 ⟨[(0,.row Y0),(1,.row Y0)],[]⟩ Lq Fg [] [] []
abbrev i5:C0:=Qd
abbrev o5:C0:=Lq
def s5:SQ:=mk Tryd.func5 i5 o5 BA [Yd,X0,XZ] [] []
end
end Go.Proofs.YtancechjahedgaaDoor.Wk
