/- The framework, part 1: a checked interpreter of the model's code over abstract states; no claim is made here. -/
import Derived.Lib.LaidTab
import Derived.Lib.ItoaNum
import Derived.Calls
import Derived.Still
import Derived.Laws.World
import Derived.Laws.AppendOwn
import Derived.RowKit3
import Derived.Deep.MidRow
import Derived.Laws.StructEq
import Derived.Lib.ConvBytes
import Derived.Laws.BytesArg
import Derived.Tactics
import Derived.OrdersHeld
import Derived.ChangeArms
import Derived.ChangeOld
import Derived.DataReads
import Derived.Below
import Derived.Shelf.Spec.SlicesInsertGrow
import Derived.Shelf.Slices.Delete
import Derived.Lib.AtoiAll
import Derived.Lib.IndexMore
import Derived.Lib.Strings
import Derived.Lib.SlicesS
import Derived.Shelf.Strconv.Itoa3
import Derived.Shelf.Strings.Cut
import Derived.Shelf.Strings.Search3
import Derived.Shelf.Strings.Prefix
import Derived.Shelf.Slices.Turned
import Derived.Handed
import Derived.Stop.LaidErr
import Derived.MakeChecks
set_option linter.unusedVariables false
set_option linter.unusedSimpArgs false
set_option linter.unusedSectionVars false
abbrev T7:Type:=List Nat
abbrev UB:Type:=List Int × Int × Int × Unit
abbrev UA:Type:=List UInt8 × Unit
abbrev T8:Type:=Nat × Nat
abbrev UE:Type:=Int × Int × Bool × List UInt8 × Unit
abbrev T9:Type:=Bool × Unit
abbrev UC:Type:=Int × Unit
abbrev T_:Type:=Int × Int × List UInt8 × Unit
abbrev UD:Type:=Nat × List Nat
abbrev UF:=@List.getElem?_eq_some_iff
abbrev UG:=@Option.some.injEq
abbrev UH:=@List.getElem?_eq_getElem
abbrev UI:=@Option.map_eq_some_iff
abbrev UJ:=@Option.bind_eq_some_iff
abbrev UK:=@List.getElem?_append_left
abbrev UL:=@List.getElem?_set_ne
abbrev UM:=@List.append_assoc
abbrev UN:=@List.nodup_append
abbrev UO:=@List.mem_of_getElem?
abbrev UP:=@Sigma.mk.injEq
abbrev UQ:=@List.getElem?_set_self
abbrev UR:=@List.getElem?_append_right
abbrev US:=@List.Perm.append_right
abbrev UT:=@Bool.and_eq_true
abbrev UU:=@List.mem_append
abbrev UW:=@List.eq_nil_of_length_eq_zero
abbrev UX:=@List.Perm.append_left
abbrev UY:=@List.perm_append_comm
abbrev UZ:=@List.mem_flatten
abbrev Ua:=@List.cons.injEq
abbrev Ub:=@List.length_append
abbrev Uc:=@eq_of_heq
abbrev Ud:=@List.append_nil
abbrev Ue:=@List.getElem?_map
abbrev Uf:=@List.length_cons
abbrev Ug:=@Prod.mk.injEq
abbrev Uh:=@Nat.lt_of_lt_of_le
abbrev Ui:=@Nat.le_refl
abbrev Uj:=@decide_eq_true_eq
abbrev Uk:=@List.flatten_cons
abbrev Ul:=@Option.bind_assoc
abbrev Um:=@List.length_nil
abbrev Un:=@Int.tdiv_eq_ediv_of_nonneg
abbrev Uo:=@List.mem_cons
abbrev Uq:=@Nat.mul_le_mul_right
abbrev Ur:=@List.getElem_of_mem
abbrev Us:=@and_true
abbrev Ut:=@Bool.false_eq_true
abbrev Uu:=@List.eq_of_mem_replicate
abbrev Uv:=@List.flatten_append
abbrev Uw:=@Option.bind_some
abbrev Ux:=@Nat.add_mul
abbrev Uy:=@if_pos
abbrev Uz:=@List.all_eq_true
abbrev U0:=@List.getElem?_set
abbrev U1:=@if_neg
abbrev U2:=@Nat.zero_add
abbrev U3:=@List.mem_cons_of_mem
abbrev U4:=@Array.getD_eq_getD_getElem?
abbrev U5:=@List.getD_eq_getElem?_getD
abbrev U6:=@List.cons_append
abbrev U7:=@Option.isSome_none
abbrev U8:=@List.ext_getElem?
abbrev U9:=@List.nodup_cons
abbrev U_:=@Bool.eq_false_or_eq_true
abbrev VA:=@Nat.le_trans
abbrev VB:=@Nat.add_zero
abbrev VC:=@List.map_congr_left
abbrev VD:=@Nat.add_assoc
abbrev VE:=@List.replicate_succ
abbrev VF:=@Array.length_toList
abbrev VG:=@List.getElem_mem
abbrev VH:=@List.getElem?_drop
abbrev VI:=@if_false
abbrev VJ:=@Int.tmod_eq_emod_of_nonneg
abbrev VK:=@List.exists_cons_of_length_eq_add_one
abbrev VL:=@List.flatten_nil
abbrev VM:=@List.nil_append
abbrev VN:=@if_true
abbrev VO:=@Nat.one_mul
abbrev VP:=@List.contains_iff_mem
abbrev VQ:=@List.take_append_drop
abbrev VS:=@Nat.succ_mul
abbrev VT:=@List.getElem?_eq_none
abbrev VU:=@List.map_cons
abbrev VV:=@List.all_cons
abbrev VW:=@dite_true
abbrev VX:=@Bool.or_eq_true
abbrev VY:=@List.perm_iff_count
abbrev VZ:=@List.set_set
abbrev Va:=@List.map_nil
abbrev Vb:=@List.map_map
abbrev Vc:=@List.Perm.refl
abbrev Ve:=@List.mapM_cons
section
namespace Go.Fw
open Go
def MS:Nat:=1
def LV:Nat:=0
def GI(w:World):Prop:=(∃t fr,w.heap[MS]? =some (.cells (Go.Lib.pow10Tab.map fun z=>Value.int .u64 z).toArray t fr))∧ ∃m,w.cell? ⟨LV,0,none⟩=some (.int .i64 m)
theorem GI.tab{P:Program}{w:World}(h:GI w)(hg:P.globalNamed "internal/strconv.uint64pow10" =some MS):Go.Lib.TabIs P w "internal/strconv.uint64pow10" .u64 Go.Lib.pow10Tab:=by
 obtain⟨⟨t,fr,h1⟩,_⟩:=h;unfold Go.Lib.TabIs World.var?;rw[hg];simp only[Uw,h1]
theorem GI.of{P:Program}{w w':World}(hg:P.globalNamed "internal/strconv.uint64pow10" =some MS)(ht:Go.Lib.TabIs P w "internal/strconv.uint64pow10" .u64 Go.Lib.pow10Tab)(hm:∃m,w.cell? ⟨LV,0,none⟩=some (.int .i64 m))
  (hw:∀c,c<w.heap.size→w'.heap[c]? =w.heap[c]?):GI w':=by
 have lt:∀b o,w.heap[b]? =some o→b<w.heap.size:=fun b o h=>by
  by_cases hb:b<w.heap.size
  ·exact hb
  ·rw[Array.getElem?_eq_none (by omega)]at h;cases h
 unfold Go.Lib.TabIs World.var? at ht;rw[hg]at ht;simp only[Uw]at ht;refine⟨?_,?_⟩
 ·cases ho:w.heap[MS]? with
  |none=>rw[ho]at ht;cases ht
  |some o=>
   rw[ho]at ht;cases o with
   |cells cs t fr=>
    simp only[UG]at ht;exact⟨t,fr,by rw[hw _ (lt _ _ ho),ho,ht]⟩
   |_=>cases ht
 ·obtain⟨m,hm⟩:=hm
  refine⟨m,?_⟩;have hb:w'.heap[LV]? =w.heap[LV]?:=by
   cases ho:w.heap[LV]? with
   |none=>simp[World.cell?,ho]at hm
   |some o=>rw[hw _ (lt _ _ ho),ho]
  rw[←hm];simp only[World.cell?,hb]
end Go.Fw
end
section
namespace Go.Fw
inductive Ty where
 |int (k:IntKind)|bool|str|sl (r:Ty)|unit|cons (c r:Ty)
 deriving DecidableEq
@[reducible] def Ty.D:Ty→Type
 | .int _=>Int
 | .bool=>Bool
 | .str=>List UInt8
 | .sl r=>List r.D
 | .unit=>Unit
 | .cons c r=>c.D×r.D
def Ty.n:Ty→Nat
 | .unit=>0
 | .cons _ r=>r.n+1
 |_=>1
def Ty.z:(t:Ty)→t.D
 | .int _=>(0:Int)
 | .bool=>false
 | .str=>[]
 | .sl _=>[]
 | .unit=>()
 | .cons c r=>(c.z,r.z)
def Ty.flat:Ty→Bool
 | .sl _=>false
 | .cons c r=>c.flat&&r.flat
 |_=>true
def Ty.scalar:Ty→Bool
 | .int _| .bool| .str=>true
 |_=>false
structure HW where
 i:Nat
 sz:Nat
 j:Nat
inductive AV where
 |v (t:Ty) (x:t.D)
 |sl (s:Bool) (r:Ty) (x:List r.D)
 |nil
 |ref (b:Nat) (p:List HW)
 |win (b:Nat) (p:List HW) (off n:Nat)
 |A6 (b j:Nat)
 |BH (b:Nat) (p:List HW) (i sz j:Nat)
 |B3 (s:Bool) (r:Ty) (x:r.D) (j:Nat)
 |fn (f:Nat) (BL:T7)
 |J2 (f:Nat) (rows:List ((r:Ty)×r.D))
 |LF
 |undef
def AV.known:AV→Bool
 | .undef=>false
 |_=>true
inductive XV where
 |c (x:AV)
 |agg (l:List AV)
 |C9 (l:List (AV ⊕ List AV))
inductive Bx where
 |mem (cs:List AV)
 |sl (d:Nat) (r:Ty) (rows:List r.D)
 |dead
structure St where
 tm:List XV
 bx:List Bx
def AB:(r:Ty)→(j:Nat)→r.D→Option ((t:Ty)×t.D)
 | .cons c _,0,x=>some ⟨c,x.1⟩
 | .cons _ r,j+1,x=>AB r j x.2
 | .unit,_,_=>none
 | .int k,0,x=>some ⟨.int k,x⟩
 | .bool,0,x=>some ⟨.bool,x⟩
 | .str,0,x=>some ⟨.str,x⟩
 | .sl r,0,x=>some ⟨.sl r,x⟩
 |_,_+1,_=>none
def I2{a b:Ty}(h:a=b)(x:a.D):b.D:=h▸x
def AQ:(r:Ty)→(j:Nat)→r.D→(t:Ty)→t.D→Option r.D
 | .cons c _,0,x,t,y=>if h:t=c then some (I2 h y,x.2)else none
 | .cons _ r,j+1,x,t,y=>(AQ r j x.2 t y).map fun z=>(x.1,z)
 | .unit,_,_,_,_=>none
 | .int k,0,_,t,y=>if h:t= .int k then some (I2 h y)else none
 | .bool,0,_,t,y=>if h:t= .bool then some (I2 h y)else none
 | .str,0,_,t,y=>if h:t= .str then some (I2 h y)else none
 | .sl r,0,_,t,y=>if h:t= .sl r then some (I2 h y)else none
 |_,_+1,_,_,_=>none
def rowAt(r:Ty)(rows:List r.D)(i:Nat):r.D:=rows.getD i r.z
def Aq:(r:Ty)→List r.D→List HW→Option ((q:Ty)×List q.D)
 |r,rows,[]=>some ⟨r,rows⟩
 |r,rows,s::p=>
  match AB r s.j (rowAt r rows s.i)with
  |some ⟨.sl q,x⟩=>Aq q x p
  |_=>none
def IZ:(r:Ty)→List r.D→List HW→(q:Ty)→List q.D→Option (List r.D)
 |r,_,[],q,y=>if h:q=r then some (I2 (congrArg Ty.sl h) y)else none
 |r,rows,s::p,q,y=>
  match AB r s.j (rowAt r rows s.i)with
  |some ⟨.sl r',x⟩=>(IZ r' x p q y).bind fun x' =>(AQ r s.j (rowAt r rows s.i) (.sl r') x').map fun row=>rows.set s.i row
  |_=>none
inductive TD where
 |int (k:IntKind)|bool|str|sl (e:Nat)|st (fs:List T8)|ptr (e:Nat)|other
structure TI where
 size:Nat
 bytes:Nat
 desc:TD
 row:Option Ty
abbrev BQ:=List (Nat×TI)
def BQ.get:BQ→Nat→Option TI
 |[],_=>none
 |(u,i)::l,t=>if u=t then some i else BQ.get l t
def TD.agg:TD→Bool
 | .st _=>true
 |_=>false
def BQ.GR(T:BQ)(t:Nat):Option Ty:=
 match T.get t with
 |some ti=>ti.row
 |none=>none
def LR:Ty→AV
 | .int k=> .v (.int k) (0:Int)
 | .bool=> .v .bool false
 | .str=> .v .str []
 | .sl _=> .nil
 |_=> .undef
def Ek:Ty→List AV
 | .cons c r=>LR c::Ek r
 | .unit=>[]
 |t=>[LR t]
def Ii:Value→AV
 | .int k n=> .v (.int k) n
 | .bool b=> .v .bool b
 | .string s=> .v .str s.data.toList
 | .slice none 0 0=> .nil
 | .pointer none=> .LF
 |_=> .undef
def ofValue:Value→XV
 | .agg cs=> .agg (cs.toList.map Ii)
 |v=> .c (Ii v)
def St.ev(σ:St):Operand→XV
 | .tmp t=>σ.tm.getD t (.c .undef)
 | .const v=>ofValue v
 | .global _=> .c .undef
 | .func f=> .c (.fn f [])
def St.put(σ:St)(dst:Option Tmp)(x:XV):St:=
 match dst with
 |some d=>{ σ with tm:=σ.tm.set d x }
 |none=>σ
def XV.cells:XV→List AV
 | .c x=>[x]
 | .agg l=>l
 | .C9 _=>[]
def CL{β:Ty→Type}(a b:Ty)(x:β a):Option (β b):=if h:a=b then some (h▸x)else none
def Bp(bx:List Bx):AV→Option ((r:Ty)×List r.D)
 | .sl _ r x=>some ⟨r,x⟩
 | .ref b p=>
  match bx[b]? with
  |some (.sl _ r rows)=>Aq r rows p
  |_=>none
 | .win b p off n=>
  match bx[b]? with
  |some (.sl _ r rows)=>(Aq r rows p).map fun q=>⟨q.1,(q.2.drop off).take n⟩
  |_=>none
 |_=>none
def Bi(bx:List Bx)(t:Ty)(x:AV):Option t.D:=
 match x with
 | .v u y=>CL (β:=Ty.D) u t y
 | .nil=>match t with
  | .sl _=>some []
  |_=>none
 |x=>match t with
  | .sl r=>(Bp bx x).bind fun q=>CL (β:=fun r=>List r.D) q.1 r q.2
  |_=>none
def A3(bx:List Bx):(r:Ty)→List AV→Option r.D
 | .unit,[]=>some ()
 | .cons c r,x::l=>(Bi bx c x).bind fun a=>(A3 bx r l).map fun b=>(a,b)
 |_,_=>none
def lenOf(bx:List Bx):AV→Option Nat
 | .nil=>some 0
 | .sl _ _ x=>some x.length
 | .ref b p=>
  match bx[b]? with
  |some (.sl _ r rows)=>(Aq r rows p).map fun q=>q.2.length
  |_=>none
 | .win b _ _ n=>
  match bx[b]? with
  |some (.sl _ _ _)=>some n
  |_=>none
 |_=>none
inductive AP where
 |v (t:Ty)
 |sl (s:Bool) (r:Ty)
 |nil
 |ref (i:Nat)
 |ptr (i j:Nat)
 |Km (r:Ty)
 |fn (f:Nat) (BL:T7)
 |J2 (f:Nat) (rs:List Ty)
 |any
 |G8 (i sz:Nat)
inductive XP where
 |c (p:AP)
 |agg (l:List AP)
 |row (r:Ty)
 |C9 (l:List (AP ⊕ List AP))
inductive BP where
 |mem (l:List AP)
 |sl (d:Nat) (r:Ty)
 |gone
structure CM where
 AX:List (Nat×XP)
 Ar:List BP
@[reducible] def EB:List Ty→Type
 |[]=>Unit
 |r::l=>r.D×EB l
def EB.mk:(l:List Ty)→EB l→List ((r:Ty)×r.D)
 |[],_=>[]
 |r::l,x=>⟨r,x.1⟩::EB.mk l x.2
@[reducible] def AP.V:AP→Type
 | .J2 _ rs=>EB rs
 | .v t=>t.D
 | .sl _ r=>List r.D
 | .Km r=>r.D
 | .G8 _ _=>Nat×Nat
 |_=>Unit
@[reducible] def Dm.V:List AP→Type
 |[]=>Unit
 |p::l=>p.V×Dm.V l
@[reducible] def Dx.V:List (AP ⊕ List AP)→Type
 |[]=>Unit
 | .inl p::l=>p.V×Dx.V l
 | .inr q::l=>Dm.V q×Dx.V l
@[reducible] def XP.V:XP→Type
 | .c p=>p.V
 | .agg l=>Dm.V l
 | .row r=>r.D
 | .C9 l=>Dx.V l
@[reducible] def BP.V:BP→Type
 | .mem l=>Dm.V l
 | .sl _ r=>List r.D
 | .gone=>Unit
@[reducible] def An.V:List (Nat×XP)→Type
 |[]=>Unit
 |(_,p)::l=>p.V×An.V l
@[reducible] def BD.V:List BP→Type
 |[]=>Unit
 |p::l=>p.V×BD.V l
@[reducible] def CM.V (s:CM):Type:=An.V s.AX×BD.V s.Ar
def AP.mk(m:Nat→Nat):(p:AP)→p.V→AV
 | .v t,x=> .v t x
 | .sl s r,x=> .sl s r x
 | .nil,_=> .nil
 | .ref i,_=> .ref (m i) []
 | .ptr i j,_=> .A6 (m i) j
 | .Km r,x=> .B3 false r x 0
 | .fn f BL,_=> .fn f (BL.map m)
 | .J2 f rs,x=> .J2 f (EB.mk rs x)
 | .any,_=> .undef
 | .G8 i sz,k=> .ref (m i) [⟨k.1,sz,k.2⟩]
def Dm.mk(m:Nat→Nat):(l:List AP)→Dm.V l→List AV
 |[],_=>[]
 |p::l,x=>p.mk m x.1::Dm.mk m l x.2
def GP:(r:Ty)→r.D→List AV
 | .unit,_=>[]
 | .cons c r,x=>(match c,x.1 with
  | .sl q,y=>AV.sl false q y
  |c,y=> .v c y)::GP r x.2
 | .sl q,x=>[.sl false q x]
 | .int k,x=>[.v (.int k) x]
 | .bool,x=>[.v .bool x]
 | .str,x=>[.v .str x]
def Dx.mk(m:Nat→Nat):(l:List (AP ⊕ List AP))→Dx.V l→List (AV ⊕ List AV)
 |[],_=>[]
 | .inl p::l,x=> .inl (p.mk m x.1)::Dx.mk m l x.2
 | .inr q::l,x=> .inr (Dm.mk m q x.1)::Dx.mk m l x.2
def XP.mk(m:Nat→Nat):(p:XP)→p.V→XV
 | .c p,x=> .c (p.mk m x)
 | .agg l,x=> .agg (Dm.mk m l x)
 | .row r,x=> .agg (GP r x)
 | .C9 l,x=> .C9 (Dx.mk m l x)
def BP.mk(m:Nat→Nat):(p:BP)→p.V→Bx
 | .mem l,x=> .mem (Dm.mk m l x)
 | .sl d r,x=> .sl d r x
 | .gone,_=> .dead
def An.mk(m:Nat→Nat):(l:List (Nat×XP))→An.V l→List XV→List XV
 |[],_,tm=>tm
 |(i,p)::l,x,tm=>An.mk m l x.2 (tm.set i (p.mk m x.1))
def BD.mk(m:Nat→Nat):(l:List BP)→BD.V l→List Bx
 |[],_=>[]
 |p::l,x=>p.mk m x.1::BD.mk m l x.2
def CM.st(s:CM)(n:Nat)(x:s.V):St:=
 { tm:=An.mk id s.AX x.1 (List.replicate n (.c .undef)),bx:=BD.mk id s.Ar x.2 }
abbrev CC:=List (Option Nat)
def CC.put(m:CC)(i b:Nat):Option CC:=
 match m[i]? with
 |some none=>if m.contains (some b)then none else some (m.set i (some b))
 |some (some b')=>if b' =b then some m else none
 |none=>none
def Ei:CC→List Nat→List Nat→Option CC
 |m,[],[]=>some m
 |m,i::is,b::bs=>(m.put i b).bind fun m=>Ei m is bs
 |_,_,_=>none
def AP.Bv(N:Nat)(m:CC):AP→AV→Option CC
 | .ref i,.ref b []=>m.put i b
 | .ref i,.nil=>m.put i (N+i)
 | .ref _,_=>none
 | .G8 i sz,.ref b [s]=>if s.sz=sz then m.put i b else none
 | .G8 _ _,_=>none
 | .ptr i j,.A6 b j' =>if j=j' then m.put i b else none
 | .ptr _ _,_=>none
 | .fn f BL,.fn g bs=>if f=g then Ei m BL bs else none
 | .fn _ _,_=>none
 | .nil,.nil=>some m
 | .nil,_=>none
 |_,_=>some m
def Dm.Bv(N:Nat):CC→List AP→List AV→Option CC
 |m,[],[]=>some m
 |m,p::l,x::xs=>(p.Bv N m x).bind fun m=>Dm.Bv N m l xs
 |_,_,_=>none
def Dx.Bv(N:Nat):CC→List (AP ⊕ List AP)→List (AV ⊕ List AV)→Option CC
 |m,[],[]=>some m
 |m,.inl p::l,.inl x::xs=>(p.Bv N m x).bind fun m=>Dx.Bv N m l xs
 |m,.inr p::l,.inr x::xs=>(Dm.Bv N m p x).bind fun m=>Dx.Bv N m l xs
 |_,_,_=>none
def XP.Bv(N:Nat)(m:CC):XP→XV→Option CC
 | .c p,.c x=>p.Bv N m x
 | .agg l,.agg xs=>Dm.Bv N m l xs
 | .row _,.agg _=>some m
 | .C9 l,.C9 xs=>Dx.Bv N m l xs
 |_,_=>none
def An.Bv(N:Nat)(tm:List XV):CC→List (Nat×XP)→Option CC
 |m,[]=>some m
 |m,(i,p)::l=>
  match tm[i]? with
  |some x=>(p.Bv N m x).bind fun m=>An.Bv N tm m l
  |none=>none
def BD.Bv(N:Nat)(bx:List Bx):Nat→CC→List BP→Option CC
 |_,m,[]=>some m
 |i,m,.mem l::ps=>
  match m[i]? with
  |some (some b)=>
   match bx[b]? with
   |some (.mem cs)=>(Dm.Bv N m l cs).bind fun m=>BD.Bv N bx (i+1) m ps
   |_=>none
  |_=>none
 |i,m,.sl _ _::ps=>
  match m[i]? with
  |some (some _)=>BD.Bv N bx (i+1) m ps
  |_=>none
 |i,m,.gone::ps=>BD.Bv N bx (i+1) m ps
def AH(bx:List Bx):CC→List Bx
 |[]=>bx
 |some b::m=>AH (bx.set b .dead) m
 |none::m=>AH bx m
def EB.I1:(l:List Ty)→List ((r:Ty)×r.D)→Option (EB l)
 |[],[]=>some ()
 |r::l,q::qs=>(CL (β:=Ty.D) q.1 r q.2).bind fun a=>(EB.I1 l qs).map fun b=>(a,b)
 |_,_=>none
def EB.H5(bx:List Bx):(l:List Ty)→List Nat→Option (EB l)
 |[],[]=>some ()
 |r::l,b::bs=>(match bx[b]? with
  |some (.mem cs)=>A3 bx r cs
  |_=>none).bind fun a=>(EB.H5 bx l bs).map fun c=>(a,c)
 |_,_=>none
def AP.get(bx:List Bx):(p:AP)→AV→Option p.V
 | .J2 f rs,x=>match x with
  | .J2 g rows=>if f=g then EB.I1 rs rows else none
  | .fn g bs=>if f=g then EB.H5 bx rs bs else none
  |_=>none
 | .v t,x=>if t.scalar then Bi bx t x else none
 | .sl false r,x=>Bi bx (.sl r) x
 | .sl true r,x=>match x with
  | .sl true q y=>CL (β:=fun r=>List r.D) q r y
  | .nil=>some []
  |_=>none
 | .Km r,x=>match x with
  | .B3 _ q y 0=>CL (β:=Ty.D) q r y
  | .A6 b 0=>match bx[b]? with
   |some (.mem cs)=>A3 bx r cs
   |_=>none
  | .BH b p i sz 0=>match bx[b]? with
   |some (.sl _ q rows)=>(Aq q rows p).bind fun s=>if sz=s.1.n then CL (β:=Ty.D) s.1 r (rowAt s.1 s.2 i)else none
   |_=>none
  |_=>none
 | .nil,_=>some ()
 | .ref _,_=>some ()
 | .ptr _ _,_=>some ()
 | .fn _ _,_=>some ()
 | .any,_=>some ()
 | .G8 _ _,x=>match x with
  | .ref _ [s]=>some (s.i,s.j)
  |_=>none
def Dm.get(bx:List Bx):(l:List AP)→List AV→Option (Dm.V l)
 |[],[]=>some ()
 |p::l,x::xs=>(p.get bx x).bind fun a=>(Dm.get bx l xs).map fun b=>(a,b)
 |_,_=>none
def Dx.get(bx:List Bx):(l:List (AP ⊕ List AP))→List (AV ⊕ List AV)→Option (Dx.V l)
 |[],[]=>some ()
 | .inl p::l,.inl x::xs=>(p.get bx x).bind fun a=>(Dx.get bx l xs).map fun b=>(a,b)
 | .inr p::l,.inr x::xs=>(Dm.get bx p x).bind fun a=>(Dx.get bx l xs).map fun b=>(a,b)
 |_,_=>none
def XP.get(bx:List Bx):(p:XP)→XV→Option p.V
 | .c p,.c x=>p.get bx x
 | .agg l,.agg xs=>Dm.get bx l xs
 | .row r,.agg xs=>A3 bx r xs
 | .C9 l,.C9 xs=>Dx.get bx l xs
 |_,_=>none
def An.get(bx:List Bx)(tm:List XV):(l:List (Nat×XP))→Option (An.V l)
 |[]=>some ()
 |(i,p)::l=>
  match tm[i]? with
  |some x=>(p.get bx x).bind fun a=>(An.get bx tm l).map fun b=>(a,b)
  |none=>none
def BD.get(bx bk:List Bx):(m:CC)→(l:List BP)→Option (BD.V l)
 |_,[]=>some ()
 |some b::m,.mem l::ps=>
  match bx[b]? with
  |some (.mem cs)=>(Dm.get bk l cs).bind fun a=>(BD.get bx bk m ps).map fun c=>(a,c)
  |_=>none
 |some b::m,.sl d r::ps=>
  match bx[b]? with
  |some (.sl d' q rows)=>if 1≤d∧d≤d' then(CL (β:=fun r=>List r.D) q r rows).bind fun a=>(BD.get bx bk m ps).map fun c=>(a,c)else none
  |_=>none
 |_::m,.gone::ps=>(BD.get bx bk m ps).map fun c=>((),c)
 |_,_=>none
def CM.fit(s:CM)(N:Nat)(m0:CC)(tm:List XV)(bx:List Bx):Option (s.V×CC):=
 (An.Bv N tm m0 s.AX).bind fun m=>(BD.Bv N bx 0 m s.Ar).bind fun m=>
  let bk:=AH bx m
  (An.get bk tm s.AX).bind fun a=>(BD.get bx bk m s.Ar).map fun c=>((a,c),m)
def BP.opened:BP→Bx
 | .sl d r=> .sl (d+1) r []
 |_=> .dead
def CM.opens(s:CM)(bx:List Bx):List Bx:=bx++s.Ar.map BP.opened
def CM.m0(s:CM):CC:=List.replicate s.Ar.length none
structure Dn where
 ins:CM
 outs:CM
 g:ins.V→Option outs.V
def D2(m:CC)(n:Nat)(i:Nat):Nat:=
 match m[i]? with
 |some (some b)=>b
 |_=>n+(i-m.length)
def EI(BK:Nat→Nat):Nat→(l:List BP)→BD.V l→List Bx→List Bx
 |_,[],_,bx=>bx
 |i,p::l,x,bx=>EI BK (i+1) l x.2 (if BK i<bx.length then bx.set (BK i) (p.mk BK x.1)else bx++[p.mk BK x.1])
def FV:(l:List (Nat×XP))→An.V l→(Nat→Nat)→XV
 |(_,p)::_,x,BK=>p.mk BK x.1
 |[],_,_=> .c .undef
def Dp:Nat:=2^36
section ops
variable{Y:Type}
abbrev K(Y:Type):=XV→St→Option Y
def St.new(σ:St)(b:Bx):St:={ σ with bx:=σ.bx++[b] }
def Nc(x:Bool)(a b:XV)(σ:St)(k:K Y):Option Y:=cond x (k a σ) (k b σ)
def Fe(op:BinOp)(κ:IntKind)(a b:Int)(k:AV→Option Y):Option Y:=
 match op with
 | .add=>k (.v (.int κ) (κ.wrap (a+b)))
 | .sub=>k (.v (.int κ) (κ.wrap (a-b)))
 | .mul=>k (.v (.int κ) (κ.wrap (a*b)))
 | .quo=>if b=0 then none else k (.v (.int κ) (κ.wrap (a.tdiv b)))
 | .rem=>if b=0 then none else k (.v (.int κ) (a.tmod b))
 | .and=>k (.v (.int κ) (κ.wrap (BitVec.ofInt κ.bits a &&& BitVec.ofInt κ.bits b).toNat))
 | .or=>k (.v (.int κ) (κ.wrap (BitVec.ofInt κ.bits a ||| BitVec.ofInt κ.bits b).toNat))
 | .xor=>k (.v (.int κ) (κ.wrap (BitVec.ofInt κ.bits a ^^^ BitVec.ofInt κ.bits b).toNat))
 | .andNot=>k (.v (.int κ) (κ.wrap (BitVec.ofInt κ.bits a &&& ~~~BitVec.ofInt κ.bits b).toNat))
 | .eql=>k (.v .bool (a==b))
 | .neq=>k (.v .bool (a !=b))
 | .lss=>k (.v .bool (decide (a<b)))
 | .leq=>k (.v .bool (decide (a≤b)))
 | .gtr=>k (.v .bool (decide (a>b)))
 | .geq=>k (.v .bool (decide (a≥b)))
 |_=>none
def Dz(op:BinOp)(κ:IntKind)(a b:Int)(k:AV→Option Y):Option Y:=
 if b<0 then none else
 match op with
 | .shl=>k (.v (.int κ) (κ.wrap (a*2^min b.toNat κ.bits)))
 | .shr=>k (.v (.int κ) (a.fdiv (2^min b.toNat κ.bits)))
 |_=>none
def GO(op:BinOp)(a b:List UInt8)(k:AV→Option Y):Option Y:=
 match op with
 | .add=>if a.length+b.length≤Dp then k (.v .str (a++b))else none
 | .eql=>k (.v .bool (a==b))
 | .neq=>k (.v .bool (!(a==b)))
 | .lss=>k (.v .bool (Op.bytesLess a b))
 | .leq=>k (.v .bool (Op.bytesLess a b||a==b))
 | .gtr=>k (.v .bool (!(Op.bytesLess a b||a==b)))
 | .geq=>k (.v .bool (!Op.bytesLess a b))
 |_=>none
def IY:TD→AV→AV→Option Bool
 | .int _,.v (.int j) a,.v (.int k) b=>if j=k then some (a==b)else none
 | .bool,.v .bool a,.v .bool b=>some (a==b)
 | .str,.v .str a,.v .str b=>some (a==b)
 |_,_,_=>none
def BU(T:BQ):Nat→List T8→List AV→List AV→Option Bool
 |_,[],[],[]=>some true
 |i,(o,t)::fs,x::l,z::m=>
  if o=i then
   match T.get t with
   |some ti=>match IY ti.desc x z with
    |some p=>(BU T (i+1) fs l m).map fun r=>p&&r
    |none=>none
   |none=>none
  else none
 |_,_,_,_=>none
def BQ.fields(T:BQ)(t:Nat):Option (List T8):=
 match(T.get t).map TI.desc with
 |some (.st fs)=>some fs
 |_=>none
def Kv(T:BQ)(t:Nat)(op:BinOp)(a b:XV)(k:AV→Option Y):Option Y:=
 match a,b with
 | .c (.v (.int j) x),.c (.v (.int j') y)=>
  match op with
  | .shl| .shr=>Dz op j x y k
  |_=>if j=j' then Fe op j x y k else none
 | .c (.v .str x),.c (.v .str y)=>GO op x y k
 | .c (.v .bool x),.c (.v .bool y)=>
  match T.get t with
  |some ti=>match ti.desc with
   | .bool=>match op with
    | .eql=>k (.v .bool (x==y))
    | .neq=>k (.v .bool (!(x==y)))
    |_=>none
   |_=>none
  |none=>none
 | .agg l,.agg m=>
  match op,(T.fields t).bind fun fs=>BU T 0 fs l m with
  | .eql,some r=>k (.v .bool r)
  | .neq,some r=>k (.v .bool (!r))
  |_,_=>none
 |_,_=>none
def OX(op:UnOp)(a:XV)(k:AV→Option Y):Option Y:=
 match op,a with
 | .not,.c (.v .bool x)=>k (.v .bool (!x))
 | .neg,.c (.v (.int j) x)=>k (.v (.int j) (j.wrap (0-x)))
 |_,_=>none
def Lw(d b:Nat)(p:List HW)(s:HW):((t:Ty)×t.D)→AV
 |⟨.sl r,x⟩=>if d≤1 then .sl true r x else .ref b (p++[s])
 |⟨t,x⟩=>if t.scalar then .v t x else .undef
def LQ(s:Bool):((t:Ty)×t.D)→AV
 |⟨.sl r,x⟩=> .sl s r x
 |⟨t,x⟩=>if t.scalar then .v t x else .undef
def FM(f:Nat→Option AV):Nat→Nat→Option (List AV)
 |_,0=>some []
 |j,n+1=>(f j).bind fun x=>(FM f (j+1) n).map fun l=>x::l
def BE(bx:List Bx):AV→Nat→Option AV
 | .A6 b j,i=>
  match bx[b]? with
  |some (.mem cs)=>cs[j+i]?
  |_=>none
 | .BH b p r sz j,i=>
  match bx[b]? with
  |some (.sl d q rows)=>if p.length<d then(Aq q rows p).bind fun s=>if sz=s.1.n then(AB s.1 (j+i) (rowAt s.1 s.2 r)).map (Lw (d-p.length) b p ⟨r,sz,j+i⟩)else none else none
  |_=>none
 | .B3 s r x j,i=>(AB r (j+i) x).map (LQ s)
 |_,_=>none
def HM(T:BQ)(t:Nat)(σ:St)(a:XV):Option XV:=
 match a,T.get t with
 | .c a,some ti=>if ti.size=0 then none else if ti.desc.agg then(FM (BE σ.bx a) 0 ti.size).map .agg else(BE σ.bx a 0).map .c
 |_,_=>none
def FP(d:Nat)(t:Ty)(x:AV)(bx:List Bx):Option (t.D×List Bx×Nat):=
 match x with
 | .v u y=>(CL (β:=Ty.D) u t y).map fun y=>(y,bx,d)
 | .nil=>match t with
  | .sl _=>some ([],bx,d)
  |_=>none
 | .sl true r y=>match t with
  | .sl q=>(CL (β:=fun r=>List r.D) r q y).map fun y=>(y,bx,1)
  |_=>none
 | .ref b []=>match t with
  | .sl q=>
   match bx[b]? with
   |some (.sl d' r y)=>(CL (β:=fun r=>List r.D) r q y).map fun y=>(y,bx.set b .dead,min d (d'+1))
   |_=>none
  |_=>none
 | .win b [] off n=>match t with
  | .sl q=>
   match bx[b]? with
   |some (.sl d' r y)=>(CL (β:=fun r=>List r.D) r q ((y.drop off).take n)).map fun y=>(y,bx.set b .dead,min d (d'+1))
   |_=>none
  |_=>none
 |_=>none
def cellsIn(d:Nat):(r:Ty)→List AV→List Bx→Option (r.D×List Bx×Nat)
 | .unit,[],bx=>some ((),bx,d)
 | .cons c r,x::l,bx=>(FP d c x bx).bind fun a=>(cellsIn a.2.2 r l a.2.1).map fun b=>((a.1,b.1),b.2)
 |_,_,_=>none
def NR(d:Nat)(r:Ty)(x:XV)(bx:List Bx):Option (r.D×List Bx×Nat):=
 match x with
 | .agg l=>cellsIn d r l bx
 | .c x=>FP d r x bx
 |_=>none
def BI(b:Nat):AV→AV
 | .ref b' (s::p)=>if b' =b then .undef else .ref b' (s::p)
 | .win b' (s::p) i n=>if b' =b then .undef else .win b' (s::p) i n
 | .BH b' (s::p) i sz j=>if b' =b then .undef else .BH b' (s::p) i sz j
 |x=>x
def KB(b:Nat):XV→XV
 | .c x=> .c (BI b x)
 | .agg l=> .agg (l.map (BI b))
 | .C9 l=> .C9 (l.map fun| .inl x=> .inl (BI b x)| .inr q=> .inr (q.map (BI b)))
def L5(b:Nat):Bx→Bx
 | .mem cs=> .mem (cs.map (BI b))
 |x=>x
def St.Lv(b:Nat)(σ:St):St:={ tm:=σ.tm.map (KB b),bx:=σ.bx.map (L5 b) }
def Dd(cs:List AV):Nat→List AV→Option (List AV)
 |_,[]=>some cs
 |j,x::l=>if j<cs.length then Dd (cs.set j x) (j+1) l else none
def Is(d:Nat)(r:Ty)(QS:r.D)(j:Nat)(x:XV)(bx:List Bx):Option (r.D×List Bx×Nat):=
 match x with
 | .agg l=>if j=0 then cellsIn d r l bx else none
 | .c x=>
  match AB r j QS with
  |some ⟨t,_⟩=>(FP d t x bx).bind fun a=>(AQ r j QS t a.1).map fun row=>(row,a.2)
  |none=>none
 |_=>none
def XV.plain:XV→Bool
 | .c (.v _ _)=>true
 |_=>false
def Fo(σ:St)(a:XV)(x:XV):Option St:=
 match a with
 | .c (.A6 b j)=>
  match σ.bx[b]? with
  |some (.mem cs)=>(Dd cs j x.cells).map fun cs=>{ σ with bx:=σ.bx.set b (.mem cs) }
  |_=>none
 | .c (.BH b p i sz j)=>
  match σ.bx[b]? with
  |some (.sl d r rows)=>if p.length<d then
   (Aq r rows p).bind fun s=>if sz=s.1.n then(Is (d-p.length) s.1 (rowAt s.1 s.2 i) j x (σ.bx.set b .dead)).bind fun w=>
    (IZ r rows p s.1 (s.2.set i w.1)).map fun rows=>
     let σ':St:={ σ with bx:=w.2.1.set b (.sl (w.2.2+p.length) r rows) }
     if x.plain then σ' else σ'.Lv b
    else none
   else none
  |_=>none
 |_=>none
def EN(σ:St)(a x:XV):Option (St×XV):=
 match a,x with
 | .c (.BH b _ _ _ _),.c (.win b' (s::p') off n)=>
  if b' =b then
   match σ.bx[b]? with
   |some (.sl d r rows)=>(Aq r rows (s::p')).map fun q=>({ σ with bx:=σ.bx.set b (.sl (min d (p'.length+1)) r rows) },.c (.sl true q.1 ((q.2.drop off).take n)))
   |_=>none
  else none
 |_,_=>some (σ,x)
def FK(σ:St)(a x:XV):Option St:=(EN σ a x).bind fun q=>Fo q.1 a q.2
def Hl(bx:List Bx)(x:AV):Option ((r:Ty)×(List r.D×List Bx×Nat)):=
 match x with
 | .v .str s=>some ⟨.int .u8,s.map (fun c=>(c.toNat:Int)),bx,9⟩
 | .sl s r rows=>if r.flat then some ⟨r,rows,bx,9⟩else if s then some ⟨r,rows,bx,1⟩else none
 | .ref b []=>
  match bx[b]? with
  |some (.sl d r rows)=>if r.flat then some ⟨r,rows,bx,9⟩else some ⟨r,rows,bx.set b .dead,d⟩
  |_=>none
 | .ref b p=>
  match bx[b]? with
  |some (.sl _ r rows)=>(Aq r rows p).bind fun q=>if q.1.flat then some ⟨q.1,q.2,bx,9⟩else none
  |_=>none
 | .win b p off n=>
  match bx[b]? with
  |some (.sl _ r rows)=>(Aq r rows p).bind fun q=>if q.1.flat then some ⟨q.1,(q.2.drop off).take n,bx,9⟩else none
  |_=>none
 |_=>none
def Hu(bx:List Bx)(x:AV):Option ((r:Ty)×(List r.D×List Bx×Nat)):=
 match x with
 | .ref b []=>
  match bx[b]? with
  |some (.sl d r rows)=>some ⟨r,rows,bx.set b .dead,d⟩
  |_=>none
 | .win b [] off n=>
  match bx[b]? with
  |some (.sl d r rows)=>some ⟨r,(rows.drop off).take n,bx.set b .dead,d⟩
  |_=>none
 |_=>none
def BQ.elem(T:BQ)(t:Nat):Option TI:=
 match(T.get t).map TI.desc with
 |some (.sl e)=>T.get e
 |_=>none
def BQ.Ci(T:BQ)(t:Nat)(r:Ty):Bool:=
 match T.elem t with
 |some ti=>decide (ti.size=r.n)&&decide (ti.bytes≤512)&&decide (ti.row=some r)
 |none=>false
def BQ.isStr(T:BQ)(t:Nat):Bool:=
 match(T.get t).map TI.desc with
 |some .str=>true
 |_=>false
def BQ.Nx(T:BQ)(t:Nat):Bool:=
 match(T.get t).map TI.desc with
 |some (.sl _)=>true
 |_=>false
def FW(T:BQ)(ts:Array TypeId)(σ:St)(a x:XV)(k:K Y):Option Y:=
 match ts[0]?,ts[1]? with
 |some t,some u=>
  if T.Nx u||T.isStr u then
   match a,x with
   | .c .nil,.c y=>
    (Hl σ.bx y).bind fun s=>if T.Ci t s.1 then
     if s.2.1.length≤Dp then k (.c (.ref s.2.2.1.length [])) { σ with bx:=s.2.2.1++[.sl s.2.2.2 s.1 s.2.1] }else none
     else none
   | .c a,.c y=>
    (Hu σ.bx a).bind fun d=>if T.Ci t d.1 then(Hl d.2.2.1 y).bind fun s=>
     (CL (β:=fun r=>List r.D) s.1 d.1 s.2.1).bind fun rows=>
      if d.2.1.length+rows.length≤Dp then
       k (.c (.ref s.2.2.1.length [])) { σ with bx:=s.2.2.1++[.sl (min d.2.2.2 s.2.2.2) d.1 (d.2.1++rows)] }
      else none
     else none
   |_,_=>none
  else none
 |_,_=>none
def Gq(T:BQ)(ts:Array TypeId)(σ:St)(x:XV)(k:K Y):Option Y:=
 match ts[0]?,x with
 |some t,.c (.win b [] off n)=>
  match σ.bx[b]? with
  |some (.sl d r rows)=>if T.Ci t r&&(r.flat&&decide (0<r.n))then k (.c .undef) { σ with bx:=σ.bx.set b (.sl d r ((rows.take off++List.replicate n r.z)++rows.drop (off+n))) }else none
  |_=>none
 |_,_=>none
def FO:XV→Option Int
 | .c (.v (.int _) n)=>some n
 |_=>none
def B7(len:Nat)(lo hi:Option XV)(k:Nat→Nat→Option Y):Option Y:=
 let h:Option Int:=match hi with
  |none=>some (len:Int)
  |some x=>FO x
 let l:Option Int:=match lo with
  |none=>some 0
  |some x=>FO x
 match l,h with
 |some l,some h=>if 0≤l∧l≤h∧h≤(len:Int)then k l.toNat h.toNat else none
 |_,_=>none
def Gx(T:BQ)(t:Nat)(σ:St)(x:XV)(lo hi:Option XV)(k:K Y):Option Y:=
 match x with
 | .c (.v .str s)=>if T.isStr t then B7 s.length lo hi fun l h=>k (.c (.v .str ((s.drop l).take (h-l)))) σ else none
 | .c (.sl s r rows)=>if T.Ci t r then B7 rows.length lo hi fun l h=>k (.c (.sl s r ((rows.drop l).take (h-l)))) σ else none
 | .c (.ref b p)=>
  match Bp σ.bx (.ref b p)with
  |some q=>if T.Ci t q.1 then B7 q.2.length lo hi fun l h=>k (.c (.win b p l (h-l))) σ else none
  |none=>none
 |_=>none
def G6(σ:St)(T:BQ)(t:Nat)(x i:XV)(k:K Y):Option Y:=
 match x,FO i with
 | .c (.sl s r rows),some i=>if T.Ci t r then(if 0≤i∧i<(rows.length:Int)then k (.c (.B3 s r (rowAt r rows i.toNat) 0)) σ else none)else none
 | .c (.ref b p),some i=>
  match Bp σ.bx (.ref b p)with
  |some q=>if T.Ci t q.1 then(if 0≤i∧i<(q.2.length:Int)then k (.c (.BH b p i.toNat q.1.n 0)) σ else none)else none
  |none=>none
 | .c (.win b p off n),some i=>
  match Bp σ.bx (.ref b p)with
  |some q=>if T.Ci t q.1 then(if 0≤i∧i<(n:Int)then k (.c (.BH b p (off+i.toNat) q.1.n 0)) σ else none)else none
  |none=>none
 |_,_=>none
def KO(T:BQ)(t:Nat)(x:XV)(f:Nat):Option XV:=
 match T.get t with
 |some ⟨_,_,.st fs,_⟩=>
  match fs[f]? with
  |some (o,_)=>match x with
   | .c (.A6 b j)=>some (.c (.A6 b (j+o)))
   | .c (.BH b p i sz j)=>some (.c (.BH b p i sz (j+o)))
   | .c (.B3 s r y j)=>some (.c (.B3 s r y (j+o)))
   |_=>none
  |none=>none
 |_=>none
def NM(T:BQ)(t:Nat)(x:XV)(f:Nat):Option XV:=
 match T.get t,x with
 |some ⟨_,_,.st fs,_⟩,.agg l=>
  match fs[f]? with
  |some (o,u)=>
   match T.get u with
   |some ti=>if ti.desc.agg then some (.agg ((l.drop o).take ti.size))else(l[o]?).map .c
   |none=>none
  |none=>none
 |_,_=>none
def Jm(T:BQ)(src dst:Nat)(σ:St)(x:XV)(k:K Y):Option Y:=
 match(T.get src).map TI.desc,(T.get dst).map TI.desc,x with
 |some (.int _),some (.int κ),.c (.v (.int _) n)=>k (.c (.v (.int κ) (κ.wrap n))) σ
 |some .str,some .str,.c (.v .str s)=>k (.c (.v .str s)) σ
 |some .str,some (.sl e),.c (.v .str s)=>
  match(T.get e).map TI.desc with
  |some (.int .u8)=>if s.length≤Dp then k (.c (.ref σ.bx.length [])) (σ.new (.sl 9 (.int .u8) (s.map fun c=>(c.toNat:Int))))else none
  |_=>none
 |some (.sl e),some .str,.c x=>
  match(T.get e).map TI.desc,Bi σ.bx (.sl (.int .u8)) x with
  |some (.int .u8),some l=>k (.c (.v .str (l.map fun n:Int=>UInt8.ofNat n.toNat))) σ
  |_,_=>none
 |_,_,_=>none
def Jb(T:BQ)(t:Nat)(σ:St)(l c:XV)(k:K Y):Option Y:=
 match(T.get t).map TI.desc,FO l,FO c with
 |some (.sl e),some n,some m=>
  match BQ.GR T e with
  |some r=>if T.Ci t r then(if 0≤n∧n≤m∧m≤(Dp:Int)then k (.c (.ref σ.bx.length [])) (σ.new (.sl 9 r (List.replicate n.toNat r.z)))else none)else none
  |none=>none
 |_,_,_=>none
def GA(T:BQ)(fs:List T8):List AV→List (Nat×XV)→Option (List AV)
 |cs,[]=>some cs
 |cs,(i,x)::l=>
  match fs[i]? with
  |some (o,u)=>
   match T.get u with
   |some ti=>if x.cells.length=ti.size∧ti.size≠0∧x.cells.all AV.known=true then(Dd cs o x.cells).bind fun cs=>GA T fs cs l else none
   |none=>none
  |none=>none
def Dv(r:Ty):Nat→Nat→List (Nat×XV)→List Bx→Nat→Option (List r.D×List Bx×Nat)
 |_,0,[],bx,d=>some ([],bx,d)
 |i,n+1,(j,x)::l,bx,d=>
  if i=j then(NR d r x bx).bind fun a=>(Dv r (i+1) n l a.2.1 a.2.2).map fun b=>(a.1::b.1,b.2)else none
 |i,n+1,[],bx,d=>(Dv r (i+1) n [] bx d).map fun b=>(r.z::b.1,b.2)
 |_,0,_::_,_,_=>none
def CQ(T:BQ)(t n:Nat)(parts:List (Nat×XV))(σ:St)(k:K Y):Option Y:=
 match(T.get t).map TI.desc with
 |some (.sl e)=>
  match BQ.GR T e with
  |some r=>if T.Ci t r&&decide (n≤1024)&&decide (r.n≤1024)then(Dv r 0 n parts σ.bx 9).bind fun a=>k (.c (.ref a.2.1.length [])) { σ with bx:=a.2.1++[.sl a.2.2 r a.1] }else none
  |none=>none
 |_=>none
def DO(T:BQ)(t:Nat)(σ:St)(x i:XV)(k:K Y):Option Y:=
 match x,FO i with
 | .c (.v .str s),some i=>if T.isStr t then if 0≤i∧i<(s.length:Int)then k (.c (.v (.int .u8) ((s.getD i.toNat 0).toNat:Int))) σ else none else none
 |_,_=>none
def Hw(x:XV)(i:Nat):Option XV:=
 match x with
 | .C9 l=>match l[i]? with
  |some (.inl a)=>some (.c a)
  |some (.inr q)=>some (.agg q)
  |none=>none
 |_=>none
def Ab(m:CC):AV→AV
 | .ref b (s::p)=>if m.contains (some b)then .undef else .ref b (s::p)
 | .win b (s::p) i n=>if m.contains (some b)then .undef else .win b (s::p) i n
 | .BH b (s::p) i sz j=>if m.contains (some b)then .undef else .BH b (s::p) i sz j
 |x=>x
def Cz(m:CC):XV→XV
 | .c x=> .c (Ab m x)
 | .agg l=> .agg (l.map (Ab m))
 | .C9 l=> .C9 (l.map fun| .inl x=> .inl (Ab m x)| .inr q=> .inr (q.map (Ab m)))
def NF(m:CC):Bx→Bx
 | .mem cs=> .mem (cs.map (Ab m))
 |x=>x
def St.Dh(m:CC)(σ:St):St:=
 match m with
 |[]=>σ
 |_::_=>{ tm:=σ.tm.map (Cz m),bx:=σ.bx.map (NF m) }
def HS(c:Dn)(args:List XV)(σ:St)(k:K Y):Option Y:=
 if args.length=c.ins.AX.length then
  match c.ins.fit σ.bx.length c.ins.m0 args (c.ins.opens σ.bx)with
  |some (v,m)=>(c.g v).bind fun u=>
   let BK:=D2 m (c.ins.opens σ.bx).length
   let σ1:=({ σ with bx:=c.ins.opens σ.bx }:St).Dh m
   k (FV c.outs.AX u.1 BK) { σ1 with bx:=EI BK 0 c.outs.Ar u.2 (AH σ1.bx m) }
  |none=>none
 else none
def EV(σ:St)(x:XV)(k:K Y):Option Y:=
 match x with
 | .c (.win b [] off n)=>
  (Hu σ.bx (.win b [] off n)).bind fun s=>k (.c (.ref s.2.2.1.length [])) { σ with bx:=s.2.2.1++[.sl s.2.2.2 s.1 s.2.1] }
 |x=>k x σ
def Kr(l:List XV):Option T7:=
 match l with
 |[]=>some []
 | .c (.A6 b 0)::l=>(Kr l).map fun r=>b::r
 |_=>none
def J3(big:Bool)(a b:XV)(k:AV→Option Y):Option Y:=
 match a,b with
 | .c (.v (.int j) x),.c (.v (.int j') y)=>
  if j=j' then(if big then k (.v (.int j) (if y>x then y else x))else k (.v (.int j) (if y<x then y else x)))else none
 |_,_=>none
def DY(T:BQ)(Γ:Nat→Option Dn)(o:Oper)(σ:St)(k:K Y):Option Y:=
 match o.op with
 | .move x=>k (σ.ev x) σ
 | .assign x=>EV σ (σ.ev x) k
 | .pick c a b=>match σ.ev c with
  | .c (.v .bool x)=>Nc x (σ.ev a) (σ.ev b) σ k
  |_=>none
 | .alloc t=>match BQ.GR T t with
  |some r=>k (.c (.A6 σ.bx.length 0)) (σ.new (.mem (Ek r)))
  |none=>none
 | .box t x=>match T.get t with
  |some ti=>if(σ.ev x).cells.length=ti.size∧ti.size≠0∧(σ.ev x).cells.all AV.known=true then k (.c (.A6 σ.bx.length 0)) (σ.new (.mem (σ.ev x).cells))else none
  |none=>none
 | .build t parts=>match T.get t,BQ.GR T t with
  |some ⟨_,_,.st fs,_⟩,some r=>match GA T fs (Ek r) (parts.toList.map fun q=>(q.1,σ.ev q.2))with
   |some cs=>k (.agg cs) σ
   |none=>none
  |_,_=>none
 | .buildSlice t n parts=>CQ T t n (parts.toList.map fun q=>(q.1,σ.ev q.2)) σ k
 | .load t a=>match HM T t σ (σ.ev a)with
  |some x=>k x σ
  |none=>none
 | .store t a x=>match T.get t with
  |some ti=>if(σ.ev x).cells.length=ti.size∧ti.size≠0∧(σ.ev x).cells.all AV.known=true then(match FK σ (σ.ev a) (σ.ev x)with
   |some σ=>k (.c .undef) σ
   |none=>none)else none
  |none=>none
 | .nilCheck x=>match σ.ev x with
  | .c (.A6 b j)=>k (.c (.A6 b j)) σ
  | .c (.BH b p i sz j)=>k (.c (.BH b p i sz j)) σ
  | .c (.B3 s r y j)=>k (.c (.B3 s r y j)) σ
  | .c (.fn f BL)=>k (.c (.fn f BL)) σ
  |_=>none
 | .binOp op t x y _=>Kv T t op (σ.ev x) (σ.ev y) fun a=>k (.c a) σ
 | .unOp op _ x=>OX op (σ.ev x) fun a=>k (.c a) σ
 | .convert s d x=>Jm T s d σ (σ.ev x) k
 | .makeFunc (.func f) first BL=>if first.size=0 then(match Kr (BL.toList.map σ.ev)with
  |some bs=>k (.c (.fn f bs)) σ
  |none=>none)else none
 | .makeSlice t l c=>Jb T t σ (σ.ev l) (σ.ev c) k
 | .slice t x lo hi none=>Gx T t σ (σ.ev x) (lo.map σ.ev) (hi.map σ.ev) k
 | .fieldAddr t x f=>match KO T t (σ.ev x) f with
  |some y=>k y σ
  |none=>none
 | .field t x f=>match NM T t (σ.ev x) f with
  |some y=>k y σ
  |none=>none
 | .indexAddr t x i=>G6 σ T t (σ.ev x) (σ.ev i) k
 | .index t x i=>DO T t σ (σ.ev x) (σ.ev i) k
 | .extract x i=>match Hw (σ.ev x) i with
  |some y=>k y σ
  |none=>none
 | .call { callee:= .value f,args,.. }=>match σ.ev f with
  | .c (.fn f BL)=>match Γ f with
   |some c=>HS c (args.toList.map σ.ev++BL.map fun b=> .c (.A6 b 0)) σ k
   |none=>none
  | .c (.J2 f rows)=>match Γ f with
   |some c=>HS c (args.toList.map σ.ev++rows.map fun q=> .c (.B3 false q.1 q.2 0)) σ k
   |none=>none
  |_=>none
 | .call { callee:= .builtin .len,args,argTypes }=>match args.toList.map σ.ev,argTypes[0]? with
  |[.c (.v .str s)],some t=>if T.isStr t then k (.c (.v (.int .i64) (s.length:Int))) σ else none
  |[.c x],some t=>if T.Nx t then(match lenOf σ.bx x with
   |some n=>k (.c (.v (.int .i64) (n:Int))) σ
   |none=>none)else none
  |_,_=>none
 | .call { callee:= .builtin .append,args,argTypes }=>match args.toList.map σ.ev with
  |[a,x]=>FW T argTypes σ a x k
  |_=>none
 | .call { callee:= .builtin .clear,args,argTypes }=>match args.toList.map σ.ev with
  |[x]=>Gq T argTypes σ x k
  |_=>none
 | .call { callee:= .builtin .max,args,.. }=>match args.toList.map σ.ev with
  |[a,x]=>J3 true a x fun a=>k (.c a) σ
  |_=>none
 | .call { callee:= .builtin .min,args,.. }=>match args.toList.map σ.ev with
  |[a,x]=>J3 false a x fun a=>k (.c a) σ
  |_=>none
 |_=>none
end ops
end Go.Fw
end
section
namespace Go.Fw
section
variable{Y:Type}
structure I8 where
 T:BQ
 Γ:Nat→Option Dn
 hint:Nat→List Nat
def F6(hint:T7):XV→Bool
 | .c (.A6 b _)=>hint.contains b
 | .c (.BH b _ _ _ _)=>hint.contains b
 | .c (.B3 _ _ _ _)=>true
 |_=>false
def GK(hint:T7)(σ:St):Op→Bool
 | .assign x=>match σ.ev x with
  | .c (.win _ [] _ _)=>false
  |_=>true
 | .move _| .pick .. | .nilCheck _| .binOp .. | .unOp .. | .fieldAddr .. | .field .. | .indexAddr .. | .index .. | .extract .. | .build .. =>true
 | .slice _ _ _ _ none=>true
 | .load _ a=>F6 hint (σ.ev a)
 | .call { callee:= .builtin .len,.. }=>true
 | .call { callee:= .builtin .max,.. }=>true
 | .call { callee:= .builtin .min,.. }=>true
 |_=>false
def A_(Γ:Nat→Option Dn)(σ:St):Op→List Nat
 | .store _ a _=>match σ.ev a with
  | .c (.A6 b _)=>[b]
  | .c (.BH b _ _ _ _)=>[b]
  |_=>[]
 | .call { callee:= .value f,args,.. }=>match σ.ev f with
  | .c (.fn f BL)=>match Γ f with
   |some c=>match c.ins.fit σ.bx.length c.ins.m0 (args.toList.map σ.ev++BL.map fun b=> .c (.A6 b 0)) (c.ins.opens σ.bx)with
    |some (_,m)=>m.filterMap id
    |none=>[]
   |none=>[]
  | .c (.J2 f rows)=>match Γ f with
   |some c=>match c.ins.fit σ.bx.length c.ins.m0 (args.toList.map σ.ev++rows.map fun q=> .c (.B3 false q.1 q.2 0)) (c.ins.opens σ.bx)with
    |some (_,m)=>m.filterMap id
    |none=>[]
   |none=>[]
  |_=>[]
 | .call { callee:= .builtin .clear,args,.. }=>match args.toList.map σ.ev with
  |[.c (.win b _ _ _)]=>[b]
  |_=>[]
 |_=>[]
def tt:XV:= .c (.v .bool true)
def ff:XV:= .c (.v .bool false)
def Ls(C:I8)(ops:Array Oper)(o:Oper)(kn:St→Option Y)(σ:St):Option Y:=
 match o.guard with
 |none=>DY C.T C.Γ o σ fun x σ' =>kn (σ'.put o.dst x)
 |some (j,want)=>
  match(ops[j]?).bind (·.dst)with
  |some t=>
   match σ.tm[t]? with
   |some (.c (.v .bool b))=>
    let yes (σ:St):Option Y:=DY C.T C.Γ o σ fun x σ' =>kn (σ'.put o.dst x)
    let no (σ:St):Option Y:=kn (σ.put o.dst (.C9 []))
    cond b ((if want then yes else no) (σ.put (some t) tt)) ((if want then no else yes) (σ.put (some t) ff))
   |some (.C9 [])=>kn (σ.put o.dst (.C9 []))
   |_=>none
  |none=>none
def Ju(C:I8)(all:Array Oper):List Oper→(St→Option Y)→St→Option Y
 |[],kn,σ=>kn σ
 |o::rest,kn,σ=>Ls C all o (fun σ' =>Ju C all rest kn σ') σ
def MB(C:I8)(ops:Array Oper)(i:Nat)(kn:St→Option Y)(σ:St):Option Y:=
 match ops[i]? with
 |none=>none
 |some o=>Ls C ops o kn σ
def Gu(bx:List Bx)(b:Nat):Bool:=
 match bx[b]? with
 |some .dead=>true
 |some _=>false
 |none=>true
def idle(ops:Array Oper)(σ:St)(o:Oper):Bool:=
 match o.guard with
 |none=>false
 |some (j,want)=>
  match(ops[j]?).bind (·.dst)with
  |some t=>
   match σ.tm[t]? with
   |some (.c (.v .bool b))=>b !=want
   |some (.C9 [])=>true
   |_=>false
  |none=>false
def IE(hint:T7)(ops:Array Oper)(AR:Array Bool)(σ:St)(i:Nat):Bool:=
 match ops[i]? with
 |some o=>(GK hint σ o.op||idle ops σ o)&&Region.free .any ops AR i
 |none=>false
def KL(f:Nat→List Bool→Option Y):List Nat→List Bool→Option Y
 |[],_=>none
 |[i],ω=>f i ω
 |i::_::_,[]=>f i []
 |i::_::_,true::ω=>f i ω
 |_::j::r,false::ω=>KL f (j::r) ω
def Cw(C:I8)(hint:T7)(ops:Array Oper)(kn:List Bool→St→Option Y):Nat→Array Bool→List Bool→St→Option Y
 |fuel,AR,ω,σ=>
  if hint.all (fun b=> !Gu σ.bx b)then
   match Region.ready .any ops AR with
   |[]=>kn ω σ
   |rs=>
    match fuel with
    |0=>none
    |fuel+1=>
     match rs.find? (IE hint ops AR σ)with
     |some i=>MB C ops i (fun σ' =>Cw C hint ops kn fuel (AR.setIfInBounds i true) ω σ') σ
     |none=>KL (fun i ω=>
      match ops[i]? with
      |some o=>if(A_ C.Γ σ o.op).all (fun b=> !hint.contains b)then MB C ops i (fun σ' =>Cw C hint ops kn fuel (AR.setIfInBounds i true) ω σ') σ else none
      |none=>none) rs ω
  else none
def first:Code→Nat
 | .region id _ _=>id
 | .seq a _=>first a
 | .cond _ a _=>first a
 | .block _ a=>first a
 | .loop a=>first a
 | .scope a=>first a
 |_=>0
abbrev KN(Y:Type):=List Bool→St→Option Y
def run(C:I8)(J:Nat→St→Option Y):Code→KN Y→(Nat→KN Y)→KN Y→KN Y
 | .skip,kn,_,_,ω,σ=>kn ω σ
 | .region id ops draw,kn,_,_,ω,σ=>
  if draw then(if Region.noSelect ops then Cw C (C.hint id) ops kn ops.size (Array.replicate ops.size false) ω σ else none)else Ju C ops ops.toList (kn ω) σ
 | .seq a b,kn,kx,kr,ω,σ=>run C J a (fun ω σ=>run C J b kn kx kr ω σ) kx kr ω σ
 | .cond (.tmp t) a b,kn,kx,kr,ω,σ=>
  match σ.tm[t]? with
  |some (.c (.v .bool x))=>cond x (run C J a kn kx kr ω (σ.put (some t) tt)) (run C J b kn kx kr ω (σ.put (some t) ff))
  |_=>none
 | .block id body,kn,kx,kr,ω,σ=>run C J body kn (fun j ω σ=>if j=id then kn ω σ else kx j ω σ) kr ω σ
 | .loop body,_,_,_,_,σ=>J (first body) σ
 | .exit id,_,kx,_,ω,σ=>kx id ω σ
 | .ret,_,_,kr,ω,σ=>kr ω σ
 |_,_,_,_,_,_=>none
def find(C:I8)(J:Nat→St→Option Y)(ℓ :Nat):Code→KN Y→(Nat→KN Y)→KN Y→Option (KN Y)
 | .seq a b,kn,kx,kr=>
  match find C J ℓ a (fun ω σ=>run C J b kn kx kr ω σ) kx kr with
  |some f=>some f
  |none=>find C J ℓ b kn kx kr
 | .cond _ a b,kn,kx,kr=>
  match find C J ℓ a kn kx kr with
  |some f=>some f
  |none=>find C J ℓ b kn kx kr
 | .block id body,kn,kx,kr=>find C J ℓ body kn (fun j ω σ=>if j=id then kn ω σ else kx j ω σ) kr
 | .loop body,_,kx,kr=>
  if first body= ℓ then some (fun ω σ=>run C J body (fun _ σ=>J ℓ σ) kx kr ω σ)else find C J ℓ body (fun _ σ=>J (first body) σ) kx kr
 |_,_,_,_=>none
def NZ(T:BQ)(σ:St):ResultVar→Option XV
 | .tmp t=>σ.tm[t]?
 | .cell a t=>match σ.tm[a]? with
  |some x=>HM T t σ x
  |none=>none
def K6:List XV→Option (List (AV ⊕ List AV))
 |[]=>some []
 | .c x::l=>(K6 l).map fun r=> .inl x::r
 | .agg q::l=>(K6 l).map fun r=> .inr q::r
 |_=>none
def IV(T:BQ)(σ:St)(rs:List ResultVar):Option XV:=
 match rs.mapM (NZ T σ)with
 |some [x]=>some x
 |some l=>(K6 l).map .C9
 |none=>none
def Co:Nat→Nat→List BP→CC
 |_,_,[]=>[]
 |i,n,p::l=>(match p with| .gone=>none|_=>if i<n then some i else none)::Co (i+1) n l
def JO(T:BQ)(c:Dn)(rs:List ResultVar)(σ:St):Option c.outs.V:=
 (IV T σ rs).bind fun x=>(c.outs.fit σ.bx.length (Co 0 c.ins.Ar.length c.outs.Ar) [x] (c.outs.opens σ.bx)).map fun q=>q.1
def Gy(C:I8)(c:Dn)(fn:Func)(J:Nat→St→Option c.outs.V)(ω:List Bool)(v:c.ins.V):Option c.outs.V:=
 match fn.body with
 |some code=>run C J code (fun _=>JO C.T c fn.results.toList) (fun _ _ _=>none) (fun _=>JO C.T c fn.results.toList) ω (c.ins.st fn.ntmps v)
 |none=>none
def Ku(C:I8)(c:Dn)(fn:Func)(J:Nat→St→Option c.outs.V)(ℓ :Nat)(ω:List Bool)(σ:St):Option c.outs.V:=
 match fn.body with
 |some code=>
  match find C J ℓ code (fun _=>JO C.T c fn.results.toList) (fun _ _ _=>none) (fun _=>JO C.T c fn.results.toList)with
  |some f=>f ω σ
  |none=>none
 |none=>none
def AV.H3(b:Nat)(r:Ty)(rows:List r.D):AV→AV
 | .ref k []=>if k=b then .sl true r rows else .ref k []
 |x=>x
def XV.H3(b:Nat)(r:Ty)(rows:List r.D):XV→XV
 | .c x=> .c (x.H3 b r rows)
 |x=>x
def Bx.H3(b:Nat)(r:Ty)(rows:List r.D):Bx→Bx
 | .mem cs=> .mem (cs.map (AV.H3 b r rows))
 |x=>x
def St.H3(b:Nat)(σ:St):St:=
 match σ.bx[b]? with
 |some (.sl _ r rows)=>{ tm:=σ.tm.map (XV.H3 b r rows),bx:=(σ.bx.set b .dead).map (Bx.H3 b r rows) }
 |_=>σ
def CH:List AP→List AV→St→St
 | .sl true _::l,.ref b []::xs,σ=>CH l xs (σ.H3 b)
 |_::l,_::xs,σ=>CH l xs σ
 |_,_,σ=>σ
def CG(bs:List BP):List (Nat×XP)→St→St
 |[],σ=>σ
 |(i,.c (.sl true r))::l,σ=>
  match σ.tm[i]? with
  |some (.c x)=>CG bs l (CH [.sl true r] [x] σ)
  |_=>CG bs l σ
 |(i,.c (.ptr k _))::l,σ=>
  match bs[k]?,σ.tm[i]? with
  |some (.mem ps),some (.c (.A6 b _))=>
   match σ.bx[b]? with
   |some (.mem cs)=>CG bs l (CH ps cs σ)
   |_=>CG bs l σ
  |_,_=>CG bs l σ
 |_::l,σ=>CG bs l σ
def AV.Jq:AV→Bool
 | .ref _ _| .win _ _ _ _| .sl _ _ _| .nil=>true
 |_=>false
def St.forget(b j:Nat)(σ:St):St:=
 match σ.bx[b]? with
 |some (.mem cs)=>
  match cs[j]? with
  |some x=>if x.Jq then{ σ with bx:=σ.bx.set b (.mem (cs.set j (.ref σ.bx.length [])))++[.dead] }else σ
  |none=>σ
 |_=>σ
def Dl(bs:List BP)(b:Nat):Nat→List AP→St→St
 |_,[],σ=>σ
 |j,p::l,σ=>Dl bs b (j+1) l (match p with
  | .ref q=>match bs[q]? with
   |some .gone=>σ.forget b j
   |_=>σ
  |_=>σ)
def E7(bs:List BP):List (Nat×XP)→St→St
 |[],σ=>σ
 |(i,p)::l,σ=>E7 bs l (match p with
  | .c (.ptr k _)=>match bs[k]?,σ.tm[i]? with
   |some (.mem ps),some (.c (.A6 b _))=>Dl bs b 0 ps σ
   |_,_=>σ
  |_=>σ)
def jump(nb:Nat)(s:CM)(f:s.V→Option Y)(σ:St):Option Y:=
 if nb≤s.Ar.length then
  let σ:=E7 s.Ar s.AX (CG s.Ar s.AX σ)
  (s.fit σ.bx.length (Co 0 nb s.Ar) σ.tm (s.opens σ.bx)).bind fun q=>f q.1
 else none
end
end Go.Fw
end
section
namespace Go.Fw
def AG(w:World)(b o:Nat)(cs:List Value):Prop:= ∀j v,cs[j]? =some v→w.cell? ⟨b,o+j,none⟩=some v
def Rd(w:World)(B:Nat→Prop):(t:Ty)→List Value→t.D→Prop
 | .int k,vs,x=>vs=[.int k x]
 | .bool,vs,x=>vs=[.bool x]
 | .str,vs,x=>vs=[.string ⟨x.toArray⟩]
 | .sl r,vs,x=> ∃a cap,vs=[.slice a (List.length x) cap]∧List.length x≤cap∧(List.length x=0∨ ∃b o,a=some ⟨b,o,none⟩∧B b∧
  ∀(i:Nat) (y:r.D),x[i]? =some y→ ∃cs,cs.length=r.n∧AG w b (o+i*r.n) cs∧Rd w B r cs y)
 | .unit,vs,_=>vs=[]
 | .cons c r,vs,x=> ∃v l,vs=v::l∧Rd w B c [v] x.1∧Rd w B r l x.2
def LB(fr:T8)(n:Nat):Prop:= ∀i,i<n→ ¬(fr.1≤i∧i<fr.2)
def mk:Ty→Nat
 | .int .u8=>0
 |_=>1
def Ow(w:World)(S:Nat→Prop):(d:Nat)→(t:Ty)→List Value→t.D→List Nat→Prop
 |0,.sl r,vs,x,F=>Rd w S (.sl r) vs x∧F=[]
 |d+1,.sl r,vs,x,F=> ∃a cap,vs=[.slice a (List.length x) cap]∧List.length x≤cap∧
  ((
   cap=0∧F=[])∨ ∃b o arr ty fr Fs,a=some ⟨b,o,none⟩∧w.heap[b]? =some (.cells arr ty fr)∧o+cap*r.n≤arr.size∧LB fr (arr.size+mk r)∧
   F=b::List.flatten Fs∧Fs.length=List.length x∧
   ∀(i:Nat) (y:r.D) (G:T7),x[i]? =some y→Fs[i]? =some G→ ∃cs,cs.length=r.n∧AG w b (o+i*r.n) cs∧Ow w S d r cs y G)
 |d,.cons c r,vs,x,F=> ∃v l F1 F2,vs=v::l∧F=F1++F2∧Ow w S d c [v] x.1 F1∧Ow w S d r l x.2 F2
 |_,.unit,vs,_,F=>vs=[]∧F=[]
 |_,.int k,vs,x,F=>vs=[.int k x]∧F=[]
 |_,.bool,vs,x,F=>vs=[.bool x]∧F=[]
 |_,.str,vs,x,F=>vs=[.string ⟨x.toArray⟩]∧F=[]
theorem HE{w B}:∀{t:Ty} {vs x},Rd w B t vs x→vs.length=t.n
 | .int _,_,_,h=>by simp only[Rd]at h;subst h;rfl
 | .bool,_,_,h=>by simp only[Rd]at h;subst h;rfl
 | .str,_,_,h=>by simp only[Rd]at h;subst h;rfl
 | .sl _,_,_,h=>by simp only[Rd]at h;obtain⟨_,_,h,_⟩:=h;subst h;rfl
 | .unit,_,_,h=>by simp only[Rd]at h;subst h;rfl
 | .cons _ _,_,_,h=>by
  simp only[Rd]at h;obtain⟨_,_,rfl,_,h⟩:=h;simp[Ty.n,HE h]
theorem DS{w S}:∀{d} {t:Ty} {vs x F},Ow w S d t vs x F→vs.length=t.n
 |_,.int _,_,_,_,h=>by simp only[Ow]at h;rw[h.1];rfl
 |_,.bool,_,_,_,h=>by simp only[Ow]at h;rw[h.1];rfl
 |_,.str,_,_,_,h=>by simp only[Ow]at h;rw[h.1];rfl
 |0,.sl _,_,_,_,h=>by simp only[Ow]at h;exact HE h.1
 |_+1,.sl _,_,_,_,h=>by simp only[Ow]at h;obtain⟨_,_,h,_⟩:=h;subst h;rfl
 |_,.unit,_,_,_,h=>by simp only[Ow]at h;rw[h.1];rfl
 |_,.cons _ _,_,_,_,h=>by
  simp only[Ow]at h;obtain⟨_,_,_,_,rfl,_,_,h⟩:=h;simp[Ty.n,DS h]
theorem AG.of_block{w w':World}{b o:Nat}{cs:List Value}(h:AG w b o cs)(hb:w'.heap[b]? =w.heap[b]?):AG w' b o cs:=
 fun j v hj=>(World.cell?_of_block (a:=⟨b,o+j,none⟩) hb).trans (h j v hj)
theorem Ae{w w':World}{B B':Nat→Prop}(hB:∀b,B b→B' b)(hw:∀b,B b→w'.heap[b]? =w.heap[b]?):∀{t:Ty} {vs x},Rd w B t vs x→Rd w' B' t vs x
 | .int _,_,_,h=>by simpa only[Rd]using h
 | .bool,_,_,h=>by simpa only[Rd]using h
 | .str,_,_,h=>by simpa only[Rd]using h
 | .unit,_,_,h=>by simpa only[Rd]using h
 | .sl r,_,_,h=>by
  simp only[Rd]at h⊢;obtain⟨a,cap,h1,h2,h3⟩:=h;refine⟨a,cap,h1,h2,h3.imp id ?_⟩
  rintro⟨b,o,ha,hb,h⟩
  refine⟨b,o,ha,hB b hb,fun i y hy=> ?_⟩;obtain⟨cs,hl,hc,hr⟩:=h i y hy;exact⟨cs,hl,hc.of_block (hw b hb),Ae hB hw hr⟩
 | .cons _ _,_,_,h=>by
  simp only[Rd]at h⊢;obtain⟨v,l,h1,h2,h3⟩:=h;exact⟨v,l,h1,Ae hB hw h2,Ae hB hw h3⟩
theorem AY{w w':World}{S S':Nat→Prop}(hS:∀b,S b→S' b)(hw:∀b,S b→w'.heap[b]? =w.heap[b]?):
  ∀{d} {t:Ty} {vs x F},(∀b∈F,w'.heap[b]? =w.heap[b]?)→Ow w S d t vs x F→Ow w' S' d t vs x F
 |_,.int _,_,_,_,_,h=>by simpa only[Ow]using h
 |_,.bool,_,_,_,_,h=>by simpa only[Ow]using h
 |_,.str,_,_,_,_,h=>by simpa only[Ow]using h
 |_,.unit,_,_,_,_,h=>by simpa only[Ow]using h
 |0,.sl r,_,_,_,_,h=>by
  simp only[Ow]at h⊢;exact⟨Ae hS hw h.1,h.2⟩
 |d+1,.sl r,_,x,F,hF,h=>by
  simp only[Ow]at h⊢;obtain⟨a,cap,h1,h2,h3⟩:=h;refine⟨a,cap,h1,h2,h3.imp id ?_⟩
  rintro⟨b,o,arr,ty,fr,Fs,ha,hb,h4,h5,h6,h7,h⟩
  subst h6;have Nz:=hF b (by simp);refine⟨b,o,arr,ty,fr,Fs,ha,Nz.trans hb,h4,h5,rfl,h7,fun i y G hy hG=> ?_⟩;obtain⟨cs,hl,hc,hr⟩:=h i y G hy hG;refine⟨cs,hl,hc.of_block Nz,AY hS hw (fun c hc=>hF c ?_) hr⟩;exact U3 _ (UZ.2 ⟨G,UO hG,hc⟩)
 |_,.cons _ _,_,_,_,hF,h=>by
  simp only[Ow]at h⊢;obtain⟨v,l,F1,F2,h1,h2,h3,h4⟩:=h;subst h2;exact⟨v,l,F1,F2,h1,rfl,AY hS hw (fun c hc=>hF c (by simp[hc])) h3,AY hS hw (fun c hc=>hF c (by simp[hc])) h4⟩
theorem Dy{w:World}{S:Nat→Prop}:∀{d} {t:Ty} {vs x F},Ow w S d t vs x F→Rd w (fun b=>S b∨b∈F) t vs x
 |_,.int _,_,_,_,h=>by simp only[Ow]at h;simp only[Rd];exact h.1
 |_,.bool,_,_,_,h=>by simp only[Ow]at h;simp only[Rd];exact h.1
 |_,.str,_,_,_,h=>by simp only[Ow]at h;simp only[Rd];exact h.1
 |_,.unit,_,_,_,h=>by simp only[Ow]at h;simp only[Rd];exact h.1
 |0,.sl r,_,_,_,h=>by
  simp only[Ow]at h;exact Ae (fun b hb=> .inl hb) (fun _ _=>rfl) h.1
 |d+1,.sl r,_,x,F,h=>by
  simp only[Ow]at h;simp only[Rd];obtain⟨a,cap,h1,h2,h3⟩:=h;refine⟨a,cap,h1,h2,?_⟩;rcases h3 with⟨hc,_⟩|⟨b,o,arr,ty,fr,Fs,ha,hb,h4,h5,h6,h7,h⟩
  ·exact .inl (by omega)
  ·refine .inr ⟨b,o,ha,.inr (by simp[h6]),fun i y hy=> ?_⟩
   have hi:i<Fs.length:=by
    have:=(UF.1 hy).1;omega
   obtain⟨cs,hl,hc,hr⟩:=h i y Fs[i] hy (UH hi);refine⟨cs,hl,hc,Ae ?_ (fun _ _=>rfl) (Dy hr)⟩;intro c Hj;rcases Hj with Hj|Hj
   ·exact .inl Hj
   ·exact .inr (by rw[h6];exact U3 _ (UZ.2 ⟨_,VG hi,Hj⟩))
 |_,.cons _ _,_,_,_,h=>by
  simp only[Ow]at h;simp only[Rd];obtain⟨v,l,F1,F2,h1,h2,h3,h4⟩:=h;subst h2;refine⟨v,l,h1,Ae ?_ (fun _ _=>rfl) (Dy h3),Ae ?_ (fun _ _=>rfl) (Dy h4)⟩
  ·intro c hc;exact hc.imp id (by simp_all)
  ·intro c hc;exact hc.imp id (by simp_all)
theorem BO{w:World}{S:Nat→Prop}:∀{d d'} {t:Ty} {vs x F},d≤d'→Ow w S d' t vs x F→
  ∃F1 F2,F.Perm (F1++F2)∧Ow w (fun b=>S b∨b∈F2) d t vs x F1
 |_,_,.int _,_,_,_,_,h=>by simp only[Ow]at h⊢;exact⟨[],[],by rw[h.2];simp,h.1,rfl⟩
 |_,_,.bool,_,_,_,_,h=>by simp only[Ow]at h⊢;exact⟨[],[],by rw[h.2];simp,h.1,rfl⟩
 |_,_,.str,_,_,_,_,h=>by simp only[Ow]at h⊢;exact⟨[],[],by rw[h.2];simp,h.1,rfl⟩
 |_,_,.unit,_,_,_,_,h=>by simp only[Ow]at h⊢;exact⟨[],[],by rw[h.2];simp,h.1,rfl⟩
 |0,d',.sl r,_,x,F,_,h=>by
  refine⟨[],F,by simp,?_⟩;simp only[Ow];exact⟨Dy h,trivial⟩
 |d+1,0,.sl r,_,x,F,hd,h=>by omega
 |d+1,d'+1,.sl r,_,x,F,hd,h=>by
  simp only[Ow]at h⊢;obtain⟨a,cap,h1,h2,h3⟩:=h;rcases h3 with⟨hc,hF⟩|⟨b,o,arr,ty,fr,Fs,ha,hb,h4,h5,h6,h7,h⟩
  ·exact⟨[],[],by simp[hF],a,cap,h1,h2,.inl ⟨hc,rfl⟩⟩
  ·have key:∀(n:Nat) (Fs:List T7) (y:List r.D),Fs.length=n→y.length=n→(∀(i:Nat) (z:r.D) (G:T7),y[i]? =some z→Fs[i]? =some G→ ∃cs,cs.length=r.n∧AG w b (o+i*r.n) cs∧Ow w S d' r cs z G)→
     ∃(Gs:List T7) (F2:T7),Fs.flatten.Perm (Gs.flatten++F2)∧Gs.length=n∧ ∀(i:Nat) (z:r.D) (G:T7),y[i]? =some z→Gs[i]? =some G→ ∃cs,cs.length=r.n∧AG w b (o+i*r.n) cs∧Ow w (fun b=>S b∨b∈F2) d r cs z G:=by
    intro n
    induction n with
    |zero=>
     intro Fs y hF hy _;obtain rfl:=UW hF;exact⟨[],[],by simp,rfl,fun i z G _ hG=>by simp at hG⟩
    |succ n ih=>
     intro Fs y hF hy hh;obtain⟨P8,G0,rfl⟩:∃l a,Fs=l++[a]:=⟨Fs.dropLast,Fs.getLast (by intro e;simp[e]at hF),(List.dropLast_concat_getLast _).symm⟩;obtain⟨y',z0,rfl⟩:∃l a,y=l++[a]:=⟨y.dropLast,y.getLast (by intro e;simp[e]at hy),(List.dropLast_concat_getLast _).symm⟩;simp only[Ub,Uf,Um]at hF hy;obtain⟨Gs,F2,hp,hl,hg⟩:=ih P8 y' (by omega) (by omega) (fun i z G hz hG=>hh i z G
      (by rw[UK (UF.1 hz).1];exact hz) (by rw[UK (UF.1 hG).1];exact hG))
     obtain⟨cs,MG,hc,ho⟩:=hh n z0 G0 (by rw[UR (by omega)];simp[show n-y'.length=0 by omega]) (by rw[UR (by omega)];simp[show n-P8.length=0 by omega]);obtain⟨H1,H2,hhp,hho⟩:=BO (d:=d) (d':=d') (by omega) ho;refine⟨Gs++[H1],F2++H2,?_,by simp[hl],?_⟩
     ·simp only[Uv,Uk,VL,Ud]
      refine(hp.append hhp).trans ?_
      rw[UM,UM];refine UX _ ?_
      rw[←UM,←UM];exact US _ UY
     ·intro i z G hz hG
      by_cases hi:i<n
      ·rw[UK (by omega)]at hz hG
       obtain⟨cs,e1,e2,e3⟩:=hg i z G hz hG;exact⟨cs,e1,e2,AY (by intro c hc;exact hc.imp id (by simp_all)) (fun _ _=>rfl) (fun _ _=>rfl) e3⟩
      ·have:i=n:=by
        have:=(UF.1 hz).1;simp at this;omega
       subst this;rw[UR (by omega)]at hz hG;simp[show i-y'.length=0 by omega,show i-Gs.length=0 by omega]at hz hG;subst hz hG;exact⟨cs,MG,hc,AY (by intro c hc;exact hc.imp id (by simp_all)) (fun _ _=>rfl) (fun _ _=>rfl) hho⟩
   obtain⟨Gs,F2,hp,hl,hg⟩:=key _ Fs x h7 rfl h;refine⟨b::Gs.flatten,F2,?_,a,cap,h1,h2,.inr ⟨b,o,arr,ty,fr,Gs,ha,hb,h4,h5,rfl,hl,hg⟩⟩;rw[h6];exact List.Perm.cons _ hp
 |d,d',.cons _ _,_,_,_,hd,h=>by
  simp only[Ow]at h⊢;obtain⟨v,l,F1,F2,h1,h2,h3,h4⟩:=h;obtain⟨A1,A2,pa,oa⟩:=BO hd h3;obtain⟨B1,B2,pb,ob⟩:=BO hd h4;refine⟨A1++B1,A2++B2,?_,v,l,A1,B1,h1,rfl,AY (by intro c hc;exact hc.imp id (by simp_all)) (fun _ _=>rfl) (fun _ _=>rfl) oa,AY (by intro c hc;exact hc.imp id (by simp_all)) (fun _ _=>rfl) (fun _ _=>rfl) ob⟩;rw[h2];refine(pa.append pb).trans ?_
  rw[UM,UM];refine UX _ ?_
  rw[←UM,←UM];exact US _ UY
def RB(w:World):(t:Ty)→List Value→t.D→Nat→Prop
 | .sl r,vs,x,c=> ∃b o len cap,vs=[.slice (some ⟨b,o,none⟩) len cap]∧0<List.length x∧
  (c=b∨ ∃(i:Nat) (y:r.D) (cs:List Value),x[i]? =some y∧cs.length=r.n∧AG w b (o+i*r.n) cs∧RB w r cs y c)
 | .cons c r,vs,x,d=> ∃v l,vs=v::l∧(RB w c [v] x.1 d∨RB w r l x.2 d)
 |_,_,_,_=>False
theorem AG.unique{w:World}{b o:Nat}{cs ds:List Value}(h:AG w b o cs)(k:AG w b o ds)(hl:cs.length=ds.length):cs=ds:=by
 apply List.ext_getElem hl;intro i h1 h2;have e1:=h i _ (UH h1);have e2:=k i _ (UH h2);rw[e1]at e2;exact Option.some.inj e2
theorem KM{w:World}{B:Nat→Prop}{c:Nat}:∀{t:Ty} {vs x},Rd w B t vs x→RB w t vs x c→B c
 | .int _,_,_,_,h=>by simp[RB]at h
 | .bool,_,_,_,h=>by simp[RB]at h
 | .str,_,_,_,h=>by simp[RB]at h
 | .unit,_,_,_,h=>by simp[RB]at h
 | .sl r,_,x,h,k=>by
  simp only[Rd]at h;simp only[RB]at k;obtain⟨a,cap,rfl,_,h⟩:=h;obtain⟨b,o,len,cap',e,hl,k⟩:=k;simp only[Ua,Value.slice.injEq,Us]at e;obtain⟨rfl,rfl,rfl⟩:=e;rcases h with h|⟨b',o',e,hb,h⟩
  ·omega
  simp only[UG,Addr.mk.injEq,Us]at e;obtain⟨rfl,rfl⟩:=e;rcases k with rfl|⟨i,y,cs,hy,MG,PU,k⟩
  ·exact hb
  ·obtain⟨ds,d1,d2,d3⟩:=h i y hy
   have:=PU.unique d2 (by omega);subst this;exact KM d3 k
 | .cons _ _,_,_,h,k=>by
  simp only[Rd]at h;simp only[RB]at k;obtain⟨v,l,rfl,h1,h2⟩:=h;obtain⟨v',l',e,k⟩:=k;cases e;exact k.elim (KM h1) (KM h2)
theorem Hp{w w':World}{c:Nat}:∀{t:Ty} {vs x},(∀d,RB w t vs x d→w'.heap[d]? =w.heap[d]?)→RB w t vs x c→RB w' t vs x c
 | .int _,_,_,_,h=>by simp[RB]at h
 | .bool,_,_,_,h=>by simp[RB]at h
 | .str,_,_,_,h=>by simp[RB]at h
 | .unit,_,_,_,h=>by simp[RB]at h
 | .sl r,_,x,h,k=>by
  simp only[RB]at h k⊢;obtain⟨b,o,len,cap,e,hl,k⟩:=k;refine⟨b,o,len,cap,e,hl,?_⟩;rcases k with rfl|⟨i,y,cs,hy,MG,PU,k⟩
  ·exact .inl rfl
  ·have hb:=h b ⟨b,o,len,cap,e,hl,.inl rfl⟩
   exact .inr ⟨i,y,cs,hy,MG,PU.of_block hb,Hp (fun d hd=>h d ⟨b,o,len,cap,e,hl,.inr ⟨i,y,cs,hy,MG,PU,hd⟩⟩) k⟩
 | .cons _ _,_,_,h,k=>by
  simp only[RB]at h k⊢;obtain⟨v,l,e,k⟩:=k;refine⟨v,l,e,k.elim (fun k=> .inl (Hp (fun d hd=>h d ⟨v,l,e,.inl hd⟩) k)) (fun k=> .inr (Hp (fun d hd=>h d ⟨v,l,e,.inr hd⟩) k))⟩
end Go.Fw
end
section
namespace Go.Fw
def AF{α β:Type}(R:α→β→Prop):List α→List β→Prop
 |[],[]=>True
 |a::l,b::m=>R a b∧AF R l m
 |_,_=>False
theorem AF.len{α β:Type}{R:α→β→Prop}:∀{l:List α} {m:List β},AF R l m→l.length=m.length
 |[],[],_=>rfl
 |_::_,_::_,h=>by simp[AF.len h.2]
theorem AF.get{α β:Type}{R:α→β→Prop}:∀{l:List α} {m:List β} {i:Nat} {a:α},AF R l m→l[i]? =some a→ ∃b,m[i]? =some b∧R a b
 |_::_,_::_,0,a,h,e=>by simp at e;subst e;exact⟨_,rfl,h.1⟩
 |_::_,_::_,i+1,a,h,e=>by
  obtain⟨b,hb,hr⟩:=AF.get (i:=i) h.2 (by simpa using e);exact⟨b,by simpa using hb,hr⟩
 |[],[],_,_,_,e=>by simp at e
theorem AF.imp{α β:Type}{R S:α→β→Prop}(h:∀a b,R a b→S a b):∀{l:List α} {m:List β},AF R l m→AF S l m
 |[],[],_=>trivial
 |_::_,_::_,k=>⟨h _ _ k.1,AF.imp h k.2⟩
structure Env where
 A5:Nat→Nat
 A7:Nat→Value
 T:Nat→Prop
 S:Nat→Prop
def BG(w:World):Value→List HW→Option Value
 |h,[]=>some h
 | .slice (some a) _ _,s::p=>
  match w.cell? ⟨a.block,a.off+s.i*s.sz+s.j,none⟩with
  |some h=>BG w h p
  |none=>none
 |_,_::_=>none
def AM:(r:Ty)→List r.D→List HW→Prop
 |_,_,[]=>True
 |r,rows,s::p=>s.i<rows.length∧s.sz=r.n∧
  match AB r s.j (rowAt r rows s.i)with
  |some ⟨.sl q,x⟩=>AM q x p
  |_=>False
def Cc(sz off n:Nat)(a:Option Addr)(cap:Nat):Value:=
 .slice (if cap=off then a else a.map (·.add (off*sz))) n (cap-off)
def isSlice:Value→Bool
 | .slice .. =>true
 |_=>false
def Ez:Value→Bool
 | .pointer (some ⟨_,_,none⟩)=>true
 |_=>false
def RA(E:Env)(w:World)(q:(r:Ty)×r.D)(p:Value):Prop:= ∃bb o cs,p= .pointer (some ⟨bb,o,none⟩)∧E.T bb∧cs.length=q.1.n∧AG w bb o cs∧Rd w E.T q.1 cs q.2
def VR(E:Env)(w:World)(vw:List Bx):AV→Value→Prop
 | .v t x,v=>t.scalar=true∧Rd w (fun _=>False) t [v] x
 | .sl s r x,v=>Rd w (if s then E.S else E.T) (.sl r) [v] x
 | .nil,v=>v= .slice none 0 0
 | .ref b p,v=>isSlice v=true∧match vw[b]? with
  |some (.sl _ r rows)=>AM r rows p∧(∃q,Aq r rows p=some q)∧BG w (E.A7 b) p=some v
  |some _=>True
  |none=>False
 | .win b p off n,v=>isSlice v=true∧match vw[b]? with
  |some (.sl _ r rows)=>AM r rows p∧ ∃q ys a len cap,Aq r rows p=some ⟨q,ys⟩∧off+n≤List.length ys∧BG w (E.A7 b) p=some (.slice a len cap)∧v=Cc q.n off n a cap
  |some _=>True
  |none=>False
 | .A6 b j,v=>b<vw.length∧v= .pointer (some ⟨E.A5 b,j,none⟩)
 | .BH b p i sz j,v=>Ez v=true∧match vw[b]? with
  |some (.sl _ r rows)=>AM r rows p∧ ∃q ys bb o len cap,Aq r rows p=some ⟨q,ys⟩∧i<List.length ys∧BG w (E.A7 b) p=some (.slice (some ⟨bb,o,none⟩) len cap)∧v= .pointer (some ⟨bb,o+i*sz+j,none⟩)
  |some _=>True
  |none=>False
 | .B3 s r x j,v=> ∃bb o cs,v= .pointer (some ⟨bb,o+j,none⟩)∧(if s then E.S else E.T) bb∧cs.length=r.n∧AG w bb o cs∧Rd w (if s then E.S else E.T) r cs x
 | .fn f BL,v=>(∀b∈BL,b<vw.length)∧v= .func (.func f) #[] (BL.map fun b=>Value.pointer (some ⟨E.A5 b,0,none⟩)).toArray
 | .J2 f rows,v=> ∃ps:List Value,v= .func (.func f) #[] ps.toArray∧AF (RA E w) rows ps
 | .LF,v=>v= .pointer none
 | .undef,_=>True
def GD(E:Env)(w:World)(vw:List Bx)(l:List AV)(vs:List Value):Prop:=AF (VR E w vw) l vs
def TR(E:Env)(w:World)(vw:List Bx):AV ⊕ List AV→Value→Prop
 | .inl x,v=>VR E w vw x v
 | .inr q,v=> ∃vs,v= .agg vs∧GD E w vw q vs.toList
def XR(E:Env)(w:World)(vw:List Bx):XV→Value→Prop
 | .c x,v=>VR E w vw x v
 | .agg l,v=> ∃vs,v= .agg vs∧GD E w vw l vs.toList
 | .C9 l,v=> ∃vs,v= .tuple vs∧AF (TR E w vw) l vs.toList
def Im(E:Env)(w:World)(vw:List Bx)(k:Nat):Bx→List Nat→Prop
 | .mem cs,F=>F=[E.A5 k]∧ ∃arr ty fr,w.heap[E.A5 k]? =some (.cells arr ty fr)∧LB fr (arr.size+1)∧GD E w vw cs arr.toList
 | .sl d r rows,F=>1≤d∧Ow w E.S d (.sl r) [E.A7 k] rows F
 | .dead,F=>F=[]
def QV(E:Env)(w:World):Prop:= ∀w':World,(∀c,E.T c→w'.heap[c]? =w.heap[c]?)→GI w'
theorem QV.mono{E E':Env}{w w':World}(h:QV E w)(hT:∀c,E.T c→E'.T c)(hw:∀c,E.T c→w'.heap[c]? =w.heap[c]?):QV E' w':=
 fun v hv=>h v fun c hc=>(hv c (hT c hc)).trans (hw c hc)
structure Sep (E:Env) (w:World) (F:T7):Prop where
 nodup:F.Nodup
 free:∀c∈F,¬E.T c
 lt:∀c∈F,c<w.heap.size
 st:∀c,E.S c→E.T c
 FI:∀c,E.T c→c<w.heap.size
 KS:QV E w
def Bo(E:Env)(w:World)(vw bx:List Bx)(Fs:List T7):Prop:=
 Fs.length=bx.length∧ ∀k B F,bx[k]? =some B→Fs[k]? =some F→Im E w vw k B F
def AK(E:Env)(w:World)(vw bx:List Bx)(G:T7):Prop:=
 ∃Fs,Bo E w vw bx Fs∧Sep E w (Fs.flatten++G)
structure Le (E E':Env):Prop where
 A5:E'.A5=E.A5
 A7:E'.A7=E.A7
 T:∀c,E.T c→E'.T c
 S:∀c,E.S c→E'.S c
 N_:∀c,E'.T c→E.T c∨E'.S c
 L7:∀c,E'.S c→E.S c∨ ¬E.T c
theorem Le.refl(E:Env):Le E E:=⟨rfl,rfl,fun _ h=>h,fun _ h=>h,fun _ h=> .inl h,fun _ h=> .inl h⟩
theorem Le.trans{E E' NJ:Env}(h:Le E E')(k:Le E' NJ):Le E NJ:=
 ⟨k.A5.trans h.A5,k.A7.trans h.A7,fun c hc=>k.T c (h.T c hc),fun c hc=>k.S c (h.S c hc),
  fun c hc=>(k.N_ c hc).elim (fun h' =>(h.N_ c h').imp id (k.S c)) .inr,
  fun c hc=>(k.L7 c hc).elim (h.L7 c) (fun h' => .inr fun ht=>h' (h.T c ht))⟩
theorem FX{w B}:∀{r:Ty} {cs x j t y},Rd w B r cs x→AB r j x=some ⟨t,y⟩→ ∃v,cs[j]? =some v∧Rd w B t [v] y
 | .cons c r,cs,x,0,t,y,h,e=>by
  simp only[Rd]at h;obtain⟨v,l,rfl,h1,h2⟩:=h;simp only[AB,UG,UP]at e;obtain⟨rfl,e⟩:=e;obtain rfl:=Uc e;exact⟨v,rfl,h1⟩
 | .cons c r,cs,x,j+1,t,y,h,e=>by
  simp only[Rd]at h;obtain⟨v,l,rfl,h1,h2⟩:=h;simp only[AB]at e;obtain⟨u,hu,hr⟩:=FX h2 e;exact⟨u,by simpa using hu,hr⟩
 | .int k,cs,x,0,t,y,h,e=>by
  simp only[AB,UG,UP]at e;obtain⟨rfl,e⟩:=e;obtain rfl:=Uc e;simp only[Rd]at h;subst h;exact⟨_,rfl,by simp only[Rd]⟩
 | .bool,cs,x,0,t,y,h,e=>by
  simp only[AB,UG,UP]at e;obtain⟨rfl,e⟩:=e;obtain rfl:=Uc e;simp only[Rd]at h;subst h;exact⟨_,rfl,by simp only[Rd]⟩
 | .str,cs,x,0,t,y,h,e=>by
  simp only[AB,UG,UP]at e;obtain⟨rfl,e⟩:=e;obtain rfl:=Uc e;simp only[Rd]at h;subst h;exact⟨_,rfl,by simp only[Rd]⟩
 | .sl r,cs,x,0,t,y,h,e=>by
  simp only[AB,UG,UP]at e;obtain⟨rfl,e⟩:=e;obtain rfl:=Uc e;have h':=h;simp only[Rd]at h;obtain⟨a,cap,rfl,_⟩:=h;exact⟨_,rfl,h'⟩
 | .unit,_,_,_,_,_,_,e=>by simp[AB]at e
 | .int _,_,_,_+1,_,_,_,e=>by simp[AB]at e
 | .bool,_,_,_+1,_,_,_,e=>by simp[AB]at e
 | .str,_,_,_+1,_,_,_,e=>by simp[AB]at e
 | .sl _,_,_,_+1,_,_,_,e=>by simp[AB]at e
theorem CR{r:Ty}{rows:List r.D}{i:Nat}(h:i<rows.length):rows[i]? =some (rowAt r rows i):=by
 simp[rowAt,h]
theorem Hn{w:World}{B:Nat→Prop}:∀{p:List HW} {r:Ty} {h:Value} {rows:List r.D} {q:Ty} {ys:List q.D},
  Rd w B (.sl r) [h] rows→AM r rows p→Aq r rows p=some ⟨q,ys⟩→
  ∃h',(∀w':World,(∀b,B b→w'.heap[b]? =w.heap[b]?)→BG w' h p=some h')∧Rd w B (.sl q) [h'] ys
 |[],r,h,rows,q,ys,hr,_,hg=>by
  simp only[Aq,UG,UP]at hg;obtain⟨rfl,e⟩:=hg;obtain rfl:=Uc e;exact⟨h,fun w' _=>by cases h<;>rfl,hr⟩
 |s::p,r,h,rows,q,ys,hr,hp,hg=>by
  simp only[AM]at hp;obtain⟨hi,CB,hp⟩:=hp;simp only[Aq]at hg;simp only[Rd]at hr;obtain⟨a,cap,hh,_,hr⟩:=hr;obtain rfl:=(List.cons.inj hh).1;rcases hr with hr|⟨b,o,rfl,hb,hr⟩
  ·omega
  obtain⟨cs,hl,hc,hrow⟩:=hr s.i _ (CR hi);split at hg
  ·rename_i q' x' E_
   rw[E_]at hp;obtain⟨v,hv,hrv⟩:=FX hrow E_;obtain⟨h',RJ,Eb⟩:=Hn hrv hp hg;refine⟨h',fun w' PT=> ?_,Eb⟩;simp only[BG];have Dr:w'.cell? ⟨b,o+s.i*s.sz+s.j,none⟩=some v:=by
    rw[CB];exact(World.cell?_of_block (a:=⟨b,_,none⟩) (PT b hb)).trans (hc _ _ hv)
   rw[Dr];exact RJ w' PT
  ·cases hg
theorem AJ{w:World}{h:Value}:BG w h []=some h:=by cases h<;>rfl
structure Cm (E:Env) (w:World) (vw:List Bx) (E':Env) (w':World) (vw':List Bx):Prop where
 len:vw.length≤vw'.length
 A5:∀b,b<vw.length→E'.A5 b=E.A5 b
 T:∀b,E.T b→E'.T b
 S:∀b,E.S b→E'.S b
 st:∀b,E.S b→E.T b
 heap:∀b,E.T b→w'.heap[b]? =w.heap[b]?
 box:∀b d r rows,b<vw.length→vw'[b]? =some (.sl d r rows)→ ∃d0 CV,vw[b]? =some (.sl d0 r CV)∧
  ∀p,AM r CV p→ ∀q ys,Aq r CV p=some ⟨q,ys⟩→AM r rows p∧(∃Iq,Aq r rows p=some ⟨q,Iq⟩∧List.length Iq=List.length ys)∧
   ∀h,BG w (E.A7 b) p=some h→BG w' (E'.A7 b) p=some h
theorem CD{α:Type}{l l':List α}{b:Nat}{x:α}(h:l.length≤l'.length)(e:l[b]? =some x):∃y,l'[b]? =some y:=
 ⟨l'[b]'(Uh (UF.1 e).1 h),UH _⟩
theorem Al{E E':Env}{w w':World}{vw vw':List Bx}(k:Cm E w vw E' w' vw'):∀{x:AV} {v:Value},VR E w vw x v→VR E' w' vw' x v:=by
 intro x v h;cases x with
 |v t x=>exact⟨h.1,Ae (fun _ h=>h) (fun _ h=>h.elim) h.2⟩
 |sl s r x=>
  simp only[VR]at h⊢;cases s with
  |false=>exact Ae k.T k.heap (by simpa using h)
  |true=>exact Ae k.S (fun b hb=>k.heap b (k.st b hb)) (by simpa using h)
 |nil=>exact h
 |ref b p=>
  simp only[VR]at h⊢;obtain⟨h0,h⟩:=h;refine⟨h0,?_⟩;cases e:vw[b]? with
  |none=>rw[e]at h;exact h.elim
  |some B=>
   rw[e]at h;have CK:=(UF.1 e).1;obtain⟨B',e'⟩:=CD k.len e;rw[e'];cases B' with
   |mem cs=>trivial
   |dead=>trivial
   |sl d r rows=>
    obtain⟨d0,CV,e0,hk⟩:=k.box b d r rows CK e';rw[e]at e0;cases e0;simp only at h;obtain⟨hp,⟨⟨q,ys⟩,hg⟩,hh⟩:=h;obtain⟨k1,⟨Iq,k2,_⟩,k3⟩:=hk p hp q ys hg;exact⟨k1,⟨_,k2⟩,k3 _ hh⟩
 |win b p off n=>
  simp only[VR]at h⊢;obtain⟨h0,h⟩:=h;refine⟨h0,?_⟩;cases e:vw[b]? with
  |none=>rw[e]at h;exact h.elim
  |some B=>
   rw[e]at h;have CK:=(UF.1 e).1;obtain⟨B',e'⟩:=CD k.len e;rw[e'];cases B' with
   |mem cs=>trivial
   |dead=>trivial
   |sl d r rows=>
    obtain⟨d0,CV,e0,hk⟩:=k.box b d r rows CK e';rw[e]at e0;cases e0;simp only at h;obtain⟨hp,q,ys,a,len,cap,hg,hl,hh,hv⟩:=h;obtain⟨k1,⟨Iq,k2,k4⟩,k3⟩:=hk p hp q ys hg;exact⟨k1,q,Iq,a,len,cap,k2,by omega,k3 _ hh,hv⟩
 |A6 b j=>exact⟨Uh h.1 k.len,by rw[h.2,k.A5 b h.1]⟩
 |BH b p i sz j=>
  simp only[VR]at h⊢;obtain⟨h0,h⟩:=h;refine⟨h0,?_⟩;cases e:vw[b]? with
  |none=>rw[e]at h;exact h.elim
  |some B=>
   rw[e]at h;have CK:=(UF.1 e).1;obtain⟨B',e'⟩:=CD k.len e;rw[e'];cases B' with
   |mem cs=>trivial
   |dead=>trivial
   |sl d r rows=>
    obtain⟨d0,CV,e0,hk⟩:=k.box b d r rows CK e';rw[e]at e0;cases e0;simp only at h;obtain⟨hp,q,ys,bb,o,len,cap,hg,hl,hh,hv⟩:=h;obtain⟨k1,⟨Iq,k2,k4⟩,k3⟩:=hk p hp q ys hg;exact⟨k1,q,Iq,bb,o,len,cap,k2,by omega,k3 _ hh,hv⟩
 |B3 s r x j=>
  simp only[VR]at h⊢;obtain⟨bb,o,cs,hv,hb,hl,hc,hr⟩:=h;cases s with
  |false=>exact⟨bb,o,cs,hv,k.T bb (by simpa using hb),hl,hc.of_block (k.heap bb (by simpa using hb)),Ae k.T k.heap (by simpa using hr)⟩
  |true=>exact⟨bb,o,cs,hv,k.S bb (by simpa using hb),hl,hc.of_block (k.heap bb (k.st bb (by simpa using hb))),Ae k.S (fun b hb=>k.heap b (k.st b hb)) (by simpa using hr)⟩
 |fn f BL=>
  refine⟨fun b hb=>Uh (h.1 b hb) k.len,?_⟩;rw[h.2];congr 2;exact VC fun b hb=>by rw[k.A5 b (h.1 b hb)]
 |J2 f rows=>
  obtain⟨ps,hv,h⟩:=h;exact⟨ps,hv,h.imp fun q p ⟨bb,o,cs,h1,h2,h3,h4,h5⟩=>⟨bb,o,cs,h1,k.T bb h2,h3,h4.of_block (k.heap bb h2),Ae k.T k.heap h5⟩⟩
 |LF=>exact h
 |undef=>trivial
theorem B_{E E':Env}{w w':World}{vw vw':List Bx}(k:Cm E w vw E' w' vw'):∀{x:XV} {v:Value},XR E w vw x v→XR E' w' vw' x v
 | .c _,_,h=>Al k h
 | .agg _,_,⟨vs,hv,h⟩=>⟨vs,hv,h.imp fun _ _ h=>Al k h⟩
 | .C9 l,_,⟨vs,hv,h⟩=>⟨vs,hv,h.imp fun
  | .inl _,_,h=>Al k h
  | .inr _,_,⟨ws,hw,h⟩=>⟨ws,hw,h.imp fun _ _ h=>Al k h⟩⟩
theorem Cm.refl{E:Env}{w:World}{vw:List Bx}(st:∀b,E.S b→E.T b):Cm E w vw E w vw:=
 ⟨Ui _,fun _ _=>rfl,fun _ h=>h,fun _ h=>h,st,fun _ _=>rfl,fun b d r rows _ h=>⟨d,rows,h,fun p hp q ys hg=>⟨hp,⟨ys,hg,rfl⟩,fun _ h=>h⟩⟩⟩
theorem Cm.trans{E E' NJ:Env}{w w' PZ:World}{vw vw' Qf:List Bx}(k:Cm E w vw E' w' vw')(k':Cm E' w' vw' NJ PZ Qf):Cm E w vw NJ PZ Qf where
 len:=VA k.len k'.len
 A5:=fun b hb=>(k'.A5 b (Uh hb k.len)).trans (k.A5 b hb)
 T:=fun b h=>k'.T b (k.T b h)
 S:=fun b h=>k'.S b (k.S b h)
 st:=k.st
 heap:=fun b h=>(k'.heap b (k.T b h)).trans (k.heap b h)
 box:=fun b d r rows hb h=>by
  obtain⟨d1,OM,h1,k1⟩:=k'.box b d r rows (Uh hb k.len) h;obtain⟨d0,CV,h0,k0⟩:=k.box b d1 r OM hb h1;refine⟨d0,CV,h0,fun p hp q ys hg=> ?_⟩;obtain⟨a1,⟨ys1,a2,a3⟩,a4⟩:=k0 p hp q ys hg;obtain⟨b1,⟨ys2,b2,b3⟩,b4⟩:=k1 p a1 q ys1 a2;exact⟨b1,⟨ys2,b2,b3.trans a3⟩,fun h hh=>b4 h (a4 h hh)⟩
theorem KH{w w':World}{S:Nat→Prop}{d:Nat}{r:Ty}{h:Value}{rows:List r.D}{F:T7}(ho:Ow w S d (.sl r) [h] rows F)
  (hS:∀b,S b→w'.heap[b]? =w.heap[b]?) (hF:∀b∈F,w'.heap[b]? =w.heap[b]?) {p:List HW} (hp:AM r rows p) {q:Ty} {ys:List q.D} (hg:Aq r rows p=some ⟨q,ys⟩)
  {h':Value} (hh:BG w h p=some h'):BG w' h p=some h':=by
 obtain⟨h1,k,_⟩:=Hn (Dy ho) hp hg;have e1:=k w (fun _ _=>rfl);rw[hh]at e1;cases e1;exact k w' fun b hb=>hb.elim (hS b) (hF b)
end Go.Fw
end
section
namespace Go.Fw
theorem AF.set{α β:Type}{R:α→β→Prop}:∀{l:List α} {m:List β} {i:Nat} {a:α} {b:β},AF R l m→R a b→AF R (l.set i a) (m.set i b)
 |[],[],_,_,_,_,_=>trivial
 |_::_,_::_,0,_,_,h,r=>⟨r,h.2⟩
 |_::_,_::_,i+1,_,_,h,r=>⟨h.1,AF.set h.2 r⟩
theorem AF.append{α β:Type}{R:α→β→Prop}:∀{l:List α} {m:List β} {l':List α} {m':List β},AF R l m→AF R l' m'→AF R (l++l') (m++m')
 |[],[],_,_,_,h=>h
 |_::_,_::_,_,_,h,k=>⟨h.1,AF.append h.2 k⟩
theorem AF.Ba{α β γ:Type}{R:α→β→Prop}{S:γ→β→Prop}(f:α→γ)(h:∀a b,R a b→S (f a) b):∀{l:List α} {m:List β},AF R l m→AF S (l.map f) m
 |[],[],_=>trivial
 |_::_,_::_,k=>⟨h _ _ k.1,AF.Ba f h k.2⟩
theorem AF.drop{α β:Type}{R:α→β→Prop}:∀{l:List α} {m:List β} (n:Nat),AF R l m→AF R (l.drop n) (m.drop n)
 |_,_,0,h=>h
 |[],[],_+1,_=>trivial
 |_::_,_::_,n+1,h=>AF.drop n h.2
theorem AF.take{α β:Type}{R:α→β→Prop}:∀{l:List α} {m:List β} (n:Nat),AF R l m→AF R (l.take n) (m.take n)
 |[],[],0,_=>trivial
 |_::_,_::_,0,_=>trivial
 |[],[],_+1,_=>trivial
 |_::_,_::_,n+1,h=>⟨h.1,AF.take n h.2⟩
structure Fc (E0:Env) (w0:World) (E:Env) (w:World):Prop where
 T:∀c,E0.T c→E.T c
 S:∀c,E0.S c→E.S c
 N_:∀c,E.T c→E0.T c∨E.S c
 L7:∀c,E.S c→E0.S c∨ ¬E0.T c
 heap:∀c,E0.T c→w.heap[c]? =w0.heap[c]?
 os:w.os=w0.os
 tape:w.tape=w0.tape
 output:w.output=w0.output
 size:w0.heap.size≤w.heap.size
theorem Fc.refl(E:Env)(w:World):Fc E w E w:=⟨fun _ h=>h,fun _ h=>h,fun _ h=> .inl h,fun _ h=> .inl h,fun _ _=>rfl,rfl,rfl,rfl,Ui _⟩
theorem Fc.trans{E E' NJ:Env}{w w' PZ:World}(h:Fc E w E' w')(k:Fc E' w' NJ PZ):Fc E w NJ PZ:=
 ⟨fun c hc=>k.T c (h.T c hc),fun c hc=>k.S c (h.S c hc),fun c hc=>(k.N_ c hc).elim (fun h' =>(h.N_ c h').imp id (k.S c)) .inr,
  fun c hc=>(k.L7 c hc).elim (h.L7 c) (fun h' => .inr fun ht=>h' (h.T c ht)),fun c hc=>(k.heap c (h.T c hc)).trans (h.heap c hc),
  k.os.trans h.os,k.tape.trans h.tape,k.output.trans h.output,VA h.size k.size⟩
theorem Le.base{E E':Env}(h:Le E E')(w:World):Fc E w E' w:=⟨h.T,h.S,h.N_,h.L7,fun _ _=>rfl,rfl,rfl,rfl,Ui _⟩
def K_(E:Env)(w:World)(k:Nat):Bx→Nat→Prop
 | .mem _,c=>c=E.A5 k
 | .sl _ r rows,c=>RB w (.sl r) [E.A7 k] rows c
 | .dead,_=>False
def C7:Bx→Bx→Prop
 | .mem _,.mem _=>True
 | .sl _ r x,.sl _ q y=>(⟨r,x⟩:(r:Ty)×List r.D)=⟨q,y⟩
 |_,_=>False
structure CX (t:T7) (E0:Env) (Qo:List Bx) (w0:World) (E:Env) (bx:List Bx) (w:World):Prop where
 base:Fc E0 w0 E w
 len:Qo.length≤bx.length
 ids:∀b,b<Qo.length→E.A5 b=E0.A5 b∧E.A7 b=E0.A7 b
 dead:∀b:Nat,Qo[b]? =some Bx.dead→bx[b]? =some Bx.dead
 frame:∀(n:Nat) B B',n∉t→Qo[n]? =some B→bx[n]? =some B'→B'≠ .dead→C7 B B'∧ ∀c,K_ E0 w0 n B c→w.heap[c]? =w0.heap[c]?
theorem CX.any{E E':Env}{bx CO:List Bx}{w w':World}(h:CX [] E bx w E' CO w'){t:T7}:CX t E bx w E' CO w':=
 ⟨h.base,h.len,h.ids,h.dead,fun n B B' _=>h.frame n B B' (by simp)⟩
theorem C7.refl{B:Bx}(h:B≠ .dead):C7 B B:=by cases B<;>simp_all[C7]
theorem CX.refl(t:T7)(E:Env)(bx:List Bx)(w:World):CX t E bx w E bx w:=⟨Fc.refl E w,Ui _,fun _ _=>⟨rfl,rfl⟩,fun _ h=>h,fun n B B' _ h h' hd=>by
 rw[h]at h';cases h';exact⟨C7.refl hd,fun _ _=>rfl⟩⟩
theorem FU{E:Env}{w:World}{vw:List Bx}{k:Nat}{B:Bx}{F:T7}{c:Nat}(h:Im E w vw k B F)(hc:K_ E w k B c):E.S c∨c∈F:=by
 cases B with
 |mem cs=>obtain⟨rfl,_⟩:=h;right;simp[K_]at hc;simp[hc]
 |sl d r rows=>exact KM (Dy h.2) hc
 |dead=>exact hc.elim
structure Rel (E:Env) (σ:St) (a:Act) (w:World):Prop where
 Bu:a.defers=[]
 tm:AF (XR E w σ.bx) σ.tm a.tmps.toList
 bx:AK E w σ.bx σ.bx []
theorem Rel.put{E:Env}{σ:St}{a:Act}{w:World}(h:Rel E σ a w)(dst:Option Tmp){x:XV}{v:Value}(hx:XR E w σ.bx x v):Rel E (σ.put dst x) (a.put dst v) w:=by
 cases dst with
 |none=>exact h
 |some d=>exact⟨h.Bu,by simpa[St.put,Act.put]using AF.set h.tm hx,h.bx⟩
theorem AF.PH{E:Env}{w:World}{vw:List Bx}{l:List XV}{m:Array Value}(h:AF (XR E w vw) l m.toList)(t:Nat):XR E w vw (l.getD t (.c .undef)) (m.getD t undef):=by
 by_cases ht:t<l.length
 ·have e:l[t]? =some l[t]:=UH ht
  obtain⟨b,hb,hr⟩:=h.get e;have:m[t]? =some b:=by simpa using hb
  simp only[U5,e,Option.getD_some,U4,this];exact hr
 ·have e:l[t]? =none:=by simp;omega
  simp only[U5,e,Option.getD_none]
  trivial
theorem JZ{E:Env}{w:World}{vw:List Bx}(v:Value):VR E w vw (Ii v) v:=by
 unfold Ii;split<;>first
  |trivial
  |exact⟨rfl,by simp[Rd]⟩
  |rfl
theorem HH{E:Env}{w:World}{vw:List Bx}:∀(l:List Value),GD E w vw (l.map Ii) l
 |[]=>trivial
 |a::l=>⟨JZ a,HH l⟩
theorem Lg{E:Env}{w:World}{vw:List Bx}(v:Value):XR E w vw (ofValue v) v:=by
 unfold ofValue;split
 ·rename_i cs
  exact⟨cs,rfl,HH cs.toList⟩
 ·exact JZ v
theorem Rel.ev{E:Env}{σ:St}{a:Act}{w:World}(h:Rel E σ a w)(x:Operand):XR E w σ.bx (σ.ev x) (a.eval x):=by
 cases x with
 |tmp t=>exact AF.PH h.tm t
 |const v=>exact Lg v
 |global g=>trivial
 |func f=>exact⟨by simp,rfl⟩
theorem C0{b:Nat}:∀{Fs:List T7} {F:T7},Fs[b]? =some F→Fs.flatten.Perm (F++(Fs.set b []).flatten):=by
 induction b with
 |zero=>
  intro Fs F h;cases Fs with
  |nil=>simp at h
  |cons A l=>simp at h;subst h;simp
 |succ b ih=>
  intro Fs F h;cases Fs with
  |nil=>simp at h
  |cons A l=>
   have:=ih (Fs:=l) (F:=F) (by simpa using h);simp only[List.set_cons_succ,Uk];refine(UX A this).trans ?_
   rw[←UM,←UM];exact US _ UY
theorem Sep.perm{E:Env}{w:World}{F F':T7}(h:Sep E w F)(p:F.Perm F'):Sep E w F':=
 ⟨p.nodup_iff.1 h.nodup,fun c hc=>h.free c (p.mem_iff.2 hc),fun c hc=>h.lt c (p.mem_iff.2 hc),h.st,h.FI,h.KS⟩
theorem Sep.sub{E:Env}{w:World}{F F':T7}(h:Sep E w (F++F')):Sep E w F:=
 ⟨(UN.1 h.nodup).1,fun c hc=>h.free c (by simp[hc]),fun c hc=>h.lt c (by simp[hc]),h.st,h.FI,h.KS⟩
theorem AK.perm{E:Env}{w:World}{vw bx:List Bx}{G G':T7}(h:AK E w vw bx G)(p:G.Perm G'):AK E w vw bx G':=
 let⟨Fs,h1,h2⟩:=h
 ⟨Fs,h1,h2.perm (UX _ p)⟩
theorem AK.drop{E:Env}{w:World}{vw bx:List Bx}{G G':T7}(h:AK E w vw bx (G++G')):AK E w vw bx G:=
 let⟨Fs,h1,h2⟩:=h
 ⟨Fs,h1,by rw[←UM]at h2;exact h2.sub⟩
theorem AK.st{E:Env}{w:World}{vw bx:List Bx}{G:T7}(h:AK E w vw bx G):∀c,E.S c→E.T c:=let⟨_,_,h⟩:=h;h.st
theorem AK.FI{E:Env}{w:World}{vw bx:List Bx}{G:T7}(h:AK E w vw bx G):∀c,E.T c→c<w.heap.size:=let⟨_,_,h⟩:=h;h.FI
theorem AK.KS{E:Env}{w:World}{vw bx:List Bx}{G:T7}(h:AK E w vw bx G):QV E w:=let⟨_,_,h⟩:=h;h.KS
theorem AK.Nj{E:Env}{w:World}{vw bx:List Bx}{G:T7}(h:AK E w vw bx G):∀c∈G,¬E.T c:=let⟨_,_,h⟩:=h;fun c hc=>h.free c (by simp[hc])
theorem AK.take{E:Env}{w:World}{vw bx:List Bx}{G:T7}(h:AK E w vw bx G){b:Nat}{B:Bx}(hb:bx[b]? =some B):
  ∃F,Im E w vw b B F∧AK E w vw (bx.set b .dead) (F++G):=by
 obtain⟨Fs,⟨hl,h1⟩,h2⟩:=h;have CK:=(UF.1 hb).1;have hF:Fs[b]? =some (Fs[b]'(by omega)):=UH _;refine⟨_,h1 b B _ hb hF,Fs.set b [],⟨by simpa using hl,fun k C F hk LP=> ?_⟩,h2.perm ?_⟩
 ·by_cases e:k=b
  ·subst e
   rw[UQ (by omega)]at hk LP;cases hk;cases LP;rfl
  ·rw[UL (by omega)]at hk LP
   exact h1 k C F hk LP
 ·have:=US G (C0 hF)
  refine this.trans ?_
  rw[UM,←UM (List.flatten _)];refine(UY (l₁:=Fs[b]'(by omega))).trans ?_
  rw[UM,UM];exact UX _ UY
theorem AK.put{E:Env}{w:World}{vw bx:List Bx}{F G:T7}(h:AK E w vw bx (F++G)){b:Nat}{B:Bx}(hb:bx[b]? =some .dead)(hB:Im E w vw b B F):
  AK E w vw (bx.set b B) G:=by
 obtain⟨Fs,⟨hl,h1⟩,h2⟩:=h;have CK:=(UF.1 hb).1;have hF:Fs[b]? =some (Fs[b]'(by omega)):=UH _;have e0:Fs[b]'(by omega)=[]:=h1 b _ _ hb hF;refine⟨Fs.set b F,⟨by simpa using hl,fun k C F' hk LP=> ?_⟩,h2.perm ?_⟩
 ·by_cases e:k=b
  ·subst e
   rw[UQ (by omega)]at hk LP;cases hk;cases LP;exact hB
  ·rw[UL (by omega)]at hk LP
   exact h1 k C F' hk LP
 ·have p:(Fs.set b F).flatten.Perm (F++Fs.flatten):=by
   have p1:=C0 (Fs:=Fs.set b F) (b:=b) (F:=F) (UQ (by omega));rw[VZ]at p1;have p2:=C0 hF;rw[e0,VM]at p2;exact p1.trans (UX _ p2.symm)
  refine List.Perm.symm ?_
  refine(US G p).trans ?_
  rw[←UM];exact US _ UY
theorem AK.push{E:Env}{w:World}{vw bx:List Bx}{F G:T7}(h:AK E w vw bx (F++G)){B:Bx}(hB:Im E w vw bx.length B F):
  AK E w vw (bx++[B]) G:=by
 obtain⟨Fs,⟨hl,h1⟩,h2⟩:=h;refine⟨Fs++[F],⟨by simp[hl],fun k C F' hk LP=> ?_⟩,h2.perm (by simp)⟩;by_cases e:k<bx.length
 ·rw[UK (by omega)]at hk LP
  exact h1 k C F' hk LP
 ·have TC:=(UF.1 hk).1
  simp at TC;obtain rfl:k=bx.length:=by omega
  rw[UR (by omega)]at hk LP;simp[hl]at hk LP;subst hk LP;exact hB
theorem AK.turn{E E':Env}{w w':World}{vw vw' bx:List Bx}{G:T7}(h:AK E w vw bx G)(k:∀x v,VR E w vw x v→VR E' w' vw' x v)
  (hS:∀c,E.S c→E'.S c) (KF:∀b,b<bx.length→E'.A5 b=E.A5 b) (FN:∀b,b<bx.length→E'.A7 b=E.A7 b)
  (hw:∀c,(E.S c∨(¬E.T c∧c∉G))→c<w.heap.size→w'.heap[c]? =w.heap[c]?)
  (M3:∀F,Sep E w (F++G)→Sep E' w' (F++G)):AK E' w' vw' bx G:=by
 obtain⟨Fs,⟨hl,h1⟩,h2⟩:=h;refine⟨Fs,⟨hl,fun n B F hn hF=> ?_⟩,M3 _ h2⟩;have CK:=(UF.1 hn).1;have h3:=h1 n B F hn hF;have LW:∀c∈F,c∈Fs.flatten:=fun c hc=>UZ.2 ⟨F,UO hF,hc⟩
 have OY:∀c∈F,w'.heap[c]? =w.heap[c]?:=fun c hc=>hw c (.inr ⟨h2.free c (by simp[LW c hc]),fun hg=>by
  have:=(UN.1 h2.nodup).2.2 c (LW c hc) c hg;exact this rfl⟩) (h2.lt c (by simp[LW c hc]))
 have I7:∀c,E.S c→w'.heap[c]? =w.heap[c]?:=fun c hc=>hw c (.inl hc) (h2.FI c (h2.st c hc))
 cases B with
 |mem cs=>
  obtain⟨rfl,arr,ty,fr,ha,hu,hv⟩:=h3;refine⟨by rw[KF n CK],arr,ty,fr,?_,hu,hv.imp k⟩;rw[KF n CK,OY _ (by simp),ha]
 |sl d r rows=>
  obtain⟨hd,ho⟩:=h3;refine⟨hd,?_⟩;rw[FN n CK];exact AY hS I7 OY ho
 |dead=>exact h3
end Go.Fw
end
section
namespace Go.Fw
theorem A4{β:Ty→Type}{a b:Ty}{x:β a}{y:β b}(h:CL a b x=some y):∃e:a=b,e▸x=y:=by
 unfold CL at h;split at h
 ·rename_i e
  exact⟨e,by simpa using h⟩
 ·cases h
def Ac(bk vw:List Bx):Prop:= ∀(b:Nat) (B:Bx),bk[b]? =some B→B= .dead∨vw[b]? =some B
theorem Ac.refl(bx:List Bx):Ac bx bx:=fun _ _ h=> .inr h
theorem Addr.add_eq(b o n:Nat):(⟨b,o,none⟩:Addr).add n=⟨b,o+n,none⟩:=by unfold Addr.add;split<;>simp_all
theorem Lj{w:World}{B:Nat→Prop}{r:Ty}{a:Option Addr}{len cap:Nat}{ys:List r.D}(h:Rd w B (.sl r) [.slice a len cap] ys){off n:Nat}(hn:off+n≤ys.length):
  Rd w B (.sl r) [Cc r.n off n a cap] ((ys.drop off).take n):=by
 simp only[Rd]at h⊢;obtain⟨a',cap',e,hc,h⟩:=h;simp only[Ua,Value.slice.injEq,Us]at e;obtain⟨rfl,rfl,rfl⟩:=e;have hl:((ys.drop off).take n).length=n:=by simp;omega
 refine⟨_,_,by unfold Cc;rw[hl],by rw[hl];omega,?_⟩;rw[hl];by_cases h0:n=0
 ·exact .inl h0
 ·rcases h with h|⟨b,o,rfl,hb,h⟩
  ·omega
  ·refine .inr ⟨b,o+off*r.n,?_,hb,fun i y hy=> ?_⟩
   ·rw[U1 (by omega)]
    simp[Addr.add_eq]
   ·have hi:=(UF.1 hy).1
    rw[hl]at hi;rw[List.getElem?_take_of_lt hi,VH]at hy;obtain⟨cs,e1,e2,e3⟩:=h (off+i) y hy;refine⟨cs,e1,?_,e3⟩;rw[Ux,←VD]at e2;exact e2
def It(E:Env)(Fs:List T7)(c:Nat):Prop:=E.T c∨c∈Fs.flatten
section
variable{E:Env} {w:World} {vw bk:List Bx} {Fs:List T7}
theorem Bo.get(h:Bo E w vw bk Fs){b:Nat}{B:Bx}(e:bk[b]? =some B):∃F,Im E w vw b B F∧ ∀c∈F,c∈Fs.flatten:=by
 have CK:=(UF.1 e).1;have hF:Fs[b]? =some (Fs[b]'(by rw[h.1];exact CK)):=UH _;exact⟨_,h.2 b B _ e hF,fun c hc=>UZ.2 ⟨_,UO hF,hc⟩⟩
theorem FH(hs:Ac bk vw)(h:Bo E w vw bk Fs)(st:∀c,E.S c→E.T c){b d:Nat}{r:Ty}{rows:List r.D}(e:bk[b]? =some (.sl d r rows))
  {p:List HW} (hp:AM r rows p) {q:Ty} {ys:List q.D} (hg:Aq r rows p=some ⟨q,ys⟩) {v:Value} (hh:BG w (E.A7 b) p=some v):
  Rd w (It E Fs) (.sl q) [v] ys:=by
 obtain⟨F,⟨_,ho⟩,hF⟩:=h.get e;obtain⟨h',k,hr⟩:=Hn (Dy ho) hp hg;have:=k w (fun _ _=>rfl);rw[hh]at this;cases this;exact Ae (fun c hc=>hc.elim (fun hc=> .inl (st c hc)) (fun hc=> .inr (hF c hc))) (fun _ _=>rfl) hr
theorem Du(hs:Ac bk vw){b d:Nat}{r:Ty}{rows:List r.D}(e:bk[b]? =some (.sl d r rows)):vw[b]? =some (.sl d r rows):=by
 rcases hs b _ e with h|h
 ·cases h
 ·exact h
theorem EG(hs:Ac bk vw)(h:Bo E w vw bk Fs)(st:∀c,E.S c→E.T c){x:AV}{v:Value}(hv:VR E w vw x v){q:Ty}{ys:List q.D}(e:Bp bk x=some ⟨q,ys⟩):
  Rd w (It E Fs) (.sl q) [v] ys:=by
 cases x with
 |sl s r x=>
  simp only[Bp,UG,UP]at e;obtain⟨rfl,e⟩:=e;obtain rfl:=Uc e;simp only[VR]at hv;refine Ae (fun c hc=> ?_) (fun _ _=>rfl) hv;cases s
  ·exact .inl (by simpa using hc)
  ·exact .inl (st c (by simpa using hc))
 |ref b p=>
  simp only[Bp]at e;split at e
  ·rename_i d r rows hb
   simp only[VR,Du hs hb]at hv
   replace hv:=hv.2
   exact FH hs h st hb hv.1 e hv.2.2
  ·cases e
 |win b p off n=>
  simp only[Bp]at e;split at e
  ·rename_i d r rows hb
   simp only[VR,Du hs hb]at hv;obtain⟨_,hp,q',Iq,a,len,cap,hg,hl,hh,rfl⟩:=hv;rw[hg]at e;simp only[Option.map_some,UG,UP]at e;obtain⟨rfl,e⟩:=e;obtain rfl:=Uc e;exact Lj (FH hs h st hb hp hg hh) hl
  ·cases e
 |_=>simp[Bp]at e
theorem C2(hs:Ac bk vw)(h:Bo E w vw bk Fs)(st:∀c,E.S c→E.T c){t:Ty}{x:AV}{v:Value}(hv:VR E w vw x v){y:t.D}(e:Bi bk t x=some y):
  Rd w (It E Fs) t [v] y:=by
 have sl:∀(r:Ty) (x:AV) (v:Value) (y:List r.D),VR E w vw x v→((Bp bk x).bind fun q=>CL (β:=fun r=>List r.D) q.1 r q.2)=some y→Rd w (It E Fs) (.sl r) [v] y:=by
  intro r x v y hv e;rw[UJ]at e;obtain⟨⟨q,ys⟩,e1,e2⟩:=e;obtain⟨e3,e4⟩:=A4 e2;dsimp only at e3;subst e3;subst e4;exact EG hs h st hv e1
 cases x with
 |v u z=>
  simp only[Bi]at e;obtain⟨e1,e2⟩:=A4 e;subst e1;subst e2;exact Ae (fun _ hc=>hc.elim) (fun _ hc=>hc.elim) hv.2
 |nil=>
  cases t with
  |sl r=>
   simp only[Bi,UG]at e;subst e;simp only[VR]at hv;subst hv;simp only[Rd];exact⟨none,0,rfl,by simp,.inl rfl⟩
  |_=>simp[Bi]at e
 |_=>
  cases t with
  |sl r=>exact sl r _ _ y hv (by simpa only[Bi]using e)
  |_=>simp[Bi]at e
theorem F5(hs:Ac bk vw)(h:Bo E w vw bk Fs)(st:∀c,E.S c→E.T c):∀{r:Ty} {l:List AV} {vs:List Value} {x:r.D},GD E w vw l vs→A3 bk r l=some x→
  Rd w (It E Fs) r vs x
 | .unit,[],[],x,_,_=>by simp only[Rd]
 | .cons c r,a::l,v::vs,x,hv,e=>by
  simp only[A3,UJ,UI]at e;obtain⟨y,e1,z,e2,rfl⟩:=e;simp only[Rd];exact⟨v,vs,rfl,C2 hs h st hv.1 e1,F5 hs h st hv.2 e2⟩
 | .unit,_::_,_,_,_,e=>by simp[A3]at e
 | .unit,[],_::_,_,hv,_=>hv.elim
 | .cons _ _,[],_,_,_,e=>by simp[A3]at e
 | .cons _ _,_::_,[],_,hv,_=>hv.elim
 | .int _,_,_,_,_,e=>by simp[A3]at e
 | .bool,_,_,_,_,e=>by simp[A3]at e
 | .str,_,_,_,_,e=>by simp[A3]at e
 | .sl _,_,_,_,_,e=>by simp[A3]at e
theorem GN{E1:Env}{K8:List Bx}(hs:Ac bk vw)(h:Bo E w vw bk Fs)(st:∀c,E.S c→E.T c)(hT:∀c,It E Fs c→E1.T c):
  ∀{r:Ty} {l:List AV} {vs:List Value} {x:r.D},GD E w vw l vs→A3 bk r l=some x→GD E1 w K8 (GP r x) vs
 | .unit,[],[],x,_,_=>trivial
 | .cons c r,a::l,v::vs,x,hv,e=>by
  simp only[A3,UJ,UI]at e;obtain⟨y,e1,z,e2,rfl⟩:=e;have Eb:=C2 hs h st hv.1 e1;have tl:GD E1 w K8 _ _:=GN hs h st hT hv.2 e2;cases c with
  |sl q=>
   refine⟨?_,tl⟩;simp only[VR];exact Ae hT (fun _ _=>rfl) (by simpa using Eb)
  |int k=>exact⟨⟨rfl,by simpa only[Rd]using Eb⟩,tl⟩
  |bool=>exact⟨⟨rfl,by simpa only[Rd]using Eb⟩,tl⟩
  |str=>exact⟨⟨rfl,by simpa only[Rd]using Eb⟩,tl⟩
  |unit=>
   exfalso
   simp only[Rd]at Eb;cases Eb
  |cons c' r' =>
   exfalso
   cases a with
   |v u z=>
    simp only[Bi]at e1;obtain⟨e3,_⟩:=A4 e1;subst e3;exact absurd hv.1.1 (by simp[Ty.scalar])
   |_=>simp[Bi]at e1
 | .unit,_::_,_,_,_,e=>by simp[A3]at e
 | .unit,[],_::_,_,hv,_=>hv.elim
 | .cons _ _,[],_,_,_,e=>by simp[A3]at e
 | .cons _ _,_::_,[],_,hv,_=>hv.elim
 | .int _,_,_,_,_,e=>by simp[A3]at e
 | .bool,_,_,_,_,e=>by simp[A3]at e
 | .str,_,_,_,_,e=>by simp[A3]at e
 | .sl _,_,_,_,_,e=>by simp[A3]at e
end
end Go.Fw
end
section
namespace Go.Fw
def Ext(m m':CC):Prop:=m'.length=m.length∧ ∀(i b:Nat),m[i]? =some (some b)→m'[i]? =some (some b)
theorem Ext.refl(m:CC):Ext m m:=⟨rfl,fun _ _ h=>h⟩
theorem Ext.trans{m m' SW:CC}(h:Ext m m')(k:Ext m' SW):Ext m SW:=⟨k.1.trans h.1,fun i b e=>k.2 i b (h.2 i b e)⟩
def Ih(m:CC):Prop:= ∀(i j b:Nat),m[i]? =some (some b)→m[j]? =some (some b)→i=j
theorem FR{m m':CC}{i b:Nat}(e:m.put i b=some m'):Ext m m'∧m'[i]? =some (some b)∧(Ih m→Ih m'):=by
 unfold CC.put at e;split at e
 ·rename_i h
  split at e
  ·cases e
  ·rename_i hc
   cases e;have CK:=(UF.1 h).1;have N7:∀(k:Nat),m[k]?≠some (some b):=fun k hk=>hc (by
    rw[VP];exact UO hk)
   refine⟨⟨by simp,fun k c hk=> ?_⟩,by simp[CK],fun hi j k c hj hk=> ?_⟩
   ·by_cases e:k=i
    ·subst e;rw[h]at hk;cases hk
    ·rw[UL (by omega)];exact hk
   ·by_cases e1:j=i<;>by_cases e2:k=i
    ·omega
    ·subst e1
     rw[UQ CK]at hj;rw[UL (by omega)]at hk;cases hj;exact absurd hk (N7 k)
    ·subst e2
     rw[UQ CK]at hk;rw[UL (by omega)]at hj;cases hk;exact absurd hj (N7 j)
    ·rw[UL (by omega)]at hj hk
     exact hi j k c hj hk
 ·rename_i b' h
  split at e
  ·rename_i hb
   cases e;subst hb;exact⟨Ext.refl _,h,fun h=>h⟩
  ·cases e
 ·cases e
def Cf(m:CC):List Nat→List Nat→Prop
 |[],[]=>True
 |i::is,b::bs=>m[i]? =some (some b)∧Cf m is bs
 |_,_=>False
theorem Cf.ext{m m':CC}(h:Ext m m'):∀{is bs},Cf m is bs→Cf m' is bs
 |[],[],_=>trivial
 |_::_,_::_,k=>⟨h.2 _ _ k.1,Cf.ext h k.2⟩
theorem GS:∀{is bs:T7} {m m':CC},Ei m is bs=some m'→Ext m m'∧Cf m' is bs∧(Ih m→Ih m')
 |[],[],m,m',e=>by simp only[Ei,UG]at e;subst e;exact⟨Ext.refl _,trivial,fun h=>h⟩
 |i::is,b::bs,m,m',e=>by
  simp only[Ei,UJ]at e;obtain⟨m1,e1,e2⟩:=e;obtain⟨a1,a2,a3⟩:=FR e1;obtain⟨b1,b2,b3⟩:=GS e2;exact⟨a1.trans b1,⟨b1.2 _ _ a2,b2⟩,fun h=>b3 (a3 h)⟩
 |[],_::_,_,_,e=>by simp[Ei]at e
 |_::_,[],_,_,e=>by simp[Ei]at e
def Cl(N:Nat)(m:CC):AP→AV→Prop
 | .ref i,x=> ∃b,(x= .ref b []∨(x= .nil∧b=N+i))∧m[i]? =some (some b)
 | .ptr i j,x=> ∃b,x= .A6 b j∧m[i]? =some (some b)
 | .fn f BL,x=> ∃bs,x= .fn f bs∧Cf m BL bs
 | .nil,x=>x= .nil
 | .G8 i sz,x=> ∃b k j,x= .ref b [⟨k,sz,j⟩]∧m[i]? =some (some b)
 |_,_=>True
theorem Cl.ext{N:Nat}{m m':CC}(h:Ext m m'){p:AP}{x:AV}(k:Cl N m p x):Cl N m' p x:=by
 cases p with
 |ref i=>obtain⟨b,hx,k⟩:=k;exact⟨b,hx,h.2 _ _ k⟩
 |ptr i j=>obtain⟨b,rfl,k⟩:=k;exact⟨b,rfl,h.2 _ _ k⟩
 |fn f BL=>obtain⟨bs,rfl,k⟩:=k;exact⟨bs,rfl,k.ext h⟩
 |nil=>exact k
 |G8 i sz=>obtain⟨b,q,j,rfl,k⟩:=k;exact⟨b,q,j,rfl,h.2 _ _ k⟩
 |_=>trivial
theorem FA{N:Nat}{m m':CC}{p:AP}{x:AV}(e:p.Bv N m x=some m'):Ext m m'∧Cl N m' p x∧(Ih m→Ih m'):=by
 cases p with
 |ref i=>
  cases x with
  |ref b q=>
   cases q with
   |nil=>
    obtain⟨a,b,c⟩:=FR (by simpa only[AP.Bv]using e);exact⟨a,⟨_,.inl rfl,b⟩,c⟩
   |cons _ _=>simp[AP.Bv]at e
  |nil=>
   obtain⟨a,b,c⟩:=FR (by simpa only[AP.Bv]using e);exact⟨a,⟨_,.inr ⟨rfl,rfl⟩,b⟩,c⟩
  |_=>simp[AP.Bv]at e
 |ptr i j=>
  cases x with
  |A6 b j' =>
   simp only[AP.Bv]at e;split at e
   ·rename_i hj
    subst hj;obtain⟨a,b,c⟩:=FR e;exact⟨a,⟨_,rfl,b⟩,c⟩
   ·cases e
  |_=>simp[AP.Bv]at e
 |fn f BL=>
  cases x with
  |fn g bs=>
   simp only[AP.Bv]at e;split at e
   ·rename_i hf
    subst hf;obtain⟨a,b,c⟩:=GS e;exact⟨a,⟨_,rfl,b⟩,c⟩
   ·cases e
  |_=>simp[AP.Bv]at e
 |nil=>
  cases x with
  |nil=>simp only[AP.Bv,UG]at e;subst e;exact⟨Ext.refl _,rfl,fun h=>h⟩
  |_=>simp[AP.Bv]at e
 |G8 i sz=>
  cases x with
  |ref b q=>
   cases q with
   |nil=>simp[AP.Bv]at e
   |cons s q=>
    cases q with
    |nil=>
     simp only[AP.Bv]at e;split at e
     ·rename_i hs
      obtain⟨a,b,c⟩:=FR e;obtain⟨k,z,y⟩:=s;dsimp only at hs;subst hs;exact⟨a,⟨_,k,y,rfl,b⟩,c⟩
     ·cases e
    |cons _ _=>simp[AP.Bv]at e
  |_=>simp[AP.Bv]at e
 |_=>
  have:m=m':=by cases x<;>simpa[AP.Bv]using e
  subst this;exact⟨Ext.refl _,trivial,fun h=>h⟩
theorem DI{N:Nat}:∀{l:List AP} {xs:List AV} {m m':CC},Dm.Bv N m l xs=some m'→Ext m m'∧AF (Cl N m') l xs∧(Ih m→Ih m')
 |[],[],m,m',e=>by simp only[Dm.Bv,UG]at e;subst e;exact⟨Ext.refl _,trivial,fun h=>h⟩
 |p::l,x::xs,m,m',e=>by
  simp only[Dm.Bv,UJ]at e;obtain⟨m1,e1,e2⟩:=e;obtain⟨a1,a2,a3⟩:=FA e1;obtain⟨b1,b2,b3⟩:=DI e2;exact⟨a1.trans b1,⟨a2.ext b1,b2⟩,fun h=>b3 (a3 h)⟩
 |[],_::_,_,_,e=>by simp[Dm.Bv]at e
 |_::_,[],_,_,e=>by simp[Dm.Bv]at e
def F8(N:Nat)(m:CC):AP ⊕ List AP→AV ⊕ List AV→Prop
 | .inl p,.inl x=>Cl N m p x
 | .inr p,.inr x=>AF (Cl N m) p x
 |_,_=>False
theorem F8.ext{N:Nat}{m m':CC}(h:Ext m m'):∀{p:AP ⊕ List AP} {x:AV ⊕ List AV},F8 N m p x→F8 N m' p x
 | .inl _,.inl _,k=>Cl.ext h k
 | .inr _,.inr _,k=>AF.imp (fun _ _ k=>Cl.ext h k) k
theorem Ee{N:Nat}:∀{l:List (AP ⊕ List AP)} {xs:List (AV ⊕ List AV)} {m m':CC},Dx.Bv N m l xs=some m'→Ext m m'∧AF (F8 N m') l xs∧(Ih m→Ih m')
 |[],[],m,m',e=>by simp only[Dx.Bv,UG]at e;subst e;exact⟨Ext.refl _,trivial,fun h=>h⟩
 | .inl p::l,.inl x::xs,m,m',e=>by
  simp only[Dx.Bv,UJ]at e;obtain⟨m1,e1,e2⟩:=e;obtain⟨a1,a2,a3⟩:=FA e1;obtain⟨b1,b2,b3⟩:=Ee e2;exact⟨a1.trans b1,⟨Cl.ext b1 a2,b2⟩,fun h=>b3 (a3 h)⟩
 | .inr p::l,.inr x::xs,m,m',e=>by
  simp only[Dx.Bv,UJ]at e;obtain⟨m1,e1,e2⟩:=e;obtain⟨a1,a2,a3⟩:=DI e1;obtain⟨b1,b2,b3⟩:=Ee e2;exact⟨a1.trans b1,⟨AF.imp (fun _ _ k=>Cl.ext b1 k) a2,b2⟩,fun h=>b3 (a3 h)⟩
 |[],_::_,_,_,e=>by simp[Dx.Bv]at e
 | .inl _::_,[],_,_,e=>by simp[Dx.Bv]at e
 | .inr _::_,[],_,_,e=>by simp[Dx.Bv]at e
 | .inl _::_,.inr _::_,_,_,e=>by simp[Dx.Bv]at e
 | .inr _::_,.inl _::_,_,_,e=>by simp[Dx.Bv]at e
def Ec(N:Nat)(m:CC):XP→XV→Prop
 | .c p,.c x=>Cl N m p x
 | .agg l,.agg xs=>AF (Cl N m) l xs
 | .row _,.agg _=>True
 | .C9 l,.C9 xs=>AF (F8 N m) l xs
 |_,_=>False
theorem Ec.ext{N:Nat}{m m':CC}(h:Ext m m'):∀{p:XP} {x:XV},Ec N m p x→Ec N m' p x
 | .c _,.c _,k=>Cl.ext h k
 | .agg _,.agg _,k=>AF.imp (fun _ _ k=>Cl.ext h k) k
 | .row _,.agg _,_=>trivial
 | .C9 _,.C9 _,k=>AF.imp (fun _ _ k=>F8.ext h k) k
theorem Kg{N:Nat}{m m':CC}:∀{p:XP} {x:XV},p.Bv N m x=some m'→Ext m m'∧Ec N m' p x∧(Ih m→Ih m')
 | .c p,.c x,e=>FA (by simpa only[XP.Bv]using e)
 | .agg l,.agg xs,e=>DI (by simpa only[XP.Bv]using e)
 | .row r,.agg xs,e=>by simp only[XP.Bv,UG]at e;subst e;exact⟨Ext.refl _,trivial,fun h=>h⟩
 | .C9 l,.C9 xs,e=>Ee (by simpa only[XP.Bv]using e)
 | .c _,.agg _,e=>by simp[XP.Bv]at e
 | .c _,.C9 _,e=>by simp[XP.Bv]at e
 | .agg _,.c _,e=>by simp[XP.Bv]at e
 | .agg _,.C9 _,e=>by simp[XP.Bv]at e
 | .row _,.c _,e=>by simp[XP.Bv]at e
 | .row _,.C9 _,e=>by simp[XP.Bv]at e
 | .C9 _,.c _,e=>by simp[XP.Bv]at e
 | .C9 _,.agg _,e=>by simp[XP.Bv]at e
theorem FJ{N:Nat}{tm:List XV}:∀{l:List (Nat×XP)} {m m':CC},An.Bv N tm m l=some m'→
  Ext m m'∧(∀q∈l,∃x,tm[q.1]? =some x∧Ec N m' q.2 x)∧(Ih m→Ih m')
 |[],m,m',e=>by simp only[An.Bv,UG]at e;subst e;exact⟨Ext.refl _,by simp,fun h=>h⟩
 |(i,p)::l,m,m',e=>by
  simp only[An.Bv]at e;split at e
  ·rename_i x hx
   simp only[UJ]at e;obtain⟨m1,e1,e2⟩:=e;obtain⟨a1,a2,a3⟩:=Kg e1;obtain⟨b1,b2,b3⟩:=FJ e2;refine⟨a1.trans b1,?_,fun h=>b3 (a3 h)⟩;intro q hq;rcases Uo.1 hq with rfl|hq
   ·exact⟨x,hx,Ec.ext b1 a2⟩
   ·exact b2 q hq
  ·cases e
theorem DM{N:Nat}{bx:List Bx}:∀{l:List BP} {i:Nat} {m m':CC},BD.Bv N bx i m l=some m'→
  Ext m m'∧(∀(k:Nat) q,l[k]? =some (.mem q)→ ∃b cs,m'[i+k]? =some (some b)∧bx[b]? =some (.mem cs)∧AF (Cl N m') q cs)∧
   (∀(k:Nat) d r,l[k]? =some (.sl d r)→ ∃b,m'[i+k]? =some (some b))∧(Ih m→Ih m')
 |[],i,m,m',e=>by simp only[BD.Bv,UG]at e;subst e;exact⟨Ext.refl _,by simp,by simp,fun h=>h⟩
 | .mem q::l,i,m,m',e=>by
  simp only[BD.Bv]at e;split at e
  ·rename_i b hb
   split at e
   ·rename_i cs Mp
    simp only[UJ]at e;obtain⟨m1,e1,e2⟩:=e;obtain⟨a1,a2,a3⟩:=DI e1;obtain⟨b1,b2,b4,b3⟩:=DM e2;refine⟨a1.trans b1,?_,?_,fun h=>b3 (a3 h)⟩
    ·intro k q' hk
     cases k with
     |zero=>cases hk;exact⟨b,cs,b1.2 _ _ (a1.2 _ _ hb),Mp,AF.imp (fun _ _ k=>Cl.ext b1 k) a2⟩
     |succ k=>
      have:=b2 k q' (by simpa using hk)
      rwa [show i+1+k=i+(k+1)by omega]at this
    ·intro k d r hk
     cases k with
     |zero=>cases hk
     |succ k=>
      have:=b4 k d r (by simpa using hk)
      rwa [show i+1+k=i+(k+1)by omega]at this
   ·cases e
  ·cases e
 | .sl d r::l,i,m,m',e=>by
  simp only[BD.Bv]at e;split at e
  ·rename_i b hb
   obtain⟨b1,b2,b4,b3⟩:=DM e;refine⟨b1,?_,?_,b3⟩
   ·intro k q' hk
    cases k with
    |zero=>cases hk
    |succ k=>
     have:=b2 k q' (by simpa using hk)
     rwa [show i+1+k=i+(k+1)by omega]at this
   ·intro k d r hk
    cases k with
    |zero=>exact⟨b,b1.2 _ _ hb⟩
    |succ k=>
     have:=b4 k d r (by simpa using hk)
     rwa [show i+1+k=i+(k+1)by omega]at this
  ·cases e
 | .gone::l,i,m,m',e=>by
  simp only[BD.Bv]at e;obtain⟨b1,b2,b4,b3⟩:=DM e;refine⟨b1,?_,?_,b3⟩
  ·intro k q' hk
   cases k with
   |zero=>cases hk
   |succ k=>
    have:=b2 k q' (by simpa using hk)
    rwa [show i+1+k=i+(k+1)by omega]at this
  ·intro k d r hk
   cases k with
   |zero=>cases hk
   |succ k=>
    have:=b4 k d r (by simpa using hk)
    rwa [show i+1+k=i+(k+1)by omega]at this
theorem Cd{bx bk:List Bx}{BK:Nat→Nat}:∀{l:List BP} {m:CC} {x:BD.V l},BD.get bx bk m l=some x→(BD.mk BK l x).length=l.length∧
  ∀(k:Nat) p,l[k]? =some p→ ∃y:p.V,(BD.mk BK l x)[k]? =some (p.mk BK y)∧
   match p,y with
   | .mem q,y=> ∃b cs,m[k]? =some (some b)∧bx[b]? =some (.mem cs)∧Dm.get bk q cs=some y
   | .sl d r,y=> ∃b d',m[k]? =some (some b)∧bx[b]? =some (.sl d' r y)∧1≤d∧d≤d'
   | .gone,_=>True
 |[],m,x,e=>⟨rfl,by simp⟩
 | .mem q::l,some b::m,x,e=>by
  simp only[BD.get]at e;split at e
  ·rename_i cs Mp
   simp only[UJ,UI]at e;obtain⟨a,e1,c,e2,rfl⟩:=e;obtain⟨h1,h2⟩:=Cd (BK:=BK) e2;refine⟨by simp[BD.mk,h1],fun k p hk=> ?_⟩;cases k with
   |zero=>cases hk;exact⟨a,rfl,b,cs,rfl,Mp,e1⟩
   |succ k=>
    obtain⟨y,k1,k2⟩:=h2 k p (by simpa using hk);exact⟨y,by simpa[BD.mk]using k1,by simpa using k2⟩
  ·cases e
 | .sl d r::l,some b::m,x,e=>by
  simp only[BD.get]at e;split at e
  ·rename_i d' q rows hb
   split at e
   ·rename_i hd
    simp only[UJ,UI]at e;obtain⟨a,e1,c,e2,rfl⟩:=e;obtain⟨e3,e4⟩:=A4 e1;subst e3;subst e4;obtain⟨h1,h2⟩:=Cd (BK:=BK) e2;refine⟨by simp[BD.mk,h1],fun k p hk=> ?_⟩;cases k with
    |zero=>cases hk;exact⟨rows,rfl,b,d',rfl,hb,hd.1,hd.2⟩
    |succ k=>
     obtain⟨y,k1,k2⟩:=h2 k p (by simpa using hk);exact⟨y,by simpa[BD.mk]using k1,by simpa using k2⟩
   ·cases e
  ·cases e
 | .gone::l,o::m,x,e=>by
  have e':(BD.get bx bk m l).map (fun c=>((),c))=some x:=by cases o<;>simpa only[BD.get]using e
  simp only[UI]at e';obtain⟨c,e2,rfl⟩:=e';obtain⟨h1,h2⟩:=Cd (BK:=BK) e2;refine⟨by simp[BD.mk,h1],fun k p hk=> ?_⟩;cases k with
  |zero=>cases hk;exact⟨(),rfl,trivial⟩
  |succ k=>
   obtain⟨y,k1,k2⟩:=h2 k p (by simpa using hk);exact⟨y,by simpa[BD.mk]using k1,by simpa using k2⟩
 | .mem q::l,none::m,x,e=>by simp[BD.get]at e
 | .sl d r::l,none::m,x,e=>by simp[BD.get]at e
 | .mem _::_,[],x,e=>by simp[BD.get]at e
 | .sl _ _::_,[],x,e=>by simp[BD.get]at e
 | .gone::_,[],x,e=>by simp[BD.get]at e
theorem Az:∀{m:CC} {bx:List Bx},(AH bx m).length=bx.length
 |[],_=>rfl
 |some b::m,bx=>by simp[AH,Az]
 |none::m,bx=>by simp[AH,Az]
theorem Ca:∀{m:CC} {bx vw:List Bx},Ac bx vw→Ac (AH bx m) vw
 |[],_,_,h=>h
 |none::m,bx,vw,h=>by simp only[AH];exact Ca h
 |some b::m,bx,vw,h=>by
  simp only[AH];refine Ca fun k B hk=> ?_
  by_cases e:k=b
  ·subst e
   have CK:=(UF.1 hk).1;rw[UQ (by simpa using CK)]at hk;cases hk;exact .inl rfl
  ·rw[UL (by omega)]at hk
   exact h k B hk
theorem DJ:∀{m:CC} {bx:List Bx} {b:Nat} {B:Bx},some b∈m→(AH bx m)[b]? =some B→B= .dead
 |some c::m,bx,b,B,h,e=>by
  simp only[AH]at e;by_cases hm:some b∈m
  ·exact DJ hm e
  ·have:c=b:=by
    rcases Uo.1 h with h|h
    ·cases h;rfl
    ·exact absurd h hm
   subst this;have:∀{m:CC} {bx:List Bx},bx[c]? =some .dead→some c∉m→(AH bx m)[c]? =some .dead:=by
    intro m
    induction m with
    |nil=>intro bx h _;exact h
    |cons o m ih=>
     intro bx h hn;cases o with
     |none=>simp only[AH];exact ih h (fun hh=>hn (U3 _ hh))
     |some d=>
      simp only[AH];refine ih ?_ (fun hh=>hn (U3 _ hh))
      have:d≠c:=fun hh=>hn (by subst hh;simp)
      rw[UL (by omega)];exact h
   have CK:c<bx.length:=by
    have:=(UF.1 e).1;simpa[Az]using this
   have:=this (m:=m) (bx:=bx.set c .dead) (by simp[CK]) hm;rw[this]at e;cases e;rfl
 |none::m,bx,b,B,h,e=>by
  simp only[AH]at e;exact DJ (by simpa using h) e
theorem Hm{E:Env}{w:World}{vw:List Bx}:∀{m:CC} {bx:List Bx} {G:T7},Ih m→AK E w vw bx G→
  ∃Gs:List T7,Gs.length=m.length∧(∀(k b:Nat) B F,m[k]? =some (some b)→bx[b]? =some B→Gs[k]? =some F→Im E w vw b B F)∧
   AK E w vw (AH bx m) (Gs.flatten++G)
 |[],bx,G,_,h=>⟨[],rfl,by simp,h⟩
 |none::m,bx,G,hi,h=>by
  obtain⟨Gs,h1,h2,h3⟩:=Hm (m:=m) (fun i j b MA hj=>by
   have:=hi (i+1) (j+1) b (by simpa using MA) (by simpa using hj);omega) h
  refine⟨[]::Gs,by simp[h1],fun k b B F hk hB hF=> ?_,by simpa[AH]using h3⟩;cases k with
  |zero=>simp at hk
  |succ k=>exact h2 k b B F (by simpa using hk) hB (by simpa using hF)
 |some b::m,bx,G,hi,h=>by
  have OA:Ih m:=fun i j b MA hj=>by
   have:=hi (i+1) (j+1) b (by simpa using MA) (by simpa using hj);omega
  cases e:bx[b]? with
  |none=>
   have E4:bx.set b .dead=bx:=List.set_eq_of_length_le (by simpa using e);obtain⟨Gs,h1,h2,h3⟩:=Hm (m:=m) OA h;refine⟨[]::Gs,by simp[h1],fun k b' B F hk hB hF=> ?_,by simpa[AH,E4]using h3⟩;cases k with
   |zero=>simp at hk;subst hk;rw[e]at hB;cases hB
   |succ k=>exact h2 k b' B F (by simpa using hk) hB (by simpa using hF)
  |some B0=>
   obtain⟨F0,k1,k2⟩:=h.take e;obtain⟨Gs,h1,h2,h3⟩:=Hm (m:=m) OA k2;refine⟨F0::Gs,by simp[h1],fun k b' B F hk hB hF=> ?_,?_⟩
   ·cases k with
    |zero=>
     simp at hk hF;subst hk hF;rw[e]at hB;cases hB;exact k1
    |succ k=>
     have Ht:b'≠b:=fun hh=>by
      have:=hi 0 (k+1) b (by simp) (by subst hh;simpa using hk);omega
     exact h2 k b' B F (by simpa using hk) (by rw[UL (by omega)];exact hB) (by simpa using hF)
   ·simp only[AH]
    refine h3.perm ?_
    rw[Uk,←UM];exact US _ UY
end Go.Fw
end
section
namespace Go.Fw
theorem Hy{R:Nat→List Nat→List Nat→List Nat→Prop}:∀(Gs:List T7) (o:Nat),(∀(k:Nat) G,Gs[k]? =some G→ ∃F W,G.Perm (F++W)∧R (o+k) G F W)→
  ∃Fs Ws:List T7,Fs.length=Gs.length∧Ws.length=Gs.length∧Gs.flatten.Perm (Fs.flatten++Ws.flatten)∧
   ∀(k:Nat) G F W,Gs[k]? =some G→Fs[k]? =some F→Ws[k]? =some W→R (o+k) G F W
 |[],o,_=>⟨[],[],rfl,rfl,by simp,by simp⟩
 |G::Gs,o,h=>by
  obtain⟨F,W,hp,hr⟩:=h 0 G rfl;obtain⟨Fs,Ws,h1,h2,h3,h4⟩:=Hy Gs (o+1) (fun k G hk=>by
   have:=h (k+1) G (by simpa using hk)
   rwa [show o+1+k=o+(k+1)by omega])
  refine⟨F::Fs,W::Ws,by simp[h1],by simp[h2],?_,fun k G' F' W' hG hF hW=> ?_⟩
  ·simp only[Uk]
   refine(hp.append h3).trans ?_
   rw[UM,UM];refine UX _ ?_
   rw[←UM,←UM];exact US _ UY
  ·cases k with
   |zero=>simp at hG hF hW;subst hG hF hW;exact hr
   |succ k=>
    have:=h4 k G' F' W' (by simpa using hG) (by simpa using hF) (by simpa using hW)
    rwa [show o+1+k=o+(k+1)by omega]at this
def Bq(E:Env)(w:World)(vw:List Bx)(BK:Nat→Nat):(l:List (Nat×XP))→An.V l→List Value→Prop
 |[],_,_=>True
 |(i,p)::l,x,vals=>(∃v,vals[i]? =some v∧XR E w vw (p.mk BK x.1) v)∧Bq E w vw BK l x.2 vals
section
variable{E E1:Env} {w:World} {bx bk K8:List Bx} {Fk:List T7} {m:CC}
theorem Cf.map{f:Nat→Nat}(h:∀(i b:Nat),m[i]? =some (some b)→E1.A5 i=E.A5 b):∀{is bs:T7},Cf m is bs→
  (is.map fun b=>Value.pointer (some ⟨E1.A5 b,0,none⟩))=bs.map fun b=>Value.pointer (some ⟨E.A5 b,0,none⟩)
 |[],[],_=>rfl
 |i::is,b::bs,k=>by simp[h i b k.1,Cf.map (f:=f) h k.2]
theorem Cf.lt:∀{is bs:T7},Cf m is bs→ ∀i∈is,i<m.length
 |[],[],_,_,h=>by simp at h
 |i::is,b::bs,k,j,h=>by
  rcases Uo.1 h with rfl|h
  ·exact(UF.1 k.1).1
  ·exact Cf.lt k.2 j h
structure NY (N:Nat) (E:Env) (w:World) (bx bk:List Bx) (Fk:List T7) (m:CC) (E1:Env) (K8:List Bx):Prop where
 within:Ac bk bx
 boxes:Bo E w bx bk Fk
 st:∀c,E.S c→E.T c
 T:∀c,It E Fk c→E1.T c
 S:∀c,E.S c→E1.S c
 ids:∀(i b:Nat),m[i]? =some (some b)→E1.A5 i=E.A5 b∧E1.A7 i=E.A7 b
 len:m.length≤K8.length
 nil:∀(i:Nat) d r rows,K8[i]? =some (.sl d r rows)→E.A7 (N+i)= .slice none 0 0
 sl:∀(i:Nat) d r rows,i<m.length→K8[i]? =some (.sl d r rows)→ ∃b d',m[i]? =some (some b)∧bx[b]? =some (.sl d' r rows)
variable{N:Nat} (k:NY N E w bx bk Fk m E1 K8)
include k
theorem Lo{p:AP}{x:AV}{v:Value}(hv:VR E w bx x v)(ha:Cl N m p x){y:p.V}(e:p.get bk x=some y):VR E1 w K8 (p.mk id y) v:=by
 cases p with
 |v t=>
  simp only[AP.get]at e;split at e
  ·rename_i hs
   have hr:=C2 k.within k.boxes k.st hv e;refine⟨hs,?_⟩;cases t with
   |int _=>simpa only[Rd]using hr
   |bool=>simpa only[Rd]using hr
   |str=>simpa only[Rd]using hr
   |_=>simp[Ty.scalar]at hs
  ·cases e
 |sl s r=>
  cases s with
  |false=>
   simp only[AP.get]at e;have hr:=C2 k.within k.boxes k.st hv e;simp only[AP.mk,VR];exact Ae k.T (fun _ _=>rfl) (by simpa using hr)
  |true=>
   simp only[AP.get]at e;split at e
   ·rename_i q z
    obtain⟨e1,e2⟩:=A4 e;subst e1;subst e2;simp only[AP.mk,VR]at hv⊢;exact Ae k.S (fun _ _=>rfl) (by simpa using hv)
   ·cases e
    simp only[AP.mk,VR]at hv⊢;subst hv;simp only[Rd];exact⟨none,0,rfl,by simp,.inl rfl⟩
   ·cases e
 |nil=>
  obtain rfl:=ha;exact hv
 |ref i=>
  obtain⟨b,hx,hm⟩:=ha;have hi:=(UF.1 hm).1;simp only[AP.mk,id,VR];rcases hx with rfl|⟨rfl,rfl⟩
  ·have Rc:=hv.1
   refine⟨Rc,?_⟩;cases e1:K8[i]? with
   |none=>simp at e1;have:=k.len;omega
   |some B=>
    cases B with
    |sl d r rows=>
     obtain⟨b',d',h1,h2⟩:=k.sl i d r rows hi e1;rw[hm]at h1;cases h1;simp only[VR,h2]at hv
     replace hv:=hv.2
     refine⟨by simp[AM],⟨_,rfl⟩,?_⟩;rw[(k.ids i b hm).2];exact hv.2.2
    |_=>trivial
  ·have Ep:v= .slice none 0 0:=hv
   subst Ep;refine⟨rfl,?_⟩;cases e1:K8[i]? with
   |none=>simp at e1;have:=k.len;omega
   |some B=>
    cases B with
    |sl d r rows=>
     refine⟨by simp[AM],⟨_,rfl⟩,?_⟩;rw[(k.ids i _ hm).2,k.nil i d r rows e1,AJ]
    |_=>trivial
 |ptr i j=>
  obtain⟨b,rfl,hm⟩:=ha;have hi:=(UF.1 hm).1;exact⟨Uh hi k.len,by rw[hv.2,id,(k.ids i b hm).1]⟩
 |Km r=>
  simp only[AP.get]at e;split at e
  ·rename_i s q z
   obtain⟨e1,e2⟩:=A4 e;subst e1;subst e2;simp only[AP.mk,VR]at hv⊢;obtain⟨bb,o,cs,h1,h2,h3,h4,h5⟩:=hv;have M_:∀c,(if s=true then E.S else E.T) c→E1.T c:=by
    intro c hc;cases s
    ·exact k.T c (.inl (by simpa using hc))
    ·exact k.T c (.inl (k.st c (by simpa using hc)))
   exact⟨bb,o,cs,h1,by simpa using M_ bb h2,h3,h4,by simpa using Ae M_ (fun _ _=>rfl) h5⟩
  ·rename_i b
   split at e
   ·rename_i cs hb
    obtain⟨F,⟨hF,arr,ty,fr,ha,hu,Dg⟩,La⟩:=k.boxes.get hb;have Eb:=F5 k.within k.boxes k.st Dg e;simp only[AP.mk,VR];refine⟨E.A5 b,0,arr.toList,by simpa using hv.2,?_,HE Eb,?_,by simpa using Ae k.T (fun _ _=>rfl) Eb⟩
    ·simp only[Ut,VI]
     exact k.T _ (.inr (La _ (by rw[hF];simp)))
    ·intro j u hj
     simp only[U2,World.cell?,ha,U7,Ut,VI];simpa using hj
   ·cases e
  ·rename_i b p i sz
   split at e
   ·rename_i d q rows hb
    simp only[UJ]at e;obtain⟨⟨q',ys⟩,e1,e2⟩:=e;split at e2
    case isFalse=>cases e2
    rename_i CB;obtain⟨e3,e4⟩:=A4 e2;dsimp only at e3;subst e3;subst e4;simp only[VR,Du k.within hb]at hv;obtain⟨_,hp,q1,ys1,bb,o,len,cap,hg,hi,hh,rfl⟩:=hv;rw[hg]at e1;simp only[UG,UP]at e1;obtain⟨e5,e6⟩:=e1;subst e5;obtain rfl:=Uc e6;have Eb:=FH k.within k.boxes k.st hb hp hg hh;simp only[Rd]at Eb;obtain⟨a',cap',ee,_,Eb⟩:=Eb;simp only[Ua,Value.slice.injEq,Us]at ee;obtain⟨rfl,rfl,rfl⟩:=ee;rcases Eb with Eb|⟨b1,o1,e7,hb1,Eb⟩
    ·omega
    ·cases e7
     obtain⟨cs,c1,c2,c3⟩:=Eb i _ (CR hi);simp only[AP.mk,VR];refine⟨bb,o+i*q1.n,cs,by rw[CB],by simpa using k.T _ hb1,c1,c2,by simpa using Ae k.T (fun _ _=>rfl) c3⟩
   ·cases e
  ·cases e
 |fn f BL=>
  obtain⟨bs,rfl,hc⟩:=ha;refine⟨fun i hi=>Uh (hc.lt i (by simpa[AP.mk]using hi)) k.len,?_⟩;rw[hv.2];simp only[AP.mk,List.map_id];rw[Cf.map (f:=id) (fun i b h=>(k.ids i b h).1) hc]
 |J2 f rs=>
  simp only[AP.get]at e;split at e
  ·rename_i g rows
   split at e
   case isFalse=>cases e
   rename_i Ro;subst Ro;obtain⟨ps,Ex,ER⟩:=hv;refine⟨ps,Ex,?_⟩;clear ha Ex
   induction rs generalizing rows ps with
   |nil=>
    cases rows with
    |nil=>
     cases ps with
     |nil=>trivial
     |cons _ _=>exact ER.elim
    |cons _ _=>simp[EB.I1]at e
   |cons r rs ih=>
    cases rows with
    |nil=>simp[EB.I1]at e
    |cons q rows=>
     cases ps with
     |nil=>exact ER.elim
     |cons p ps=>
      simp only[EB.I1,UJ,UI]at e;obtain⟨x1,e1,x2,e2,rfl⟩:=e;obtain⟨q1,q2⟩:=q;obtain⟨e3,e4⟩:=A4 e1;dsimp only at e3;subst e3;subst e4;obtain⟨⟨bb,o,cs,h1,h2,h3,h4,h5⟩,ER⟩:=ER;exact⟨⟨bb,o,cs,h1,k.T bb (.inl h2),h3,h4,Ae (fun b hb=>k.T b (.inl hb)) (fun _ _=>rfl) h5⟩,ih rows e2 ps ER⟩
  ·rename_i g bs
   split at e
   case isFalse=>cases e
   rename_i Ro;subst Ro;obtain⟨Ex,ER⟩:=hv;refine⟨bs.map fun b=>Value.pointer (some ⟨E.A5 b,0,none⟩),ER,?_⟩;clear ha Ex ER
   induction rs generalizing bs with
   |nil=>
    cases bs with
    |nil=>trivial
    |cons _ _=>simp[EB.H5]at e
   |cons r rs ih=>
    cases bs with
    |nil=>simp[EB.H5]at e
    |cons b bs=>
     simp only[EB.H5,UJ,UI]at e;obtain⟨x1,e1,x2,e2,rfl⟩:=e;split at e1
     case h_2=>cases e1
     rename_i cs hb;obtain⟨F,⟨hF,arr,ty,fr,ha,hu,Dg⟩,La⟩:=k.boxes.get hb;have Eb:=F5 k.within k.boxes k.st Dg e1;refine⟨⟨E.A5 b,0,arr.toList,rfl,k.T _ (.inr (La _ (by rw[hF];simp))),HE Eb,?_,Ae k.T (fun _ _=>rfl) Eb⟩,ih bs e2⟩;intro j u hj;simp only[U2,World.cell?,ha,U7,Ut,VI];simpa using hj
  ·cases e
 |any=>trivial
 |G8 i sz=>
  obtain⟨b,q,j,rfl,hm⟩:=ha;have hi:=(UF.1 hm).1;simp only[AP.get,UG]at e;subst e;simp only[AP.mk,id,VR];have Rc:=hv.1;refine⟨Rc,?_⟩;cases e1:K8[i]? with
  |none=>simp at e1;have:=k.len;omega
  |some B=>
   cases B with
   |sl d r rows=>
    obtain⟨b',d',h1,h2⟩:=k.sl i d r rows hi e1;rw[hm]at h1;cases h1;simp only[VR,h2]at hv
    replace hv:=hv.2
    refine⟨hv.1,hv.2.1,?_⟩;rw[(k.ids i b hm).2];exact hv.2.2
   |_=>trivial
theorem Hs:∀{l:List AP} {xs:List AV} {vs:List Value},GD E w bx xs vs→AF (Cl N m) l xs→ ∀{y:Dm.V l},Dm.get bk l xs=some y→GD E1 w K8 (Dm.mk id l y) vs
 |[],[],[],_,_,_,_=>trivial
 |p::l,x::xs,v::vs,hv,ha,y,e=>by
  simp only[Dm.get,UJ,UI]at e;obtain⟨a,e1,b,e2,rfl⟩:=e;exact⟨Lo k hv.1 ha.1 e1,Hs hv.2 ha.2 e2⟩
 |[],[],_::_,hv,_,_,_=>hv.elim
 |_::_,_::_,[],hv,_,_,_=>hv.elim
 |[],_::_,_,_,ha,_,_=>ha.elim
 |_::_,[],_,_,ha,_,_=>ha.elim
theorem KJ:∀{l:List (AP ⊕ List AP)} {xs:List (AV ⊕ List AV)} {vs:List Value},AF (TR E w bx) xs vs→AF (F8 N m) l xs→ ∀{y:Dx.V l},Dx.get bk l xs=some y→
  AF (TR E1 w K8) (Dx.mk id l y) vs
 |[],[],[],_,_,_,_=>trivial
 | .inl p::l,.inl x::xs,v::vs,hv,ha,y,e=>by
  simp only[Dx.get,UJ,UI]at e;obtain⟨a,e1,b,e2,rfl⟩:=e;exact⟨Lo k hv.1 ha.1 e1,KJ hv.2 ha.2 e2⟩
 | .inr p::l,.inr x::xs,v::vs,hv,ha,y,e=>by
  simp only[Dx.get,UJ,UI]at e;obtain⟨a,e1,b,e2,rfl⟩:=e;obtain⟨⟨us,hu,hus⟩,h2⟩:=hv;exact⟨⟨us,hu,Hs k hus ha.1 e1⟩,KJ h2 ha.2 e2⟩
 | .inl _::_,.inr _::_,_,_,ha,_,_=>ha.1.elim
 | .inr _::_,.inl _::_,_,_,ha,_,_=>ha.1.elim
 |[],[],_::_,hv,_,_,_=>hv.elim
 |_::_,_::_,[],hv,_,_,_=>hv.elim
 |[],_::_,_,_,ha,_,_=>ha.elim
 |_::_,[],_,_,ha,_,_=>ha.elim
theorem Oy{p:XP}{x:XV}{v:Value}(hv:XR E w bx x v)(ha:Ec N m p x){y:p.V}(e:p.get bk x=some y):XR E1 w K8 (p.mk id y) v:=by
 cases p with
 |c p=>cases x with
  |c x=>exact Lo k hv ha (by simpa only[XP.get]using e)
  |_=>exact ha.elim
 |agg l=>cases x with
  |agg xs=>
   obtain⟨vs,rfl,Dg⟩:=hv;exact⟨vs,rfl,Hs k Dg ha (by simpa only[XP.get]using e)⟩
  |_=>exact ha.elim
 |row r=>cases x with
  |agg xs=>
   obtain⟨vs,rfl,Dg⟩:=hv;exact⟨vs,rfl,GN k.within k.boxes k.st k.T Dg (by simpa only[XP.get]using e)⟩
  |_=>exact ha.elim
 |C9 l=>cases x with
  |C9 xs=>
   obtain⟨vs,rfl,Dg⟩:=hv;exact⟨vs,rfl,KJ k Dg ha (by simpa only[XP.get]using e)⟩
  |_=>exact ha.elim
theorem Jg{tm:List XV}{vals:List Value}(O8:AF (XR E w bx) tm vals):∀{l:List (Nat×XP)},(∀q∈l,∃x,tm[q.1]? =some x∧Ec N m q.2 x)→ ∀{y:An.V l},An.get bk tm l=some y→
  Bq E1 w K8 id l y vals
 |[],_,_,_=>trivial
 |(i,p)::l,ha,y,e=>by
  obtain⟨x,hx,hax⟩:=ha (i,p) (by simp);simp only[An.get,hx,UJ,UI]at e;obtain⟨a,e1,b,e2,rfl⟩:=e;obtain⟨v,hv,hr⟩:=O8.get hx;exact⟨⟨v,hv,Oy k hr hax e1⟩,Jg O8 (fun q hq=>ha q (by simp[hq])) e2⟩
end
structure KI (E:Env) (w:World) (bx:List Bx) (m:CC) (s:CM) (x:s.V) (vals:List Value) (E1:Env):Prop where
 boxes:AK E1 w (BD.mk id s.Ar x.2) (BD.mk id s.Ar x.2) []
 AX:Bq E1 w (BD.mk id s.Ar x.2) id s.AX x.1 vals
 ids:∀(i b:Nat),m[i]? =some (some b)→E1.A5 i=E.A5 b∧E1.A7 i=E.A7 b
 inj:Ih m
 len:m.length=s.Ar.length
 S:∀c,E.S c→E1.S c
 L7:∀c,E1.S c→E.S c∨ ¬E.T c
 T:∀c,E.T c→E1.T c
 rest:∃Fk,Bo E w bx (AH bx m) Fk∧Fk.flatten.Nodup∧(∀c∈Fk.flatten,¬E.T c∧ ¬E1.S c∧c<w.heap.size∧E1.T c)∧(∀c,E1.T c→E.T c∨E1.S c∨c∈Fk.flatten)
theorem G_{E:Env}{w:World}{bx:List Bx}{tm:List XV}{vals:List Value}(hB:AK E w bx bx [])(O8:AF (XR E w bx) tm vals){s:CM}{m0 m:CC}{x:s.V}
  {N:Nat} (LZ:∀(i:Nat) d r,s.Ar[i]? =some (.sl d r)→E.A7 (N+i)= .slice none 0 0) (hlen:m0.length=s.Ar.length) (OA:Ih m0) (e:s.fit N m0 tm bx=some (x,m)):Ext m0 m∧ ∃E1,KI E w bx m s x vals E1:=by
 simp only[CM.fit,UJ,UI]at e;obtain⟨m1,e1,m2,e2,a,e3,c,e4,e5⟩:=e;cases e5;obtain⟨a1,a2,a3⟩:=FJ e1;obtain⟨b1,b2,b4,b3⟩:=DM e2;have hi:Ih m:=b3 (a3 OA);have RE:m.length=s.Ar.length:=by rw[b1.1,a1.1,hlen]
 refine⟨a1.trans b1,?_⟩;obtain⟨Gs,g1,g2,g3⟩:=Hm hi hB;obtain⟨q1,q2⟩:=Cd (BK:=id) e4;have st:=hB.st
 let R:Nat→List Nat→List Nat→List Nat→Prop:=fun k G F W=>
  match s.Ar[k]? with
  |some (.sl d r)=> ∀(b d':Nat) (rows:List r.D),m[k]? =some (some b)→bx[b]? =some (.sl d' r rows)→Ow w (fun c=>E.S c∨c∈W) d (.sl r) [E.A7 b] rows F
  |some (.mem q)=>F=G∧W=[]
  |_=>F=[]∧W=G
 have Oe:∀(k:Nat) G,Gs[k]? =some G→ ∃F W,G.Perm (F++W)∧R (0+k) G F W:=by
  intro k G hG;rw[U2];have hk:k<s.Ar.length:=by
   have:=(UF.1 hG).1;omega
  have hp:s.Ar[k]? =some s.Ar[k]:=UH hk;cases hb:s.Ar[k]with
  |mem q=>exact⟨G,[],by simp,by simp[R,hp,hb]⟩
  |gone=>exact⟨[],G,by simp,by simp[R,hp,hb]⟩
  |sl d r=>
   obtain⟨y,y1,b,d',y2,y3,y4,y5⟩:=q2 k _ (hp.trans (by rw[hb]));obtain⟨_,ho⟩:=g2 k b _ G y2 y3 hG;obtain⟨F,W,w1,w2⟩:=BO y5 ho;refine⟨F,W,w1,?_⟩;simp only[R,hp,hb];intro b' T5 rows h1 h2;rw[y2]at h1;cases h1;rw[y3]at h2;cases h2;exact w2
 obtain⟨Fs,Ws,f1,f2,f3,f4⟩:=Hy Gs 0 Oe;obtain⟨Fk,k1,k2⟩:=g3;simp only[Ud]at k2;have Ni:Sep E w (Fk.flatten++(Fs.flatten++Ws.flatten)):=k2.perm (UX _ f3)
 let E1:Env:={
   A5:=fun i=>match m[i]? with|some (some b)=>E.A5 b|_=>0
   A7:=fun i=>match m[i]? with|some (some b)=>E.A7 b|_=> .nilFunc
   S:=fun c=>E.S c∨c∈Ws.flatten
   T:=fun c=>E.T c∨c∈Ws.flatten∨c∈Fk.flatten }
 have Kd:∀(i b:Nat),m[i]? =some (some b)→E1.A5 i=E.A5 b∧E1.A7 i=E.A7 b:=fun i b h=>by simp[E1,h]
 have fe:NY N E w bx (AH bx m) Fk m E1 (BD.mk id s.Ar c):={
  within:=Ca (Ac.refl bx)
  boxes:=k1
  st:=st
  T:=fun d hd=>hd.elim .inl fun h=> .inr (.inr h)
  S:=fun d hd=> .inl hd
  ids:=Kd
  len:=by rw[q1,RE];exact Ui _
  nil:=fun i d r rows e=>by
   have hk:i<s.Ar.length:=by
    have:=(UF.1 e).1
    rwa [q1]at this
   obtain⟨y,y1,_⟩:=q2 i _ (UH hk);have hp:=UH hk;rw[e]at y1
   generalize s.Ar[i]=P at y y1 hp
   cases P with
   |mem q=>cases y1
   |gone=>cases y1
   |sl d0 r0=>exact LZ i d0 r0 hp
  sl:=fun i d r rows hi e=>by
   have hk:i<s.Ar.length:=by omega
   obtain⟨y,y1,y2⟩:=q2 i _ (UH hk);rw[e]at y1
   generalize s.Ar[i]=P at y y1 y2
   cases P with
   |mem q=>cases y1
   |gone=>cases y1
   |sl d0 r0=>
    simp only[BP.mk,UG,Bx.sl.injEq]at y1;obtain⟨rfl,rfl,y1⟩:=y1;obtain rfl:=Uc y1;obtain⟨b,d',z1,z2,_⟩:=y2;exact⟨b,d',z1,z2⟩ }
 have nd:=Ni.nodup;have M3:∀c∈Fs.flatten,¬E1.T c:=by
  intro d hd h;rcases h with h|h|h
  ·exact Ni.free d (by simp[hd]) h
  ·have:=(UN.1 (UN.1 nd).2.1).2.2 d hd d h
   exact this rfl
  ·have:=(UN.1 nd).2.2 d h d (by simp[hd])
   exact this rfl
 have Oo:Bq E1 w (BD.mk id s.Ar c) id s.AX a vals:=Jg fe O8 (fun q hq=>let⟨x,h1,h2⟩:=a2 q hq;⟨x,h1,Ec.ext b1 h2⟩) e3;refine⟨E1,KI.mk ?_ Oo Kd hi RE (fun d hd=> .inl hd) ?_ (fun d hd=> .inl hd) ⟨Fk,k1,(UN.1 nd).1,fun d hd=>⟨Ni.free d (by simp[hd]),?_,Ni.lt d (by simp[hd]),.inr (.inr hd)⟩,?_⟩⟩
 ·refine⟨Fs,⟨by rw[f1,g1,q1,RE],fun k B F hk hF=> ?_⟩,?_⟩
  ·have TE:k<s.Ar.length:=by
    have Q1:=(UF.1 hk).1;rw[←q1];exact Q1
   have hp:s.Ar[k]? =some s.Ar[k]:=UH TE;obtain⟨y,y1,y2⟩:=q2 k _ hp;rw[hk]at y1;cases y1;have hG:Gs[k]? =some (Gs[k]'(by omega)):=UH _;have hW:Ws[k]? =some (Ws[k]'(by omega)):=UH _;have hr:=f4 k _ F _ hG hF hW;rw[U2]at hr;have QP:∀d∈Ws[k]'(by omega),d∈Ws.flatten:=fun d hd=>UZ.2 ⟨_,UO hW,hd⟩
   generalize S_:s.Ar[k]=P at y y2 hp
   have QK:=fun q=>b2 k q
   simp only[R,hp]at hr;cases P with
   |mem q=>
    obtain⟨b,cs,z1,z2,z3⟩:=y2;obtain⟨rfl,hW0⟩:=hr;obtain⟨hFe,arr,ty,fr,h1,h2,h3⟩:=g2 k b _ _ z1 z2 hG;obtain⟨b',Eu,t1,t2,t3⟩:=QK q hp;rw[U2,z1]at t1;cases t1;rw[z2]at t2;cases t2;refine⟨by rw[hFe,(Kd k b z1).1],arr,ty,fr,by rw[(Kd k b z1).1];exact h1,h2,Hs fe h3 t3 z3⟩
   |sl d r=>
    obtain⟨b,d',z1,z2,z3,z4⟩:=y2;have:=hr b d' y z1 z2;refine⟨z3,?_⟩;rw[(Kd k b z1).2];exact AY (fun d hd=>hd.elim .inl fun h=> .inr (QP d h)) (fun _ _=>rfl) (fun _ _=>rfl) this
   |gone=>exact hr.1
  ·simp only[Ud]
   refine⟨(UN.1 (UN.1 nd).2.1).1,M3,fun d hd=>Ni.lt d (by simp[hd]),fun d hd=>hd.elim (fun h=> .inl (st d h)) (fun h=> .inr (.inl h)),fun d hd=> ?_,Ni.KS.mono (fun _ h=> .inl h) (fun _ _=>rfl)⟩;rcases hd with hd|hd|hd
   ·exact Ni.FI d hd
   ·exact Ni.lt d (by simp[hd])
   ·exact Ni.lt d (by simp[hd])
 ·intro d hd
  exact hd.elim .inl fun h=> .inr (Ni.free d (by simp[h]))
 ·intro h
  rcases h with h|h
  ·exact Ni.free d (by simp[hd]) (st d h)
  ·have:=(UN.1 nd).2.2 d hd d (by simp[h])
   exact this rfl
 ·intro d hd
  rcases hd with hd|hd|hd
  ·exact .inl hd
  ·exact .inr (.inl (.inr hd))
  ·exact .inr (.inr hd)
end Go.Fw
end
section
namespace Go.Fw
def zv:Ty→Value
 | .int k=> .int k 0
 | .bool=> .bool false
 | .str=> .string ⟨#[]⟩
 |_=> .slice none 0 0
def Ao:Ty→List Value
 | .cons c r=>zv c::Ao r
 | .unit=>[]
 |t=>[zv t]
def Ty.cell:Ty→Bool
 | .unit| .cons _ _=>false
 |_=>true
def Ty.Jz:Ty→Bool
 | .cons c r=>c.cell&&r.Jz
 |_=>true
def RG:Value→Value→Bool
 | .int k n,.int k' n' =>decide (k=k')&&decide (n=n')
 | .bool a,.bool b=>decide (a=b)
 | .string a,.string b=>decide (a.data.toList=[])&&decide (b.data.toList=[])
 | .slice none a b,.slice none c d=>decide (a=c)&&decide (b=d)
 |_,_=>false
theorem O4{a b:Value}(h:RG a b=true):a=b:=by
 unfold RG at h;split at h
 ·simp at h;rw[h.1,h.2]
 ·simp at h;rw[h]
 ·rename_i a b
  simp at h;obtain⟨h1,h2⟩:=h;cases a;cases b;simp at h1 h2;subst h1 h2;rfl
 ·simp at h;rw[h.1,h.2]
 ·cases h
def MT:List Value→List Value→Bool
 |[],[]=>true
 |a::l,b::m=>RG a b&&MT l m
 |_,_=>false
theorem MH:∀{l m:List Value},MT l m=true→l=m
 |[],[],_=>rfl
 |a::l,b::m,h=>by
  simp only[MT,UT]at h;rw[O4 h.1,MH h.2]
 |[],_::_,h=>by simp[MT]at h
 |_::_,[],h=>by simp[MT]at h
def Fy(P:Program)(t:Nat):TD→Prop
 | .int k=>P.underlying t=some (.int k)
 | .bool=>P.underlying t=some .bool
 | .str=>P.underlying t=some .string
 | .sl e=>P.underlying t=some (.slice e)
 | .ptr e=>P.underlying t=some (.pointer e)
 | .st fs=> ∃fields,P.underlying t=some (.struct fields)∧fields.toList.map (fun f=>(f.offset,f.type))=fs∧(∀f∈fields.toList,f.name≠ "_" ∧ ∃i,P.info? f.type=some i∧i.size≠0)∧
  P.stoodInHeld t=false∧P.eqGuardType P.depth t=false
 | .other=> ∃d,P.underlying t=some d∧d.isRow=false
structure QT (P:Program) (T:BQ) (t:Nat) (ti:TI):Prop where
 info:∃i,P.info? t=some i∧i.size=ti.size∧i.bytes=ti.bytes∧(∀r,ti.row=some r→r.Jz=true∧ ∃z,i.zero=some z∧z.cells.toList=Ao r)
 M4:Fy P t ti.desc
def Ag(P:Program)(T:BQ):Prop:= ∀t ti,T.get t=some ti→QT P T t ti
def J_(P:Program)(T:BQ)(t:Nat)(ti:TI):Bool:=
 (match P.info? t with
  |some i=>decide (i.size=ti.size)&&decide (i.bytes=ti.bytes)&&(match ti.row with
   |some r=>r.Jz&&(match i.zero with
    |some z=>MT z.cells.toList (Ao r)
    |none=>false)
   |none=>true)
  |none=>false)&&
 (match ti.desc,P.underlying t with
  | .int k,some (.int k')=>decide (k=k')
  | .bool,some .bool=>true
  | .str,some .string=>true
  | .sl e,some (.slice e')=>decide (e=e')
  | .ptr e,some (.pointer e')=>decide (e=e')
  | .st fs,some (.struct fields)=>decide (fields.toList.map (fun f=>(f.offset,f.type))=fs)&&
    fields.toList.all (fun f=>decide (f.name≠ "_")&&(match P.info? f.type with|some i=>decide (i.size≠0)|none=>false))&&
    !P.stoodInHeld t&& !P.eqGuardType P.depth t
  | .other,some d=> !d.isRow
  |_,_=>false)
theorem KD{P:Program}{T:BQ}{t:Nat}{ti:TI}(h:J_ P T t ti=true):QT P T t ti:=by
 unfold J_ at h;rw[UT]at h;obtain⟨h1,h2⟩:=h;constructor
 ·split at h1
  ·rename_i i hi
   simp only[UT,Uj]at h1;refine⟨i,hi,h1.1.1,h1.1.2,fun r hr=> ?_⟩;obtain⟨_,h3⟩:=h1;rw[hr]at h3;dsimp only at h3;rw[UT]at h3;obtain⟨hg,h3⟩:=h3;refine⟨hg,?_⟩;split at h3
   ·rename_i z hz
    exact⟨z,hz,MH h3⟩
   ·cases h3
  ·cases h1
 ·split at h2
  ·rename_i hd hu;simp only[hd,Fy];simp at h2;rw[hu,h2]
  ·rename_i hd hu;simp only[hd,Fy];exact hu
  ·rename_i hd hu;simp only[hd,Fy];exact hu
  ·rename_i hd hu;simp only[hd,Fy];simp at h2;rw[hu,h2]
  ·rename_i hd hu;simp only[hd,Fy];simp at h2;rw[hu,h2]
  ·rename_i fs fields hd hu
   simp only[hd,Fy];simp only[UT,Uj,Uz,Bool.not_eq_true']at h2;refine⟨fields,hu,h2.1.1.1,fun f hf=> ?_,h2.1.2,h2.2⟩;have:=h2.1.1.2 f hf;refine⟨this.1,?_⟩;have h4:=this.2;split at h4
   ·rename_i i hi
    exact⟨i,hi,by simpa using h4⟩
   ·cases h4
  ·rename_i d hd hu;simp only[hd,Fy]
   exact⟨d,hu,by simpa using h2⟩
  ·cases h2
def Nb(P:Program)(T:BQ):Bool:=T.all fun q=>J_ P T q.1 q.2
theorem BQ.get_mem:∀{T:BQ} {t:Nat} {ti:TI},T.get t=some ti→(t,ti)∈T
 |(u,i)::l,t,ti,h=>by
  simp only[BQ.get]at h;split at h
  ·rename_i e;cases h;subst e;simp
  ·exact U3 _ (BQ.get_mem h)
 |[],_,_,h=>by simp[BQ.get]at h
theorem I5{P:Program}{T:BQ}(h:Nb P T=true):Ag P T:=fun t ti e=>
 KD (by simpa using Uz.1 h (t,ti) (BQ.get_mem e))
section
variable{P:Program} {T:BQ} (hT:Ag P T)
include hT
theorem Ag.size{t:Nat}{ti:TI}(e:T.get t=some ti):(P.info? t).map (·.size)=some ti.size:=by
 obtain⟨i,h1,h2,_⟩:=(hT t ti e).info;simp[h1,h2]
theorem Ag.sizeOf{t:Nat}{ti:TI}(e:T.get t=some ti)(w:World):(Go.sizeOf t).run P w= .ok ti.size w:=by
 obtain⟨i,h1,h2,_⟩:=(hT t ti e).info;simp[Go.sizeOf,typeInfo,h1,h2]
omit hT in
theorem AD{t:Nat}{d:TypeDesc}(h:P.underlying t=some d)(w:World):(Go.underlying t).run P w= .ok d w:=by
 simp[Go.underlying,h]
theorem Ag.isAgg{t:Nat}{ti:TI}(e:T.get t=some ti)(w:World):(Go.isAgg t).run P w= .ok ti.desc.agg w:=by
 have hu:=(hT t ti e).M4;unfold Go.isAgg;cases hd:ti.desc<;>rw[hd]at hu<;>simp only[Fy]at hu
 case st fs=>
  obtain⟨fields,hu,_⟩:=hu;simp[AD hu,TD.agg]
 case other=>
  obtain⟨d,hu,hd⟩:=hu;rw[Sem.run_bind,AD hu];cases d<;>simp_all[TypeDesc.isRow,TD.agg]
 all_goals simp[AD hu,TD.agg]
end
end Go.Fw
end
section
namespace Go.Fw
def BV{Y:Type}(P:Program)(o:Oper)(E:Env)(σ:St)(a:Act)(w:World)(k:K Y)(y:Y):Prop:=
 ∃v w' E' x σ',((execOp a.eval o).run P w= .ok (.value v) w'∨((execOp a.eval o).run P w= .ok .skip w'∧v=undef))∧Rel E' σ' a w'∧XR E' w' σ'.bx x v∧CX (A_ (fun _=>none) σ o.op) E σ.bx w E' σ'.bx w'∧
  σ'.tm.length=σ.tm.length∧k x σ' =some y
section
variable{Y:Type} {P:Program} {T:BQ} {o:Oper} {E:Env} {σ:St} {a:Act} {w:World} {k:K Y} {y:Y}
theorem BV.same(h:Rel E σ a w){v:Value}{x:XV}(hr:(execOp a.eval o).run P w= .ok (.value v) w)(hx:XR E w σ.bx x v)(hk:k x σ=some y):BV P o E σ a w k y:=
 ⟨v,w,E,x,σ,.inl hr,h,hx,CX.refl _ E σ.bx w,rfl,hk⟩
theorem El{vw:List Bx}{κ:IntKind}{n:Int}{v:Value}(h:VR E w vw (.v (.int κ) n) v):v= .int κ n:=by
 have:=h.2;simpa[Rd]using this
theorem CY{vw:List Bx}{b:Bool}{v:Value}(h:VR E w vw (.v .bool b) v):v= .bool b:=by
 have:=h.2;simpa[Rd]using this
theorem Dj{vw:List Bx}{s:List UInt8}{v:Value}(h:VR E w vw (.v .str s) v):v= .string ⟨s.toArray⟩:=by
 have:=h.2;simpa[Rd]using this
theorem VR.int{vw:List Bx}(κ:IntKind)(n:Int):VR E w vw (.v (.int κ) n) (.int κ n):=⟨rfl,by simp[Rd]⟩
theorem VR.bool{vw:List Bx}(b:Bool):VR E w vw (.v .bool b) (.bool b):=⟨rfl,by simp[Rd]⟩
theorem VR.str{vw:List Bx}(s:List UInt8):VR E w vw (.v .str s) (.string ⟨s.toArray⟩):=⟨rfl,by simp[Rd]⟩
theorem DE(s:List UInt8):ByteArray.toList ⟨s.toArray⟩=s:=by
 have:∀(n i:Nat) (r:List UInt8),n=s.length-i→ByteArray.toList.loop ⟨s.toArray⟩ i r=r.reverse++s.drop i:=by
  intro n
  induction n with
  |zero=>
   intro i r hn;unfold ByteArray.toList.loop;rw[U1 (by simp[ByteArray.size];omega),List.drop_of_length_le (by omega)];simp
  |succ n ih=>
   intro i r hn;unfold ByteArray.toList.loop;have hi:i<s.length:=by omega
   rw[Uy (by simpa[ByteArray.size]using hi),ih (i+1) _ (by omega)];have:(⟨s.toArray⟩:ByteArray).get! i=s[i]:=by
    simp[ByteArray.get!,hi]
   rw[this,List.drop_eq_getElem_cons hi];simp
 unfold ByteArray.toList;rw[this _ 0 [] rfl];simp
theorem KC(a b:List UInt8):(⟨a.toArray⟩:ByteArray)++⟨b.toArray⟩=⟨(a++b).toArray⟩:=by
 apply ByteArray.ext;simp
theorem Kk(op:BinOp)(t:TypeId)(x y:Operand)(u v:Value)(hu:∀l,u≠ .agg l)(hn:u≠ .nilIface)(w:World):(eqGuard op t x y u v).run P w= .ok () w:=by
 unfold eqGuard;by_cases h:(op matches .eql| .neq)=true
 ·cases u<;>first
   |(exfalso;exact hn rfl)
   |(exfalso;exact hu _ rfl)
   |(cases v<;>simp[h])
 ·simp[h]
  exact fun hh=>absurd hh h
theorem Kc{op:BinOp}{κ:IntKind}{m n:Int}{k:AV→Option Y}{y:Y}(e:Fe op κ m n k=some y)(t:TypeId)(w:World):
  ∃z v,k z=some y∧(binOp op t (.int κ m) (.int κ n)).run P w= .ok v w∧ ∀E vw,VR E w vw z v:=by
 cases op with
 |add=>exact⟨_,.int κ (κ.wrap (m+n)),e,by simp[binOp,Op.intArith],fun _ _=>VR.int _ _⟩
 |sub=>exact⟨_,.int κ (κ.wrap (m-n)),e,by simp[binOp,Op.intArith],fun _ _=>VR.int _ _⟩
 |mul=>exact⟨_,.int κ (κ.wrap (m*n)),e,by simp[binOp,Op.intArith],fun _ _=>VR.int _ _⟩
 |and=>exact⟨_,.int κ (κ.wrap (BitVec.ofInt κ.bits m &&& BitVec.ofInt κ.bits n).toNat),e,by simp[binOp,Op.intBits],fun _ _=>VR.int _ _⟩
 |or=>exact⟨_,.int κ (κ.wrap (BitVec.ofInt κ.bits m ||| BitVec.ofInt κ.bits n).toNat),e,by simp[binOp,Op.intBits],fun _ _=>VR.int _ _⟩
 |xor=>exact⟨_,.int κ (κ.wrap (BitVec.ofInt κ.bits m ^^^ BitVec.ofInt κ.bits n).toNat),e,by simp[binOp,Op.intBits],fun _ _=>VR.int _ _⟩
 |andNot=>exact⟨_,.int κ (κ.wrap (BitVec.ofInt κ.bits m &&& ~~~BitVec.ofInt κ.bits n).toNat),e,by simp[binOp,Op.intBits],fun _ _=>VR.int _ _⟩
 |eql=>exact⟨_,.bool (m==n),e,by simp[binOp,Op.intCmp],fun _ _=>VR.bool _⟩
 |neq=>exact⟨_,.bool (m !=n),e,by simp[binOp,Op.intCmp],fun _ _=>VR.bool _⟩
 |lss=>exact⟨_,.bool (decide (m<n)),e,by simp[binOp,Op.intCmp],fun _ _=>VR.bool _⟩
 |leq=>exact⟨_,.bool (decide (m≤n)),e,by simp[binOp,Op.intCmp],fun _ _=>VR.bool _⟩
 |gtr=>exact⟨_,.bool (decide (m>n)),e,by simp[binOp,Op.intCmp],fun _ _=>VR.bool _⟩
 |geq=>exact⟨_,.bool (decide (m≥n)),e,by simp[binOp,Op.intCmp],fun _ _=>VR.bool _⟩
 |quo=>
  simp only[Fe]at e;split at e
  ·cases e
  ·rename_i hz
   exact⟨_,.int κ (κ.wrap (m.tdiv n)),e,by simp[binOp,Op.intDiv,hz],fun _ _=>VR.int _ _⟩
 |rem=>
  simp only[Fe]at e;split at e
  ·cases e
  ·rename_i hz
   exact⟨_,.int κ (m.tmod n),e,by simp[binOp,Op.intDiv,hz],fun _ _=>VR.int _ _⟩
 |_=>simp[Fe]at e
theorem Fj{op:BinOp}{κ κ':IntKind}{m n:Int}{k:AV→Option Y}{y:Y}(e:Dz op κ m n k=some y)(t:TypeId)(w:World):
  ∃z v,k z=some y∧(binOp op t (.int κ m) (.int κ' n)).run P w= .ok v w∧ ∀E vw,VR E w vw z v:=by
 unfold Dz at e;split at e
 ·cases e
 ·rename_i hn
  cases op with
  |shl=>exact⟨_,.int κ (κ.wrap (m*2^min n.toNat κ.bits)),e,by simp[binOp,Op.shift,hn],fun _ _=>VR.int _ _⟩
  |shr=>exact⟨_,.int κ (m.fdiv (2^min n.toNat κ.bits)),e,by simp[binOp,Op.shift,hn],fun _ _=>VR.int _ _⟩
  |_=>simp at e
theorem KT{op:BinOp}{s u:List UInt8}{k:AV→Option Y}{y:Y}(e:GO op s u k=some y)(t:TypeId)(w:World):
  ∃z v,k z=some y∧(binOp op t (.string ⟨s.toArray⟩) (.string ⟨u.toArray⟩)).run P w= .ok v w∧ ∀E vw,VR E w vw z v:=by
 have h1:=DE s;have h2:=DE u;cases op with
 |eql=>exact⟨_,.bool (s==u),e,by simp[binOp,Op.stringOp,h1,h2],fun _ _=>VR.bool _⟩
 |neq=>exact⟨_,.bool (!(s==u)),e,by simp[binOp,Op.stringOp,h1,h2],fun _ _=>VR.bool _⟩
 |lss=>exact⟨_,.bool (Op.bytesLess s u),e,by simp[binOp,Op.stringOp,h1,h2],fun _ _=>VR.bool _⟩
 |leq=>exact⟨_,.bool (Op.bytesLess s u||s==u),e,by simp[binOp,Op.stringOp,h1,h2],fun _ _=>VR.bool _⟩
 |gtr=>exact⟨_,.bool (!(Op.bytesLess s u||s==u)),e,by simp[binOp,Op.stringOp,h1,h2],fun _ _=>VR.bool _⟩
 |geq=>exact⟨_,.bool (!Op.bytesLess s u),e,by simp[binOp,Op.stringOp,h1,h2],fun _ _=>VR.bool _⟩
 |add=>
  simp only[GO]at e;split at e
  ·rename_i hl
   refine⟨_,.string ⟨(s++u).toArray⟩,e,?_,fun _ _=>VR.str _⟩;have hs:(⟨s.toArray⟩:ByteArray).size=s.length:=by simp[ByteArray.size]
   have hu:(⟨u.toArray⟩:ByteArray).size=u.length:=by simp[ByteArray.size]
   have JC: ¬(((⟨s.toArray⟩:ByteArray).size+(⟨u.toArray⟩:ByteArray).size:Nat):Int)>IntKind.i64.max:=by
    rw[hs,hu];simp only[Dp,IntKind.max,IntKind.signed,IntKind.bits]at hl⊢;simp;omega
   simp only[binOp,Op.stringOp,Sem.run_ite,U1 JC,KC];rfl
  ·cases e
 |_=>simp[GO]at e
theorem Jw{d:TD}{x z:AV}{p:Bool}(e:IY d x z=some p){E:Env}{w:World}{vw:List Bx}{v u:Value}(hx:VR E w vw x v)(hz:VR E w vw z u){t:TypeId}
  (hu:Fy P t d) (n:Nat):(Op.equalIn (n+1) t v u).run P w= .ok p w∧d.agg=false:=by
 unfold IY at e;split at e
 ·rename_i κ j a k b
  split at e
  ·rename_i hj
   subst hj;cases e;rw[El hx,El hz];exact⟨run_equalIn_int (P:=P) w n t j κ a b hu,rfl⟩
  ·cases e
 ·cases e
  rw[CY hx,CY hz];exact⟨run_equalIn_bool' (P:=P) w n t _ _ hu,rfl⟩
 ·cases e
  rename_i a b;rw[Dj hx,Dj hz];have q:=run_equalIn_string (P:=P) w n t ⟨a.toArray⟩ ⟨b.toArray⟩ hu;rw[DE,DE]at q;exact⟨q,rfl⟩
 ·cases e
theorem Fl{T:BQ}(hT:Ag P T){E:Env}{w:World}{vw:List Bx}{xs ys:Array Value}:∀{fields:List Field} {i:Nat} {l m:List AV} {vs us:List Value} {r:Bool},
  (∀f∈fields,f.name≠ "_")→GD E w vw l vs→GD E w vw m us→BU T i (fields.map fun f=>(f.offset,f.type)) l m=some r→
  (∀(j:Nat) v,vs[j]? =some v→xs[i+j]? =some v)→(∀(j:Nat) v,us[j]? =some v→ys[i+j]? =some v)→(Op.eqFields 9999 xs ys fields).run P w= .ok r w
 |[],i,[],[],_,_,r,_,_,_,e,_,_=>by
  simp only[Va,BU,UG]at e;subst e;simp[Op.eqFields]
 |f::fs,i,x::l,z::m,v::vs,u::us,r,hn,hx,hz,e,h1,h2=>by
  simp only[VU,BU]at e;split at e
  case isFalse=>cases e
  rename_i ho;have hv:=h1 0 v rfl;have hu:=h2 0 u rfl;simp only[VB]at hv hu;have P7:=hn f (by simp);split at e
  case h_2=>cases e
  rename_i ti Ce;split at e
  case h_2=>cases e
  rename_i p hp;simp only[UI]at e;obtain⟨r',e',rfl⟩:=e;have Q4:=Fl hT (fields:=fs) (i:=i+1) (l:=l) (m:=m) (vs:=vs) (us:=us) (r:=r') (fun f hf=>hn f (by simp[hf])) hx.2 hz.2 e'
   (fun j v' hj=>by have:=h1 (j+1) v' (by simpa using hj);rwa [show i+(j+1)=i+1+j by omega]at this)
   (fun j v' hj=>by have:=h2 (j+1) v' (by simpa using hj);rwa [show i+(j+1)=i+1+j by omega]at this)
  have Gk:=(hT f.type ti Ce).M4;obtain⟨q,na⟩:=Jw (P:=P) hp hx.1 hz.1 (t:=f.type) Gk 9998;have GU:=Ag.isAgg hT Ce w;rw[na]at GU;have p1:(part f.type xs f.offset).run P w= .ok v w:=by simp[part,GU,ho,hv]
  have p2:(part f.type ys f.offset).run P w= .ok u w:=by simp[part,GU,ho,hu]
  simp only[Op.eqFields,P7,ne_eq,not_false_eq_true,VN,Sem.run_bind,p1,p2,Result.andThen_ok,q,Q4,Sem.run_ite,Sem.run_pure];cases p<;>simp
 |[],_,_::_,_,_,_,_,_,_,_,e,_,_=>by simp[BU]at e
 |[],_,[],_::_,_,_,_,_,_,_,e,_,_=>by simp[BU]at e
 |_::_,_,[],_,_,_,_,_,_,_,e,_,_=>by simp[BU]at e
 |_::_,_,x::_,[],_,_,_,_,_,_,e,_,_=>by simp[BU]at e
 |_::_,_,_::_,_::_,[],_,_,_,hx,_,_,_,_=>hx.elim
 |_::_,_,_::_,_::_,_::_,[],_,_,_,hz,_,_,_=>hz.elim
theorem H6(op:BinOp)(t:TypeId)(p q:Bool)(hu:P.underlying t=some .bool)(w:World):(op= .eql→(binOp op t (.bool p) (.bool q)).run P w= .ok (.bool (p==q)) w)∧
  (op= .neq→(binOp op t (.bool p) (.bool q)).run P w= .ok (.bool (!(p==q))) w):=by
 have h:=run_equalIn_bool' (P:=P) w 9999 t p q hu;constructor
 ·rintro rfl
  simp only[binOp,Op.equal,Op.maxDepth,Sem.run_bind,h,Result.andThen_ok,Sem.run_pure]
 ·rintro rfl
  simp only[binOp,Op.equal,Op.maxDepth,Sem.run_bind,h,Result.andThen_ok,Sem.run_pure]
theorem Fp{T:BQ}(hT:Ag P T){t:Nat}{op:BinOp}{x z:XV}{k:AV→Option Y}{y:Y}(e:Kv T t op x z k=some y){E:Env}{w:World}{vw:List Bx}{v u:Value}
  (hx:XR E w vw x v) (hz:XR E w vw z u) (ox oz:Operand):
  ∃r val,k r=some y∧(do eqGuard op t ox oz v u;binOp op t v u:Sem Value).run P w= .ok val w∧VR E w vw r val:=by
 have guard:∀(v u:Value),(∀l,v≠ .agg l)→v≠ .nilIface→ ∀val,(binOp op t v u).run P w= .ok val w→(do eqGuard op t ox oz v u;binOp op t v u:Sem Value).run P w= .ok val w:=by
  intro v u h1 h2 val h;rw[Sem.run_bind,Kk op t ox oz v u h1 h2 w,Result.andThen_ok,h]
 unfold Kv at e;split at e
 ·rename_i j m j' n
  have hv:=El (E:=E) (vw:=vw) hx;have hu:=El (E:=E) (vw:=vw) hz;subst hv hu;have done:∀(q:∃r val,k r=some y∧(binOp op t (.int j m) (.int j' n)).run P w= .ok val w∧ ∀E vw,VR E w vw r val),∃r val,k r=some y∧(do eqGuard op t ox oz (.int j m) (.int j' n);binOp op t (.int j m) (.int j' n):Sem Value).run P w= .ok val w∧VR E w vw r val:=by
   rintro⟨r,val,h1,h2,h3⟩
   exact⟨r,val,h1,guard _ _ (by simp) (by simp) _ h2,h3 _ _⟩
  split at e
  ·exact done (Fj e t w)
  ·exact done (Fj e t w)
  ·split at e
   ·rename_i hj
    subst hj;exact done (Kc e t w)
   ·cases e
 ·rename_i s s'
  have hv:=Dj (E:=E) (vw:=vw) hx;have hu:=Dj (E:=E) (vw:=vw) hz;subst hv hu;obtain⟨r,val,h1,h2,h3⟩:=KT (P:=P) e t w;exact⟨r,val,h1,guard _ _ (by simp) (by simp) _ h2,h3 _ _⟩
 ·rename_i p q
  have hv:=CY (E:=E) (vw:=vw) hx;have hu:=CY (E:=E) (vw:=vw) hz;subst hv hu;split at e
  ·rename_i ti Ce
   have Gk:=(hT t ti Ce).M4;split at e
   ·rename_i hd
    rw[hd]at Gk;split at e
    ·exact⟨_,_,e,guard _ _ (by simp) (by simp) _ ((H6 _ t p q Gk w).1 rfl),VR.bool _⟩
    ·exact⟨_,_,e,guard _ _ (by simp) (by simp) _ ((H6 _ t p q Gk w).2 rfl),VR.bool _⟩
    ·cases e
   ·cases e
  ·cases e
 ·rename_i l m
  obtain⟨vs,rfl,Dg⟩:=hx;obtain⟨us,rfl,hus⟩:=hz;have key:∀r,((T.fields t).bind fun fs=>BU T 0 fs l m)=some r→(Op.equalIn 10000 t (.agg vs) (.agg us)).run P w= .ok r w∧P.eqGuardType P.depth t=false:=by
   intro r hr;simp only[UJ]at hr;obtain⟨fs,hf,hr⟩:=hr;unfold BQ.fields at hf;split at hf
   ·rename_i T4 hd
    cases hf;simp only[UI]at hd;obtain⟨ti,Ce,hd⟩:=hd;have Gk:=(hT t ti Ce).M4;rw[hd]at Gk;obtain⟨fields,hu,hfs,Ov,MZ,hg⟩:=Gk;have Pn:P.fieldsOf t=fields:=by simp[Program.fieldsOf,hu]
    have q:=run_equalIn_agg (P:=P) w 9999 t vs us (by rw[Pn];exact hu) MZ;rw[Pn]at q;refine⟨q.trans ?_,hg⟩;subst hfs;exact Fl hT (fun f hf=>(Ov f hf).1) Dg hus hr (fun j v hj=>by simpa using hj) (fun j v hj=>by simpa using hj)
   ·cases hf
  split at e
  ·rename_i r hr
   obtain⟨q,hg⟩:=key r hr;refine⟨_,_,e,?_,VR.bool r⟩;rw[Sem.run_bind,run_eqGuard_agg (P:=P) w _ t ox oz vs us hg,Result.andThen_ok,run_eql_struct (P:=P) w t vs us,q];rfl
  ·rename_i r hr
   obtain⟨q,hg⟩:=key r hr;refine⟨_,_,e,?_,VR.bool (!r)⟩;rw[Sem.run_bind,run_eqGuard_agg (P:=P) w _ t ox oz vs us hg,Result.andThen_ok,run_neq_struct (P:=P) w t vs us,q];rfl
  ·cases e
 ·cases e
end
end Go.Fw
end
section
namespace Go.Fw
section
variable{Y:Type} {P:Program} {T:BQ} (hT:Ag P T) {E:Env} {w:World} {vw:List Bx}
include hT
theorem OE{t:Nat}{s b:Nat}{fs:List T8}{rw:Option Ty}(e:T.get t=some ⟨s,b,.st fs,rw⟩):∃fields,P.underlying t=some (.struct fields)∧fields.toList.map (fun f=>(f.offset,f.type))=fs∧
  ∀f∈fields.toList,∃i,P.info? f.type=some i∧i.size≠0:=by
 obtain⟨fields,h1,h2,h3,_⟩:=(hT t _ e).M4;exact⟨fields,h1,h2,fun f hf=>(h3 f hf).2⟩
omit hT in
theorem IB{a:Addr}{f:Field}(h:∃i,P.info? f.type=some i∧i.size≠0):(fieldPlace a f).run P w= .ok (a.add f.offset) w:=by
 obtain⟨i,h1,h2⟩:=h;simp[fieldPlace,Go.sizeOf,typeInfo,h1,h2]
theorem C6{t:Nat}{s b:Nat}{fs:List T8}{rw:Option Ty}(e:T.get t=some ⟨s,b,.st fs,rw⟩){f o u:Nat}(hf:fs[f]? =some (o,u)){a:Addr}:
  (Instr.fieldAt t (.pointer (some a)) f).run P w= .ok (.pointer (some (a.add o))) w:=by
 obtain⟨fields,h1,h2,h3⟩:=OE hT e;subst h2;simp only[Ue,UI]at hf;obtain⟨fld,Pe,he⟩:=hf;have hm:=UO Pe;have Qp:fields[f]? =some fld:=by simpa using Pe
 simp only[Ug]at he;simp[Instr.fieldAt,AD h1,Qp,Instr.sureAddr,IB (h3 fld hm),he.1]
theorem GZ{t:Nat}{x z:XV}{f:Nat}(e:KO T t x f=some z){v:Value}(hx:XR E w vw x v):∃u,(Instr.fieldAt t v f).run P w= .ok u w∧XR E w vw z u:=by
 unfold KO at e;split at e
 case h_2=>cases e
 rename_i s b fs _ Ce;split at e
 case h_2=>cases e
 rename_i o u hf;split at e
 ·rename_i b' j
  cases e;obtain⟨h1,rfl⟩:=hx;exact⟨_,C6 hT Ce hf,h1,by rw[Addr.add_eq]⟩
 ·rename_i b' p i sz j
  cases e;obtain⟨h0,h1⟩:=hx;cases v with
  |pointer oa=>
   cases oa with
   |none=>simp[Ez]at h0
   |some a=>
    obtain⟨ab,ao,sp⟩:=a;cases sp with
    |some _=>simp[Ez]at h0
    |none=>
     refine⟨_,C6 hT Ce hf,by rw[Addr.add_eq];rfl,?_⟩;revert h1;split
     ·rintro⟨hp,q,ys,bb,o',len,cap,g1,g2,g3,g4⟩
      refine⟨hp,q,ys,bb,o',len,cap,g1,g2,g3,?_⟩;simp only[Value.pointer.injEq,UG,Addr.mk.injEq,Us]at g4;rw[Addr.add_eq,g4.1,g4.2,VD]
     ·exact fun h=>h
     ·exact fun h=>h
  |_=>simp[Ez]at h0
 ·rename_i s r y j
  cases e;obtain⟨bb,o',cs,rfl,h2,h3,h4,h5⟩:=hx;refine⟨_,C6 hT Ce hf,bb,o',cs,?_,h2,h3,h4,h5⟩;rw[Addr.add_eq,VD]
 ·cases e
theorem HQ{t:Nat}{x z:XV}{f:Nat}(e:NM T t x f=some z){v:Value}(hx:XR E w vw x v):∃u,(Instr.field t v f).run P w= .ok u w∧XR E w vw z u:=by
 unfold NM at e;split at e
 case h_2=>cases e
 rename_i s b fs _ l Ce;obtain⟨vs,rfl,Dg⟩:=hx;split at e
 case h_2=>cases e
 rename_i o u hf;split at e
 case h_2=>cases e
 rename_i ti Sb;obtain⟨fields,h1,h2,h3⟩:=OE hT Ce;subst h2;simp only[Ue,UI]at hf;obtain⟨fld,Pe,he⟩:=hf;have Qp:fields[f]? =some fld:=by simpa using Pe
 simp only[Ug]at he;obtain⟨rfl,rfl⟩:=he;have GU:=Ag.isAgg hT Sb w;have CB:=Ag.sizeOf hT Sb w;split at e
 ·rename_i ha
  cases e;rw[ha]at GU;refine⟨.agg (vs.extract fld.offset (fld.offset+ti.size)),?_,_,rfl,?_⟩
  ·simp[Instr.field,AD h1,Qp,asAgg,part,GU,CB]
  ·have:(vs.extract fld.offset (fld.offset+ti.size)).toList=(vs.toList.drop fld.offset).take ti.size:=by
    rw[Array.toList_extract,List.extract_eq_take_drop];simp
   rw[this];exact AF.take _ (AF.drop _ Dg)
 ·rename_i ha
  simp only[Bool.not_eq_true]at ha;rw[ha]at GU;simp only[UI]at e;obtain⟨y,hy,rfl⟩:=e;obtain⟨v,hv,hr⟩:=AF.get Dg hy;refine⟨v,?_,hr⟩;have:vs[fld.offset]? =some v:=by simpa using hv
  simp[Instr.field,AD h1,Qp,asAgg,part,GU,this]
theorem B5{t:Nat}{r:Ty}(h:T.Ci t r=true):∃e ti,P.underlying t=some (.slice e)∧T.get e=some ti∧ti.size=r.n∧ti.bytes≤512∧ti.row=some r:=by
 unfold BQ.Ci at h;split at h
 ·rename_i ti Ce
  simp only[UT,Uj]at h;unfold BQ.elem at Ce;split at Ce
  ·rename_i e hd
   simp only[UI]at hd;obtain⟨tj,h1,h2⟩:=hd;have:=(hT t tj h1).M4;rw[h2]at this;exact⟨e,ti,this,Ce,h.1.1,h.1.2,h.2⟩
  ·cases Ce
 ·cases h
theorem DV{t:Nat}(h:T.isStr t=true):P.underlying t=some .string:=by
 unfold BQ.isStr at h;split at h
 ·rename_i hd
  simp only[UI]at hd;obtain⟨tj,h1,h2⟩:=hd;have:=(hT t tj h1).M4;rw[h2]at this;exact this
 ·cases h
theorem Gv{t:Nat}(h:T.Nx t=true):∃e,P.underlying t=some (.slice e):=by
 unfold BQ.Nx at h;split at h
 ·rename_i e hd
  simp only[UI]at hd;obtain⟨tj,h1,h2⟩:=hd;have:=(hT t tj h1).M4;rw[h2]at this;exact⟨e,this⟩
 ·cases h
omit hT in
theorem A9{x:XV}{n:Int}(e:FO x=some n){v:Value}(hx:XR E w vw x v):∃κ,v= .int κ n:=by
 unfold FO at e;split at e
 ·cases e;exact⟨_,El (E:=E) (w:=w) (vw:=vw) hx⟩
 ·cases e
theorem FB{t:Nat}{r:Ty}(h:T.Ci t r=true){κ:IntKind}{i:Int}{a:Addr}{len cap:Nat}(h0:0≤i)(h1:i<(len:Int)):
  (Instr.indexAt t (.slice (some a) len cap) (.int κ i)).run P w= .ok (.pointer (some (a.add (i.toNat*r.n)))) w:=by
 obtain⟨e,ti,hu,Ce,hs,_⟩:=B5 hT h;have CB:=Ag.sizeOf hT Ce w;simp[Instr.indexAt,asIntOf,AD hu,h0,h1,CB,hs]
omit hT in
theorem Lr{bx:List Bx}{Fs:List T7}(hB:Bo E w bx bx Fs)(st:∀c,E.S c→E.T c){x:AV}{v:Value}(hv:VR E w bx x v){q:Ty}{ys:List q.D}(e:Bp bx x=some ⟨q,ys⟩):
  ∃a cap,v= .slice a ys.length cap∧ys.length≤cap∧(ys.length=0∨ ∃b o,a=some ⟨b,o,none⟩):=by
 have:=EG (Ac.refl bx) hB st hv e;simp only[Rd]at this;obtain⟨a,cap,h1,h2,h3⟩:=this;simp only[Ua,Us]at h1;exact⟨a,cap,h1,h2,h3.imp id fun⟨b,o,h,_⟩=>⟨b,o,h⟩⟩
theorem Gn{σ:St}{Fs:List T7}(hB:Bo E w σ.bx σ.bx Fs)(st:∀c,E.S c→E.T c){t:Nat}{x i:XV}{k:K Y}{y:Y}(e:G6 σ T t x i k=some y){v u:Value}
  (hx:XR E w σ.bx x v) (hi:XR E w σ.bx i u):∃z val,k z σ=some y∧(Instr.indexAt t v u).run P w= .ok val w∧XR E w σ.bx z val:=by
 unfold G6 at e;split at e
 ·rename_i s r rows n hn
  obtain⟨κ,rfl⟩:=A9 hn hi;split at e
  case isFalse=>cases e
  rename_i Gj;split at e
  case isFalse=>cases e
  rename_i hb;obtain⟨h0,h1⟩:=hb;simp only[XR,VR,Rd]at hx;obtain⟨a,cap,hv,hl,hx⟩:=hx;simp only[Ua,Us]at hv;subst hv;rcases hx with hx|⟨b,o,rfl,hb,hx⟩
  ·omega
  ·have CK:n.toNat<rows.length:=by omega
   obtain⟨cs,c1,c2,c3⟩:=hx n.toNat _ (CR CK);refine⟨_,_,e,FB hT Gj h0 h1,b,o+n.toNat*r.n,cs,?_,by simpa using hb,c1,c2,by simpa using c3⟩;rw[Addr.add_eq];rfl
 ·rename_i b p n hn
  obtain⟨κ,rfl⟩:=A9 hn hi;split at e
  case h_2=>cases e
  rename_i q hq;split at e
  case isFalse=>cases e
  rename_i Gj;split at e
  case isFalse=>cases e
  rename_i hb;obtain⟨h0,h1⟩:=hb
  change VR E w σ.bx (.ref b p) v at hx
  obtain⟨a,cap,rfl,hl,ha⟩:=Lr hB st hx hq;rcases ha with ha|⟨b',o,rfl⟩
  ·omega
  ·refine⟨_,_,e,FB hT Gj h0 h1,by rw[Addr.add_eq];rfl,?_⟩
   simp only[Bp]at hq;obtain⟨_,hx⟩:=hx;revert hx;split
   ·rename_i d r rows Gm
    rw[Gm]at hq;dsimp only at hq
    rintro⟨hp,hg,hh⟩
    exact⟨hp,q.1,q.2,b',o,_,cap,hq,by omega,hh,by rw[Addr.add_eq];rfl⟩
   ·rename_i Gm
    intro _
    trivial
   ·exact fun h=>h
 ·rename_i b p off n' n hn
  obtain⟨κ,rfl⟩:=A9 hn hi;split at e
  case h_2=>cases e
  rename_i q hq;split at e
  case isFalse=>cases e
  rename_i Gj;split at e
  case isFalse=>cases e
  rename_i hb;obtain⟨h0,h1⟩:=hb;simp only[Bp]at hq;obtain⟨h00,hx⟩:=hx;revert hx;split
  ·rename_i d r rows Gm
   rw[Gm]at hq;dsimp only at hq
   rintro⟨hp,q',ys,a,len,cap,g1,g2,g3,rfl⟩
   have Eb:=FH (Ac.refl _) hB st Gm hp g1 g3;simp only[Rd]at Eb;obtain⟨a',cap',ee,hle,Eb⟩:=Eb;simp only[Ua,Value.slice.injEq,Us]at ee;obtain⟨rfl,rfl,rfl⟩:=ee;rcases Eb with Eb|⟨b',o,rfl,_,_⟩
   ·omega
   ·unfold Cc
    rw[U1 (by omega)];have Ql:q.1=q':=by
     rw[g1]at hq;simp only[Option.map_some,UG]at hq;rw[←hq]
    refine⟨_,_,e,FB hT Gj h0 h1,by simp only[Option.map];rw[Addr.add_eq,Addr.add_eq];rfl,?_⟩;rw[Gm];refine⟨hp,q',ys,b',o,_,cap,g1,by omega,g3,?_⟩;dsimp only;rw[Addr.add_eq,Addr.add_eq,Ql,VD,←Ux];rfl
  ·rename_i B Gm Pc
   exfalso
   cases B with
   |sl d r rows=>exact Gm d r rows rfl
   |_=>rw[Pc]at hq;simp at hq
  ·exact fun h=>h.elim
 ·cases e
theorem Es{σ:St}{t:Nat}{x i:XV}{k:K Y}{y:Y}(e:DO T t σ x i k=some y){v u:Value}(hx:XR E w vw x v)(hi:XR E w vw i u):
  ∃z val,k z σ=some y∧(Instr.index t v u).run P w= .ok val w∧XR E w vw z val:=by
 unfold DO at e;split at e
 ·rename_i s n hn
  obtain⟨κ,rfl⟩:=A9 hn hi;have hv:=Dj (E:=E) (w:=w) (vw:=vw) hx;subst hv;split at e
  case isFalse=>cases e
  rename_i MZ;split at e
  case isFalse=>cases e
  rename_i hb;obtain⟨h0,h1⟩:=hb;refine⟨_,.int .u8 ((s.getD n.toNat 0).toNat:Int),e,?_,VR.int (E:=E) (vw:=vw) _ _⟩;have CK:n.toNat<s.length:=by omega
  have:(⟨s.toArray⟩:ByteArray)[n.toNat]? =some s[n.toNat]:=by
   rw[getElem?_pos _ _ (by simpa[ByteArray.size]using CK)];rfl
  simp[Instr.index,asIntOf,AD (DV hT MZ),h0,this,CK]
 ·cases e
omit hT in
theorem FC{x z:XV}{i:Nat}(e:Hw x i=some z){v:Value}(hx:XR E w vw x v):∃u,(Instr.extract v i).run P w= .ok u w∧XR E w vw z u:=by
 unfold Hw at e;split at e
 case h_2=>cases e
 rename_i l;obtain⟨vs,rfl,Dg⟩:=hx;split at e
 ·rename_i x hx
  cases e;obtain⟨v,hv,hr⟩:=Dg.get hx;have:vs[i]? =some v:=by simpa using hv
  exact⟨v,by simp[Instr.extract,this],hr⟩
 ·rename_i q hx
  cases e;obtain⟨v,hv,ws,rfl,hr⟩:=Dg.get hx;have:vs[i]? =some (.agg ws):=by simpa using hv
  exact⟨.agg ws,by simp[Instr.extract,this],ws,rfl,hr⟩
 ·cases e
omit hT in
theorem HJ{bx:List Bx}{Fs:List T7}(hB:Bo E w bx bx Fs)(st:∀c,E.S c→E.T c){x:AV}{n:Nat}(e:lenOf bx x=some n){v:Value}(hx:VR E w bx x v):
  ∃a cap,v= .slice a n cap:=by
 cases x with
 |nil=>simp only[lenOf,UG]at e;subst e;exact⟨_,_,hx⟩
 |sl s r x=>
  simp only[lenOf,UG]at e;subst e;simp only[VR,Rd]at hx;obtain⟨a,cap,h,_⟩:=hx;simp only[Ua,Us]at h;exact⟨a,cap,h⟩
 |ref b p=>
  simp only[lenOf]at e;split at e
  ·rename_i d r rows hb
   simp only[UI]at e;obtain⟨q,hq,rfl⟩:=e;obtain⟨a,cap,h,_⟩:=Lr hB st hx (q:=q.1) (ys:=q.2) (by simp only[Bp,hb];exact hq);exact⟨a,cap,h⟩
  ·cases e
 |win b p off m=>
  simp only[lenOf]at e;split at e
  ·rename_i d r rows hb
   cases e;simp only[VR,hb]at hx;obtain⟨_,_,q,ys,a,len,cap,_,_,_,rfl⟩:=hx;exact⟨_,_,rfl⟩
  ·cases e
 |_=>simp[lenOf]at e
omit hT in
theorem Ct{big:Bool}{x z:XV}{k:AV→Option Y}{y:Y}(e:J3 big x z k=some y){v u:Value}(hx:XR E w vw x v)(hz:XR E w vw z u)(t s:Array TypeId)(tt:TypeId):
  ∃r val,k r=some y∧(if big then Builtin.max_ t tt #[v,u]else Builtin.min_ t tt #[v,u]).run P w= .ok val w∧VR E w vw r val:=by
 unfold J3 at e;split at e
 ·rename_i j m j' n
  have hv:=El (E:=E) (w:=w) (vw:=vw) hx;have hu:=El (E:=E) (w:=w) (vw:=vw) hz;subst hv hu;split at e
  case isFalse=>cases e
  rename_i hj;subst hj;cases big with
  |true=>exact⟨_,.int j (if n>m then n else m),e,by simp[Builtin.max_,Builtin.max2],VR.int _ _⟩
  |false=>exact⟨_,.int j (if n<m then n else m),e,by simp[Builtin.min_,Builtin.min2],VR.int _ _⟩
 ·cases e
omit hT in
theorem HA{op:UnOp}{x:XV}{k:AV→Option Y}{y:Y}(e:OX op x k=some y){v:Value}(hx:XR E w vw x v):
  ∃r val,k r=some y∧(Op.unary op v).run P w= .ok val w∧VR E w vw r val:=by
 unfold OX at e;split at e
 ·have hv:=CY (E:=E) (w:=w) (vw:=vw) hx
  subst hv;exact⟨_,_,e,by simp[Op.unary],VR.bool _⟩
 ·rename_i j n
  have hv:=El (E:=E) (w:=w) (vw:=vw) hx;subst hv;exact⟨_,.int j (j.wrap (0-n)),e,by simp[Op.unary,Op.intArith],VR.int _ _⟩
 ·cases e
end
end Go.Fw
end
section
namespace Go.Fw
theorem CS{a:Ty}(x:a.D):I2 rfl x=x:=rfl
theorem Fb{w:World}{S:Nat→Prop}:∀{r:Ty} {d j:Nat} {cs:List Value} {x:r.D} {F:T7} {t:Ty} {y:t.D},Ow w S d r cs x F→AB r j x=some ⟨t,y⟩→
  ∃v F1 F2,cs[j]? =some v∧Ow w S d t [v] y F1∧F.Perm (F1++F2)∧
   ∀(w':World) (S':Nat→Prop) (v':Value) (y':t.D) (HX:T7) (x':r.D),(∀b,S b→S' b)→(∀b,S b→w'.heap[b]? =w.heap[b]?)→(∀b∈F2,w'.heap[b]? =w.heap[b]?)→
    Ow w' S' d t [v'] y' HX→AQ r j x t y' =some x'→ ∃F',F'.Perm (HX++F2)∧Ow w' S' d r (cs.set j v') x' F'
 | .cons c r,d,0,cs,x,F,t,y,h,e=>by
  simp only[Ow]at h;obtain⟨v,l,A,B,rfl,rfl,h1,h2⟩:=h;simp only[AB,UG,UP]at e;obtain⟨rfl,e⟩:=e;obtain rfl:=Uc e;refine⟨v,A,B,rfl,h1,Vc _,fun w' S' v' y' HX x' hS I7 hF ho hx=> ?_⟩;simp only[AQ,VW,CS,UG]at hx;subst hx;refine⟨HX++B,Vc _,?_⟩;simp only[Ow,List.set_cons_zero];exact⟨v',l,HX,B,rfl,rfl,ho,AY hS I7 hF h2⟩
 | .cons c r,d,j+1,cs,x,F,t,y,h,e=>by
  simp only[Ow]at h;obtain⟨v,l,A,B,rfl,rfl,h1,h2⟩:=h;simp only[AB]at e;obtain⟨u,F1,F2,k1,k2,k3,k4⟩:=Fb h2 e;refine⟨u,F1,A++F2,by simpa using k1,k2,?_,fun w' S' v' y' HX x' hS I7 hF ho hx=> ?_⟩
  ·refine(UX A k3).trans ?_
   rw[←UM,←UM];exact US _ UY
  ·simp only[AQ,UI]at hx
   obtain⟨z,hz,rfl⟩:=hx;obtain⟨F',p1,p2⟩:=k4 w' S' v' y' HX z hS I7 (fun b hb=>hF b (by simp[hb])) ho hz;refine⟨A++F',?_,?_⟩
   ·refine(UX A p1).trans ?_
    rw[←UM,←UM];exact US _ UY
   ·simp only[Ow,List.set_cons_succ]
    exact⟨v,_,A,F',rfl,rfl,AY hS I7 (fun b hb=>hF b (by simp[hb])) h1,p2⟩
 | .int k,d,0,cs,x,F,t,y,h,e=>by
  simp only[AB,UG,UP]at e;obtain⟨rfl,e⟩:=e;obtain rfl:=Uc e;have hc:=DS h;obtain⟨v,rfl⟩:∃v,cs=[v]:=by
   cases cs with
   |nil=>simp[Ty.n]at hc
   |cons a l=>cases l with
    |nil=>exact⟨a,rfl⟩
    |cons _ _=>simp[Ty.n]at hc
  refine⟨v,F,[],rfl,h,by simp,fun w' S' v' y' HX x' hS I7 hF ho hx=>⟨HX,by simp,?_⟩⟩;simp only[AQ,VW,CS,UG]at hx;subst hx;exact ho
 | .bool,d,0,cs,x,F,t,y,h,e=>by
  simp only[AB,UG,UP]at e;obtain⟨rfl,e⟩:=e;obtain rfl:=Uc e;have hc:=DS h;obtain⟨v,rfl⟩:∃v,cs=[v]:=by
   cases cs with
   |nil=>simp[Ty.n]at hc
   |cons a l=>cases l with
    |nil=>exact⟨a,rfl⟩
    |cons _ _=>simp[Ty.n]at hc
  refine⟨v,F,[],rfl,h,by simp,fun w' S' v' y' HX x' hS I7 hF ho hx=>⟨HX,by simp,?_⟩⟩;simp only[AQ,VW,CS,UG]at hx;subst hx;exact ho
 | .str,d,0,cs,x,F,t,y,h,e=>by
  simp only[AB,UG,UP]at e;obtain⟨rfl,e⟩:=e;obtain rfl:=Uc e;have hc:=DS h;obtain⟨v,rfl⟩:∃v,cs=[v]:=by
   cases cs with
   |nil=>simp[Ty.n]at hc
   |cons a l=>cases l with
    |nil=>exact⟨a,rfl⟩
    |cons _ _=>simp[Ty.n]at hc
  refine⟨v,F,[],rfl,h,by simp,fun w' S' v' y' HX x' hS I7 hF ho hx=>⟨HX,by simp,?_⟩⟩;simp only[AQ,VW,CS,UG]at hx;subst hx;exact ho
 | .sl r,d,0,cs,x,F,t,y,h,e=>by
  simp only[AB,UG,UP]at e;obtain⟨rfl,e⟩:=e;obtain rfl:=Uc e;have hc:=DS h;obtain⟨v,rfl⟩:∃v,cs=[v]:=by
   cases cs with
   |nil=>simp[Ty.n]at hc
   |cons a l=>cases l with
    |nil=>exact⟨a,rfl⟩
    |cons _ _=>simp[Ty.n]at hc
  refine⟨v,F,[],rfl,h,by simp,fun w' S' v' y' HX x' hS I7 hF ho hx=>⟨HX,by simp,?_⟩⟩;simp only[AQ,VW,CS,UG]at hx;subst hx;exact ho
 | .unit,_,_,_,_,_,_,_,_,e=>by simp[AB]at e
 | .int _,_,_+1,_,_,_,_,_,_,e=>by simp[AB]at e
 | .bool,_,_+1,_,_,_,_,_,_,e=>by simp[AB]at e
 | .str,_,_+1,_,_,_,_,_,_,e=>by simp[AB]at e
 | .sl _,_,_+1,_,_,_,_,_,_,e=>by simp[AB]at e
theorem Gt{Fs:List T7}{i:Nat}{G G':T7}(h:Fs[i]? =some G):(Fs.set i G').flatten.Perm (G'++(Fs.set i []).flatten):=by
 have CK:=(UF.1 h).1;have p1:=C0 (Fs:=Fs.set i G') (b:=i) (F:=G') (UQ (by omega));rw[VZ]at p1;exact p1
theorem Jx{w:World}{S:Nat→Prop}{d:Nat}{q:Ty}{a:Option Addr}{len cap:Nat}{ys:List q.D}{F:T7}(h:Ow w S (d+1) (.sl q) [.slice a len cap] ys F){i:Nat}(hi:i<ys.length):
  ∃b o arr ty fr cs G R,a=some ⟨b,o,none⟩∧w.heap[b]? =some (.cells arr ty fr)∧LB fr arr.size∧o+i*q.n+q.n≤arr.size∧cs.length=q.n∧AG w b (o+i*q.n) cs∧
   Ow w S d q cs (rowAt q ys i) G∧F.Perm (G++(b::R))∧
   ∀(w':World) (S':Nat→Prop) (Bn:Array Value) (Eu:List Value) (EP:q.D) (G':T7),(∀c,S c→S' c)→(∀c,S c→w'.heap[c]? =w.heap[c]?)→(∀c∈R,w'.heap[c]? =w.heap[c]?)→
    w'.heap[b]? =some (.cells Bn ty fr)→Bn.size=arr.size→(∀k,(k<o+i*q.n∨o+i*q.n+q.n≤k)→Bn[k]? =arr[k]?)→Eu.length=q.n→AG w' b (o+i*q.n) Eu→
    Ow w' S' d q Eu EP G'→ ∃F',F'.Perm (G'++(b::R))∧Ow w' S' (d+1) (.sl q) [.slice a len cap] (ys.set i EP) F':=by
 simp only[Ow]at h;obtain⟨a',cap',e,hle,h⟩:=h;simp only[Ua,Value.slice.injEq,Us]at e;obtain⟨rfl,rfl,rfl⟩:=e;rcases h with⟨h1,_⟩|⟨b,o,arr,ty,fr,Fs,rfl,hb,CB,hu,rfl,hFl,Ew⟩
 ·omega
 ·have hG:Fs[i]? =some (Fs[i]'(by omega)):=UH _
  generalize Fs[i]'(by omega)=G at hG
  obtain⟨cs,c1,c2,c3⟩:=Ew i _ G (CR hi) hG;have hbound:o+i*q.n+q.n≤arr.size:=by
   have:(i+1)*q.n≤cap*q.n:=Uq _ (by omega);rw[Ux,VO]at this;omega
  refine⟨b,o,arr,ty,fr,cs,G,(Fs.set i []).flatten,rfl,hb,fun i hi=>hu i (by omega),hbound,c1,c2,c3,?_,?_⟩
  ·refine(List.Perm.cons b (C0 hG)).trans ?_
   exact List.perm_middle.symm
  ·intro w' S' Bn Eu EP G' hS I7 hR Nv Ot hk MG PU ho
   refine⟨b::(Fs.set i G').flatten,?_,?_⟩
   ·refine(List.Perm.cons b (Gt hG)).trans ?_
    exact List.perm_middle.symm
   ·simp only[Ow]
    refine⟨_,cap,by simp,by simpa using hle,.inr ⟨b,o,Bn,ty,fr,Fs.set i G',rfl,Nv,by omega,by rw[Ot];exact hu,rfl,by simpa using hFl,fun k y H hy hH=> ?_⟩⟩;by_cases e:k=i
    ·subst e
     rw[UQ hi]at hy;rw[UQ (by omega)]at hH;cases hy;cases hH;exact⟨Eu,MG,PU,ho⟩
    ·rw[UL (by omega)]at hy
     rw[UL (by omega)]at hH;obtain⟨ds,d1,d2,d3⟩:=Ew k y H hy hH;refine⟨ds,d1,fun j v hj=> ?_,AY hS I7 (fun c hc=>hR c (UZ.2 ⟨H,UO (by rw[UL (by omega)];exact hH:(Fs.set i [])[k]? =some H),hc⟩)) d3⟩;have Mo:=(UF.1 hj).1;have hold:=d2 j v hj;simp only[World.cell?,hb,U7,Ut,VI]at hold;simp only[World.cell?,Nv,U7,Ut,VI];rw[hk,hold];rcases Nat.lt_or_gt_of_ne e with e|e
     ·left
      have:(k+1)*q.n≤i*q.n:=Uq _ e;rw[Ux,VO]at this;omega
     ·right
      have:(i+1)*q.n≤k*q.n:=Uq _ e;rw[Ux,VO]at this;omega
theorem Io{w:World}{S:Nat→Prop}:∀{p:List HW} {d:Nat} {r:Ty} {h:Value} {rows:List r.D} {F:T7} {q:Ty} {ys:List q.D},Ow w S d (.sl r) [h] rows F→AM r rows p→
  Aq r rows p=some ⟨q,ys⟩→p.length<d→ ∃h' F1 F2,BG w h p=some h'∧Ow w S (d-p.length) (.sl q) [h'] ys F1∧F.Perm (F1++F2)∧
   ∀(w':World) (S':Nat→Prop) (Iq:List q.D) (HX:T7) (rows':List r.D),(∀c,S c→S' c)→(∀c,S c→w'.heap[c]? =w.heap[c]?)→(∀c∈F2,w'.heap[c]? =w.heap[c]?)→
    Ow w' S' (d-p.length) (.sl q) [h'] Iq HX→IZ r rows p q Iq=some rows'→ ∃F',F'.Perm (HX++F2)∧Ow w' S' d (.sl r) [h] rows' F'
 |[],d,r,h,rows,F,q,ys,ho,_,hg,_=>by
  simp only[Aq,UG,UP]at hg;obtain⟨rfl,e⟩:=hg;obtain rfl:=Uc e;refine⟨h,F,[],AJ,ho,by simp,fun w' S' Iq HX rows' _ _ _ Ma hs=>⟨HX,by simp,?_⟩⟩;simp only[IZ,VW,CS,UG]at hs;subst hs;exact Ma
 |s::p,d,r,h,rows,F,q,ys,ho,hp,hg,hd=>by
  obtain⟨d,rfl⟩:∃n,d=n+1:=⟨d-1,by simp at hd;omega⟩;simp only[AM]at hp;obtain⟨hi,CB,hp⟩:=hp;simp only[Aq]at hg;obtain⟨a,len,cap,rfl⟩:∃a len cap,h= .slice a len cap:=by
   have:=ho;simp only[Ow]at this;obtain⟨a,cap,e,_⟩:=this;simp only[Ua,Us]at e;exact⟨_,_,_,e⟩
  split at hg
  case h_2=>cases hg
  rename_i q' x' E_;rw[E_]at hp;obtain⟨b,o,arr,ty,fr,cs,G,R,rfl,hb,hu,hbd,c1,c2,c3,HT,hback⟩:=Jx ho hi;obtain⟨v,A1,A2,k1,k2,k3,k4⟩:=Fb c3 E_;obtain⟨h',F1,F2,m1,m2,m3,m4⟩:=Io k2 hp hg (by simp at hd;omega);have M_:d+1-(s::p).length=d-p.length:=by simp
  refine⟨h',F1,F2++A2++(b::R),?_,by rw[M_];exact m2,?_,?_⟩
  ·simp only[BG]
   rw[CB,c2 _ _ k1];exact m1
  ·refine HT.trans ?_
   rw[UM F2,←UM F1];refine(US _ k3).trans ?_
   rw[←UM (F1++F2)];exact US _ (US _ m3)
  ·intro w' S' Iq HX rows' hS I7 Qw Ma E4
   rw[M_]at Ma;simp only[IZ,E_]at E4;simp only[UJ,UI]at E4;obtain⟨x2,hx2,EP,hrow,rfl⟩:=E4;obtain⟨B1,p1,p2⟩:=m4 w' S' Iq HX x2 hS I7 (fun c hc=>Qw c (by simp[hc])) Ma hx2;obtain⟨B2,p3,p4⟩:=k4 w' S' v x2 B1 EP hS I7 (fun c hc=>Qw c (by simp[hc])) p2 hrow;have OD:cs.set s.j v=cs:=by
    apply U8;intro k;by_cases e:k=s.j
    ·subst e
     rw[UQ (UF.1 k1).1,k1]
    ·rw[UL (by omega)]
   rw[OD]at p4;have Nz:=Qw b (by simp);obtain⟨F',p5,p6⟩:=hback w' S' arr cs EP B2 hS I7 (fun c hc=>Qw c (by simp[hc])) (Nz.trans hb) rfl (fun _ _=>rfl) c1 (c2.of_block Nz) p4;refine⟨F',?_,p6⟩;refine p5.trans ?_
   rw[UM F2,←UM HX];refine(US _ p3).trans ?_
   rw[←UM (HX++F2)];exact US _ (US _ p1)
end Go.Fw
end
section
namespace Go.Fw
def OR(E:Env)(w:World)(vw:List Bx):Option XV→Option Value→Prop
 |none,none=>True
 |some x,some v=>XR E w vw x v
 |_,_=>False
section
variable{Y:Type} {P:Program} {T:BQ} (hT:Ag P T) {E:Env} {w:World} {vw:List Bx}
theorem run_sliceBound{κ:IntKind}{i:Int}{y:Nat}{code:BoundsCode}(h0:0≤i)(h1:i≤(y:Int)):(Instr.sliceBound (.int κ i) y code).run P w= .ok i.toNat w:=by
 simp[Instr.sliceBound,asIntOf,h0,h1]
theorem Cq{len cap:Nat}(hc:len≤cap){lo hi:Option XV}{k:Nat→Nat→Option Y}{y:Y}(e:B7 len lo hi k=some y){lv hv:Option Value}
  (hl:OR E w vw lo lv) (hh:OR E w vw hi hv) (b:Bool):∃l h,k l h=some y∧l≤h∧h≤len∧(Instr.sliceBounds b len cap lv hv none).run P w= .ok (l,h,cap) w:=by
 unfold B7 at e;dsimp only at e;split at e
 case h_2=>cases e
 rename_i l h el eh;split at e
 case isFalse=>cases e
 rename_i hb;obtain⟨b1,b2,b3⟩:=hb;refine⟨l.toNat,h.toNat,e,by omega,by omega,?_⟩;cases hi with
 |none=>cases hv with
  |some _=>exact hh.elim
  |none=>
   simp only[UG]at eh;subst eh;cases lo with
   |none=>cases lv with
    |some _=>exact hl.elim
    |none=>
     simp only[UG]at el;subst el;simp[Instr.sliceBounds]
   |some x=>cases lv with
    |none=>exact hl.elim
    |some v=>
     obtain⟨κ,rfl⟩:=A9 (E:=E) (w:=w) (vw:=vw) el hl;simp[Instr.sliceBounds,run_sliceBound (P:=P) (w:=w) (κ:=κ) (i:=l) (y:=len) b1 (by omega)]
 |some x=>cases hv with
  |none=>exact hh.elim
  |some v=>
   obtain⟨κ,rfl⟩:=A9 (E:=E) (w:=w) (vw:=vw) eh hh;have e1:=fun code=>run_sliceBound (P:=P) (w:=w) (κ:=κ) (i:=h) (y:=cap) (code:=code) (by omega) (by omega)
   cases lo with
   |none=>cases lv with
    |some _=>exact hl.elim
    |none=>
     simp only[UG]at el;subst el;simp[Instr.sliceBounds,e1]
   |some x=>cases lv with
    |none=>exact hl.elim
    |some v=>
     obtain⟨κ',rfl⟩:=A9 (E:=E) (w:=w) (vw:=vw) el hl;have e2:=fun code=>run_sliceBound (P:=P) (w:=w) (κ:=κ') (i:=l) (y:=h.toNat) (code:=code) b1 (by omega)
     simp[Instr.sliceBounds,e1,e2]
theorem JE(s:List UInt8)(l h:Nat):(⟨s.toArray⟩:ByteArray).extract l h=⟨((s.drop l).take (h-l)).toArray⟩:=by
 apply ByteArray.ext;simp[List.extract_eq_take_drop]
include hT
theorem Gd{σ:St}{Fs:List T7}(hB:Bo E w σ.bx σ.bx Fs)(st:∀c,E.S c→E.T c){t:Nat}{x:XV}{lo hi:Option XV}{k:K Y}{y:Y}(e:Gx T t σ x lo hi k=some y)
  {v:Value} {lv hv:Option Value} (hx:XR E w σ.bx x v) (hl:OR E w σ.bx lo lv) (hh:OR E w σ.bx hi hv):
  ∃z val,k z σ=some y∧(Instr.sliceAt t v lv hv none).run P w= .ok val w∧XR E w σ.bx z val:=by
 unfold Gx at e;split at e
 ·rename_i s
  split at e
  case isFalse=>cases e
  rename_i MZ;have hu:=DV hT MZ;have Ep:=Dj (E:=E) (w:=w) (vw:=σ.bx) hx;subst Ep;obtain⟨l,h,ek,h1,h2,hr⟩:=Cq (P:=P) (cap:=s.length) (Ui _) e hl hh false;refine⟨_,.string ⟨((s.drop l).take (h-l)).toArray⟩,ek,?_,VR.str (E:=E) (vw:=σ.bx) _⟩;have hs:(⟨s.toArray⟩:ByteArray).size=s.length:=by simp[ByteArray.size]
  simp[Instr.sliceAt,AD hu,Instr.slice,hs,hr,JE]
 ·rename_i s r rows
  split at e
  case isFalse=>cases e
  rename_i Gj;obtain⟨el,ti,hu,Ce,hs,_⟩:=B5 hT Gj;have CB:=Ag.sizeOf hT Ce w
  change VR E w σ.bx (.sl s r rows) v at hx
  have Mq:=hx;simp only[VR,Rd]at Mq;obtain⟨a,cap,Ep,hle,_⟩:=Mq;simp only[Ua,Us]at Ep;subst Ep;obtain⟨l,h,ek,h1,h2,hr⟩:=Cq (P:=P) hle e hl hh true;refine⟨_,Cc r.n l (h-l) a cap,ek,?_,?_⟩
  ·simp[Instr.sliceAt,AD hu,Instr.slice,hr,CB,hs,Cc]
  ·simp only[XR,VR]at hx⊢
   exact Lj hx (by omega)
 ·rename_i b p
  split at e
  case h_2=>cases e
  rename_i q hq;split at e
  case isFalse=>cases e
  rename_i Gj;obtain⟨el,ti,hu,Ce,hs,_⟩:=B5 hT Gj;have CB:=Ag.sizeOf hT Ce w
  change VR E w σ.bx (.ref b p) v at hx
  obtain⟨a,cap,rfl,hle,_⟩:=Lr hB st hx hq;obtain⟨l,h,ek,h1,h2,hr⟩:=Cq (P:=P) hle e hl hh true;refine⟨_,Cc q.1.n l (h-l) a cap,ek,?_,?_⟩
  ·simp[Instr.sliceAt,AD hu,Instr.slice,hr,CB,hs,Cc]
  ·simp only[Bp]at hq
   obtain⟨_,hx⟩:=hx;refine⟨by simp[Cc,isSlice],?_⟩;revert hx;split
   ·rename_i d r rows Gm
    rw[Gm]at hq;dsimp only at hq
    rintro⟨hp,hg,hh⟩
    exact⟨hp,q.1,q.2,a,_,cap,hq,by omega,hh,rfl⟩
   ·exact fun _=>trivial
   ·exact fun h=>h
 ·cases e
omit hT in
theorem Em{f:Nat→Option AV}:∀{n j:Nat} {l:List AV},FM f j n=some l→l.length=n∧ ∀(i:Nat) x,l[i]? =some x→f (j+i)=some x
 |0,j,l,e=>by simp only[FM,UG]at e;subst e;simp
 |n+1,j,l,e=>by
  simp only[FM,UJ,UI]at e;obtain⟨x,hx,l',hl,rfl⟩:=e;obtain⟨h1,h2⟩:=Em hl;refine⟨by simp[h1],fun i z hz=> ?_⟩;cases i with
  |zero=>simp at hz;subst hz;exact hx
  |succ i=>
   have:=h2 i z (by simpa using hz)
   rwa [show j+1+i=j+(i+1)by omega]at this
omit hT in
theorem DR{B:Nat→Prop}{t:Ty}{x:t.D}{v:Value}(h:Rd w B t [v] x)(hs:t.scalar=true):VR E w vw (.v t x) v:=by
 refine⟨hs,?_⟩;cases t<;>first
  |(simpa only[Rd]using h)
  |(simp[Ty.scalar]at hs)
omit hT in
theorem MK{s:Bool}{t:Ty}{x:t.D}{v:Value}(h:Rd w (if s then E.S else E.T) t [v] x):VR E w vw (LQ s ⟨t,x⟩) v:=by
 cases t with
 |sl r=>simp only[LQ,VR];exact h
 |int k=>exact DR h rfl
 |bool=>exact DR h rfl
 |str=>exact DR h rfl
 |unit=>trivial
 |cons c r=>trivial
omit hT in
theorem HL{s:HW}:∀{p:List HW} {r:Ty} {rows:List r.D} {q:Ty} {ys:List q.D} {t:Ty} {x:List t.D},AM r rows p→Aq r rows p=some ⟨q,ys⟩→s.i<ys.length→s.sz=q.n→
  AB q s.j (rowAt q ys s.i)=some ⟨.sl t,x⟩→AM r rows (p++[s])∧Aq r rows (p++[s])=some ⟨t,x⟩
 |[],r,rows,q,ys,t,x,_,hg,hi,hs,hc=>by
  simp only[Aq,UG,UP]at hg;obtain⟨rfl,e⟩:=hg;obtain rfl:=Uc e;refine⟨?_,?_⟩
  ·simp only[VM,AM,hc]
   exact⟨hi,hs,trivial⟩
  ·simp only[VM,Aq,hc]
 |s'::p,r,rows,q,ys,t,x,hp,hg,hi,hs,hc=>by
  simp only[AM]at hp;obtain⟨h1,h2,hp⟩:=hp;simp only[Aq]at hg;split at hg
  ·rename_i q' x' E_
   rw[E_]at hp;obtain⟨a,b⟩:=HL hp hg hi hs hc;refine⟨?_,?_⟩
   ·simp only[U6,AM,E_]
    exact⟨h1,h2,a⟩
   ·simp only[U6,Aq,E_]
    exact b
  ·cases hg
omit hT in
theorem IA{s:HW}:∀{p:List HW} {h:Value} {b o len cap:Nat} {v:Value},BG w h p=some (.slice (some ⟨b,o,none⟩) len cap)→w.cell? ⟨b,o+s.i*s.sz+s.j,none⟩=some v→
  BG w h (p++[s])=some v
 |[],h,b,o,len,cap,v,e,hc=>by
  rw[AJ]at e;cases e;simp[BG,hc,AJ]
 |s'::p,h,b,o,len,cap,v,e,hc=>by
  cases h with
  |slice a l c=>
   cases a with
   |none=>simp[BG]at e
   |some a=>
    simp only[BG]at e;split at e
    ·rename_i h' hh
     simp only[U6,BG,hh];exact IA e hc
    ·cases e
  |_=>simp[BG]at e
omit hT in
theorem Bb{bx:List Bx}{Fs:List T7}(hB:Bo E w bx bx Fs)(st:∀c,E.S c→E.T c){x z:AV}{i:Nat}(e:BE bx x i=some z){v:Value}(hx:VR E w bx x v):
  ∃b o u,v= .pointer (some ⟨b,o,none⟩)∧w.cell? ⟨b,o+i,none⟩=some u∧VR E w bx z u:=by
 cases x with
 |A6 b j=>
  simp only[BE]at e;split at e
  ·rename_i cs hb
   obtain⟨F,⟨_,arr,ty,fr,ha,hu,hv⟩,_⟩:=hB.get hb;obtain⟨u,h1,h2⟩:=AF.get hv e;refine⟨_,_,u,hx.2,?_,h2⟩;simp only[World.cell?,ha,U7,Ut,VI];simpa using h1
  ·cases e
 |BH b p r sz j=>
  simp only[BE]at e;split at e
  ·rename_i d q rows hb
   split at e
   case isFalse=>cases e
   rename_i hd;simp only[UJ]at e;obtain⟨⟨q',Iq⟩,hg,e⟩:=e;split at e
   case isFalse=>cases e
   rename_i CB;simp only[UI]at e;obtain⟨⟨t,y⟩,hc,rfl⟩:=e;simp only[VR,hb]at hx;obtain⟨_,hp,q1,ys,bb,o,len,cap,g1,g2,g3,rfl⟩:=hx;rw[hg]at g1;simp only[UG,UP]at g1;obtain⟨rfl,g1⟩:=g1;obtain rfl:=Uc g1;dsimp only at CB hc;obtain⟨F,⟨hd1,ho⟩,hF⟩:=hB.get hb;have Eb:=FH (Ac.refl bx) hB st hb hp hg g3;have TP:=Eb;simp only[Rd]at Eb;obtain⟨a',cap',ee,hle,Eb⟩:=Eb;simp only[Ua,Value.slice.injEq,Us]at ee;obtain⟨rfl,rfl,rfl⟩:=ee;rcases Eb with Eb|⟨b1,o1,e7,_,Eb⟩
   ·omega
   ·cases e7
    obtain⟨cs,c1,c2,c3⟩:=Eb r _ (CR g2);obtain⟨u,hu,hur⟩:=FX c3 hc;have Dr:=c2 _ _ hu;rw[←CB]at Dr;refine⟨_,_,u,rfl,by rw[VD];exact Dr,?_⟩;cases t with
    |sl t' =>
     simp only[Lw];split
     ·rename_i Tx
      obtain⟨h',F1,F2,m1,m2,_,_⟩:=Io ho hp hg hd;rw[g3]at m1;cases m1;rw[show d-p.length=0+1 by omega]at m2;obtain⟨b2,o2,arr,ty,fr,cs2,G,R,e2,_,_,_,_,k2,k3,_,_⟩:=Jx m2 g2;cases e2;obtain⟨v2,A1,A2,z1,z2,_,_⟩:=Fb k3 hc;have NG:=k2 _ _ z1;rw[←CB,Dr]at NG;cases NG;simp only[Ow]at z2;simp only[VR];exact z2.1
     ·simp only[VR,hb]
      have:=HL (s:=⟨r,sz,j+i⟩) hp hg g2 CB hc;simp only[Rd]at hur;obtain⟨a2,cap2,e2,_⟩:=hur;simp only[Ua,Us]at e2;refine⟨by rw[e2];rfl,this.1,⟨_,this.2⟩,IA g3 Dr⟩
    |int k=>exact DR hur rfl
    |bool=>exact DR hur rfl
    |str=>exact DR hur rfl
    |unit=>trivial
    |cons c r=>trivial
  ·cases e
 |B3 s r y j=>
  simp only[BE,UI]at e;obtain⟨⟨t,y'⟩,hc,rfl⟩:=e;obtain⟨bb,o,cs,rfl,h2,h3,h4,h5⟩:=hx;obtain⟨u,hu,hur⟩:=FX h5 hc;refine⟨_,_,u,rfl,by rw[VD];exact h4 _ _ hu,MK hur⟩
 |_=>simp[BE]at e
omit hT in
theorem FD{bx:List Bx}{Fs:List T7}(hB:Bo E w bx bx Fs)(st:∀c,E.S c→E.T c){x:AV}{v:Value}(hx:VR E w bx x v){b o:Nat}(hv:v= .pointer (some ⟨b,o,none⟩)):
  ∀{l:List AV} {j:Nat},(∀(i:Nat) z,l[i]? =some z→BE bx x (j+i)=some z)→ ∃cs:List Value,cs.length=l.length∧AG w b (o+j) cs∧GD E w bx l cs
 |[],_,_=>⟨[],rfl,fun _ _ h=>by simp at h,trivial⟩
 |z::l,j,h=>by
  obtain⟨b',o',u,e1,e2,e3⟩:=Bb hB st (h 0 z rfl) hx;subst hv;simp only[Value.pointer.injEq,UG,Addr.mk.injEq,Us]at e1;obtain⟨rfl,rfl⟩:=e1;obtain⟨cs,c1,c2,c3⟩:=FD hB st hx rfl (l:=l) (j:=j+1) (fun i y hy=>by
   have:=h (i+1) y (by simpa using hy)
   rwa [show j+1+i=j+(i+1)by omega])
  refine⟨u::cs,by simp[c1],fun i y hy=> ?_,e3,c3⟩;cases i with
  |zero=>simp at hy;subst hy;exact e2
  |succ i=>
   have:=c2 i y (by simpa using hy)
   rwa [show o+(j+1)+i=o+j+(i+1)by omega]at this
theorem Kj{σ:St}{Fs:List T7}(hB:Bo E w σ.bx σ.bx Fs)(st:∀c,E.S c→E.T c){t:Nat}{x z:XV}(e:HM T t σ x=some z){v:Value}(hx:XR E w σ.bx x v):
  ∃u,(Instr.loadAt t v).run P w= .ok u w∧XR E w σ.bx z u:=by
 unfold HM at e;split at e
 case h_2=>cases e
 rename_i x ti Ce;split at e
 case isTrue=>cases e
 rename_i CB;have GU:=Ag.isAgg hT Ce w;split at e
 ·rename_i ha
  rw[ha]at GU;simp only[UI]at e;obtain⟨l,hl,rfl⟩:=e;obtain⟨h1,h2⟩:=Em hl;have h0:0<l.length:=by omega
  obtain⟨b,o,u,hv,_,_⟩:=Bb hB st (h2 0 _ (UH h0)) hx;obtain⟨cs,c1,c2,c3⟩:=FD hB st hx hv (l:=l) (j:=0) (fun i y hy=>by simpa using h2 i y hy);subst hv;have Gk:=(hT t ti Ce).M4;cases hd:ti.desc with
  |st fs=>
   rw[hd]at Gk;obtain⟨fields,hu,_⟩:=Gk;refine⟨.agg cs.toArray,run_loadAt_mid w b o t cs _ (by simpa[AG,World.rangeAt]using c2) hu rfl ?_,cs.toArray,rfl,by simpa using c3⟩;rw[Ag.size hT Ce,c1,h1]
  |_=>rw[hd]at ha;simp[TD.agg]at ha
 ·rename_i ha
  simp only[Bool.not_eq_true]at ha;rw[ha]at GU;simp only[UI]at e;obtain⟨y,hy,rfl⟩:=e;obtain⟨b,o,u,hv,hc,hr⟩:=Bb hB st hy hx;subst hv;refine⟨u,?_,hr⟩;simp only[VB]at hc;simp[Instr.loadAt,Instr.sureAddr,loadVar,GU,hc]
end
end Go.Fw
end
section
namespace Go.Fw
theorem H_{w:World}{S:Nat→Prop}{d:Nat}{q:Ty}:Ow w S d (.sl q) [.slice none 0 0] [] []:=by
 cases d with
 |zero=>simp only[Ow,Rd];exact⟨⟨none,0,rfl,by simp,.inl rfl⟩,trivial⟩
 |succ d=>simp only[Ow];exact⟨none,0,rfl,by simp,.inl ⟨rfl,trivial⟩⟩
theorem Mu{w:World}{S:Nat→Prop}{d:Nat}{r:Ty}{a:Option Addr}{len cap:Nat}{ys:List r.D}{F:T7}(h:Ow w S (d+1) (.sl r) [.slice a len cap] ys F){off n:Nat}(hn:off+n≤ys.length):
  ∃F1 F2,F.Perm (F1++F2)∧Ow w S (d+1) (.sl r) [Cc r.n off n a cap] ((ys.drop off).take n) F1:=by
 simp only[Ow]at h⊢;obtain⟨a',cap',e,hc,h⟩:=h;simp only[Ua,Value.slice.injEq,Us]at e;obtain⟨rfl,rfl,rfl⟩:=e;have hl:((ys.drop off).take n).length=n:=by simp;omega
 by_cases h0:cap=off
 ·subst h0
  refine⟨[],F,by simp,a,0,by simp[Cc,hl],by rw[hl];omega,.inl ⟨rfl,rfl⟩⟩
 ·rcases h with⟨h,rfl⟩|⟨b,o,arr,ty,fr,Fs,rfl,hb,CB,hu,rfl,hFl,hr⟩
  ·refine⟨[],[],by simp,a.map (·.add (off*r.n)),cap-off,by simp[Cc,hl,h0],by rw[hl];omega,.inl ⟨by omega,rfl⟩⟩
  ·have p:Fs.flatten.Perm (((Fs.drop off).take n).flatten++((Fs.take off).flatten++(Fs.drop (off+n)).flatten)):=by
    have e:Fs=Fs.take off++(((Fs.drop off).take n)++Fs.drop (off+n)):=by
     rw[←List.drop_drop,VQ,VQ]
    conv=>lhs;rw[e]
    rw[Uv,Uv,←UM,←UM];exact US _ UY
   refine⟨b::((Fs.drop off).take n).flatten,(Fs.take off).flatten++(Fs.drop (off+n)).flatten,List.Perm.cons b p,some ⟨b,o+off*r.n,none⟩,cap-off,?_,by rw[hl];omega,.inr ⟨b,o+off*r.n,arr,ty,fr,_,rfl,hb,?_,hu,rfl,?_,?_⟩⟩
   ·simp[Cc,h0,hl,Addr.add_eq]
   ·have:off*r.n+(cap-off)*r.n=cap*r.n:=by rw[←Ux];congr 1;omega
    omega
   ·rw[hl];simp;omega
   ·intro i y G hy hG
    have hi:=(UF.1 hy).1;rw[hl]at hi;rw[List.getElem?_take_of_lt hi,VH]at hy hG;obtain⟨cs,c1,c2,c3⟩:=hr (off+i) y G hy hG;refine⟨cs,c1,?_,c3⟩;rw[Ux,←VD]at c2;exact c2
theorem Le.keep{E E':Env}(h:Le E E'){w:World}{vw:List Bx}(st:∀c,E.S c→E.T c):Cm E w vw E' w vw:=
 ⟨Ui _,fun b _=>by rw[h.A5],h.T,h.S,st,fun _ _=>rfl,fun b d r rows _ e=>⟨d,rows,e,fun p hp q ys hg=>⟨hp,⟨ys,hg,rfl⟩,fun h' hh=>by rw[h.A7];exact hh⟩⟩⟩
theorem AK.share{E:Env}{w:World}{vw bx:List Bx}{F W G:T7}(h:AK E w vw bx (F++W++G)):
  let E':Env:={ E with S:=fun c=>E.S c∨c∈W,T:=fun c=>E.T c∨c∈W }
  Le E E'∧AK E' w vw bx (F++G):=by
 intro E';have st:=h.st;have hle:Le E E':=⟨rfl,rfl,fun c hc=> .inl hc,fun c hc=> .inl hc,fun c hc=>hc.elim .inl fun h' => .inr (.inr h'),fun c hc=>hc.elim .inl fun h' => .inr (h.Nj c (by simp[h']))⟩;refine⟨hle,?_⟩;obtain⟨Fs,⟨h1,h2⟩,h3⟩:=h;refine⟨Fs,⟨h1,fun k B F' hk hF=> ?_⟩,?_⟩
 ·have:=h2 k B F' hk hF
  cases B with
  |mem cs=>
   obtain⟨rfl,arr,ty,fr,a1,a2,a3⟩:=this;exact⟨rfl,arr,ty,fr,a1,a2,a3.imp fun _ _ hv=>Al (hle.keep st) hv⟩
  |sl d r rows=>exact⟨this.1,AY hle.S (fun _ _=>rfl) (fun _ _=>rfl) this.2⟩
  |dead=>exact this
 ·have h4:Sep E w (W++(Fs.flatten++(F++G))):=h3.perm (by
   rw[UM F W G,←UM Fs.flatten,←UM (Fs.flatten++F),←UM Fs.flatten F G,←UM W];exact US _ UY)
  refine⟨(UN.1 h4.nodup).2.1,fun c hc ht=> ?_,fun c hc=>h4.lt c (by simp only[UU];exact .inr (by simpa using hc)),fun c hc=>hc.imp (st c) id,fun c hc=>hc.elim (h4.FI c) fun h' =>h4.lt c (by simp[h']),h4.KS.mono (fun _ h=> .inl h) (fun _ _=>rfl)⟩;rcases ht with ht|ht
  ·exact h4.free c (UU.2 (.inr hc)) ht
  ·exact(UN.1 h4.nodup).2.2 c ht c hc rfl
structure Au (E:Env) (w:World) (vw bx:List Bx) (G:T7) (E':Env) (CO:List Bx) (F:T7):Prop where
 le:Le E E'
 len:CO.length=bx.length
 within:∀(b:Nat) (B:Bx),CO[b]? =some B→B= .dead∨bx[b]? =some B
 boxes:AK E' w vw CO (F++G)
theorem Au.refl{E:Env}{w:World}{vw bx:List Bx}{G:T7}(h:AK E w vw bx G):Au E w vw bx G E bx []:=
 ⟨Le.refl E,rfl,fun _ _ h=> .inr h,h⟩
theorem Ac.H8{E E':Env}{w:World}{vw bx CO:List Bx}{G F:T7}(h:Ac bx vw)(k:Au E w vw bx G E' CO F):Ac CO vw:=fun b B e=>
 (k.within b B e).elim .inl (h b B)
theorem Eo{E:Env}{w:World}{vw bx:List Bx}{G:T7}(h:AK E w vw bx G)(hw:Ac bx vw){d:Nat}(hd:1≤d){t:Ty}{x:AV}{v:Value}(hv:VR E w vw x v){y:t.D}{CO:List Bx}{d':Nat}
  (e:FP d t x bx=some (y,CO,d')):1≤d'∧d'≤d∧ ∃E' F,Au E w vw bx G E' CO F∧Ow w E'.S (d'-1) t [v] y F:=by
 unfold FP at e;split at e
 ·rename_i u z
  simp only[UI,Ug]at e;obtain⟨z',e1,rfl,rfl,rfl⟩:=e;obtain⟨e2,e3⟩:=A4 e1;subst e2;subst e3;refine⟨hd,Ui _,E,[],Au.refl h,?_⟩;obtain⟨hs,hr⟩:=hv;cases u<;>simp_all[Ty.scalar,Ow,Rd]
 ·split at e
  ·simp only[UG,Ug]at e
   obtain⟨rfl,rfl,rfl⟩:=e;simp only[VR]at hv;subst hv;exact⟨hd,Ui _,E,[],Au.refl h,H_⟩
  ·cases e
 ·rename_i r z
  split at e
  ·rename_i q
   simp only[UI,Ug]at e;obtain⟨z',e1,rfl,rfl,rfl⟩:=e;obtain⟨e2,e3⟩:=A4 e1;subst e2;subst e3;refine⟨Ui _,hd,E,[],Au.refl h,?_⟩;simp only[VR]at hv;simp only[Nat.sub_self,Ow];exact⟨by simpa using hv,trivial⟩
  ·cases e
 ·rename_i b
  split at e
  case h_2=>cases e
  rename_i q;split at e
  case h_2=>cases e
  rename_i db r z hb;simp only[UI,Ug]at e;obtain⟨z',e1,rfl,rfl,rfl⟩:=e;obtain⟨e2,e3⟩:=A4 e1;subst e2;subst e3;obtain⟨F0,⟨hd1,ho⟩,hB⟩:=h.take hb;have Sj:v=E.A7 b:=by
   simp only[VR,Du hw hb,AJ]at hv;simpa using hv.2.2.2.symm
  subst Sj;obtain⟨F1,W,hp,Ma⟩:=BO (d:=min d (db+1)-1) (by omega) ho;have CZ:=hB.perm (US G hp);obtain⟨hle,DQ⟩:=CZ.share;refine⟨by omega,Nat.min_le_left _ _,_,F1,⟨hle,by simp,fun k B hk=> ?_,DQ⟩,Ma⟩;by_cases ek:k=b
  ·subst ek
   rw[UQ (UF.1 hb).1]at hk;cases hk;exact .inl rfl
  ·rw[UL (by omega)]at hk;exact .inr hk
 ·rename_i b off n
  split at e
  case h_2=>cases e
  rename_i q;split at e
  case h_2=>cases e
  rename_i db r z hb;simp only[UI,Ug]at e;obtain⟨z',e1,rfl,rfl,rfl⟩:=e;obtain⟨e2,e3⟩:=A4 e1;subst e2;subst e3;obtain⟨F0,⟨hd1,ho⟩,hB⟩:=h.take hb;simp only[VR,Du hw hb,AJ]at hv;obtain⟨_,_,q',ys,a,len,cap,hg,hn,hh,rfl⟩:=hv;simp only[Aq,UG,UP]at hg;obtain⟨rfl,hg⟩:=hg;obtain rfl:=Uc hg;simp only[UG]at hh;rw[hh]at ho;obtain⟨db,rfl⟩:∃m,db=m+1:=⟨db-1,by omega⟩;obtain⟨A1,A2,hp0,RX⟩:=Mu ho hn;obtain⟨F1,W,hp,Ma⟩:=BO (d:=min d (db+1+1)-1) (by omega) RX;have Qy:AK E w vw (bx.set b .dead) (A1++G):=by
   refine AK.drop (G':=A2) (hB.perm ?_);refine(US G hp0).trans ?_
   rw[UM,UM];exact UX _ UY
  have CZ:=Qy.perm (US G hp);obtain⟨hle,DQ⟩:=CZ.share;refine⟨by omega,Nat.min_le_left _ _,_,F1,⟨hle,by simp,fun k B hk=> ?_,DQ⟩,Ma⟩;by_cases ek:k=b
  ·subst ek
   rw[UQ (UF.1 hb).1]at hk;cases hk;exact .inl rfl
  ·rw[UL (by omega)]at hk;exact .inr hk
 ·cases e
theorem D_{w:World}{vw:List Bx}:∀{r:Ty} {E:Env} {bx:List Bx} {G:T7} {d:Nat} {l:List AV} {vs:List Value} {y:r.D} {CO:List Bx} {d':Nat},AK E w vw bx G→Ac bx vw→1≤d→
  GD E w vw l vs→cellsIn d r l bx=some (y,CO,d')→1≤d'∧d'≤d∧ ∃E' F,Au E w vw bx G E' CO F∧Ow w E'.S (d'-1) r vs y F
 | .unit,E,bx,G,d,[],[],y,CO,d',h,hw,hd,_,e=>by
  simp only[cellsIn,UG,Ug]at e;obtain⟨_,rfl,rfl⟩:=e;exact⟨hd,Ui _,E,[],Au.refl h,by simp only[Ow];exact⟨trivial,trivial⟩⟩
 | .cons c r,E,bx,G,d,x::l,v::vs,y,CO,d',h,hw,hd,hv,e=>by
  simp only[cellsIn,UJ,UI,Ug]at e;obtain⟨⟨y1,Gc,d1⟩,e1,⟨y2,EC,d2⟩,e2,rfl,rfl,rfl⟩:=e;dsimp only at e2⊢;obtain⟨a1,a2,E1,F1,k1,o1⟩:=Eo h hw hd hv.1 e1;have Ki:=k1.le.keep (w:=w) (vw:=vw) h.st;obtain⟨b1,b2,E2,F2,k2,o2⟩:=D_ (G:=F1++G) k1.boxes (hw.H8 k1) a1 (hv.2.imp fun _ _ h=>Al Ki h) e2;obtain⟨A,W,hp,o1'⟩:=BO (d:=d'-1) (by omega) o1;have hB:=k2.boxes.perm (G':=(F2++A)++W++G) (by
   rw[UM F2 A W,UM F2];exact UX _ (US _ hp))
  obtain⟨hle,DQ⟩:=hB.share;refine⟨b1,VA b2 a2,_,A++F2,⟨(k1.le.trans k2.le).trans hle,k2.len.trans k1.len,fun b B hb=>(k2.within b B hb).elim .inl (k1.within b B),DQ.perm (US _ UY)⟩,?_⟩;simp only[Ow];refine⟨v,vs,A,F2,rfl,rfl,?_,?_⟩
  ·refine AY (S:=fun b=>E1.S b∨b∈W) ?_ (fun _ _=>rfl) (fun _ _=>rfl) o1'
   intro c hc;exact hc.elim (fun h=> .inl (k2.le.S c h)) .inr
  ·refine AY (S:=E2.S) ?_ (fun _ _=>rfl) (fun _ _=>rfl) o2
   intro c hc;exact .inl hc
 | .unit,_,_,_,_,_::_,_,_,_,_,_,_,_,_,e=>by simp[cellsIn]at e
 | .unit,_,_,_,_,[],_::_,_,_,_,_,_,_,hv,_=>hv.elim
 | .cons _ _,_,_,_,_,[],_,_,_,_,_,_,_,_,e=>by simp[cellsIn]at e
 | .cons _ _,_,_,_,_,_::_,[],_,_,_,_,_,_,hv,_=>hv.elim
 | .int _,_,_,_,_,_,_,_,_,_,_,_,_,_,e=>by simp[cellsIn]at e
 | .bool,_,_,_,_,_,_,_,_,_,_,_,_,_,e=>by simp[cellsIn]at e
 | .str,_,_,_,_,_,_,_,_,_,_,_,_,_,e=>by simp[cellsIn]at e
 | .sl _,_,_,_,_,_,_,_,_,_,_,_,_,_,e=>by simp[cellsIn]at e
theorem KR{E:Env}{w:World}{vw:List Bx}{x:AV}{v:Value}(h:VR E w vw x v)(hk:x.known=true):v.oneCell' =true∧v.cells= #[v]:=by
 have aux:∀{v:Value},isSlice v=true→v.oneCell' =true∧v.cells= #[v]:=by intro v h;cases v<;>simp_all[isSlice,Value.oneCell',Value.cells]
 have Rq:∀{v:Value},Ez v=true→v.oneCell' =true∧v.cells= #[v]:=by intro v h;cases v<;>simp_all[Ez,Value.oneCell',Value.cells]
 cases x with
 |v t y=>
  obtain⟨hs,hr⟩:=h;cases t<;>simp[Ty.scalar]at hs<;>simp only[Rd,Ua,Us]at hr<;>subst hr<;>exact⟨rfl,rfl⟩
 |sl s r y=>
  simp only[VR,Rd]at h;obtain⟨a,cap,h,_⟩:=h;simp only[Ua,Us]at h;subst h;exact⟨rfl,rfl⟩
 |nil=>simp only[VR]at h;subst h;exact⟨rfl,rfl⟩
 |ref b p=>exact aux h.1
 |win b p off n=>exact aux h.1
 |A6 b j=>rw[h.2];exact⟨rfl,rfl⟩
 |BH b p i sz j=>exact Rq h.1
 |B3 s r y j=>obtain⟨bb,o,cs,rfl,_⟩:=h;exact⟨rfl,rfl⟩
 |fn f BL=>rw[h.2];exact⟨rfl,rfl⟩
 |J2 f rows=>obtain⟨ps,rfl,_⟩:=h;exact⟨rfl,rfl⟩
 |LF=>simp only[VR]at h;subst h;exact⟨rfl,rfl⟩
 |undef=>simp[AV.known]at hk
theorem L0{E:Env}{w:World}{vw:List Bx}:∀{l:List AV} {vs:List Value},GD E w vw l vs→l.all AV.known=true→ ∀v∈vs,v.oneCell' =true
 |[],[],_,_=>by simp
 |x::l,v::vs,h,hk=>by
  simp only[VV,UT]at hk;intro u hu;rcases Uo.1 hu with rfl|hu
  ·exact(KR h.1 hk.1).1
  ·exact L0 h.2 hk.2 u hu
theorem Ie{E:Env}{w:World}{vw:List Bx}{x:XV}{v:Value}(h:XR E w vw x v)(hk:x.cells.all AV.known=true)(hn:x.cells≠[]):GD E w vw x.cells v.cells.toList∧ ∀u∈v.cells.toList,u.oneCell' =true:=by
 cases x with
 |c x=>
  have h':VR E w vw x v:=h;obtain⟨h1,h2⟩:=KR h' (by simpa[XV.cells]using hk);rw[h2];exact⟨⟨h',trivial⟩,by simpa using h1⟩
 |agg l=>
  obtain⟨vs,rfl,Dg⟩:=h;exact⟨Dg,L0 Dg hk⟩
 |C9 l=>simp[XV.cells]at hn
theorem KU{w:World}{vw:List Bx}{r:Ty}{E:Env}{bx:List Bx}{G:T7}{d:Nat}{x:XV}{v:Value}{y:r.D}{CO:List Bx}{d':Nat}(h:AK E w vw bx G)(hw:Ac bx vw)(hd:1≤d)
  (hv:XR E w vw x v) (e:NR d r x bx=some (y,CO,d')):1≤d'∧d'≤d∧ ∃E' F,Au E w vw bx G E' CO F∧Ow w E'.S (d'-1) r v.cells.toList y F:=by
 unfold NR at e;split at e
 ·rename_i l
  obtain⟨vs,rfl,Dg⟩:=hv;exact D_ h hw hd Dg e
 ·rename_i x
  have Ep:VR E w vw x v:=hv;have hk:x.known=true:=by cases x<;>simp_all[AV.known,FP]
  rw[(KR Ep hk).2];exact Eo h hw hd Ep e
 ·cases e
end Go.Fw
end
section
namespace Go.Fw
def Env.Ea(E:Env)(n:Nat)(h:Value):Env:={ E with A7:=fun k=>if k=n then h else E.A7 k }
def Env.FY(E:Env)(n b:Nat):Env:={ E with A5:=fun k=>if k=n then b else E.A5 k }
theorem Ft{E E1 E':Env}{w w':World}{vw Gc CO:List Bx}{F:T7}(k:Au E w vw vw [] E1 Gc F)(st:∀c,E.S c→E.T c)(hlen:vw.length≤CO.length)
  (Gm:∀b B,b<vw.length→CO[b]? =some B→Gc[b]? =some B) (KF:∀b,b<vw.length→E'.A5 b=E1.A5 b) (FN:∀b,b<vw.length→E'.A7 b=E1.A7 b) (hT:E'.T=E1.T) (hS:E'.S=E1.S)
  (hw:∀c,c<w.heap.size→c∉F→w'.heap[c]? =w.heap[c]?):Cm E w vw E' w' CO:=by
 have hB:=k.boxes;obtain⟨Fs,⟨h1,h2⟩,h3⟩:=hB;simp only[Ud]at h3;have Nn:∀c,E1.T c→w'.heap[c]? =w.heap[c]?:=fun c hc=>hw c (h3.FI c hc) fun hf=>h3.free c (by simp[hf]) hc
 refine⟨hlen,fun b hb=>by rw[KF b hb,k.le.A5],fun c hc=>by rw[hT];exact k.le.T c hc,fun c hc=>by rw[hS];exact k.le.S c hc,st,fun c hc=>Nn c (k.le.T c hc),fun b d r rows hb e=> ?_⟩;have e1:=Gm b _ hb e;rcases k.within b _ e1 with e2|e2
 ·cases e2
 ·refine⟨d,rows,e2,fun p hp q ys hg=>⟨hp,⟨ys,hg,rfl⟩,fun h' hh=> ?_⟩⟩
  have hF:Fs[b]? =some (Fs[b]'(by have:=(UF.1 e1).1;omega)):=UH _;obtain⟨hd,ho⟩:=h2 b _ _ e1 hF;rw[FN b hb];rw[←k.le.A7]at hh;refine KH ho (fun c hc=>Nn c (h3.st c hc)) (fun c hc=> ?_) hp hg hh;have La:c∈Fs.flatten:=UZ.2 ⟨_,UO hF,hc⟩;exact hw c (h3.lt c (by simp[La])) fun hf=>(UN.1 h3.nodup).2.2 c La c hf rfl
structure Grown (w w':World):Prop where
 os:w'.os=w.os
 tape:w'.tape=w.tape
 output:w'.output=w.output
 size:w.heap.size≤w'.heap.size
theorem Cv{E E1:Env}{σ:St}{a:Act}{w w':World}{Gc:List Bx}{F F':T7}(h:Rel E σ a w)(k:Au E w σ.bx σ.bx [] E1 Gc F){v:Value}{d:Nat}{r:Ty}{rows:List r.D}(hd:1≤d)
  (ho:Ow w' E1.S d (.sl r) [v] rows F') (Qz:∀c∈F',c∈F∨w.heap.size≤c) (nd:F'.Nodup) (CK:∀c∈F',c<w'.heap.size) (hw:∀c,c<w.heap.size→c∉F→w'.heap[c]? =w.heap[c]?) (g:Grown w w'):
  let E':=E1.Ea Gc.length v
  Rel E' { σ with bx:=Gc++[.sl d r rows] } a w'∧CX [] E σ.bx w E' (Gc++[.sl d r rows]) w'∧XR E' w' (Gc++[.sl d r rows]) (.c (.ref Gc.length [])) v:=by
 intro E';have st:=h.bx.st;have hn:=k.len;have keep:Cm E w σ.bx E' w' (Gc++[.sl d r rows]):=Ft k st (by simp[hn]) (fun b B hb e=>by
   rw[UK (by omega)]at e;exact e) (fun b _=>rfl) (fun b hb=>by simp[E',Env.Ea];intro e;omega) rfl rfl hw
 have Ki:Cm E1 w σ.bx E' w' (Gc++[.sl d r rows]):=by
  have k':Au E1 w σ.bx σ.bx [] E1 Gc F:=⟨Le.refl _,k.len,k.within,k.boxes⟩;exact Ft k' k.boxes.st (by simp[hn]) (fun b B hb e=>by
   rw[UK (by omega)]at e;exact e) (fun b _=>rfl) (fun b hb=>by simp[E',Env.Ea];intro e;omega) rfl rfl hw
 obtain⟨Fs,⟨h1,h2⟩,h3⟩:=k.boxes;simp only[Ud]at h3;have Nn:∀c,E1.T c→w'.heap[c]? =w.heap[c]?:=fun c hc=>hw c (h3.FI c hc) fun hf=>h3.free c (by simp[hf]) hc
 have RT:∀c∈Fs.flatten,w'.heap[c]? =w.heap[c]?:=fun c hc=>hw c (h3.lt c (by simp[hc])) fun hf=>(UN.1 h3.nodup).2.2 c hc c hf rfl
 refine⟨⟨h.Bu,h.tm.imp fun _ _ hx=>B_ keep hx,?_⟩,?_,?_⟩
 ·refine⟨Fs++[F'],⟨by simp[h1],fun n B G hB hG=> ?_⟩,?_⟩
  ·by_cases K9:n<Gc.length
   ·rw[UK K9]at hB
    rw[UK (by omega)]at hG;have:=h2 n B G hB hG;have P5:∀c∈G,w'.heap[c]? =w.heap[c]?:=fun c hc=>RT c (UZ.2 ⟨G,UO hG,hc⟩)
    cases B with
    |mem cs=>
     obtain⟨rfl,arr,ty,fr,a1,a2,a3⟩:=this;exact⟨rfl,arr,ty,fr,(P5 (E1.A5 n) (by simp)).trans a1,a2,a3.imp fun _ _ hv=>Al Ki hv⟩
    |sl d0 r0 CV=>
     refine⟨this.1,?_⟩;have e0:E'.A7 n=E1.A7 n:=by simp[E',Env.Ea];intro e;omega
     rw[e0];exact AY (fun _ hc=>hc) (fun c hc=>Nn c (h3.st c hc)) P5 this.2
    |dead=>exact this
   ·have Pc:=(UF.1 hB).1
    simp at Pc;obtain rfl:n=Gc.length:=by omega
    rw[UR (by omega)]at hB hG;simp[h1]at hB hG;subst hB hG;refine⟨hd,?_⟩;have e0:E'.A7 Gc.length=v:=by simp[E',Env.Ea]
    rw[e0];exact ho
  ·simp only[Uv,Uk,VL,Ud]
   have Rv:=UN.1 h3.nodup;refine⟨UN.2 ⟨Rv.1,nd,fun x hx y hy e=> ?_⟩,fun c hc ht=> ?_,fun c hc=> ?_,h3.st,fun c hc=>Uh (h3.FI c hc) g.size,h3.KS.mono (fun _ h=>h) Nn⟩
   ·subst e
    rcases Qz x hy with h|h
    ·exact Rv.2.2 x hx x h rfl
    ·have:=h3.lt x (by simp[hx]);omega
   ·rcases UU.1 hc with hc|hc
    ·exact h3.free c (by simp[hc]) ht
    ·rcases Qz c hc with h|h
     ·exact h3.free c (by simp[h]) ht
     ·have:=h3.FI c ht;omega
   ·rcases UU.1 hc with hc|hc
    ·exact Uh (h3.lt c (by simp[hc])) g.size
    ·exact CK c hc
 ·refine⟨⟨k.le.T,k.le.S,k.le.N_,k.le.L7,fun c hc=>Nn c (k.le.T c hc),g.os,g.tape,g.output,g.size⟩,by simp[hn],fun b hb=>⟨by show E1.A5 b=_;rw[k.le.A5],?_⟩,fun b hb=> ?_,fun n B B' _ hB CZ MF=> ?_⟩
  ·have:E'.A7 b=E1.A7 b:=by simp[E',Env.Ea];intro e;omega
   rw[this,k.le.A7]
  ·have Np:=(UF.1 hb).1
   rw[UK (by omega)];obtain⟨B,hB⟩:∃B,Gc[b]? =some B:=⟨_,UH (by omega)⟩;rcases k.within b B hB with e|e
   ·rw[hB,e]
   ·rw[hb]at e;rw[hB];exact e.symm
  ·have K9:=(UF.1 hB).1
   rw[UK (by omega)]at CZ;rcases k.within n B' CZ with e|e
   ·exact absurd e MF
   rw[hB]at e;cases e;refine⟨C7.refl MF,fun c hc=> ?_⟩;have hF:Fs[n]? =some (Fs[n]'(by have:=(UF.1 CZ).1;omega)):=UH _;have hR:=h2 n B _ CZ hF;have Hj:K_ E1 w n B c:=by
    cases B with
    |mem cs=>simp only[K_]at hc⊢;rw[k.le.A5];exact hc
    |sl d r rows=>simp only[K_]at hc⊢;rw[k.le.A7];exact hc
    |dead=>exact hc
   rcases FU hR Hj with hs|hs
   ·exact Nn c (h3.st c hs)
   ·exact RT c (UZ.2 ⟨_,UO hF,hs⟩)
 ·have e0:E'.A7 Gc.length=v:=by simp[E',Env.Ea]
  refine⟨?_,?_⟩
  ·have:=Dy ho
   simp only[Rd]at this;obtain⟨_,_,e,_⟩:=this;simp only[Ua,Us]at e;rw[e];rfl
  ·have:(Gc++[Bx.sl d r rows])[Gc.length]? =some (.sl d r rows):=by simp
   rw[this];exact⟨by simp[AM],⟨_,rfl⟩,by rw[e0,AJ]⟩
theorem IM{E:Env}{σ:St}{a:Act}{w:World}(h:Rel E σ a w){cs:List AV}{arr:Array Value}(ty:TypeId)(hv:GD E w σ.bx cs arr.toList):
  let E':=E.FY σ.bx.length w.heap.size
  let w':=w.alloc (.cells arr ty)
  Rel E' (σ.new (.mem cs)) a w'∧CX [] E σ.bx w E' (σ.new (.mem cs)).bx w'∧XR E' w' (σ.new (.mem cs)).bx (.c (.A6 σ.bx.length 0)) (.pointer (some ⟨w.heap.size,0,none⟩)):=by
 intro E' w';have st:=h.bx.st;have hw:∀c,c<w.heap.size→c∉([]:T7)→w'.heap[c]? =w.heap[c]?:=fun c hc _=>by
  show(w.heap.push (.cells arr ty))[c]? =_
  rw[Array.getElem?_push,U1 (by omega)]
 have QG:=h.bx;have keep:Cm E w σ.bx E' w' (σ.bx++[.mem cs]):=Ft (Au.refl QG) st (by simp) (fun b B hb e=>by
   rw[UK (by omega)]at e;exact e) (fun b hb=>by simp[E',Env.FY];intro e;omega) (fun b _=>rfl) rfl rfl hw
 obtain⟨Fs,⟨h1,h2⟩,h3⟩:=h.bx;simp only[Ud]at h3;have new:w'.heap[w.heap.size]? =some (.cells arr ty):=by
  show(w.heap.push (.cells arr ty))[w.heap.size]? =_
  simp
 refine⟨⟨h.Bu,h.tm.imp fun _ _ hx=>B_ keep hx,?_⟩,?_,?_⟩
 ·refine⟨Fs++[[w.heap.size]],⟨by simp[St.new,h1],fun n B G hB hG=> ?_⟩,?_⟩
  ·simp only[St.new]at hB
   by_cases K9:n<σ.bx.length
   ·rw[UK K9]at hB
    rw[UK (by omega)]at hG;have:=h2 n B G hB hG;have P5:∀c∈G,w'.heap[c]? =w.heap[c]?:=fun c hc=>hw c (h3.lt c (by simp;exact⟨G,UO hG,hc⟩)) (by simp)
    have eb:E'.A5 n=E.A5 n:=by simp[E',Env.FY];intro e;omega
    cases B with
    |mem cs0=>
     obtain⟨rfl,arr0,ty0,fr,a1,a2,a3⟩:=this;refine⟨by rw[eb],arr0,ty0,fr,?_,a2,a3.imp fun _ _ hv=>Al keep hv⟩;rw[eb];exact(P5 (E.A5 n) (by simp)).trans a1
    |sl d0 r0 CV=>exact⟨this.1,AY (fun _ hc=>hc) (fun c hc=>hw c (h3.FI c (st c hc)) (by simp)) P5 this.2⟩
    |dead=>exact this
   ·have Pc:=(UF.1 hB).1
    simp at Pc;obtain rfl:n=σ.bx.length:=by omega
    rw[UR (by omega)]at hB hG;simp[h1]at hB hG;subst hB hG;have eb:E'.A5 σ.bx.length=w.heap.size:=by simp[E',Env.FY]
    refine⟨by rw[eb],arr,ty,(0,0),by rw[eb];exact new,fun i _ h=>by omega,hv.imp fun _ _ hv=>Al keep hv⟩
  ·simp only[Uv,Uk,VL,Ud]
   refine⟨UN.2 ⟨h3.nodup,by simp,fun x hx y hy e=> ?_⟩,fun c hc ht=> ?_,fun c hc=> ?_,h3.st,fun c hc=> ?_,h3.KS.mono (fun _ h=>h) (fun c hc=>hw c (h3.FI c hc) (by simp))⟩
   ·subst e
    simp at hy;have:=h3.lt x hx;omega
   ·rcases UU.1 hc with hc|hc
    ·exact h3.free c hc ht
    ·simp at hc;have:=h3.FI c ht;omega
   ·rcases UU.1 hc with hc|hc
    ·have:=h3.lt c hc;simp[w'];omega
    ·simp at hc;simp[w'];omega
   ·have:=h3.FI c hc;simp[w'];omega
 ·refine⟨⟨fun _ h=>h,fun _ h=>h,fun _ h=> .inl h,fun _ h=> .inl h,fun c hc=>hw c (h3.FI c hc) (by simp),rfl,rfl,rfl,by simp[w']⟩,by simp[St.new],fun b hb=>⟨?_,rfl⟩,fun b hb=> ?_,fun n B B' _ hB CZ MF=> ?_⟩
  ·simp[E',Env.FY];intro e;omega
  ·have Np:=(UF.1 hb).1
   simp only[St.new];rw[UK Np];exact hb
  ·have K9:=(UF.1 hB).1
   simp only[St.new]at CZ;rw[UK K9,hB]at CZ;cases CZ;refine⟨C7.refl MF,fun c hc=> ?_⟩;have hF:Fs[n]? =some (Fs[n]'(by omega)):=UH _;rcases FU (h2 n B _ hB hF) hc with hs|hs
   ·exact hw c (h3.FI c (st c hs)) (by simp)
   ·exact hw c (h3.lt c (UZ.2 ⟨_,UO hF,hs⟩)) (by simp)
 ·refine⟨by simp[St.new],?_⟩
  simp[E',Env.FY]
end Go.Fw
end
section
namespace Go.Fw
theorem BR:∀r:Ty,(Ao r).length=r.n
 | .cons c r=>by simp[Ao,Ty.n,BR r]
 | .unit=>rfl
 | .int _=>rfl
 | .bool=>rfl
 | .str=>rfl
 | .sl _=>rfl
theorem EF{E:Env}{w:World}{vw:List Bx}(t:Ty):VR E w vw (LR t) (zv t):=by
 cases t<;>first
  |exact VR.int _ _
  |exact VR.bool _
  |exact VR.str _
  |rfl
  |trivial
theorem Dw{E:Env}{w:World}{vw:List Bx}:∀r:Ty,GD E w vw (Ek r) (Ao r)
 | .cons c r=>⟨EF c,Dw r⟩
 | .unit=>trivial
 | .int k=>⟨EF (.int k),trivial⟩
 | .bool=>⟨EF .bool,trivial⟩
 | .str=>⟨EF .str,trivial⟩
 | .sl r=>⟨EF (.sl r),trivial⟩
theorem GX{w:World}{S:Nat→Prop}{d:Nat}:∀{r:Ty},r.Jz=true→Ow w S d r (Ao r) r.z []
 | .cons c r,h=>by
  simp only[Ty.Jz,UT]at h;simp only[Ow,Ao];refine⟨_,_,[],[],rfl,rfl,?_,GX h.2⟩;cases c with
  |sl q=>exact H_
  |int k=>simp[Ow,zv,Ty.z]
  |bool=>simp[Ow,zv,Ty.z]
  |str=>simp[Ow,zv,Ty.z]
  |unit=>simp[Ty.cell]at h
  |cons _ _=>simp[Ty.cell]at h
 | .unit,_=>by simp[Ow,Ao]
 | .int k,_=>by simp[Ow,Ao,zv,Ty.z]
 | .bool,_=>by simp[Ow,Ao,zv,Ty.z]
 | .str,_=>by simp[Ow,Ao,zv,Ty.z]
 | .sl q,_=>H_
theorem FE{n:Nat}:∀{css:List (List Value)} {ex:List Value} {i j:Nat} {cs:List Value},(∀c∈css,c.length=n)→css[i]? =some cs→j<n→(css.flatten++ex)[i*n+j]? =cs[j]?
 |[],_,_,_,_,_,h,_=>by simp at h
 |c::css,ex,0,j,cs,hl,h,hj=>by
  simp at h;subst h;have:=hl c (by simp);simp only[Uk,UM,Nat.zero_mul,U2];rw[UK (by omega)]
 |c::css,ex,i+1,j,cs,hl,h,hj=>by
  have hc:=hl c (by simp);have ih:=FE (css:=css) (ex:=ex) (i:=i) (j:=j) (cs:=cs) (fun c' Hj=>hl c' (U3 _ Hj)) (by simpa using h) hj;simp only[Uk,UM];rw[UR (by rw[Ux];omega),←ih];congr 1;rw[Ux,hc];omega
theorem Hi{w:World}{b:Nat}{arr:Array Value}{ty:TypeId}{fr:T8}(hb:w.heap[b]? =some (.cells arr ty fr)){n:Nat}{css:List (List Value)}{ex:List Value}(ha:arr.toList=css.flatten++ex)
  (hl:∀c∈css,c.length=n) {i:Nat} {cs:List Value} (h:css[i]? =some cs):AG w b (i*n) cs:=by
 intro j v hj;have TB:j<n:=by
  have:=(UF.1 hj).1;rw[hl cs (UO h)]at this;exact this
 simp only[World.cell?,hb,U7,Ut,VI];rw[←Array.getElem?_toList,ha,FE hl h TB,hj]
theorem GW{w:World}{S:Nat→Prop}{d b cap:Nat}{r:Ty}{rows:List r.D}{arr:Array Value}{ty:TypeId}{fr:T8}(hb:w.heap[b]? =some (.cells arr ty fr)){css:List (List Value)}{ex:List Value}
  (ha:arr.toList=css.flatten++ex) (hc:css.length=rows.length) (M1:rows.length≤cap) (CB:cap*r.n≤arr.size) (hu:LB fr (arr.size+mk r)) {Fs:List T7} (hF:Fs.length=rows.length)
  (Ew:∀(i:Nat) cs y G,css[i]? =some cs→rows[i]? =some y→Fs[i]? =some G→Ow w S d r cs y G):
  Ow w S (d+1) (.sl r) [.slice (some ⟨b,0,none⟩) rows.length cap] rows (b::Fs.flatten):=by
 have hl:∀c∈css,c.length=r.n:=by
  intro c Hj;obtain⟨i,hi,rfl⟩:=Ur Hj;exact DS (Ew i _ _ _ (UH hi) (UH (by omega)) (UH (by omega)))
 simp only[Ow];refine⟨_,cap,rfl,M1,.inr ⟨b,0,arr,ty,fr,Fs,rfl,hb,by omega,hu,rfl,hF,fun i y G hy hG=> ?_⟩⟩;have hi:i<css.length:=by
  have:=(UF.1 hy).1;omega
 refine⟨css[i],hl _ (VG hi),?_,Ew i _ y G (UH hi) hy hG⟩;rw[U2];exact Hi hb ha hl (UH hi)
theorem G7(n:Nat):LB (0,0) n:=fun i _ h=>by omega
theorem CE{w:World}{o:Obj}{c:Nat}(h:c<w.heap.size):(w.heap.push o)[c]? =w.heap[c]?:=by
 rw[Array.getElem?_push,U1 (by omega)]
section
variable{Y:Type} {P:Program} {T:BQ} (hT:Ag P T) {o:Oper} {E:Env} {σ:St} {a:Act} {w:World} {k:K Y} {y:Y}
theorem Mr(h:Rel E σ a w){t:TypeId}{x:Operand}(ho:o.op= .box t x)(hk:(σ.ev x).cells.all AV.known=true)(hn:(σ.ev x).cells≠[])(e:k (.c (.A6 σ.bx.length 0)) (σ.new (.mem (σ.ev x).cells))=some y):
  BV P o E σ a w k y:=by
 obtain⟨h1,h2⟩:=Ie (h.ev x) hk hn;obtain⟨r1,r2,r3⟩:=IM h t h1;refine⟨_,_,_,_,_,.inl ?_,r1,r3,r2.any,rfl,e⟩;simp only[execOp,ho,Instr.box,newVar,newRow,Sem.run_bind,run_newObj,Result.andThen_ok,Sem.run_pure];rfl
include hT
theorem row_zero{t:Nat}{r:Ty}(e:T.GR t=some r):∃i z,P.info? t=some i∧i.zero=some z∧z.cells.toList=Ao r∧r.Jz=true:=by
 unfold BQ.GR at e;split at e
 ·rename_i ti Ce
  obtain⟨i,h1,_,_,h2⟩:=(hT t ti Ce).info;obtain⟨hg,z,h3,h4⟩:=h2 r e;exact⟨i,z,h1,h3,h4,hg⟩
 ·cases e
theorem LN(h:Rel E σ a w){t:TypeId}(ho:o.op= .alloc t){r:Ty}(hr:T.GR t=some r)(e:k (.c (.A6 σ.bx.length 0)) (σ.new (.mem (Ek r)))=some y):BV P o E σ a w k y:=by
 obtain⟨i,z,h1,h2,h3,_⟩:=row_zero hT hr;obtain⟨r1,r2,r3⟩:=IM (arr:=z.cells) h t (by rw[h3];exact Dw r);refine⟨_,_,_,_,_,.inl ?_,r1,r3,r2.any,rfl,e⟩;simp only[execOp,ho,Instr.alloc,zeroValue,typeInfo,newVar,newRow,Sem.run_bind,run_program,Result.andThen_ok,h1,h2,run_newObj,Sem.run_pure];rfl
end
end Go.Fw
end
section
namespace Go.Fw
def Aj(arr:Array Value):Nat→List Value→Array Value
 |_,[]=>arr
 |o,c::l=>Aj (arr.setIfInBounds o c) (o+1) l
theorem BT:∀(l:List Value) (o:Nat) (arr:Array Value),(Aj arr o l).size=arr.size
 |[],_,_=>rfl
 |c::l,o,arr=>by simp[Aj,BT l]
theorem Iu(off:Nat):∀(l:List Value) (k:Nat) (arr:Array Value),(l.zipIdx k).foldl (fun cs (q:Value×Nat)=>cs.setIfInBounds (off+q.2) q.1) arr=Aj arr (off+k) l
 |[],_,_=>rfl
 |c::l,k,arr=>by
  simp only[List.zipIdx_cons,List.foldl_cons,Aj];rw[Iu off l (k+1)];rfl
theorem De{E:Env}{w:World}{vw:List Bx}:∀{xs:List AV} {vs:List Value} {cs Eu:List AV} {arr:Array Value} {o:Nat},GD E w vw cs arr.toList→GD E w vw xs vs→Dd cs o xs=some Eu→
  GD E w vw Eu (Aj arr o vs).toList∧o+xs.length≤cs.length∨(xs=[]∧Eu=cs)
 |[],[],cs,Eu,arr,o,h,_,e=>by simp only[Dd,UG]at e;exact .inr ⟨rfl,e.symm⟩
 |x::xs,v::vs,cs,Eu,arr,o,h,hx,e=>by
  simp only[Dd]at e;split at e
  case isFalse=>cases e
  rename_i ho;have h1:GD E w vw (cs.set o x) (arr.setIfInBounds o v).toList:=by
   rw[Array.toList_setIfInBounds];exact AF.set h hx.1
  rcases De h1 hx.2 e with⟨h2,h3⟩|⟨rfl,rfl⟩
  ·refine .inl ⟨h2,?_⟩
   simp at h3⊢;omega
  ·cases vs with
   |nil=>exact .inl ⟨h1,by simp;omega⟩
   |cons _ _=>exact hx.2.elim
 |[],_::_,_,_,_,_,_,hx,_=>hx.elim
 |_::_,[],_,_,_,_,_,hx,_=>hx.elim
section
variable{Y:Type} {P:Program} {T:BQ} (hT:Ag P T) {o:Oper} {E:Env} {σ:St} {a:Act} {w:World} {k:K Y} {y:Y}
def Ln(E:Env)(w:World)(vw:List Bx)(l:List (Nat×XV))(m:List (Nat×Value)):Prop:=AF (fun x v=>x.1=v.1∧XR E w vw x.2 v.2) l m
theorem H7(h:Rel E σ a w)(ps:Array (Nat×Operand)):Ln E w σ.bx (ps.toList.map fun q=>(q.1,σ.ev q.2)) (ps.map fun(i,x)=>(i,a.eval x)).toList:=by
 rw[Array.toList_map]
 generalize ps.toList=l
 induction l with
 |nil=>trivial
 |cons q l ih=>exact⟨⟨rfl,h.ev q.2⟩,ih⟩
theorem Jn{place:Nat→Option T8}{i off size:Nat}(hp:place i=some (off,size)){cells:Array Value}{v:Value}{rest:List (Nat×Value)}(h1:v.cells.size=size)(h2:off+v.cells.size≤cells.size):
  Instr.fill place cells ((i,v)::rest)=Instr.fill place (Aj cells off v.cells.toList) rest:=by
 have e:v.cells.zipIdx.foldl (fun cs (q:Value×Nat)=>cs.setIfInBounds (off+q.2) q.1) cells=Aj cells off v.cells.toList:=by
  rw[←Array.foldl_toList];have:(v.cells.zipIdx).toList=v.cells.toList.zipIdx:=by simp
  rw[this];exact Iu off v.cells.toList 0 cells
 conv=>lhs;unfold Instr.fill
 simp only[hp];rw[U1 (by simp;omega)];exact congrArg (fun c=>Instr.fill place c rest) e
theorem IW{α β:Type}{f:α→Option β}{g:α→β}:∀{l:List α},(∀x∈l,f x=some (g x))→l.mapM f=some (l.map g)
 |[],_=>rfl
 |x::l,h=>by
  simp only[Ve,h x (by simp),IW (l:=l) (g:=g) (fun y hy=>h y (by simp[hy]))];rfl
include hT
theorem EY{fs:List T8}{vw:List Bx}:∀{parts:List (Nat×XV)} {vals:List (Nat×Value)} {cs Eu:List AV} {arr:Array Value},Ln E w vw parts vals→GD E w vw cs arr.toList→GA T fs cs parts=some Eu→
  ∃Bn:Array Value,Instr.fill (fun i=>(fs[i]?).bind fun q=>((P.info? q.2).map fun i=>(q.1,i.size))) arr vals=some Bn∧GD E w vw Eu Bn.toList
 |[],[],cs,Eu,arr,_,h,e=>by
  simp only[GA,UG]at e;subst e;exact⟨arr,rfl,h⟩
 |(i,x)::ps,(j,v)::vs,cs,Eu,arr,hp,h,e=>by
  obtain⟨⟨OW,hx⟩,hp⟩:=hp;simp only at OW hx;subst OW;simp only[GA]at e;split at e
  case h_2=>cases e
  rename_i off u hf;split at e
  case h_2=>cases e
  rename_i ti Ce;split at e
  case isFalse=>cases e
  rename_i hc;obtain⟨c1,c2,c3⟩:=hc;simp only[UJ]at e;obtain⟨cs1,e1,e2⟩:=e;have Ht:x.cells≠[]:=by intro h0;rw[h0]at c1;simp at c1;omega
  obtain⟨x1,x2⟩:=Ie hx c3 Ht;rcases De h x1 e1 with⟨s1,s2⟩|⟨s1,_⟩
  ·have CB:v.cells.size=ti.size:=by
    have:=x1.len;rw[←c1,this];simp
   have hlen:=h.len;obtain⟨Bn,f1,f2⟩:=EY hp s1 e2;refine⟨Bn,?_,f2⟩;have PF:(fun i=>(fs[i]?).bind fun q=>((P.info? q.2).map fun i=>(q.1,i.size))) i=some (off,ti.size):=by
    have:=Ag.size hT Ce;cases hq:P.info? u with
    |none=>simp[hq]at this
    |some iu=>simp[hq]at this;simp[hf,hq,this]
   rw[Jn (i:=i) (off:=off) (size:=ti.size) PF CB (by simp at hlen;omega)];exact f1
  ·exact absurd s1 Ht
 |[],_::_,_,_,_,hp,_,_=>hp.elim
 |_::_,[],_,_,_,hp,_,_=>hp.elim
theorem LA(h:Rel E σ a w){t:TypeId}{ps:Array (Nat×Operand)}(ho:o.op= .build t ps){s b:Nat}{fs:List T8}{rw:Option Ty}(Ce:T.get t=some ⟨s,b,.st fs,rw⟩){r:Ty}(hr:T.GR t=some r)
  {cs:List AV} (hb:GA T fs (Ek r) (ps.toList.map fun q=>(q.1,σ.ev q.2))=some cs) (e:k (.agg cs) σ=some y):BV P o E σ a w k y:=by
 obtain⟨i,z,h1,h2,h3,_⟩:=row_zero hT hr;obtain⟨fields,hu,hfs,CB⟩:=OE hT Ce;obtain⟨Bn,f1,f2⟩:=EY hT (H7 h ps) (arr:=z.cells) (by rw[h3];exact Dw r) hb;refine BV.same h (v:= .agg Bn) (x:= .agg cs) ?_ ⟨Bn,rfl,f2⟩ e
 have hb:P.built t (ps.map fun(i,x)=>(i,a.eval x)).toList=some Bn:=by
  unfold Program.built;simp only[h1,hu,h2];have hm:fields.toList.mapM (fun f=>(P.info? f.type).map fun i=>(f.offset,i.size))=some (fields.toList.map fun f=>(f.offset,((P.info? f.type).map (·.size)).getD 0)):=by
   refine IW fun f hf=> ?_
   obtain⟨i',MA,_⟩:=CB f hf;simp[MA]
  simp only[hm];rw[←f1];congr 1;funext n;subst hfs;simp only[List.getElem?_toArray,Ue];cases hn:fields.toList[n]? with
  |none=>simp
  |some f=>
   obtain⟨i',MA,_⟩:=CB f (UO hn);simp[MA]
 have:=run_build (P:=P) w t (ps.map fun(i,x)=>(i,a.eval x)) Bn hb;simp only[execOp,ho,Sem.run_bind,this,Result.andThen_ok,Sem.run_pure]
end
end Go.Fw
end
section
namespace Go.Fw
theorem wrap_small{n:Int}(h0:0≤n)(h1:n≤(Dp:Int)):IntKind.i64.wrap n=n:=by
 simp only[Dp]at h1;unfold IntKind.wrap;simp only[IntKind.bits,IntKind.signed];have e:n%(2^64:Int)=n:=Int.emod_eq_of_lt h0 (by omega);simp only[e];rw[U1 (by simp;omega)]
theorem Af{m:Nat}{zl:List Value}:((List.replicate m zl).flatten).length=m*zl.length:=by
 induction m with
 |zero=>simp
 |succ m ih=>simp only[VE,Uk,Ub,ih,VS];omega
theorem Bm{zl:List Value}:∀{m i:Nat},i<m*zl.length→((List.replicate m zl).flatten)[i]? =zl[i%zl.length]?
 |0,i,h=>by simp at h
 |m+1,i,h=>by
  simp only[VE,Uk];by_cases hi:i<zl.length
  ·rw[UK hi,Nat.mod_eq_of_lt hi]
  ·have MA:zl.length≤i:=by omega
   rw[UR MA,Bm (by rw[VS]at h;omega),←Nat.mod_eq_sub_mod MA]
theorem En{zero:Array Value}{zl:List Value}(hz:zero.toList=zl)(m:Nat)(h0:zl≠[]):((Array.range (m*zl.length)).map (fun i=>zero[i%zero.size]!)).toList=(List.replicate m zl).flatten:=by
 have hs:zero.size=zl.length:=by rw[←hz];simp
 have Ri:0<zl.length:=List.length_pos_iff.2 h0;apply U8;intro i;by_cases hi:i<m*zl.length
 ·rw[Bm hi]
  have QB:i%zl.length<zl.length:=Nat.mod_lt _ Ri;simp only[Array.toList_map,Array.toList_range,Ue,List.getElem?_range hi,Option.map_some,hs];rw[UH QB];congr 1;subst hz;have TQ:i%zero.size<zero.size:=by rw[hs];exact QB
  simp[TQ,←hs]
 ·have h1:((Array.range (m*zl.length)).map (fun i=>zero[i%zero.size]!)).toList.length≤i:=by simp;omega
  rw[VT h1,VT (by rw[Af];omega)]
section
variable{Y:Type} {P:Program} {T:BQ} (hT:Ag P T) {o:Oper} {E:Env} {σ:St} {a:Act} {w:World} {k:K Y} {y:Y}
include hT
theorem FZ{e:Nat}{ti:TI}{r:Ty}(he:T.get e=some ti)(hr:ti.row=some r):∃i z,P.info? e=some i∧i.size=ti.size∧i.bytes=ti.bytes∧i.zero=some z∧z.cells.toList=Ao r∧r.Jz=true:=by
 obtain⟨i,h1,h2,h3,h4⟩:=(hT e ti he).info;obtain⟨hg,z,h5,h6⟩:=h4 r hr;exact⟨i,z,h1,h2,h3,h5,h6,hg⟩
theorem MM(h:Rel E σ a w){t:TypeId}{l c:Operand}(ho:o.op= .makeSlice t l c)(e:Jb T t σ (σ.ev l) (σ.ev c) k=some y):BV P o E σ a w k y:=by
 unfold Jb at e;split at e
 case h_2=>cases e
 rename_i el n m hd hl hc;split at e
 case h_2=>cases e
 rename_i r hr;split at e
 case isFalse=>cases e
 rename_i Gj;split at e
 case isFalse=>cases e
 rename_i hb;obtain⟨b0,b1,b2⟩:=hb;obtain⟨el',ti,hu,Ce,hs,Qa,hrow⟩:=B5 hT Gj;obtain⟨i,z,i1,i2,i3,i4,i5,hg⟩:=FZ hT Ce hrow;obtain⟨κ1,e1⟩:=A9 hl (h.ev l);obtain⟨κ2,e2⟩:=A9 hc (h.ev c);have w1:=wrap_small b0 (by omega);have w2:=wrap_small (n:=m) (by omega) b2
 let arr:Array Value:=(Array.range (m.toNat*r.n)).map (fun j=>(if m.toNat*r.n=0 then #[]else z.cells)[j%(if m.toNat*r.n=0 then(#[]:Array Value)else z.cells).size]!)
 have F_:arr.toList=(List.replicate n.toNat (Ao r)).flatten++(List.replicate (m.toNat-n.toNat) (Ao r)).flatten:=by
  have hz:=BR r;have split:(List.replicate n.toNat (Ao r)).flatten++(List.replicate (m.toNat-n.toNat) (Ao r)).flatten=(List.replicate m.toNat (Ao r)).flatten:=by
   rw[←Uv,List.replicate_append_replicate];congr 2;omega
  rw[split];by_cases h0:m.toNat*r.n=0
  ·have:arr.toList=[]:=by simp[arr,h0]
   rw[this]
   symm
   rw[←List.length_eq_zero_iff,Af,hz,h0]
  ·have Ht:Ao r≠[]:=by
    intro he;rw[he]at hz;simp at hz;rw[←hz]at h0;simp at h0
   have:=En i5 m.toNat Ht;rw[hz]at this;simp only[arr,U1 h0];exact this
 let w':=w.alloc (.cells arr el')
 have new:w'.heap[w.heap.size]? =some (.cells arr el'):=by
  show(w.heap.push (.cells arr el'))[w.heap.size]? =_
  simp
 have ON:arr.size=m.toNat*r.n:=by simp[arr]
 have how:Ow w' E.S (8+1) (.sl r) [.slice (some ⟨w.heap.size,0,none⟩) (List.replicate n.toNat r.z).length m.toNat] (List.replicate n.toNat r.z) (w.heap.size::(List.replicate n.toNat ([]:T7)).flatten):=by
  refine GW new F_ (by simp) (by simp;omega) (by omega) (G7 _) (by simp) fun i cs y G h1 h2 h3=> ?_
  simp only[List.getElem?_replicate]at h1 h2 h3;split at h1
  ·rename_i hi
   rw[Uy hi]at h2 h3;cases h1;cases h2;cases h3;exact GX hg
  ·cases h1
 have hF:(List.replicate n.toNat ([]:T7)).flatten=[]:=by simp
 rw[hF]at how;simp only[List.length_replicate]at how;obtain⟨r1,r2,r3⟩:=Cv h (Au.refl h.bx) (w':=w') (d:=9) (by omega) how (by simp) (by simp) (by simp[w']) (fun c hc _=>CE hc) ⟨rfl,rfl,rfl,by simp[w']⟩;refine⟨_,_,_,_,_,.inl ?_,r1,r3,r2.any,rfl,e⟩;have Rs:(i.bytes:Int)*m≤2^48:=by
  have h1:(i.bytes:Int)≤512:=by omega
  have h2:(i.bytes:Int)*m≤512*m:=Int.mul_le_mul_of_nonneg_right h1 (by omega);simp only[Dp]at b2;omega
 simp only[execOp,ho,Instr.makeSlice,e1,e2,Sem.run_bind,AD hu,Result.andThen_ok,asInt,asIntOf,Sem.run_pure,typeInfo,run_program,i1,w1,w2];rw[U1 (by simp;omega)];by_cases h0:m.toNat*r.n=0
 ·have e3:arr=(Array.range (m.toNat*r.n)).map (fun j=>(#[]:Array Value)[j%(#[]:Array Value).size]!):=by simp only[arr,Uy h0]
  simp only[Sem.run_bind,run_askRoom,Result.andThen_ok,sizeOf,typeInfo,run_program,i1,Sem.run_pure,i2,hs,h0,VN,newRow,run_newObj];simp only[w',e3,h0];rfl
 ·have e3:arr=(Array.range (m.toNat*r.n)).map (fun j=>z.cells[j%z.cells.size]!):=by simp only[arr,U1 h0]
  simp only[Sem.run_bind,run_askRoom,Result.andThen_ok,sizeOf,typeInfo,run_program,i1,Sem.run_pure,i2,hs,h0,VI,newRow,run_newObj,zeroValue,i4];simp only[w',e3];rfl
end
end Go.Fw
end
section
namespace Go.Fw
theorem GH{w:World}{B S:Nat→Prop}{d:Nat}:∀{r:Ty} {cs:List Value} {x:r.D},r.flat=true→Rd w B r cs x→Ow w S d r cs x []
 | .cons c r,cs,x,h,hr=>by
  simp only[Ty.flat,UT]at h;simp only[Rd]at hr;obtain⟨v,l,rfl,h1,h2⟩:=hr;simp only[Ow];exact⟨v,l,[],[],rfl,rfl,GH h.1 h1,GH h.2 h2⟩
 | .unit,_,_,_,hr=>by simp only[Rd]at hr;simp[Ow,hr]
 | .int k,_,_,_,hr=>by simp only[Rd]at hr;simp[Ow,hr]
 | .bool,_,_,_,hr=>by simp only[Rd]at hr;simp[Ow,hr]
 | .str,_,_,_,hr=>by simp only[Rd]at hr;simp[Ow,hr]
 | .sl q,_,_,h,_=>by simp[Ty.flat]at h
theorem G1{P:Program}{w:World}{b o:Nat}{cs:List Value}(h:AG w b o cs):(loadCells ⟨b,o,none⟩ cs.length).run P w= .ok cs.toArray w:=
 run_loadCells_list (P:=P) w ⟨b,o,none⟩ cs fun j v hv=>by rw[Addr.add_eq];exact h j v hv
theorem DT{P:Program}{w:World}(a:Addr):(loadCells a 0).run P w= .ok #[] w:=by
 simpa using run_loadCells_list (P:=P) w a [] (by simp)
theorem DX{l:List Value}:(l.map fun v=>[v]).flatten=l:=by
 induction l with
 |nil=>rfl
 |cons a l ih=>simp[ih]
theorem Kz{w:World}{B:Nat→Prop}{r:Ty}{b o:Nat}{ys:List r.D}(h:∀(i:Nat) (y:r.D),ys[i]? =some y→ ∃cs,cs.length=r.n∧AG w b (o+i*r.n) cs∧Rd w B r cs y):
  ∃css:List (List Value),css.length=ys.length∧(∀c∈css,c.length=r.n)∧AG w b o css.flatten∧ ∀(i:Nat) cs y,css[i]? =some cs→ys[i]? =some y→Rd w B r cs y:=by
 induction ys generalizing o with
 |nil=>exact⟨[],rfl,by simp,fun _ _ h=>by simp at h,fun i cs y h=>by simp at h⟩
 |cons y ys ih=>
  obtain⟨cs,c1,c2,c3⟩:=h 0 y rfl;obtain⟨css,d1,d2,d3,d4⟩:=ih (o:=o+r.n) (fun i z hz=>by
   obtain⟨cs,e1,e2,e3⟩:=h (i+1) z (by simpa using hz);refine⟨cs,e1,?_,e3⟩;rw[Ux,VO]at e2
   rwa [show o+r.n+i*r.n=o+(i*r.n+r.n)by omega])
  refine⟨cs::css,by simp[d1],by simpa using⟨c1,d2⟩,?_,?_⟩
  ·intro j v hj
   simp only[Uk]at hj;by_cases Mo:j<cs.length
   ·rw[UK Mo]at hj
    have:=c2 j v hj;simpa using this
   ·rw[UR (by omega)]at hj
    have:=d3 _ v hj
    rwa [show o+r.n+(j-cs.length)=o+j by omega]at this
  ·intro i Eu z h1 h2
   cases i with
   |zero=>simp at h1 h2;subst h1 h2;exact c3
   |succ i=>exact d4 i Eu z (by simpa using h1) (by simpa using h2)
theorem AG.append{w:World}{b o:Nat}{l m:List Value}(h:AG w b o l)(k:AG w b (o+l.length) m):AG w b o (l++m):=by
 intro j v hj;by_cases Mo:j<l.length
 ·rw[UK Mo]at hj
  exact h j v hj
 ·rw[UR (by omega)]at hj
  have:=k _ v hj
  rwa [show o+l.length+(j-l.length)=o+j by omega]at this
section
variable{Y:Type} {P:Program} {T:BQ} (hT:Ag P T) {o:Oper} {E:Env} {σ:St} {a:Act} {w:World} {k:K Y} {y:Y}
theorem BA(hT:Ag P T){t:Nat}{d:TD}(e:(T.get t).map TI.desc=some d):Fy P t d:=by
 simp only[UI]at e;obtain⟨ti,h1,rfl⟩:=e;exact(hT t ti h1).M4
theorem I3{src dst e:Nat}(hs:P.underlying src=some (.slice e))(he:P.underlying e=some (.int .u8))(hd:P.underlying dst=some .string){x:Value}{l:List Int}{B:Nat→Prop}
  (h:Rd w B (.sl (.int .u8)) [x] l):(convert src dst x).run P w= .ok (.string ⟨(l.map fun n:Int=>UInt8.ofNat n.toNat).toArray⟩) w:=by
 simp only[Rd]at h;obtain⟨a,cap,hx,hle,h⟩:=h;simp only[Ua,Us]at hx;subst hx;rcases h with h|⟨b,o,rfl,_,h⟩
 ·obtain rfl:=UW h
  cases a with
  |none=>exact run_convert_bytes_nil w src e hs he _ _ dst hd
  |some a=>
   rw[run_convert_bytes_string w src dst e _ _ cap hs he hd];have:=_root_.Go.run_bytesToString (P:=P) w a 0 cap [] (by simpa using DT (P:=P) (w:=w) a);simp only[Um]at*;rw[this];rfl
 ·refine run_convert_bytes_arg w src e hs he b o _ cap l rfl (fun i hi=> ?_) dst hd
  obtain⟨cs,c1,c2,c3⟩:=h i _ (UH hi);subst c3;have:=c2 0 _ rfl;simp only[Ty.n,Nat.mul_one,VB]at this;rw[this];simp[List.getD,hi]
include hT in
theorem MY(h:Rel E σ a w){src dst:Nat}{x:Operand}(ho:o.op= .convert src dst x)(e:Jm T src dst σ (σ.ev x) k=some y):BV P o E σ a w k y:=by
 have hx:=h.ev x;unfold Jm at e;split at e
 ·rename_i κ0 κ j n hs hd hv
  have h1:=BA hT hs;have h2:=BA hT hd;rw[hv]at hx;have Ep:=El (E:=E) (w:=w) (vw:=σ.bx) hx;refine BV.same h (v:= .int κ (κ.wrap n)) (x:= .c (.v (.int κ) (κ.wrap n))) ?_ (VR.int (E:=E) (vw:=σ.bx) _ _) e
  simp only[Fy]at h1 h2;simp only[execOp,ho,Ep,convert,Sem.run_bind,AD h1,AD h2,Result.andThen_ok,Conv.intToInt,Sem.run_pure]
 ·rename_i s hs hd hv
  have h1:=BA hT hs;have h2:=BA hT hd;rw[hv]at hx;have Ep:=Dj (E:=E) (w:=w) (vw:=σ.bx) hx;refine BV.same h (v:= .string ⟨s.toArray⟩) (x:= .c (.v .str s)) ?_ (VR.str (E:=E) (vw:=σ.bx) _) e
  simp only[Fy]at h1 h2;simp only[execOp,ho,Ep,convert,Sem.run_bind,AD h1,AD h2,Result.andThen_ok,Sem.run_pure]
 ·rename_i el s hs hd hv
  have h1:=BA hT hs;have h2:=BA hT hd;rw[hv]at hx;have Ep:=Dj (E:=E) (w:=w) (vw:=σ.bx) hx;split at e
  case h_2=>cases e
  rename_i Gj;have h3:=BA hT Gj;split at e
  case isFalse=>cases e
  rename_i JC;simp only[Fy]at h1 h2 h3
  let S0:ByteArray:=⟨s.toArray⟩
  have CB:S0.size=s.length:=by simp[S0,ByteArray.size]
  have JA:=Lib.run_convert_string_bytes (P:=P) w src dst el S0 h1 h2 h3;have M1:s.length≤grownCap w S0.size 0 el:=by rw[CB];exact grownCap_ge _ _ _ _
  have new:=Lib.bytesWorld_at_new w el S0;have F_:(Lib.bytesCells w el S0).toList=(s.map fun c=>[Value.int .u8 (c.toNat:Int)]).flatten++List.replicate (grownCap w S0.size 0 el-S0.size) (.int .u8 0):=by
   have:(s.map fun c=>[Value.int .u8 (c.toNat:Int)]).flatten=s.map fun c=>Value.int .u8 (c.toNat:Int):=by
    have:=DX (l:=s.map fun c=>Value.int .u8 (c.toNat:Int));simpa[Vb,Function.comp_def]using this
   rw[this];simp[Lib.bytesCells,S0]
  have ON:(Lib.bytesCells w el S0).size=grownCap w S0.size 0 el:=by
   rw[←VF,F_];have:((s.map fun c=>[Value.int .u8 (c.toNat:Int)]).flatten).length=s.length:=by
    have:=DX (l:=s.map fun c=>Value.int .u8 (c.toNat:Int));rw[Vb]at this;have e2:(s.map fun c=>[Value.int .u8 (c.toNat:Int)])=s.map ((fun v=>[v])∘fun c=>Value.int .u8 (c.toNat:Int)):=rfl;rw[e2,this];simp
   rw[Ub,this,List.length_replicate];omega
  have how:Ow (Lib.bytesWorld w el S0) E.S (8+1) (.sl (.int .u8)) [.slice (some ⟨w.heap.size,0,none⟩) (s.map fun c=>(c.toNat:Int)).length (grownCap w S0.size 0 el)] (s.map fun c=>(c.toNat:Int))
    (w.heap.size::(List.replicate s.length ([]:T7)).flatten):=by
   refine GW (css:=s.map fun c=>[Value.int .u8 (c.toNat:Int)]) new F_ (by simp) (by simpa using M1) (by simp[Ty.n];omega) (fun i hi hh=>by simp only[mk]at hi;omega) (by simp) fun i cs y G q1 q2 q3=> ?_
   simp only[Ue,UI]at q1 q2;obtain⟨c1,z1,rfl⟩:=q1;obtain⟨c2,z2,rfl⟩:=q2;rw[z1]at z2;cases z2;have:G=[]:=Uu (UO q3);subst this;simp[Ow]
  have hF:(List.replicate s.length ([]:T7)).flatten=[]:=by simp
  rw[hF]at how;obtain⟨r1,r2,r3⟩:=Cv h (Au.refl h.bx) (w':=Lib.bytesWorld w el S0) (d:=9) (by omega) how (by simp) (by simp) (by simp[Lib.bytesWorld_size]) (fun c hc _=>Lib.bytesWorld_at_old w el S0 c hc)
   ⟨by simp[Lib.bytesWorld,World.freeze]<;>rfl,by simp[Lib.bytesWorld,World.freeze]<;>rfl,by simp[Lib.bytesWorld,World.freeze]<;>rfl,by rw[Lib.bytesWorld_size];omega⟩
  refine⟨_,_,_,_,_,.inl ?_,r1,r3,r2.any,rfl,e⟩;simp only[execOp,ho,Ep,Sem.run_bind];have e5:=JA;simp only[S0]at e5;rw[e5];simp only[Result.andThen_ok,Sem.run_pure,List.length_map];rfl
 ·rename_i el z hs hd hv
  have h1:=BA hT hs;have h2:=BA hT hd;rw[hv]at hx;split at e
  case h_2=>cases e
  rename_i l Gj hl;have h3:=BA hT Gj;simp only[Fy]at h1 h2 h3;obtain⟨Fs,hB,hS⟩:=h.bx;have Eb:=C2 (Ac.refl σ.bx) hB hS.st hx hl;have hr:=I3 (P:=P) h1 h3 h2 Eb;refine BV.same h (v:= .string ⟨(l.map fun n:Int=>UInt8.ofNat n.toNat).toArray⟩) (x:= .c (.v .str (l.map fun n:Int=>UInt8.ofNat n.toNat))) ?_ (VR.str (E:=E) (vw:=σ.bx) _) e
  simp only[execOp,ho,Sem.run_bind,hr,Result.andThen_ok,Sem.run_pure]
 ·cases e
end
end Go.Fw
end
section
namespace Go.Fw
theorem Et:∀(l:List Value) (o:Nat) (arr:Array Value) (p q:List Value),p.length=o→(∃m:List Value,m.length=l.length∧arr.toList=p++m++q)→(Aj arr o l).toList=p++l++q
 |[],o,arr,p,q,hp,⟨m,hm,h⟩=>by
  have:m=[]:=UW (by simpa using hm);subst this;simpa[Aj]using h
 |c::l,o,arr,p,q,hp,⟨m,hm,h⟩=>by
  cases m with
  |nil=>simp at hm
  |cons b m=>
   simp only[Aj];have:=Et l (o+1) (arr.setIfInBounds o c) (p++[c]) q (by simp[hp]) ⟨m,by simpa using hm,by
    rw[Array.toList_setIfInBounds,h];subst hp;simp⟩
   rw[this];simp
theorem Au.more{E E1 E2:Env}{w:World}{vw bx Gc EC:List Bx}{G F1 F2 A W:T7}(k1:Au E w vw bx G E1 Gc F1)(k2:Au E1 w vw Gc (F1++G) E2 EC F2)(hp:F1.Perm (A++W)):
  let E3:Env:={ E2 with S:=fun c=>E2.S c∨c∈W,T:=fun c=>E2.T c∨c∈W }
  Au E w vw bx G E3 EC (A++F2):=by
 intro E3;have hB:=k2.boxes.perm (G':=(F2++A)++W++G) (by
  rw[UM F2 A W,UM F2];exact UX _ (US _ hp))
 obtain⟨hle,DQ⟩:=hB.share;exact⟨(k1.le.trans k2.le).trans hle,k2.len.trans k1.len,fun b B hb=>(k2.within b B hb).elim .inl (k1.within b B),DQ.perm (US _ UY)⟩
theorem D4{w:World}{vw:List Bx}{r:Ty}(hg:r.Jz=true):∀{n i:Nat} {parts:List (Nat×XV)} {vals:List (Nat×Value)} {E:Env} {bx:List Bx} {G:T7} {d:Nat} {rows:List r.D} {CO:List Bx} {d':Nat},
  AK E w vw bx G→Ac bx vw→1≤d→Ln E w vw parts vals→Dv r i n parts bx d=some (rows,CO,d')→1≤d'∧d'≤d∧rows.length=n∧ ∃(E':Env) (Fs:List T7) (css:List (List Value)),
   Au E w vw bx G E' CO Fs.flatten∧css.length=n∧Fs.length=n∧(∀(k:Nat) cs y G,css[k]? =some cs→rows[k]? =some y→Fs[k]? =some G→Ow w E'.S (d'-1) r cs y G)∧
   ∀(pre:List (List Value)) (arr:Array Value),pre.length=i→(∀c∈pre,c.length=r.n)→arr.toList=pre.flatten++(List.replicate n (Ao r)).flatten→
    ∃Bn,Instr.fill (fun i=>some (i*r.n,r.n)) arr vals=some Bn∧Bn.toList=pre.flatten++css.flatten
 |0,i,[],[],E,bx,G,d,rows,CO,d',h,hw,hd,hp,e=>by
  simp only[Dv,UG,Ug]at e;obtain⟨rfl,rfl,rfl⟩:=e;refine⟨hd,Ui _,rfl,E,[],[],Au.refl h,rfl,rfl,by simp,fun pre arr _ _ ha=>⟨arr,rfl,by simpa using ha⟩⟩
 |n+1,i,(j,x)::l,(j',v)::m,E,bx,G,d,rows,CO,d',h,hw,hd,hp,e=>by
  obtain⟨⟨hj,hx⟩,hp⟩:=hp;simp only at hj hx;subst hj;simp only[Dv]at e;split at e
  case isFalse=>cases e
  rename_i OW;subst OW;simp only[UJ,UI,Ug]at e;obtain⟨⟨y1,Gc,d1⟩,e1,⟨y2,EC,d2⟩,e2,rfl,rfl,rfl⟩:=e;dsimp only at e2⊢;obtain⟨a1,a2,E1,F1,k1,o1⟩:=KU h hw hd hx e1;have Ki:=k1.le.keep (w:=w) (vw:=vw) h.st;obtain⟨b1,b2,b3,E2,Fs,css,k2,c1,c2,c3,c4⟩:=D4 hg (G:=F1++G) k1.boxes (hw.H8 k1) a1 (hp.imp fun _ _ q=>⟨q.1,B_ Ki q.2⟩) e2;obtain⟨A,W,HT,o1'⟩:=BO (d:=d'-1) (by omega) o1;refine⟨b1,VA b2 a2,by simp[b3],_,A::Fs,v.cells.toList::css,Au.more k1 k2 HT,by simp[c1],by simp[c2],fun k cs y G' q1 q2 q3=> ?_,fun pre arr QR QZ ha=> ?_⟩
  ·cases k with
   |zero=>
    simp at q1 q2 q3;subst q1 q2 q3;refine AY (S:=fun b=>E1.S b∨b∈W) ?_ (fun _ _=>rfl) (fun _ _=>rfl) o1'
    intro c hc;exact hc.elim (fun h=> .inl (k2.le.S c h)) .inr
   |succ k=>
    refine AY (S:=E2.S) ?_ (fun _ _=>rfl) (fun _ _=>rfl) (c3 k cs y G' (by simpa using q1) (by simpa using q2) (by simpa using q3))
    intro c hc;exact .inl hc
  ·have hlen:v.cells.toList.length=r.n:=DS o1
   have QX:pre.flatten.length=i*r.n:=by
    clear ha c4
    subst QR;clear e1 e2
    induction pre with
    |nil=>simp
    |cons c pre ih=>simp[QZ c (by simp),ih (fun c hc=>QZ c (by simp[hc])),VS];omega
   have E4:(Aj arr (i*r.n) v.cells.toList).toList=pre.flatten++v.cells.toList++(List.replicate n (Ao r)).flatten:=
    Et _ _ _ _ _ QX ⟨Ao r,by rw[BR,hlen],by rw[ha];simp[VE]⟩
   obtain⟨Bn,f1,f2⟩:=c4 (pre++[v.cells.toList]) (Aj arr (i*r.n) v.cells.toList) (by simp[QR]) (by
    intro c hc;rcases UU.1 hc with hc|hc
    ·exact QZ c hc
    ·simp at hc;subst hc;exact hlen) (by rw[E4];simp)
   refine⟨Bn,?_,by rw[f2];simp⟩;rw[Jn (i:=i) (off:=i*r.n) (size:=r.n) rfl (by simpa using hlen) ?_]
   ·exact f1
   ·have h1:arr.size=arr.toList.length:=by simp
    rw[h1,ha,Ub,QX,Af,BR];simp at hlen;rw[hlen,VS];omega
 |n+1,i,[],[],E,bx,G,d,rows,CO,d',h,hw,hd,hp,e=>by
  simp only[Dv,UI,Ug]at e;obtain⟨⟨y2,EC,d2⟩,e2,rfl,rfl,rfl⟩:=e;obtain⟨b1,b2,b3,E2,Fs,css,k2,c1,c2,c3,c4⟩:=D4 hg (G:=G) h hw hd (parts:=[]) (vals:=[]) trivial e2;refine⟨b1,b2,by simp[b3],E2,[]::Fs,Ao r::css,by simpa using k2,by simp[c1],by simp[c2],fun k cs y G' q1 q2 q3=> ?_,fun pre arr QR QZ ha=> ?_⟩
  ·cases k with
   |zero=>
    simp at q1 q2 q3;subst q1 q2 q3;exact GX hg
   |succ k=>exact c3 k cs y G' (by simpa using q1) (by simpa using q2) (by simpa using q3)
  ·obtain⟨Bn,f1,f2⟩:=c4 (pre++[Ao r]) arr (by simp[QR]) (by
    intro c hc;rcases UU.1 hc with hc|hc
    ·exact QZ c hc
    ·simp at hc;subst hc;exact BR r) (by rw[ha];simp[VE])
   exact⟨Bn,f1,by rw[f2];simp⟩
 |0,_,_::_,_,_,_,_,_,_,_,_,_,_,_,_,e=>by simp[Dv]at e
 |0,_,[],_::_,_,_,_,_,_,_,_,_,_,_,hp,_=>hp.elim
 |_+1,_,[],_::_,_,_,_,_,_,_,_,_,_,_,hp,_=>hp.elim
 |_+1,_,_::_,[],_,_,_,_,_,_,_,_,_,_,hp,_=>hp.elim
section
variable{Y:Type} {P:Program} {T:BQ} (hT:Ag P T) {o:Oper} {E:Env} {σ:St} {a:Act} {w:World} {k:K Y} {y:Y}
include hT
theorem Hc(h:Rel E σ a w){t n:Nat}{ps:Array (Nat×Operand)}(ho:o.op= .buildSlice t n ps)(e:CQ T t n (ps.toList.map fun q=>(q.1,σ.ev q.2)) σ k=some y):BV P o E σ a w k y:=by
 unfold CQ at e;split at e
 case h_2=>cases e
 rename_i el hd;split at e
 case h_2=>cases e
 rename_i r hr;split at e
 case isFalse=>cases e
 rename_i hc;simp only[UT,Uj]at hc;obtain⟨⟨Gj,hn⟩,hrn⟩:=hc;simp only[UJ]at e;obtain⟨⟨rows,CO,d'⟩,e1,e⟩:=e;dsimp only at e;obtain⟨el',ti,hu,Ce,hs,Qa,hrow⟩:=B5 hT Gj;obtain⟨i,z,i1,i2,i3,i4,i5,hg⟩:=FZ hT Ce hrow;have O7:=H7 h ps;obtain⟨b1,b2,b3,E',Fs,css,k2,c1,c2,c3,c4⟩:=D4 hg h.bx (Ac.refl _) (by omega) O7 e1
 let zero:Array Value:=if n*r.n=0 then #[]else z.cells
 have hz:((Array.range (n*r.n)).map (fun j=>zero[j%zero.size]!)).toList=(List.replicate n (Ao r)).flatten:=by
  by_cases h0:n*r.n=0
  ·have h1:(List.replicate n (Ao r)).flatten=[]:=by
    rw[←List.length_eq_zero_iff,Af,BR,h0]
   rw[h1];simp[h0]
  ·have Ht:Ao r≠[]:=by
    intro he;have:=BR r;rw[he]at this;simp at this;rw[←this]at h0;simp at h0
   have:=En i5 n Ht;rw[BR]at this;simp only[zero,U1 h0];exact this
 obtain⟨Bn,f1,f2⟩:=c4 [] _ rfl (by simp) (by rw[hz];simp);simp only[VL,VM]at f2
 let w':=w.alloc (.cells Bn el')
 have new:w'.heap[w.heap.size]? =some (.cells Bn el'):=by
  show(w.heap.push (.cells Bn el'))[w.heap.size]? =_
  simp
 obtain⟨d,rfl⟩:∃m,d' =m+1:=⟨d'-1,by omega⟩;have hl:∀c∈css,c.length=r.n:=by
  intro c hc;obtain⟨j,hj,rfl⟩:=Ur hc;exact DS (c3 j _ _ _ (UH hj) (UH (by omega)) (UH (by omega)))
 have Pe:css.flatten.length=n*r.n:=by
  rw[←c1];clear f2 c3 c4 c1
  induction css with
  |nil=>simp
  |cons c l ih=>simp[hl c (by simp),ih (fun c hc=>hl c (by simp[hc])),VS];omega
 have ON:Bn.size=n*r.n:=by rw[←VF,f2,Pe]
 obtain⟨Fs0,Qy,DQ⟩:=k2.boxes;simp only[Ud]at DQ;have how:Ow w' E'.S (d+1) (.sl r) [.slice (some ⟨w.heap.size,0,none⟩) rows.length n] rows (w.heap.size::Fs.flatten):=by
  refine GW (css:=css) (ex:=[]) new (by simpa using f2) (by omega) (by omega) (by omega) (G7 _) (by omega) fun k cs y G q1 q2 q3=> ?_
  have La:∀c∈G,c∈Fs.flatten:=fun c hc=>UZ.2 ⟨G,UO q3,hc⟩
  exact AY (fun _ h=>h) (fun c hc=>CE (DQ.FI c (DQ.st c hc))) (fun c hc=>CE (DQ.lt c (by simp only[UU];exact .inr (La c hc)))) (by simpa using c3 k cs y G q1 q2 q3)
 rw[b3]at how;obtain⟨r1,r2,r3⟩:=Cv h k2 (w':=w') (d:=d+1) (by omega) how (by
   intro c hc;rcases Uo.1 hc with rfl|hc
   ·exact .inr (Ui _)
   ·exact .inl hc) (by
   refine U9.2 ⟨fun hc=> ?_,(UN.1 DQ.nodup).2.1⟩;have:=DQ.lt w.heap.size (by simp only[UU];exact .inr hc);omega) (by
   intro c hc;rcases Uo.1 hc with rfl|hc
   ·simp[w']
   ·have:=DQ.lt c (by simp only[UU];exact .inr hc)
    simp[w'];omega) (fun c hc _=>CE hc) ⟨rfl,rfl,rfl,by simp[w']⟩
 refine⟨_,_,_,_,_,.inl ?_,r1,r3,r2.any,rfl,e⟩;have JC: ¬(n*r.n>2^24):=by
  have:n*r.n≤1024*1024:=Nat.mul_le_mul hn hrn;omega
 simp only[execOp,ho,Instr.buildSlice,Sem.run_bind,AD hu,Result.andThen_ok,sizeOf,typeInfo,run_program,i1,Sem.run_pure,i2,hs,JC,VI];by_cases h0:n*r.n=0
 ·have RP:zero= #[]:=by simp only[zero,Uy h0]
  rw[RP]at f1;simp only[h0,VN,Sem.run_bind,Sem.run_pure,Result.andThen_ok];rw[h0]at f1;simp only[f1,newRow,Sem.run_bind,run_newObj,Result.andThen_ok,Sem.run_pure];rfl
 ·have RP:zero=z.cells:=by simp only[zero,U1 h0]
  rw[RP]at f1;simp only[h0,VI,Sem.run_bind,zeroValue,typeInfo,run_program,Result.andThen_ok,i1,Sem.run_pure,i4];simp only[f1,newRow,Sem.run_bind,run_newObj,Result.andThen_ok,Sem.run_pure];rfl
end
end Go.Fw
end
section
namespace Go.Fw
theorem Ef(w:World)(b o:Nat)(v:Value):(w.setCell ⟨b,o,none⟩ v).heap=w.heap.modify b fun
 | .cells c elem frozen=> .cells (c.setIfInBounds o v) elem frozen
 |o=>o:=rfl
theorem BS:∀(vs:List Value) (o:Nat) (w:World) (b:Nat) (arr:Array Value) (ty:TypeId) (fr:T8),w.heap[b]? =some (.cells arr ty fr)→
  (w.setCells b o vs).heap[b]? =some (.cells (Aj arr o vs) ty fr)
 |[],_,_,_,_,_,_,h=>h
 |v::l,o,w,b,arr,ty,fr,h=>by
  simp only[World.setCells,Aj];refine BS l (o+1) _ b _ ty fr ?_
  rw[Ef,Array.getElem?_modify,Uy rfl,h];rfl
theorem Aw:∀(vs:List Value) (o:Nat) (w:World) (b:Nat),(w.setCells b o vs).heap.size=w.heap.size
 |[],_,_,_=>rfl
 |v::l,o,w,b=>by
  simp only[World.setCells];rw[Aw l,Ef,Array.size_modify]
theorem BZ:∀(vs:List Value) (o:Nat) (w:World) (b c:Nat),c≠b→(w.setCells b o vs).heap[c]? =w.heap[c]?
 |[],_,_,_,_,_=>rfl
 |v::l,o,w,b,c,h=>by
  simp only[World.setCells];rw[BZ l _ _ _ _ h,Ef,Array.getElem?_modify,U1 (fun e=>h e.symm)]
theorem AN:∀(vs:List Value) (o:Nat) (w:World) (b:Nat),Grown w (w.setCells b o vs)
 |[],_,_,_=>⟨rfl,rfl,rfl,Ui _⟩
 |v::l,o,w,b=>by
  have:=AN l (o+1) (w.setCell ⟨b,o,none⟩ v) b;refine⟨this.os,this.tape,this.output,?_⟩;rw[Aw];exact Ui _
theorem DH{arr:Array Value}:∀{l:List Value} {o j:Nat},o+l.length≤arr.size→(Aj arr o l)[j]? =if o≤j∧j<o+l.length then l[j-o]? else arr[j]?:=by
 intro l
 induction l generalizing arr with
 |nil=>intro o j _;rw[U1 (fun hh=>by simp only[Um]at hh;omega)];rfl
 |cons c l ih=>
  intro o j h;simp only[Uf]at h;simp only[Aj];rw[ih (by simp;omega)];by_cases h1:o+1≤j∧j<o+1+l.length
  ·rw[Uy h1,Uy (by simp;omega)]
   rw[show j-o=(j-(o+1))+1 by omega];simp
  ·rw[U1 h1]
   by_cases h2:o=j
   ·subst h2
    rw[Uy (by simp),Array.getElem?_setIfInBounds_self_of_lt (by omega),Nat.sub_self];rfl
   ·rw[U1 (fun hh=>by simp only[Uf]at hh;omega),Array.getElem?_setIfInBounds_ne h2]
theorem Bk{w:World}{b o:Nat}{arr:Array Value}{ty:TypeId}{fr:T8}(h:w.heap[b]? =some (.cells arr ty fr)):w.cell? ⟨b,o,none⟩=arr[o]?:=by
 simp[World.cell?,h]
theorem C1{w:World}{b o:Nat}{vs:List Value}{arr:Array Value}{ty:TypeId}{fr:T8}(h:w.heap[b]? =some (.cells arr ty fr))(hs:o+vs.length≤arr.size):AG (w.setCells b o vs) b o vs:=by
 intro j v hj;have hl:=(UF.1 hj).1;rw[Bk (BS vs o w b arr ty fr h),DH hs,Uy (by omega),show o+j-o=j by omega,hj]
theorem Ff{w:World}{b b' o o':Nat}{vs cs:List Value}{arr:Array Value}{ty:TypeId}{fr:T8}(hc:AG w b' o' cs)(h:w.heap[b]? =some (.cells arr ty fr))(hs:o+vs.length≤arr.size)
  (ha:b'≠b∨o'+cs.length≤o∨o+vs.length≤o'):AG (w.setCells b o vs) b' o' cs:=by
 intro j v hj;have hl:=(UF.1 hj).1;by_cases hb:b' =b
 ·subst hb
  have:=hc j v hj;rw[Bk h]at this;rw[Bk (BS vs o w b' arr ty fr h),DH hs,U1 (by omega),this]
 ·rw[World.cell?_of_block (a:=⟨b',o'+j,none⟩) (BZ vs o w b b' hb)]
  exact hc j v hj
theorem Ge{w:World}{b o n k:Nat}{arr:Array Value}{ty:TypeId}{fr:T8}(h:w.heap[b]? =some (.cells arr ty fr))(hs:o+n≤arr.size)(hu:LB fr (arr.size+k)):w.there b o n:=by
 intro j hj;refine⟨?_,?_⟩
 ·rw[Bk h]
  simp;omega
 ·have:=hu (o+j) (by omega)
  obtain⟨lo,hi⟩:=fr;simp only[World.frozen?,h];simp at this⊢;omega
theorem Iw{w:World}{S:Nat→Prop}:∀{r:Ty} {d:Nat} {cs:List Value} {y:r.D} {F:T7},Ow w S d r cs y F→ ∀v∈cs,v.oneCell' =true
 | .int _,_,_,_,_,h,v,hv=>by simp only[Ow]at h;rw[h.1]at hv;simp at hv;subst hv;rfl
 | .bool,_,_,_,_,h,v,hv=>by simp only[Ow]at h;rw[h.1]at hv;simp at hv;subst hv;rfl
 | .str,_,_,_,_,h,v,hv=>by simp only[Ow]at h;rw[h.1]at hv;simp at hv;subst hv;rfl
 | .unit,_,_,_,_,h,v,hv=>by simp only[Ow]at h;rw[h.1]at hv;simp at hv
 | .sl _,0,_,_,_,h,v,hv=>by
  simp only[Ow,Rd]at h;obtain⟨⟨_,_,rfl,_⟩,_⟩:=h;simp at hv;subst hv;rfl
 | .sl _,_+1,_,_,_,h,v,hv=>by
  simp only[Ow]at h;obtain⟨_,_,rfl,_⟩:=h;simp at hv;subst hv;rfl
 | .cons _ _,_,_,_,_,h,v,hv=>by
  simp only[Ow]at h;obtain⟨u,l,F1,F2,rfl,_,h1,h2⟩:=h;rcases Uo.1 hv with rfl|hv
  ·exact Iw h1 _ (by simp)
  ·exact Iw h2 _ hv
section
variable{P:Program} {w:World}
structure JI (P:Program) (w:World) (size n:Nat) (x:Value) (news:List Value):Prop where
 len:∀w',(Builtin.lenOf x).run P w' = .ok n w'
 cells:∀w',w'.heap=w.heap→(Builtin.firstCells size n x).run P w' = .ok news.toArray w'
theorem JP{ts:Array TypeId}{t u ty e:TypeId}(Kp:ts[0]? =some t)(Kn:ts[1]? =some u){i:TypeInfo}{size:Nat}(ht:P.underlying t=some (.slice e))(hu:(∃e,P.underlying u=some (.slice e))∨P.underlying u=some .string)(hi:P.info? e=some i)(CB:i.size=size)
  {b o D9 Ic n:Nat} {x:Value} {news:List Value} (hn:JI P w size n x news) (Jk:D9+n≤Ic) (R7:w.there b (o+D9*size) news.length) (h1:∀v∈news,v.oneCell' =true):
  (Builtin.append_ ts ty #[.slice (some ⟨b,o,none⟩) D9 Ic,x]).run P w= .ok (.slice (some ⟨b,o,none⟩) (D9+n) Ic) (w.setCells b (o+D9*size) news):=by
 subst CB;have MZ:=run_storeCells_cells (P:=P) b (o+D9*i.size) news 0 w (fun j hj=>by simpa using(R7 j hj).1) (fun j hj=>by simpa using(R7 j hj).2) h1;simp only[VB]at MZ;have hl:=hn.len w;have hf:=hn.cells w rfl;rcases hu with⟨e',hu⟩|hu
 ·simp[Builtin.append_,Kp,Kn,run_underlying ht,run_underlying hu,sizeOf,typeInfo,hi,hl,Jk,hf,Addr.add_eq,MZ]
 ·simp[Builtin.append_,Kp,Kn,run_underlying ht,run_underlying hu,sizeOf,typeInfo,hi,hl,Jk,hf,Addr.add_eq,MZ]
theorem Hf{ts:Array TypeId}{t u ty e:TypeId}(Kp:ts[0]? =some t)(Kn:ts[1]? =some u){i:TypeInfo}{size:Nat}(ht:P.underlying t=some (.slice e))(hu:(∃e,P.underlying u=some (.slice e))∨P.underlying u=some .string)(hi:P.info? e=some i)(CB:i.size=size)
  {a:Option Addr} {x:Value} (hn:JI P w size 0 x []):
  (Builtin.append_ ts ty #[.slice a 0 0,x]).run P w= .ok (.slice a 0 0) w:=by
 subst CB;have hl:=hn.len w;have hf:=hn.cells w rfl;cases a with
 |none=>
  rcases hu with⟨e',hu⟩|hu
  ·simp[Builtin.append_,Kp,Kn,run_underlying ht,run_underlying hu,sizeOf,typeInfo,hi,hl,hf]
  ·simp[Builtin.append_,Kp,Kn,run_underlying ht,run_underlying hu,sizeOf,typeInfo,hi,hl,hf]
 |some a=>
  have MZ:(storeCells (a.add (0*i.size)) [] 0).run P w= .ok () w:=rfl;rcases hu with⟨e',hu⟩|hu
  ·simp[Builtin.append_,Kp,Kn,run_underlying ht,run_underlying hu,sizeOf,typeInfo,hi,hl,hf,storeCells]
  ·simp[Builtin.append_,Kp,Kn,run_underlying ht,run_underlying hu,sizeOf,typeInfo,hi,hl,hf,storeCells]
theorem Hd{ts:Array TypeId}{t u ty e:TypeId}(Kp:ts[0]? =some t)(Kn:ts[1]? =some u){i:TypeInfo}{z:Value}{size:Nat}(ht:P.underlying t=some (.slice e))(hu:(∃e,P.underlying u=some (.slice e))∨P.underlying u=some .string)(hi:P.info? e=some i)(hz:i.zero=some z)(CB:i.size=size)
  {a:Option Addr} {D9 Ic n:Nat} {x:Value} {QM news:List Value} (ho:∀w',w'.heap=w.heap→(Builtin.firstCells size D9 (.slice a D9 Ic)).run P w' = .ok QM.toArray w')
  (hn:JI P w size n x news) (Pt:Ic<D9+n) (RF:D9+n≤Dp) (Qa:i.bytes≤512):
  (Builtin.append_ ts ty #[.slice a D9 Ic,x]).run P w= .ok (.slice (some ⟨w.heap.size,0,none⟩) (D9+n) (grownCap w (D9+n) Ic e))
   (w.drew.alloc (.cells (QM.toArray++news.toArray++Builtin.zeroCells z.cells (grownCap w (D9+n) Ic e-(D9+n))) e)):=by
 subst CB;have hl:=hn.len w;have hf:=hn.cells w.drew rfl;have Pn:=ho w.drew rfl;have Qq: ¬(D9+n≤Ic):=by omega
 have hb:(D9+n)*i.bytes≤140737488355328:=by
  have:(D9+n)*i.bytes≤Dp*512:=Nat.mul_le_mul RF Qa;simp only[Dp]at this;omega
 have Tt:=growslice_fits Pt hb;have P9: ¬(281474976710656<Builtin.nextslicecap (D9+n) Ic*i.bytes):=by omega
 have QD: ¬(9223372036854775807<((D9:Int)+(n:Int))):=by simp only[Dp]at RF;omega
 rcases hu with⟨e',hu⟩|hu
 ·simp[Builtin.append_,Kp,Kn,run_underlying ht,run_underlying hu,sizeOf,typeInfo,zeroValue,hi,hz,hl,Qq,QD,P9,Question.forced,hf,Pn,newRow,grownCap]
  congr 2
  apply Array.ext';simp[UM]
 ·simp[Builtin.append_,Kp,Kn,run_underlying ht,run_underlying hu,sizeOf,typeInfo,zeroValue,hi,hz,hl,Qq,QD,P9,Question.forced,hf,Pn,newRow,grownCap]
  congr 2
  apply Array.ext';simp[UM]
end
end Go.Fw
end
section
namespace Go.Fw
def Ai(w:World)(S:Nat→Prop)(d:Nat)(r:Ty)(css:List (List Value))(rows:List r.D)(Fs:List T7):Prop:=
 css.length=rows.length∧Fs.length=rows.length∧(∀c∈css,c.length=r.n)∧ ∀(i:Nat) cs y G,css[i]? =some cs→rows[i]? =some y→Fs[i]? =some G→Ow w S d r cs y G
theorem Ai.mono{w w':World}{S S':Nat→Prop}{d:Nat}{r:Ty}{css:List (List Value)}{rows:List r.D}{Fs:List T7}(h:Ai w S d r css rows Fs)(hS:∀c,S c→S' c)(hw:∀c,S c→w'.heap[c]? =w.heap[c]?)
  (hF:∀c∈Fs.flatten,w'.heap[c]? =w.heap[c]?):Ai w' S' d r css rows Fs:=
 ⟨h.1,h.2.1,h.2.2.1,fun i cs y G a b c=>AY hS hw (fun x hx=>hF x (UZ.2 ⟨G,UO c,hx⟩)) (h.2.2.2 i cs y G a b c)⟩
theorem Ai.append{w:World}{S:Nat→Prop}{d:Nat}{r:Ty}{css P2:List (List Value)}{rows rows':List r.D}{Fs P8:List T7}(h:Ai w S d r css rows Fs)(k:Ai w S d r P2 rows' P8):
  Ai w S d r (css++P2) (rows++rows') (Fs++P8):=by
 refine⟨by simp[h.1,k.1],by simp[h.2.1,k.2.1],fun c hc=>(UU.1 hc).elim (h.2.2.1 c) (k.2.2.1 c),fun i cs y G a b c=> ?_⟩;by_cases hi:i<rows.length
 ·rw[UK (by rw[h.1];exact hi)]at a
  rw[UK hi]at b;rw[UK (by rw[h.2.1];exact hi)]at c;exact h.2.2.2 i cs y G a b c
 ·rw[UR (by rw[h.1];omega)]at a
  rw[UR (by omega)]at b;rw[UR (by rw[h.2.1];omega)]at c;rw[h.1]at a;rw[h.2.1]at c;exact k.2.2.2 _ cs y G a b c
theorem Ai.weaken{w:World}{S:Nat→Prop}{d d':Nat}{r:Ty}{css:List (List Value)}{rows:List r.D}{Fs:List T7}(h:Ai w S d r css rows Fs)(hd:d'≤d):
  ∃(Gs:List T7) (W:T7),Fs.flatten.Perm (Gs.flatten++W)∧Ai w (fun c=>S c∨c∈W) d' r css rows Gs:=by
 obtain⟨Gs,Ws,h1,h2,h3,h4⟩:=Hy (R:=fun i G F W=> ∀cs y,css[i]? =some cs→rows[i]? =some y→Ow w (fun c=>S c∨c∈W) d' r cs y F) Fs 0 (fun i G hG=>by
  rw[U2];have hi:=(UF.1 hG).1;have h1:=h.1;have h2:=h.2.1;obtain⟨F,W,hp,ho⟩:=BO hd (h.2.2.2 i _ _ G (UH (by omega)) (UH (by omega)) hG);refine⟨F,W,hp,fun cs y a b=> ?_⟩;rw[UH (by omega)]at a b;cases a;cases b;exact ho)
 refine⟨Gs,Ws.flatten,h3,h.1,h1.trans h.2.1,h.2.2.1,fun i cs y G a b c=> ?_⟩;have hi:=(UF.1 c).1;have hw:Ws[i]? =some (Ws[i]'(by omega)):=UH _;have hf:Fs[i]? =some (Fs[i]'(by omega)):=UH _;have:=h4 i _ _ _ hf c hw cs y (by rw[U2];exact a) (by rw[U2];exact b);exact AY (fun x hx=>hx.imp id fun hx=>UZ.2 ⟨_,UO hw,hx⟩) (fun _ _=>rfl) (fun _ _=>rfl) this
theorem Ds{n:Nat}:∀{css:List (List Value)},(∀c∈css,c.length=n)→css.flatten.length=css.length*n
 |[],_=>by simp
 |c::l,h=>by simp[h c (by simp),Ds (css:=l) (fun c hc=>h c (by simp[hc])),VS];omega
theorem Ai.one{w:World}{S:Nat→Prop}{d:Nat}{r:Ty}{css:List (List Value)}{rows:List r.D}{Fs:List T7}(h:Ai w S d r css rows Fs):∀v∈css.flatten,v.oneCell' =true:=by
 intro v hv;obtain⟨c,hc,hv⟩:=UZ.1 hv;obtain⟨i,hi,rfl⟩:=Ur hc;have h1:=h.1;have h2:=h.2.1;exact Iw (h.2.2.2 i _ _ _ (UH hi) (UH (by omega)) (UH (by omega))) v hv
theorem Ai.flat{w:World}{B S:Nat→Prop}{d:Nat}{r:Ty}(hf:r.flat=true){css:List (List Value)}{rows:List r.D}(h1:css.length=rows.length)(h2:∀c∈css,c.length=r.n)
  (h3:∀(i:Nat) cs y,css[i]? =some cs→rows[i]? =some y→Rd w B r cs y):Ai w S d r css rows (List.replicate rows.length []):=by
 refine⟨h1,by simp,h2,fun i cs y G a b c=> ?_⟩;have:G=[]:=Uu (UO c);subst this;exact GH hf (h3 i cs y a b)
theorem AG.heap{w w':World}{b o:Nat}{cs:List Value}(h:AG w b o cs)(e:w'.heap=w.heap):AG w' b o cs:=h.of_block (by rw[e])
theorem Cs{P:Program}{w:World}{a:Option Addr}{n cap size:Nat}{css:List (List Value)}(hl:css.length=n)(hc:∀c∈css,c.length=size)
  (h:n=0∨ ∃b o,a=some ⟨b,o,none⟩∧AG w b o css.flatten):JI P w size n (.slice a n cap) css.flatten:=by
 refine⟨fun w' =>rfl,fun w' e=> ?_⟩;have hlen:css.flatten.length=n*size:=by rw[Ds hc,hl]
 rcases h with rfl|⟨b,o,rfl,h⟩
 ·have:css=[]:=UW hl
  subst this;cases a with
  |none=>rfl
  |some a=>
   simp only[Builtin.firstCells,Nat.zero_mul,VL];exact DT a
 ·simp only[Builtin.firstCells]
  rw[←hlen];exact G1 (h.heap e)
theorem M9{P:Program}{w:World}{s:List UInt8}:JI P w 1 s.length (.string ⟨s.toArray⟩) (s.map fun c=>[Value.int .u8 (c.toNat:Int)]).flatten:=by
 refine⟨fun w' =>rfl,fun w' _=> ?_⟩;have CB:(⟨s.toArray⟩:ByteArray).size=s.length:=by simp[ByteArray.size]
 have e1:(⟨s.toArray⟩:ByteArray).extract 0 s.length=⟨s.toArray⟩:=by
  rw[←CB];apply ByteArray.ext;simp
 simp only[Builtin.firstCells,e1,Sem.run_pure];have:(s.map fun c=>[Value.int .u8 (c.toNat:Int)]).flatten=s.map fun c=>Value.int .u8 (c.toNat:Int):=by
  have:=DX (l:=s.map fun c=>Value.int .u8 (c.toNat:Int));simpa[Vb,Function.comp_def]using this
 rw[this];simp
theorem Lu{w:World}{S:Nat→Prop}{d:Nat}{r:Ty}{v:Value}{rows:List r.D}{F:T7}(h:Ow w S (d+1) (.sl r) [v] rows F):
  ∃a cap css Fs R,v= .slice a rows.length cap∧rows.length≤cap∧Ai w S d r css rows Fs∧F.Perm (Fs.flatten++R)∧
   ((cap=0∧F=[])∨ ∃b o arr ty fr,a=some ⟨b,o,none⟩∧w.heap[b]? =some (.cells arr ty fr)∧o+cap*r.n≤arr.size∧LB fr (arr.size+mk r)∧F=b::Fs.flatten∧AG w b o css.flatten):=by
 simp only[Ow]at h;obtain⟨a,cap,e,hle,h⟩:=h;simp only[Ua,Us]at e;subst e;rcases h with⟨h,rfl⟩|⟨b,o,arr,ty,fr,Fs,rfl,hb,CB,hu,rfl,hFl,hr⟩
 ·have:rows=[]:=UW (by omega)
  subst this;exact⟨a,cap,[],[],[],rfl,hle,⟨rfl,rfl,by simp,fun i cs y G h=>by simp at h⟩,by simp,.inl ⟨h,rfl⟩⟩
 ·
  have key:∀(n o:Nat) (ys:List r.D) (Fs:List T7),ys.length=n→Fs.length=n→(∀(i:Nat) (y:r.D) (G:T7),ys[i]? =some y→Fs[i]? =some G→ ∃cs,cs.length=r.n∧AG w b (o+i*r.n) cs∧Ow w S d r cs y G)→
    ∃css,Ai w S d r css ys Fs∧AG w b o css.flatten:=by
   intro n
   induction n with
   |zero=>
    intro o ys Fs h1 h2 _;obtain rfl:=UW h1;obtain rfl:=UW h2;exact⟨[],⟨rfl,rfl,by simp,fun i cs y G h=>by simp at h⟩,fun _ _ h=>by simp at h⟩
   |succ n ih=>
    intro o ys Fs h1 h2 hh;obtain⟨y,ys,rfl⟩:=VK h1;obtain⟨G,Fs,rfl⟩:=VK h2;obtain⟨cs,c1,c2,c3⟩:=hh 0 y G rfl rfl;obtain⟨css,d1,d2⟩:=ih (o+r.n) ys Fs (by simpa using h1) (by simpa using h2) (fun i z G hz hG=>by
     obtain⟨cs,e1,e2,e3⟩:=hh (i+1) z G (by simpa using hz) (by simpa using hG);refine⟨cs,e1,?_,e3⟩;rw[Ux,VO]at e2
     rwa [show o+r.n+i*r.n=o+(i*r.n+r.n)by omega])
    refine⟨cs::css,⟨by simp[d1.1],by simp[d1.2.1],fun c hc=> ?_,fun i Eu y' G' a b c=> ?_⟩,?_⟩
    ·rcases Uo.1 hc with rfl|hc
     ·exact c1
     ·exact d1.2.2.1 c hc
    ·cases i with
     |zero=>simp at a b c;subst a b c;exact c3
     |succ i=>exact d1.2.2.2 i Eu y' G' (by simpa using a) (by simpa using b) (by simpa using c)
    ·rw[Uk]
     refine AG.append (by simpa using c2) ?_
     rw[c1];exact d2
  obtain⟨css,k1,k2⟩:=key rows.length o rows Fs rfl hFl hr;refine⟨_,cap,css,Fs,[b],rfl,hle,k1,?_,.inr ⟨b,o,arr,ty,fr,rfl,hb,CB,hu,rfl,k2⟩⟩;exact(UY (l₁:=[b]) (l₂:=Fs.flatten))
theorem Gr{w:World}{S:Nat→Prop}:∀{r:Ty} {cs:List Value} {x:r.D},Rd w S r cs x→Ow w S 0 r cs x []
 | .cons c r,cs,x,hr=>by
  simp only[Rd]at hr;obtain⟨v,l,rfl,h1,h2⟩:=hr;simp only[Ow];exact⟨v,l,[],[],rfl,rfl,Gr h1,Gr h2⟩
 | .unit,_,_,hr=>by simp only[Rd]at hr;simp[Ow,hr]
 | .int k,_,_,hr=>by simp only[Rd]at hr;simp[Ow,hr]
 | .bool,_,_,hr=>by simp only[Rd]at hr;simp[Ow,hr]
 | .str,_,_,hr=>by simp only[Rd]at hr;simp[Ow,hr]
 | .sl q,_,_,hr=>by simp only[Ow];exact⟨hr,trivial⟩
theorem Fg{P:Program}{E:Env}{w:World}{vw bx:List Bx}{G:T7}(h:AK E w vw bx G)(hw:Ac bx vw){x:AV}{v:Value}(hv:VR E w vw x v){r:Ty}{rows:List r.D}{CO:List Bx}{d:Nat}
  (e:Hl bx x=some ⟨r,rows,CO,d⟩):1≤d∧ ∃E' F css Fs R,Au E w vw bx G E' CO F∧F.Perm (List.flatten Fs++R)∧Ai w E'.S (d-1) r css rows Fs∧JI P w r.n rows.length v css.flatten:=by
 have plain:∀{B:Nat→Prop} {ys:List r.D},r.flat=true→Rd w B (.sl r) [v] ys→ ∀S:Nat→Prop,∃css,Ai w S 8 r css ys (List.replicate ys.length [])∧JI P w r.n ys.length v css.flatten:=by
  intro B ys hf hr S;simp only[Rd]at hr;obtain⟨a,cap,e1,hle,hr⟩:=hr;simp only[Ua,Us]at e1;subst e1;rcases hr with hr|⟨b,o,rfl,_,hr⟩
  ·have:ys=[]:=UW hr
   subst this;exact⟨[],⟨rfl,rfl,by simp,fun i cs y G h=>by simp at h⟩,Cs (css:=[]) rfl (by simp) (.inl rfl)⟩
  ·obtain⟨css,c1,c2,c3,c4⟩:=Kz hr
   exact⟨css,Ai.flat hf c1 c2 c4,Cs c1 c2 (.inr ⟨b,o,rfl,c3⟩)⟩
 have done:∀{B:Nat→Prop} {ys:List r.D},r.flat=true→Rd w B (.sl r) [v] ys→rows=ys→CO=bx→d=9→
   1≤d∧ ∃E' F css Fs R,Au E w vw bx G E' CO F∧F.Perm (List.flatten Fs++R)∧Ai w E'.S (d-1) r css rows Fs∧JI P w r.n rows.length v css.flatten:=by
  intro B ys hf hr e1 e2 e3;subst e1 e2 e3;obtain⟨css,k1,k2⟩:=plain hf hr E.S;exact⟨by omega,E,[],css,_,[],Au.refl h,by simp,k1,k2⟩
 unfold Hl at e;split at e
 ·rename_i s
  simp only[UG,UP]at e;obtain⟨rfl,e⟩:=e;have e:=Uc e;simp only[Ug]at e;obtain⟨rfl,rfl,rfl⟩:=e;have Ep:=Dj hv;subst Ep;refine⟨by omega,E,[],s.map fun c=>[Value.int .u8 (c.toNat:Int)],_,[],Au.refl h,?_,Ai.flat (B:=fun _=>False) rfl (by simp) (by simp[Ty.n]) (fun i cs y a b=> ?_),?_⟩
  ·simp
  ·simp only[Ue,UI]at a b
   obtain⟨c1,z1,rfl⟩:=a;obtain⟨c2,z2,rfl⟩:=b;rw[z1]at z2;cases z2;simp[Rd]
  ·have:=M9 (P:=P) (w:=w) (s:=s)
   simpa[Ty.n]using this
 ·rename_i s q ys
  split at e
  ·rename_i hf
   simp only[UG,UP]at e;obtain⟨rfl,e⟩:=e;have e:=Uc e;simp only[Ug]at e;obtain⟨rfl,rfl,rfl⟩:=e;exact done hf hv rfl rfl rfl
  ·split at e
   case isFalse=>cases e
   rename_i hs;simp only[UG,UP]at e;obtain⟨rfl,e⟩:=e;have e:=Uc e;simp only[Ug]at e;obtain⟨rfl,rfl,rfl⟩:=e;subst hs;simp only[VR,VN]at hv;simp only[Rd]at hv;obtain⟨a,cap,e1,hle,hr⟩:=hv;simp only[Ua,Us]at e1;subst e1;have key:∃css:List (List Value),List.length css=ys.length∧(∀c∈css,c.length=q.n)∧(∀(i:Nat) cs y,css[i]? =some cs→ys[i]? =some y→Rd w E.S q cs y)∧JI P w q.n ys.length (.slice a ys.length cap) css.flatten:=by
    rcases hr with hr|⟨b,o,rfl,_,hr⟩
    ·have:ys=[]:=UW hr
     subst this;exact⟨[],rfl,by simp,fun i cs y h=>by simp at h,Cs (css:=[]) rfl (by simp) (.inl rfl)⟩
    ·obtain⟨css,c1,c2,c3,c4⟩:=Kz hr
     exact⟨css,c1,c2,c4,Cs c1 c2 (.inr ⟨b,o,rfl,c3⟩)⟩
   obtain⟨css,c1,c2,c3,c4⟩:=key;refine⟨Ui _,E,[],css,List.replicate ys.length [],[],Au.refl h,by simp,⟨c1,by simp,c2,fun i cs y G a b c=> ?_⟩,c4⟩;have:G=[]:=Uu (UO c);subst this;exact Gr (c3 i cs y a b)
 ·rename_i b
  split at e
  case h_2=>cases e
  rename_i d0 q ys hb;split at e
  ·rename_i hf
   simp only[UG,UP]at e;obtain⟨rfl,e⟩:=e;have e:=Uc e;simp only[Ug]at e;obtain⟨rfl,rfl,rfl⟩:=e;obtain⟨Fs,hB,hS⟩:=h;exact done hf (EG hw hB hS.st hv (q:=q) (ys:=ys) (by simp[Bp,hb,Aq])) rfl rfl rfl
  ·simp only[UG,UP]at e
   obtain⟨rfl,e⟩:=e;have e:=Uc e;simp only[Ug]at e;obtain⟨rfl,rfl,rfl⟩:=e;obtain⟨F,⟨hd,ho⟩,hB⟩:=h.take hb;have Pz:=Du hw hb;simp only[VR,Pz,AJ,UG]at hv;obtain⟨_,_,_,rfl⟩:=hv;obtain⟨m,rfl⟩:∃m,d0=m+1:=⟨d0-1,by omega⟩;obtain⟨a,cap,css,Fs,R,e1,hle,Ew,hp,hcase⟩:=Lu ho;refine⟨hd,E,F,css,Fs,R,⟨Le.refl _,by simp,fun n B hn=> ?_,hB⟩,hp,Ew,?_⟩
   ·rw[U0]at hn
    split at hn
    ·split at hn
     ·exact .inl (by simpa using hn.symm)
     ·cases hn
    ·exact .inr hn
   ·rw[e1]
    refine Cs Ew.1 Ew.2.2.1 ?_
    rcases hcase with⟨h0,_⟩|⟨b,o,arr,ty,fr,rfl,_,_,_,_,hc⟩
    ·exact .inl (by omega)
    ·exact .inr ⟨b,o,rfl,hc⟩
 ·rename_i b p _
  split at e
  case h_2=>cases e
  rename_i d0 q ys hb;simp only[UJ]at e;obtain⟨⟨q',zs⟩,e1,e⟩:=e;dsimp only at e;split at e
  case isFalse=>cases e
  rename_i hf;simp only[UG,UP]at e;obtain⟨rfl,e⟩:=e;have e:=Uc e;simp only[Ug]at e;obtain⟨rfl,rfl,rfl⟩:=e;obtain⟨Fs,hB,hS⟩:=h;exact done hf (EG hw hB hS.st hv (q:=q') (ys:=zs) (by simp[Bp,hb,e1])) rfl rfl rfl
 ·rename_i b p off n
  split at e
  case h_2=>cases e
  rename_i d0 q ys hb;simp only[UJ]at e;obtain⟨⟨q',zs⟩,e1,e⟩:=e;dsimp only at e;split at e
  case isFalse=>cases e
  rename_i hf;simp only[UG,UP]at e;obtain⟨rfl,e⟩:=e;have e:=Uc e;simp only[Ug]at e;obtain⟨rfl,rfl,rfl⟩:=e;obtain⟨Fs,hB,hS⟩:=h;exact done hf (EG hw hB hS.st hv (q:=q') (ys:=(zs.drop off).take n) (by simp[Bp,hb,e1])) rfl rfl rfl
 ·cases e
theorem Fh{E:Env}{w:World}{vw bx:List Bx}{G:T7}(h:AK E w vw bx G)(hw:Ac bx vw){x:AV}{v:Value}(hv:VR E w vw x v){r:Ty}{rows:List r.D}{CO:List Bx}{d:Nat}
  (e:Hu bx x=some ⟨r,rows,CO,d⟩):1≤d∧ ∃F1 F2,Au E w vw bx G E CO (F1++F2)∧Ow w E.S d (.sl r) [v] rows F1:=by
 have tk:∀{b d0:Nat} {q:Ty} {ys:List q.D},bx[b]? =some (.sl d0 q ys)→ ∃F,1≤d0∧Ow w E.S d0 (.sl q) [E.A7 b] ys F∧Au E w vw bx G E (bx.set b .dead) F:=by
  intro b d0 q ys hb;obtain⟨F,⟨hd,ho⟩,hB⟩:=h.take hb;refine⟨F,hd,ho,⟨Le.refl _,by simp,fun n B hn=> ?_,hB⟩⟩;rw[U0]at hn;split at hn
  ·split at hn
   ·exact .inl (by simpa using hn.symm)
   ·cases hn
  ·exact .inr hn
 unfold Hu at e;split at e
 ·rename_i b
  split at e
  case h_2=>cases e
  rename_i d0 q ys hb;simp only[UG,UP]at e;obtain⟨rfl,e⟩:=e;have e:=Uc e;simp only[Ug]at e;obtain⟨rfl,rfl,rfl⟩:=e;obtain⟨F,hd,ho,hT⟩:=tk hb;have Pz:=Du hw hb;simp only[VR,Pz,AJ,UG]at hv;obtain⟨_,_,_,rfl⟩:=hv;exact⟨hd,F,[],by simpa using hT,ho⟩
 ·rename_i b off n
  split at e
  case h_2=>cases e
  rename_i d0 q ys hb;simp only[UG,UP]at e;obtain⟨rfl,e⟩:=e;have e:=Uc e;simp only[Ug]at e;obtain⟨rfl,rfl,rfl⟩:=e;obtain⟨F,hd,ho,hT⟩:=tk hb;have Pz:=Du hw hb;simp only[VR,Pz,AJ,UG]at hv;obtain⟨_,_,q',zs,a,len,cap,h1,h2,h3,rfl⟩:=hv;simp only[Aq,UG,UP]at h1;obtain⟨rfl,h1⟩:=h1;obtain rfl:=Uc h1;rw[h3]at ho;obtain⟨m,rfl⟩:∃m,d0=m+1:=⟨d0-1,by omega⟩;obtain⟨F1,F2,hp,Ma⟩:=Mu ho h2;exact⟨hd,F1,F2,⟨hT.le,hT.len,hT.within,hT.boxes.perm (US _ hp)⟩,Ma⟩
 ·cases e
end Go.Fw
end
section
namespace Go.Fw
theorem I9{P:Program}{w:World}{a:Option Addr}{n cap size:Nat}{css:List (List Value)}(hl:css.length=n)(hc:∀c∈css,c.length=size)
  (h:n=0∨ ∃b o,a=some ⟨b,o,none⟩∧AG w b o css.flatten):∀w',w'.heap=w.heap→(Builtin.firstCells size n (.slice a n cap)).run P w' = .ok css.flatten.toArray w':=
 (Cs (P:=P) (cap:=cap) hl hc h).cells
theorem JD{z:Array Value}{n:Nat}:(Builtin.zeroCells z n).size=n*z.size:=size_zeroCells z n
section
variable{Y:Type} {P:Program} {T:BQ} (hT:Ag P T) {o:Oper} {E:Env} {σ:St} {a:Act} {w:World} {k:K Y} {y:Y}
include hT
theorem HV(h:Rel E σ a w){E2:Env}{EC:List Bx}{F Fd R:T7}{t u ty:TypeId}{ts:Array TypeId}(Kp:ts[0]? =some t)(Kn:ts[1]? =some u)
  (hu:(∃e,P.underlying u=some (.slice e))∨P.underlying u=some .string) {m:Nat} {r:Ty} (Gj:T.Ci t r=true)
  (kT:Au E w σ.bx σ.bx [] E2 EC F) {v1 v2:Value} {drows Ck:List r.D} {css:List (List Value)} {Fs:List T7}
  (ho:Ow w E2.S (m+1) (.sl r) [v1] drows Fd) (hs:Ai w E2.S m r css Ck Fs) (hn:JI P w r.n Ck.length v2 css.flatten) (hp:F.Perm (Fd++Fs.flatten++R)) (JC:drows.length+Ck.length≤Dp):
  ∃v w' E',(Builtin.append_ ts ty #[v1,v2]).run P w= .ok v w'∧Rel E' { σ with bx:=EC++[.sl (m+1) r (drows++Ck)] } a w'∧CX [] E σ.bx w E' (EC++[.sl (m+1) r (drows++Ck)]) w'∧
   XR E' w' (EC++[.sl (m+1) r (drows++Ck)]) (.c (.ref EC.length [])) v:=by
 obtain⟨e,ti,hut,Ce,hs1,Qa,hrow⟩:=B5 hT Gj;obtain⟨i,z,i1,i2,i3,i4,i5,hg⟩:=FZ hT Ce hrow;rw[hs1]at i2;obtain⟨Fs0,Qy,DQ⟩:=kT.boxes;simp only[Ud]at DQ;have O_:∀c∈Fd,c∈F:=fun c hc=>hp.mem_iff.2 (by simp[hc])
 have Qs:∀c∈Fs.flatten,c∈F:=fun c hc=>hp.mem_iff.2 (by simp only[UU];exact .inl (.inr hc))
 have O6:=(UN.1 (hp.nodup_iff.1 (UN.1 DQ.nodup).2.1)).1;have PW:∀c∈F,c<w.heap.size:=fun c hc=>DQ.lt c (by simp only[UU];exact .inr hc)
 have Qg:∀c∈F,¬E2.S c:=fun c hc hS=>DQ.free c (by simp only[UU];exact .inr hc) (DQ.st c hS)
 have RX:=ho;obtain⟨ad,cap,dcss,Fs1,R1,rfl,hle,hd,hp1,hcase⟩:=Lu ho;have MG:css.flatten.length=Ck.length*r.n:=by rw[Ds hs.2.2.1,hs.1]
 have Ry:dcss.flatten.length=drows.length*r.n:=by rw[Ds hd.2.2.1,hd.1]
 by_cases Jk:drows.length+Ck.length≤cap
 ·rcases hcase with⟨h0,RT⟩|⟨b,of,arr,ty0,fr,rfl,hb,CB,hunf,rfl,hc⟩
  ·
   have Tp:drows=[]:=UW (by omega);have TY:Ck=[]:=UW (by omega);subst Tp TY;have Ny:css=[]:=UW hs.1;subst Ny h0;have JA:=Hf (P:=P) (w:=w) (ty:=ty) Kp Kn hut hu i1 i2 (a:=ad) (x:=v2) (by simpa using hn);obtain⟨r1,r2,r3⟩:=Cv h kT (w':=w) (d:=m+1) (by omega) RX (fun c hc=> .inl (O_ c hc)) (UN.1 O6).1 (fun c hc=>PW c (O_ c hc)) (fun _ _ _=>rfl) ⟨rfl,rfl,rfl,Ui _⟩;exact⟨_,_,_,JA,r1,r2,r3⟩
  ·
   have EM:of+drows.length*r.n+css.flatten.length≤arr.size:=by
    have:(drows.length+Ck.length)*r.n≤cap*r.n:=Uq _ Jk;rw[Ux]at this;omega
   have JA:=JP (P:=P) (w:=w) (ty:=ty) Kp Kn hut hu i1 i2 (b:=b) (o:=of) hn Jk (Ge hb EM hunf) hs.one;have SG:b∈F:=O_ b (by simp);have Ht:∀c,c∈Fs1.flatten∨c∈Fs.flatten∨E2.S c→c≠b:=by
    intro c PN e;subst e;rcases PN with PN|PN|PN
    ·exact(U9.1 (UN.1 O6).1).1 PN
    ·exact(UN.1 O6).2.2 c (by simp) c PN rfl
    ·exact Qg c SG PN
   have D3:∀c,c≠b→(w.setCells b (of+drows.length*r.n) css.flatten).heap[c]? =w.heap[c]?:=fun c hc=>BZ _ _ _ _ _ hc
   have Q7:=hd.mono (w':=w.setCells b (of+drows.length*r.n) css.flatten) (S':=E2.S) (fun _ h=>h) (fun c hc=>D3 c (Ht c (.inr (.inr hc)))) (fun c hc=>D3 c (Ht c (.inl hc)));have Ot:=hs.mono (w':=w.setCells b (of+drows.length*r.n) css.flatten) (S':=E2.S) (fun _ h=>h) (fun c hc=>D3 c (Ht c (.inr (.inr hc)))) (fun c hc=>D3 c (Ht c (.inr (.inl hc))));have E6:=Q7.append Ot;have KA:AG (w.setCells b (of+drows.length*r.n) css.flatten) b of (dcss++css).flatten:=by
    rw[Uv];refine AG.append (Ff hc hb EM (.inr (.inl (by omega)))) ?_
    rw[Ry];exact C1 hb EM
   have how:Ow (w.setCells b (of+drows.length*r.n) css.flatten) E2.S (m+1) (.sl r) [.slice (some ⟨b,of,none⟩) (drows.length+Ck.length) cap] (drows++Ck) (b::(Fs1++Fs).flatten):=by
    simp only[Ow];refine⟨_,cap,by rw[Ub],by rw[Ub];exact Jk,.inr ⟨b,of,_,ty0,fr,Fs1++Fs,rfl,BS _ _ _ _ _ _ _ hb,by rw[BT];exact CB,by rw[BT];exact hunf,rfl,E6.2.1,fun j q G hq hG=> ?_⟩⟩;have hj:=(UF.1 hq).1;have h1:=E6.1;have Mo:j<(dcss++css).length:=by omega
    refine⟨(dcss++css)[j],E6.2.2.1 _ (VG _),fun x u hx=> ?_,E6.2.2.2 j _ _ _ (UH Mo) hq hG⟩;have Rw:=(UF.1 hx).1;rw[E6.2.2.1 _ (VG _)]at Rw;have:=FE (n:=r.n) (css:=dcss++css) (ex:=[]) (i:=j) E6.2.2.1 (UH Mo) Rw;rw[Ud,hx]at this;have:=KA _ _ this
    rwa [←VD]at this
   have HT:(b::(Fs1++Fs).flatten)=(b::Fs1.flatten)++Fs.flatten:=by simp
   rw[HT]at how;obtain⟨r1,r2,r3⟩:=Cv h kT (w':=w.setCells b (of+drows.length*r.n) css.flatten) (d:=m+1) (by omega) how (fun c hc=> .inl ((UU.1 hc).elim (O_ c) (Qs c))) O6
    (fun c hc=>by rw[Aw];exact PW c ((UU.1 hc).elim (O_ c) (Qs c))) (fun c hc To=>D3 c (fun e=>To (e▸SG))) (AN _ _ _ _)
   exact⟨_,_,_,JA,r1,r2,r3⟩
 ·
  have hold:drows.length=0∨ ∃b o,ad=some ⟨b,o,none⟩∧AG w b o dcss.flatten:=by
   rcases hcase with⟨h0,_⟩|⟨b,of,arr,ty0,fr,rfl,hb,CB,hunf,rfl,hc⟩
   ·exact .inl (by omega)
   ·exact .inr ⟨b,of,rfl,hc⟩
  have JA:=Hd (P:=P) (w:=w) (ty:=ty) Kp Kn hut hu i1 i4 i2 (I9 (P:=P) (cap:=cap) hd.1 hd.2.2.1 hold) hn (by omega) JC (by omega);have SU:=grownCap_ge w (drows.length+Ck.length) cap e
  generalize T0:grownCap w (drows.length+Ck.length) cap e=gc at JA SU
  let arr:Array Value:=dcss.flatten.toArray++css.flatten.toArray++Builtin.zeroCells z.cells (gc-(drows.length+Ck.length))
  have F_:arr.toList=(dcss++css).flatten++(Builtin.zeroCells z.cells (gc-(drows.length+Ck.length))).toList:=by simp[arr]
  have Pg:z.cells.size=r.n:=by rw[←VF,i5,BR]
  have Sv:arr.size=gc*r.n:=by
   simp only[arr,Array.size_append,List.size_toArray,JD,Pg,MG,Ry,←Ux];congr 1;omega
  let w':=w.drew.alloc (.cells arr e)
  have new:w'.heap[w.heap.size]? =some (.cells arr e):=by
   show(w.heap.push (.cells arr e))[w.heap.size]? =_
   simp
  have M5:∀c,c<w.heap.size→w'.heap[c]? =w.heap[c]?:=fun c hc=>CE (w:=w) (o:= .cells arr e) hc
  have Q3:∀c∈Fs1.flatten,c∈Fd:=fun c hc=>hp1.mem_iff.2 (by simp only[UU];exact .inl hc)
  have Q7:=hd.mono (w':=w') (S':=E2.S) (fun _ h=>h) (fun c hc=>M5 c (DQ.FI c (DQ.st c hc))) (fun c hc=>M5 c (PW c (O_ c (Q3 c hc))));have Ot:=hs.mono (w':=w') (S':=E2.S) (fun _ h=>h) (fun c hc=>M5 c (DQ.FI c (DQ.st c hc))) (fun c hc=>M5 c (PW c (Qs c hc)));have E6:=Q7.append Ot;have how:Ow w' E2.S (m+1) (.sl r) [.slice (some ⟨w.heap.size,0,none⟩) (drows++Ck).length gc] (drows++Ck) (w.heap.size::(Fs1++Fs).flatten):=
   GW new F_ E6.1 (by rw[Ub];exact SU) (by omega) (G7 _) E6.2.1 E6.2.2.2
  rw[Ub]at how;have La:∀c∈(Fs1++Fs).flatten,c∈Fd++Fs.flatten:=by
   intro c hc;rw[Uv,UU]at hc;exact UU.2 (hc.imp (Q3 c) id)
  have TJ:(Fs1++Fs).flatten.Nodup:=by
   rw[Uv];have n1:=(UN.1 (hp1.nodup_iff.1 (UN.1 O6).1)).1;exact UN.2 ⟨n1,(UN.1 O6).2.1,fun x hx y hy=>(UN.1 O6).2.2 x (Q3 x hx) y hy⟩
  have Oh:∀c∈(Fs1++Fs).flatten,c∈F:=fun c hc=>(UU.1 (La c hc)).elim (O_ c) (Qs c)
  obtain⟨r1,r2,r3⟩:=Cv h kT (w':=w') (d:=m+1) (by omega) how (by
    intro c hc;rcases Uo.1 hc with rfl|hc
    ·exact .inr (Ui _)
    ·exact .inl (Oh c hc)) (by
    refine U9.2 ⟨fun hc=> ?_,TJ⟩;have:=PW _ (Oh _ hc);omega) (by
    intro c hc;rcases Uo.1 hc with rfl|hc
    ·simp[w']
    ·have:=PW _ (Oh _ hc)
     simp[w'];omega) (fun c hc _=>M5 c hc) ⟨rfl,rfl,rfl,by simp[w']⟩
  exact⟨_,_,_,JA,r1,r2,r3⟩
end
end Go.Fw
end
section
namespace Go.Fw
theorem Dc{α β:Type}{args:Array α}{f:α→β}{x y:β}(h:args.toList.map f=[x,y]):∃a b,args= #[a,b]∧f a=x∧f b=y:=by
 obtain⟨l⟩:=args
 match l,h with
 |[a,b],h=>simp at h;exact⟨a,b,rfl,h.1,h.2⟩
theorem DZ{α β:Type}{args:Array α}{f:α→β}{x:β}(h:args.toList.map f=[x]):∃a,args= #[a]∧f a=x:=by
 obtain⟨l⟩:=args
 match l,h with
 |[a],h=>simp at h;exact⟨a,rfl,h⟩
section
variable{Y:Type} {P:Program} {T:BQ} (hT:Ag P T) {o:Oper} {E:Env} {σ:St} {a:Act} {w:World} {k:K Y} {y:Y}
include hT
theorem Ky(h:Rel E σ a w){c:Call}{x1 x2:XV}(ho:o.op= .call c)(hc:c.callee= .builtin .append)(BC:c.args.toList.map σ.ev=[x1,x2])(e:FW T c.argTypes σ x1 x2 k=some y):BV P o E σ a w k y:=by
 obtain⟨o1,o2,hargs',rfl,rfl⟩:=Dc BC;have Ex:=h.ev o1;have ER:=h.ev o2;have exec:∀{v w'},(Builtin.append_ c.argTypes o.type #[a.eval o1,a.eval o2]).run P w= .ok v w'→(execOp a.eval o).run P w= .ok (.value v) w':=by
  intro v w' hr;simp only[execOp,ho,resolve,hc,hargs',invoke,builtin,Sem.run_bind,Sem.run_pure,Result.andThen_ok,List.map_toArray,VU,Va,hr]
 unfold FW at e;split at e
 case h_2=>cases e
 rename_i t u Kp Kn;split at e
 case isFalse=>cases e
 rename_i hu;have SZ:(∃e,P.underlying u=some (.slice e))∨P.underlying u=some .string:=by
  rw[VX]at hu;exact hu.imp (Gv hT) (DV hT)
 split at e
 ·
  rename_i z RD RC;rw[RD]at Ex;rw[RC]at ER;simp only[UJ]at e;obtain⟨⟨r,rows,CO,d⟩,e1,e⟩:=e;dsimp only at e;split at e
  case isFalse=>cases e
  rename_i Gj;split at e
  case isFalse=>cases e
  rename_i JC;obtain⟨hd,E',F,css,Fs,R,kT,hp,hs,hn⟩:=Fg (P:=P) h.bx (Ac.refl _) ER e1;obtain⟨m,rfl⟩:∃m,d=m+1:=⟨d-1,by omega⟩;have RW:a.eval o1= .slice none 0 0:=Ex;obtain⟨v,w',E3,hr,r1,r2,r3⟩:=HV hT h (ty:=o.type) Kp Kn SZ Gj kT (v1:= .slice none 0 0) (Fd:=[]) (drows:=[]) H_ hs hn (R:=R) (by simpa using hp) (by simpa using JC);rw[←RW]at hr;simp only[VM]at r1 r3;exact⟨_,_,_,_,_,.inl (exec hr),r1,r3,r2.any,rfl,e⟩
 ·rename_i z1 z2 Pc RD RC
  rw[RD]at Ex;rw[RC]at ER;simp only[UJ]at e;obtain⟨⟨r,rows,Gc,d⟩,e1,e⟩:=e;dsimp only at e;split at e
  case isFalse=>cases e
  rename_i Gj;simp only[UJ]at e;obtain⟨⟨q,srows0,EC,ds⟩,e2,Ck,e3,e⟩:=e;dsimp only at e e3;obtain⟨hqr,e4⟩:=A4 e3;subst hqr;subst e4;dsimp only at e;split at e
  case isFalse=>cases e
  rename_i JC;obtain⟨hd,F1,F2,k1,ho1⟩:=Fh h.bx (Ac.refl _) Ex e1;obtain⟨hds,E',F3,css,Fs,R,k2,hp,hs,hn⟩:=Fg (P:=P) k1.boxes ((Ac.refl _).H8 k1) ER e2;obtain⟨m,hm⟩:∃m,min d ds=m+1:=⟨min d ds-1,by omega⟩;rw[hm]at e;obtain⟨A,W1,p1,ho1'⟩:=BO (d:=m+1) (by omega) ho1;obtain⟨Gs,W2,p2,Ot⟩:=hs.weaken (d':=m) (by omega);have hB:=k2.boxes.perm (G':=(A++Gs.flatten++(R++F2))++(W1++W2)++[]) (by
   rw[Ud,Ud];refine((hp.trans (p2.append_right R)).append (p1.append_right F2)).trans ?_
   classical
   rw[VY];intro c;simp only[List.count_append];omega)
  obtain⟨hle,DQ⟩:=hB.share;have kT:Au E w σ.bx σ.bx [] _ EC (A++Gs.flatten++(R++F2)):=⟨(k1.le.trans k2.le).trans hle,k2.len.trans k1.len,fun b B hb=>(k2.within b B hb).elim .inl (k1.within b B),DQ⟩;have O1:Ow w (fun c=>E'.S c∨c∈W1++W2) (m+1) (.sl q) [a.eval o1] rows A:=
   AY (fun c hc=>hc.imp (k2.le.S c) (by simp_all)) (fun _ _=>rfl) (fun _ _=>rfl) ho1'
  have Pj:Ai w (fun c=>E'.S c∨c∈W1++W2) m q css srows0 Gs:=Ot.mono (fun c hc=>hc.imp id (by simp_all)) (fun _ _=>rfl) (fun _ _=>rfl);obtain⟨v,w',E3,hr,r1,r2,r3⟩:=HV hT h (ty:=o.type) Kp Kn SZ Gj kT O1 Pj hn (Vc _) JC;exact⟨_,_,_,_,_,.inl (exec hr),r1,r3,r2.any,rfl,e⟩
 ·cases e
end
end Go.Fw
end
section
namespace Go.Fw
theorem Ha{P:Program}{w:World}{b o:Nat}{ty:TypeId}{v:Value}(ht:w.there b o v.cells.toList.length)(hi:(P.info? ty).map (·.size)=some v.cells.toList.length)(h1:∀u∈v.cells.toList,u.oneCell' =true):
  (Instr.storeAt ty (.pointer (some ⟨b,o,none⟩)) v).run P w= .ok () (w.setCells b o v.cells.toList):=by
 have:=run_storeCells_cells (P:=P) b o v.cells.toList 0 w (fun j hj=>by simpa using(ht j hj).1) (fun j hj=>by simpa using(ht j hj).2) h1;cases hq:P.info? ty with
 |none=>simp[hq]at hi
 |some i=>
  have hs:v.cells.size=i.size:=by simp[hq]at hi;omega
  simp only[VB]at this;simp[Instr.storeAt,Instr.sureAddr,storeVar,sizeOf,typeInfo,hq,hs,this]
theorem Ed{E E1 E':Env}{w w':World}{vw Gc CO:List Bx}{F:T7}(b0:Nat)(k:Au E w vw vw [] E1 Gc F)(st:∀c,E.S c→E.T c)(hlen:vw.length≤CO.length)
  (Gm:∀b d r rows,b≠b0→b<vw.length→CO[b]? =some (.sl d r rows)→Gc[b]? =some (.sl d r rows)) (KF:∀b,b<vw.length→E'.A5 b=E1.A5 b) (FN:∀b,b<vw.length→E'.A7 b=E1.A7 b) (hT:E'.T=E1.T) (hS:E'.S=E1.S)
  (hw:∀c,c<w.heap.size→c∉F→w'.heap[c]? =w.heap[c]?)
  (h0:∀d r rows,CO[b0]? =some (.sl d r rows)→ ∃d0 CV,vw[b0]? =some (.sl d0 r CV)∧
   ∀p,AM r CV p→ ∀q ys,Aq r CV p=some ⟨q,ys⟩→AM r rows p∧(∃Iq,Aq r rows p=some ⟨q,Iq⟩∧List.length Iq=List.length ys)∧
    ∀h,BG w (E.A7 b0) p=some h→BG w' (E'.A7 b0) p=some h):Cm E w vw E' w' CO:=by
 have hB:=k.boxes;obtain⟨Fs,⟨h1,h2⟩,h3⟩:=hB;simp only[Ud]at h3;have Nn:∀c,E1.T c→w'.heap[c]? =w.heap[c]?:=fun c hc=>hw c (h3.FI c hc) fun hf=>h3.free c (by simp[hf]) hc
 refine⟨hlen,fun b hb=>by rw[KF b hb,k.le.A5],fun c hc=>by rw[hT];exact k.le.T c hc,fun c hc=>by rw[hS];exact k.le.S c hc,st,fun c hc=>Nn c (k.le.T c hc),fun b d r rows hb e=> ?_⟩;by_cases hb0:b=b0
 ·subst hb0
  exact h0 d r rows e
 have e1:=Gm b _ _ _ hb0 hb e;rcases k.within b _ e1 with e2|e2
 ·cases e2
 ·refine⟨d,rows,e2,fun p hp q ys hg=>⟨hp,⟨ys,hg,rfl⟩,fun h' hh=> ?_⟩⟩
  have hF:Fs[b]? =some (Fs[b]'(by have:=(UF.1 e1).1;omega)):=UH _;obtain⟨hd,ho⟩:=h2 b _ _ e1 hF;rw[FN b hb];rw[←k.le.A7]at hh;refine KH ho (fun c hc=>Nn c (h3.st c hc)) (fun c hc=> ?_) hp hg hh;have La:c∈Fs.flatten:=UZ.2 ⟨_,UO hF,hc⟩;exact hw c (h3.lt c (by simp[La])) fun hf=>(UN.1 h3.nodup).2.2 c La c hf rfl
def Bx.map(f:AV→AV):Bx→Bx
 | .mem cs=> .mem (cs.map f)
 |B=>B
theorem AK.QI{E E':Env}{w w':World}{vw vw' bx:List Bx}{G:T7}(f:AV→AV)(h:AK E w vw bx G)(k:∀x v,VR E w vw x v→VR E' w' vw' (f x) v)
  (hS:∀c,E.S c→E'.S c) (KF:∀b,b<bx.length→E'.A5 b=E.A5 b) (FN:∀b,b<bx.length→E'.A7 b=E.A7 b)
  (hw:∀c,(E.S c∨(¬E.T c∧c∉G))→c<w.heap.size→w'.heap[c]? =w.heap[c]?)
  (M3:∀F,Sep E w (F++G)→Sep E' w' (F++G)):AK E' w' vw' (bx.map (Bx.map f)) G:=by
 obtain⟨Fs,⟨hl,h1⟩,h2⟩:=h;refine⟨Fs,⟨by simpa using hl,fun n B F hn hF=> ?_⟩,M3 _ h2⟩;rw[Ue,UI]at hn;obtain⟨B,hn,rfl⟩:=hn;have CK:=(UF.1 hn).1;have h3:=h1 n B F hn hF;have LW:∀c∈F,c∈Fs.flatten:=fun c hc=>UZ.2 ⟨F,UO hF,hc⟩
 have OY:∀c∈F,w'.heap[c]? =w.heap[c]?:=fun c hc=>hw c (.inr ⟨h2.free c (by simp[LW c hc]),fun hg=>by
  have:=(UN.1 h2.nodup).2.2 c (LW c hc) c hg;exact this rfl⟩) (h2.lt c (by simp[LW c hc]))
 have I7:∀c,E.S c→w'.heap[c]? =w.heap[c]?:=fun c hc=>hw c (.inl hc) (h2.FI c (h2.st c hc))
 cases B with
 |mem cs=>
  obtain⟨rfl,arr,ty,fr,ha,hu,hv⟩:=h3;refine⟨by rw[KF n CK],arr,ty,fr,?_,hu,AF.Ba f k hv⟩;rw[KF n CK,OY _ (by simp),ha]
 |sl d r rows=>
  obtain⟨hd,ho⟩:=h3;refine⟨hd,?_⟩;rw[FN n CK];exact AY hS I7 OY ho
 |dead=>exact h3
theorem Bx.map_id:∀B:Bx,Bx.map id B=B
 | .mem cs=>by simp[Bx.map]
 | .sl _ _ _=>rfl
 | .dead=>rfl
theorem EK(bx:List Bx):bx.map (Bx.map id)=bx:=by
 induction bx with
 |nil=>rfl
 |cons B l ih=>simp[ih,Bx.map_id]
theorem HK(b:Nat)(bx:List Bx):bx.map (L5 b)=bx.map (Bx.map (BI b)):=by
 apply VC;intro B _;cases B<;>rfl
theorem Mg{E:Env}{σ:St}{a:Act}{w:World}(h:Rel E σ a w){b j:Nat}{cs Eu:List AV}(hb:σ.bx[b]? =some (.mem cs)){xs:List AV}{vs:List Value}(hx:GD E w σ.bx xs vs)(Ht:xs≠[])
  (e:Dd cs j xs=some Eu):
  w.there (E.A5 b) j vs.length∧Rel E { σ with bx:=σ.bx.set b (.mem Eu) } a (w.setCells (E.A5 b) j vs)∧CX [b] E σ.bx w E (σ.bx.set b (.mem Eu)) (w.setCells (E.A5 b) j vs):=by
 have st:=h.bx.st;obtain⟨F,⟨rfl,arr,ty,fr,ha,hu,hv⟩,hB⟩:=h.bx.take hb;simp only[Ud]at hB;have CK:=(UF.1 hb).1;rcases De hv hx e with⟨h1,h2⟩|⟨h1,_⟩
 case inr=>exact absurd h1 Ht
 have EM:j+vs.length≤arr.size:=by
  have l1:=AF.len hv;have l2:=AF.len hx;simp only[VF]at l1;omega
 have Cg: ¬E.T (E.A5 b):=hB.Nj _ (by simp);have QG:=hB;have D3:∀c,c≠E.A5 b→(w.setCells (E.A5 b) j vs).heap[c]? =w.heap[c]?:=fun c hc=>BZ _ _ _ _ _ hc
 have hw:∀c,c<w.heap.size→c∉[E.A5 b]→(w.setCells (E.A5 b) j vs).heap[c]? =w.heap[c]?:=fun c _ hc=>D3 c (by simpa using hc)
 have kT:Au E w σ.bx σ.bx [] E (σ.bx.set b .dead) [E.A5 b]:=⟨Le.refl _,by simp,fun n B hn=>by
  by_cases en:n=b
  ·subst en
   rw[UQ CK]at hn;exact .inl (by simpa using hn.symm)
  ·rw[UL (fun h=>en h.symm)]at hn
   exact .inr hn,by simpa using hB⟩
 have keep:Cm E w σ.bx E (w.setCells (E.A5 b) j vs) (σ.bx.set b (.mem Eu)):=Ed b kT st (by simp) (fun n d r rows hn _ hq=>by
   rw[UL (by omega)]at hq⊢;exact hq) (fun _ _=>rfl) (fun _ _=>rfl) rfl rfl hw (fun d r rows hq=>by
   rw[UQ CK]at hq;cases hq)
 refine⟨Ge ha EM hu,⟨h.Bu,h.tm.imp fun _ _ hq=>B_ keep hq,?_⟩,⟨⟨fun _ h=>h,fun _ h=>h,fun _ h=> .inl h,fun _ h=> .inl h,fun c hc=>D3 c (fun e=>Cg (e▸hc)),(AN _ _ _ _).os,(AN _ _ _ _).tape,(AN _ _ _ _).output,(AN _ _ _ _).size⟩,by simp,fun _ _=>⟨rfl,rfl⟩,fun n hn=>by
  rw[UL (fun e=>by subst e;rw[hb]at hn;cases hn)];exact hn,fun n B B' I6 hB CZ MF=>by
  simp at I6;rw[UL (fun e=>I6 e.symm),hB]at CZ;cases CZ;refine⟨C7.refl MF,fun c hc=>D3 c (fun e=> ?_)⟩;obtain⟨Fs,⟨f1,f2⟩,f3⟩:=QG;have DQ:(σ.bx.set b .dead)[n]? =some B:=by rw[UL (fun e=>I6 e.symm)];exact hB
  have hF:Fs[n]? =some (Fs[n]'(by have:=(UF.1 DQ).1;omega)):=UH _;rcases FU (f2 n B _ DQ hF) hc with hs|hs
  ·exact Cg (e▸st c hs)
  ·exact(UN.1 f3.nodup).2.2 c (UZ.2 ⟨_,UO hF,hs⟩) (E.A5 b) (by simp) e⟩⟩
 have hT:=hB.turn (E':=E) (w':=w.setCells (E.A5 b) j vs) (vw':=σ.bx.set b (.mem Eu)) (fun x v hq=>Al keep hq) (fun _ h=>h) (fun _ _=>rfl) (fun _ _=>rfl) (fun c hc _=>D3 c (fun e=>by
   rcases hc with hc|hc
   ·exact Cg (e▸st c hc)
   ·exact hc.2 (by simp[e]))) (fun F hF=>⟨hF.nodup,hF.free,fun c hc=>by rw[Aw];exact hF.lt c hc,hF.st,fun c hc=>by rw[Aw];exact hF.FI c hc,hF.KS.mono (fun _ h=>h) (fun c hc=>D3 c (fun e=>Cg (e▸hc)))⟩)
 have:=AK.put (b:=b) (B:= .mem Eu) (F:=[E.A5 b]) (G:=[]) (by simpa using hT) (by rw[UQ CK]) ⟨rfl,Aj arr j vs,ty,fr,BS _ _ _ _ _ _ _ ha,by rw[BT];exact hu,h1.imp fun _ _ hq=>Al keep hq⟩;rw[VZ]at this;exact this
theorem Df:∀{r:Ty} {j j':Nat} {x:r.D} {t:Ty} {y:t.D} {x':r.D},AQ r j x t y=some x'→j'≠j→AB r j' x' =AB r j' x
 | .cons c r,0,j',x,t,y,x',e,hj=>by
  simp only[AQ]at e;split at e
  ·rename_i h
   subst h;simp only[UG]at e;subst e;cases j' with
   |zero=>exact absurd rfl hj
   |succ j' =>simp[AB]
  ·cases e
 | .cons c r,j+1,j',x,t,y,x',e,hj=>by
  simp only[AQ,UI]at e;obtain⟨z,e1,rfl⟩:=e;cases j' with
  |zero=>simp[AB]
  |succ j' =>
   simp only[AB];exact Df e1 (by omega)
 | .unit,_,_,_,_,_,_,e,_=>by simp[AQ]at e
 | .int k,0,j',x,t,y,x',e,hj=>by cases j' with
  |zero=>exact absurd rfl hj
  |succ j' =>simp[AB]
 | .bool,0,j',x,t,y,x',e,hj=>by cases j' with
  |zero=>exact absurd rfl hj
  |succ j' =>simp[AB]
 | .str,0,j',x,t,y,x',e,hj=>by cases j' with
  |zero=>exact absurd rfl hj
  |succ j' =>simp[AB]
 | .sl _,0,j',x,t,y,x',e,hj=>by cases j' with
  |zero=>exact absurd rfl hj
  |succ j' =>simp[AB]
 | .int _,_+1,_,_,_,_,_,e,_=>by simp[AQ]at e
 | .bool,_+1,_,_,_,_,_,e,_=>by simp[AQ]at e
 | .str,_+1,_,_,_,_,_,e,_=>by simp[AQ]at e
 | .sl _,_+1,_,_,_,_,_,e,_=>by simp[AQ]at e
theorem C4:∀{r:Ty} {j:Nat} {x:r.D} {t:Ty} {y:t.D} {x':r.D},AQ r j x t y=some x'→AB r j x' =some ⟨t,y⟩∧ ∃y0:t.D,AB r j x=some ⟨t,y0⟩
 | .cons c r,0,x,t,y,x',e=>by
  simp only[AQ]at e;split at e
  ·rename_i h
   subst h;simp only[UG]at e;subst e;exact⟨rfl,_,rfl⟩
  ·cases e
 | .cons c r,j+1,x,t,y,x',e=>by
  simp only[AQ,UI]at e;obtain⟨z,e1,rfl⟩:=e;simp only[AB];exact C4 e1
 | .unit,_,_,_,_,_,e=>by simp[AQ]at e
 | .int k,0,x,t,y,x',e=>by
  simp only[AQ]at e;split at e
  ·rename_i h;subst h;cases e;exact⟨rfl,_,rfl⟩
  ·cases e
 | .bool,0,x,t,y,x',e=>by
  simp only[AQ]at e;split at e
  ·rename_i h;subst h;cases e;exact⟨rfl,_,rfl⟩
  ·cases e
 | .str,0,x,t,y,x',e=>by
  simp only[AQ]at e;split at e
  ·rename_i h;subst h;cases e;exact⟨rfl,_,rfl⟩
  ·cases e
 | .sl _,0,x,t,y,x',e=>by
  simp only[AQ]at e;split at e
  ·rename_i h;subst h;cases e;exact⟨rfl,_,rfl⟩
  ·cases e
 | .int _,_+1,_,_,_,_,e=>by simp[AQ]at e
 | .bool,_+1,_,_,_,_,e=>by simp[AQ]at e
 | .str,_+1,_,_,_,_,e=>by simp[AQ]at e
 | .sl _,_+1,_,_,_,_,e=>by simp[AQ]at e
theorem Gz{r:Ty}{rows:List r.D}{i k:Nat}{x:r.D}(hi:i<rows.length):rowAt r (rows.set i x) k=if k=i then x else rowAt r rows k:=by
 unfold rowAt;rw[U5,U5,U0];by_cases e:k=i
 ·subst e;simp[hi]
 ·rw[U1 (fun h=>e h.symm),U1 e]
theorem ID:∀{p:List HW} {r:Ty} {rows rows':List r.D} {q:Ty} {ys Iq:List q.D},Aq r rows p=some ⟨q,ys⟩→Iq.length=ys.length→IZ r rows p q Iq=some rows'→rows'.length=rows.length
 |[],r,rows,rows',q,ys,Iq,h1,h2,h3=>by
  simp only[Aq,UG,UP]at h1;obtain⟨rfl,h1⟩:=h1;obtain rfl:=Uc h1;simp only[IZ,VW,CS,UG]at h3;rw[←h3];exact h2
 |s::p,r,rows,rows',q,ys,Iq,h1,h2,h3=>by
  simp only[IZ]at h3;split at h3
  ·simp only[UJ,UI]at h3
   obtain⟨_,_,_,_,rfl⟩:=h3;simp
  ·cases h3
theorem HN{t:Ty}(ht:t.scalar=true){y:t.D}{q:Ty}{i j:Nat}:∀{p':List HW} {r:Ty} {rows rows':List r.D} {p:List HW} {ys:List q.D} {EP:q.D},AM r rows p→Aq r rows p=some ⟨q,ys⟩→i<ys.length→
  AQ q j (rowAt q ys i) t y=some EP→IZ r rows p q (ys.set i EP)=some rows'→AM r rows p'→ ∀q' zs,Aq r rows p' =some ⟨q',zs⟩→
   AM r rows' p'∧ ∃zs',Aq r rows' p' =some ⟨q',zs'⟩∧List.length zs' =List.length zs
 |[],r,rows,rows',p,ys,EP,_,hg,hi,hc,hs,_,q',zs,LU=>by
  simp only[Aq,UG,UP]at LU;obtain⟨rfl,LU⟩:=LU;obtain rfl:=Uc LU;exact⟨by simp[AM],rows',by simp[Aq],ID hg (by simp) hs⟩
 |s'::p',r,rows,rows',p,ys,EP,hp,hg,hi,hc,hs,OL,q',zs,LU=>by
  have hlen:=ID hg (by simp) hs;simp only[AM]at OL⊢;obtain⟨g1,g2,g3⟩:=OL;simp only[Aq]at LU⊢;split at LU
  case h_2=>cases LU
  rename_i q0 x0 E_;rw[E_]at g3;dsimp only at g3;have key:∃x1,AB r s'.j (rowAt r rows' s'.i)=some ⟨.sl q0,x1⟩∧AM q0 x1 p'∧ ∃zs',Aq q0 x1 p' =some ⟨q',zs'⟩∧List.length zs' =List.length zs:=by
   have same:AB r s'.j (rowAt r rows' s'.i)=some ⟨.sl q0,x0⟩→ ∃x1,AB r s'.j (rowAt r rows' s'.i)=some ⟨.sl q0,x1⟩∧AM q0 x1 p'∧ ∃zs',Aq q0 x1 p' =some ⟨q',zs'⟩∧List.length zs' =List.length zs:=
    fun h=>⟨x0,h,g3,zs,LU,rfl⟩
   cases p with
   |nil=>
    simp only[Aq,UG,UP]at hg;obtain⟨rfl,hg⟩:=hg;obtain rfl:=Uc hg;simp only[IZ,VW,CS,UG]at hs;subst hs;apply same;rw[Gz hi];split
    ·rename_i e
     subst e;by_cases ej:s'.j=j
     ·obtain⟨_,y0,h0⟩:=C4 hc
      rw[ej,h0]at E_;simp only[UG,UP]at E_;obtain⟨rfl,_⟩:=E_;simp[Ty.scalar]at ht
     ·rw[Df hc ej];exact E_
    ·exact E_
   |cons s p=>
    simp only[AM]at hp;obtain⟨k1,k2,k3⟩:=hp;simp only[Aq]at hg;split at hg
    case h_2=>cases hg
    rename_i r' x Rl;rw[Rl]at k3;dsimp only at k3;simp only[IZ,Rl,UJ,UI]at hs;obtain⟨x',hs1,row2,Pj,rfl⟩:=hs;rw[Gz k1];rw[Gz k1]at same;split
    ·rename_i e
     rw[Uy e]at same;rw[e]at E_;by_cases ej:s'.j=s.j
     ·rw[ej]at E_⊢
      rw[Rl]at E_;simp only[UG,UP,Ty.sl.injEq]at E_;obtain⟨rfl,E_⟩:=E_;obtain rfl:=Uc E_;obtain⟨m1,m2⟩:=HN ht k3 hg hi hc hs1 g3 q' zs LU;exact⟨x',(C4 Pj).1,m1,m2⟩
     ·exact same (by rw[Df Pj ej];exact E_)
    ·rename_i e
     rw[U1 e]at same;exact same E_
  obtain⟨x1,e1,e2,e3⟩:=key;rw[e1];exact⟨⟨by omega,g2,e2⟩,e3⟩
theorem Jp{w w':World}{B:Nat→Prop}(Dr:∀A,w'.cell? A=w.cell? A∨ ∃v,w'.cell? A=some v∧isSlice v=false):∀{p:List HW} {r:Ty} {h:Value} {rows:List r.D} {hh:Value},
  Rd w' B (.sl r) [h] rows→AM r rows p→BG w h p=some hh→BG w' h p=some hh
 |[],_,h,_,hh,_,_,e=>by rw[AJ]at e⊢;exact e
 |s::p,r,h,rows,hh,hr,hp,e=>by
  simp only[AM]at hp;obtain⟨hi,CB,hp⟩:=hp;simp only[Rd]at hr;obtain⟨a,cap,e1,_,hr⟩:=hr;obtain rfl:=(List.cons.inj e1).1;rcases hr with hr|⟨b,o,rfl,hb,hr⟩
  ·omega
  obtain⟨cs,hl,hc,hrow⟩:=hr s.i _ (CR hi);split at hp
  case h_2=>exact hp.elim
  rename_i q x E_;obtain⟨v,hv,hrv⟩:=FX hrow E_;have Oa:=hc _ _ hv;rw[←CB]at Oa;simp only[BG]at e⊢;split at e
  case h_2=>cases e
  rename_i v0 SX;rcases Dr ⟨b,o+s.i*s.sz+s.j,none⟩with h1|⟨u,h1,h2⟩
  ·rw[h1,SX]
   rw[h1,SX]at Oa;cases Oa;exact Jp Dr hrv hp e
  ·rw[Oa]at h1
   cases h1;simp only[Rd]at hrv;obtain⟨_,_,e2,_⟩:=hrv;simp only[Ua,Us]at e2;subst e2;simp[isSlice]at h2
theorem Ms{E E':Env}{w w':World}{vw vw':List Bx}{b d d':Nat}{r:Ty}{rows rows':List r.D}(k:Cm E w vw E' w' (vw'.set b .dead))(hb:vw[b]? =some (.sl d r rows))(Nv:vw'[b]? =some (.sl d' r rows'))(hl:rows'.length=rows.length)
  (hh:E'.A7 b=E.A7 b) {x:AV} {v:Value} (h:VR E w vw x v):VR E' w' vw' (BI b x) v:=by
 have h1:=Al k h;have D3:∀{b'},b'≠b→(vw'.set b .dead)[b']? =vw'[b']?:=fun e=>UL (fun h=>e h.symm)
 cases x with
 |v t x=>exact h1
 |sl s r x=>exact h1
 |nil=>exact h1
 |A6 c j=>exact⟨by simpa using h1.1,h1.2⟩
 |B3 s r x j=>exact h1
 |fn f BL=>exact⟨fun c hc=>by simpa using h1.1 c hc,h1.2⟩
 |J2 f rows=>exact h1
 |LF=>exact h1
 |undef=>trivial
 |ref c p=>
  cases p with
  |nil=>
   simp only[BI];by_cases e:c=b
   ·subst e
    simp only[VR,hb,Nv]at h⊢;refine⟨h.1,by simp[AM],⟨_,rfl⟩,?_⟩;rw[AJ,hh,←AJ (w:=w) (h:=E.A7 c)];exact h.2.2.2
   ·simp only[VR,D3 e]at h1⊢;exact h1
  |cons s p=>
   simp only[BI];split
   ·trivial
   ·rename_i e
    simp only[VR,D3 e]at h1⊢;exact h1
 |win c p off n=>
  cases p with
  |nil=>
   simp only[BI];by_cases e:c=b
   ·subst e
    simp only[VR,hb,Nv]at h⊢;obtain⟨h0,_,q,ys,a,len,cap,e1,e2,e3,e4⟩:=h;simp only[Aq,UG,UP]at e1;obtain⟨rfl,e1⟩:=e1;obtain rfl:=Uc e1;refine⟨h0,by simp[AM],r,rows',a,len,cap,rfl,by rw[hl];exact e2,?_,e4⟩;rw[AJ,hh,←AJ (w:=w) (h:=E.A7 c)];exact e3
   ·simp only[VR,D3 e]at h1⊢;exact h1
  |cons s p=>
   simp only[BI];split
   ·trivial
   ·rename_i e
    simp only[VR,D3 e]at h1⊢;exact h1
 |BH c p i sz j=>
  cases p with
  |nil=>
   simp only[BI];by_cases e:c=b
   ·subst e
    simp only[VR,hb,Nv]at h⊢;obtain⟨h0,_,q,ys,bb,o,len,cap,e1,e2,e3,e4⟩:=h;simp only[Aq,UG,UP]at e1;obtain⟨rfl,e1⟩:=e1;obtain rfl:=Uc e1;refine⟨h0,by simp[AM],r,rows',bb,o,len,cap,rfl,by rw[hl];exact e2,?_,e4⟩;rw[AJ,hh,←AJ (w:=w) (h:=E.A7 c)];exact e3
   ·simp only[VR,D3 e]at h1⊢;exact h1
  |cons s p=>
   simp only[BI];split
   ·trivial
   ·rename_i e
    simp only[VR,D3 e]at h1⊢;exact h1
theorem Nh{E E':Env}{w w':World}{vw vw':List Bx}{b:Nat}(k:∀x v,VR E w vw x v→VR E' w' vw' (BI b x) v){x:XV}{v:Value}(h:XR E w vw x v):XR E' w' vw' (KB b x) v:=by
 cases x with
 |c x=>exact k x v h
 |agg l=>
  obtain⟨vs,rfl,Dg⟩:=h;exact⟨vs,rfl,AF.Ba _ k Dg⟩
 |C9 l=>
  obtain⟨vs,rfl,Dg⟩:=h;refine⟨vs,rfl,AF.Ba _ (fun x v hx=> ?_) Dg⟩;cases x with
  |inl x=>exact k x v hx
  |inr q=>
   obtain⟨us,rfl,hus⟩:=hx;exact⟨us,rfl,AF.Ba _ k hus⟩
end Go.Fw
end
section
namespace Go.Fw
theorem Il{w:World}{vw:List Bx}{E:Env}{bx:List Bx}{G:T7}(h:AK E w vw bx G)(hw:Ac bx vw){d:Nat}(hd:1≤d){q:Ty}{QS:q.D}{j:Nat}{x:XV}{v:Value}(hv:XR E w vw x v){EP:q.D}{CO:List Bx}{d':Nat}
  (e:Is d q QS j x bx=some (EP,CO,d')):1≤d'∧d'≤d∧ ∃E' F,Au E w vw bx G E' CO F∧
   ((j=0∧x.plain=false∧Ow w E'.S (d'-1) q v.cells.toList EP F)∨(∃t y,v.cells.toList=[v]∧Ow w E'.S (d'-1) t [v] y F∧AQ q j QS t y=some EP∧(x.plain=true→t.scalar=true∧isSlice v=false))):=by
 unfold Is at e;split at e
 ·rename_i l
  split at e
  case isFalse=>cases e
  rename_i hj;obtain⟨vs,rfl,Dg⟩:=hv;obtain⟨h1,h2,E',F,h3,h4⟩:=D_ h hw hd Dg e;exact⟨h1,h2,E',F,h3,.inl ⟨hj,rfl,h4⟩⟩
 ·rename_i x
  split at e
  case h_2=>cases e
  rename_i t y0 hc;simp only[UJ,UI,Ug]at e;obtain⟨⟨y,Gc,d1⟩,e1,row,e2,rfl,rfl,rfl⟩:=e;dsimp only at e2;have Ep:VR E w vw x v:=hv;have hk:x.known=true:=by cases x<;>simp_all[AV.known,FP]
  obtain⟨h1,h2,E',F,h3,h4⟩:=Eo h hw hd Ep e1;refine⟨h1,h2,E',F,h3,.inr ⟨t,y,by rw[(KR Ep hk).2],h4,e2,fun hp=> ?_⟩⟩;cases x with
  |v u z=>
   simp only[FP,UI,Ug]at e1;obtain⟨z',e3,_⟩:=e1;obtain⟨rfl,_⟩:=A4 e3;obtain⟨hs,hr⟩:=Ep;refine⟨hs,?_⟩;cases u<;>simp_all[Ty.scalar,Rd]<;>rfl
  |_=>simp[XV.plain]at hp
 ·cases e
theorem IX{f:AV→AV}{bx:List Bx}{b d:Nat}{r:Ty}{rows:List r.D}:(bx.set b (.sl d r rows)).map (Bx.map f)=(bx.map (Bx.map f)).set b (.sl d r rows):=by
 rw[List.map_set];rfl
theorem NN{f:AV→AV}{bx:List Bx}{n d:Nat}{r:Ty}{rows:List r.D}(h:(bx.map (Bx.map f))[n]? =some (.sl d r rows)):bx[n]? =some (.sl d r rows):=by
 rw[Ue,UI]at h;obtain⟨B,h1,h2⟩:=h;cases B with
 |mem cs=>simp[Bx.map]at h2
 |sl d' r' rows' =>rw[h1];exact congrArg some h2
 |dead=>simp[Bx.map]at h2
theorem JW{E:Env}{σ:St}{a:Act}{w:World}(h:Rel E σ a w){b i sz j:Nat}{p:List HW}{va v:Value}(Nq:VR E w σ.bx (.BH b p i sz j) va){x:XV}(hv:XR E w σ.bx x v)(PS:∀u∈v.cells.toList,u.oneCell' =true)
  {σ':St} (e:Fo σ (.c (.BH b p i sz j)) x=some σ'):
  ∃bb oo E',va= .pointer (some ⟨bb,oo,none⟩)∧w.there bb oo v.cells.toList.length∧Rel E' σ' a (w.setCells bb oo v.cells.toList)∧CX [b] E σ.bx w E' σ'.bx (w.setCells bb oo v.cells.toList)∧σ'.tm.length=σ.tm.length:=by
 simp only[Fo]at e;split at e
 case h_2=>cases e
 rename_i d r rows hb;split at e
 case isFalse=>cases e
 rename_i QR;simp only[UJ]at e;obtain⟨⟨q,ys⟩,hg,e⟩:=e;dsimp only at e;split at e
 case isFalse=>cases e
 rename_i CB;simp only[UJ,UI]at e;obtain⟨⟨EP,EC,d2⟩,e1,rows',e2,e3⟩:=e;dsimp only at e1 e2 e3;have st:=h.bx.st;simp only[VR,hb]at Nq;obtain⟨_,hp,q1,ys1,bb,o,len,cap,g1,hi,g3,rfl⟩:=Nq;rw[hg]at g1;simp only[UG,UP]at g1;obtain⟨rfl,g1⟩:=g1;obtain rfl:=Uc g1;have CK:=(UF.1 hb).1;obtain⟨Gb,⟨hd1,ho⟩,hB⟩:=h.bx.take hb;have P4:Ac (σ.bx.set b .dead) σ.bx:=fun n B hn=>by
  by_cases en:n=b
  ·subst en
   rw[UQ CK]at hn;exact .inl (by simpa using hn.symm)
  ·rw[UL (fun h=>en h.symm)]at hn
   exact .inr hn
 obtain⟨hd2,hd3,E1,Fx,k1,hrow⟩:=Il hB P4 (by omega) hv e1;obtain⟨A,W,pG,O1⟩:=BO (d:=d2+p.length) (by omega) ho;have DQ:=k1.boxes.perm (G':=(Fx++A)++W++[]) (by
  rw[Ud,Ud,UM];exact UX _ pG)
 obtain⟨hle,hB3⟩:=DQ.share;simp only[Ud]at hB3
 generalize Sl:({ E1 with S:=fun c=>E1.S c∨c∈W,T:=fun c=>E1.T c∨c∈W }:Env)=E3 at hle hB3
 have Hh:Le E E3:=k1.le.trans hle;have Qm:Ow w E3.S (d2+p.length) (.sl r) [E.A7 b] rows A:=AY (fun c hc=>by
  subst Sl;exact hc.imp (k1.le.S c) id) (fun _ _=>rfl) (fun _ _=>rfl) O1
 obtain⟨h',F1,F2,m1,m2,m3,m4⟩:=Io Qm hp hg (by omega);rw[g3]at m1;cases m1;obtain⟨m,rfl⟩:∃m,d2=m+1:=⟨d2-1,by omega⟩;rw[show m+1+p.length-p.length=m+1 by omega]at m2 m4;simp only[Nat.add_sub_cancel]at hrow;obtain⟨b1,o1,arr,ty,fr,cs,G,R,n1,n2,n3,n4,n5,n6,n7,n8,n9⟩:=Jx m2 hi;simp only[UG,Addr.mk.injEq,Us]at n1;obtain⟨rfl,rfl⟩:=n1;subst CB;have RZ:A.Perm (G++(bb::R)++F2):=m3.trans (n8.append_right F2);obtain⟨Fs,hFs1,hFs2⟩:=hB3;have RM:bb∈A:=RZ.mem_iff.2 (by simp);have Cg: ¬E3.T bb:=hFs2.free bb (by simp[RM]);have Hz: ¬E3.S bb:=fun hc=>Cg (hFs2.st bb hc)
 have nd:(Fx++(G++(bb::R)++F2)).Nodup:=(UX Fx RZ).nodup_iff.1 (UN.1 hFs2.nodup).2.1;have Sd:bb∉Fx:=fun hc=>(UN.1 nd).2.2 bb hc bb (by simp) rfl
 have Sm:bb∉G:=fun hc=>(UN.1 (UN.1 (UN.1 nd).2.1).1).2.2 bb hc bb (by simp) rfl
 have S6:bb∉R:=(U9.1 (UN.1 (UN.1 (UN.1 nd).2.1).1).2.1).1;have Sx:bb∉F2:=fun hc=>(UN.1 (UN.1 nd).2.1).2.2 bb (by simp) bb hc rfl
 have MG:j+v.cells.toList.length≤q.n:=by
  rcases hrow with⟨rfl,_,ho4⟩|⟨t,y,hc1,ho4,E4,_⟩
  ·rw[DS ho4];omega
  ·rw[hc1]
   obtain⟨_,y0,Ny⟩:=C4 E4;obtain⟨u,_,_,hu,_⟩:=Fb n7 Ny;have:=(UF.1 hu).1;simp;omega
 have EM:o+i*q.n+j+v.cells.toList.length≤arr.size:=by omega
 let w':=w.setCells bb (o+i*q.n+j) v.cells.toList
 have D3:∀c,c≠bb→w'.heap[c]? =w.heap[c]?:=fun c hc=>BZ _ _ _ _ _ hc
 have I7:∀c,E3.S c→w'.heap[c]? =w.heap[c]?:=fun c hc=>D3 c (fun e=>Hz (e▸hc))
 have Nv:=BS v.cells.toList (o+i*q.n+j) w bb arr ty fr n2;have Dr:∃Eu G' D0,Eu.length=q.n∧AG w' bb (o+i*q.n) Eu∧Ow w' E3.S m q Eu EP G'∧(Fx++G).Perm (G'++D0):=by
  rcases hrow with⟨rfl,_,ho4⟩|⟨t,y,hc1,ho4,E4,_⟩
  ·refine⟨v.cells.toList,Fx,G,DS ho4,C1 n2 EM,AY (fun c hc=>hle.S c hc) (fun c hc=>D3 c (fun e=>Hz (e▸hle.S c hc))) (fun c hc=>D3 c (fun e=>Sd (e▸hc))) ho4,Vc _⟩
  ·obtain⟨_,y0,Ny⟩:=C4 E4
   obtain⟨u,K1,K2,z1,z2,z3,z4⟩:=Fb n7 Ny;have RU:bb∉K2:=fun hc=>Sm (z3.mem_iff.2 (by simp[hc]))
   obtain⟨F',f1,f2⟩:=z4 w' E3.S v y Fx EP (fun _ hc=>hc) I7 (fun c hc=>D3 c (fun e=>RU (e▸hc)))
    (AY (fun c hc=>hle.S c hc) (fun c hc=>D3 c (fun e=>Hz (e▸hle.S c hc))) (fun c hc=>D3 c (fun e=>Sd (e▸hc))) ho4) E4
   refine⟨cs.set j v,F',K1,by simpa using n5,fun x u' hx=> ?_,f2,?_⟩
   ·rw[U0]at hx
    split at hx
    ·rename_i Sc
     subst Sc;split at hx
     ·cases hx
      have:=C1 (w:=w) (b:=bb) (o:=o+i*q.n+j) (vs:=v.cells.toList) n2 EM 0 v (by rw[hc1];rfl);simpa using this
     ·cases hx
    ·rename_i Sc
     have hold:=n6 x u' hx;rw[Bk n2]at hold;rw[Bk Nv,DH EM,U1 (fun hh=>by rw[hc1]at hh;simp only[Uf,Um]at hh;omega),hold]
   ·refine(UX Fx z3).trans ?_
    refine List.Perm.trans ?_ (f1.symm.append_right K1)
    rw[UM];exact UX _ UY
 obtain⟨Eu,G',D0,c1,c2,c3,c4⟩:=Dr;obtain⟨HX,f1,f2⟩:=n9 w' E3.S (Aj arr (o+i*q.n+j) v.cells.toList) Eu EP G' (fun _ hc=>hc) I7 (fun c hc=>D3 c (fun e=>S6 (e▸hc))) Nv (BT _ _ _) (fun k hk=>by
  rw[DH EM,U1 (by omega)]) c1 c2 c3
 obtain⟨F',f3,f4⟩:=m4 w' E3.S (ys.set i EP) HX rows' (fun _ hc=>hc) I7 (fun c hc=>D3 c (fun e=>Sx (e▸hc))) f2 e2;have HT:(Fx++A).Perm (F'++D0):=by
  have p1:F'.Perm (G'++(bb::R)++F2):=f3.trans (f1.append_right F2);refine(UX Fx RZ).trans (List.Perm.trans ?_ (p1.symm.append_right D0))
  classical
  rw[VY];intro c;have h4:=(VY.1 c4) c;simp only[List.count_append]at h4⊢;omega
 have Rp:bb∈F':=(f3.trans (f1.append_right F2)).mem_iff.2 (by simp);have Qn:AK E3 w σ.bx EC F':=by
  have:AK E3 w σ.bx EC (F'++D0):=AK.perm (G:=Fx++A) ⟨Fs,hFs1,hFs2⟩ HT;exact this.drop
 have HG:EC.length=σ.bx.length:=by rw[k1.len];simp
 have Qd:EC[b]? =some .dead:=by
  obtain⟨B,hB⟩:∃B,EC[b]? =some B:=⟨_,UH (by omega)⟩;rcases k1.within b B hB with e|e
  ·rw[hB,e]
  ·rw[UQ CK]at e;rw[hB];exact e.symm
 have TN:rows'.length=rows.length:=ID hg (by simp) e2;have kT:∀E0,Le E0 E3→Au E0 w σ.bx σ.bx [] E3 EC (Fx++A):=fun E0 hl=>⟨hl,HG,fun n B hn=>by
  rcases k1.within n B hn with e|e
  ·exact .inl e
  ·exact(P4 n B e),⟨Fs,hFs1,by simpa using hFs2⟩⟩
 have FN:∀n,E3.A7 n=E.A7 n:=fun n=>by rw[Hh.A7]
 have R5:∀c,c<w.heap.size→c∉Fx++A→w'.heap[c]? =w.heap[c]?:=fun c _ hc=>D3 c (fun e=>hc (by rw[e];simp[RM]))
 have base:Fc E w E3 w':=⟨Hh.T,Hh.S,Hh.N_,Hh.L7,fun c hc=>D3 c (fun e=>Cg (e▸Hh.T c hc)),(AN _ _ _ _).os,(AN _ _ _ _).tape,(AN _ _ _ _).output,(AN _ _ _ _).size⟩;have finish:∀(f:AV→AV) (g:XV→XV),(∀E0,Le E0 E3→(∀c,E0.S c→E0.T c)→ ∀x v,VR E0 w σ.bx x v→VR E3 w' ((EC.map (Bx.map f)).set b (.sl (m+1+p.length) r rows')) (f x) v)→
   (∀x v,XR E w σ.bx x v→XR E3 w' ((EC.map (Bx.map f)).set b (.sl (m+1+p.length) r rows')) (g x) v)→
   Rel E3 { tm:=σ.tm.map g,bx:=(EC.map (Bx.map f)).set b (.sl (m+1+p.length) r rows') } a w':=by
  intro f g hf hg;refine⟨h.Bu,AF.Ba _ hg h.tm,?_⟩;have hT:=Qn.QI (E':=E3) (w':=w') (vw':=(EC.map (Bx.map f)).set b (.sl (m+1+p.length) r rows')) f (hf E3 (Le.refl _) hFs2.st) (fun _ h=>h) (fun _ _=>rfl) (fun _ _=>rfl) (fun c hc _=>D3 c (fun e=>by
    rcases hc with hc|hc
    ·exact Hz (e▸hc)
    ·exact hc.2 (by rw[e];exact Rp))) (fun F hF=>⟨hF.nodup,hF.free,fun c hc=>by rw[Aw];exact hF.lt c hc,hF.st,fun c hc=>by rw[Aw];exact hF.FI c hc,hF.KS.mono (fun _ h=>h) (fun c hc=>D3 c (fun e=>Cg (e▸hc)))⟩)
  refine AK.put (F:=F') (G:=[]) (by simpa using hT) (by rw[Ue,Qd];rfl) ⟨by omega,?_⟩;rw[FN];exact f4
 have N1:∀f:AV→AV,CX [b] E σ.bx w E3 ((EC.map (Bx.map f)).set b (.sl (m+1+p.length) r rows')) w':=fun f=>⟨base,by simp[HG],fun n _=>⟨by rw[Hh.A5],FN n⟩,fun n hn=>by
  have I6:n≠b:=fun e=>by subst e;rw[hb]at hn;cases hn
  have K9:=(UF.1 hn).1;rw[UL (fun e=>I6 e.symm),Ue];obtain⟨B,hB⟩:∃B,EC[n]? =some B:=⟨_,UH (by omega)⟩;have TO:B= .dead:=by
   rcases(kT E Hh).within n B hB with e|e
   ·exact e
   ·rw[hn]at e;cases e;rfl
  rw[hB,TO];rfl,fun n B B' I6 hB CZ MF=>by
  simp at I6;have K9:=(UF.1 hB).1;rw[UL (fun e=>I6 e.symm),Ue]at CZ;obtain⟨B2,DQ⟩:∃B2,EC[n]? =some B2:=⟨_,UH (by omega)⟩;rw[DQ]at CZ;have CZ:Bx.map f B2=B':=by simpa using CZ
  have TL:B2=B:=by
   rcases(kT E Hh).within n B2 DQ with e|e
   ·subst e;exact absurd CZ.symm MF
   ·rw[hB]at e;cases e;rfl
  subst TL;refine⟨?_,fun c hc=>D3 c (fun e=> ?_)⟩
  ·subst CZ
   cases B2 with
   |mem cs=>trivial
   |sl d r rows=>rfl
   |dead=>exact absurd rfl MF
  ·have hF:Fs[n]? =some (Fs[n]'(by have:=(UF.1 DQ).1;rw[hFs1.1];exact this)):=UH _
   have Hj:K_ E3 w n B2 c:=by
    cases B2 with
    |mem cs=>simp only[K_]at hc⊢;rw[Hh.A5];exact hc
    |sl d r rows=>simp only[K_]at hc⊢;rw[FN];exact hc
    |dead=>exact hc
   rcases FU (hFs1.2 n B2 _ DQ hF) Hj with hs|hs
   ·exact Hz (e▸hs)
   ·exact(UN.1 hFs2.nodup).2.2 c (UZ.2 ⟨_,UO hF,hs⟩) bb (by simp[RM]) e⟩
 refine⟨bb,o+i*q.n+j,E3,rfl,Ge (k:=0) n2 EM n3,?_,?_,?_⟩
 ·split at e3
  ·rename_i Pu
   have h0:∀E0,Le E0 E3→(∀c,E0.S c→E0.T c)→Cm E0 w σ.bx E3 w' (EC.set b (.sl (m+1+p.length) r rows')):=by
    intro E0 hl Qc;refine Ed b (kT E0 hl) Qc (by simp[HG]) (fun n d r rows hn _ hq=>by
      rw[UL (fun e=>hn e.symm)]at hq;exact hq) (fun _ _=>rfl) (fun _ _=>rfl) rfl rfl R5 (fun d0 r0 CV hq=> ?_)
    rw[UQ (by omega)]at hq;simp only[UG,Bx.sl.injEq]at hq;obtain⟨rfl,rfl,hq⟩:=hq;obtain rfl:=Uc hq;refine⟨d,rows,hb,fun p' OL q' zs LU=> ?_⟩;rcases hrow with⟨_,QX,_⟩|⟨t,y,hc1,ho4,E4,OQ⟩
    ·rw[Pu]at QX;cases QX
    obtain⟨hs1,Pj⟩:=OQ Pu;have hk:=HN hs1 hp hg hi E4 e2 OL q' zs LU;refine⟨hk.1,hk.2,fun hh Sf=> ?_⟩;rw[FN];rw[←hl.A7,FN]at Sf;refine Jp (fun Ad=> ?_) (Dy f4) hk.1 Sf;by_cases eA:Ad.block=bb∧Ad.spot=none∧Ad.off=o+i*q.n+j
    ·right
     obtain⟨ab,ao,asp⟩:=Ad;simp only at eA;rw[eA.1,eA.2.1,eA.2.2];refine⟨v,?_,Pj⟩;have:=C1 (w:=w) (b:=bb) (o:=o+i*q.n+j) (vs:=v.cells.toList) n2 EM 0 v (by rw[hc1];rfl);simpa using this
    ·left
     refine World.cell?_setCells_out bb v.cells.toList (o+i*q.n+j) w Ad (fun q1 q2=> ?_)
     rw[hc1];simp only[Uf,Um];have:Ad.off≠o+i*q.n+j:=fun q3=>eA ⟨q1,q2,q3⟩
     omega
   have:=finish id id (fun E0 hl Qc x v hx=>by rw[EK];exact Al (h0 E0 hl Qc) hx) (fun x v hx=>by rw[EK];exact B_ (h0 E Hh st) hx);rw[EK,List.map_id]at this;rw[←e3];exact this
  ·have h0:∀E0,Le E0 E3→(∀c,E0.S c→E0.T c)→ ∀x v,VR E0 w σ.bx x v→VR E3 w' ((EC.map (Bx.map (BI b))).set b (.sl (m+1+p.length) r rows')) (BI b x) v:=by
    intro E0 hl Qc x v hx;have keep:Cm E0 w σ.bx E3 w' (((EC.map (Bx.map (BI b))).set b (.sl (m+1+p.length) r rows')).set b .dead):=by
     refine Ed b (kT E0 hl) Qc (by simp[HG]) (fun n d r rows hn _ hq=>by
      rw[UL (fun e=>hn e.symm),UL (fun e=>hn e.symm)]at hq;exact NN hq) (fun _ _=>rfl) (fun _ _=>rfl) rfl rfl R5 (fun d0 r0 CV hq=> ?_)
     rw[UQ (by simp;omega)]at hq;cases hq
    exact Ms keep hb (by rw[UQ (by simp;omega)]) TN (by rw[hl.A7]) hx
   have:=finish (BI b) (KB b) h0 (fun x v hx=>Nh (h0 E Hh st) hx);rw[←e3];simp only[St.Lv];rw[HK,IX];exact this
 ·rw[←e3]
  split
  ·have:=N1 id
   rw[EK]at this;exact this
  ·simp only[St.Lv]
   rw[HK,IX];exact N1 _
 ·rw[←e3]
  split<;>simp[St.Lv]
end Go.Fw
end
section
namespace Go.Fw
theorem J0{w w':World}{B B':Nat→Prop}:∀{r:Ty} {cs:List Value} {x:r.D},r.flat=true→Rd w B r cs x→Rd w' B' r cs x
 | .cons c r,cs,x,h,hr=>by
  simp only[Ty.flat,UT]at h;simp only[Rd]at hr⊢;obtain⟨v,l,rfl,h1,h2⟩:=hr;exact⟨v,l,rfl,J0 h.1 h1,J0 h.2 h2⟩
 | .unit,_,_,_,hr=>by simpa only[Rd]using hr
 | .int k,_,_,_,hr=>by simpa only[Rd]using hr
 | .bool,_,_,_,hr=>by simpa only[Rd]using hr
 | .str,_,_,_,hr=>by simpa only[Rd]using hr
 | .sl q,_,_,h,_=>by simp[Ty.flat]at h
theorem E8{w:World}{S:Nat→Prop}{d:Nat}:∀{r:Ty} {cs:List Value} {y:r.D} {F:T7},r.flat=true→Ow w S d r cs y F→F=[]
 | .int k,_,_,_,_,h=>by simp only[Ow]at h;exact h.2
 | .bool,_,_,_,_,h=>by simp only[Ow]at h;exact h.2
 | .str,_,_,_,_,h=>by simp only[Ow]at h;exact h.2
 | .unit,_,_,_,_,h=>by simp only[Ow]at h;exact h.2
 | .cons c r,_,_,_,hf,h=>by
  simp only[Ty.flat,UT]at hf;simp only[Ow]at h;obtain⟨v,l,F1,F2,_,rfl,h1,h2⟩:=h;rw[E8 hf.1 h1,E8 hf.2 h2];rfl
 | .sl q,_,_,_,hf,_=>by simp[Ty.flat]at hf
theorem KZ{w w':World}{S S':Nat→Prop}{d d':Nat}{r:Ty}(hr:r.flat=true){cs:List Value}{y:r.D}{F:T7}(h:Ow w S d r cs y F):F=[]∧cs.length=r.n∧Ow w' S' d' r cs y []:=
 ⟨E8 hr h,DS h,GH hr (J0 (B':=fun _=>False) hr (Dy h))⟩
theorem GF:∀{r:Ty} {j:Nat} {x:r.D} {t:Ty} {y:t.D},r.flat=true→AB r j x=some ⟨t,y⟩→t.flat=true
 | .cons c r,0,x,t,y,h,e=>by
  simp only[Ty.flat,UT]at h;simp only[AB,UG,UP]at e;obtain⟨rfl,_⟩:=e;exact h.1
 | .cons c r,j+1,x,t,y,h,e=>by
  simp only[Ty.flat,UT]at h;simp only[AB]at e;exact GF h.2 e
 | .unit,_,_,_,_,_,e=>by simp[AB]at e
 | .int k,0,x,t,y,_,e=>by simp only[AB,UG,UP]at e;obtain⟨rfl,_⟩:=e;rfl
 | .bool,0,x,t,y,_,e=>by simp only[AB,UG,UP]at e;obtain⟨rfl,_⟩:=e;rfl
 | .str,0,x,t,y,_,e=>by simp only[AB,UG,UP]at e;obtain⟨rfl,_⟩:=e;rfl
 | .sl _,_,_,_,_,h,_=>by simp[Ty.flat]at h
 | .int _,_+1,_,_,_,_,e=>by simp[AB]at e
 | .bool,_+1,_,_,_,_,e=>by simp[AB]at e
 | .str,_+1,_,_,_,_,e=>by simp[AB]at e
theorem Mh{r:Ty}(hr:r.flat=true){rows:List r.D}:∀{p:List HW},AM r rows p→p=[]
 |[],_=>rfl
 |s::p,h=>by
  simp only[AM]at h;obtain⟨_,_,h⟩:=h;exfalso;cases hc:AB r s.j (rowAt r rows s.i)with
  |none=>rw[hc]at h;exact h
  |some tx=>
   obtain⟨t,x⟩:=tx;have hf:=GF hr hc;rw[hc]at h;cases t<;>simp_all[Ty.flat]
theorem flatten_nil{l:List T7}(h:∀x∈l,x=[]):l.flatten=[]:=by
 induction l with
 |nil=>rfl
 |cons x l ih=>
  rw[Uk,h x (by simp),ih (fun y hy=>h y (by simp[hy]))];rfl
theorem Mm{E:Env}{σ:St}{a:Act}{w:World}(h:Rel E σ a w){b d off n:Nat}{r:Ty}{rows:List r.D}(hb:σ.bx[b]? =some (.sl d r rows))(hr:r.flat=true)(Q8:r.Jz=true)(hk:0<r.n)(hl:off+n≤rows.length)(hn:0<n):
  ∃bb o cap,E.A7 b= .slice (some ⟨bb,o,none⟩) rows.length cap∧rows.length≤cap∧w.there bb (o+off*r.n) (n*r.n)∧
   Rel E { σ with bx:=σ.bx.set b (.sl d r ((rows.take off++List.replicate n r.z)++rows.drop (off+n))) } a (w.setCells bb (o+off*r.n) (List.replicate n (Ao r)).flatten)∧
   CX [b] E σ.bx w E (σ.bx.set b (.sl d r ((rows.take off++List.replicate n r.z)++rows.drop (off+n)))) (w.setCells bb (o+off*r.n) (List.replicate n (Ao r)).flatten):=by
 have st:=h.bx.st;obtain⟨F,⟨hd,ho⟩,hB⟩:=h.bx.take hb;simp only[Ud]at hB;have CK:=(UF.1 hb).1;obtain⟨d',rfl⟩:∃m,d=m+1:=⟨d-1,by omega⟩;simp only[Ow]at ho;obtain⟨ad,cap,hh,M1,ho⟩:=ho;simp only[Ua,Us]at hh;rcases ho with⟨rfl,_⟩|⟨bb,o,arr,ty,fr,Fs,rfl,ha,CB,hu,rfl,hFl,Ew⟩
 ·omega
 have Ts:List.flatten Fs=[]:=flatten_nil fun x hx=>by
  obtain⟨i,hi,hxi⟩:=Ur hx;obtain⟨cs,_,_,h3⟩:=Ew i (rows[i]'(by omega)) x (UH _) (by rw[UH hi,hxi]);exact(KZ (w':=w) (S':=E.S) (d':=0) hr h3).1
 rw[Ts]at hB;have Pg:(Ao r).length=r.n:=BR r;have Sg:((List.replicate n (Ao r)).flatten).length=n*r.n:=by rw[Af,Pg]
 have PX:(off+n)*r.n≤cap*r.n:=Uq _ (by omega);have Tv:(off+n)*r.n=off*r.n+n*r.n:=Ux ..;have EM:o+off*r.n+((List.replicate n (Ao r)).flatten).length≤arr.size:=by omega
 generalize Dg:(List.replicate n (Ao r)).flatten=vs at Sg EM
 refine⟨bb,o,cap,hh,M1,Ge ha (by omega) hu,?_⟩;have Cg: ¬E.T bb:=hB.Nj _ (by simp);have QG:=hB;have D3:∀c,c≠bb→(w.setCells bb (o+off*r.n) vs).heap[c]? =w.heap[c]?:=fun c hc=>BZ _ _ _ _ _ hc
 have hw:∀c,c<w.heap.size→c∉[bb]→(w.setCells bb (o+off*r.n) vs).heap[c]? =w.heap[c]?:=fun c _ hc=>D3 c (by simpa using hc)
 have kT:Au E w σ.bx σ.bx [] E (σ.bx.set b .dead) [bb]:=⟨Le.refl _,by simp,fun n B hn=>by
  by_cases en:n=b
  ·subst en
   rw[UQ CK]at hn;exact .inl (by simpa using hn.symm)
  ·rw[UL (fun h=>en h.symm)]at hn
   exact .inr hn,by simpa using hB⟩
 generalize LH:(rows.take off++List.replicate n r.z)++rows.drop (off+n)=rows'
 have OZ:rows'.length=rows.length:=by
  rw[←LH];simp;omega
 have keep:Cm E w σ.bx E (w.setCells bb (o+off*r.n) vs) (σ.bx.set b (.sl (d'+1) r rows')):=Ed b kT st (by simp) (fun n d r rows hn _ hq=>by
   rw[UL (by omega)]at hq⊢;exact hq) (fun _ _=>rfl) (fun _ _=>rfl) rfl rfl hw (fun d1 r1 OM hq=>by
   rw[UQ CK]at hq;simp only[UG,Bx.sl.injEq]at hq;obtain⟨rfl,rfl,hq⟩:=hq;obtain rfl:=Uc hq;refine⟨d'+1,rows,hb,fun p hp q ys hg=> ?_⟩;obtain rfl:=Mh hr hp;simp only[Aq,UG,UP]at hg;obtain⟨rfl,hg⟩:=hg;obtain rfl:=Uc hg;exact⟨by simp[AM],⟨rows',by simp[Aq],OZ⟩,fun h' RJ=>RJ⟩)
 refine⟨⟨h.Bu,h.tm.imp fun _ _ hq=>B_ keep hq,?_⟩,⟨⟨fun _ h=>h,fun _ h=>h,fun _ h=> .inl h,fun _ h=> .inl h,fun c hc=>D3 c (fun e=>Cg (e▸hc)),(AN _ _ _ _).os,(AN _ _ _ _).tape,(AN _ _ _ _).output,(AN _ _ _ _).size⟩,by simp,fun _ _=>⟨rfl,rfl⟩,fun n hn=>by
  rw[UL (fun e=>by subst e;rw[hb]at hn;cases hn)];exact hn,fun n B B' I6 hB CZ MF=>by
  simp at I6;rw[UL (fun e=>I6 e.symm),hB]at CZ;cases CZ;refine⟨C7.refl MF,fun c hc=>D3 c (fun e=> ?_)⟩;obtain⟨Fs,⟨f1,f2⟩,f3⟩:=QG;have DQ:(σ.bx.set b .dead)[n]? =some B:=by rw[UL (fun e=>I6 e.symm)];exact hB
  have hF:Fs[n]? =some (Fs[n]'(by have:=(UF.1 DQ).1;omega)):=UH _;rcases FU (f2 n B _ DQ hF) hc with hs|hs
  ·exact Cg (e▸st c hs)
  ·exact(UN.1 f3.nodup).2.2 c (UZ.2 ⟨_,UO hF,hs⟩) bb (by simp) e⟩⟩
 have hT:=hB.turn (E':=E) (w':=w.setCells bb (o+off*r.n) vs) (vw':=σ.bx.set b (.sl (d'+1) r rows')) (fun x v hq=>Al keep hq) (fun _ h=>h) (fun _ _=>rfl) (fun _ _=>rfl) (fun c hc _=>D3 c (fun e=>by
   rcases hc with hc|hc
   ·exact Cg (e▸st c hc)
   ·exact hc.2 (by simp[e]))) (fun F hF=>⟨hF.nodup,hF.free,fun c hc=>by rw[Aw];exact hF.lt c hc,hF.st,fun c hc=>by rw[Aw];exact hF.FI c hc,hF.KS.mono (fun _ h=>h) (fun c hc=>D3 c (fun e=>Cg (e▸hc)))⟩)
 have RV:Im E (w.setCells bb (o+off*r.n) vs) (σ.bx.set b (.sl (d'+1) r rows')) b (.sl (d'+1) r rows') [bb]:=by
  refine⟨hd,?_⟩;simp only[Ow];refine⟨_,cap,by rw[hh,OZ],by omega,.inr ⟨bb,o,Aj arr (o+off*r.n) vs,ty,fr,List.replicate rows'.length [],rfl,BS _ _ _ _ _ _ _ ha,by rw[BT];omega,by rw[BT];exact hu,by simp,by simp,fun i y G hy hG=> ?_⟩⟩;have Si:G=[]:=Uu (UO hG);subst Si;have PI:i<rows.length:=by have:=(UF.1 hy).1;omega
  by_cases La:off≤i∧i<off+n
  ·have Sr:y=r.z:=by
    rw[←LH,UK (by simp;omega),UR (by simp;omega)]at hy;exact Uu (UO hy)
   subst Sr;refine⟨Ao r,Pg,fun j v hj=> ?_,GX Q8⟩;have Mo:j<r.n:=by have:=(UF.1 hj).1;omega
   have e1:(i-off)*r.n=i*r.n-off*r.n:=Nat.sub_mul ..;have e2:off*r.n≤i*r.n:=Uq _ La.1;have e3:(i-off+1)*r.n≤n*r.n:=Uq _ (by omega);rw[Ux,VO]at e3;have:=C1 ha EM ((i-off)*r.n+j) v (by
    rw[←Dg,Bm (by rw[Pg];omega),Pg,Nat.mul_comm (i-off),Nat.mul_add_mod,Nat.mod_eq_of_lt Mo];exact hj)
   rw[show o+off*r.n+((i-off)*r.n+j)=o+i*r.n+j by omega]at this;exact this
  ·have TS:rows[i]? =some y:=by
    rw[←LH]at hy;by_cases h1:i<off
    ·rw[UK (by simp;omega),UK (by simp;omega),List.getElem?_take,Uy h1]at hy
     exact hy
    ·rw[UR (by simp;omega),VH]at hy
     rw[←hy];congr 1;simp;omega
   obtain⟨cs,c1,c2,c3⟩:=Ew i y (Fs[i]'(by omega)) TS (UH _);obtain⟨_,c4,c5⟩:=KZ (w':=w.setCells bb (o+off*r.n) vs) (S':=E.S) (d':=d') hr c3;refine⟨cs,c4,Ff c2 ha EM (.inr ?_),c5⟩;by_cases h1:i<off
   ·have:(i+1)*r.n≤off*r.n:=Uq _ h1
    rw[Ux,VO]at this;omega
   ·have:(off+n)*r.n≤i*r.n:=Uq _ (by omega)
    omega
 have:=AK.put (b:=b) (B:= .sl (d'+1) r rows') (F:=[bb]) (G:=[]) (by simpa using hT) (by rw[UQ CK]) RV;rw[VZ]at this;exact this
section
variable{Y:Type} {P:Program} {T:BQ} (hT:Ag P T) {o:Oper} {E:Env} {σ:St} {a:Act} {w:World} {k:K Y} {y:Y}
include hT
theorem LD(h:Rel E σ a w){c:Call}{x:XV}(ho:o.op= .call c)(hc:c.callee= .builtin .clear)(BC:c.args.toList.map σ.ev=[x])(e:Gq T c.argTypes σ x k=some y)
  (Rk:∀b p off n,x= .c (.win b p off n)→A_ (fun _=>none) σ o.op=[b]):∃v w' E' xv σ',((execOp a.eval o).run P w= .ok (.value v) w'∨((execOp a.eval o).run P w= .ok .skip w'∧v=undef))∧Rel E' σ' a w'∧XR E' w' σ'.bx xv v∧
   CX (A_ (fun _=>none) σ o.op) E σ.bx w E' σ'.bx w'∧σ'.tm.length=σ.tm.length∧k xv σ' =some y:=by
 obtain⟨o1,hargs',rfl⟩:=DZ BC;have Ex:=h.ev o1;unfold Gq at e;split at e
 case h_2=>cases e
 rename_i t b off n ht hx;rw[hx]at Ex;rw[Rk b [] off n hx];split at e
 case h_2=>cases e
 rename_i d r rows hb;split at e
 case isFalse=>cases e
 rename_i Gj;rw[UT]at Gj;obtain⟨Gj,hr⟩:=Gj;rw[UT,Uj]at hr;obtain⟨hr,hk⟩:=hr;obtain⟨el,ti,hu,Ce,hs,Qa,hrow⟩:=B5 hT Gj;obtain⟨i,z,i1,i2,i3,i4,i5,hg⟩:=FZ hT Ce hrow;have ER:VR E w σ.bx (.win b [] off n) (a.eval o1):=Ex;simp only[VR,hb]at ER;obtain⟨_,_,q,ys,ad,len,cap,O5,hl,hh,hv⟩:=ER;simp only[Aq,UG,UP]at O5;obtain⟨rfl,O5⟩:=O5;obtain rfl:=Uc O5;simp only[BG,UG]at hh;by_cases hn:n=0
 ·subst hn
  have QY:(rows.take off++List.replicate 0 r.z)++rows.drop (off+0)=rows:=by simp
  rw[QY]at e;have E4:σ.bx.set b (.sl d r rows)=σ.bx:=by
   apply U8;intro j;rw[U0];split
   ·rename_i e1
    subst e1;rw[hb];simp[(UF.1 hb).1]
   ·rfl
  rw[E4]at e;refine⟨.tuple #[],w,E,.c .undef,σ,.inl ?_,h,trivial,CX.refl _ _ _ _,rfl,e⟩;have hz:∃a' c',a.eval o1= .slice a' 0 c':=⟨_,_,by rw[hv];rfl⟩;obtain⟨a',c',hz⟩:=hz;simp only[execOp,ho,resolve,hc,hargs',invoke,builtin,Sem.run_bind,Sem.run_pure,Result.andThen_ok,List.map_toArray,VU,Va,Builtin.clear_,ht,hz];cases a'<;>simp[AD hu]
 ·obtain⟨bb,oo,cap',g1,g2,g3,g4,g5⟩:=Mm h (d:=d) hb hr hg hk hl (by omega)
  rw[g1]at hh;simp only[Value.slice.injEq]at hh;obtain⟨rfl,rfl,rfl⟩:=hh;have Ep:a.eval o1= .slice (some ⟨bb,oo+off*r.n,none⟩) n (cap'-off):=by
   rw[hv];unfold Cc;rw[U1 (by omega)];simp[Addr.add]
  refine⟨.tuple #[],_,E,.c .undef,_,.inl ?_,g4,trivial,g5,rfl,e⟩;have hz:(Builtin.zeroCells z.cells n).toList=(List.replicate n (Ao r)).flatten:=by
   unfold Builtin.zeroCells;have Tf:z.cells.size=(Ao r).length:=by rw[←i5];simp
   have:=En i5 n (fun hh=>by have:=BR r;rw[hh]at this;simp at this;omega);rw[←Tf]at this;exact this
  have h1:∀v∈(List.replicate n (Ao r)).flatten,v.oneCell' =true:=fun v hv=>by
   obtain⟨l,hl1,hl2⟩:=UZ.1 hv;rw[Uu hl1]at hl2;exact Iw (w:=w) (S:=E.S) (d:=0) (GX hg) v hl2
  have Sg:((List.replicate n (Ao r)).flatten).length=n*r.n:=by rw[Af,BR]
  have MZ:=run_storeCells_cells (P:=P) bb (oo+off*r.n) (List.replicate n (Ao r)).flatten 0 w (fun j hj=>by simpa using(g3 j (by omega)).1) (fun j hj=>by simpa using(g3 j (by omega)).2) h1;rw[VB]at MZ;obtain⟨n',rfl⟩:∃n',n=n'+1:=⟨n-1,by omega⟩;simp only[execOp,ho,resolve,hc,hargs',invoke,builtin,Sem.run_bind,Sem.run_pure,Result.andThen_ok,List.map_toArray,VU,Va,Builtin.clear_,ht,Ep];simp[AD hu,zeroValue,typeInfo,i1,i4,hz,MZ]
end
end Go.Fw
end
