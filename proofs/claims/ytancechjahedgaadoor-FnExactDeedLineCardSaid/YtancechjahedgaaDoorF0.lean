/- The framework, part 1: a checked interpreter of the model's code over abstract states; no claim is made here. -/
import Derived.Lib.LaidTab
import Derived.Lib.ItoaNum
import Derived.Calls
import Derived.Still
import Derived.Laws.World
import Derived.Laws.AppendOwn
import Derived.RowKit3
import Derived.Deep.MidRow
import Derived.Laws.StructEq
import Derived.Lib.ConvBytes
import Derived.Laws.BytesArg
import Derived.Tactics
import Derived.OrdersHeld
import Derived.ChangeArms
import Derived.ChangeOld
import Derived.DataReads
import Derived.Below
import Derived.Shelf.Spec.SlicesInsertGrow
import Derived.Shelf.Slices.Delete
import Derived.Lib.AtoiAll
import Derived.Lib.IndexMore
import Derived.Lib.Strings
import Derived.Lib.SlicesS
import Derived.Shelf.Strconv.Itoa3
import Derived.Shelf.Strings.Cut
import Derived.Shelf.Strings.Search3
import Derived.Shelf.Strings.Prefix
import Derived.Shelf.Slices.Turned
import Derived.Handed
import Derived.Stop.LaidErr
import Derived.MakeChecks
set_option linter.unusedVariables false
set_option linter.unusedSimpArgs false
set_option linter.unusedSectionVars false
abbrev V6:Type:=List Nat
abbrev WB:Type:=List Int × Int × Int × Unit
abbrev V_:Type:=Bool × Unit
abbrev WA:Type:=List UInt8 × Unit
abbrev V8:Type:=Nat × Nat
abbrev WE:Type:=Int × Int × Bool × List UInt8 × Unit
abbrev V7:Type:=List UInt8
abbrev WH:Type:=List UInt8 × Bool × Unit
abbrev V9:Type:=Int × Int × Int × Int × List UInt8 × Unit
abbrev WC:Type:=Int × Unit
abbrev WD:Type:=Nat × List Nat
abbrev WG:Type:=WH × Unit
abbrev WJ:=@List.getElem?_eq_some_iff
abbrev WK:=@List.getElem?_eq_getElem
abbrev WL:=@Option.some.injEq
abbrev WM:=@Option.map_eq_some_iff
abbrev WN:=@Option.bind_eq_some_iff
abbrev WO:=@List.getElem?_append_left
abbrev WQ:=@List.getElem?_set_ne
abbrev WR:=@List.append_assoc
abbrev WS:=@List.nodup_append
abbrev WT:=@List.mem_of_getElem?
abbrev WU:=@Sigma.mk.injEq
abbrev WV:=@List.getElem?_set_self
abbrev WW:=@List.getElem?_append_right
abbrev WX:=@List.Perm.append_right
abbrev WY:=@Bool.and_eq_true
abbrev WZ:=@beq_eq_false_iff_ne
abbrev Wa:=@List.length_cons
abbrev Wb:=@List.length_append
abbrev Wc:=@List.mem_append
abbrev Wd:=@List.eq_nil_of_length_eq_zero
abbrev We:=@List.Perm.append_left
abbrev Wf:=@List.perm_append_comm
abbrev Wg:=@List.cons.injEq
abbrev Wh:=@List.mem_flatten
abbrev Wi:=@eq_of_heq
abbrev Wj:=@List.append_nil
abbrev Wl:=@List.getElem?_map
abbrev Wm:=@List.length_nil
abbrev Wn:=@Prod.mk.injEq
abbrev Wo:=@decide_eq_true_eq
abbrev Wp:=@Bool.eq_false_or_eq_true
abbrev Wq:=@Nat.lt_of_lt_of_le
abbrev Wr:=@if_neg
abbrev Wt:=@if_pos
abbrev Wu:=@Nat.le_refl
abbrev Wv:=@List.flatten_cons
abbrev Ww:=@Option.bind_assoc
abbrev Wx:=@Int.tdiv_eq_ediv_of_nonneg
abbrev Wy:=@List.mem_cons
abbrev Wz:=@Nat.mul_le_mul_right
abbrev W0:=@Bool.false_eq_true
abbrev W3:=@and_true
abbrev W4:=@List.getElem_of_mem
abbrev W5:=@List.eq_of_mem_replicate
abbrev W6:=@List.flatten_append
abbrev W7:=@Option.bind_some
abbrev W8:=@Nat.add_mul
abbrev W9:=@List.all_eq_true
abbrev W_:=@List.getElem?_set
abbrev XA:=@Nat.zero_add
abbrev XB:=@List.getElem_mem
abbrev XC:=@List.mem_cons_of_mem
abbrev XD:=@cond_false
abbrev XE:=@Array.getD_eq_getD_getElem?
abbrev XF:=@List.getD_eq_getElem?_getD
abbrev XG:=@List.cons_append
abbrev XH:=@List.cons.inj
abbrev XI:=@Option.isSome_none
abbrev XJ:=@Nat.add_zero
abbrev XK:=@List.drop_eq_getElem_cons
abbrev XL:=@List.ext_getElem?
abbrev XM:=@List.nodup_cons
abbrev XN:=@Nat.le_trans
abbrev XO:=@List.map_congr_left
abbrev XQ:=@Nat.add_assoc
abbrev XS:=@if_false
abbrev XT:=@List.replicate_succ
abbrev XU:=@Array.length_toList
abbrev XW:=@List.getElem?_drop
abbrev XX:=@Option.map_some
abbrev XY:=@List.contains_iff_mem
abbrev XZ:=@List.getElem?_eq_none
abbrev Xa:=@cond_true
abbrev Xb:=@decide_eq_false
abbrev Xc:=@Int.tmod_eq_emod_of_nonneg
abbrev Xd:=@List.exists_cons_of_length_eq_add_one
abbrev Xe:=@List.flatten_nil
abbrev Xf:=@List.nil_append
abbrev Xg:=@List.map_cons
abbrev Xh:=@if_true
abbrev Xi:=@List.drop_eq_nil_of_le
abbrev Xj:=@Nat.one_mul
abbrev Xk:=@decide_eq_true
abbrev Xl:=@List.take_append_drop
abbrev Xm:=@Nat.succ_mul
abbrev Xn:=@List.all_cons
abbrev Xo:=@dite_true
abbrev Xp:=@Bool.or_eq_true
abbrev Xq:=@List.perm_iff_count
abbrev Xr:=@List.set_set
abbrev Xs:=@List.map_nil
abbrev Xt:=@List.map_map
abbrev Xu:=@List.Perm.refl
abbrev Xv:=@List.mapM_cons
abbrev Xw:=@Array.ext'
section
namespace Go.Fw
open Go
def Nx:Nat:=1
def M3:Nat:=0
def GI(w:World):Prop:=(∃t fr,w.heap[Nx]? =some (.cells (Go.Lib.pow10Tab.map fun z=>Value.int .u64 z).toArray t fr))∧ ∃m,w.cell? ⟨M3,0,none⟩=some (.int .i64 m)
theorem GI.tab{P:Program}{w:World}(h:GI w)(hg:P.globalNamed "internal/strconv.uint64pow10" =some Nx):Go.Lib.TabIs P w "internal/strconv.uint64pow10" .u64 Go.Lib.pow10Tab:=by
 obtain⟨⟨t,fr,h1⟩,_⟩:=h;unfold Go.Lib.TabIs World.var?;rw[hg];simp only[W7,h1]
theorem GI.of{P:Program}{w w':World}(hg:P.globalNamed "internal/strconv.uint64pow10" =some Nx)(ht:Go.Lib.TabIs P w "internal/strconv.uint64pow10" .u64 Go.Lib.pow10Tab)(hm:∃m,w.cell? ⟨M3,0,none⟩=some (.int .i64 m))
  (hw:∀c,c<w.heap.size→w'.heap[c]? =w.heap[c]?):GI w':=by
 have lt:∀b o,w.heap[b]? =some o→b<w.heap.size:=fun b o h=>by
  by_cases hb:b<w.heap.size
  ·exact hb
  ·rw[Array.getElem?_eq_none (by omega)]at h;cases h
 unfold Go.Lib.TabIs World.var? at ht;rw[hg]at ht;simp only[W7]at ht;refine⟨?_,?_⟩
 ·cases ho:w.heap[Nx]? with
  |none=>rw[ho]at ht;cases ht
  |some o=>
   rw[ho]at ht;cases o with
   |cells cs t fr=>
    simp only[WL]at ht;exact⟨t,fr,by rw[hw _ (lt _ _ ho),ho,ht]⟩
   |_=>cases ht
 ·obtain⟨m,hm⟩:=hm
  refine⟨m,?_⟩;have hb:w'.heap[M3]? =w.heap[M3]?:=by
   cases ho:w.heap[M3]? with
   |none=>simp[World.cell?,ho]at hm
   |some o=>rw[hw _ (lt _ _ ho),ho]
  rw[←hm];simp only[World.cell?,hb]
end Go.Fw
end
section
namespace Go.Fw
inductive Ty where
 |int (k:IntKind)|bool|str|sl (r:Ty)|unit|cons (c r:Ty)
 deriving DecidableEq
@[reducible] def Ty.D:Ty→Type
 | .int _=>Int
 | .bool=>Bool
 | .str=>List UInt8
 | .sl r=>List r.D
 | .unit=>Unit
 | .cons c r=>c.D×r.D
def Ty.n:Ty→Nat
 | .unit=>0
 | .cons _ r=>r.n+1
 |_=>1
def Ty.z:(t:Ty)→t.D
 | .int _=>(0:Int)
 | .bool=>false
 | .str=>[]
 | .sl _=>[]
 | .unit=>()
 | .cons c r=>(c.z,r.z)
def Ty.flat:Ty→Bool
 | .sl _=>false
 | .cons c r=>c.flat&&r.flat
 |_=>true
def Ty.scalar:Ty→Bool
 | .int _| .bool| .str=>true
 |_=>false
structure Ie where
 i:Nat
 sz:Nat
 j:Nat
inductive AV where
 |v (t:Ty) (x:t.D)
 |sl (s:Bool) (r:Ty) (x:List r.D)
 |nil
 |ref (b:Nat) (p:List Ie)
 |win (b:Nat) (p:List Ie) (off n:Nat)
 |BA (b j:Nat)
 |BT (b:Nat) (p:List Ie) (i sz j:Nat)
 |CH (s:Bool) (r:Ty) (x:r.D) (j:Nat)
 |fn (f:Nat) (BZ:V6)
 |LB (f:Nat) (rows:List ((r:Ty)×r.D))
 |M_
 |undef
def AV.known:AV→Bool
 | .undef=>false
 |_=>true
inductive XV where
 |c (x:AV)
 |agg (l:List AV)
 |DY (l:List (AV ⊕ List AV))
inductive Bx where
 |mem (cs:List AV)
 |sl (d:Nat) (r:Ty) (rows:List r.D)
 |dead
structure St where
 tm:List XV
 bx:List Bx
def AB:(r:Ty)→(j:Nat)→r.D→Option ((t:Ty)×t.D)
 | .cons c _,0,x=>some ⟨c,x.1⟩
 | .cons _ r,j+1,x=>AB r j x.2
 | .unit,_,_=>none
 | .int k,0,x=>some ⟨.int k,x⟩
 | .bool,0,x=>some ⟨.bool,x⟩
 | .str,0,x=>some ⟨.str,x⟩
 | .sl r,0,x=>some ⟨.sl r,x⟩
 |_,_+1,_=>none
def JI{a b:Ty}(h:a=b)(x:a.D):b.D:=h▸x
def AX:(r:Ty)→(j:Nat)→r.D→(t:Ty)→t.D→Option r.D
 | .cons c _,0,x,t,y=>if h:t=c then some (JI h y,x.2)else none
 | .cons _ r,j+1,x,t,y=>(AX r j x.2 t y).map fun z=>(x.1,z)
 | .unit,_,_,_,_=>none
 | .int k,0,_,t,y=>if h:t= .int k then some (JI h y)else none
 | .bool,0,_,t,y=>if h:t= .bool then some (JI h y)else none
 | .str,0,_,t,y=>if h:t= .str then some (JI h y)else none
 | .sl r,0,_,t,y=>if h:t= .sl r then some (JI h y)else none
 |_,_+1,_,_,_=>none
def rowAt(r:Ty)(rows:List r.D)(i:Nat):r.D:=rows.getD i r.z
def Ay:(r:Ty)→List r.D→List Ie→Option ((q:Ty)×List q.D)
 |r,rows,[]=>some ⟨r,rows⟩
 |r,rows,s::p=>
  match AB r s.j (rowAt r rows s.i)with
  |some ⟨.sl q,x⟩=>Ay q x p
  |_=>none
def JW:(r:Ty)→List r.D→List Ie→(q:Ty)→List q.D→Option (List r.D)
 |r,_,[],q,y=>if h:q=r then some (JI (congrArg Ty.sl h) y)else none
 |r,rows,s::p,q,y=>
  match AB r s.j (rowAt r rows s.i)with
  |some ⟨.sl r',x⟩=>(JW r' x p q y).bind fun x' =>(AX r s.j (rowAt r rows s.i) (.sl r') x').map fun row=>rows.set s.i row
  |_=>none
inductive TD where
 |int (k:IntKind)|bool|str|sl (e:Nat)|st (fs:List V8)|ptr (e:Nat)|other
structure TI where
 size:Nat
 bytes:Nat
 desc:TD
 row:Option Ty
abbrev Bb:=List (Nat×TI)
def Bb.get:Bb→Nat→Option TI
 |[],_=>none
 |(u,i)::l,t=>if u=t then some i else Bb.get l t
def TD.agg:TD→Bool
 | .st _=>true
 |_=>false
def Bb.Hc(T:Bb)(t:Nat):Option Ty:=
 match T.get t with
 |some ti=>ti.row
 |none=>none
def ND:Ty→AV
 | .int k=> .v (.int k) (0:Int)
 | .bool=> .v .bool false
 | .str=> .v .str []
 | .sl _=> .nil
 |_=> .undef
def FO:Ty→List AV
 | .cons c r=>ND c::FO r
 | .unit=>[]
 |t=>[ND t]
def JE:Value→AV
 | .int k n=> .v (.int k) n
 | .bool b=> .v .bool b
 | .string s=> .v .str s.data.toList
 | .slice none 0 0=> .nil
 | .pointer none=> .M_
 |_=> .undef
def ofValue:Value→XV
 | .agg cs=> .agg (cs.toList.map JE)
 |v=> .c (JE v)
def St.ev(σ:St):Operand→XV
 | .tmp t=>σ.tm.getD t (.c .undef)
 | .const v=>ofValue v
 | .global _=> .c .undef
 | .func f=> .c (.fn f [])
def St.put(σ:St)(dst:Option Tmp)(x:XV):St:=
 match dst with
 |some d=>{ σ with tm:=σ.tm.set d x }
 |none=>σ
def XV.cells:XV→List AV
 | .c x=>[x]
 | .agg l=>l
 | .DY _=>[]
def Cc{β:Ty→Type}(a b:Ty)(x:β a):Option (β b):=if h:a=b then some (h▸x)else none
def B7(bx:List Bx):AV→Option ((r:Ty)×List r.D)
 | .sl _ r x=>some ⟨r,x⟩
 | .ref b p=>
  match bx[b]? with
  |some (.sl _ r rows)=>Ay r rows p
  |_=>none
 | .win b p off n=>
  match bx[b]? with
  |some (.sl _ r rows)=>(Ay r rows p).map fun q=>⟨q.1,(q.2.drop off).take n⟩
  |_=>none
 |_=>none
def Bz(bx:List Bx)(t:Ty)(x:AV):Option t.D:=
 match x with
 | .v u y=>Cc (β:=Ty.D) u t y
 | .nil=>match t with
  | .sl _=>some []
  |_=>none
 |x=>match t with
  | .sl r=>(B7 bx x).bind fun q=>Cc (β:=fun r=>List r.D) q.1 r q.2
  |_=>none
def A_(bx:List Bx):(r:Ty)→List AV→Option r.D
 | .unit,[]=>some ()
 | .cons c r,x::l=>(Bz bx c x).bind fun a=>(A_ bx r l).map fun b=>(a,b)
 |_,_=>none
def lenOf(bx:List Bx):AV→Option Nat
 | .nil=>some 0
 | .sl _ _ x=>some x.length
 | .ref b p=>
  match bx[b]? with
  |some (.sl _ r rows)=>(Ay r rows p).map fun q=>q.2.length
  |_=>none
 | .win b _ _ n=>
  match bx[b]? with
  |some (.sl _ _ _)=>some n
  |_=>none
 |_=>none
inductive AP where
 |v (t:Ty)
 |sl (s:Bool) (r:Ty)
 |nil
 |ref (i:Nat)
 |ptr (i j:Nat)
 |L1 (r:Ty)
 |fn (f:Nat) (BZ:V6)
 |LB (f:Nat) (rs:List Ty)
 |any
 |H4 (i sz:Nat)
inductive XP where
 |c (p:AP)
 |agg (l:List AP)
 |row (r:Ty)
 |DY (l:List (AP ⊕ List AP))
inductive BP where
 |mem (l:List AP)
 |sl (d:Nat) (r:Ty)
 |gone
structure CS where
 Ab:List (Nat×XP)
 Az:List BP
@[reducible] def Ef:List Ty→Type
 |[]=>Unit
 |r::l=>r.D×Ef l
def Ef.mk:(l:List Ty)→Ef l→List ((r:Ty)×r.D)
 |[],_=>[]
 |r::l,x=>⟨r,x.1⟩::Ef.mk l x.2
@[reducible] def AP.V:AP→Type
 | .LB _ rs=>Ef rs
 | .v t=>t.D
 | .sl _ r=>List r.D
 | .L1 r=>r.D
 | .H4 _ _=>Nat×Nat
 |_=>Unit
@[reducible] def EL.V:List AP→Type
 |[]=>Unit
 |p::l=>p.V×EL.V l
@[reducible] def EZ.V:List (AP ⊕ List AP)→Type
 |[]=>Unit
 | .inl p::l=>p.V×EZ.V l
 | .inr q::l=>EL.V q×EZ.V l
@[reducible] def XP.V:XP→Type
 | .c p=>p.V
 | .agg l=>EL.V l
 | .row r=>r.D
 | .DY l=>EZ.V l
@[reducible] def BP.V:BP→Type
 | .mem l=>EL.V l
 | .sl _ r=>List r.D
 | .gone=>Unit
@[reducible] def Aw.V:List (Nat×XP)→Type
 |[]=>Unit
 |(_,p)::l=>p.V×Aw.V l
@[reducible] def BQ.V:List BP→Type
 |[]=>Unit
 |p::l=>p.V×BQ.V l
@[reducible] def CS.V (s:CS):Type:=Aw.V s.Ab×BQ.V s.Az
def AP.mk(m:Nat→Nat):(p:AP)→p.V→AV
 | .v t,x=> .v t x
 | .sl s r,x=> .sl s r x
 | .nil,_=> .nil
 | .ref i,_=> .ref (m i) []
 | .ptr i j,_=> .BA (m i) j
 | .L1 r,x=> .CH false r x 0
 | .fn f BZ,_=> .fn f (BZ.map m)
 | .LB f rs,x=> .LB f (Ef.mk rs x)
 | .any,_=> .undef
 | .H4 i sz,k=> .ref (m i) [⟨k.1,sz,k.2⟩]
def EL.mk(m:Nat→Nat):(l:List AP)→EL.V l→List AV
 |[],_=>[]
 |p::l,x=>p.mk m x.1::EL.mk m l x.2
def Hp:(r:Ty)→r.D→List AV
 | .unit,_=>[]
 | .cons c r,x=>(match c,x.1 with
  | .sl q,y=>AV.sl false q y
  |c,y=> .v c y)::Hp r x.2
 | .sl q,x=>[.sl false q x]
 | .int k,x=>[.v (.int k) x]
 | .bool,x=>[.v .bool x]
 | .str,x=>[.v .str x]
def EZ.mk(m:Nat→Nat):(l:List (AP ⊕ List AP))→EZ.V l→List (AV ⊕ List AV)
 |[],_=>[]
 | .inl p::l,x=> .inl (p.mk m x.1)::EZ.mk m l x.2
 | .inr q::l,x=> .inr (EL.mk m q x.1)::EZ.mk m l x.2
def XP.mk(m:Nat→Nat):(p:XP)→p.V→XV
 | .c p,x=> .c (p.mk m x)
 | .agg l,x=> .agg (EL.mk m l x)
 | .row r,x=> .agg (Hp r x)
 | .DY l,x=> .DY (EZ.mk m l x)
def BP.mk(m:Nat→Nat):(p:BP)→p.V→Bx
 | .mem l,x=> .mem (EL.mk m l x)
 | .sl d r,x=> .sl d r x
 | .gone,_=> .dead
def Aw.mk(m:Nat→Nat):(l:List (Nat×XP))→Aw.V l→List XV→List XV
 |[],_,tm=>tm
 |(i,p)::l,x,tm=>Aw.mk m l x.2 (tm.set i (p.mk m x.1))
def BQ.mk(m:Nat→Nat):(l:List BP)→BQ.V l→List Bx
 |[],_=>[]
 |p::l,x=>p.mk m x.1::BQ.mk m l x.2
def CS.st(s:CS)(n:Nat)(x:s.V):St:=
 { tm:=Aw.mk id s.Ab x.1 (List.replicate n (.c .undef)),bx:=BQ.mk id s.Az x.2 }
abbrev CQ:=List (Option Nat)
def CQ.put(m:CQ)(i b:Nat):Option CQ:=
 match m[i]? with
 |some none=>if m.contains (some b)then none else some (m.set i (some b))
 |some (some b')=>if b' =b then some m else none
 |none=>none
def FV:CQ→List Nat→List Nat→Option CQ
 |m,[],[]=>some m
 |m,i::is,b::bs=>(m.put i b).bind fun m=>FV m is bs
 |_,_,_=>none
def AP.CE(N:Nat)(m:CQ):AP→AV→Option CQ
 | .ref i,.ref b []=>m.put i b
 | .ref i,.nil=>m.put i (N+i)
 | .ref _,_=>none
 | .H4 i sz,.ref b [s]=>if s.sz=sz then m.put i b else none
 | .H4 _ _,_=>none
 | .ptr i j,.BA b j' =>if j=j' then m.put i b else none
 | .ptr _ _,_=>none
 | .fn f BZ,.fn g bs=>if f=g then FV m BZ bs else none
 | .fn _ _,_=>none
 | .nil,.nil=>some m
 | .nil,_=>none
 |_,_=>some m
def EL.CE(N:Nat):CQ→List AP→List AV→Option CQ
 |m,[],[]=>some m
 |m,p::l,x::xs=>(p.CE N m x).bind fun m=>EL.CE N m l xs
 |_,_,_=>none
def EZ.CE(N:Nat):CQ→List (AP ⊕ List AP)→List (AV ⊕ List AV)→Option CQ
 |m,[],[]=>some m
 |m,.inl p::l,.inl x::xs=>(p.CE N m x).bind fun m=>EZ.CE N m l xs
 |m,.inr p::l,.inr x::xs=>(EL.CE N m p x).bind fun m=>EZ.CE N m l xs
 |_,_,_=>none
def XP.CE(N:Nat)(m:CQ):XP→XV→Option CQ
 | .c p,.c x=>p.CE N m x
 | .agg l,.agg xs=>EL.CE N m l xs
 | .row _,.agg _=>some m
 | .DY l,.DY xs=>EZ.CE N m l xs
 |_,_=>none
def Aw.CE(N:Nat)(tm:List XV):CQ→List (Nat×XP)→Option CQ
 |m,[]=>some m
 |m,(i,p)::l=>
  match tm[i]? with
  |some x=>(p.CE N m x).bind fun m=>Aw.CE N tm m l
  |none=>none
def BQ.CE(N:Nat)(bx:List Bx):Nat→CQ→List BP→Option CQ
 |_,m,[]=>some m
 |i,m,.mem l::ps=>
  match m[i]? with
  |some (some b)=>
   match bx[b]? with
   |some (.mem cs)=>(EL.CE N m l cs).bind fun m=>BQ.CE N bx (i+1) m ps
   |_=>none
  |_=>none
 |i,m,.sl _ _::ps=>
  match m[i]? with
  |some (some _)=>BQ.CE N bx (i+1) m ps
  |_=>none
 |i,m,.gone::ps=>BQ.CE N bx (i+1) m ps
def AH(bx:List Bx):CQ→List Bx
 |[]=>bx
 |some b::m=>AH (bx.set b .dead) m
 |none::m=>AH bx m
def Ef.KF:(l:List Ty)→List ((r:Ty)×r.D)→Option (Ef l)
 |[],[]=>some ()
 |r::l,q::qs=>(Cc (β:=Ty.D) q.1 r q.2).bind fun a=>(Ef.KF l qs).map fun b=>(a,b)
 |_,_=>none
def Ef.Jc(bx:List Bx):(l:List Ty)→List Nat→Option (Ef l)
 |[],[]=>some ()
 |r::l,b::bs=>(match bx[b]? with
  |some (.mem cs)=>A_ bx r cs
  |_=>none).bind fun a=>(Ef.Jc bx l bs).map fun c=>(a,c)
 |_,_=>none
def AP.get(bx:List Bx):(p:AP)→AV→Option p.V
 | .LB f rs,x=>match x with
  | .LB g rows=>if f=g then Ef.KF rs rows else none
  | .fn g bs=>if f=g then Ef.Jc bx rs bs else none
  |_=>none
 | .v t,x=>if t.scalar then Bz bx t x else none
 | .sl false r,x=>Bz bx (.sl r) x
 | .sl true r,x=>match x with
  | .sl true q y=>Cc (β:=fun r=>List r.D) q r y
  | .nil=>some []
  |_=>none
 | .L1 r,x=>match x with
  | .CH _ q y 0=>Cc (β:=Ty.D) q r y
  | .BA b 0=>match bx[b]? with
   |some (.mem cs)=>A_ bx r cs
   |_=>none
  | .BT b p i sz 0=>match bx[b]? with
   |some (.sl _ q rows)=>(Ay q rows p).bind fun s=>if sz=s.1.n then Cc (β:=Ty.D) s.1 r (rowAt s.1 s.2 i)else none
   |_=>none
  |_=>none
 | .nil,_=>some ()
 | .ref _,_=>some ()
 | .ptr _ _,_=>some ()
 | .fn _ _,_=>some ()
 | .any,_=>some ()
 | .H4 _ _,x=>match x with
  | .ref _ [s]=>some (s.i,s.j)
  |_=>none
def EL.get(bx:List Bx):(l:List AP)→List AV→Option (EL.V l)
 |[],[]=>some ()
 |p::l,x::xs=>(p.get bx x).bind fun a=>(EL.get bx l xs).map fun b=>(a,b)
 |_,_=>none
def EZ.get(bx:List Bx):(l:List (AP ⊕ List AP))→List (AV ⊕ List AV)→Option (EZ.V l)
 |[],[]=>some ()
 | .inl p::l,.inl x::xs=>(p.get bx x).bind fun a=>(EZ.get bx l xs).map fun b=>(a,b)
 | .inr p::l,.inr x::xs=>(EL.get bx p x).bind fun a=>(EZ.get bx l xs).map fun b=>(a,b)
 |_,_=>none
def XP.get(bx:List Bx):(p:XP)→XV→Option p.V
 | .c p,.c x=>p.get bx x
 | .agg l,.agg xs=>EL.get bx l xs
 | .row r,.agg xs=>A_ bx r xs
 | .DY l,.DY xs=>EZ.get bx l xs
 |_,_=>none
def Aw.get(bx:List Bx)(tm:List XV):(l:List (Nat×XP))→Option (Aw.V l)
 |[]=>some ()
 |(i,p)::l=>
  match tm[i]? with
  |some x=>(p.get bx x).bind fun a=>(Aw.get bx tm l).map fun b=>(a,b)
  |none=>none
def BQ.get(bx bk:List Bx):(m:CQ)→(l:List BP)→Option (BQ.V l)
 |_,[]=>some ()
 |some b::m,.mem l::ps=>
  match bx[b]? with
  |some (.mem cs)=>(EL.get bk l cs).bind fun a=>(BQ.get bx bk m ps).map fun c=>(a,c)
  |_=>none
 |some b::m,.sl d r::ps=>
  match bx[b]? with
  |some (.sl d' q rows)=>if 1≤d∧d≤d' then(Cc (β:=fun r=>List r.D) q r rows).bind fun a=>(BQ.get bx bk m ps).map fun c=>(a,c)else none
  |_=>none
 |_::m,.gone::ps=>(BQ.get bx bk m ps).map fun c=>((),c)
 |_,_=>none
def CS.fit(s:CS)(N:Nat)(m0:CQ)(tm:List XV)(bx:List Bx):Option (s.V×CQ):=
 (Aw.CE N tm m0 s.Ab).bind fun m=>(BQ.CE N bx 0 m s.Az).bind fun m=>
  let bk:=AH bx m
  (Aw.get bk tm s.Ab).bind fun a=>(BQ.get bx bk m s.Az).map fun c=>((a,c),m)
def BP.opened:BP→Bx
 | .sl d r=> .sl (d+1) r []
 |_=> .dead
def CS.opens(s:CS)(bx:List Bx):List Bx:=bx++s.Az.map BP.opened
def CS.m0(s:CS):CQ:=List.replicate s.Az.length none
structure EN where
 ins:CS
 outs:CS
 g:ins.V→Option outs.V
def ES(m:CQ)(n:Nat)(i:Nat):Nat:=
 match m[i]? with
 |some (some b)=>b
 |_=>n+(i-m.length)
def Ez(BX:Nat→Nat):Nat→(l:List BP)→BQ.V l→List Bx→List Bx
 |_,[],_,bx=>bx
 |i,p::l,x,bx=>Ez BX (i+1) l x.2 (if BX i<bx.length then bx.set (BX i) (p.mk BX x.1)else bx++[p.mk BX x.1])
def GV:(l:List (Nat×XP))→Aw.V l→(Nat→Nat)→XV
 |(_,p)::_,x,BX=>p.mk BX x.1
 |[],_,_=> .c .undef
def FE:Nat:=2^36
section ops
variable{Y:Type}
abbrev K(Y:Type):=XV→St→Option Y
def St.new(σ:St)(b:Bx):St:={ σ with bx:=σ.bx++[b] }
def O5(x:Bool)(a b:XV)(σ:St)(k:K Y):Option Y:=cond x (k a σ) (k b σ)
def Gn(op:BinOp)(κ:IntKind)(a b:Int)(k:AV→Option Y):Option Y:=
 match op with
 | .add=>k (.v (.int κ) (κ.wrap (a+b)))
 | .sub=>k (.v (.int κ) (κ.wrap (a-b)))
 | .mul=>k (.v (.int κ) (κ.wrap (a*b)))
 | .quo=>if b=0 then none else k (.v (.int κ) (κ.wrap (a.tdiv b)))
 | .rem=>if b=0 then none else k (.v (.int κ) (a.tmod b))
 | .and=>k (.v (.int κ) (κ.wrap (BitVec.ofInt κ.bits a &&& BitVec.ofInt κ.bits b).toNat))
 | .or=>k (.v (.int κ) (κ.wrap (BitVec.ofInt κ.bits a ||| BitVec.ofInt κ.bits b).toNat))
 | .xor=>k (.v (.int κ) (κ.wrap (BitVec.ofInt κ.bits a ^^^ BitVec.ofInt κ.bits b).toNat))
 | .andNot=>k (.v (.int κ) (κ.wrap (BitVec.ofInt κ.bits a &&& ~~~BitVec.ofInt κ.bits b).toNat))
 | .eql=>k (.v .bool (a==b))
 | .neq=>k (.v .bool (a !=b))
 | .lss=>k (.v .bool (decide (a<b)))
 | .leq=>k (.v .bool (decide (a≤b)))
 | .gtr=>k (.v .bool (decide (a>b)))
 | .geq=>k (.v .bool (decide (a≥b)))
 |_=>none
def Ec(op:BinOp)(κ:IntKind)(a b:Int)(k:AV→Option Y):Option Y:=
 if b<0 then none else
 match op with
 | .shl=>k (.v (.int κ) (κ.wrap (a*2^min b.toNat κ.bits)))
 | .shr=>k (.v (.int κ) (a.fdiv (2^min b.toNat κ.bits)))
 |_=>none
def HI(op:BinOp)(a b:V7)(k:AV→Option Y):Option Y:=
 match op with
 | .add=>if a.length+b.length≤FE then k (.v .str (a++b))else none
 | .eql=>k (.v .bool (a==b))
 | .neq=>k (.v .bool (!(a==b)))
 | .lss=>k (.v .bool (Op.bytesLess a b))
 | .leq=>k (.v .bool (Op.bytesLess a b||a==b))
 | .gtr=>k (.v .bool (!(Op.bytesLess a b||a==b)))
 | .geq=>k (.v .bool (!Op.bytesLess a b))
 |_=>none
def J8:TD→AV→AV→Option Bool
 | .int _,.v (.int j) a,.v (.int k) b=>if j=k then some (a==b)else none
 | .bool,.v .bool a,.v .bool b=>some (a==b)
 | .str,.v .str a,.v .str b=>some (a==b)
 |_,_,_=>none
def Bg(T:Bb):Nat→List V8→List AV→List AV→Option Bool
 |_,[],[],[]=>some true
 |i,(o,t)::fs,x::l,z::m=>
  if o=i then
   match T.get t with
   |some ti=>match J8 ti.desc x z with
    |some p=>(Bg T (i+1) fs l m).map fun r=>p&&r
    |none=>none
   |none=>none
  else none
 |_,_,_,_=>none
def Bb.fields(T:Bb)(t:Nat):Option (List V8):=
 match(T.get t).map TI.desc with
 |some (.st fs)=>some fs
 |_=>none
def L0(T:Bb)(t:Nat)(op:BinOp)(a b:XV)(k:AV→Option Y):Option Y:=
 match a,b with
 | .c (.v (.int j) x),.c (.v (.int j') y)=>
  match op with
  | .shl| .shr=>Ec op j x y k
  |_=>if j=j' then Gn op j x y k else none
 | .c (.v .str x),.c (.v .str y)=>HI op x y k
 | .c (.v .bool x),.c (.v .bool y)=>
  match T.get t with
  |some ti=>match ti.desc with
   | .bool=>match op with
    | .eql=>k (.v .bool (x==y))
    | .neq=>k (.v .bool (!(x==y)))
    |_=>none
   |_=>none
  |none=>none
 | .agg l,.agg m=>
  match op,(T.fields t).bind fun fs=>Bg T 0 fs l m with
  | .eql,some r=>k (.v .bool r)
  | .neq,some r=>k (.v .bool (!r))
  |_,_=>none
 |_,_=>none
def QB(op:UnOp)(a:XV)(k:AV→Option Y):Option Y:=
 match op,a with
 | .not,.c (.v .bool x)=>k (.v .bool (!x))
 | .neg,.c (.v (.int j) x)=>k (.v (.int j) (j.wrap (0-x)))
 |_,_=>none
def NM(d b:Nat)(p:List Ie)(s:Ie):((t:Ty)×t.D)→AV
 |⟨.sl r,x⟩=>if d≤1 then .sl true r x else .ref b (p++[s])
 |⟨t,x⟩=>if t.scalar then .v t x else .undef
def Mm(s:Bool):((t:Ty)×t.D)→AV
 |⟨.sl r,x⟩=> .sl s r x
 |⟨t,x⟩=>if t.scalar then .v t x else .undef
def GQ(f:Nat→Option AV):Nat→Nat→Option (List AV)
 |_,0=>some []
 |j,n+1=>(f j).bind fun x=>(GQ f (j+1) n).map fun l=>x::l
def BS(bx:List Bx):AV→Nat→Option AV
 | .BA b j,i=>
  match bx[b]? with
  |some (.mem cs)=>cs[j+i]?
  |_=>none
 | .BT b p r sz j,i=>
  match bx[b]? with
  |some (.sl d q rows)=>if p.length<d then(Ay q rows p).bind fun s=>if sz=s.1.n then(AB s.1 (j+i) (rowAt s.1 s.2 r)).map (NM (d-p.length) b p ⟨r,sz,j+i⟩)else none else none
  |_=>none
 | .CH s r x j,i=>(AB r (j+i) x).map (Mm s)
 |_,_=>none
def IU(T:Bb)(t:Nat)(σ:St)(a:XV):Option XV:=
 match a,T.get t with
 | .c a,some ti=>if ti.size=0 then none else if ti.desc.agg then(GQ (BS σ.bx a) 0 ti.size).map .agg else(BS σ.bx a 0).map .c
 |_,_=>none
def GO(d:Nat)(t:Ty)(x:AV)(bx:List Bx):Option (t.D×List Bx×Nat):=
 match x with
 | .v u y=>(Cc (β:=Ty.D) u t y).map fun y=>(y,bx,d)
 | .nil=>match t with
  | .sl _=>some ([],bx,d)
  |_=>none
 | .sl true r y=>match t with
  | .sl q=>(Cc (β:=fun r=>List r.D) r q y).map fun y=>(y,bx,1)
  |_=>none
 | .ref b []=>match t with
  | .sl q=>
   match bx[b]? with
   |some (.sl d' r y)=>(Cc (β:=fun r=>List r.D) r q y).map fun y=>(y,bx.set b .dead,min d (d'+1))
   |_=>none
  |_=>none
 | .win b [] off n=>match t with
  | .sl q=>
   match bx[b]? with
   |some (.sl d' r y)=>(Cc (β:=fun r=>List r.D) r q ((y.drop off).take n)).map fun y=>(y,bx.set b .dead,min d (d'+1))
   |_=>none
  |_=>none
 |_=>none
def cellsIn(d:Nat):(r:Ty)→List AV→List Bx→Option (r.D×List Bx×Nat)
 | .unit,[],bx=>some ((),bx,d)
 | .cons c r,x::l,bx=>(GO d c x bx).bind fun a=>(cellsIn a.2.2 r l a.2.1).map fun b=>((a.1,b.1),b.2)
 |_,_,_=>none
def Oo(d:Nat)(r:Ty)(x:XV)(bx:List Bx):Option (r.D×List Bx×Nat):=
 match x with
 | .agg l=>cellsIn d r l bx
 | .c x=>GO d r x bx
 |_=>none
def BW(b:Nat):AV→AV
 | .ref b' (s::p)=>if b' =b then .undef else .ref b' (s::p)
 | .win b' (s::p) i n=>if b' =b then .undef else .win b' (s::p) i n
 | .BT b' (s::p) i sz j=>if b' =b then .undef else .BT b' (s::p) i sz j
 |x=>x
def La(b:Nat):XV→XV
 | .c x=> .c (BW b x)
 | .agg l=> .agg (l.map (BW b))
 | .DY l=> .DY (l.map fun| .inl x=> .inl (BW b x)| .inr q=> .inr (q.map (BW b)))
def NP(b:Nat):Bx→Bx
 | .mem cs=> .mem (cs.map (BW b))
 |x=>x
def St.Na(b:Nat)(σ:St):St:={ tm:=σ.tm.map (La b),bx:=σ.bx.map (NP b) }
def D6(cs:List AV):Nat→List AV→Option (List AV)
 |_,[]=>some cs
 |j,x::l=>if j<cs.length then D6 (cs.set j x) (j+1) l else none
def J7(d:Nat)(r:Ty)(R6:r.D)(j:Nat)(x:XV)(bx:List Bx):Option (r.D×List Bx×Nat):=
 match x with
 | .agg l=>if j=0 then cellsIn d r l bx else none
 | .c x=>
  match AB r j R6 with
  |some ⟨t,_⟩=>(GO d t x bx).bind fun a=>(AX r j R6 t a.1).map fun row=>(row,a.2)
  |none=>none
 |_=>none
def XV.plain:XV→Bool
 | .c (.v _ _)=>true
 |_=>false
def Gz(σ:St)(a:XV)(x:XV):Option St:=
 match a with
 | .c (.BA b j)=>
  match σ.bx[b]? with
  |some (.mem cs)=>(D6 cs j x.cells).map fun cs=>{ σ with bx:=σ.bx.set b (.mem cs) }
  |_=>none
 | .c (.BT b p i sz j)=>
  match σ.bx[b]? with
  |some (.sl d r rows)=>if p.length<d then
   (Ay r rows p).bind fun s=>if sz=s.1.n then(J7 (d-p.length) s.1 (rowAt s.1 s.2 i) j x (σ.bx.set b .dead)).bind fun w=>
    (JW r rows p s.1 (s.2.set i w.1)).map fun rows=>
     let σ':St:={ σ with bx:=w.2.1.set b (.sl (w.2.2+p.length) r rows) }
     if x.plain then σ' else σ'.Na b
    else none
   else none
  |_=>none
 |_=>none
def E7(σ:St)(a x:XV):Option (St×XV):=
 match a,x with
 | .c (.BT b _ _ _ _),.c (.win b' (s::p') off n)=>
  if b' =b then
   match σ.bx[b]? with
   |some (.sl d r rows)=>(Ay r rows (s::p')).map fun q=>({ σ with bx:=σ.bx.set b (.sl (min d (p'.length+1)) r rows) },.c (.sl true q.1 ((q.2.drop off).take n)))
   |_=>none
  else none
 |_,_=>some (σ,x)
def GN(σ:St)(a x:XV):Option St:=(E7 σ a x).bind fun q=>Gz q.1 a q.2
def I6(bx:List Bx)(x:AV):Option ((r:Ty)×(List r.D×List Bx×Nat)):=
 match x with
 | .v .str s=>some ⟨.int .u8,s.map (fun c=>(c.toNat:Int)),bx,9⟩
 | .sl s r rows=>if r.flat then some ⟨r,rows,bx,9⟩else if s then some ⟨r,rows,bx,1⟩else none
 | .ref b []=>
  match bx[b]? with
  |some (.sl d r rows)=>if r.flat then some ⟨r,rows,bx,9⟩else some ⟨r,rows,bx.set b .dead,d⟩
  |_=>none
 | .ref b p=>
  match bx[b]? with
  |some (.sl _ r rows)=>(Ay r rows p).bind fun q=>if q.1.flat then some ⟨q.1,q.2,bx,9⟩else none
  |_=>none
 | .win b p off n=>
  match bx[b]? with
  |some (.sl _ r rows)=>(Ay r rows p).bind fun q=>if q.1.flat then some ⟨q.1,(q.2.drop off).take n,bx,9⟩else none
  |_=>none
 |_=>none
def I9(bx:List Bx)(x:AV):Option ((r:Ty)×(List r.D×List Bx×Nat)):=
 match x with
 | .ref b []=>
  match bx[b]? with
  |some (.sl d r rows)=>some ⟨r,rows,bx.set b .dead,d⟩
  |_=>none
 | .win b [] off n=>
  match bx[b]? with
  |some (.sl d r rows)=>some ⟨r,(rows.drop off).take n,bx.set b .dead,d⟩
  |_=>none
 |_=>none
def Bb.elem(T:Bb)(t:Nat):Option TI:=
 match(T.get t).map TI.desc with
 |some (.sl e)=>T.get e
 |_=>none
def Bb.C7(T:Bb)(t:Nat)(r:Ty):Bool:=
 match T.elem t with
 |some ti=>decide (ti.size=r.n)&&decide (ti.bytes≤512)&&decide (ti.row=some r)
 |none=>false
def Bb.isStr(T:Bb)(t:Nat):Bool:=
 match(T.get t).map TI.desc with
 |some .str=>true
 |_=>false
def Bb.Pq(T:Bb)(t:Nat):Bool:=
 match(T.get t).map TI.desc with
 |some (.sl _)=>true
 |_=>false
def GZ(T:Bb)(ts:Array TypeId)(σ:St)(a x:XV)(k:K Y):Option Y:=
 match ts[0]?,ts[1]? with
 |some t,some u=>
  if T.Pq u||T.isStr u then
   match a,x with
   | .c .nil,.c y=>
    (I6 σ.bx y).bind fun s=>if T.C7 t s.1 then
     if s.2.1.length≤FE then k (.c (.ref s.2.2.1.length [])) { σ with bx:=s.2.2.1++[.sl s.2.2.2 s.1 s.2.1] }else none
     else none
   | .c a,.c y=>
    (I9 σ.bx a).bind fun d=>if T.C7 t d.1 then(I6 d.2.2.1 y).bind fun s=>
     (Cc (β:=fun r=>List r.D) s.1 d.1 s.2.1).bind fun rows=>
      if d.2.1.length+rows.length≤FE then
       k (.c (.ref s.2.2.1.length [])) { σ with bx:=s.2.2.1++[.sl (min d.2.2.2 s.2.2.2) d.1 (d.2.1++rows)] }
      else none
     else none
   |_,_=>none
  else none
 |_,_=>none
def Hw(T:Bb)(ts:Array TypeId)(σ:St)(x:XV)(k:K Y):Option Y:=
 match ts[0]?,x with
 |some t,.c (.win b [] off n)=>
  match σ.bx[b]? with
  |some (.sl d r rows)=>if T.C7 t r&&(r.flat&&decide (0<r.n))then k (.c .undef) { σ with bx:=σ.bx.set b (.sl d r ((rows.take off++List.replicate n r.z)++rows.drop (off+n))) }else none
  |_=>none
 |_,_=>none
def Fz:XV→Option Int
 | .c (.v (.int _) n)=>some n
 |_=>none
def CL(len:Nat)(lo hi:Option XV)(k:Nat→Nat→Option Y):Option Y:=
 let h:Option Int:=match hi with
  |none=>some (len:Int)
  |some x=>Fz x
 let l:Option Int:=match lo with
  |none=>some 0
  |some x=>Fz x
 match l,h with
 |some l,some h=>if 0≤l∧l≤h∧h≤(len:Int)then k l.toNat h.toNat else none
 |_,_=>none
def H6(T:Bb)(t:Nat)(σ:St)(x:XV)(lo hi:Option XV)(k:K Y):Option Y:=
 match x with
 | .c (.v .str s)=>if T.isStr t then CL s.length lo hi fun l h=>k (.c (.v .str ((s.drop l).take (h-l)))) σ else none
 | .c (.sl s r rows)=>if T.C7 t r then CL rows.length lo hi fun l h=>k (.c (.sl s r ((rows.drop l).take (h-l)))) σ else none
 | .c (.ref b p)=>
  match B7 σ.bx (.ref b p)with
  |some q=>if T.C7 t q.1 then CL q.2.length lo hi fun l h=>k (.c (.win b p l (h-l))) σ else none
  |none=>none
 |_=>none
def Hu(σ:St)(T:Bb)(t:Nat)(x i:XV)(k:K Y):Option Y:=
 match x,Fz i with
 | .c (.sl s r rows),some i=>if T.C7 t r then(if 0≤i∧i<(rows.length:Int)then k (.c (.CH s r (rowAt r rows i.toNat) 0)) σ else none)else none
 | .c (.ref b p),some i=>
  match B7 σ.bx (.ref b p)with
  |some q=>if T.C7 t q.1 then(if 0≤i∧i<(q.2.length:Int)then k (.c (.BT b p i.toNat q.1.n 0)) σ else none)else none
  |none=>none
 | .c (.win b p off n),some i=>
  match B7 σ.bx (.ref b p)with
  |some q=>if T.C7 t q.1 then(if 0≤i∧i<(n:Int)then k (.c (.BT b p (off+i.toNat) q.1.n 0)) σ else none)else none
  |none=>none
 |_,_=>none
def Li(T:Bb)(t:Nat)(x:XV)(f:Nat):Option XV:=
 match T.get t with
 |some ⟨_,_,.st fs,_⟩=>
  match fs[f]? with
  |some (o,_)=>match x with
   | .c (.BA b j)=>some (.c (.BA b (j+o)))
   | .c (.BT b p i sz j)=>some (.c (.BT b p i sz (j+o)))
   | .c (.CH s r y j)=>some (.c (.CH s r y (j+o)))
   |_=>none
  |none=>none
 |_=>none
def PI(T:Bb)(t:Nat)(x:XV)(f:Nat):Option XV:=
 match T.get t,x with
 |some ⟨_,_,.st fs,_⟩,.agg l=>
  match fs[f]? with
  |some (o,u)=>
   match T.get u with
   |some ti=>if ti.desc.agg then some (.agg ((l.drop o).take ti.size))else(l[o]?).map .c
   |none=>none
  |none=>none
 |_,_=>none
def Km(T:Bb)(src dst:Nat)(σ:St)(x:XV)(k:K Y):Option Y:=
 match(T.get src).map TI.desc,(T.get dst).map TI.desc,x with
 |some (.int _),some (.int κ),.c (.v (.int _) n)=>k (.c (.v (.int κ) (κ.wrap n))) σ
 |some .str,some .str,.c (.v .str s)=>k (.c (.v .str s)) σ
 |some .str,some (.sl e),.c (.v .str s)=>
  match(T.get e).map TI.desc with
  |some (.int .u8)=>if s.length≤FE then k (.c (.ref σ.bx.length [])) (σ.new (.sl 9 (.int .u8) (s.map fun c=>(c.toNat:Int))))else none
  |_=>none
 |some (.sl e),some .str,.c x=>
  match(T.get e).map TI.desc,Bz σ.bx (.sl (.int .u8)) x with
  |some (.int .u8),some l=>k (.c (.v .str (l.map fun n:Int=>UInt8.ofNat n.toNat))) σ
  |_,_=>none
 |_,_,_=>none
def Kn(T:Bb)(t:Nat)(σ:St)(l c:XV)(k:K Y):Option Y:=
 match(T.get t).map TI.desc,Fz l,Fz c with
 |some (.sl e),some n,some m=>
  match Bb.Hc T e with
  |some r=>if T.C7 t r then(if 0≤n∧n≤m∧m≤(FE:Int)then k (.c (.ref σ.bx.length [])) (σ.new (.sl 9 r (List.replicate n.toNat r.z)))else none)else none
  |none=>none
 |_,_,_=>none
def HB(T:Bb)(fs:List V8):List AV→List (Nat×XV)→Option (List AV)
 |cs,[]=>some cs
 |cs,(i,x)::l=>
  match fs[i]? with
  |some (o,u)=>
   match T.get u with
   |some ti=>if x.cells.length=ti.size∧ti.size≠0∧x.cells.all AV.known=true then(D6 cs o x.cells).bind fun cs=>HB T fs cs l else none
   |none=>none
  |none=>none
def Eb(r:Ty):Nat→Nat→List (Nat×XV)→List Bx→Nat→Option (List r.D×List Bx×Nat)
 |_,0,[],bx,d=>some ([],bx,d)
 |i,n+1,(j,x)::l,bx,d=>
  if i=j then(Oo d r x bx).bind fun a=>(Eb r (i+1) n l a.2.1 a.2.2).map fun b=>(a.1::b.1,b.2)else none
 |i,n+1,[],bx,d=>(Eb r (i+1) n [] bx d).map fun b=>(r.z::b.1,b.2)
 |_,0,_::_,_,_=>none
def Cm(T:Bb)(t n:Nat)(parts:List (Nat×XV))(σ:St)(k:K Y):Option Y:=
 match(T.get t).map TI.desc with
 |some (.sl e)=>
  match Bb.Hc T e with
  |some r=>if T.C7 t r&&decide (n≤1024)&&decide (r.n≤1024)then(Eb r 0 n parts σ.bx 9).bind fun a=>k (.c (.ref a.2.1.length [])) { σ with bx:=a.2.1++[.sl a.2.2 r a.1] }else none
  |none=>none
 |_=>none
def Dw(T:Bb)(t:Nat)(σ:St)(x i:XV)(k:K Y):Option Y:=
 match x,Fz i with
 | .c (.v .str s),some i=>if T.isStr t then if 0≤i∧i<(s.length:Int)then k (.c (.v (.int .u8) ((s.getD i.toNat 0).toNat:Int))) σ else none else none
 |_,_=>none
def J4(x:XV)(i:Nat):Option XV:=
 match x with
 | .DY l=>match l[i]? with
  |some (.inl a)=>some (.c a)
  |some (.inr q)=>some (.agg q)
  |none=>none
 |_=>none
def Ai(m:CQ):AV→AV
 | .ref b (s::p)=>if m.contains (some b)then .undef else .ref b (s::p)
 | .win b (s::p) i n=>if m.contains (some b)then .undef else .win b (s::p) i n
 | .BT b (s::p) i sz j=>if m.contains (some b)then .undef else .BT b (s::p) i sz j
 |x=>x
def DX(m:CQ):XV→XV
 | .c x=> .c (Ai m x)
 | .agg l=> .agg (l.map (Ai m))
 | .DY l=> .DY (l.map fun| .inl x=> .inl (Ai m x)| .inr q=> .inr (q.map (Ai m)))
def PJ(m:CQ):Bx→Bx
 | .mem cs=> .mem (cs.map (Ai m))
 |x=>x
def St.EG(m:CQ)(σ:St):St:=
 match m with
 |[]=>σ
 |_::_=>{ tm:=σ.tm.map (DX m),bx:=σ.bx.map (PJ m) }
def IW(c:EN)(args:List XV)(σ:St)(k:K Y):Option Y:=
 if args.length=c.ins.Ab.length then
  match c.ins.fit σ.bx.length c.ins.m0 args (c.ins.opens σ.bx)with
  |some (v,m)=>(c.g v).bind fun u=>
   let BX:=ES m (c.ins.opens σ.bx).length
   let σ1:=({ σ with bx:=c.ins.opens σ.bx }:St).EG m
   k (GV c.outs.Ab u.1 BX) { σ1 with bx:=Ez BX 0 c.outs.Az u.2 (AH σ1.bx m) }
  |none=>none
 else none
def FZ(σ:St)(x:XV)(k:K Y):Option Y:=
 match x with
 | .c (.win b [] off n)=>
  (I9 σ.bx (.win b [] off n)).bind fun s=>k (.c (.ref s.2.2.1.length [])) { σ with bx:=s.2.2.1++[.sl s.2.2.2 s.1 s.2.1] }
 |x=>k x σ
def MD(l:List XV):Option V6:=
 match l with
 |[]=>some []
 | .c (.BA b 0)::l=>(MD l).map fun r=>b::r
 |_=>none
def LK(big:Bool)(a b:XV)(k:AV→Option Y):Option Y:=
 match a,b with
 | .c (.v (.int j) x),.c (.v (.int j') y)=>
  if j=j' then(if big then k (.v (.int j) (if y>x then y else x))else k (.v (.int j) (if y<x then y else x)))else none
 |_,_=>none
def D1(T:Bb)(Γ:Nat→Option EN)(o:Oper)(σ:St)(k:K Y):Option Y:=
 match o.op with
 | .move x=>k (σ.ev x) σ
 | .assign x=>FZ σ (σ.ev x) k
 | .pick c a b=>match σ.ev c with
  | .c (.v .bool x)=>O5 x (σ.ev a) (σ.ev b) σ k
  |_=>none
 | .alloc t=>match Bb.Hc T t with
  |some r=>k (.c (.BA σ.bx.length 0)) (σ.new (.mem (FO r)))
  |none=>none
 | .box t x=>match T.get t with
  |some ti=>if(σ.ev x).cells.length=ti.size∧ti.size≠0∧(σ.ev x).cells.all AV.known=true then k (.c (.BA σ.bx.length 0)) (σ.new (.mem (σ.ev x).cells))else none
  |none=>none
 | .build t parts=>match T.get t,Bb.Hc T t with
  |some ⟨_,_,.st fs,_⟩,some r=>match HB T fs (FO r) (parts.toList.map fun q=>(q.1,σ.ev q.2))with
   |some cs=>k (.agg cs) σ
   |none=>none
  |_,_=>none
 | .buildSlice t n parts=>Cm T t n (parts.toList.map fun q=>(q.1,σ.ev q.2)) σ k
 | .load t a=>match IU T t σ (σ.ev a)with
  |some x=>k x σ
  |none=>none
 | .store t a x=>match T.get t with
  |some ti=>if(σ.ev x).cells.length=ti.size∧ti.size≠0∧(σ.ev x).cells.all AV.known=true then(match GN σ (σ.ev a) (σ.ev x)with
   |some σ=>k (.c .undef) σ
   |none=>none)else none
  |none=>none
 | .nilCheck x=>match σ.ev x with
  | .c (.BA b j)=>k (.c (.BA b j)) σ
  | .c (.BT b p i sz j)=>k (.c (.BT b p i sz j)) σ
  | .c (.CH s r y j)=>k (.c (.CH s r y j)) σ
  | .c (.fn f BZ)=>k (.c (.fn f BZ)) σ
  |_=>none
 | .binOp op t x y _=>L0 T t op (σ.ev x) (σ.ev y) fun a=>k (.c a) σ
 | .unOp op _ x=>QB op (σ.ev x) fun a=>k (.c a) σ
 | .convert s d x=>Km T s d σ (σ.ev x) k
 | .makeFunc (.func f) first BZ=>if first.size=0 then(match MD (BZ.toList.map σ.ev)with
  |some bs=>k (.c (.fn f bs)) σ
  |none=>none)else none
 | .makeSlice t l c=>Kn T t σ (σ.ev l) (σ.ev c) k
 | .slice t x lo hi none=>H6 T t σ (σ.ev x) (lo.map σ.ev) (hi.map σ.ev) k
 | .fieldAddr t x f=>match Li T t (σ.ev x) f with
  |some y=>k y σ
  |none=>none
 | .field t x f=>match PI T t (σ.ev x) f with
  |some y=>k y σ
  |none=>none
 | .indexAddr t x i=>Hu σ T t (σ.ev x) (σ.ev i) k
 | .index t x i=>Dw T t σ (σ.ev x) (σ.ev i) k
 | .extract x i=>match J4 (σ.ev x) i with
  |some y=>k y σ
  |none=>none
 | .call { callee:= .value f,args,.. }=>match σ.ev f with
  | .c (.fn f BZ)=>match Γ f with
   |some c=>IW c (args.toList.map σ.ev++BZ.map fun b=> .c (.BA b 0)) σ k
   |none=>none
  | .c (.LB f rows)=>match Γ f with
   |some c=>IW c (args.toList.map σ.ev++rows.map fun q=> .c (.CH false q.1 q.2 0)) σ k
   |none=>none
  |_=>none
 | .call { callee:= .builtin .len,args,argTypes }=>match args.toList.map σ.ev,argTypes[0]? with
  |[.c (.v .str s)],some t=>if T.isStr t then k (.c (.v (.int .i64) (s.length:Int))) σ else none
  |[.c x],some t=>if T.Pq t then(match lenOf σ.bx x with
   |some n=>k (.c (.v (.int .i64) (n:Int))) σ
   |none=>none)else none
  |_,_=>none
 | .call { callee:= .builtin .append,args,argTypes }=>match args.toList.map σ.ev with
  |[a,x]=>GZ T argTypes σ a x k
  |_=>none
 | .call { callee:= .builtin .clear,args,argTypes }=>match args.toList.map σ.ev with
  |[x]=>Hw T argTypes σ x k
  |_=>none
 | .call { callee:= .builtin .max,args,.. }=>match args.toList.map σ.ev with
  |[a,x]=>LK true a x fun a=>k (.c a) σ
  |_=>none
 | .call { callee:= .builtin .min,args,.. }=>match args.toList.map σ.ev with
  |[a,x]=>LK false a x fun a=>k (.c a) σ
  |_=>none
 |_=>none
end ops
end Go.Fw
end
section
namespace Go.Fw
section
variable{Y:Type}
structure KH where
 T:Bb
 Γ:Nat→Option EN
 hint:Nat→List Nat
def Gt(hint:V6):XV→Bool
 | .c (.BA b _)=>hint.contains b
 | .c (.BT b _ _ _ _)=>hint.contains b
 | .c (.CH _ _ _ _)=>true
 |_=>false
def HW(hint:V6)(σ:St):Op→Bool
 | .assign x=>match σ.ev x with
  | .c (.win _ [] _ _)=>false
  |_=>true
 | .move _| .pick .. | .nilCheck _| .binOp .. | .unOp .. | .fieldAddr .. | .field .. | .indexAddr .. | .index .. | .extract .. | .build .. =>true
 | .slice _ _ _ _ none=>true
 | .load _ a=>Gt hint (σ.ev a)
 | .call { callee:= .builtin .len,.. }=>true
 | .call { callee:= .builtin .max,.. }=>true
 | .call { callee:= .builtin .min,.. }=>true
 |_=>false
def BK(Γ:Nat→Option EN)(σ:St):Op→List Nat
 | .store _ a _=>match σ.ev a with
  | .c (.BA b _)=>[b]
  | .c (.BT b _ _ _ _)=>[b]
  |_=>[]
 | .call { callee:= .value f,args,.. }=>match σ.ev f with
  | .c (.fn f BZ)=>match Γ f with
   |some c=>match c.ins.fit σ.bx.length c.ins.m0 (args.toList.map σ.ev++BZ.map fun b=> .c (.BA b 0)) (c.ins.opens σ.bx)with
    |some (_,m)=>m.filterMap id
    |none=>[]
   |none=>[]
  | .c (.LB f rows)=>match Γ f with
   |some c=>match c.ins.fit σ.bx.length c.ins.m0 (args.toList.map σ.ev++rows.map fun q=> .c (.CH false q.1 q.2 0)) (c.ins.opens σ.bx)with
    |some (_,m)=>m.filterMap id
    |none=>[]
   |none=>[]
  |_=>[]
 | .call { callee:= .builtin .clear,args,.. }=>match args.toList.map σ.ev with
  |[.c (.win b _ _ _)]=>[b]
  |_=>[]
 |_=>[]
def tt:XV:= .c (.v .bool true)
def ff:XV:= .c (.v .bool false)
def NU(C:KH)(ops:Array Oper)(o:Oper)(kn:St→Option Y)(σ:St):Option Y:=
 match o.guard with
 |none=>D1 C.T C.Γ o σ fun x σ' =>kn (σ'.put o.dst x)
 |some (j,want)=>
  match(ops[j]?).bind (·.dst)with
  |some t=>
   match σ.tm[t]? with
   |some (.c (.v .bool b))=>
    let yes (σ:St):Option Y:=D1 C.T C.Γ o σ fun x σ' =>kn (σ'.put o.dst x)
    let no (σ:St):Option Y:=kn (σ.put o.dst (.DY []))
    cond b ((if want then yes else no) (σ.put (some t) tt)) ((if want then no else yes) (σ.put (some t) ff))
   |some (.DY [])=>kn (σ.put o.dst (.DY []))
   |_=>none
  |none=>none
def LR(C:KH)(all:Array Oper):List Oper→(St→Option Y)→St→Option Y
 |[],kn,σ=>kn σ
 |o::rest,kn,σ=>NU C all o (fun σ' =>LR C all rest kn σ') σ
def NT(C:KH)(ops:Array Oper)(i:Nat)(kn:St→Option Y)(σ:St):Option Y:=
 match ops[i]? with
 |none=>none
 |some o=>NU C ops o kn σ
def Hr(bx:List Bx)(b:Nat):Bool:=
 match bx[b]? with
 |some .dead=>true
 |some _=>false
 |none=>true
def idle(ops:Array Oper)(σ:St)(o:Oper):Bool:=
 match o.guard with
 |none=>false
 |some (j,want)=>
  match(ops[j]?).bind (·.dst)with
  |some t=>
   match σ.tm[t]? with
   |some (.c (.v .bool b))=>b !=want
   |some (.DY [])=>true
   |_=>false
  |none=>false
def JX(hint:V6)(ops:Array Oper)(AZ:Array Bool)(σ:St)(i:Nat):Bool:=
 match ops[i]? with
 |some o=>(HW hint σ o.op||idle ops σ o)&&Region.free .any ops AZ i
 |none=>false
def LY(f:Nat→List Bool→Option Y):List Nat→List Bool→Option Y
 |[],_=>none
 |[i],ω=>f i ω
 |i::_::_,[]=>f i []
 |i::_::_,true::ω=>f i ω
 |_::j::r,false::ω=>LY f (j::r) ω
def DM(C:KH)(hint:V6)(ops:Array Oper)(kn:List Bool→St→Option Y):Nat→Array Bool→List Bool→St→Option Y
 |fuel,AZ,ω,σ=>
  if hint.all (fun b=> !Hr σ.bx b)then
   match Region.ready .any ops AZ with
   |[]=>kn ω σ
   |rs=>
    match fuel with
    |0=>none
    |fuel+1=>
     match rs.find? (JX hint ops AZ σ)with
     |some i=>NT C ops i (fun σ' =>DM C hint ops kn fuel (AZ.setIfInBounds i true) ω σ') σ
     |none=>LY (fun i ω=>
      match ops[i]? with
      |some o=>if(BK C.Γ σ o.op).all (fun b=> !hint.contains b)then NT C ops i (fun σ' =>DM C hint ops kn fuel (AZ.setIfInBounds i true) ω σ') σ else none
      |none=>none) rs ω
  else none
def first:Code→Nat
 | .region id _ _=>id
 | .seq a _=>first a
 | .cond _ a _=>first a
 | .block _ a=>first a
 | .loop a=>first a
 | .scope a=>first a
 |_=>0
abbrev KN(Y:Type):=List Bool→St→Option Y
def run(C:KH)(J:Nat→St→Option Y):Code→KN Y→(Nat→KN Y)→KN Y→KN Y
 | .skip,kn,_,_,ω,σ=>kn ω σ
 | .region id ops draw,kn,_,_,ω,σ=>
  if draw then(if Region.noSelect ops then DM C (C.hint id) ops kn ops.size (Array.replicate ops.size false) ω σ else none)else LR C ops ops.toList (kn ω) σ
 | .seq a b,kn,kx,kr,ω,σ=>run C J a (fun ω σ=>run C J b kn kx kr ω σ) kx kr ω σ
 | .cond (.tmp t) a b,kn,kx,kr,ω,σ=>
  match σ.tm[t]? with
  |some (.c (.v .bool x))=>cond x (run C J a kn kx kr ω (σ.put (some t) tt)) (run C J b kn kx kr ω (σ.put (some t) ff))
  |_=>none
 | .block id body,kn,kx,kr,ω,σ=>run C J body kn (fun j ω σ=>if j=id then kn ω σ else kx j ω σ) kr ω σ
 | .loop body,_,_,_,_,σ=>J (first body) σ
 | .exit id,_,kx,_,ω,σ=>kx id ω σ
 | .ret,_,_,kr,ω,σ=>kr ω σ
 |_,_,_,_,_,_=>none
def find(C:KH)(J:Nat→St→Option Y)(ℓ :Nat):Code→KN Y→(Nat→KN Y)→KN Y→Option (KN Y)
 | .seq a b,kn,kx,kr=>
  match find C J ℓ a (fun ω σ=>run C J b kn kx kr ω σ) kx kr with
  |some f=>some f
  |none=>find C J ℓ b kn kx kr
 | .cond _ a b,kn,kx,kr=>
  match find C J ℓ a kn kx kr with
  |some f=>some f
  |none=>find C J ℓ b kn kx kr
 | .block id body,kn,kx,kr=>find C J ℓ body kn (fun j ω σ=>if j=id then kn ω σ else kx j ω σ) kr
 | .loop body,_,kx,kr=>
  if first body= ℓ then some (fun ω σ=>run C J body (fun _ σ=>J ℓ σ) kx kr ω σ)else find C J ℓ body (fun _ σ=>J (first body) σ) kx kr
 |_,_,_,_=>none
def OY(T:Bb)(σ:St):ResultVar→Option XV
 | .tmp t=>σ.tm[t]?
 | .cell a t=>match σ.tm[a]? with
  |some x=>IU T t σ x
  |none=>none
def Lt:List XV→Option (List (AV ⊕ List AV))
 |[]=>some []
 | .c x::l=>(Lt l).map fun r=> .inl x::r
 | .agg q::l=>(Lt l).map fun r=> .inr q::r
 |_=>none
def J9(T:Bb)(σ:St)(rs:List ResultVar):Option XV:=
 match rs.mapM (OY T σ)with
 |some [x]=>some x
 |some l=>(Lt l).map .DY
 |none=>none
def DD:Nat→Nat→List BP→CQ
 |_,_,[]=>[]
 |i,n,p::l=>(match p with| .gone=>none|_=>if i<n then some i else none)::DD (i+1) n l
def Ke(T:Bb)(c:EN)(rs:List ResultVar)(σ:St):Option c.outs.V:=
 (J9 T σ rs).bind fun x=>(c.outs.fit σ.bx.length (DD 0 c.ins.Az.length c.outs.Az) [x] (c.outs.opens σ.bx)).map fun q=>q.1
def IA(C:KH)(c:EN)(fn:Func)(J:Nat→St→Option c.outs.V)(ω:List Bool)(v:c.ins.V):Option c.outs.V:=
 match fn.body with
 |some code=>run C J code (fun _=>Ke C.T c fn.results.toList) (fun _ _ _=>none) (fun _=>Ke C.T c fn.results.toList) ω (c.ins.st fn.ntmps v)
 |none=>none
def MI(C:KH)(c:EN)(fn:Func)(J:Nat→St→Option c.outs.V)(ℓ :Nat)(ω:List Bool)(σ:St):Option c.outs.V:=
 match fn.body with
 |some code=>
  match find C J ℓ code (fun _=>Ke C.T c fn.results.toList) (fun _ _ _=>none) (fun _=>Ke C.T c fn.results.toList)with
  |some f=>f ω σ
  |none=>none
 |none=>none
def AV.J6(b:Nat)(r:Ty)(rows:List r.D):AV→AV
 | .ref k []=>if k=b then .sl true r rows else .ref k []
 |x=>x
def XV.J6(b:Nat)(r:Ty)(rows:List r.D):XV→XV
 | .c x=> .c (x.J6 b r rows)
 |x=>x
def Bx.J6(b:Nat)(r:Ty)(rows:List r.D):Bx→Bx
 | .mem cs=> .mem (cs.map (AV.J6 b r rows))
 |x=>x
def St.J6(b:Nat)(σ:St):St:=
 match σ.bx[b]? with
 |some (.sl _ r rows)=>{ tm:=σ.tm.map (XV.J6 b r rows),bx:=(σ.bx.set b .dead).map (Bx.J6 b r rows) }
 |_=>σ
def CV:List AP→List AV→St→St
 | .sl true _::l,.ref b []::xs,σ=>CV l xs (σ.J6 b)
 |_::l,_::xs,σ=>CV l xs σ
 |_,_,σ=>σ
def CW(bs:List BP):List (Nat×XP)→St→St
 |[],σ=>σ
 |(i,.c (.sl true r))::l,σ=>
  match σ.tm[i]? with
  |some (.c x)=>CW bs l (CV [.sl true r] [x] σ)
  |_=>CW bs l σ
 |(i,.c (.ptr k _))::l,σ=>
  match bs[k]?,σ.tm[i]? with
  |some (.mem ps),some (.c (.BA b _))=>
   match σ.bx[b]? with
   |some (.mem cs)=>CW bs l (CV ps cs σ)
   |_=>CW bs l σ
  |_,_=>CW bs l σ
 |_::l,σ=>CW bs l σ
def AV.Ko:AV→Bool
 | .ref _ _| .win _ _ _ _| .sl _ _ _| .nil=>true
 |_=>false
def St.forget(b j:Nat)(σ:St):St:=
 match σ.bx[b]? with
 |some (.mem cs)=>
  match cs[j]? with
  |some x=>if x.Ko then{ σ with bx:=σ.bx.set b (.mem (cs.set j (.ref σ.bx.length [])))++[.dead] }else σ
  |none=>σ
 |_=>σ
def D2(bs:List BP)(b:Nat):Nat→List AP→St→St
 |_,[],σ=>σ
 |j,p::l,σ=>D2 bs b (j+1) l (match p with
  | .ref q=>match bs[q]? with
   |some .gone=>σ.forget b j
   |_=>σ
  |_=>σ)
def F_(bs:List BP):List (Nat×XP)→St→St
 |[],σ=>σ
 |(i,p)::l,σ=>F_ bs l (match p with
  | .c (.ptr k _)=>match bs[k]?,σ.tm[i]? with
   |some (.mem ps),some (.c (.BA b _))=>D2 bs b 0 ps σ
   |_,_=>σ
  |_=>σ)
def jump(nb:Nat)(s:CS)(f:s.V→Option Y)(σ:St):Option Y:=
 if nb≤s.Az.length then
  let σ:=F_ s.Az s.Ab (CW s.Az s.Ab σ)
  (s.fit σ.bx.length (DD 0 nb s.Az) σ.tm (s.opens σ.bx)).bind fun q=>f q.1
 else none
end
end Go.Fw
end
section
namespace Go.Fw
def AG(w:World)(b o:Nat)(cs:List Value):Prop:= ∀j v,cs[j]? =some v→w.cell? ⟨b,o+j,none⟩=some v
def Rd(w:World)(B:Nat→Prop):(t:Ty)→List Value→t.D→Prop
 | .int k,vs,x=>vs=[.int k x]
 | .bool,vs,x=>vs=[.bool x]
 | .str,vs,x=>vs=[.string ⟨x.toArray⟩]
 | .sl r,vs,x=> ∃a cap,vs=[.slice a (List.length x) cap]∧List.length x≤cap∧(List.length x=0∨ ∃b o,a=some ⟨b,o,none⟩∧B b∧
  ∀(i:Nat) (y:r.D),x[i]? =some y→ ∃cs,cs.length=r.n∧AG w b (o+i*r.n) cs∧Rd w B r cs y)
 | .unit,vs,_=>vs=[]
 | .cons c r,vs,x=> ∃v l,vs=v::l∧Rd w B c [v] x.1∧Rd w B r l x.2
def Mt(fr:V8)(n:Nat):Prop:= ∀i,i<n→ ¬(fr.1≤i∧i<fr.2)
def mk:Ty→Nat
 | .int .u8=>0
 |_=>1
def Ow(w:World)(S:Nat→Prop):(d:Nat)→(t:Ty)→List Value→t.D→List Nat→Prop
 |0,.sl r,vs,x,F=>Rd w S (.sl r) vs x∧F=[]
 |d+1,.sl r,vs,x,F=> ∃a cap,vs=[.slice a (List.length x) cap]∧List.length x≤cap∧
  ((
   cap=0∧F=[])∨ ∃b o arr ty fr Fs,a=some ⟨b,o,none⟩∧w.heap[b]? =some (.cells arr ty fr)∧o+cap*r.n≤arr.size∧Mt fr (arr.size+mk r)∧
   F=b::List.flatten Fs∧Fs.length=List.length x∧
   ∀(i:Nat) (y:r.D) (G:V6),x[i]? =some y→Fs[i]? =some G→ ∃cs,cs.length=r.n∧AG w b (o+i*r.n) cs∧Ow w S d r cs y G)
 |d,.cons c r,vs,x,F=> ∃v l F1 F2,vs=v::l∧F=F1++F2∧Ow w S d c [v] x.1 F1∧Ow w S d r l x.2 F2
 |_,.unit,vs,_,F=>vs=[]∧F=[]
 |_,.int k,vs,x,F=>vs=[.int k x]∧F=[]
 |_,.bool,vs,x,F=>vs=[.bool x]∧F=[]
 |_,.str,vs,x,F=>vs=[.string ⟨x.toArray⟩]∧F=[]
theorem Hs{w B}:∀{t:Ty} {vs x},Rd w B t vs x→vs.length=t.n
 | .int _,_,_,h=>by simp only[Rd]at h;subst h;rfl
 | .bool,_,_,h=>by simp only[Rd]at h;subst h;rfl
 | .str,_,_,h=>by simp only[Rd]at h;subst h;rfl
 | .sl _,_,_,h=>by simp only[Rd]at h;obtain⟨_,_,h,_⟩:=h;subst h;rfl
 | .unit,_,_,h=>by simp only[Rd]at h;subst h;rfl
 | .cons _ _,_,_,h=>by
  simp only[Rd]at h;obtain⟨_,_,rfl,_,h⟩:=h;simp[Ty.n,Hs h]
theorem EJ{w S}:∀{d} {t:Ty} {vs x F},Ow w S d t vs x F→vs.length=t.n
 |_,.int _,_,_,_,h=>by simp only[Ow]at h;rw[h.1];rfl
 |_,.bool,_,_,_,h=>by simp only[Ow]at h;rw[h.1];rfl
 |_,.str,_,_,_,h=>by simp only[Ow]at h;rw[h.1];rfl
 |0,.sl _,_,_,_,h=>by simp only[Ow]at h;exact Hs h.1
 |_+1,.sl _,_,_,_,h=>by simp only[Ow]at h;obtain⟨_,_,h,_⟩:=h;subst h;rfl
 |_,.unit,_,_,_,h=>by simp only[Ow]at h;rw[h.1];rfl
 |_,.cons _ _,_,_,_,h=>by
  simp only[Ow]at h;obtain⟨_,_,_,_,rfl,_,_,h⟩:=h;simp[Ty.n,EJ h]
theorem AG.of_block{w w':World}{b o:Nat}{cs:List Value}(h:AG w b o cs)(hb:w'.heap[b]? =w.heap[b]?):AG w' b o cs:=
 fun j v hj=>(World.cell?_of_block (a:=⟨b,o+j,none⟩) hb).trans (h j v hj)
theorem Ak{w w':World}{B B':Nat→Prop}(hB:∀b,B b→B' b)(hw:∀b,B b→w'.heap[b]? =w.heap[b]?):∀{t:Ty} {vs x},Rd w B t vs x→Rd w' B' t vs x
 | .int _,_,_,h=>by simpa only[Rd]using h
 | .bool,_,_,h=>by simpa only[Rd]using h
 | .str,_,_,h=>by simpa only[Rd]using h
 | .unit,_,_,h=>by simpa only[Rd]using h
 | .sl r,_,_,h=>by
  simp only[Rd]at h⊢;obtain⟨a,cap,h1,h2,h3⟩:=h;refine⟨a,cap,h1,h2,h3.imp id ?_⟩
  rintro⟨b,o,ha,hb,h⟩
  refine⟨b,o,ha,hB b hb,fun i y hy=> ?_⟩;obtain⟨cs,hl,hc,hr⟩:=h i y hy;exact⟨cs,hl,hc.of_block (hw b hb),Ak hB hw hr⟩
 | .cons _ _,_,_,h=>by
  simp only[Rd]at h⊢;obtain⟨v,l,h1,h2,h3⟩:=h;exact⟨v,l,h1,Ak hB hw h2,Ak hB hw h3⟩
theorem Ae{w w':World}{S S':Nat→Prop}(hS:∀b,S b→S' b)(hw:∀b,S b→w'.heap[b]? =w.heap[b]?):
  ∀{d} {t:Ty} {vs x F},(∀b∈F,w'.heap[b]? =w.heap[b]?)→Ow w S d t vs x F→Ow w' S' d t vs x F
 |_,.int _,_,_,_,_,h=>by simpa only[Ow]using h
 |_,.bool,_,_,_,_,h=>by simpa only[Ow]using h
 |_,.str,_,_,_,_,h=>by simpa only[Ow]using h
 |_,.unit,_,_,_,_,h=>by simpa only[Ow]using h
 |0,.sl r,_,_,_,_,h=>by
  simp only[Ow]at h⊢;exact⟨Ak hS hw h.1,h.2⟩
 |d+1,.sl r,_,x,F,hF,h=>by
  simp only[Ow]at h⊢;obtain⟨a,cap,h1,h2,h3⟩:=h;refine⟨a,cap,h1,h2,h3.imp id ?_⟩
  rintro⟨b,o,arr,ty,fr,Fs,ha,hb,h4,h5,h6,h7,h⟩
  subst h6;have Pv:=hF b (by simp);refine⟨b,o,arr,ty,fr,Fs,ha,Pv.trans hb,h4,h5,rfl,h7,fun i y G hy hG=> ?_⟩;obtain⟨cs,hl,hc,hr⟩:=h i y G hy hG;refine⟨cs,hl,hc.of_block Pv,Ae hS hw (fun c hc=>hF c ?_) hr⟩;exact XC _ (Wh.2 ⟨G,WT hG,hc⟩)
 |_,.cons _ _,_,_,_,hF,h=>by
  simp only[Ow]at h⊢;obtain⟨v,l,F1,F2,h1,h2,h3,h4⟩:=h;subst h2;exact⟨v,l,F1,F2,h1,rfl,Ae hS hw (fun c hc=>hF c (by simp[hc])) h3,Ae hS hw (fun c hc=>hF c (by simp[hc])) h4⟩
theorem ER{w:World}{S:Nat→Prop}:∀{d} {t:Ty} {vs x F},Ow w S d t vs x F→Rd w (fun b=>S b∨b∈F) t vs x
 |_,.int _,_,_,_,h=>by simp only[Ow]at h;simp only[Rd];exact h.1
 |_,.bool,_,_,_,h=>by simp only[Ow]at h;simp only[Rd];exact h.1
 |_,.str,_,_,_,h=>by simp only[Ow]at h;simp only[Rd];exact h.1
 |_,.unit,_,_,_,h=>by simp only[Ow]at h;simp only[Rd];exact h.1
 |0,.sl r,_,_,_,h=>by
  simp only[Ow]at h;exact Ak (fun b hb=> .inl hb) (fun _ _=>rfl) h.1
 |d+1,.sl r,_,x,F,h=>by
  simp only[Ow]at h;simp only[Rd];obtain⟨a,cap,h1,h2,h3⟩:=h;refine⟨a,cap,h1,h2,?_⟩;rcases h3 with⟨hc,_⟩|⟨b,o,arr,ty,fr,Fs,ha,hb,h4,h5,h6,h7,h⟩
  ·exact .inl (by omega)
  ·refine .inr ⟨b,o,ha,.inr (by simp[h6]),fun i y hy=> ?_⟩
   have hi:i<Fs.length:=by
    have:=(WJ.1 hy).1;omega
   obtain⟨cs,hl,hc,hr⟩:=h i y Fs[i] hy (WK hi);refine⟨cs,hl,hc,Ak ?_ (fun _ _=>rfl) (ER hr)⟩;intro c Iw;rcases Iw with Iw|Iw
   ·exact .inl Iw
   ·exact .inr (by rw[h6];exact XC _ (Wh.2 ⟨_,XB hi,Iw⟩))
 |_,.cons _ _,_,_,_,h=>by
  simp only[Ow]at h;simp only[Rd];obtain⟨v,l,F1,F2,h1,h2,h3,h4⟩:=h;subst h2;refine⟨v,l,h1,Ak ?_ (fun _ _=>rfl) (ER h3),Ak ?_ (fun _ _=>rfl) (ER h4)⟩
  ·intro c hc;exact hc.imp id (by simp_all)
  ·intro c hc;exact hc.imp id (by simp_all)
theorem Bc{w:World}{S:Nat→Prop}:∀{d d'} {t:Ty} {vs x F},d≤d'→Ow w S d' t vs x F→
  ∃F1 F2,F.Perm (F1++F2)∧Ow w (fun b=>S b∨b∈F2) d t vs x F1
 |_,_,.int _,_,_,_,_,h=>by simp only[Ow]at h⊢;exact⟨[],[],by rw[h.2];simp,h.1,rfl⟩
 |_,_,.bool,_,_,_,_,h=>by simp only[Ow]at h⊢;exact⟨[],[],by rw[h.2];simp,h.1,rfl⟩
 |_,_,.str,_,_,_,_,h=>by simp only[Ow]at h⊢;exact⟨[],[],by rw[h.2];simp,h.1,rfl⟩
 |_,_,.unit,_,_,_,_,h=>by simp only[Ow]at h⊢;exact⟨[],[],by rw[h.2];simp,h.1,rfl⟩
 |0,d',.sl r,_,x,F,_,h=>by
  refine⟨[],F,by simp,?_⟩;simp only[Ow];exact⟨ER h,trivial⟩
 |d+1,0,.sl r,_,x,F,hd,h=>by omega
 |d+1,d'+1,.sl r,_,x,F,hd,h=>by
  simp only[Ow]at h⊢;obtain⟨a,cap,h1,h2,h3⟩:=h;rcases h3 with⟨hc,hF⟩|⟨b,o,arr,ty,fr,Fs,ha,hb,h4,h5,h6,h7,h⟩
  ·exact⟨[],[],by simp[hF],a,cap,h1,h2,.inl ⟨hc,rfl⟩⟩
  ·have key:∀(n:Nat) (Fs:List V6) (y:List r.D),Fs.length=n→y.length=n→(∀(i:Nat) (z:r.D) (G:V6),y[i]? =some z→Fs[i]? =some G→ ∃cs,cs.length=r.n∧AG w b (o+i*r.n) cs∧Ow w S d' r cs z G)→
     ∃(Gs:List V6) (F2:V6),Fs.flatten.Perm (Gs.flatten++F2)∧Gs.length=n∧ ∀(i:Nat) (z:r.D) (G:V6),y[i]? =some z→Gs[i]? =some G→ ∃cs,cs.length=r.n∧AG w b (o+i*r.n) cs∧Ow w (fun b=>S b∨b∈F2) d r cs z G:=by
    intro n
    induction n with
    |zero=>
     intro Fs y hF hy _;obtain rfl:=Wd hF;exact⟨[],[],by simp,rfl,fun i z G _ hG=>by simp at hG⟩
    |succ n ih=>
     intro Fs y hF hy hh;obtain⟨SI,G0,rfl⟩:∃l a,Fs=l++[a]:=⟨Fs.dropLast,Fs.getLast (by intro e;simp[e]at hF),(List.dropLast_concat_getLast _).symm⟩;obtain⟨y',z0,rfl⟩:∃l a,y=l++[a]:=⟨y.dropLast,y.getLast (by intro e;simp[e]at hy),(List.dropLast_concat_getLast _).symm⟩;simp only[Wb,Wa,Wm]at hF hy;obtain⟨Gs,F2,hp,hl,hg⟩:=ih SI y' (by omega) (by omega) (fun i z G hz hG=>hh i z G
      (by rw[WO (WJ.1 hz).1];exact hz) (by rw[WO (WJ.1 hG).1];exact hG))
     obtain⟨cs,Nb,hc,ho⟩:=hh n z0 G0 (by rw[WW (by omega)];simp[show n-y'.length=0 by omega]) (by rw[WW (by omega)];simp[show n-SI.length=0 by omega]);obtain⟨H1,H2,hhp,hho⟩:=Bc (d:=d) (d':=d') (by omega) ho;refine⟨Gs++[H1],F2++H2,?_,by simp[hl],?_⟩
     ·simp only[W6,Wv,Xe,Wj]
      refine(hp.append hhp).trans ?_
      rw[WR,WR];refine We _ ?_
      rw[←WR,←WR];exact WX _ Wf
     ·intro i z G hz hG
      by_cases hi:i<n
      ·rw[WO (by omega)]at hz hG
       obtain⟨cs,e1,e2,e3⟩:=hg i z G hz hG;exact⟨cs,e1,e2,Ae (by intro c hc;exact hc.imp id (by simp_all)) (fun _ _=>rfl) (fun _ _=>rfl) e3⟩
      ·have:i=n:=by
        have:=(WJ.1 hz).1;simp at this;omega
       subst this;rw[WW (by omega)]at hz hG;simp[show i-y'.length=0 by omega,show i-Gs.length=0 by omega]at hz hG;subst hz hG;exact⟨cs,Nb,hc,Ae (by intro c hc;exact hc.imp id (by simp_all)) (fun _ _=>rfl) (fun _ _=>rfl) hho⟩
   obtain⟨Gs,F2,hp,hl,hg⟩:=key _ Fs x h7 rfl h;refine⟨b::Gs.flatten,F2,?_,a,cap,h1,h2,.inr ⟨b,o,arr,ty,fr,Gs,ha,hb,h4,h5,rfl,hl,hg⟩⟩;rw[h6];exact List.Perm.cons _ hp
 |d,d',.cons _ _,_,_,_,hd,h=>by
  simp only[Ow]at h⊢;obtain⟨v,l,F1,F2,h1,h2,h3,h4⟩:=h;obtain⟨A1,A2,pa,oa⟩:=Bc hd h3;obtain⟨B1,B2,pb,ob⟩:=Bc hd h4;refine⟨A1++B1,A2++B2,?_,v,l,A1,B1,h1,rfl,Ae (by intro c hc;exact hc.imp id (by simp_all)) (fun _ _=>rfl) (fun _ _=>rfl) oa,Ae (by intro c hc;exact hc.imp id (by simp_all)) (fun _ _=>rfl) (fun _ _=>rfl) ob⟩;rw[h2];refine(pa.append pb).trans ?_
  rw[WR,WR];refine We _ ?_
  rw[←WR,←WR];exact WX _ Wf
def RB(w:World):(t:Ty)→List Value→t.D→Nat→Prop
 | .sl r,vs,x,c=> ∃b o len cap,vs=[.slice (some ⟨b,o,none⟩) len cap]∧0<List.length x∧
  (c=b∨ ∃(i:Nat) (y:r.D) (cs:List Value),x[i]? =some y∧cs.length=r.n∧AG w b (o+i*r.n) cs∧RB w r cs y c)
 | .cons c r,vs,x,d=> ∃v l,vs=v::l∧(RB w c [v] x.1 d∨RB w r l x.2 d)
 |_,_,_,_=>False
theorem AG.unique{w:World}{b o:Nat}{cs ds:List Value}(h:AG w b o cs)(k:AG w b o ds)(hl:cs.length=ds.length):cs=ds:=by
 apply List.ext_getElem hl;intro i h1 h2;have e1:=h i _ (WK h1);have e2:=k i _ (WK h2);rw[e1]at e2;exact Option.some.inj e2
theorem Lk{w:World}{B:Nat→Prop}{c:Nat}:∀{t:Ty} {vs x},Rd w B t vs x→RB w t vs x c→B c
 | .int _,_,_,_,h=>by simp[RB]at h
 | .bool,_,_,_,h=>by simp[RB]at h
 | .str,_,_,_,h=>by simp[RB]at h
 | .unit,_,_,_,h=>by simp[RB]at h
 | .sl r,_,x,h,k=>by
  simp only[Rd]at h;simp only[RB]at k;obtain⟨a,cap,rfl,_,h⟩:=h;obtain⟨b,o,len,cap',e,hl,k⟩:=k;simp only[Wg,Value.slice.injEq,W3]at e;obtain⟨rfl,rfl,rfl⟩:=e;rcases h with h|⟨b',o',e,hb,h⟩
  ·omega
  simp only[WL,Addr.mk.injEq,W3]at e;obtain⟨rfl,rfl⟩:=e;rcases k with rfl|⟨i,y,cs,hy,Nb,RF,k⟩
  ·exact hb
  ·obtain⟨ds,d1,d2,d3⟩:=h i y hy
   have:=RF.unique d2 (by omega);subst this;exact Lk d3 k
 | .cons _ _,_,_,h,k=>by
  simp only[Rd]at h;simp only[RB]at k;obtain⟨v,l,rfl,h1,h2⟩:=h;obtain⟨v',l',e,k⟩:=k;cases e;exact k.elim (Lk h1) (Lk h2)
theorem JA{w w':World}{c:Nat}:∀{t:Ty} {vs x},(∀d,RB w t vs x d→w'.heap[d]? =w.heap[d]?)→RB w t vs x c→RB w' t vs x c
 | .int _,_,_,_,h=>by simp[RB]at h
 | .bool,_,_,_,h=>by simp[RB]at h
 | .str,_,_,_,h=>by simp[RB]at h
 | .unit,_,_,_,h=>by simp[RB]at h
 | .sl r,_,x,h,k=>by
  simp only[RB]at h k⊢;obtain⟨b,o,len,cap,e,hl,k⟩:=k;refine⟨b,o,len,cap,e,hl,?_⟩;rcases k with rfl|⟨i,y,cs,hy,Nb,RF,k⟩
  ·exact .inl rfl
  ·have hb:=h b ⟨b,o,len,cap,e,hl,.inl rfl⟩
   exact .inr ⟨i,y,cs,hy,Nb,RF.of_block hb,JA (fun d hd=>h d ⟨b,o,len,cap,e,hl,.inr ⟨i,y,cs,hy,Nb,RF,hd⟩⟩) k⟩
 | .cons _ _,_,_,h,k=>by
  simp only[RB]at h k⊢;obtain⟨v,l,e,k⟩:=k;refine⟨v,l,e,k.elim (fun k=> .inl (JA (fun d hd=>h d ⟨v,l,e,.inl hd⟩) k)) (fun k=> .inr (JA (fun d hd=>h d ⟨v,l,e,.inr hd⟩) k))⟩
end Go.Fw
end
section
namespace Go.Fw
def AF{α β:Type}(R:α→β→Prop):List α→List β→Prop
 |[],[]=>True
 |a::l,b::m=>R a b∧AF R l m
 |_,_=>False
theorem AF.len{α β:Type}{R:α→β→Prop}:∀{l:List α} {m:List β},AF R l m→l.length=m.length
 |[],[],_=>rfl
 |_::_,_::_,h=>by simp[AF.len h.2]
theorem AF.get{α β:Type}{R:α→β→Prop}:∀{l:List α} {m:List β} {i:Nat} {a:α},AF R l m→l[i]? =some a→ ∃b,m[i]? =some b∧R a b
 |_::_,_::_,0,a,h,e=>by simp at e;subst e;exact⟨_,rfl,h.1⟩
 |_::_,_::_,i+1,a,h,e=>by
  obtain⟨b,hb,hr⟩:=AF.get (i:=i) h.2 (by simpa using e);exact⟨b,by simpa using hb,hr⟩
 |[],[],_,_,_,e=>by simp at e
theorem AF.imp{α β:Type}{R S:α→β→Prop}(h:∀a b,R a b→S a b):∀{l:List α} {m:List β},AF R l m→AF S l m
 |[],[],_=>trivial
 |_::_,_::_,k=>⟨h _ _ k.1,AF.imp h k.2⟩
structure Env where
 BC:Nat→Nat
 BD:Nat→Value
 T:Nat→Prop
 S:Nat→Prop
def BU(w:World):Value→List Ie→Option Value
 |h,[]=>some h
 | .slice (some a) _ _,s::p=>
  match w.cell? ⟨a.block,a.off+s.i*s.sz+s.j,none⟩with
  |some h=>BU w h p
  |none=>none
 |_,_::_=>none
def AM:(r:Ty)→List r.D→List Ie→Prop
 |_,_,[]=>True
 |r,rows,s::p=>s.i<rows.length∧s.sz=r.n∧
  match AB r s.j (rowAt r rows s.i)with
  |some ⟨.sl q,x⟩=>AM q x p
  |_=>False
def C2(sz off n:Nat)(a:Option Addr)(cap:Nat):Value:=
 .slice (if cap=off then a else a.map (·.add (off*sz))) n (cap-off)
def isSlice:Value→Bool
 | .slice .. =>true
 |_=>false
def Ff:Value→Bool
 | .pointer (some ⟨_,_,none⟩)=>true
 |_=>false
def RA(E:Env)(w:World)(q:(r:Ty)×r.D)(p:Value):Prop:= ∃bb o cs,p= .pointer (some ⟨bb,o,none⟩)∧E.T bb∧cs.length=q.1.n∧AG w bb o cs∧Rd w E.T q.1 cs q.2
def VR(E:Env)(w:World)(vw:List Bx):AV→Value→Prop
 | .v t x,v=>t.scalar=true∧Rd w (fun _=>False) t [v] x
 | .sl s r x,v=>Rd w (if s then E.S else E.T) (.sl r) [v] x
 | .nil,v=>v= .slice none 0 0
 | .ref b p,v=>isSlice v=true∧match vw[b]? with
  |some (.sl _ r rows)=>AM r rows p∧(∃q,Ay r rows p=some q)∧BU w (E.BD b) p=some v
  |some _=>True
  |none=>False
 | .win b p off n,v=>isSlice v=true∧match vw[b]? with
  |some (.sl _ r rows)=>AM r rows p∧ ∃q ys a len cap,Ay r rows p=some ⟨q,ys⟩∧off+n≤List.length ys∧BU w (E.BD b) p=some (.slice a len cap)∧v=C2 q.n off n a cap
  |some _=>True
  |none=>False
 | .BA b j,v=>b<vw.length∧v= .pointer (some ⟨E.BC b,j,none⟩)
 | .BT b p i sz j,v=>Ff v=true∧match vw[b]? with
  |some (.sl _ r rows)=>AM r rows p∧ ∃q ys bb o len cap,Ay r rows p=some ⟨q,ys⟩∧i<List.length ys∧BU w (E.BD b) p=some (.slice (some ⟨bb,o,none⟩) len cap)∧v= .pointer (some ⟨bb,o+i*sz+j,none⟩)
  |some _=>True
  |none=>False
 | .CH s r x j,v=> ∃bb o cs,v= .pointer (some ⟨bb,o+j,none⟩)∧(if s then E.S else E.T) bb∧cs.length=r.n∧AG w bb o cs∧Rd w (if s then E.S else E.T) r cs x
 | .fn f BZ,v=>(∀b∈BZ,b<vw.length)∧v= .func (.func f) #[] (BZ.map fun b=>Value.pointer (some ⟨E.BC b,0,none⟩)).toArray
 | .LB f rows,v=> ∃ps:List Value,v= .func (.func f) #[] ps.toArray∧AF (RA E w) rows ps
 | .M_,v=>v= .pointer none
 | .undef,_=>True
def HF(E:Env)(w:World)(vw:List Bx)(l:List AV)(vs:List Value):Prop:=AF (VR E w vw) l vs
def TR(E:Env)(w:World)(vw:List Bx):AV ⊕ List AV→Value→Prop
 | .inl x,v=>VR E w vw x v
 | .inr q,v=> ∃vs,v= .agg vs∧HF E w vw q vs.toList
def XR(E:Env)(w:World)(vw:List Bx):XV→Value→Prop
 | .c x,v=>VR E w vw x v
 | .agg l,v=> ∃vs,v= .agg vs∧HF E w vw l vs.toList
 | .DY l,v=> ∃vs,v= .tuple vs∧AF (TR E w vw) l vs.toList
def Jk(E:Env)(w:World)(vw:List Bx)(k:Nat):Bx→List Nat→Prop
 | .mem cs,F=>F=[E.BC k]∧ ∃arr ty fr,w.heap[E.BC k]? =some (.cells arr ty fr)∧Mt fr (arr.size+1)∧HF E w vw cs arr.toList
 | .sl d r rows,F=>1≤d∧Ow w E.S d (.sl r) [E.BD k] rows F
 | .dead,F=>F=[]
def R7(E:Env)(w:World):Prop:= ∀w':World,(∀c,E.T c→w'.heap[c]? =w.heap[c]?)→GI w'
theorem R7.mono{E E':Env}{w w':World}(h:R7 E w)(hT:∀c,E.T c→E'.T c)(hw:∀c,E.T c→w'.heap[c]? =w.heap[c]?):R7 E' w':=
 fun v hv=>h v fun c hc=>(hv c (hT c hc)).trans (hw c hc)
structure Sep (E:Env) (w:World) (F:V6):Prop where
 nodup:F.Nodup
 free:∀c∈F,¬E.T c
 lt:∀c∈F,c<w.heap.size
 st:∀c,E.S c→E.T c
 GD:∀c,E.T c→c<w.heap.size
 Lo:R7 E w
def B9(E:Env)(w:World)(vw bx:List Bx)(Fs:List V6):Prop:=
 Fs.length=bx.length∧ ∀k B F,bx[k]? =some B→Fs[k]? =some F→Jk E w vw k B F
def AK(E:Env)(w:World)(vw bx:List Bx)(G:V6):Prop:=
 ∃Fs,B9 E w vw bx Fs∧Sep E w (Fs.flatten++G)
structure Le (E E':Env):Prop where
 BC:E'.BC=E.BC
 BD:E'.BD=E.BD
 T:∀c,E.T c→E'.T c
 S:∀c,E.S c→E'.S c
 Pt:∀c,E'.T c→E.T c∨E'.S c
 NQ:∀c,E'.S c→E.S c∨ ¬E.T c
theorem Le.refl(E:Env):Le E E:=⟨rfl,rfl,fun _ h=>h,fun _ h=>h,fun _ h=> .inl h,fun _ h=> .inl h⟩
theorem Le.trans{E E' O9:Env}(h:Le E E')(k:Le E' O9):Le E O9:=
 ⟨k.BC.trans h.BC,k.BD.trans h.BD,fun c hc=>k.T c (h.T c hc),fun c hc=>k.S c (h.S c hc),
  fun c hc=>(k.Pt c hc).elim (fun h' =>(h.Pt c h').imp id (k.S c)) .inr,
  fun c hc=>(k.NQ c hc).elim (h.NQ c) (fun h' => .inr fun ht=>h' (h.T c ht))⟩
theorem GY{w B}:∀{r:Ty} {cs x j t y},Rd w B r cs x→AB r j x=some ⟨t,y⟩→ ∃v,cs[j]? =some v∧Rd w B t [v] y
 | .cons c r,cs,x,0,t,y,h,e=>by
  simp only[Rd]at h;obtain⟨v,l,rfl,h1,h2⟩:=h;simp only[AB,WL,WU]at e;obtain⟨rfl,e⟩:=e;obtain rfl:=Wi e;exact⟨v,rfl,h1⟩
 | .cons c r,cs,x,j+1,t,y,h,e=>by
  simp only[Rd]at h;obtain⟨v,l,rfl,h1,h2⟩:=h;simp only[AB]at e;obtain⟨u,hu,hr⟩:=GY h2 e;exact⟨u,by simpa using hu,hr⟩
 | .int k,cs,x,0,t,y,h,e=>by
  simp only[AB,WL,WU]at e;obtain⟨rfl,e⟩:=e;obtain rfl:=Wi e;simp only[Rd]at h;subst h;exact⟨_,rfl,by simp only[Rd]⟩
 | .bool,cs,x,0,t,y,h,e=>by
  simp only[AB,WL,WU]at e;obtain⟨rfl,e⟩:=e;obtain rfl:=Wi e;simp only[Rd]at h;subst h;exact⟨_,rfl,by simp only[Rd]⟩
 | .str,cs,x,0,t,y,h,e=>by
  simp only[AB,WL,WU]at e;obtain⟨rfl,e⟩:=e;obtain rfl:=Wi e;simp only[Rd]at h;subst h;exact⟨_,rfl,by simp only[Rd]⟩
 | .sl r,cs,x,0,t,y,h,e=>by
  simp only[AB,WL,WU]at e;obtain⟨rfl,e⟩:=e;obtain rfl:=Wi e;have h':=h;simp only[Rd]at h;obtain⟨a,cap,rfl,_⟩:=h;exact⟨_,rfl,h'⟩
 | .unit,_,_,_,_,_,_,e=>by simp[AB]at e
 | .int _,_,_,_+1,_,_,_,e=>by simp[AB]at e
 | .bool,_,_,_+1,_,_,_,e=>by simp[AB]at e
 | .str,_,_,_+1,_,_,_,e=>by simp[AB]at e
 | .sl _,_,_,_+1,_,_,_,e=>by simp[AB]at e
theorem Cf{r:Ty}{rows:List r.D}{i:Nat}(h:i<rows.length):rows[i]? =some (rowAt r rows i):=by
 simp[rowAt,h]
theorem I7{w:World}{B:Nat→Prop}:∀{p:List Ie} {r:Ty} {h:Value} {rows:List r.D} {q:Ty} {ys:List q.D},
  Rd w B (.sl r) [h] rows→AM r rows p→Ay r rows p=some ⟨q,ys⟩→
  ∃h',(∀w':World,(∀b,B b→w'.heap[b]? =w.heap[b]?)→BU w' h p=some h')∧Rd w B (.sl q) [h'] ys
 |[],r,h,rows,q,ys,hr,_,hg=>by
  simp only[Ay,WL,WU]at hg;obtain⟨rfl,e⟩:=hg;obtain rfl:=Wi e;exact⟨h,fun w' _=>by cases h<;>rfl,hr⟩
 |s::p,r,h,rows,q,ys,hr,hp,hg=>by
  simp only[AM]at hp;obtain⟨hi,CK,hp⟩:=hp;simp only[Ay]at hg;simp only[Rd]at hr;obtain⟨a,cap,hh,_,hr⟩:=hr;obtain rfl:=(XH hh).1;rcases hr with hr|⟨b,o,rfl,hb,hr⟩
  ·omega
  obtain⟨cs,hl,hc,hrow⟩:=hr s.i _ (Cf hi);split at hg
  ·rename_i q' x' Fu
   rw[Fu]at hp;obtain⟨v,hv,hrv⟩:=GY hrow Fu;obtain⟨h',Tl,Fa⟩:=I7 hrv hp hg;refine⟨h',fun w' Q_=> ?_,Fa⟩;simp only[BU];have EP:w'.cell? ⟨b,o+s.i*s.sz+s.j,none⟩=some v:=by
    rw[CK];exact(World.cell?_of_block (a:=⟨b,_,none⟩) (Q_ b hb)).trans (hc _ _ hv)
   rw[EP];exact Tl w' Q_
  ·cases hg
theorem AJ{w:World}{h:Value}:BU w h []=some h:=by cases h<;>rfl
structure C8 (E:Env) (w:World) (vw:List Bx) (E':Env) (w':World) (vw':List Bx):Prop where
 len:vw.length≤vw'.length
 BC:∀b,b<vw.length→E'.BC b=E.BC b
 T:∀b,E.T b→E'.T b
 S:∀b,E.S b→E'.S b
 st:∀b,E.S b→E.T b
 heap:∀b,E.T b→w'.heap[b]? =w.heap[b]?
 box:∀b d r rows,b<vw.length→vw'[b]? =some (.sl d r rows)→ ∃d0 Ch,vw[b]? =some (.sl d0 r Ch)∧
  ∀p,AM r Ch p→ ∀q ys,Ay r Ch p=some ⟨q,ys⟩→AM r rows p∧(∃JC,Ay r rows p=some ⟨q,JC⟩∧List.length JC=List.length ys)∧
   ∀h,BU w (E.BD b) p=some h→BU w' (E'.BD b) p=some h
theorem CR{α:Type}{l l':List α}{b:Nat}{x:α}(h:l.length≤l'.length)(e:l[b]? =some x):∃y,l'[b]? =some y:=
 ⟨l'[b]'(Wq (WJ.1 e).1 h),WK _⟩
theorem Av{E E':Env}{w w':World}{vw vw':List Bx}(k:C8 E w vw E' w' vw'):∀{x:AV} {v:Value},VR E w vw x v→VR E' w' vw' x v:=by
 intro x v h;cases x with
 |v t x=>exact⟨h.1,Ak (fun _ h=>h) (fun _ h=>h.elim) h.2⟩
 |sl s r x=>
  simp only[VR]at h⊢;cases s with
  |false=>exact Ak k.T k.heap (by simpa using h)
  |true=>exact Ak k.S (fun b hb=>k.heap b (k.st b hb)) (by simpa using h)
 |nil=>exact h
 |ref b p=>
  simp only[VR]at h⊢;obtain⟨h0,h⟩:=h;refine⟨h0,?_⟩;cases e:vw[b]? with
  |none=>rw[e]at h;exact h.elim
  |some B=>
   rw[e]at h;have CA:=(WJ.1 e).1;obtain⟨B',e'⟩:=CR k.len e;rw[e'];cases B' with
   |mem cs=>trivial
   |dead=>trivial
   |sl d r rows=>
    obtain⟨d0,Ch,e0,hk⟩:=k.box b d r rows CA e';rw[e]at e0;cases e0;simp only at h;obtain⟨hp,⟨⟨q,ys⟩,hg⟩,hh⟩:=h;obtain⟨k1,⟨JC,k2,_⟩,k3⟩:=hk p hp q ys hg;exact⟨k1,⟨_,k2⟩,k3 _ hh⟩
 |win b p off n=>
  simp only[VR]at h⊢;obtain⟨h0,h⟩:=h;refine⟨h0,?_⟩;cases e:vw[b]? with
  |none=>rw[e]at h;exact h.elim
  |some B=>
   rw[e]at h;have CA:=(WJ.1 e).1;obtain⟨B',e'⟩:=CR k.len e;rw[e'];cases B' with
   |mem cs=>trivial
   |dead=>trivial
   |sl d r rows=>
    obtain⟨d0,Ch,e0,hk⟩:=k.box b d r rows CA e';rw[e]at e0;cases e0;simp only at h;obtain⟨hp,q,ys,a,len,cap,hg,hl,hh,hv⟩:=h;obtain⟨k1,⟨JC,k2,k4⟩,k3⟩:=hk p hp q ys hg;exact⟨k1,q,JC,a,len,cap,k2,by omega,k3 _ hh,hv⟩
 |BA b j=>exact⟨Wq h.1 k.len,by rw[h.2,k.BC b h.1]⟩
 |BT b p i sz j=>
  simp only[VR]at h⊢;obtain⟨h0,h⟩:=h;refine⟨h0,?_⟩;cases e:vw[b]? with
  |none=>rw[e]at h;exact h.elim
  |some B=>
   rw[e]at h;have CA:=(WJ.1 e).1;obtain⟨B',e'⟩:=CR k.len e;rw[e'];cases B' with
   |mem cs=>trivial
   |dead=>trivial
   |sl d r rows=>
    obtain⟨d0,Ch,e0,hk⟩:=k.box b d r rows CA e';rw[e]at e0;cases e0;simp only at h;obtain⟨hp,q,ys,bb,o,len,cap,hg,hl,hh,hv⟩:=h;obtain⟨k1,⟨JC,k2,k4⟩,k3⟩:=hk p hp q ys hg;exact⟨k1,q,JC,bb,o,len,cap,k2,by omega,k3 _ hh,hv⟩
 |CH s r x j=>
  simp only[VR]at h⊢;obtain⟨bb,o,cs,hv,hb,hl,hc,hr⟩:=h;cases s with
  |false=>exact⟨bb,o,cs,hv,k.T bb (by simpa using hb),hl,hc.of_block (k.heap bb (by simpa using hb)),Ak k.T k.heap (by simpa using hr)⟩
  |true=>exact⟨bb,o,cs,hv,k.S bb (by simpa using hb),hl,hc.of_block (k.heap bb (k.st bb (by simpa using hb))),Ak k.S (fun b hb=>k.heap b (k.st b hb)) (by simpa using hr)⟩
 |fn f BZ=>
  refine⟨fun b hb=>Wq (h.1 b hb) k.len,?_⟩;rw[h.2];congr 2;exact XO fun b hb=>by rw[k.BC b (h.1 b hb)]
 |LB f rows=>
  obtain⟨ps,hv,h⟩:=h;exact⟨ps,hv,h.imp fun q p ⟨bb,o,cs,h1,h2,h3,h4,h5⟩=>⟨bb,o,cs,h1,k.T bb h2,h3,h4.of_block (k.heap bb h2),Ak k.T k.heap h5⟩⟩
 |M_=>exact h
 |undef=>trivial
theorem CN{E E':Env}{w w':World}{vw vw':List Bx}(k:C8 E w vw E' w' vw'):∀{x:XV} {v:Value},XR E w vw x v→XR E' w' vw' x v
 | .c _,_,h=>Av k h
 | .agg _,_,⟨vs,hv,h⟩=>⟨vs,hv,h.imp fun _ _ h=>Av k h⟩
 | .DY l,_,⟨vs,hv,h⟩=>⟨vs,hv,h.imp fun
  | .inl _,_,h=>Av k h
  | .inr _,_,⟨ws,hw,h⟩=>⟨ws,hw,h.imp fun _ _ h=>Av k h⟩⟩
theorem C8.refl{E:Env}{w:World}{vw:List Bx}(st:∀b,E.S b→E.T b):C8 E w vw E w vw:=
 ⟨Wu _,fun _ _=>rfl,fun _ h=>h,fun _ h=>h,st,fun _ _=>rfl,fun b d r rows _ h=>⟨d,rows,h,fun p hp q ys hg=>⟨hp,⟨ys,hg,rfl⟩,fun _ h=>h⟩⟩⟩
theorem C8.trans{E E' O9:Env}{w w' Q4:World}{vw vw' Rl:List Bx}(k:C8 E w vw E' w' vw')(k':C8 E' w' vw' O9 Q4 Rl):C8 E w vw O9 Q4 Rl where
 len:=XN k.len k'.len
 BC:=fun b hb=>(k'.BC b (Wq hb k.len)).trans (k.BC b hb)
 T:=fun b h=>k'.T b (k.T b h)
 S:=fun b h=>k'.S b (k.S b h)
 st:=k.st
 heap:=fun b h=>(k'.heap b (k.T b h)).trans (k.heap b h)
 box:=fun b d r rows hb h=>by
  obtain⟨d1,QH,h1,k1⟩:=k'.box b d r rows (Wq hb k.len) h;obtain⟨d0,Ch,h0,k0⟩:=k.box b d1 r QH hb h1;refine⟨d0,Ch,h0,fun p hp q ys hg=> ?_⟩;obtain⟨a1,⟨ys1,a2,a3⟩,a4⟩:=k0 p hp q ys hg;obtain⟨b1,⟨ys2,b2,b3⟩,b4⟩:=k1 p a1 q ys1 a2;exact⟨b1,⟨ys2,b2,b3.trans a3⟩,fun h hh=>b4 h (a4 h hh)⟩
theorem LS{w w':World}{S:Nat→Prop}{d:Nat}{r:Ty}{h:Value}{rows:List r.D}{F:V6}(ho:Ow w S d (.sl r) [h] rows F)
  (hS:∀b,S b→w'.heap[b]? =w.heap[b]?) (hF:∀b∈F,w'.heap[b]? =w.heap[b]?) {p:List Ie} (hp:AM r rows p) {q:Ty} {ys:List q.D} (hg:Ay r rows p=some ⟨q,ys⟩)
  {h':Value} (hh:BU w h p=some h'):BU w' h p=some h':=by
 obtain⟨h1,k,_⟩:=I7 (ER ho) hp hg;have e1:=k w (fun _ _=>rfl);rw[hh]at e1;cases e1;exact k w' fun b hb=>hb.elim (hS b) (hF b)
end Go.Fw
end
section
namespace Go.Fw
theorem AF.set{α β:Type}{R:α→β→Prop}:∀{l:List α} {m:List β} {i:Nat} {a:α} {b:β},AF R l m→R a b→AF R (l.set i a) (m.set i b)
 |[],[],_,_,_,_,_=>trivial
 |_::_,_::_,0,_,_,h,r=>⟨r,h.2⟩
 |_::_,_::_,i+1,_,_,h,r=>⟨h.1,AF.set h.2 r⟩
theorem AF.append{α β:Type}{R:α→β→Prop}:∀{l:List α} {m:List β} {l':List α} {m':List β},AF R l m→AF R l' m'→AF R (l++l') (m++m')
 |[],[],_,_,_,h=>h
 |_::_,_::_,_,_,h,k=>⟨h.1,AF.append h.2 k⟩
theorem AF.Bi{α β γ:Type}{R:α→β→Prop}{S:γ→β→Prop}(f:α→γ)(h:∀a b,R a b→S (f a) b):∀{l:List α} {m:List β},AF R l m→AF S (l.map f) m
 |[],[],_=>trivial
 |_::_,_::_,k=>⟨h _ _ k.1,AF.Bi f h k.2⟩
theorem AF.drop{α β:Type}{R:α→β→Prop}:∀{l:List α} {m:List β} (n:Nat),AF R l m→AF R (l.drop n) (m.drop n)
 |_,_,0,h=>h
 |[],[],_+1,_=>trivial
 |_::_,_::_,n+1,h=>AF.drop n h.2
theorem AF.take{α β:Type}{R:α→β→Prop}:∀{l:List α} {m:List β} (n:Nat),AF R l m→AF R (l.take n) (m.take n)
 |[],[],0,_=>trivial
 |_::_,_::_,0,_=>trivial
 |[],[],_+1,_=>trivial
 |_::_,_::_,n+1,h=>⟨h.1,AF.take n h.2⟩
structure Gh (E0:Env) (w0:World) (E:Env) (w:World):Prop where
 T:∀c,E0.T c→E.T c
 S:∀c,E0.S c→E.S c
 Pt:∀c,E.T c→E0.T c∨E.S c
 NQ:∀c,E.S c→E0.S c∨ ¬E0.T c
 heap:∀c,E0.T c→w.heap[c]? =w0.heap[c]?
 os:w.os=w0.os
 tape:w.tape=w0.tape
 output:w.output=w0.output
 size:w0.heap.size≤w.heap.size
theorem Gh.refl(E:Env)(w:World):Gh E w E w:=⟨fun _ h=>h,fun _ h=>h,fun _ h=> .inl h,fun _ h=> .inl h,fun _ _=>rfl,rfl,rfl,rfl,Wu _⟩
theorem Gh.trans{E E' O9:Env}{w w' Q4:World}(h:Gh E w E' w')(k:Gh E' w' O9 Q4):Gh E w O9 Q4:=
 ⟨fun c hc=>k.T c (h.T c hc),fun c hc=>k.S c (h.S c hc),fun c hc=>(k.Pt c hc).elim (fun h' =>(h.Pt c h').imp id (k.S c)) .inr,
  fun c hc=>(k.NQ c hc).elim (h.NQ c) (fun h' => .inr fun ht=>h' (h.T c ht)),fun c hc=>(k.heap c (h.T c hc)).trans (h.heap c hc),
  k.os.trans h.os,k.tape.trans h.tape,k.output.trans h.output,XN h.size k.size⟩
theorem Le.base{E E':Env}(h:Le E E')(w:World):Gh E w E' w:=⟨h.T,h.S,h.Pt,h.NQ,fun _ _=>rfl,rfl,rfl,rfl,Wu _⟩
def MX(E:Env)(w:World)(k:Nat):Bx→Nat→Prop
 | .mem _,c=>c=E.BC k
 | .sl _ r rows,c=>RB w (.sl r) [E.BD k] rows c
 | .dead,_=>False
def Db:Bx→Bx→Prop
 | .mem _,.mem _=>True
 | .sl _ r x,.sl _ q y=>(⟨r,x⟩:(r:Ty)×List r.D)=⟨q,y⟩
 |_,_=>False
structure Cn (t:V6) (E0:Env) (Sm:List Bx) (w0:World) (E:Env) (bx:List Bx) (w:World):Prop where
 base:Gh E0 w0 E w
 len:Sm.length≤bx.length
 ids:∀b,b<Sm.length→E.BC b=E0.BC b∧E.BD b=E0.BD b
 dead:∀b:Nat,Sm[b]? =some Bx.dead→bx[b]? =some Bx.dead
 frame:∀(n:Nat) B B',n∉t→Sm[n]? =some B→bx[n]? =some B'→B'≠ .dead→Db B B'∧ ∀c,MX E0 w0 n B c→w.heap[c]? =w0.heap[c]?
theorem Cn.any{E E':Env}{bx Cd:List Bx}{w w':World}(h:Cn [] E bx w E' Cd w'){t:V6}:Cn t E bx w E' Cd w':=
 ⟨h.base,h.len,h.ids,h.dead,fun n B B' _=>h.frame n B B' (by simp)⟩
theorem Db.refl{B:Bx}(h:B≠ .dead):Db B B:=by cases B<;>simp_all[Db]
theorem Cn.refl(t:V6)(E:Env)(bx:List Bx)(w:World):Cn t E bx w E bx w:=⟨Gh.refl E w,Wu _,fun _ _=>⟨rfl,rfl⟩,fun _ h=>h,fun n B B' _ h h' hd=>by
 rw[h]at h';cases h';exact⟨Db.refl hd,fun _ _=>rfl⟩⟩
theorem Gc{E:Env}{w:World}{vw:List Bx}{k:Nat}{B:Bx}{F:V6}{c:Nat}(h:Jk E w vw k B F)(hc:MX E w k B c):E.S c∨c∈F:=by
 cases B with
 |mem cs=>obtain⟨rfl,_⟩:=h;right;simp[MX]at hc;simp[hc]
 |sl d r rows=>exact Lk (ER h.2) hc
 |dead=>exact hc.elim
structure Rel (E:Env) (σ:St) (a:Act) (w:World):Prop where
 CC:a.defers=[]
 tm:AF (XR E w σ.bx) σ.tm a.tmps.toList
 bx:AK E w σ.bx σ.bx []
theorem Rel.put{E:Env}{σ:St}{a:Act}{w:World}(h:Rel E σ a w)(dst:Option Tmp){x:XV}{v:Value}(hx:XR E w σ.bx x v):Rel E (σ.put dst x) (a.put dst v) w:=by
 cases dst with
 |none=>exact h
 |some d=>exact⟨h.CC,by simpa[St.put,Act.put]using AF.set h.tm hx,h.bx⟩
theorem AF.Qc{E:Env}{w:World}{vw:List Bx}{l:List XV}{m:Array Value}(h:AF (XR E w vw) l m.toList)(t:Nat):XR E w vw (l.getD t (.c .undef)) (m.getD t undef):=by
 by_cases ht:t<l.length
 ·have e:l[t]? =some l[t]:=WK ht
  obtain⟨b,hb,hr⟩:=h.get e;have:m[t]? =some b:=by simpa using hb
  simp only[XF,e,Option.getD_some,XE,this];exact hr
 ·have e:l[t]? =none:=by simp;omega
  simp only[XF,e,Option.getD_none]
  trivial
theorem Ku{E:Env}{w:World}{vw:List Bx}(v:Value):VR E w vw (JE v) v:=by
 unfold JE;split<;>first
  |trivial
  |exact⟨rfl,by simp[Rd]⟩
  |rfl
theorem IP{E:Env}{w:World}{vw:List Bx}:∀(l:List Value),HF E w vw (l.map JE) l
 |[]=>trivial
 |a::l=>⟨Ku a,IP l⟩
theorem M1{E:Env}{w:World}{vw:List Bx}(v:Value):XR E w vw (ofValue v) v:=by
 unfold ofValue;split
 ·rename_i cs
  exact⟨cs,rfl,IP cs.toList⟩
 ·exact Ku v
theorem Rel.ev{E:Env}{σ:St}{a:Act}{w:World}(h:Rel E σ a w)(x:Operand):XR E w σ.bx (σ.ev x) (a.eval x):=by
 cases x with
 |tmp t=>exact AF.Qc h.tm t
 |const v=>exact M1 v
 |global g=>trivial
 |func f=>exact⟨by simp,rfl⟩
theorem DS{b:Nat}:∀{Fs:List V6} {F:V6},Fs[b]? =some F→Fs.flatten.Perm (F++(Fs.set b []).flatten):=by
 induction b with
 |zero=>
  intro Fs F h;cases Fs with
  |nil=>simp at h
  |cons A l=>simp at h;subst h;simp
 |succ b ih=>
  intro Fs F h;cases Fs with
  |nil=>simp at h
  |cons A l=>
   have:=ih (Fs:=l) (F:=F) (by simpa using h);simp only[List.set_cons_succ,Wv];refine(We A this).trans ?_
   rw[←WR,←WR];exact WX _ Wf
theorem Sep.perm{E:Env}{w:World}{F F':V6}(h:Sep E w F)(p:F.Perm F'):Sep E w F':=
 ⟨p.nodup_iff.1 h.nodup,fun c hc=>h.free c (p.mem_iff.2 hc),fun c hc=>h.lt c (p.mem_iff.2 hc),h.st,h.GD,h.Lo⟩
theorem Sep.sub{E:Env}{w:World}{F F':V6}(h:Sep E w (F++F')):Sep E w F:=
 ⟨(WS.1 h.nodup).1,fun c hc=>h.free c (by simp[hc]),fun c hc=>h.lt c (by simp[hc]),h.st,h.GD,h.Lo⟩
theorem AK.perm{E:Env}{w:World}{vw bx:List Bx}{G G':V6}(h:AK E w vw bx G)(p:G.Perm G'):AK E w vw bx G':=
 let⟨Fs,h1,h2⟩:=h
 ⟨Fs,h1,h2.perm (We _ p)⟩
theorem AK.drop{E:Env}{w:World}{vw bx:List Bx}{G G':V6}(h:AK E w vw bx (G++G')):AK E w vw bx G:=
 let⟨Fs,h1,h2⟩:=h
 ⟨Fs,h1,by rw[←WR]at h2;exact h2.sub⟩
theorem AK.st{E:Env}{w:World}{vw bx:List Bx}{G:V6}(h:AK E w vw bx G):∀c,E.S c→E.T c:=let⟨_,_,h⟩:=h;h.st
theorem AK.GD{E:Env}{w:World}{vw bx:List Bx}{G:V6}(h:AK E w vw bx G):∀c,E.T c→c<w.heap.size:=let⟨_,_,h⟩:=h;h.GD
theorem AK.Lo{E:Env}{w:World}{vw bx:List Bx}{G:V6}(h:AK E w vw bx G):R7 E w:=let⟨_,_,h⟩:=h;h.Lo
theorem AK.PQ{E:Env}{w:World}{vw bx:List Bx}{G:V6}(h:AK E w vw bx G):∀c∈G,¬E.T c:=let⟨_,_,h⟩:=h;fun c hc=>h.free c (by simp[hc])
theorem AK.take{E:Env}{w:World}{vw bx:List Bx}{G:V6}(h:AK E w vw bx G){b:Nat}{B:Bx}(hb:bx[b]? =some B):
  ∃F,Jk E w vw b B F∧AK E w vw (bx.set b .dead) (F++G):=by
 obtain⟨Fs,⟨hl,h1⟩,h2⟩:=h;have CA:=(WJ.1 hb).1;have hF:Fs[b]? =some (Fs[b]'(by omega)):=WK _;refine⟨_,h1 b B _ hb hF,Fs.set b [],⟨by simpa using hl,fun k C F hk Mj=> ?_⟩,h2.perm ?_⟩
 ·by_cases e:k=b
  ·subst e
   rw[WV (by omega)]at hk Mj;cases hk;cases Mj;rfl
  ·rw[WQ (by omega)]at hk Mj
   exact h1 k C F hk Mj
 ·have:=WX G (DS hF)
  refine this.trans ?_
  rw[WR,←WR (List.flatten _)];refine(Wf (l₁:=Fs[b]'(by omega))).trans ?_
  rw[WR,WR];exact We _ Wf
theorem AK.put{E:Env}{w:World}{vw bx:List Bx}{F G:V6}(h:AK E w vw bx (F++G)){b:Nat}{B:Bx}(hb:bx[b]? =some .dead)(hB:Jk E w vw b B F):
  AK E w vw (bx.set b B) G:=by
 obtain⟨Fs,⟨hl,h1⟩,h2⟩:=h;have CA:=(WJ.1 hb).1;have hF:Fs[b]? =some (Fs[b]'(by omega)):=WK _;have e0:Fs[b]'(by omega)=[]:=h1 b _ _ hb hF;refine⟨Fs.set b F,⟨by simpa using hl,fun k C F' hk Mj=> ?_⟩,h2.perm ?_⟩
 ·by_cases e:k=b
  ·subst e
   rw[WV (by omega)]at hk Mj;cases hk;cases Mj;exact hB
  ·rw[WQ (by omega)]at hk Mj
   exact h1 k C F' hk Mj
 ·have p:(Fs.set b F).flatten.Perm (F++Fs.flatten):=by
   have p1:=DS (Fs:=Fs.set b F) (b:=b) (F:=F) (WV (by omega));rw[Xr]at p1;have p2:=DS hF;rw[e0,Xf]at p2;exact p1.trans (We _ p2.symm)
  refine List.Perm.symm ?_
  refine(WX G p).trans ?_
  rw[←WR];exact WX _ Wf
theorem AK.push{E:Env}{w:World}{vw bx:List Bx}{F G:V6}(h:AK E w vw bx (F++G)){B:Bx}(hB:Jk E w vw bx.length B F):
  AK E w vw (bx++[B]) G:=by
 obtain⟨Fs,⟨hl,h1⟩,h2⟩:=h;refine⟨Fs++[F],⟨by simp[hl],fun k C F' hk Mj=> ?_⟩,h2.perm (by simp)⟩;by_cases e:k<bx.length
 ·rw[WO (by omega)]at hk Mj
  exact h1 k C F' hk Mj
 ·have TG:=(WJ.1 hk).1
  simp at TG;obtain rfl:k=bx.length:=by omega
  rw[WW (by omega)]at hk Mj;simp[hl]at hk Mj;subst hk Mj;exact hB
theorem AK.turn{E E':Env}{w w':World}{vw vw' bx:List Bx}{G:V6}(h:AK E w vw bx G)(k:∀x v,VR E w vw x v→VR E' w' vw' x v)
  (hS:∀c,E.S c→E'.S c) (Lm:∀b,b<bx.length→E'.BC b=E.BC b) (F7:∀b,b<bx.length→E'.BD b=E.BD b)
  (hw:∀c,(E.S c∨(¬E.T c∧c∉G))→c<w.heap.size→w'.heap[c]? =w.heap[c]?)
  (OV:∀F,Sep E w (F++G)→Sep E' w' (F++G)):AK E' w' vw' bx G:=by
 obtain⟨Fs,⟨hl,h1⟩,h2⟩:=h;refine⟨Fs,⟨hl,fun n B F hn hF=> ?_⟩,OV _ h2⟩;have CA:=(WJ.1 hn).1;have h3:=h1 n B F hn hF;have Mb:∀c∈F,c∈Fs.flatten:=fun c hc=>Wh.2 ⟨F,WT hF,hc⟩
 have P_:∀c∈F,w'.heap[c]? =w.heap[c]?:=fun c hc=>hw c (.inr ⟨h2.free c (by simp[Mb c hc]),fun hg=>by
  have:=(WS.1 h2.nodup).2.2 c (Mb c hc) c hg;exact this rfl⟩) (h2.lt c (by simp[Mb c hc]))
 have KJ:∀c,E.S c→w'.heap[c]? =w.heap[c]?:=fun c hc=>hw c (.inl hc) (h2.GD c (h2.st c hc))
 cases B with
 |mem cs=>
  obtain⟨rfl,arr,ty,fr,ha,hu,hv⟩:=h3;refine⟨by rw[Lm n CA],arr,ty,fr,?_,hu,hv.imp k⟩;rw[Lm n CA,P_ _ (by simp),ha]
 |sl d r rows=>
  obtain⟨hd,ho⟩:=h3;refine⟨hd,?_⟩;rw[F7 n CA];exact Ae hS KJ P_ ho
 |dead=>exact h3
end Go.Fw
end
section
namespace Go.Fw
theorem A9{β:Ty→Type}{a b:Ty}{x:β a}{y:β b}(h:Cc a b x=some y):∃e:a=b,e▸x=y:=by
 unfold Cc at h;split at h
 ·rename_i e
  exact⟨e,by simpa using h⟩
 ·cases h
def Aj(bk vw:List Bx):Prop:= ∀(b:Nat) (B:Bx),bk[b]? =some B→B= .dead∨vw[b]? =some B
theorem Aj.refl(bx:List Bx):Aj bx bx:=fun _ _ h=> .inr h
theorem Addr.add_eq(b o n:Nat):(⟨b,o,none⟩:Addr).add n=⟨b,o+n,none⟩:=by unfold Addr.add;split<;>simp_all
theorem Mg{w:World}{B:Nat→Prop}{r:Ty}{a:Option Addr}{len cap:Nat}{ys:List r.D}(h:Rd w B (.sl r) [.slice a len cap] ys){off n:Nat}(hn:off+n≤ys.length):
  Rd w B (.sl r) [C2 r.n off n a cap] ((ys.drop off).take n):=by
 simp only[Rd]at h⊢;obtain⟨a',cap',e,hc,h⟩:=h;simp only[Wg,Value.slice.injEq,W3]at e;obtain⟨rfl,rfl,rfl⟩:=e;have hl:((ys.drop off).take n).length=n:=by simp;omega
 refine⟨_,_,by unfold C2;rw[hl],by rw[hl];omega,?_⟩;rw[hl];by_cases h0:n=0
 ·exact .inl h0
 ·rcases h with h|⟨b,o,rfl,hb,h⟩
  ·omega
  ·refine .inr ⟨b,o+off*r.n,?_,hb,fun i y hy=> ?_⟩
   ·rw[Wr (by omega)]
    simp[Addr.add_eq]
   ·have hi:=(WJ.1 hy).1
    rw[hl]at hi;rw[List.getElem?_take_of_lt hi,XW]at hy;obtain⟨cs,e1,e2,e3⟩:=h (off+i) y hy;refine⟨cs,e1,?_,e3⟩;rw[W8,←XQ]at e2;exact e2
def Jl(E:Env)(Fs:List V6)(c:Nat):Prop:=E.T c∨c∈Fs.flatten
section
variable{E:Env} {w:World} {vw bk:List Bx} {Fs:List V6}
theorem B9.get(h:B9 E w vw bk Fs){b:Nat}{B:Bx}(e:bk[b]? =some B):∃F,Jk E w vw b B F∧ ∀c∈F,c∈Fs.flatten:=by
 have CA:=(WJ.1 e).1;have hF:Fs[b]? =some (Fs[b]'(by rw[h.1];exact CA)):=WK _;exact⟨_,h.2 b B _ e hF,fun c hc=>Wh.2 ⟨_,WT hF,hc⟩⟩
theorem GR(hs:Aj bk vw)(h:B9 E w vw bk Fs)(st:∀c,E.S c→E.T c){b d:Nat}{r:Ty}{rows:List r.D}(e:bk[b]? =some (.sl d r rows))
  {p:List Ie} (hp:AM r rows p) {q:Ty} {ys:List q.D} (hg:Ay r rows p=some ⟨q,ys⟩) {v:Value} (hh:BU w (E.BD b) p=some v):
  Rd w (Jl E Fs) (.sl q) [v] ys:=by
 obtain⟨F,⟨_,ho⟩,hF⟩:=h.get e;obtain⟨h',k,hr⟩:=I7 (ER ho) hp hg;have:=k w (fun _ _=>rfl);rw[hh]at this;cases this;exact Ak (fun c hc=>hc.elim (fun hc=> .inl (st c hc)) (fun hc=> .inr (hF c hc))) (fun _ _=>rfl) hr
theorem ET(hs:Aj bk vw){b d:Nat}{r:Ty}{rows:List r.D}(e:bk[b]? =some (.sl d r rows)):vw[b]? =some (.sl d r rows):=by
 rcases hs b _ e with h|h
 ·cases h
 ·exact h
theorem E9(hs:Aj bk vw)(h:B9 E w vw bk Fs)(st:∀c,E.S c→E.T c){x:AV}{v:Value}(hv:VR E w vw x v){q:Ty}{ys:List q.D}(e:B7 bk x=some ⟨q,ys⟩):
  Rd w (Jl E Fs) (.sl q) [v] ys:=by
 cases x with
 |sl s r x=>
  simp only[B7,WL,WU]at e;obtain⟨rfl,e⟩:=e;obtain rfl:=Wi e;simp only[VR]at hv;refine Ak (fun c hc=> ?_) (fun _ _=>rfl) hv;cases s
  ·exact .inl (by simpa using hc)
  ·exact .inl (st c (by simpa using hc))
 |ref b p=>
  simp only[B7]at e;split at e
  ·rename_i d r rows hb
   simp only[VR,ET hs hb]at hv
   replace hv:=hv.2
   exact GR hs h st hb hv.1 e hv.2.2
  ·cases e
 |win b p off n=>
  simp only[B7]at e;split at e
  ·rename_i d r rows hb
   simp only[VR,ET hs hb]at hv;obtain⟨_,hp,q',JC,a,len,cap,hg,hl,hh,rfl⟩:=hv;rw[hg]at e;simp only[XX,WL,WU]at e;obtain⟨rfl,e⟩:=e;obtain rfl:=Wi e;exact Mg (GR hs h st hb hp hg hh) hl
  ·cases e
 |_=>simp[B7]at e
theorem DQ(hs:Aj bk vw)(h:B9 E w vw bk Fs)(st:∀c,E.S c→E.T c){t:Ty}{x:AV}{v:Value}(hv:VR E w vw x v){y:t.D}(e:Bz bk t x=some y):
  Rd w (Jl E Fs) t [v] y:=by
 have sl:∀(r:Ty) (x:AV) (v:Value) (y:List r.D),VR E w vw x v→((B7 bk x).bind fun q=>Cc (β:=fun r=>List r.D) q.1 r q.2)=some y→Rd w (Jl E Fs) (.sl r) [v] y:=by
  intro r x v y hv e;rw[WN]at e;obtain⟨⟨q,ys⟩,e1,e2⟩:=e;obtain⟨e3,e4⟩:=A9 e2;dsimp only at e3;subst e3;subst e4;exact E9 hs h st hv e1
 cases x with
 |v u z=>
  simp only[Bz]at e;obtain⟨e1,e2⟩:=A9 e;subst e1;subst e2;exact Ak (fun _ hc=>hc.elim) (fun _ hc=>hc.elim) hv.2
 |nil=>
  cases t with
  |sl r=>
   simp only[Bz,WL]at e;subst e;simp only[VR]at hv;subst hv;simp only[Rd];exact⟨none,0,rfl,by simp,.inl rfl⟩
  |_=>simp[Bz]at e
 |_=>
  cases t with
  |sl r=>exact sl r _ _ y hv (by simpa only[Bz]using e)
  |_=>simp[Bz]at e
theorem Gw(hs:Aj bk vw)(h:B9 E w vw bk Fs)(st:∀c,E.S c→E.T c):∀{r:Ty} {l:List AV} {vs:List Value} {x:r.D},HF E w vw l vs→A_ bk r l=some x→
  Rd w (Jl E Fs) r vs x
 | .unit,[],[],x,_,_=>by simp only[Rd]
 | .cons c r,a::l,v::vs,x,hv,e=>by
  simp only[A_,WN,WM]at e;obtain⟨y,e1,z,e2,rfl⟩:=e;simp only[Rd];exact⟨v,vs,rfl,DQ hs h st hv.1 e1,Gw hs h st hv.2 e2⟩
 | .unit,_::_,_,_,_,e=>by simp[A_]at e
 | .unit,[],_::_,_,hv,_=>hv.elim
 | .cons _ _,[],_,_,_,e=>by simp[A_]at e
 | .cons _ _,_::_,[],_,hv,_=>hv.elim
 | .int _,_,_,_,_,e=>by simp[A_]at e
 | .bool,_,_,_,_,e=>by simp[A_]at e
 | .str,_,_,_,_,e=>by simp[A_]at e
 | .sl _,_,_,_,_,e=>by simp[A_]at e
theorem Hi{E1:Env}{MZ:List Bx}(hs:Aj bk vw)(h:B9 E w vw bk Fs)(st:∀c,E.S c→E.T c)(hT:∀c,Jl E Fs c→E1.T c):
  ∀{r:Ty} {l:List AV} {vs:List Value} {x:r.D},HF E w vw l vs→A_ bk r l=some x→HF E1 w MZ (Hp r x) vs
 | .unit,[],[],x,_,_=>trivial
 | .cons c r,a::l,v::vs,x,hv,e=>by
  simp only[A_,WN,WM]at e;obtain⟨y,e1,z,e2,rfl⟩:=e;have Fa:=DQ hs h st hv.1 e1;have tl:HF E1 w MZ _ _:=Hi hs h st hT hv.2 e2;cases c with
  |sl q=>
   refine⟨?_,tl⟩;simp only[VR];exact Ak hT (fun _ _=>rfl) (by simpa using Fa)
  |int k=>exact⟨⟨rfl,by simpa only[Rd]using Fa⟩,tl⟩
  |bool=>exact⟨⟨rfl,by simpa only[Rd]using Fa⟩,tl⟩
  |str=>exact⟨⟨rfl,by simpa only[Rd]using Fa⟩,tl⟩
  |unit=>
   exfalso
   simp only[Rd]at Fa;cases Fa
  |cons c' r' =>
   exfalso
   cases a with
   |v u z=>
    simp only[Bz]at e1;obtain⟨e3,_⟩:=A9 e1;subst e3;exact absurd hv.1.1 (by simp[Ty.scalar])
   |_=>simp[Bz]at e1
 | .unit,_::_,_,_,_,e=>by simp[A_]at e
 | .unit,[],_::_,_,hv,_=>hv.elim
 | .cons _ _,[],_,_,_,e=>by simp[A_]at e
 | .cons _ _,_::_,[],_,hv,_=>hv.elim
 | .int _,_,_,_,_,e=>by simp[A_]at e
 | .bool,_,_,_,_,e=>by simp[A_]at e
 | .str,_,_,_,_,e=>by simp[A_]at e
 | .sl _,_,_,_,_,e=>by simp[A_]at e
end
end Go.Fw
end
section
namespace Go.Fw
def Ext(m m':CQ):Prop:=m'.length=m.length∧ ∀(i b:Nat),m[i]? =some (some b)→m'[i]? =some (some b)
theorem Ext.refl(m:CQ):Ext m m:=⟨rfl,fun _ _ h=>h⟩
theorem Ext.trans{m m' T0:CQ}(h:Ext m m')(k:Ext m' T0):Ext m T0:=⟨k.1.trans h.1,fun i b e=>k.2 i b (h.2 i b e)⟩
def J1(m:CQ):Prop:= ∀(i j b:Nat),m[i]? =some (some b)→m[j]? =some (some b)→i=j
theorem GL{m m':CQ}{i b:Nat}(e:m.put i b=some m'):Ext m m'∧m'[i]? =some (some b)∧(J1 m→J1 m'):=by
 unfold CQ.put at e;split at e
 ·rename_i h
  split at e
  ·cases e
  ·rename_i hc
   cases e;have CA:=(WJ.1 h).1;have Ph:∀(k:Nat),m[k]?≠some (some b):=fun k hk=>hc (by
    rw[XY];exact WT hk)
   refine⟨⟨by simp,fun k c hk=> ?_⟩,by simp[CA],fun hi j k c hj hk=> ?_⟩
   ·by_cases e:k=i
    ·subst e;rw[h]at hk;cases hk
    ·rw[WQ (by omega)];exact hk
   ·by_cases e1:j=i<;>by_cases e2:k=i
    ·omega
    ·subst e1
     rw[WV CA]at hj;rw[WQ (by omega)]at hk;cases hj;exact absurd hk (Ph k)
    ·subst e2
     rw[WV CA]at hk;rw[WQ (by omega)]at hj;cases hk;exact absurd hj (Ph j)
    ·rw[WQ (by omega)]at hj hk
     exact hi j k c hj hk
 ·rename_i b' h
  split at e
  ·rename_i hb
   cases e;subst hb;exact⟨Ext.refl _,h,fun h=>h⟩
  ·cases e
 ·cases e
def Cq(m:CQ):List Nat→List Nat→Prop
 |[],[]=>True
 |i::is,b::bs=>m[i]? =some (some b)∧Cq m is bs
 |_,_=>False
theorem Cq.ext{m m':CQ}(h:Ext m m'):∀{is bs},Cq m is bs→Cq m' is bs
 |[],[],_=>trivial
 |_::_,_::_,k=>⟨h.2 _ _ k.1,Cq.ext h k.2⟩
theorem Hd:∀{is bs:V6} {m m':CQ},FV m is bs=some m'→Ext m m'∧Cq m' is bs∧(J1 m→J1 m')
 |[],[],m,m',e=>by simp only[FV,WL]at e;subst e;exact⟨Ext.refl _,trivial,fun h=>h⟩
 |i::is,b::bs,m,m',e=>by
  simp only[FV,WN]at e;obtain⟨m1,e1,e2⟩:=e;obtain⟨a1,a2,a3⟩:=GL e1;obtain⟨b1,b2,b3⟩:=Hd e2;exact⟨a1.trans b1,⟨b1.2 _ _ a2,b2⟩,fun h=>b3 (a3 h)⟩
 |[],_::_,_,_,e=>by simp[FV]at e
 |_::_,[],_,_,e=>by simp[FV]at e
def C0(N:Nat)(m:CQ):AP→AV→Prop
 | .ref i,x=> ∃b,(x= .ref b []∨(x= .nil∧b=N+i))∧m[i]? =some (some b)
 | .ptr i j,x=> ∃b,x= .BA b j∧m[i]? =some (some b)
 | .fn f BZ,x=> ∃bs,x= .fn f bs∧Cq m BZ bs
 | .nil,x=>x= .nil
 | .H4 i sz,x=> ∃b k j,x= .ref b [⟨k,sz,j⟩]∧m[i]? =some (some b)
 |_,_=>True
theorem C0.ext{N:Nat}{m m':CQ}(h:Ext m m'){p:AP}{x:AV}(k:C0 N m p x):C0 N m' p x:=by
 cases p with
 |ref i=>obtain⟨b,hx,k⟩:=k;exact⟨b,hx,h.2 _ _ k⟩
 |ptr i j=>obtain⟨b,rfl,k⟩:=k;exact⟨b,rfl,h.2 _ _ k⟩
 |fn f BZ=>obtain⟨bs,rfl,k⟩:=k;exact⟨bs,rfl,k.ext h⟩
 |nil=>exact k
 |H4 i sz=>obtain⟨b,q,j,rfl,k⟩:=k;exact⟨b,q,j,rfl,h.2 _ _ k⟩
 |_=>trivial
theorem GJ{N:Nat}{m m':CQ}{p:AP}{x:AV}(e:p.CE N m x=some m'):Ext m m'∧C0 N m' p x∧(J1 m→J1 m'):=by
 cases p with
 |ref i=>
  cases x with
  |ref b q=>
   cases q with
   |nil=>
    obtain⟨a,b,c⟩:=GL (by simpa only[AP.CE]using e);exact⟨a,⟨_,.inl rfl,b⟩,c⟩
   |cons _ _=>simp[AP.CE]at e
  |nil=>
   obtain⟨a,b,c⟩:=GL (by simpa only[AP.CE]using e);exact⟨a,⟨_,.inr ⟨rfl,rfl⟩,b⟩,c⟩
  |_=>simp[AP.CE]at e
 |ptr i j=>
  cases x with
  |BA b j' =>
   simp only[AP.CE]at e;split at e
   ·rename_i hj
    subst hj;obtain⟨a,b,c⟩:=GL e;exact⟨a,⟨_,rfl,b⟩,c⟩
   ·cases e
  |_=>simp[AP.CE]at e
 |fn f BZ=>
  cases x with
  |fn g bs=>
   simp only[AP.CE]at e;split at e
   ·rename_i hf
    subst hf;obtain⟨a,b,c⟩:=Hd e;exact⟨a,⟨_,rfl,b⟩,c⟩
   ·cases e
  |_=>simp[AP.CE]at e
 |nil=>
  cases x with
  |nil=>simp only[AP.CE,WL]at e;subst e;exact⟨Ext.refl _,rfl,fun h=>h⟩
  |_=>simp[AP.CE]at e
 |H4 i sz=>
  cases x with
  |ref b q=>
   cases q with
   |nil=>simp[AP.CE]at e
   |cons s q=>
    cases q with
    |nil=>
     simp only[AP.CE]at e;split at e
     ·rename_i hs
      obtain⟨a,b,c⟩:=GL e;obtain⟨k,z,y⟩:=s;dsimp only at hs;subst hs;exact⟨a,⟨_,k,y,rfl,b⟩,c⟩
     ·cases e
    |cons _ _=>simp[AP.CE]at e
  |_=>simp[AP.CE]at e
 |_=>
  have:m=m':=by cases x<;>simpa[AP.CE]using e
  subst this;exact⟨Ext.refl _,trivial,fun h=>h⟩
theorem Dj{N:Nat}:∀{l:List AP} {xs:List AV} {m m':CQ},EL.CE N m l xs=some m'→Ext m m'∧AF (C0 N m') l xs∧(J1 m→J1 m')
 |[],[],m,m',e=>by simp only[EL.CE,WL]at e;subst e;exact⟨Ext.refl _,trivial,fun h=>h⟩
 |p::l,x::xs,m,m',e=>by
  simp only[EL.CE,WN]at e;obtain⟨m1,e1,e2⟩:=e;obtain⟨a1,a2,a3⟩:=GJ e1;obtain⟨b1,b2,b3⟩:=Dj e2;exact⟨a1.trans b1,⟨a2.ext b1,b2⟩,fun h=>b3 (a3 h)⟩
 |[],_::_,_,_,e=>by simp[EL.CE]at e
 |_::_,[],_,_,e=>by simp[EL.CE]at e
def HE(N:Nat)(m:CQ):AP ⊕ List AP→AV ⊕ List AV→Prop
 | .inl p,.inl x=>C0 N m p x
 | .inr p,.inr x=>AF (C0 N m) p x
 |_,_=>False
theorem HE.ext{N:Nat}{m m':CQ}(h:Ext m m'):∀{p:AP ⊕ List AP} {x:AV ⊕ List AV},HE N m p x→HE N m' p x
 | .inl _,.inl _,k=>C0.ext h k
 | .inr _,.inr _,k=>AF.imp (fun _ _ k=>C0.ext h k) k
theorem FQ{N:Nat}:∀{l:List (AP ⊕ List AP)} {xs:List (AV ⊕ List AV)} {m m':CQ},EZ.CE N m l xs=some m'→Ext m m'∧AF (HE N m') l xs∧(J1 m→J1 m')
 |[],[],m,m',e=>by simp only[EZ.CE,WL]at e;subst e;exact⟨Ext.refl _,trivial,fun h=>h⟩
 | .inl p::l,.inl x::xs,m,m',e=>by
  simp only[EZ.CE,WN]at e;obtain⟨m1,e1,e2⟩:=e;obtain⟨a1,a2,a3⟩:=GJ e1;obtain⟨b1,b2,b3⟩:=FQ e2;exact⟨a1.trans b1,⟨C0.ext b1 a2,b2⟩,fun h=>b3 (a3 h)⟩
 | .inr p::l,.inr x::xs,m,m',e=>by
  simp only[EZ.CE,WN]at e;obtain⟨m1,e1,e2⟩:=e;obtain⟨a1,a2,a3⟩:=Dj e1;obtain⟨b1,b2,b3⟩:=FQ e2;exact⟨a1.trans b1,⟨AF.imp (fun _ _ k=>C0.ext b1 k) a2,b2⟩,fun h=>b3 (a3 h)⟩
 |[],_::_,_,_,e=>by simp[EZ.CE]at e
 | .inl _::_,[],_,_,e=>by simp[EZ.CE]at e
 | .inr _::_,[],_,_,e=>by simp[EZ.CE]at e
 | .inl _::_,.inr _::_,_,_,e=>by simp[EZ.CE]at e
 | .inr _::_,.inl _::_,_,_,e=>by simp[EZ.CE]at e
def FL(N:Nat)(m:CQ):XP→XV→Prop
 | .c p,.c x=>C0 N m p x
 | .agg l,.agg xs=>AF (C0 N m) l xs
 | .row _,.agg _=>True
 | .DY l,.DY xs=>AF (HE N m) l xs
 |_,_=>False
theorem FL.ext{N:Nat}{m m':CQ}(h:Ext m m'):∀{p:XP} {x:XV},FL N m p x→FL N m' p x
 | .c _,.c _,k=>C0.ext h k
 | .agg _,.agg _,k=>AF.imp (fun _ _ k=>C0.ext h k) k
 | .row _,.agg _,_=>trivial
 | .DY _,.DY _,k=>AF.imp (fun _ _ k=>HE.ext h k) k
theorem MG{N:Nat}{m m':CQ}:∀{p:XP} {x:XV},p.CE N m x=some m'→Ext m m'∧FL N m' p x∧(J1 m→J1 m')
 | .c p,.c x,e=>GJ (by simpa only[XP.CE]using e)
 | .agg l,.agg xs,e=>Dj (by simpa only[XP.CE]using e)
 | .row r,.agg xs,e=>by simp only[XP.CE,WL]at e;subst e;exact⟨Ext.refl _,trivial,fun h=>h⟩
 | .DY l,.DY xs,e=>FQ (by simpa only[XP.CE]using e)
 | .c _,.agg _,e=>by simp[XP.CE]at e
 | .c _,.DY _,e=>by simp[XP.CE]at e
 | .agg _,.c _,e=>by simp[XP.CE]at e
 | .agg _,.DY _,e=>by simp[XP.CE]at e
 | .row _,.c _,e=>by simp[XP.CE]at e
 | .row _,.DY _,e=>by simp[XP.CE]at e
 | .DY _,.c _,e=>by simp[XP.CE]at e
 | .DY _,.agg _,e=>by simp[XP.CE]at e
theorem F5{N:Nat}{tm:List XV}:∀{l:List (Nat×XP)} {m m':CQ},Aw.CE N tm m l=some m'→
  Ext m m'∧(∀q∈l,∃x,tm[q.1]? =some x∧FL N m' q.2 x)∧(J1 m→J1 m')
 |[],m,m',e=>by simp only[Aw.CE,WL]at e;subst e;exact⟨Ext.refl _,by simp,fun h=>h⟩
 |(i,p)::l,m,m',e=>by
  simp only[Aw.CE]at e;split at e
  ·rename_i x hx
   simp only[WN]at e;obtain⟨m1,e1,e2⟩:=e;obtain⟨a1,a2,a3⟩:=MG e1;obtain⟨b1,b2,b3⟩:=F5 e2;refine⟨a1.trans b1,?_,fun h=>b3 (a3 h)⟩;intro q hq;rcases Wy.1 hq with rfl|hq
   ·exact⟨x,hx,FL.ext b1 a2⟩
   ·exact b2 q hq
  ·cases e
theorem Du{N:Nat}{bx:List Bx}:∀{l:List BP} {i:Nat} {m m':CQ},BQ.CE N bx i m l=some m'→
  Ext m m'∧(∀(k:Nat) q,l[k]? =some (.mem q)→ ∃b cs,m'[i+k]? =some (some b)∧bx[b]? =some (.mem cs)∧AF (C0 N m') q cs)∧
   (∀(k:Nat) d r,l[k]? =some (.sl d r)→ ∃b,m'[i+k]? =some (some b))∧(J1 m→J1 m')
 |[],i,m,m',e=>by simp only[BQ.CE,WL]at e;subst e;exact⟨Ext.refl _,by simp,by simp,fun h=>h⟩
 | .mem q::l,i,m,m',e=>by
  simp only[BQ.CE]at e;split at e
  ·rename_i b hb
   split at e
   ·rename_i cs OO
    simp only[WN]at e;obtain⟨m1,e1,e2⟩:=e;obtain⟨a1,a2,a3⟩:=Dj e1;obtain⟨b1,b2,b4,b3⟩:=Du e2;refine⟨a1.trans b1,?_,?_,fun h=>b3 (a3 h)⟩
    ·intro k q' hk
     cases k with
     |zero=>cases hk;exact⟨b,cs,b1.2 _ _ (a1.2 _ _ hb),OO,AF.imp (fun _ _ k=>C0.ext b1 k) a2⟩
     |succ k=>
      have:=b2 k q' (by simpa using hk)
      rwa [show i+1+k=i+(k+1)by omega]at this
    ·intro k d r hk
     cases k with
     |zero=>cases hk
     |succ k=>
      have:=b4 k d r (by simpa using hk)
      rwa [show i+1+k=i+(k+1)by omega]at this
   ·cases e
  ·cases e
 | .sl d r::l,i,m,m',e=>by
  simp only[BQ.CE]at e;split at e
  ·rename_i b hb
   obtain⟨b1,b2,b4,b3⟩:=Du e;refine⟨b1,?_,?_,b3⟩
   ·intro k q' hk
    cases k with
    |zero=>cases hk
    |succ k=>
     have:=b2 k q' (by simpa using hk)
     rwa [show i+1+k=i+(k+1)by omega]at this
   ·intro k d r hk
    cases k with
    |zero=>exact⟨b,b1.2 _ _ hb⟩
    |succ k=>
     have:=b4 k d r (by simpa using hk)
     rwa [show i+1+k=i+(k+1)by omega]at this
  ·cases e
 | .gone::l,i,m,m',e=>by
  simp only[BQ.CE]at e;obtain⟨b1,b2,b4,b3⟩:=Du e;refine⟨b1,?_,?_,b3⟩
  ·intro k q' hk
   cases k with
   |zero=>cases hk
   |succ k=>
    have:=b2 k q' (by simpa using hk)
    rwa [show i+1+k=i+(k+1)by omega]at this
  ·intro k d r hk
   cases k with
   |zero=>cases hk
   |succ k=>
    have:=b4 k d r (by simpa using hk)
    rwa [show i+1+k=i+(k+1)by omega]at this
theorem C6{bx bk:List Bx}{BX:Nat→Nat}:∀{l:List BP} {m:CQ} {x:BQ.V l},BQ.get bx bk m l=some x→(BQ.mk BX l x).length=l.length∧
  ∀(k:Nat) p,l[k]? =some p→ ∃y:p.V,(BQ.mk BX l x)[k]? =some (p.mk BX y)∧
   match p,y with
   | .mem q,y=> ∃b cs,m[k]? =some (some b)∧bx[b]? =some (.mem cs)∧EL.get bk q cs=some y
   | .sl d r,y=> ∃b d',m[k]? =some (some b)∧bx[b]? =some (.sl d' r y)∧1≤d∧d≤d'
   | .gone,_=>True
 |[],m,x,e=>⟨rfl,by simp⟩
 | .mem q::l,some b::m,x,e=>by
  simp only[BQ.get]at e;split at e
  ·rename_i cs OO
   simp only[WN,WM]at e;obtain⟨a,e1,c,e2,rfl⟩:=e;obtain⟨h1,h2⟩:=C6 (BX:=BX) e2;refine⟨by simp[BQ.mk,h1],fun k p hk=> ?_⟩;cases k with
   |zero=>cases hk;exact⟨a,rfl,b,cs,rfl,OO,e1⟩
   |succ k=>
    obtain⟨y,k1,k2⟩:=h2 k p (by simpa using hk);exact⟨y,by simpa[BQ.mk]using k1,by simpa using k2⟩
  ·cases e
 | .sl d r::l,some b::m,x,e=>by
  simp only[BQ.get]at e;split at e
  ·rename_i d' q rows hb
   split at e
   ·rename_i hd
    simp only[WN,WM]at e;obtain⟨a,e1,c,e2,rfl⟩:=e;obtain⟨e3,e4⟩:=A9 e1;subst e3;subst e4;obtain⟨h1,h2⟩:=C6 (BX:=BX) e2;refine⟨by simp[BQ.mk,h1],fun k p hk=> ?_⟩;cases k with
    |zero=>cases hk;exact⟨rows,rfl,b,d',rfl,hb,hd.1,hd.2⟩
    |succ k=>
     obtain⟨y,k1,k2⟩:=h2 k p (by simpa using hk);exact⟨y,by simpa[BQ.mk]using k1,by simpa using k2⟩
   ·cases e
  ·cases e
 | .gone::l,o::m,x,e=>by
  have e':(BQ.get bx bk m l).map (fun c=>((),c))=some x:=by cases o<;>simpa only[BQ.get]using e
  simp only[WM]at e';obtain⟨c,e2,rfl⟩:=e';obtain⟨h1,h2⟩:=C6 (BX:=BX) e2;refine⟨by simp[BQ.mk,h1],fun k p hk=> ?_⟩;cases k with
  |zero=>cases hk;exact⟨(),rfl,trivial⟩
  |succ k=>
   obtain⟨y,k1,k2⟩:=h2 k p (by simpa using hk);exact⟨y,by simpa[BQ.mk]using k1,by simpa using k2⟩
 | .mem q::l,none::m,x,e=>by simp[BQ.get]at e
 | .sl d r::l,none::m,x,e=>by simp[BQ.get]at e
 | .mem _::_,[],x,e=>by simp[BQ.get]at e
 | .sl _ _::_,[],x,e=>by simp[BQ.get]at e
 | .gone::_,[],x,e=>by simp[BQ.get]at e
theorem A8:∀{m:CQ} {bx:List Bx},(AH bx m).length=bx.length
 |[],_=>rfl
 |some b::m,bx=>by simp[AH,A8]
 |none::m,bx=>by simp[AH,A8]
theorem C1:∀{m:CQ} {bx vw:List Bx},Aj bx vw→Aj (AH bx m) vw
 |[],_,_,h=>h
 |none::m,bx,vw,h=>by simp only[AH];exact C1 h
 |some b::m,bx,vw,h=>by
  simp only[AH];refine C1 fun k B hk=> ?_
  by_cases e:k=b
  ·subst e
   have CA:=(WJ.1 hk).1;rw[WV (by simpa using CA)]at hk;cases hk;exact .inl rfl
  ·rw[WQ (by omega)]at hk
   exact h k B hk
theorem Dp:∀{m:CQ} {bx:List Bx} {b:Nat} {B:Bx},some b∈m→(AH bx m)[b]? =some B→B= .dead
 |some c::m,bx,b,B,h,e=>by
  simp only[AH]at e;by_cases hm:some b∈m
  ·exact Dp hm e
  ·have:c=b:=by
    rcases Wy.1 h with h|h
    ·cases h;rfl
    ·exact absurd h hm
   subst this;have:∀{m:CQ} {bx:List Bx},bx[c]? =some .dead→some c∉m→(AH bx m)[c]? =some .dead:=by
    intro m
    induction m with
    |nil=>intro bx h _;exact h
    |cons o m ih=>
     intro bx h hn;cases o with
     |none=>simp only[AH];exact ih h (fun hh=>hn (XC _ hh))
     |some d=>
      simp only[AH];refine ih ?_ (fun hh=>hn (XC _ hh))
      have:d≠c:=fun hh=>hn (by subst hh;simp)
      rw[WQ (by omega)];exact h
   have CA:c<bx.length:=by
    have:=(WJ.1 e).1;simpa[A8]using this
   have:=this (m:=m) (bx:=bx.set c .dead) (by simp[CA]) hm;rw[this]at e;cases e;rfl
 |none::m,bx,b,B,h,e=>by
  simp only[AH]at e;exact Dp (by simpa using h) e
theorem I_{E:Env}{w:World}{vw:List Bx}:∀{m:CQ} {bx:List Bx} {G:V6},J1 m→AK E w vw bx G→
  ∃Gs:List V6,Gs.length=m.length∧(∀(k b:Nat) B F,m[k]? =some (some b)→bx[b]? =some B→Gs[k]? =some F→Jk E w vw b B F)∧
   AK E w vw (AH bx m) (Gs.flatten++G)
 |[],bx,G,_,h=>⟨[],rfl,by simp,h⟩
 |none::m,bx,G,hi,h=>by
  obtain⟨Gs,h1,h2,h3⟩:=I_ (m:=m) (fun i j b NR hj=>by
   have:=hi (i+1) (j+1) b (by simpa using NR) (by simpa using hj);omega) h
  refine⟨[]::Gs,by simp[h1],fun k b B F hk hB hF=> ?_,by simpa[AH]using h3⟩;cases k with
  |zero=>simp at hk
  |succ k=>exact h2 k b B F (by simpa using hk) hB (by simpa using hF)
 |some b::m,bx,G,hi,h=>by
  have Pm:J1 m:=fun i j b NR hj=>by
   have:=hi (i+1) (j+1) b (by simpa using NR) (by simpa using hj);omega
  cases e:bx[b]? with
  |none=>
   have Ft:bx.set b .dead=bx:=List.set_eq_of_length_le (by simpa using e);obtain⟨Gs,h1,h2,h3⟩:=I_ (m:=m) Pm h;refine⟨[]::Gs,by simp[h1],fun k b' B F hk hB hF=> ?_,by simpa[AH,Ft]using h3⟩;cases k with
   |zero=>simp at hk;subst hk;rw[e]at hB;cases hB
   |succ k=>exact h2 k b' B F (by simpa using hk) hB (by simpa using hF)
  |some B0=>
   obtain⟨F0,k1,k2⟩:=h.take e;obtain⟨Gs,h1,h2,h3⟩:=I_ (m:=m) Pm k2;refine⟨F0::Gs,by simp[h1],fun k b' B F hk hB hF=> ?_,?_⟩
   ·cases k with
    |zero=>
     simp at hk hF;subst hk hF;rw[e]at hB;cases hB;exact k1
    |succ k=>
     have I5:b'≠b:=fun hh=>by
      have:=hi 0 (k+1) b (by simp) (by subst hh;simpa using hk);omega
     exact h2 k b' B F (by simpa using hk) (by rw[WQ (by omega)];exact hB) (by simpa using hF)
   ·simp only[AH]
    refine h3.perm ?_
    rw[Wv,←WR];exact WX _ Wf
end Go.Fw
end
section
namespace Go.Fw
theorem JK{R:Nat→List Nat→List Nat→List Nat→Prop}:∀(Gs:List V6) (o:Nat),(∀(k:Nat) G,Gs[k]? =some G→ ∃F W,G.Perm (F++W)∧R (o+k) G F W)→
  ∃Fs Ws:List V6,Fs.length=Gs.length∧Ws.length=Gs.length∧Gs.flatten.Perm (Fs.flatten++Ws.flatten)∧
   ∀(k:Nat) G F W,Gs[k]? =some G→Fs[k]? =some F→Ws[k]? =some W→R (o+k) G F W
 |[],o,_=>⟨[],[],rfl,rfl,by simp,by simp⟩
 |G::Gs,o,h=>by
  obtain⟨F,W,hp,hr⟩:=h 0 G rfl;obtain⟨Fs,Ws,h1,h2,h3,h4⟩:=JK Gs (o+1) (fun k G hk=>by
   have:=h (k+1) G (by simpa using hk)
   rwa [show o+1+k=o+(k+1)by omega])
  refine⟨F::Fs,W::Ws,by simp[h1],by simp[h2],?_,fun k G' F' W' hG hF hW=> ?_⟩
  ·simp only[Wv]
   refine(hp.append h3).trans ?_
   rw[WR,WR];refine We _ ?_
   rw[←WR,←WR];exact WX _ Wf
  ·cases k with
   |zero=>simp at hG hF hW;subst hG hF hW;exact hr
   |succ k=>
    have:=h4 k G' F' W' (by simpa using hG) (by simpa using hF) (by simpa using hW)
    rwa [show o+1+k=o+(k+1)by omega]at this
def B_(E:Env)(w:World)(vw:List Bx)(BX:Nat→Nat):(l:List (Nat×XP))→Aw.V l→List Value→Prop
 |[],_,_=>True
 |(i,p)::l,x,vals=>(∃v,vals[i]? =some v∧XR E w vw (p.mk BX x.1) v)∧B_ E w vw BX l x.2 vals
section
variable{E E1:Env} {w:World} {bx bk MZ:List Bx} {Fk:List V6} {m:CQ}
theorem Cq.map{f:Nat→Nat}(h:∀(i b:Nat),m[i]? =some (some b)→E1.BC i=E.BC b):∀{is bs:V6},Cq m is bs→
  (is.map fun b=>Value.pointer (some ⟨E1.BC b,0,none⟩))=bs.map fun b=>Value.pointer (some ⟨E.BC b,0,none⟩)
 |[],[],_=>rfl
 |i::is,b::bs,k=>by simp[h i b k.1,Cq.map (f:=f) h k.2]
theorem Cq.lt:∀{is bs:V6},Cq m is bs→ ∀i∈is,i<m.length
 |[],[],_,_,h=>by simp at h
 |i::is,b::bs,k,j,h=>by
  rcases Wy.1 h with rfl|h
  ·exact(WJ.1 k.1).1
  ·exact Cq.lt k.2 j h
structure Ou (N:Nat) (E:Env) (w:World) (bx bk:List Bx) (Fk:List V6) (m:CQ) (E1:Env) (MZ:List Bx):Prop where
 within:Aj bk bx
 boxes:B9 E w bx bk Fk
 st:∀c,E.S c→E.T c
 T:∀c,Jl E Fk c→E1.T c
 S:∀c,E.S c→E1.S c
 ids:∀(i b:Nat),m[i]? =some (some b)→E1.BC i=E.BC b∧E1.BD i=E.BD b
 len:m.length≤MZ.length
 nil:∀(i:Nat) d r rows,MZ[i]? =some (.sl d r rows)→E.BD (N+i)= .slice none 0 0
 sl:∀(i:Nat) d r rows,i<m.length→MZ[i]? =some (.sl d r rows)→ ∃b d',m[i]? =some (some b)∧bx[b]? =some (.sl d' r rows)
variable{N:Nat} (k:Ou N E w bx bk Fk m E1 MZ)
include k
theorem Ms{p:AP}{x:AV}{v:Value}(hv:VR E w bx x v)(ha:C0 N m p x){y:p.V}(e:p.get bk x=some y):VR E1 w MZ (p.mk id y) v:=by
 cases p with
 |v t=>
  simp only[AP.get]at e;split at e
  ·rename_i hs
   have hr:=DQ k.within k.boxes k.st hv e;refine⟨hs,?_⟩;cases t with
   |int _=>simpa only[Rd]using hr
   |bool=>simpa only[Rd]using hr
   |str=>simpa only[Rd]using hr
   |_=>simp[Ty.scalar]at hs
  ·cases e
 |sl s r=>
  cases s with
  |false=>
   simp only[AP.get]at e;have hr:=DQ k.within k.boxes k.st hv e;simp only[AP.mk,VR];exact Ak k.T (fun _ _=>rfl) (by simpa using hr)
  |true=>
   simp only[AP.get]at e;split at e
   ·rename_i q z
    obtain⟨e1,e2⟩:=A9 e;subst e1;subst e2;simp only[AP.mk,VR]at hv⊢;exact Ak k.S (fun _ _=>rfl) (by simpa using hv)
   ·cases e
    simp only[AP.mk,VR]at hv⊢;subst hv;simp only[Rd];exact⟨none,0,rfl,by simp,.inl rfl⟩
   ·cases e
 |nil=>
  obtain rfl:=ha;exact hv
 |ref i=>
  obtain⟨b,hx,hm⟩:=ha;have hi:=(WJ.1 hm).1;simp only[AP.mk,id,VR];rcases hx with rfl|⟨rfl,rfl⟩
  ·have TX:=hv.1
   refine⟨TX,?_⟩;cases e1:MZ[i]? with
   |none=>simp at e1;have:=k.len;omega
   |some B=>
    cases B with
    |sl d r rows=>
     obtain⟨b',d',h1,h2⟩:=k.sl i d r rows hi e1;rw[hm]at h1;cases h1;simp only[VR,h2]at hv
     replace hv:=hv.2
     refine⟨by simp[AM],⟨_,rfl⟩,?_⟩;rw[(k.ids i b hm).2];exact hv.2.2
    |_=>trivial
  ·have Fi:v= .slice none 0 0:=hv
   subst Fi;refine⟨rfl,?_⟩;cases e1:MZ[i]? with
   |none=>simp at e1;have:=k.len;omega
   |some B=>
    cases B with
    |sl d r rows=>
     refine⟨by simp[AM],⟨_,rfl⟩,?_⟩;rw[(k.ids i _ hm).2,k.nil i d r rows e1,AJ]
    |_=>trivial
 |ptr i j=>
  obtain⟨b,rfl,hm⟩:=ha;have hi:=(WJ.1 hm).1;exact⟨Wq hi k.len,by rw[hv.2,id,(k.ids i b hm).1]⟩
 |L1 r=>
  simp only[AP.get]at e;split at e
  ·rename_i s q z
   obtain⟨e1,e2⟩:=A9 e;subst e1;subst e2;simp only[AP.mk,VR]at hv⊢;obtain⟨bb,o,cs,h1,h2,h3,h4,h5⟩:=hv;have O3:∀c,(if s=true then E.S else E.T) c→E1.T c:=by
    intro c hc;cases s
    ·exact k.T c (.inl (by simpa using hc))
    ·exact k.T c (.inl (k.st c (by simpa using hc)))
   exact⟨bb,o,cs,h1,by simpa using O3 bb h2,h3,h4,by simpa using Ak O3 (fun _ _=>rfl) h5⟩
  ·rename_i b
   split at e
   ·rename_i cs hb
    obtain⟨F,⟨hF,arr,ty,fr,ha,hu,ED⟩,Lq⟩:=k.boxes.get hb;have Fa:=Gw k.within k.boxes k.st ED e;simp only[AP.mk,VR];refine⟨E.BC b,0,arr.toList,by simpa using hv.2,?_,Hs Fa,?_,by simpa using Ak k.T (fun _ _=>rfl) Fa⟩
    ·simp only[W0,XS]
     exact k.T _ (.inr (Lq _ (by rw[hF];simp)))
    ·intro j u hj
     simp only[XA,World.cell?,ha,XI,W0,XS];simpa using hj
   ·cases e
  ·rename_i b p i sz
   split at e
   ·rename_i d q rows hb
    simp only[WN]at e;obtain⟨⟨q',ys⟩,e1,e2⟩:=e;split at e2
    case isFalse=>cases e2
    rename_i CK;obtain⟨e3,e4⟩:=A9 e2;dsimp only at e3;subst e3;subst e4;simp only[VR,ET k.within hb]at hv;obtain⟨_,hp,q1,ys1,bb,o,len,cap,hg,hi,hh,rfl⟩:=hv;rw[hg]at e1;simp only[WL,WU]at e1;obtain⟨e5,e6⟩:=e1;subst e5;obtain rfl:=Wi e6;have Fa:=GR k.within k.boxes k.st hb hp hg hh;simp only[Rd]at Fa;obtain⟨a',cap',ee,_,Fa⟩:=Fa;simp only[Wg,Value.slice.injEq,W3]at ee;obtain⟨rfl,rfl,rfl⟩:=ee;rcases Fa with Fa|⟨b1,o1,e7,hb1,Fa⟩
    ·omega
    ·cases e7
     obtain⟨cs,c1,c2,c3⟩:=Fa i _ (Cf hi);simp only[AP.mk,VR];refine⟨bb,o+i*q1.n,cs,by rw[CK],by simpa using k.T _ hb1,c1,c2,by simpa using Ak k.T (fun _ _=>rfl) c3⟩
   ·cases e
  ·cases e
 |fn f BZ=>
  obtain⟨bs,rfl,hc⟩:=ha;refine⟨fun i hi=>Wq (hc.lt i (by simpa[AP.mk]using hi)) k.len,?_⟩;rw[hv.2];simp only[AP.mk,List.map_id];rw[Cq.map (f:=id) (fun i b h=>(k.ids i b h).1) hc]
 |LB f rs=>
  simp only[AP.get]at e;split at e
  ·rename_i g rows
   split at e
   case isFalse=>cases e
   rename_i TN;subst TN;obtain⟨ps,Fe,FD⟩:=hv;refine⟨ps,Fe,?_⟩;clear ha Fe
   induction rs generalizing rows ps with
   |nil=>
    cases rows with
    |nil=>
     cases ps with
     |nil=>trivial
     |cons _ _=>exact FD.elim
    |cons _ _=>simp[Ef.KF]at e
   |cons r rs ih=>
    cases rows with
    |nil=>simp[Ef.KF]at e
    |cons q rows=>
     cases ps with
     |nil=>exact FD.elim
     |cons p ps=>
      simp only[Ef.KF,WN,WM]at e;obtain⟨x1,e1,x2,e2,rfl⟩:=e;obtain⟨q1,q2⟩:=q;obtain⟨e3,e4⟩:=A9 e1;dsimp only at e3;subst e3;subst e4;obtain⟨⟨bb,o,cs,h1,h2,h3,h4,h5⟩,FD⟩:=FD;exact⟨⟨bb,o,cs,h1,k.T bb (.inl h2),h3,h4,Ak (fun b hb=>k.T b (.inl hb)) (fun _ _=>rfl) h5⟩,ih rows e2 ps FD⟩
  ·rename_i g bs
   split at e
   case isFalse=>cases e
   rename_i TN;subst TN;obtain⟨Fe,FD⟩:=hv;refine⟨bs.map fun b=>Value.pointer (some ⟨E.BC b,0,none⟩),FD,?_⟩;clear ha Fe FD
   induction rs generalizing bs with
   |nil=>
    cases bs with
    |nil=>trivial
    |cons _ _=>simp[Ef.Jc]at e
   |cons r rs ih=>
    cases bs with
    |nil=>simp[Ef.Jc]at e
    |cons b bs=>
     simp only[Ef.Jc,WN,WM]at e;obtain⟨x1,e1,x2,e2,rfl⟩:=e;split at e1
     case h_2=>cases e1
     rename_i cs hb;obtain⟨F,⟨hF,arr,ty,fr,ha,hu,ED⟩,Lq⟩:=k.boxes.get hb;have Fa:=Gw k.within k.boxes k.st ED e1;refine⟨⟨E.BC b,0,arr.toList,rfl,k.T _ (.inr (Lq _ (by rw[hF];simp))),Hs Fa,?_,Ak k.T (fun _ _=>rfl) Fa⟩,ih bs e2⟩;intro j u hj;simp only[XA,World.cell?,ha,XI,W0,XS];simpa using hj
  ·cases e
 |any=>trivial
 |H4 i sz=>
  obtain⟨b,q,j,rfl,hm⟩:=ha;have hi:=(WJ.1 hm).1;simp only[AP.get,WL]at e;subst e;simp only[AP.mk,id,VR];have TX:=hv.1;refine⟨TX,?_⟩;cases e1:MZ[i]? with
  |none=>simp at e1;have:=k.len;omega
  |some B=>
   cases B with
   |sl d r rows=>
    obtain⟨b',d',h1,h2⟩:=k.sl i d r rows hi e1;rw[hm]at h1;cases h1;simp only[VR,h2]at hv
    replace hv:=hv.2
    refine⟨hv.1,hv.2.1,?_⟩;rw[(k.ids i b hm).2];exact hv.2.2
   |_=>trivial
theorem I3:∀{l:List AP} {xs:List AV} {vs:List Value},HF E w bx xs vs→AF (C0 N m) l xs→ ∀{y:EL.V l},EL.get bk l xs=some y→HF E1 w MZ (EL.mk id l y) vs
 |[],[],[],_,_,_,_=>trivial
 |p::l,x::xs,v::vs,hv,ha,y,e=>by
  simp only[EL.get,WN,WM]at e;obtain⟨a,e1,b,e2,rfl⟩:=e;exact⟨Ms k hv.1 ha.1 e1,I3 hv.2 ha.2 e2⟩
 |[],[],_::_,hv,_,_,_=>hv.elim
 |_::_,_::_,[],hv,_,_,_=>hv.elim
 |[],_::_,_,_,ha,_,_=>ha.elim
 |_::_,[],_,_,ha,_,_=>ha.elim
theorem LZ:∀{l:List (AP ⊕ List AP)} {xs:List (AV ⊕ List AV)} {vs:List Value},AF (TR E w bx) xs vs→AF (HE N m) l xs→ ∀{y:EZ.V l},EZ.get bk l xs=some y→
  AF (TR E1 w MZ) (EZ.mk id l y) vs
 |[],[],[],_,_,_,_=>trivial
 | .inl p::l,.inl x::xs,v::vs,hv,ha,y,e=>by
  simp only[EZ.get,WN,WM]at e;obtain⟨a,e1,b,e2,rfl⟩:=e;exact⟨Ms k hv.1 ha.1 e1,LZ hv.2 ha.2 e2⟩
 | .inr p::l,.inr x::xs,v::vs,hv,ha,y,e=>by
  simp only[EZ.get,WN,WM]at e;obtain⟨a,e1,b,e2,rfl⟩:=e;obtain⟨⟨us,hu,hus⟩,h2⟩:=hv;exact⟨⟨us,hu,I3 k hus ha.1 e1⟩,LZ h2 ha.2 e2⟩
 | .inl _::_,.inr _::_,_,_,ha,_,_=>ha.1.elim
 | .inr _::_,.inl _::_,_,_,ha,_,_=>ha.1.elim
 |[],[],_::_,hv,_,_,_=>hv.elim
 |_::_,_::_,[],hv,_,_,_=>hv.elim
 |[],_::_,_,_,ha,_,_=>ha.elim
 |_::_,[],_,_,ha,_,_=>ha.elim
theorem QZ{p:XP}{x:XV}{v:Value}(hv:XR E w bx x v)(ha:FL N m p x){y:p.V}(e:p.get bk x=some y):XR E1 w MZ (p.mk id y) v:=by
 cases p with
 |c p=>cases x with
  |c x=>exact Ms k hv ha (by simpa only[XP.get]using e)
  |_=>exact ha.elim
 |agg l=>cases x with
  |agg xs=>
   obtain⟨vs,rfl,ED⟩:=hv;exact⟨vs,rfl,I3 k ED ha (by simpa only[XP.get]using e)⟩
  |_=>exact ha.elim
 |row r=>cases x with
  |agg xs=>
   obtain⟨vs,rfl,ED⟩:=hv;exact⟨vs,rfl,Hi k.within k.boxes k.st k.T ED (by simpa only[XP.get]using e)⟩
  |_=>exact ha.elim
 |DY l=>cases x with
  |DY xs=>
   obtain⟨vs,rfl,ED⟩:=hv;exact⟨vs,rfl,LZ k ED ha (by simpa only[XP.get]using e)⟩
  |_=>exact ha.elim
theorem Kt{tm:List XV}{vals:List Value}(Qn:AF (XR E w bx) tm vals):∀{l:List (Nat×XP)},(∀q∈l,∃x,tm[q.1]? =some x∧FL N m q.2 x)→ ∀{y:Aw.V l},Aw.get bk tm l=some y→
  B_ E1 w MZ id l y vals
 |[],_,_,_=>trivial
 |(i,p)::l,ha,y,e=>by
  obtain⟨x,hx,hax⟩:=ha (i,p) (by simp);simp only[Aw.get,hx,WN,WM]at e;obtain⟨a,e1,b,e2,rfl⟩:=e;obtain⟨v,hv,hr⟩:=Qn.get hx;exact⟨⟨v,hv,QZ k hr hax e1⟩,Kt Qn (fun q hq=>ha q (by simp[hq])) e2⟩
end
structure LU (E:Env) (w:World) (bx:List Bx) (m:CQ) (s:CS) (x:s.V) (vals:List Value) (E1:Env):Prop where
 boxes:AK E1 w (BQ.mk id s.Az x.2) (BQ.mk id s.Az x.2) []
 Ab:B_ E1 w (BQ.mk id s.Az x.2) id s.Ab x.1 vals
 ids:∀(i b:Nat),m[i]? =some (some b)→E1.BC i=E.BC b∧E1.BD i=E.BD b
 inj:J1 m
 len:m.length=s.Az.length
 S:∀c,E.S c→E1.S c
 NQ:∀c,E1.S c→E.S c∨ ¬E.T c
 T:∀c,E.T c→E1.T c
 rest:∃Fk,B9 E w bx (AH bx m) Fk∧Fk.flatten.Nodup∧(∀c∈Fk.flatten,¬E.T c∧ ¬E1.S c∧c<w.heap.size∧E1.T c)∧(∀c,E1.T c→E.T c∨E1.S c∨c∈Fk.flatten)
theorem Ht{E:Env}{w:World}{bx:List Bx}{tm:List XV}{vals:List Value}(hB:AK E w bx bx [])(Qn:AF (XR E w bx) tm vals){s:CS}{m0 m:CQ}{x:s.V}
  {N:Nat} (Mr:∀(i:Nat) d r,s.Az[i]? =some (.sl d r)→E.BD (N+i)= .slice none 0 0) (hlen:m0.length=s.Az.length) (Pm:J1 m0) (e:s.fit N m0 tm bx=some (x,m)):Ext m0 m∧ ∃E1,LU E w bx m s x vals E1:=by
 simp only[CS.fit,WN,WM]at e;obtain⟨m1,e1,m2,e2,a,e3,c,e4,e5⟩:=e;cases e5;obtain⟨a1,a2,a3⟩:=F5 e1;obtain⟨b1,b2,b4,b3⟩:=Du e2;have hi:J1 m:=b3 (a3 Pm);have TW:m.length=s.Az.length:=by rw[b1.1,a1.1,hlen]
 refine⟨a1.trans b1,?_⟩;obtain⟨Gs,g1,g2,g3⟩:=I_ hi hB;obtain⟨q1,q2⟩:=C6 (BX:=id) e4;have st:=hB.st
 let R:Nat→List Nat→List Nat→List Nat→Prop:=fun k G F W=>
  match s.Az[k]? with
  |some (.sl d r)=> ∀(b d':Nat) (rows:List r.D),m[k]? =some (some b)→bx[b]? =some (.sl d' r rows)→Ow w (fun c=>E.S c∨c∈W) d (.sl r) [E.BD b] rows F
  |some (.mem q)=>F=G∧W=[]
  |_=>F=[]∧W=G
 have QT:∀(k:Nat) G,Gs[k]? =some G→ ∃F W,G.Perm (F++W)∧R (0+k) G F W:=by
  intro k G hG;rw[XA];have hk:k<s.Az.length:=by
   have:=(WJ.1 hG).1;omega
  have hp:s.Az[k]? =some s.Az[k]:=WK hk;cases hb:s.Az[k]with
  |mem q=>exact⟨G,[],by simp,by simp[R,hp,hb]⟩
  |gone=>exact⟨[],G,by simp,by simp[R,hp,hb]⟩
  |sl d r=>
   obtain⟨y,y1,b,d',y2,y3,y4,y5⟩:=q2 k _ (hp.trans (by rw[hb]));obtain⟨_,ho⟩:=g2 k b _ G y2 y3 hG;obtain⟨F,W,w1,w2⟩:=Bc y5 ho;refine⟨F,W,w1,?_⟩;simp only[R,hp,hb];intro b' V5 rows h1 h2;rw[y2]at h1;cases h1;rw[y3]at h2;cases h2;exact w2
 obtain⟨Fs,Ws,f1,f2,f3,f4⟩:=JK Gs 0 QT;obtain⟨Fk,k1,k2⟩:=g3;simp only[Wj]at k2;have PC:Sep E w (Fk.flatten++(Fs.flatten++Ws.flatten)):=k2.perm (We _ f3)
 let E1:Env:={
   BC:=fun i=>match m[i]? with|some (some b)=>E.BC b|_=>0
   BD:=fun i=>match m[i]? with|some (some b)=>E.BD b|_=> .nilFunc
   S:=fun c=>E.S c∨c∈Ws.flatten
   T:=fun c=>E.T c∨c∈Ws.flatten∨c∈Fk.flatten }
 have L9:∀(i b:Nat),m[i]? =some (some b)→E1.BC i=E.BC b∧E1.BD i=E.BD b:=fun i b h=>by simp[E1,h]
 have fe:Ou N E w bx (AH bx m) Fk m E1 (BQ.mk id s.Az c):={
  within:=C1 (Aj.refl bx)
  boxes:=k1
  st:=st
  T:=fun d hd=>hd.elim .inl fun h=> .inr (.inr h)
  S:=fun d hd=> .inl hd
  ids:=L9
  len:=by rw[q1,TW];exact Wu _
  nil:=fun i d r rows e=>by
   have hk:i<s.Az.length:=by
    have:=(WJ.1 e).1
    rwa [q1]at this
   obtain⟨y,y1,_⟩:=q2 i _ (WK hk);have hp:=WK hk;rw[e]at y1
   generalize s.Az[i]=P at y y1 hp
   cases P with
   |mem q=>cases y1
   |gone=>cases y1
   |sl d0 r0=>exact Mr i d0 r0 hp
  sl:=fun i d r rows hi e=>by
   have hk:i<s.Az.length:=by omega
   obtain⟨y,y1,y2⟩:=q2 i _ (WK hk);rw[e]at y1
   generalize s.Az[i]=P at y y1 y2
   cases P with
   |mem q=>cases y1
   |gone=>cases y1
   |sl d0 r0=>
    simp only[BP.mk,WL,Bx.sl.injEq]at y1;obtain⟨rfl,rfl,y1⟩:=y1;obtain rfl:=Wi y1;obtain⟨b,d',z1,z2,_⟩:=y2;exact⟨b,d',z1,z2⟩ }
 have nd:=PC.nodup;have OV:∀c∈Fs.flatten,¬E1.T c:=by
  intro d hd h;rcases h with h|h|h
  ·exact PC.free d (by simp[hd]) h
  ·have:=(WS.1 (WS.1 nd).2.1).2.2 d hd d h
   exact this rfl
  ·have:=(WS.1 nd).2.2 d h d (by simp[hd])
   exact this rfl
 have QP:B_ E1 w (BQ.mk id s.Az c) id s.Ab a vals:=Kt fe Qn (fun q hq=>let⟨x,h1,h2⟩:=a2 q hq;⟨x,h1,FL.ext b1 h2⟩) e3;refine⟨E1,LU.mk ?_ QP L9 hi TW (fun d hd=> .inl hd) ?_ (fun d hd=> .inl hd) ⟨Fk,k1,(WS.1 nd).1,fun d hd=>⟨PC.free d (by simp[hd]),?_,PC.lt d (by simp[hd]),.inr (.inr hd)⟩,?_⟩⟩
 ·refine⟨Fs,⟨by rw[f1,g1,q1,TW],fun k B F hk hF=> ?_⟩,?_⟩
  ·have Uu:k<s.Az.length:=by
    have TV:=(WJ.1 hk).1;rw[←q1];exact TV
   have hp:s.Az[k]? =some s.Az[k]:=WK Uu;obtain⟨y,y1,y2⟩:=q2 k _ hp;rw[hk]at y1;cases y1;have hG:Gs[k]? =some (Gs[k]'(by omega)):=WK _;have hW:Ws[k]? =some (Ws[k]'(by omega)):=WK _;have hr:=f4 k _ F _ hG hF hW;rw[XA]at hr;have Rn:∀d∈Ws[k]'(by omega),d∈Ws.flatten:=fun d hd=>Wh.2 ⟨_,WT hW,hd⟩
   generalize Uk:s.Az[k]=P at y y2 hp
   have Rt:=fun q=>b2 k q
   simp only[R,hp]at hr;cases P with
   |mem q=>
    obtain⟨b,cs,z1,z2,z3⟩:=y2;obtain⟨rfl,hW0⟩:=hr;obtain⟨hFe,arr,ty,fr,h1,h2,h3⟩:=g2 k b _ _ z1 z2 hG;obtain⟨b',Fl,t1,t2,t3⟩:=Rt q hp;rw[XA,z1]at t1;cases t1;rw[z2]at t2;cases t2;refine⟨by rw[hFe,(L9 k b z1).1],arr,ty,fr,by rw[(L9 k b z1).1];exact h1,h2,I3 fe h3 t3 z3⟩
   |sl d r=>
    obtain⟨b,d',z1,z2,z3,z4⟩:=y2;have:=hr b d' y z1 z2;refine⟨z3,?_⟩;rw[(L9 k b z1).2];exact Ae (fun d hd=>hd.elim .inl fun h=> .inr (Rn d h)) (fun _ _=>rfl) (fun _ _=>rfl) this
   |gone=>exact hr.1
  ·simp only[Wj]
   refine⟨(WS.1 (WS.1 nd).2.1).1,OV,fun d hd=>PC.lt d (by simp[hd]),fun d hd=>hd.elim (fun h=> .inl (st d h)) (fun h=> .inr (.inl h)),fun d hd=> ?_,PC.Lo.mono (fun _ h=> .inl h) (fun _ _=>rfl)⟩;rcases hd with hd|hd|hd
   ·exact PC.GD d hd
   ·exact PC.lt d (by simp[hd])
   ·exact PC.lt d (by simp[hd])
 ·intro d hd
  exact hd.elim .inl fun h=> .inr (PC.free d (by simp[h]))
 ·intro h
  rcases h with h|h
  ·exact PC.free d (by simp[hd]) (st d h)
  ·have:=(WS.1 nd).2.2 d hd d (by simp[h])
   exact this rfl
 ·intro d hd
  rcases hd with hd|hd|hd
  ·exact .inl hd
  ·exact .inr (.inl (.inr hd))
  ·exact .inr (.inr hd)
end Go.Fw
end
section
namespace Go.Fw
def zv:Ty→Value
 | .int k=> .int k 0
 | .bool=> .bool false
 | .str=> .string ⟨#[]⟩
 |_=> .slice none 0 0
def Ax:Ty→List Value
 | .cons c r=>zv c::Ax r
 | .unit=>[]
 |t=>[zv t]
def Ty.cell:Ty→Bool
 | .unit| .cons _ _=>false
 |_=>true
def Ty.Lj:Ty→Bool
 | .cons c r=>c.cell&&r.Lj
 |_=>true
def Sz:Value→Value→Bool
 | .int k n,.int k' n' =>decide (k=k')&&decide (n=n')
 | .bool a,.bool b=>decide (a=b)
 | .string a,.string b=>decide (a.data.toList=[])&&decide (b.data.toList=[])
 | .slice none a b,.slice none c d=>decide (a=c)&&decide (b=d)
 |_,_=>false
theorem QQ{a b:Value}(h:Sz a b=true):a=b:=by
 unfold Sz at h;split at h
 ·simp at h;rw[h.1,h.2]
 ·simp at h;rw[h]
 ·rename_i a b
  simp at h;obtain⟨h1,h2⟩:=h;cases a;cases b;simp at h1 h2;subst h1 h2;rfl
 ·simp at h;rw[h.1,h.2]
 ·cases h
def OM:List Value→List Value→Bool
 |[],[]=>true
 |a::l,b::m=>Sz a b&&OM l m
 |_,_=>false
theorem NY:∀{l m:List Value},OM l m=true→l=m
 |[],[],_=>rfl
 |a::l,b::m,h=>by
  simp only[OM,WY]at h;rw[QQ h.1,NY h.2]
 |[],_::_,h=>by simp[OM]at h
 |_::_,[],h=>by simp[OM]at h
def G_(P:Program)(t:Nat):TD→Prop
 | .int k=>P.underlying t=some (.int k)
 | .bool=>P.underlying t=some .bool
 | .str=>P.underlying t=some .string
 | .sl e=>P.underlying t=some (.slice e)
 | .ptr e=>P.underlying t=some (.pointer e)
 | .st fs=> ∃fields,P.underlying t=some (.struct fields)∧fields.toList.map (fun f=>(f.offset,f.type))=fs∧(∀f∈fields.toList,f.name≠ "_" ∧ ∃i,P.info? f.type=some i∧i.size≠0)∧
  P.stoodInHeld t=false∧P.eqGuardType P.depth t=false
 | .other=> ∃d,P.underlying t=some d∧d.isRow=false
structure SN (P:Program) (T:Bb) (t:Nat) (ti:TI):Prop where
 info:∃i,P.info? t=some i∧i.size=ti.size∧i.bytes=ti.bytes∧(∀r,ti.row=some r→r.Lj=true∧ ∃z,i.zero=some z∧z.cells.toList=Ax r)
 Ot:G_ P t ti.desc
def An(P:Program)(T:Bb):Prop:= ∀t ti,T.get t=some ti→SN P T t ti
def LH(P:Program)(T:Bb)(t:Nat)(ti:TI):Bool:=
 (match P.info? t with
  |some i=>decide (i.size=ti.size)&&decide (i.bytes=ti.bytes)&&(match ti.row with
   |some r=>r.Lj&&(match i.zero with
    |some z=>OM z.cells.toList (Ax r)
    |none=>false)
   |none=>true)
  |none=>false)&&
 (match ti.desc,P.underlying t with
  | .int k,some (.int k')=>decide (k=k')
  | .bool,some .bool=>true
  | .str,some .string=>true
  | .sl e,some (.slice e')=>decide (e=e')
  | .ptr e,some (.pointer e')=>decide (e=e')
  | .st fs,some (.struct fields)=>decide (fields.toList.map (fun f=>(f.offset,f.type))=fs)&&
    fields.toList.all (fun f=>decide (f.name≠ "_")&&(match P.info? f.type with|some i=>decide (i.size≠0)|none=>false))&&
    !P.stoodInHeld t&& !P.eqGuardType P.depth t
  | .other,some d=> !d.isRow
  |_,_=>false)
theorem LQ{P:Program}{T:Bb}{t:Nat}{ti:TI}(h:LH P T t ti=true):SN P T t ti:=by
 unfold LH at h;rw[WY]at h;obtain⟨h1,h2⟩:=h;constructor
 ·split at h1
  ·rename_i i hi
   simp only[WY,Wo]at h1;refine⟨i,hi,h1.1.1,h1.1.2,fun r hr=> ?_⟩;obtain⟨_,h3⟩:=h1;rw[hr]at h3;dsimp only at h3;rw[WY]at h3;obtain⟨hg,h3⟩:=h3;refine⟨hg,?_⟩;split at h3
   ·rename_i z hz
    exact⟨z,hz,NY h3⟩
   ·cases h3
  ·cases h1
 ·split at h2
  ·rename_i hd hu;simp only[hd,G_];simp at h2;rw[hu,h2]
  ·rename_i hd hu;simp only[hd,G_];exact hu
  ·rename_i hd hu;simp only[hd,G_];exact hu
  ·rename_i hd hu;simp only[hd,G_];simp at h2;rw[hu,h2]
  ·rename_i hd hu;simp only[hd,G_];simp at h2;rw[hu,h2]
  ·rename_i fs fields hd hu
   simp only[hd,G_];simp only[WY,Wo,W9,Bool.not_eq_true']at h2;refine⟨fields,hu,h2.1.1.1,fun f hf=> ?_,h2.1.2,h2.2⟩;have:=h2.1.1.2 f hf;refine⟨this.1,?_⟩;have h4:=this.2;split at h4
   ·rename_i i hi
    exact⟨i,hi,by simpa using h4⟩
   ·cases h4
  ·rename_i d hd hu;simp only[hd,G_]
   exact⟨d,hu,by simpa using h2⟩
  ·cases h2
def Ox(P:Program)(T:Bb):Bool:=T.all fun q=>LH P T q.1 q.2
theorem Bb.get_mem:∀{T:Bb} {t:Nat} {ti:TI},T.get t=some ti→(t,ti)∈T
 |(u,i)::l,t,ti,h=>by
  simp only[Bb.get]at h;split at h
  ·rename_i e;cases h;subst e;simp
  ·exact XC _ (Bb.get_mem h)
 |[],_,_,h=>by simp[Bb.get]at h
theorem KC{P:Program}{T:Bb}(h:Ox P T=true):An P T:=fun t ti e=>
 LQ (by simpa using W9.1 h (t,ti) (Bb.get_mem e))
section
variable{P:Program} {T:Bb} (hT:An P T)
include hT
theorem An.size{t:Nat}{ti:TI}(e:T.get t=some ti):(P.info? t).map (·.size)=some ti.size:=by
 obtain⟨i,h1,h2,_⟩:=(hT t ti e).info;simp[h1,h2]
theorem An.sizeOf{t:Nat}{ti:TI}(e:T.get t=some ti)(w:World):(Go.sizeOf t).run P w= .ok ti.size w:=by
 obtain⟨i,h1,h2,_⟩:=(hT t ti e).info;simp[Go.sizeOf,typeInfo,h1,h2]
omit hT in
theorem AD{t:Nat}{d:TypeDesc}(h:P.underlying t=some d)(w:World):(Go.underlying t).run P w= .ok d w:=by
 simp[Go.underlying,h]
theorem An.isAgg{t:Nat}{ti:TI}(e:T.get t=some ti)(w:World):(Go.isAgg t).run P w= .ok ti.desc.agg w:=by
 have hu:=(hT t ti e).Ot;unfold Go.isAgg;cases hd:ti.desc<;>rw[hd]at hu<;>simp only[G_]at hu
 case st fs=>
  obtain⟨fields,hu,_⟩:=hu;simp[AD hu,TD.agg]
 case other=>
  obtain⟨d,hu,hd⟩:=hu;rw[Sem.run_bind,AD hu];cases d<;>simp_all[TypeDesc.isRow,TD.agg]
 all_goals simp[AD hu,TD.agg]
end
end Go.Fw
end
section
namespace Go.Fw
def Bo{Y:Type}(P:Program)(o:Oper)(E:Env)(σ:St)(a:Act)(w:World)(k:K Y)(y:Y):Prop:=
 ∃v w' E' x σ',((execOp a.eval o).run P w= .ok (.value v) w'∨((execOp a.eval o).run P w= .ok .skip w'∧v=undef))∧Rel E' σ' a w'∧XR E' w' σ'.bx x v∧Cn (BK (fun _=>none) σ o.op) E σ.bx w E' σ'.bx w'∧
  σ'.tm.length=σ.tm.length∧k x σ' =some y
section
variable{Y:Type} {P:Program} {T:Bb} {o:Oper} {E:Env} {σ:St} {a:Act} {w:World} {k:K Y} {y:Y}
theorem Bo.same(h:Rel E σ a w){v:Value}{x:XV}(hr:(execOp a.eval o).run P w= .ok (.value v) w)(hx:XR E w σ.bx x v)(hk:k x σ=some y):Bo P o E σ a w k y:=
 ⟨v,w,E,x,σ,.inl hr,h,hx,Cn.refl _ E σ.bx w,rfl,hk⟩
theorem Fb{vw:List Bx}{κ:IntKind}{n:Int}{v:Value}(h:VR E w vw (.v (.int κ) n) v):v= .int κ n:=by
 have:=h.2;simpa[Rd]using this
theorem Cp{vw:List Bx}{b:Bool}{v:Value}(h:VR E w vw (.v .bool b) v):v= .bool b:=by
 have:=h.2;simpa[Rd]using this
theorem D_{vw:List Bx}{s:V7}{v:Value}(h:VR E w vw (.v .str s) v):v= .string ⟨s.toArray⟩:=by
 have:=h.2;simpa[Rd]using this
theorem VR.int{vw:List Bx}(κ:IntKind)(n:Int):VR E w vw (.v (.int κ) n) (.int κ n):=⟨rfl,by simp[Rd]⟩
theorem VR.bool{vw:List Bx}(b:Bool):VR E w vw (.v .bool b) (.bool b):=⟨rfl,by simp[Rd]⟩
theorem VR.str{vw:List Bx}(s:V7):VR E w vw (.v .str s) (.string ⟨s.toArray⟩):=⟨rfl,by simp[Rd]⟩
theorem Di(s:V7):ByteArray.toList ⟨s.toArray⟩=s:=by
 have:∀(n i:Nat) (r:V7),n=s.length-i→ByteArray.toList.loop ⟨s.toArray⟩ i r=r.reverse++s.drop i:=by
  intro n
  induction n with
  |zero=>
   intro i r hn;unfold ByteArray.toList.loop;rw[Wr (by simp[ByteArray.size];omega),List.drop_of_length_le (by omega)];simp
  |succ n ih=>
   intro i r hn;unfold ByteArray.toList.loop;have hi:i<s.length:=by omega
   rw[Wt (by simpa[ByteArray.size]using hi),ih (i+1) _ (by omega)];have:(⟨s.toArray⟩:ByteArray).get! i=s[i]:=by
    simp[ByteArray.get!,hi]
   rw[this,XK hi];simp
 unfold ByteArray.toList;rw[this _ 0 [] rfl];simp
theorem Ln(a b:V7):(⟨a.toArray⟩:ByteArray)++⟨b.toArray⟩=⟨(a++b).toArray⟩:=by
 apply ByteArray.ext;simp
theorem L6(op:BinOp)(t:TypeId)(x y:Operand)(u v:Value)(hu:∀l,u≠ .agg l)(hn:u≠ .nilIface)(w:World):(eqGuard op t x y u v).run P w= .ok () w:=by
 unfold eqGuard;by_cases h:(op matches .eql| .neq)=true
 ·cases u<;>first
   |(exfalso;exact hn rfl)
   |(exfalso;exact hu _ rfl)
   |(cases v<;>simp[h])
 ·simp[h]
  exact fun hh=>absurd hh h
theorem MH{op:BinOp}{κ:IntKind}{m n:Int}{k:AV→Option Y}{y:Y}(e:Gn op κ m n k=some y)(t:TypeId)(w:World):
  ∃z v,k z=some y∧(binOp op t (.int κ m) (.int κ n)).run P w= .ok v w∧ ∀E vw,VR E w vw z v:=by
 cases op with
 |add=>exact⟨_,.int κ (κ.wrap (m+n)),e,by simp[binOp,Op.intArith],fun _ _=>VR.int _ _⟩
 |sub=>exact⟨_,.int κ (κ.wrap (m-n)),e,by simp[binOp,Op.intArith],fun _ _=>VR.int _ _⟩
 |mul=>exact⟨_,.int κ (κ.wrap (m*n)),e,by simp[binOp,Op.intArith],fun _ _=>VR.int _ _⟩
 |and=>exact⟨_,.int κ (κ.wrap (BitVec.ofInt κ.bits m &&& BitVec.ofInt κ.bits n).toNat),e,by simp[binOp,Op.intBits],fun _ _=>VR.int _ _⟩
 |or=>exact⟨_,.int κ (κ.wrap (BitVec.ofInt κ.bits m ||| BitVec.ofInt κ.bits n).toNat),e,by simp[binOp,Op.intBits],fun _ _=>VR.int _ _⟩
 |xor=>exact⟨_,.int κ (κ.wrap (BitVec.ofInt κ.bits m ^^^ BitVec.ofInt κ.bits n).toNat),e,by simp[binOp,Op.intBits],fun _ _=>VR.int _ _⟩
 |andNot=>exact⟨_,.int κ (κ.wrap (BitVec.ofInt κ.bits m &&& ~~~BitVec.ofInt κ.bits n).toNat),e,by simp[binOp,Op.intBits],fun _ _=>VR.int _ _⟩
 |eql=>exact⟨_,.bool (m==n),e,by simp[binOp,Op.intCmp],fun _ _=>VR.bool _⟩
 |neq=>exact⟨_,.bool (m !=n),e,by simp[binOp,Op.intCmp],fun _ _=>VR.bool _⟩
 |lss=>exact⟨_,.bool (decide (m<n)),e,by simp[binOp,Op.intCmp],fun _ _=>VR.bool _⟩
 |leq=>exact⟨_,.bool (decide (m≤n)),e,by simp[binOp,Op.intCmp],fun _ _=>VR.bool _⟩
 |gtr=>exact⟨_,.bool (decide (m>n)),e,by simp[binOp,Op.intCmp],fun _ _=>VR.bool _⟩
 |geq=>exact⟨_,.bool (decide (m≥n)),e,by simp[binOp,Op.intCmp],fun _ _=>VR.bool _⟩
 |quo=>
  simp only[Gn]at e;split at e
  ·cases e
  ·rename_i hz
   exact⟨_,.int κ (κ.wrap (m.tdiv n)),e,by simp[binOp,Op.intDiv,hz],fun _ _=>VR.int _ _⟩
 |rem=>
  simp only[Gn]at e;split at e
  ·cases e
  ·rename_i hz
   exact⟨_,.int κ (m.tmod n),e,by simp[binOp,Op.intDiv,hz],fun _ _=>VR.int _ _⟩
 |_=>simp[Gn]at e
theorem Gm{op:BinOp}{κ κ':IntKind}{m n:Int}{k:AV→Option Y}{y:Y}(e:Ec op κ m n k=some y)(t:TypeId)(w:World):
  ∃z v,k z=some y∧(binOp op t (.int κ m) (.int κ' n)).run P w= .ok v w∧ ∀E vw,VR E w vw z v:=by
 unfold Ec at e;split at e
 ·cases e
 ·rename_i hn
  cases op with
  |shl=>exact⟨_,.int κ (κ.wrap (m*2^min n.toNat κ.bits)),e,by simp[binOp,Op.shift,hn],fun _ _=>VR.int _ _⟩
  |shr=>exact⟨_,.int κ (m.fdiv (2^min n.toNat κ.bits)),e,by simp[binOp,Op.shift,hn],fun _ _=>VR.int _ _⟩
  |_=>simp at e
theorem MW{op:BinOp}{s u:V7}{k:AV→Option Y}{y:Y}(e:HI op s u k=some y)(t:TypeId)(w:World):
  ∃z v,k z=some y∧(binOp op t (.string ⟨s.toArray⟩) (.string ⟨u.toArray⟩)).run P w= .ok v w∧ ∀E vw,VR E w vw z v:=by
 have h1:=Di s;have h2:=Di u;cases op with
 |eql=>exact⟨_,.bool (s==u),e,by simp[binOp,Op.stringOp,h1,h2],fun _ _=>VR.bool _⟩
 |neq=>exact⟨_,.bool (!(s==u)),e,by simp[binOp,Op.stringOp,h1,h2],fun _ _=>VR.bool _⟩
 |lss=>exact⟨_,.bool (Op.bytesLess s u),e,by simp[binOp,Op.stringOp,h1,h2],fun _ _=>VR.bool _⟩
 |leq=>exact⟨_,.bool (Op.bytesLess s u||s==u),e,by simp[binOp,Op.stringOp,h1,h2],fun _ _=>VR.bool _⟩
 |gtr=>exact⟨_,.bool (!(Op.bytesLess s u||s==u)),e,by simp[binOp,Op.stringOp,h1,h2],fun _ _=>VR.bool _⟩
 |geq=>exact⟨_,.bool (!Op.bytesLess s u),e,by simp[binOp,Op.stringOp,h1,h2],fun _ _=>VR.bool _⟩
 |add=>
  simp only[HI]at e;split at e
  ·rename_i hl
   refine⟨_,.string ⟨(s++u).toArray⟩,e,?_,fun _ _=>VR.str _⟩;have hs:(⟨s.toArray⟩:ByteArray).size=s.length:=by simp[ByteArray.size]
   have hu:(⟨u.toArray⟩:ByteArray).size=u.length:=by simp[ByteArray.size]
   have Ka: ¬(((⟨s.toArray⟩:ByteArray).size+(⟨u.toArray⟩:ByteArray).size:Nat):Int)>IntKind.i64.max:=by
    rw[hs,hu];simp only[FE,IntKind.max,IntKind.signed,IntKind.bits]at hl⊢;simp;omega
   simp only[binOp,Op.stringOp,Sem.run_ite,Wr Ka,Ln];rfl
  ·cases e
 |_=>simp[HI]at e
theorem LC{d:TD}{x z:AV}{p:Bool}(e:J8 d x z=some p){E:Env}{w:World}{vw:List Bx}{v u:Value}(hx:VR E w vw x v)(hz:VR E w vw z u){t:TypeId}
  (hu:G_ P t d) (n:Nat):(Op.equalIn (n+1) t v u).run P w= .ok p w∧d.agg=false:=by
 unfold J8 at e;split at e
 ·rename_i κ j a k b
  split at e
  ·rename_i hj
   subst hj;cases e;rw[Fb hx,Fb hz];exact⟨run_equalIn_int (P:=P) w n t j κ a b hu,rfl⟩
  ·cases e
 ·cases e
  rw[Cp hx,Cp hz];exact⟨run_equalIn_bool' (P:=P) w n t _ _ hu,rfl⟩
 ·cases e
  rename_i a b;rw[D_ hx,D_ hz];have q:=run_equalIn_string (P:=P) w n t ⟨a.toArray⟩ ⟨b.toArray⟩ hu;rw[Di,Di]at q;exact⟨q,rfl⟩
 ·cases e
theorem Gq{T:Bb}(hT:An P T){E:Env}{w:World}{vw:List Bx}{xs ys:Array Value}:∀{fields:List Field} {i:Nat} {l m:List AV} {vs us:List Value} {r:Bool},
  (∀f∈fields,f.name≠ "_")→HF E w vw l vs→HF E w vw m us→Bg T i (fields.map fun f=>(f.offset,f.type)) l m=some r→
  (∀(j:Nat) v,vs[j]? =some v→xs[i+j]? =some v)→(∀(j:Nat) v,us[j]? =some v→ys[i+j]? =some v)→(Op.eqFields 9999 xs ys fields).run P w= .ok r w
 |[],i,[],[],_,_,r,_,_,_,e,_,_=>by
  simp only[Xs,Bg,WL]at e;subst e;simp[Op.eqFields]
 |f::fs,i,x::l,z::m,v::vs,u::us,r,hn,hx,hz,e,h1,h2=>by
  simp only[Xg,Bg]at e;split at e
  case isFalse=>cases e
  rename_i ho;have hv:=h1 0 v rfl;have hu:=h2 0 u rfl;simp only[XJ]at hv hu;have RO:=hn f (by simp);split at e
  case h_2=>cases e
  rename_i ti Cw;split at e
  case h_2=>cases e
  rename_i p hp;simp only[WM]at e;obtain⟨r',e',rfl⟩:=e;have TC:=Gq hT (fields:=fs) (i:=i+1) (l:=l) (m:=m) (vs:=vs) (us:=us) (r:=r') (fun f hf=>hn f (by simp[hf])) hx.2 hz.2 e'
   (fun j v' hj=>by have:=h1 (j+1) v' (by simpa using hj);rwa [show i+(j+1)=i+1+j by omega]at this)
   (fun j v' hj=>by have:=h2 (j+1) v' (by simpa using hj);rwa [show i+(j+1)=i+1+j by omega]at this)
  have HV:=(hT f.type ti Cw).Ot;obtain⟨q,na⟩:=LC (P:=P) hp hx.1 hz.1 (t:=f.type) HV 9998;have Hb:=An.isAgg hT Cw w;rw[na]at Hb;have p1:(part f.type xs f.offset).run P w= .ok v w:=by simp[part,Hb,ho,hv]
  have p2:(part f.type ys f.offset).run P w= .ok u w:=by simp[part,Hb,ho,hu]
  simp only[Op.eqFields,RO,ne_eq,not_false_eq_true,Xh,Sem.run_bind,p1,p2,Result.andThen_ok,q,TC,Sem.run_ite,Sem.run_pure];cases p<;>simp
 |[],_,_::_,_,_,_,_,_,_,_,e,_,_=>by simp[Bg]at e
 |[],_,[],_::_,_,_,_,_,_,_,e,_,_=>by simp[Bg]at e
 |_::_,_,[],_,_,_,_,_,_,_,e,_,_=>by simp[Bg]at e
 |_::_,_,x::_,[],_,_,_,_,_,_,e,_,_=>by simp[Bg]at e
 |_::_,_,_::_,_::_,[],_,_,_,hx,_,_,_,_=>hx.elim
 |_::_,_,_::_,_::_,_::_,[],_,_,_,hz,_,_,_=>hz.elim
theorem Jq(op:BinOp)(t:TypeId)(p q:Bool)(hu:P.underlying t=some .bool)(w:World):(op= .eql→(binOp op t (.bool p) (.bool q)).run P w= .ok (.bool (p==q)) w)∧
  (op= .neq→(binOp op t (.bool p) (.bool q)).run P w= .ok (.bool (!(p==q))) w):=by
 have h:=run_equalIn_bool' (P:=P) w 9999 t p q hu;constructor
 ·rintro rfl
  simp only[binOp,Op.equal,Op.maxDepth,Sem.run_bind,h,Result.andThen_ok,Sem.run_pure]
 ·rintro rfl
  simp only[binOp,Op.equal,Op.maxDepth,Sem.run_bind,h,Result.andThen_ok,Sem.run_pure]
theorem G5{T:Bb}(hT:An P T){t:Nat}{op:BinOp}{x z:XV}{k:AV→Option Y}{y:Y}(e:L0 T t op x z k=some y){E:Env}{w:World}{vw:List Bx}{v u:Value}
  (hx:XR E w vw x v) (hz:XR E w vw z u) (ox oz:Operand):
  ∃r val,k r=some y∧(do eqGuard op t ox oz v u;binOp op t v u:Sem Value).run P w= .ok val w∧VR E w vw r val:=by
 have guard:∀(v u:Value),(∀l,v≠ .agg l)→v≠ .nilIface→ ∀val,(binOp op t v u).run P w= .ok val w→(do eqGuard op t ox oz v u;binOp op t v u:Sem Value).run P w= .ok val w:=by
  intro v u h1 h2 val h;rw[Sem.run_bind,L6 op t ox oz v u h1 h2 w,Result.andThen_ok,h]
 unfold L0 at e;split at e
 ·rename_i j m j' n
  have hv:=Fb (E:=E) (vw:=vw) hx;have hu:=Fb (E:=E) (vw:=vw) hz;subst hv hu;have done:∀(q:∃r val,k r=some y∧(binOp op t (.int j m) (.int j' n)).run P w= .ok val w∧ ∀E vw,VR E w vw r val),∃r val,k r=some y∧(do eqGuard op t ox oz (.int j m) (.int j' n);binOp op t (.int j m) (.int j' n):Sem Value).run P w= .ok val w∧VR E w vw r val:=by
   rintro⟨r,val,h1,h2,h3⟩
   exact⟨r,val,h1,guard _ _ (by simp) (by simp) _ h2,h3 _ _⟩
  split at e
  ·exact done (Gm e t w)
  ·exact done (Gm e t w)
  ·split at e
   ·rename_i hj
    subst hj;exact done (MH e t w)
   ·cases e
 ·rename_i s s'
  have hv:=D_ (E:=E) (vw:=vw) hx;have hu:=D_ (E:=E) (vw:=vw) hz;subst hv hu;obtain⟨r,val,h1,h2,h3⟩:=MW (P:=P) e t w;exact⟨r,val,h1,guard _ _ (by simp) (by simp) _ h2,h3 _ _⟩
 ·rename_i p q
  have hv:=Cp (E:=E) (vw:=vw) hx;have hu:=Cp (E:=E) (vw:=vw) hz;subst hv hu;split at e
  ·rename_i ti Cw
   have HV:=(hT t ti Cw).Ot;split at e
   ·rename_i hd
    rw[hd]at HV;split at e
    ·exact⟨_,_,e,guard _ _ (by simp) (by simp) _ ((Jq _ t p q HV w).1 rfl),VR.bool _⟩
    ·exact⟨_,_,e,guard _ _ (by simp) (by simp) _ ((Jq _ t p q HV w).2 rfl),VR.bool _⟩
    ·cases e
   ·cases e
  ·cases e
 ·rename_i l m
  obtain⟨vs,rfl,ED⟩:=hx;obtain⟨us,rfl,hus⟩:=hz;have key:∀r,((T.fields t).bind fun fs=>Bg T 0 fs l m)=some r→(Op.equalIn 10000 t (.agg vs) (.agg us)).run P w= .ok r w∧P.eqGuardType P.depth t=false:=by
   intro r hr;simp only[WN]at hr;obtain⟨fs,hf,hr⟩:=hr;unfold Bb.fields at hf;split at hf
   ·rename_i Vx hd
    cases hf;simp only[WM]at hd;obtain⟨ti,Cw,hd⟩:=hd;have HV:=(hT t ti Cw).Ot;rw[hd]at HV;obtain⟨fields,hu,hfs,QS,OH,hg⟩:=HV;have RP:P.fieldsOf t=fields:=by simp[Program.fieldsOf,hu]
    have q:=run_equalIn_agg (P:=P) w 9999 t vs us (by rw[RP];exact hu) OH;rw[RP]at q;refine⟨q.trans ?_,hg⟩;subst hfs;exact Gq hT (fun f hf=>(QS f hf).1) ED hus hr (fun j v hj=>by simpa using hj) (fun j v hj=>by simpa using hj)
   ·cases hf
  split at e
  ·rename_i r hr
   obtain⟨q,hg⟩:=key r hr;refine⟨_,_,e,?_,VR.bool r⟩;rw[Sem.run_bind,run_eqGuard_agg (P:=P) w _ t ox oz vs us hg,Result.andThen_ok,run_eql_struct (P:=P) w t vs us,q];rfl
  ·rename_i r hr
   obtain⟨q,hg⟩:=key r hr;refine⟨_,_,e,?_,VR.bool (!r)⟩;rw[Sem.run_bind,run_eqGuard_agg (P:=P) w _ t ox oz vs us hg,Result.andThen_ok,run_neq_struct (P:=P) w t vs us,q];rfl
  ·cases e
 ·cases e
end
end Go.Fw
end
section
namespace Go.Fw
section
variable{Y:Type} {P:Program} {T:Bb} (hT:An P T) {E:Env} {w:World} {vw:List Bx}
include hT
theorem PY{t:Nat}{s b:Nat}{fs:List V8}{rw:Option Ty}(e:T.get t=some ⟨s,b,.st fs,rw⟩):∃fields,P.underlying t=some (.struct fields)∧fields.toList.map (fun f=>(f.offset,f.type))=fs∧
  ∀f∈fields.toList,∃i,P.info? f.type=some i∧i.size≠0:=by
 obtain⟨fields,h1,h2,h3,_⟩:=(hT t _ e).Ot;exact⟨fields,h1,h2,fun f hf=>(h3 f hf).2⟩
omit hT in
theorem JJ{a:Addr}{f:Field}(h:∃i,P.info? f.type=some i∧i.size≠0):(fieldPlace a f).run P w= .ok (a.add f.offset) w:=by
 obtain⟨i,h1,h2⟩:=h;simp[fieldPlace,Go.sizeOf,typeInfo,h1,h2]
theorem DV{t:Nat}{s b:Nat}{fs:List V8}{rw:Option Ty}(e:T.get t=some ⟨s,b,.st fs,rw⟩){f o u:Nat}(hf:fs[f]? =some (o,u)){a:Addr}:
  (Instr.fieldAt t (.pointer (some a)) f).run P w= .ok (.pointer (some (a.add o))) w:=by
 obtain⟨fields,h1,h2,h3⟩:=PY hT e;subst h2;simp only[Wl,WM]at hf;obtain⟨fld,Q8,he⟩:=hf;have hm:=WT Q8;have Si:fields[f]? =some fld:=by simpa using Q8
 simp only[Wn]at he;simp[Instr.fieldAt,AD h1,Si,Instr.sureAddr,JJ (h3 fld hm),he.1]
theorem Hg{t:Nat}{x z:XV}{f:Nat}(e:Li T t x f=some z){v:Value}(hx:XR E w vw x v):∃u,(Instr.fieldAt t v f).run P w= .ok u w∧XR E w vw z u:=by
 unfold Li at e;split at e
 case h_2=>cases e
 rename_i s b fs _ Cw;split at e
 case h_2=>cases e
 rename_i o u hf;split at e
 ·rename_i b' j
  cases e;obtain⟨h1,rfl⟩:=hx;exact⟨_,DV hT Cw hf,h1,by rw[Addr.add_eq]⟩
 ·rename_i b' p i sz j
  cases e;obtain⟨h0,h1⟩:=hx;cases v with
  |pointer oa=>
   cases oa with
   |none=>simp[Ff]at h0
   |some a=>
    obtain⟨ab,ao,sp⟩:=a;cases sp with
    |some _=>simp[Ff]at h0
    |none=>
     refine⟨_,DV hT Cw hf,by rw[Addr.add_eq];rfl,?_⟩;revert h1;split
     ·rintro⟨hp,q,ys,bb,o',len,cap,g1,g2,g3,g4⟩
      refine⟨hp,q,ys,bb,o',len,cap,g1,g2,g3,?_⟩;simp only[Value.pointer.injEq,WL,Addr.mk.injEq,W3]at g4;rw[Addr.add_eq,g4.1,g4.2,XQ]
     ·exact fun h=>h
     ·exact fun h=>h
  |_=>simp[Ff]at h0
 ·rename_i s r y j
  cases e;obtain⟨bb,o',cs,rfl,h2,h3,h4,h5⟩:=hx;refine⟨_,DV hT Cw hf,bb,o',cs,?_,h2,h3,h4,h5⟩;rw[Addr.add_eq,XQ]
 ·cases e
theorem IL{t:Nat}{x z:XV}{f:Nat}(e:PI T t x f=some z){v:Value}(hx:XR E w vw x v):∃u,(Instr.field t v f).run P w= .ok u w∧XR E w vw z u:=by
 unfold PI at e;split at e
 case h_2=>cases e
 rename_i s b fs _ l Cw;obtain⟨vs,rfl,ED⟩:=hx;split at e
 case h_2=>cases e
 rename_i o u hf;split at e
 case h_2=>cases e
 rename_i ti Tx;obtain⟨fields,h1,h2,h3⟩:=PY hT Cw;subst h2;simp only[Wl,WM]at hf;obtain⟨fld,Q8,he⟩:=hf;have Si:fields[f]? =some fld:=by simpa using Q8
 simp only[Wn]at he;obtain⟨rfl,rfl⟩:=he;have Hb:=An.isAgg hT Tx w;have CK:=An.sizeOf hT Tx w;split at e
 ·rename_i ha
  cases e;rw[ha]at Hb;refine⟨.agg (vs.extract fld.offset (fld.offset+ti.size)),?_,_,rfl,?_⟩
  ·simp[Instr.field,AD h1,Si,asAgg,part,Hb,CK]
  ·have:(vs.extract fld.offset (fld.offset+ti.size)).toList=(vs.toList.drop fld.offset).take ti.size:=by
    rw[Array.toList_extract,List.extract_eq_take_drop];simp
   rw[this];exact AF.take _ (AF.drop _ ED)
 ·rename_i ha
  simp only[Bool.not_eq_true]at ha;rw[ha]at Hb;simp only[WM]at e;obtain⟨y,hy,rfl⟩:=e;obtain⟨v,hv,hr⟩:=AF.get ED hy;refine⟨v,?_,hr⟩;have:vs[fld.offset]? =some v:=by simpa using hv
  simp[Instr.field,AD h1,Si,asAgg,part,Hb,this]
theorem CG{t:Nat}{r:Ty}(h:T.C7 t r=true):∃e ti,P.underlying t=some (.slice e)∧T.get e=some ti∧ti.size=r.n∧ti.bytes≤512∧ti.row=some r:=by
 unfold Bb.C7 at h;split at h
 ·rename_i ti Cw
  simp only[WY,Wo]at h;unfold Bb.elem at Cw;split at Cw
  ·rename_i e hd
   simp only[WM]at hd;obtain⟨tj,h1,h2⟩:=hd;have:=(hT t tj h1).Ot;rw[h2]at this;exact⟨e,ti,this,Cw,h.1.1,h.1.2,h.2⟩
  ·cases Cw
 ·cases h
theorem D9{t:Nat}(h:T.isStr t=true):P.underlying t=some .string:=by
 unfold Bb.isStr at h;split at h
 ·rename_i hd
  simp only[WM]at hd;obtain⟨tj,h1,h2⟩:=hd;have:=(hT t tj h1).Ot;rw[h2]at this;exact this
 ·cases h
theorem Hy{t:Nat}(h:T.Pq t=true):∃e,P.underlying t=some (.slice e):=by
 unfold Bb.Pq at h;split at h
 ·rename_i e hd
  simp only[WM]at hd;obtain⟨tj,h1,h2⟩:=hd;have:=(hT t tj h1).Ot;rw[h2]at this;exact⟨e,this⟩
 ·cases h
omit hT in
theorem BI{x:XV}{n:Int}(e:Fz x=some n){v:Value}(hx:XR E w vw x v):∃κ,v= .int κ n:=by
 unfold Fz at e;split at e
 ·cases e;exact⟨_,Fb (E:=E) (w:=w) (vw:=vw) hx⟩
 ·cases e
theorem F6{t:Nat}{r:Ty}(h:T.C7 t r=true){κ:IntKind}{i:Int}{a:Addr}{len cap:Nat}(h0:0≤i)(h1:i<(len:Int)):
  (Instr.indexAt t (.slice (some a) len cap) (.int κ i)).run P w= .ok (.pointer (some (a.add (i.toNat*r.n)))) w:=by
 obtain⟨e,ti,hu,Cw,hs,_⟩:=CG hT h;have CK:=An.sizeOf hT Cw w;simp[Instr.indexAt,asIntOf,AD hu,h0,h1,CK,hs]
omit hT in
theorem Mz{bx:List Bx}{Fs:List V6}(hB:B9 E w bx bx Fs)(st:∀c,E.S c→E.T c){x:AV}{v:Value}(hv:VR E w bx x v){q:Ty}{ys:List q.D}(e:B7 bx x=some ⟨q,ys⟩):
  ∃a cap,v= .slice a ys.length cap∧ys.length≤cap∧(ys.length=0∨ ∃b o,a=some ⟨b,o,none⟩):=by
 have:=E9 (Aj.refl bx) hB st hv e;simp only[Rd]at this;obtain⟨a,cap,h1,h2,h3⟩:=this;simp only[Wg,W3]at h1;exact⟨a,cap,h1,h2,h3.imp id fun⟨b,o,h,_⟩=>⟨b,o,h⟩⟩
theorem HZ{σ:St}{Fs:List V6}(hB:B9 E w σ.bx σ.bx Fs)(st:∀c,E.S c→E.T c){t:Nat}{x i:XV}{k:K Y}{y:Y}(e:Hu σ T t x i k=some y){v u:Value}
  (hx:XR E w σ.bx x v) (hi:XR E w σ.bx i u):∃z val,k z σ=some y∧(Instr.indexAt t v u).run P w= .ok val w∧XR E w σ.bx z val:=by
 unfold Hu at e;split at e
 ·rename_i s r rows n hn
  obtain⟨κ,rfl⟩:=BI hn hi;split at e
  case isFalse=>cases e
  rename_i HT;split at e
  case isFalse=>cases e
  rename_i hb;obtain⟨h0,h1⟩:=hb;simp only[XR,VR,Rd]at hx;obtain⟨a,cap,hv,hl,hx⟩:=hx;simp only[Wg,W3]at hv;subst hv;rcases hx with hx|⟨b,o,rfl,hb,hx⟩
  ·omega
  ·have CA:n.toNat<rows.length:=by omega
   obtain⟨cs,c1,c2,c3⟩:=hx n.toNat _ (Cf CA);refine⟨_,_,e,F6 hT HT h0 h1,b,o+n.toNat*r.n,cs,?_,by simpa using hb,c1,c2,by simpa using c3⟩;rw[Addr.add_eq];rfl
 ·rename_i b p n hn
  obtain⟨κ,rfl⟩:=BI hn hi;split at e
  case h_2=>cases e
  rename_i q hq;split at e
  case isFalse=>cases e
  rename_i HT;split at e
  case isFalse=>cases e
  rename_i hb;obtain⟨h0,h1⟩:=hb
  change VR E w σ.bx (.ref b p) v at hx
  obtain⟨a,cap,rfl,hl,ha⟩:=Mz hB st hx hq;rcases ha with ha|⟨b',o,rfl⟩
  ·omega
  ·refine⟨_,_,e,F6 hT HT h0 h1,by rw[Addr.add_eq];rfl,?_⟩
   simp only[B7]at hq;obtain⟨_,hx⟩:=hx;revert hx;split
   ·rename_i d r rows HH
    rw[HH]at hq;dsimp only at hq
    rintro⟨hp,hg,hh⟩
    exact⟨hp,q.1,q.2,b',o,_,cap,hq,by omega,hh,by rw[Addr.add_eq];rfl⟩
   ·rename_i HH
    intro _
    trivial
   ·exact fun h=>h
 ·rename_i b p off n' n hn
  obtain⟨κ,rfl⟩:=BI hn hi;split at e
  case h_2=>cases e
  rename_i q hq;split at e
  case isFalse=>cases e
  rename_i HT;split at e
  case isFalse=>cases e
  rename_i hb;obtain⟨h0,h1⟩:=hb;simp only[B7]at hq;obtain⟨h00,hx⟩:=hx;revert hx;split
  ·rename_i d r rows HH
   rw[HH]at hq;dsimp only at hq
   rintro⟨hp,q',ys,a,len,cap,g1,g2,g3,rfl⟩
   have Fa:=GR (Aj.refl _) hB st HH hp g1 g3;simp only[Rd]at Fa;obtain⟨a',cap',ee,hle,Fa⟩:=Fa;simp only[Wg,Value.slice.injEq,W3]at ee;obtain⟨rfl,rfl,rfl⟩:=ee;rcases Fa with Fa|⟨b',o,rfl,_,_⟩
   ·omega
   ·unfold C2
    rw[Wr (by omega)];have Sf:q.1=q':=by
     rw[g1]at hq;simp only[XX,WL]at hq;rw[←hq]
    refine⟨_,_,e,F6 hT HT h0 h1,by simp only[Option.map];rw[Addr.add_eq,Addr.add_eq];rfl,?_⟩;rw[HH];refine⟨hp,q',ys,b',o,_,cap,g1,by omega,g3,?_⟩;dsimp only;rw[Addr.add_eq,Addr.add_eq,Sf,XQ,←W8];rfl
  ·rename_i B HH RI
   exfalso
   cases B with
   |sl d r rows=>exact HH d r rows rfl
   |_=>rw[RI]at hq;simp at hq
  ·exact fun h=>h.elim
 ·cases e
theorem Fg{σ:St}{t:Nat}{x i:XV}{k:K Y}{y:Y}(e:Dw T t σ x i k=some y){v u:Value}(hx:XR E w vw x v)(hi:XR E w vw i u):
  ∃z val,k z σ=some y∧(Instr.index t v u).run P w= .ok val w∧XR E w vw z val:=by
 unfold Dw at e;split at e
 ·rename_i s n hn
  obtain⟨κ,rfl⟩:=BI hn hi;have hv:=D_ (E:=E) (w:=w) (vw:=vw) hx;subst hv;split at e
  case isFalse=>cases e
  rename_i OH;split at e
  case isFalse=>cases e
  rename_i hb;obtain⟨h0,h1⟩:=hb;refine⟨_,.int .u8 ((s.getD n.toNat 0).toNat:Int),e,?_,VR.int (E:=E) (vw:=vw) _ _⟩;have CA:n.toNat<s.length:=by omega
  have:(⟨s.toArray⟩:ByteArray)[n.toNat]? =some s[n.toNat]:=by
   rw[getElem?_pos _ _ (by simpa[ByteArray.size]using CA)];rfl
  simp[Instr.index,asIntOf,AD (D9 hT OH),h0,this,CA]
 ·cases e
omit hT in
theorem GS{x z:XV}{i:Nat}(e:J4 x i=some z){v:Value}(hx:XR E w vw x v):∃u,(Instr.extract v i).run P w= .ok u w∧XR E w vw z u:=by
 unfold J4 at e;split at e
 case h_2=>cases e
 rename_i l;obtain⟨vs,rfl,ED⟩:=hx;split at e
 ·rename_i x hx
  cases e;obtain⟨v,hv,hr⟩:=ED.get hx;have:vs[i]? =some v:=by simpa using hv
  exact⟨v,by simp[Instr.extract,this],hr⟩
 ·rename_i q hx
  cases e;obtain⟨v,hv,ws,rfl,hr⟩:=ED.get hx;have:vs[i]? =some (.agg ws):=by simpa using hv
  exact⟨.agg ws,by simp[Instr.extract,this],ws,rfl,hr⟩
 ·cases e
omit hT in
theorem IK{bx:List Bx}{Fs:List V6}(hB:B9 E w bx bx Fs)(st:∀c,E.S c→E.T c){x:AV}{n:Nat}(e:lenOf bx x=some n){v:Value}(hx:VR E w bx x v):
  ∃a cap,v= .slice a n cap:=by
 cases x with
 |nil=>simp only[lenOf,WL]at e;subst e;exact⟨_,_,hx⟩
 |sl s r x=>
  simp only[lenOf,WL]at e;subst e;simp only[VR,Rd]at hx;obtain⟨a,cap,h,_⟩:=hx;simp only[Wg,W3]at h;exact⟨a,cap,h⟩
 |ref b p=>
  simp only[lenOf]at e;split at e
  ·rename_i d r rows hb
   simp only[WM]at e;obtain⟨q,hq,rfl⟩:=e;obtain⟨a,cap,h,_⟩:=Mz hB st hx (q:=q.1) (ys:=q.2) (by simp only[B7,hb];exact hq);exact⟨a,cap,h⟩
  ·cases e
 |win b p off m=>
  simp only[lenOf]at e;split at e
  ·rename_i d r rows hb
   cases e;simp only[VR,hb]at hx;obtain⟨_,_,q,ys,a,len,cap,_,_,_,rfl⟩:=hx;exact⟨_,_,rfl⟩
  ·cases e
 |_=>simp[lenOf]at e
omit hT in
theorem DG{big:Bool}{x z:XV}{k:AV→Option Y}{y:Y}(e:LK big x z k=some y){v u:Value}(hx:XR E w vw x v)(hz:XR E w vw z u)(t s:Array TypeId)(tt:TypeId):
  ∃r val,k r=some y∧(if big then Builtin.max_ t tt #[v,u]else Builtin.min_ t tt #[v,u]).run P w= .ok val w∧VR E w vw r val:=by
 unfold LK at e;split at e
 ·rename_i j m j' n
  have hv:=Fb (E:=E) (w:=w) (vw:=vw) hx;have hu:=Fb (E:=E) (w:=w) (vw:=vw) hz;subst hv hu;split at e
  case isFalse=>cases e
  rename_i hj;subst hj;cases big with
  |true=>exact⟨_,.int j (if n>m then n else m),e,by simp[Builtin.max_,Builtin.max2],VR.int _ _⟩
  |false=>exact⟨_,.int j (if n<m then n else m),e,by simp[Builtin.min_,Builtin.min2],VR.int _ _⟩
 ·cases e
omit hT in
theorem Hv{op:UnOp}{x:XV}{k:AV→Option Y}{y:Y}(e:QB op x k=some y){v:Value}(hx:XR E w vw x v):
  ∃r val,k r=some y∧(Op.unary op v).run P w= .ok val w∧VR E w vw r val:=by
 unfold QB at e;split at e
 ·have hv:=Cp (E:=E) (w:=w) (vw:=vw) hx
  subst hv;exact⟨_,_,e,by simp[Op.unary],VR.bool _⟩
 ·rename_i j n
  have hv:=Fb (E:=E) (w:=w) (vw:=vw) hx;subst hv;exact⟨_,.int j (j.wrap (0-n)),e,by simp[Op.unary,Op.intArith],VR.int _ _⟩
 ·cases e
end
end Go.Fw
end
section
namespace Go.Fw
theorem Ci{a:Ty}(x:a.D):JI rfl x=x:=rfl
theorem GX{w:World}{S:Nat→Prop}:∀{r:Ty} {d j:Nat} {cs:List Value} {x:r.D} {F:V6} {t:Ty} {y:t.D},Ow w S d r cs x F→AB r j x=some ⟨t,y⟩→
  ∃v F1 F2,cs[j]? =some v∧Ow w S d t [v] y F1∧F.Perm (F1++F2)∧
   ∀(w':World) (S':Nat→Prop) (v':Value) (y':t.D) (IQ:V6) (x':r.D),(∀b,S b→S' b)→(∀b,S b→w'.heap[b]? =w.heap[b]?)→(∀b∈F2,w'.heap[b]? =w.heap[b]?)→
    Ow w' S' d t [v'] y' IQ→AX r j x t y' =some x'→ ∃F',F'.Perm (IQ++F2)∧Ow w' S' d r (cs.set j v') x' F'
 | .cons c r,d,0,cs,x,F,t,y,h,e=>by
  simp only[Ow]at h;obtain⟨v,l,A,B,rfl,rfl,h1,h2⟩:=h;simp only[AB,WL,WU]at e;obtain⟨rfl,e⟩:=e;obtain rfl:=Wi e;refine⟨v,A,B,rfl,h1,Xu _,fun w' S' v' y' IQ x' hS KJ hF ho hx=> ?_⟩;simp only[AX,Xo,Ci,WL]at hx;subst hx;refine⟨IQ++B,Xu _,?_⟩;simp only[Ow,List.set_cons_zero];exact⟨v',l,IQ,B,rfl,rfl,ho,Ae hS KJ hF h2⟩
 | .cons c r,d,j+1,cs,x,F,t,y,h,e=>by
  simp only[Ow]at h;obtain⟨v,l,A,B,rfl,rfl,h1,h2⟩:=h;simp only[AB]at e;obtain⟨u,F1,F2,k1,k2,k3,k4⟩:=GX h2 e;refine⟨u,F1,A++F2,by simpa using k1,k2,?_,fun w' S' v' y' IQ x' hS KJ hF ho hx=> ?_⟩
  ·refine(We A k3).trans ?_
   rw[←WR,←WR];exact WX _ Wf
  ·simp only[AX,WM]at hx
   obtain⟨z,hz,rfl⟩:=hx;obtain⟨F',p1,p2⟩:=k4 w' S' v' y' IQ z hS KJ (fun b hb=>hF b (by simp[hb])) ho hz;refine⟨A++F',?_,?_⟩
   ·refine(We A p1).trans ?_
    rw[←WR,←WR];exact WX _ Wf
   ·simp only[Ow,List.set_cons_succ]
    exact⟨v,_,A,F',rfl,rfl,Ae hS KJ (fun b hb=>hF b (by simp[hb])) h1,p2⟩
 | .int k,d,0,cs,x,F,t,y,h,e=>by
  simp only[AB,WL,WU]at e;obtain⟨rfl,e⟩:=e;obtain rfl:=Wi e;have hc:=EJ h;obtain⟨v,rfl⟩:∃v,cs=[v]:=by
   cases cs with
   |nil=>simp[Ty.n]at hc
   |cons a l=>cases l with
    |nil=>exact⟨a,rfl⟩
    |cons _ _=>simp[Ty.n]at hc
  refine⟨v,F,[],rfl,h,by simp,fun w' S' v' y' IQ x' hS KJ hF ho hx=>⟨IQ,by simp,?_⟩⟩;simp only[AX,Xo,Ci,WL]at hx;subst hx;exact ho
 | .bool,d,0,cs,x,F,t,y,h,e=>by
  simp only[AB,WL,WU]at e;obtain⟨rfl,e⟩:=e;obtain rfl:=Wi e;have hc:=EJ h;obtain⟨v,rfl⟩:∃v,cs=[v]:=by
   cases cs with
   |nil=>simp[Ty.n]at hc
   |cons a l=>cases l with
    |nil=>exact⟨a,rfl⟩
    |cons _ _=>simp[Ty.n]at hc
  refine⟨v,F,[],rfl,h,by simp,fun w' S' v' y' IQ x' hS KJ hF ho hx=>⟨IQ,by simp,?_⟩⟩;simp only[AX,Xo,Ci,WL]at hx;subst hx;exact ho
 | .str,d,0,cs,x,F,t,y,h,e=>by
  simp only[AB,WL,WU]at e;obtain⟨rfl,e⟩:=e;obtain rfl:=Wi e;have hc:=EJ h;obtain⟨v,rfl⟩:∃v,cs=[v]:=by
   cases cs with
   |nil=>simp[Ty.n]at hc
   |cons a l=>cases l with
    |nil=>exact⟨a,rfl⟩
    |cons _ _=>simp[Ty.n]at hc
  refine⟨v,F,[],rfl,h,by simp,fun w' S' v' y' IQ x' hS KJ hF ho hx=>⟨IQ,by simp,?_⟩⟩;simp only[AX,Xo,Ci,WL]at hx;subst hx;exact ho
 | .sl r,d,0,cs,x,F,t,y,h,e=>by
  simp only[AB,WL,WU]at e;obtain⟨rfl,e⟩:=e;obtain rfl:=Wi e;have hc:=EJ h;obtain⟨v,rfl⟩:∃v,cs=[v]:=by
   cases cs with
   |nil=>simp[Ty.n]at hc
   |cons a l=>cases l with
    |nil=>exact⟨a,rfl⟩
    |cons _ _=>simp[Ty.n]at hc
  refine⟨v,F,[],rfl,h,by simp,fun w' S' v' y' IQ x' hS KJ hF ho hx=>⟨IQ,by simp,?_⟩⟩;simp only[AX,Xo,Ci,WL]at hx;subst hx;exact ho
 | .unit,_,_,_,_,_,_,_,_,e=>by simp[AB]at e
 | .int _,_,_+1,_,_,_,_,_,_,e=>by simp[AB]at e
 | .bool,_,_+1,_,_,_,_,_,_,e=>by simp[AB]at e
 | .str,_,_+1,_,_,_,_,_,_,e=>by simp[AB]at e
 | .sl _,_,_+1,_,_,_,_,_,_,e=>by simp[AB]at e
theorem H8{Fs:List V6}{i:Nat}{G G':V6}(h:Fs[i]? =some G):(Fs.set i G').flatten.Perm (G'++(Fs.set i []).flatten):=by
 have CA:=(WJ.1 h).1;have p1:=DS (Fs:=Fs.set i G') (b:=i) (F:=G') (WV (by omega));rw[Xr]at p1;exact p1
theorem Lb{w:World}{S:Nat→Prop}{d:Nat}{q:Ty}{a:Option Addr}{len cap:Nat}{ys:List q.D}{F:V6}(h:Ow w S (d+1) (.sl q) [.slice a len cap] ys F){i:Nat}(hi:i<ys.length):
  ∃b o arr ty fr cs G R,a=some ⟨b,o,none⟩∧w.heap[b]? =some (.cells arr ty fr)∧Mt fr arr.size∧o+i*q.n+q.n≤arr.size∧cs.length=q.n∧AG w b (o+i*q.n) cs∧
   Ow w S d q cs (rowAt q ys i) G∧F.Perm (G++(b::R))∧
   ∀(w':World) (S':Nat→Prop) (B8:Array Value) (Fl:List Value) (E8:q.D) (G':V6),(∀c,S c→S' c)→(∀c,S c→w'.heap[c]? =w.heap[c]?)→(∀c∈R,w'.heap[c]? =w.heap[c]?)→
    w'.heap[b]? =some (.cells B8 ty fr)→B8.size=arr.size→(∀k,(k<o+i*q.n∨o+i*q.n+q.n≤k)→B8[k]? =arr[k]?)→Fl.length=q.n→AG w' b (o+i*q.n) Fl→
    Ow w' S' d q Fl E8 G'→ ∃F',F'.Perm (G'++(b::R))∧Ow w' S' (d+1) (.sl q) [.slice a len cap] (ys.set i E8) F':=by
 simp only[Ow]at h;obtain⟨a',cap',e,hle,h⟩:=h;simp only[Wg,Value.slice.injEq,W3]at e;obtain⟨rfl,rfl,rfl⟩:=e;rcases h with⟨h1,_⟩|⟨b,o,arr,ty,fr,Fs,rfl,hb,CK,hu,rfl,hFl,Fp⟩
 ·omega
 ·have hG:Fs[i]? =some (Fs[i]'(by omega)):=WK _
  generalize Fs[i]'(by omega)=G at hG
  obtain⟨cs,c1,c2,c3⟩:=Fp i _ G (Cf hi) hG;have hbound:o+i*q.n+q.n≤arr.size:=by
   have:(i+1)*q.n≤cap*q.n:=Wz _ (by omega);rw[W8,Xj]at this;omega
  refine⟨b,o,arr,ty,fr,cs,G,(Fs.set i []).flatten,rfl,hb,fun i hi=>hu i (by omega),hbound,c1,c2,c3,?_,?_⟩
  ·refine(List.Perm.cons b (DS hG)).trans ?_
   exact List.perm_middle.symm
  ·intro w' S' B8 Fl E8 G' hS KJ hR Pz Qk hk Nb RF ho
   refine⟨b::(Fs.set i G').flatten,?_,?_⟩
   ·refine(List.Perm.cons b (H8 hG)).trans ?_
    exact List.perm_middle.symm
   ·simp only[Ow]
    refine⟨_,cap,by simp,by simpa using hle,.inr ⟨b,o,B8,ty,fr,Fs.set i G',rfl,Pz,by omega,by rw[Qk];exact hu,rfl,by simpa using hFl,fun k y H hy hH=> ?_⟩⟩;by_cases e:k=i
    ·subst e
     rw[WV hi]at hy;rw[WV (by omega)]at hH;cases hy;cases hH;exact⟨Fl,Nb,RF,ho⟩
    ·rw[WQ (by omega)]at hy
     rw[WQ (by omega)]at hH;obtain⟨ds,d1,d2,d3⟩:=Fp k y H hy hH;refine⟨ds,d1,fun j v hj=> ?_,Ae hS KJ (fun c hc=>hR c (Wh.2 ⟨H,WT (by rw[WQ (by omega)];exact hH:(Fs.set i [])[k]? =some H),hc⟩)) d3⟩;have ON:=(WJ.1 hj).1;have hold:=d2 j v hj;simp only[World.cell?,hb,XI,W0,XS]at hold;simp only[World.cell?,Pz,XI,W0,XS];rw[hk,hold];rcases Nat.lt_or_gt_of_ne e with e|e
     ·left
      have:(k+1)*q.n≤i*q.n:=Wz _ e;rw[W8,Xj]at this;omega
     ·right
      have:(i+1)*q.n≤k*q.n:=Wz _ e;rw[W8,Xj]at this;omega
theorem KD{w:World}{S:Nat→Prop}:∀{p:List Ie} {d:Nat} {r:Ty} {h:Value} {rows:List r.D} {F:V6} {q:Ty} {ys:List q.D},Ow w S d (.sl r) [h] rows F→AM r rows p→
  Ay r rows p=some ⟨q,ys⟩→p.length<d→ ∃h' F1 F2,BU w h p=some h'∧Ow w S (d-p.length) (.sl q) [h'] ys F1∧F.Perm (F1++F2)∧
   ∀(w':World) (S':Nat→Prop) (JC:List q.D) (IQ:V6) (rows':List r.D),(∀c,S c→S' c)→(∀c,S c→w'.heap[c]? =w.heap[c]?)→(∀c∈F2,w'.heap[c]? =w.heap[c]?)→
    Ow w' S' (d-p.length) (.sl q) [h'] JC IQ→JW r rows p q JC=some rows'→ ∃F',F'.Perm (IQ++F2)∧Ow w' S' d (.sl r) [h] rows' F'
 |[],d,r,h,rows,F,q,ys,ho,_,hg,_=>by
  simp only[Ay,WL,WU]at hg;obtain⟨rfl,e⟩:=hg;obtain rfl:=Wi e;refine⟨h,F,[],AJ,ho,by simp,fun w' S' JC IQ rows' _ _ _ N1 hs=>⟨IQ,by simp,?_⟩⟩;simp only[JW,Xo,Ci,WL]at hs;subst hs;exact N1
 |s::p,d,r,h,rows,F,q,ys,ho,hp,hg,hd=>by
  obtain⟨d,rfl⟩:∃n,d=n+1:=⟨d-1,by simp at hd;omega⟩;simp only[AM]at hp;obtain⟨hi,CK,hp⟩:=hp;simp only[Ay]at hg;obtain⟨a,len,cap,rfl⟩:∃a len cap,h= .slice a len cap:=by
   have:=ho;simp only[Ow]at this;obtain⟨a,cap,e,_⟩:=this;simp only[Wg,W3]at e;exact⟨_,_,_,e⟩
  split at hg
  case h_2=>cases hg
  rename_i q' x' Fu;rw[Fu]at hp;obtain⟨b,o,arr,ty,fr,cs,G,R,rfl,hb,hu,hbd,c1,c2,c3,IZ,hback⟩:=Lb ho hi;obtain⟨v,A1,A2,k1,k2,k3,k4⟩:=GX c3 Fu;obtain⟨h',F1,F2,m1,m2,m3,m4⟩:=KD k2 hp hg (by simp at hd;omega);have O3:d+1-(s::p).length=d-p.length:=by simp
  refine⟨h',F1,F2++A2++(b::R),?_,by rw[O3];exact m2,?_,?_⟩
  ·simp only[BU]
   rw[CK,c2 _ _ k1];exact m1
  ·refine IZ.trans ?_
   rw[WR F2,←WR F1];refine(WX _ k3).trans ?_
   rw[←WR (F1++F2)];exact WX _ (WX _ m3)
  ·intro w' S' JC IQ rows' hS KJ Sd N1 Ft
   rw[O3]at N1;simp only[JW,Fu]at Ft;simp only[WN,WM]at Ft;obtain⟨x2,hx2,E8,hrow,rfl⟩:=Ft;obtain⟨B1,p1,p2⟩:=m4 w' S' JC IQ x2 hS KJ (fun c hc=>Sd c (by simp[hc])) N1 hx2;obtain⟨B2,p3,p4⟩:=k4 w' S' v x2 B1 E8 hS KJ (fun c hc=>Sd c (by simp[hc])) p2 hrow;have P2:cs.set s.j v=cs:=by
    apply XL;intro k;by_cases e:k=s.j
    ·subst e
     rw[WV (WJ.1 k1).1,k1]
    ·rw[WQ (by omega)]
   rw[P2]at p4;have Pv:=Sd b (by simp);obtain⟨F',p5,p6⟩:=hback w' S' arr cs E8 B2 hS KJ (fun c hc=>Sd c (by simp[hc])) (Pv.trans hb) rfl (fun _ _=>rfl) c1 (c2.of_block Pv) p4;refine⟨F',?_,p6⟩;refine p5.trans ?_
   rw[WR F2,←WR IQ];refine(WX _ p3).trans ?_
   rw[←WR (IQ++F2)];exact WX _ (WX _ p1)
end Go.Fw
end
section
namespace Go.Fw
def OR(E:Env)(w:World)(vw:List Bx):Option XV→Option Value→Prop
 |none,none=>True
 |some x,some v=>XR E w vw x v
 |_,_=>False
section
variable{Y:Type} {P:Program} {T:Bb} (hT:An P T) {E:Env} {w:World} {vw:List Bx}
theorem run_sliceBound{κ:IntKind}{i:Int}{y:Nat}{code:BoundsCode}(h0:0≤i)(h1:i≤(y:Int)):(Instr.sliceBound (.int κ i) y code).run P w= .ok i.toNat w:=by
 simp[Instr.sliceBound,asIntOf,h0,h1]
theorem DK{len cap:Nat}(hc:len≤cap){lo hi:Option XV}{k:Nat→Nat→Option Y}{y:Y}(e:CL len lo hi k=some y){lv hv:Option Value}
  (hl:OR E w vw lo lv) (hh:OR E w vw hi hv) (b:Bool):∃l h,k l h=some y∧l≤h∧h≤len∧(Instr.sliceBounds b len cap lv hv none).run P w= .ok (l,h,cap) w:=by
 unfold CL at e;dsimp only at e;split at e
 case h_2=>cases e
 rename_i l h el eh;split at e
 case isFalse=>cases e
 rename_i hb;obtain⟨b1,b2,b3⟩:=hb;refine⟨l.toNat,h.toNat,e,by omega,by omega,?_⟩;cases hi with
 |none=>cases hv with
  |some _=>exact hh.elim
  |none=>
   simp only[WL]at eh;subst eh;cases lo with
   |none=>cases lv with
    |some _=>exact hl.elim
    |none=>
     simp only[WL]at el;subst el;simp[Instr.sliceBounds]
   |some x=>cases lv with
    |none=>exact hl.elim
    |some v=>
     obtain⟨κ,rfl⟩:=BI (E:=E) (w:=w) (vw:=vw) el hl;simp[Instr.sliceBounds,run_sliceBound (P:=P) (w:=w) (κ:=κ) (i:=l) (y:=len) b1 (by omega)]
 |some x=>cases hv with
  |none=>exact hh.elim
  |some v=>
   obtain⟨κ,rfl⟩:=BI (E:=E) (w:=w) (vw:=vw) eh hh;have e1:=fun code=>run_sliceBound (P:=P) (w:=w) (κ:=κ) (i:=h) (y:=cap) (code:=code) (by omega) (by omega)
   cases lo with
   |none=>cases lv with
    |some _=>exact hl.elim
    |none=>
     simp only[WL]at el;subst el;simp[Instr.sliceBounds,e1]
   |some x=>cases lv with
    |none=>exact hl.elim
    |some v=>
     obtain⟨κ',rfl⟩:=BI (E:=E) (w:=w) (vw:=vw) el hl;have e2:=fun code=>run_sliceBound (P:=P) (w:=w) (κ:=κ') (i:=l) (y:=h.toNat) (code:=code) b1 (by omega)
     simp[Instr.sliceBounds,e1,e2]
theorem KV(s:V7)(l h:Nat):(⟨s.toArray⟩:ByteArray).extract l h=⟨((s.drop l).take (h-l)).toArray⟩:=by
 apply ByteArray.ext;simp[List.extract_eq_take_drop]
include hT
theorem Ha{σ:St}{Fs:List V6}(hB:B9 E w σ.bx σ.bx Fs)(st:∀c,E.S c→E.T c){t:Nat}{x:XV}{lo hi:Option XV}{k:K Y}{y:Y}(e:H6 T t σ x lo hi k=some y)
  {v:Value} {lv hv:Option Value} (hx:XR E w σ.bx x v) (hl:OR E w σ.bx lo lv) (hh:OR E w σ.bx hi hv):
  ∃z val,k z σ=some y∧(Instr.sliceAt t v lv hv none).run P w= .ok val w∧XR E w σ.bx z val:=by
 unfold H6 at e;split at e
 ·rename_i s
  split at e
  case isFalse=>cases e
  rename_i OH;have hu:=D9 hT OH;have Fi:=D_ (E:=E) (w:=w) (vw:=σ.bx) hx;subst Fi;obtain⟨l,h,ek,h1,h2,hr⟩:=DK (P:=P) (cap:=s.length) (Wu _) e hl hh false;refine⟨_,.string ⟨((s.drop l).take (h-l)).toArray⟩,ek,?_,VR.str (E:=E) (vw:=σ.bx) _⟩;have hs:(⟨s.toArray⟩:ByteArray).size=s.length:=by simp[ByteArray.size]
  simp[Instr.sliceAt,AD hu,Instr.slice,hs,hr,KV]
 ·rename_i s r rows
  split at e
  case isFalse=>cases e
  rename_i HT;obtain⟨el,ti,hu,Cw,hs,_⟩:=CG hT HT;have CK:=An.sizeOf hT Cw w
  change VR E w σ.bx (.sl s r rows) v at hx
  have OQ:=hx;simp only[VR,Rd]at OQ;obtain⟨a,cap,Fi,hle,_⟩:=OQ;simp only[Wg,W3]at Fi;subst Fi;obtain⟨l,h,ek,h1,h2,hr⟩:=DK (P:=P) hle e hl hh true;refine⟨_,C2 r.n l (h-l) a cap,ek,?_,?_⟩
  ·simp[Instr.sliceAt,AD hu,Instr.slice,hr,CK,hs,C2]
  ·simp only[XR,VR]at hx⊢
   exact Mg hx (by omega)
 ·rename_i b p
  split at e
  case h_2=>cases e
  rename_i q hq;split at e
  case isFalse=>cases e
  rename_i HT;obtain⟨el,ti,hu,Cw,hs,_⟩:=CG hT HT;have CK:=An.sizeOf hT Cw w
  change VR E w σ.bx (.ref b p) v at hx
  obtain⟨a,cap,rfl,hle,_⟩:=Mz hB st hx hq;obtain⟨l,h,ek,h1,h2,hr⟩:=DK (P:=P) hle e hl hh true;refine⟨_,C2 q.1.n l (h-l) a cap,ek,?_,?_⟩
  ·simp[Instr.sliceAt,AD hu,Instr.slice,hr,CK,hs,C2]
  ·simp only[B7]at hq
   obtain⟨_,hx⟩:=hx;refine⟨by simp[C2,isSlice],?_⟩;revert hx;split
   ·rename_i d r rows HH
    rw[HH]at hq;dsimp only at hq
    rintro⟨hp,hg,hh⟩
    exact⟨hp,q.1,q.2,a,_,cap,hq,by omega,hh,rfl⟩
   ·exact fun _=>trivial
   ·exact fun h=>h
 ·cases e
omit hT in
theorem FK{f:Nat→Option AV}:∀{n j:Nat} {l:List AV},GQ f j n=some l→l.length=n∧ ∀(i:Nat) x,l[i]? =some x→f (j+i)=some x
 |0,j,l,e=>by simp only[GQ,WL]at e;subst e;simp
 |n+1,j,l,e=>by
  simp only[GQ,WN,WM]at e;obtain⟨x,hx,l',hl,rfl⟩:=e;obtain⟨h1,h2⟩:=FK hl;refine⟨by simp[h1],fun i z hz=> ?_⟩;cases i with
  |zero=>simp at hz;subst hz;exact hx
  |succ i=>
   have:=h2 i z (by simpa using hz)
   rwa [show j+1+i=j+(i+1)by omega]at this
omit hT in
theorem Dx{B:Nat→Prop}{t:Ty}{x:t.D}{v:Value}(h:Rd w B t [v] x)(hs:t.scalar=true):VR E w vw (.v t x) v:=by
 refine⟨hs,?_⟩;cases t<;>first
  |(simpa only[Rd]using h)
  |(simp[Ty.scalar]at hs)
omit hT in
theorem Nr{s:Bool}{t:Ty}{x:t.D}{v:Value}(h:Rd w (if s then E.S else E.T) t [v] x):VR E w vw (Mm s ⟨t,x⟩) v:=by
 cases t with
 |sl r=>simp only[Mm,VR];exact h
 |int k=>exact Dx h rfl
 |bool=>exact Dx h rfl
 |str=>exact Dx h rfl
 |unit=>trivial
 |cons c r=>trivial
omit hT in
theorem IX{s:Ie}:∀{p:List Ie} {r:Ty} {rows:List r.D} {q:Ty} {ys:List q.D} {t:Ty} {x:List t.D},AM r rows p→Ay r rows p=some ⟨q,ys⟩→s.i<ys.length→s.sz=q.n→
  AB q s.j (rowAt q ys s.i)=some ⟨.sl t,x⟩→AM r rows (p++[s])∧Ay r rows (p++[s])=some ⟨t,x⟩
 |[],r,rows,q,ys,t,x,_,hg,hi,hs,hc=>by
  simp only[Ay,WL,WU]at hg;obtain⟨rfl,e⟩:=hg;obtain rfl:=Wi e;refine⟨?_,?_⟩
  ·simp only[Xf,AM,hc]
   exact⟨hi,hs,trivial⟩
  ·simp only[Xf,Ay,hc]
 |s'::p,r,rows,q,ys,t,x,hp,hg,hi,hs,hc=>by
  simp only[AM]at hp;obtain⟨h1,h2,hp⟩:=hp;simp only[Ay]at hg;split at hg
  ·rename_i q' x' Fu
   rw[Fu]at hp;obtain⟨a,b⟩:=IX hp hg hi hs hc;refine⟨?_,?_⟩
   ·simp only[XG,AM,Fu]
    exact⟨h1,h2,a⟩
   ·simp only[XG,Ay,Fu]
    exact b
  ·cases hg
omit hT in
theorem Js{s:Ie}:∀{p:List Ie} {h:Value} {b o len cap:Nat} {v:Value},BU w h p=some (.slice (some ⟨b,o,none⟩) len cap)→w.cell? ⟨b,o+s.i*s.sz+s.j,none⟩=some v→
  BU w h (p++[s])=some v
 |[],h,b,o,len,cap,v,e,hc=>by
  rw[AJ]at e;cases e;simp[BU,hc,AJ]
 |s'::p,h,b,o,len,cap,v,e,hc=>by
  cases h with
  |slice a l c=>
   cases a with
   |none=>simp[BU]at e
   |some a=>
    simp only[BU]at e;split at e
    ·rename_i h' hh
     simp only[XG,BU,hh];exact Js e hc
    ·cases e
  |_=>simp[BU]at e
omit hT in
theorem Bn{bx:List Bx}{Fs:List V6}(hB:B9 E w bx bx Fs)(st:∀c,E.S c→E.T c){x z:AV}{i:Nat}(e:BS bx x i=some z){v:Value}(hx:VR E w bx x v):
  ∃b o u,v= .pointer (some ⟨b,o,none⟩)∧w.cell? ⟨b,o+i,none⟩=some u∧VR E w bx z u:=by
 cases x with
 |BA b j=>
  simp only[BS]at e;split at e
  ·rename_i cs hb
   obtain⟨F,⟨_,arr,ty,fr,ha,hu,hv⟩,_⟩:=hB.get hb;obtain⟨u,h1,h2⟩:=AF.get hv e;refine⟨_,_,u,hx.2,?_,h2⟩;simp only[World.cell?,ha,XI,W0,XS];simpa using h1
  ·cases e
 |BT b p r sz j=>
  simp only[BS]at e;split at e
  ·rename_i d q rows hb
   split at e
   case isFalse=>cases e
   rename_i hd;simp only[WN]at e;obtain⟨⟨q',JC⟩,hg,e⟩:=e;split at e
   case isFalse=>cases e
   rename_i CK;simp only[WM]at e;obtain⟨⟨t,y⟩,hc,rfl⟩:=e;simp only[VR,hb]at hx;obtain⟨_,hp,q1,ys,bb,o,len,cap,g1,g2,g3,rfl⟩:=hx;rw[hg]at g1;simp only[WL,WU]at g1;obtain⟨rfl,g1⟩:=g1;obtain rfl:=Wi g1;dsimp only at CK hc;obtain⟨F,⟨hd1,ho⟩,hF⟩:=hB.get hb;have Fa:=GR (Aj.refl bx) hB st hb hp hg g3;have U5:=Fa;simp only[Rd]at Fa;obtain⟨a',cap',ee,hle,Fa⟩:=Fa;simp only[Wg,Value.slice.injEq,W3]at ee;obtain⟨rfl,rfl,rfl⟩:=ee;rcases Fa with Fa|⟨b1,o1,e7,_,Fa⟩
   ·omega
   ·cases e7
    obtain⟨cs,c1,c2,c3⟩:=Fa r _ (Cf g2);obtain⟨u,hu,hur⟩:=GY c3 hc;have EP:=c2 _ _ hu;rw[←CK]at EP;refine⟨_,_,u,rfl,by rw[XQ];exact EP,?_⟩;cases t with
    |sl t' =>
     simp only[NM];split
     ·rename_i Vz
      obtain⟨h',F1,F2,m1,m2,_,_⟩:=KD ho hp hg hd;rw[g3]at m1;cases m1;rw[show d-p.length=0+1 by omega]at m2;obtain⟨b2,o2,arr,ty,fr,cs2,G,R,e2,_,_,_,_,k2,k3,_,_⟩:=Lb m2 g2;cases e2;obtain⟨v2,A1,A2,z1,z2,_,_⟩:=GX k3 hc;have Om:=k2 _ _ z1;rw[←CK,EP]at Om;cases Om;simp only[Ow]at z2;simp only[VR];exact z2.1
     ·simp only[VR,hb]
      have:=IX (s:=⟨r,sz,j+i⟩) hp hg g2 CK hc;simp only[Rd]at hur;obtain⟨a2,cap2,e2,_⟩:=hur;simp only[Wg,W3]at e2;refine⟨by rw[e2];rfl,this.1,⟨_,this.2⟩,Js g3 EP⟩
    |int k=>exact Dx hur rfl
    |bool=>exact Dx hur rfl
    |str=>exact Dx hur rfl
    |unit=>trivial
    |cons c r=>trivial
  ·cases e
 |CH s r y j=>
  simp only[BS,WM]at e;obtain⟨⟨t,y'⟩,hc,rfl⟩:=e;obtain⟨bb,o,cs,rfl,h2,h3,h4,h5⟩:=hx;obtain⟨u,hu,hur⟩:=GY h5 hc;refine⟨_,_,u,rfl,by rw[XQ];exact h4 _ _ hu,Nr hur⟩
 |_=>simp[BS]at e
omit hT in
theorem GF{bx:List Bx}{Fs:List V6}(hB:B9 E w bx bx Fs)(st:∀c,E.S c→E.T c){x:AV}{v:Value}(hx:VR E w bx x v){b o:Nat}(hv:v= .pointer (some ⟨b,o,none⟩)):
  ∀{l:List AV} {j:Nat},(∀(i:Nat) z,l[i]? =some z→BS bx x (j+i)=some z)→ ∃cs:List Value,cs.length=l.length∧AG w b (o+j) cs∧HF E w bx l cs
 |[],_,_=>⟨[],rfl,fun _ _ h=>by simp at h,trivial⟩
 |z::l,j,h=>by
  obtain⟨b',o',u,e1,e2,e3⟩:=Bn hB st (h 0 z rfl) hx;subst hv;simp only[Value.pointer.injEq,WL,Addr.mk.injEq,W3]at e1;obtain⟨rfl,rfl⟩:=e1;obtain⟨cs,c1,c2,c3⟩:=GF hB st hx rfl (l:=l) (j:=j+1) (fun i y hy=>by
   have:=h (i+1) y (by simpa using hy)
   rwa [show j+1+i=j+(i+1)by omega])
  refine⟨u::cs,by simp[c1],fun i y hy=> ?_,e3,c3⟩;cases i with
  |zero=>simp at hy;subst hy;exact e2
  |succ i=>
   have:=c2 i y (by simpa using hy)
   rwa [show o+(j+1)+i=o+j+(i+1)by omega]at this
theorem MT{σ:St}{Fs:List V6}(hB:B9 E w σ.bx σ.bx Fs)(st:∀c,E.S c→E.T c){t:Nat}{x z:XV}(e:IU T t σ x=some z){v:Value}(hx:XR E w σ.bx x v):
  ∃u,(Instr.loadAt t v).run P w= .ok u w∧XR E w σ.bx z u:=by
 unfold IU at e;split at e
 case h_2=>cases e
 rename_i x ti Cw;split at e
 case isTrue=>cases e
 rename_i CK;have Hb:=An.isAgg hT Cw w;split at e
 ·rename_i ha
  rw[ha]at Hb;simp only[WM]at e;obtain⟨l,hl,rfl⟩:=e;obtain⟨h1,h2⟩:=FK hl;have h0:0<l.length:=by omega
  obtain⟨b,o,u,hv,_,_⟩:=Bn hB st (h2 0 _ (WK h0)) hx;obtain⟨cs,c1,c2,c3⟩:=GF hB st hx hv (l:=l) (j:=0) (fun i y hy=>by simpa using h2 i y hy);subst hv;have HV:=(hT t ti Cw).Ot;cases hd:ti.desc with
  |st fs=>
   rw[hd]at HV;obtain⟨fields,hu,_⟩:=HV;refine⟨.agg cs.toArray,run_loadAt_mid w b o t cs _ (by simpa[AG,World.rangeAt]using c2) hu rfl ?_,cs.toArray,rfl,by simpa using c3⟩;rw[An.size hT Cw,c1,h1]
  |_=>rw[hd]at ha;simp[TD.agg]at ha
 ·rename_i ha
  simp only[Bool.not_eq_true]at ha;rw[ha]at Hb;simp only[WM]at e;obtain⟨y,hy,rfl⟩:=e;obtain⟨b,o,u,hv,hc,hr⟩:=Bn hB st hy hx;subst hv;refine⟨u,?_,hr⟩;simp only[XJ]at hc;simp[Instr.loadAt,Instr.sureAddr,loadVar,Hb,hc]
end
end Go.Fw
end
section
namespace Go.Fw
theorem Jw{w:World}{S:Nat→Prop}{d:Nat}{q:Ty}:Ow w S d (.sl q) [.slice none 0 0] [] []:=by
 cases d with
 |zero=>simp only[Ow,Rd];exact⟨⟨none,0,rfl,by simp,.inl rfl⟩,trivial⟩
 |succ d=>simp only[Ow];exact⟨none,0,rfl,by simp,.inl ⟨rfl,trivial⟩⟩
theorem O6{w:World}{S:Nat→Prop}{d:Nat}{r:Ty}{a:Option Addr}{len cap:Nat}{ys:List r.D}{F:V6}(h:Ow w S (d+1) (.sl r) [.slice a len cap] ys F){off n:Nat}(hn:off+n≤ys.length):
  ∃F1 F2,F.Perm (F1++F2)∧Ow w S (d+1) (.sl r) [C2 r.n off n a cap] ((ys.drop off).take n) F1:=by
 simp only[Ow]at h⊢;obtain⟨a',cap',e,hc,h⟩:=h;simp only[Wg,Value.slice.injEq,W3]at e;obtain⟨rfl,rfl,rfl⟩:=e;have hl:((ys.drop off).take n).length=n:=by simp;omega
 by_cases h0:cap=off
 ·subst h0
  refine⟨[],F,by simp,a,0,by simp[C2,hl],by rw[hl];omega,.inl ⟨rfl,rfl⟩⟩
 ·rcases h with⟨h,rfl⟩|⟨b,o,arr,ty,fr,Fs,rfl,hb,CK,hu,rfl,hFl,hr⟩
  ·refine⟨[],[],by simp,a.map (·.add (off*r.n)),cap-off,by simp[C2,hl,h0],by rw[hl];omega,.inl ⟨by omega,rfl⟩⟩
  ·have p:Fs.flatten.Perm (((Fs.drop off).take n).flatten++((Fs.take off).flatten++(Fs.drop (off+n)).flatten)):=by
    have e:Fs=Fs.take off++(((Fs.drop off).take n)++Fs.drop (off+n)):=by
     rw[←List.drop_drop,Xl,Xl]
    conv=>lhs;rw[e]
    rw[W6,W6,←WR,←WR];exact WX _ Wf
   refine⟨b::((Fs.drop off).take n).flatten,(Fs.take off).flatten++(Fs.drop (off+n)).flatten,List.Perm.cons b p,some ⟨b,o+off*r.n,none⟩,cap-off,?_,by rw[hl];omega,.inr ⟨b,o+off*r.n,arr,ty,fr,_,rfl,hb,?_,hu,rfl,?_,?_⟩⟩
   ·simp[C2,h0,hl,Addr.add_eq]
   ·have:off*r.n+(cap-off)*r.n=cap*r.n:=by rw[←W8];congr 1;omega
    omega
   ·rw[hl];simp;omega
   ·intro i y G hy hG
    have hi:=(WJ.1 hy).1;rw[hl]at hi;rw[List.getElem?_take_of_lt hi,XW]at hy hG;obtain⟨cs,c1,c2,c3⟩:=hr (off+i) y G hy hG;refine⟨cs,c1,?_,c3⟩;rw[W8,←XQ]at c2;exact c2
theorem Le.keep{E E':Env}(h:Le E E'){w:World}{vw:List Bx}(st:∀c,E.S c→E.T c):C8 E w vw E' w vw:=
 ⟨Wu _,fun b _=>by rw[h.BC],h.T,h.S,st,fun _ _=>rfl,fun b d r rows _ e=>⟨d,rows,e,fun p hp q ys hg=>⟨hp,⟨ys,hg,rfl⟩,fun h' hh=>by rw[h.BD];exact hh⟩⟩⟩
theorem AK.share{E:Env}{w:World}{vw bx:List Bx}{F W G:V6}(h:AK E w vw bx (F++W++G)):
  let E':Env:={ E with S:=fun c=>E.S c∨c∈W,T:=fun c=>E.T c∨c∈W }
  Le E E'∧AK E' w vw bx (F++G):=by
 intro E';have st:=h.st;have hle:Le E E':=⟨rfl,rfl,fun c hc=> .inl hc,fun c hc=> .inl hc,fun c hc=>hc.elim .inl fun h' => .inr (.inr h'),fun c hc=>hc.elim .inl fun h' => .inr (h.PQ c (by simp[h']))⟩;refine⟨hle,?_⟩;obtain⟨Fs,⟨h1,h2⟩,h3⟩:=h;refine⟨Fs,⟨h1,fun k B F' hk hF=> ?_⟩,?_⟩
 ·have:=h2 k B F' hk hF
  cases B with
  |mem cs=>
   obtain⟨rfl,arr,ty,fr,a1,a2,a3⟩:=this;exact⟨rfl,arr,ty,fr,a1,a2,a3.imp fun _ _ hv=>Av (hle.keep st) hv⟩
  |sl d r rows=>exact⟨this.1,Ae hle.S (fun _ _=>rfl) (fun _ _=>rfl) this.2⟩
  |dead=>exact this
 ·have h4:Sep E w (W++(Fs.flatten++(F++G))):=h3.perm (by
   rw[WR F W G,←WR Fs.flatten,←WR (Fs.flatten++F),←WR Fs.flatten F G,←WR W];exact WX _ Wf)
  refine⟨(WS.1 h4.nodup).2.1,fun c hc ht=> ?_,fun c hc=>h4.lt c (by simp only[Wc];exact .inr (by simpa using hc)),fun c hc=>hc.imp (st c) id,fun c hc=>hc.elim (h4.GD c) fun h' =>h4.lt c (by simp[h']),h4.Lo.mono (fun _ h=> .inl h) (fun _ _=>rfl)⟩;rcases ht with ht|ht
  ·exact h4.free c (Wc.2 (.inr hc)) ht
  ·exact(WS.1 h4.nodup).2.2 c ht c hc rfl
structure A0 (E:Env) (w:World) (vw bx:List Bx) (G:V6) (E':Env) (Cd:List Bx) (F:V6):Prop where
 le:Le E E'
 len:Cd.length=bx.length
 within:∀(b:Nat) (B:Bx),Cd[b]? =some B→B= .dead∨bx[b]? =some B
 boxes:AK E' w vw Cd (F++G)
theorem A0.refl{E:Env}{w:World}{vw bx:List Bx}{G:V6}(h:AK E w vw bx G):A0 E w vw bx G E bx []:=
 ⟨Le.refl E,rfl,fun _ _ h=> .inr h,h⟩
theorem Aj.JT{E E':Env}{w:World}{vw bx Cd:List Bx}{G F:V6}(h:Aj bx vw)(k:A0 E w vw bx G E' Cd F):Aj Cd vw:=fun b B e=>
 (k.within b B e).elim .inl (h b B)
theorem Fc{E:Env}{w:World}{vw bx:List Bx}{G:V6}(h:AK E w vw bx G)(hw:Aj bx vw){d:Nat}(hd:1≤d){t:Ty}{x:AV}{v:Value}(hv:VR E w vw x v){y:t.D}{Cd:List Bx}{d':Nat}
  (e:GO d t x bx=some (y,Cd,d')):1≤d'∧d'≤d∧ ∃E' F,A0 E w vw bx G E' Cd F∧Ow w E'.S (d'-1) t [v] y F:=by
 unfold GO at e;split at e
 ·rename_i u z
  simp only[WM,Wn]at e;obtain⟨z',e1,rfl,rfl,rfl⟩:=e;obtain⟨e2,e3⟩:=A9 e1;subst e2;subst e3;refine⟨hd,Wu _,E,[],A0.refl h,?_⟩;obtain⟨hs,hr⟩:=hv;cases u<;>simp_all[Ty.scalar,Ow,Rd]
 ·split at e
  ·simp only[WL,Wn]at e
   obtain⟨rfl,rfl,rfl⟩:=e;simp only[VR]at hv;subst hv;exact⟨hd,Wu _,E,[],A0.refl h,Jw⟩
  ·cases e
 ·rename_i r z
  split at e
  ·rename_i q
   simp only[WM,Wn]at e;obtain⟨z',e1,rfl,rfl,rfl⟩:=e;obtain⟨e2,e3⟩:=A9 e1;subst e2;subst e3;refine⟨Wu _,hd,E,[],A0.refl h,?_⟩;simp only[VR]at hv;simp only[Nat.sub_self,Ow];exact⟨by simpa using hv,trivial⟩
  ·cases e
 ·rename_i b
  split at e
  case h_2=>cases e
  rename_i q;split at e
  case h_2=>cases e
  rename_i db r z hb;simp only[WM,Wn]at e;obtain⟨z',e1,rfl,rfl,rfl⟩:=e;obtain⟨e2,e3⟩:=A9 e1;subst e2;subst e3;obtain⟨F0,⟨hd1,ho⟩,hB⟩:=h.take hb;have U8:v=E.BD b:=by
   simp only[VR,ET hw hb,AJ]at hv;simpa using hv.2.2.2.symm
  subst U8;obtain⟨F1,W,hp,N1⟩:=Bc (d:=min d (db+1)-1) (by omega) ho;have Cs:=hB.perm (WX G hp);obtain⟨hle,Dv⟩:=Cs.share;refine⟨by omega,Nat.min_le_left _ _,_,F1,⟨hle,by simp,fun k B hk=> ?_,Dv⟩,N1⟩;by_cases ek:k=b
  ·subst ek
   rw[WV (WJ.1 hb).1]at hk;cases hk;exact .inl rfl
  ·rw[WQ (by omega)]at hk;exact .inr hk
 ·rename_i b off n
  split at e
  case h_2=>cases e
  rename_i q;split at e
  case h_2=>cases e
  rename_i db r z hb;simp only[WM,Wn]at e;obtain⟨z',e1,rfl,rfl,rfl⟩:=e;obtain⟨e2,e3⟩:=A9 e1;subst e2;subst e3;obtain⟨F0,⟨hd1,ho⟩,hB⟩:=h.take hb;simp only[VR,ET hw hb,AJ]at hv;obtain⟨_,_,q',ys,a,len,cap,hg,hn,hh,rfl⟩:=hv;simp only[Ay,WL,WU]at hg;obtain⟨rfl,hg⟩:=hg;obtain rfl:=Wi hg;simp only[WL]at hh;rw[hh]at ho;obtain⟨db,rfl⟩:∃m,db=m+1:=⟨db-1,by omega⟩;obtain⟨A1,A2,hp0,S7⟩:=O6 ho hn;obtain⟨F1,W,hp,N1⟩:=Bc (d:=min d (db+1+1)-1) (by omega) S7;have Sl:AK E w vw (bx.set b .dead) (A1++G):=by
   refine AK.drop (G':=A2) (hB.perm ?_);refine(WX G hp0).trans ?_
   rw[WR,WR];exact We _ Wf
  have Cs:=Sl.perm (WX G hp);obtain⟨hle,Dv⟩:=Cs.share;refine⟨by omega,Nat.min_le_left _ _,_,F1,⟨hle,by simp,fun k B hk=> ?_,Dv⟩,N1⟩;by_cases ek:k=b
  ·subst ek
   rw[WV (WJ.1 hb).1]at hk;cases hk;exact .inl rfl
  ·rw[WQ (by omega)]at hk;exact .inr hk
 ·cases e
theorem Eg{w:World}{vw:List Bx}:∀{r:Ty} {E:Env} {bx:List Bx} {G:V6} {d:Nat} {l:List AV} {vs:List Value} {y:r.D} {Cd:List Bx} {d':Nat},AK E w vw bx G→Aj bx vw→1≤d→
  HF E w vw l vs→cellsIn d r l bx=some (y,Cd,d')→1≤d'∧d'≤d∧ ∃E' F,A0 E w vw bx G E' Cd F∧Ow w E'.S (d'-1) r vs y F
 | .unit,E,bx,G,d,[],[],y,Cd,d',h,hw,hd,_,e=>by
  simp only[cellsIn,WL,Wn]at e;obtain⟨_,rfl,rfl⟩:=e;exact⟨hd,Wu _,E,[],A0.refl h,by simp only[Ow];exact⟨trivial,trivial⟩⟩
 | .cons c r,E,bx,G,d,x::l,v::vs,y,Cd,d',h,hw,hd,hv,e=>by
  simp only[cellsIn,WN,WM,Wn]at e;obtain⟨⟨y1,HU,d1⟩,e1,⟨y2,Et,d2⟩,e2,rfl,rfl,rfl⟩:=e;dsimp only at e2⊢;obtain⟨a1,a2,E1,F1,k1,o1⟩:=Fc h hw hd hv.1 e1;have MA:=k1.le.keep (w:=w) (vw:=vw) h.st;obtain⟨b1,b2,E2,F2,k2,o2⟩:=Eg (G:=F1++G) k1.boxes (hw.JT k1) a1 (hv.2.imp fun _ _ h=>Av MA h) e2;obtain⟨A,W,hp,o1'⟩:=Bc (d:=d'-1) (by omega) o1;have hB:=k2.boxes.perm (G':=(F2++A)++W++G) (by
   rw[WR F2 A W,WR F2];exact We _ (WX _ hp))
  obtain⟨hle,Dv⟩:=hB.share;refine⟨b1,XN b2 a2,_,A++F2,⟨(k1.le.trans k2.le).trans hle,k2.len.trans k1.len,fun b B hb=>(k2.within b B hb).elim .inl (k1.within b B),Dv.perm (WX _ Wf)⟩,?_⟩;simp only[Ow];refine⟨v,vs,A,F2,rfl,rfl,?_,?_⟩
  ·refine Ae (S:=fun b=>E1.S b∨b∈W) ?_ (fun _ _=>rfl) (fun _ _=>rfl) o1'
   intro c hc;exact hc.elim (fun h=> .inl (k2.le.S c h)) .inr
  ·refine Ae (S:=E2.S) ?_ (fun _ _=>rfl) (fun _ _=>rfl) o2
   intro c hc;exact .inl hc
 | .unit,_,_,_,_,_::_,_,_,_,_,_,_,_,_,e=>by simp[cellsIn]at e
 | .unit,_,_,_,_,[],_::_,_,_,_,_,_,_,hv,_=>hv.elim
 | .cons _ _,_,_,_,_,[],_,_,_,_,_,_,_,_,e=>by simp[cellsIn]at e
 | .cons _ _,_,_,_,_,_::_,[],_,_,_,_,_,_,hv,_=>hv.elim
 | .int _,_,_,_,_,_,_,_,_,_,_,_,_,_,e=>by simp[cellsIn]at e
 | .bool,_,_,_,_,_,_,_,_,_,_,_,_,_,e=>by simp[cellsIn]at e
 | .str,_,_,_,_,_,_,_,_,_,_,_,_,_,e=>by simp[cellsIn]at e
 | .sl _,_,_,_,_,_,_,_,_,_,_,_,_,_,e=>by simp[cellsIn]at e
theorem Ld{E:Env}{w:World}{vw:List Bx}{x:AV}{v:Value}(h:VR E w vw x v)(hk:x.known=true):v.oneCell' =true∧v.cells= #[v]:=by
 have aux:∀{v:Value},isSlice v=true→v.oneCell' =true∧v.cells= #[v]:=by intro v h;cases v<;>simp_all[isSlice,Value.oneCell',Value.cells]
 have TY:∀{v:Value},Ff v=true→v.oneCell' =true∧v.cells= #[v]:=by intro v h;cases v<;>simp_all[Ff,Value.oneCell',Value.cells]
 cases x with
 |v t y=>
  obtain⟨hs,hr⟩:=h;cases t<;>simp[Ty.scalar]at hs<;>simp only[Rd,Wg,W3]at hr<;>subst hr<;>exact⟨rfl,rfl⟩
 |sl s r y=>
  simp only[VR,Rd]at h;obtain⟨a,cap,h,_⟩:=h;simp only[Wg,W3]at h;subst h;exact⟨rfl,rfl⟩
 |nil=>simp only[VR]at h;subst h;exact⟨rfl,rfl⟩
 |ref b p=>exact aux h.1
 |win b p off n=>exact aux h.1
 |BA b j=>rw[h.2];exact⟨rfl,rfl⟩
 |BT b p i sz j=>exact TY h.1
 |CH s r y j=>obtain⟨bb,o,cs,rfl,_⟩:=h;exact⟨rfl,rfl⟩
 |fn f BZ=>rw[h.2];exact⟨rfl,rfl⟩
 |LB f rows=>obtain⟨ps,rfl,_⟩:=h;exact⟨rfl,rfl⟩
 |M_=>simp only[VR]at h;subst h;exact⟨rfl,rfl⟩
 |undef=>simp[AV.known]at hk
theorem Nc{E:Env}{w:World}{vw:List Bx}:∀{l:List AV} {vs:List Value},HF E w vw l vs→l.all AV.known=true→ ∀v∈vs,v.oneCell' =true
 |[],[],_,_=>by simp
 |x::l,v::vs,h,hk=>by
  simp only[Xn,WY]at hk;intro u hu;rcases Wy.1 hu with rfl|hu
  ·exact(Ld h.1 hk.1).1
  ·exact Nc h.2 hk.2 u hu
theorem Jt{E:Env}{w:World}{vw:List Bx}{x:XV}{v:Value}(h:XR E w vw x v)(hk:x.cells.all AV.known=true)(hn:x.cells≠[]):HF E w vw x.cells v.cells.toList∧ ∀u∈v.cells.toList,u.oneCell' =true:=by
 cases x with
 |c x=>
  have h':VR E w vw x v:=h;obtain⟨h1,h2⟩:=Ld h' (by simpa[XV.cells]using hk);rw[h2];exact⟨⟨h',trivial⟩,by simpa using h1⟩
 |agg l=>
  obtain⟨vs,rfl,ED⟩:=h;exact⟨ED,Nc ED hk⟩
 |DY l=>simp[XV.cells]at hn
theorem MM{w:World}{vw:List Bx}{r:Ty}{E:Env}{bx:List Bx}{G:V6}{d:Nat}{x:XV}{v:Value}{y:r.D}{Cd:List Bx}{d':Nat}(h:AK E w vw bx G)(hw:Aj bx vw)(hd:1≤d)
  (hv:XR E w vw x v) (e:Oo d r x bx=some (y,Cd,d')):1≤d'∧d'≤d∧ ∃E' F,A0 E w vw bx G E' Cd F∧Ow w E'.S (d'-1) r v.cells.toList y F:=by
 unfold Oo at e;split at e
 ·rename_i l
  obtain⟨vs,rfl,ED⟩:=hv;exact Eg h hw hd ED e
 ·rename_i x
  have Fi:VR E w vw x v:=hv;have hk:x.known=true:=by cases x<;>simp_all[AV.known,GO]
  rw[(Ld Fi hk).2];exact Fc h hw hd Fi e
 ·cases e
end Go.Fw
end
section
namespace Go.Fw
def Env.FI(E:Env)(n:Nat)(h:Value):Env:={ E with BD:=fun k=>if k=n then h else E.BD k }
def Env.Gg(E:Env)(n b:Nat):Env:={ E with BC:=fun k=>if k=n then b else E.BC k }
theorem Gx{E E1 E':Env}{w w':World}{vw HU Cd:List Bx}{F:V6}(k:A0 E w vw vw [] E1 HU F)(st:∀c,E.S c→E.T c)(hlen:vw.length≤Cd.length)
  (HH:∀b B,b<vw.length→Cd[b]? =some B→HU[b]? =some B) (Lm:∀b,b<vw.length→E'.BC b=E1.BC b) (F7:∀b,b<vw.length→E'.BD b=E1.BD b) (hT:E'.T=E1.T) (hS:E'.S=E1.S)
  (hw:∀c,c<w.heap.size→c∉F→w'.heap[c]? =w.heap[c]?):C8 E w vw E' w' Cd:=by
 have hB:=k.boxes;obtain⟨Fs,⟨h1,h2⟩,h3⟩:=hB;simp only[Wj]at h3;have PT:∀c,E1.T c→w'.heap[c]? =w.heap[c]?:=fun c hc=>hw c (h3.GD c hc) fun hf=>h3.free c (by simp[hf]) hc
 refine⟨hlen,fun b hb=>by rw[Lm b hb,k.le.BC],fun c hc=>by rw[hT];exact k.le.T c hc,fun c hc=>by rw[hS];exact k.le.S c hc,st,fun c hc=>PT c (k.le.T c hc),fun b d r rows hb e=> ?_⟩;have e1:=HH b _ hb e;rcases k.within b _ e1 with e2|e2
 ·cases e2
 ·refine⟨d,rows,e2,fun p hp q ys hg=>⟨hp,⟨ys,hg,rfl⟩,fun h' hh=> ?_⟩⟩
  have hF:Fs[b]? =some (Fs[b]'(by have:=(WJ.1 e1).1;omega)):=WK _;obtain⟨hd,ho⟩:=h2 b _ _ e1 hF;rw[F7 b hb];rw[←k.le.BD]at hh;refine LS ho (fun c hc=>PT c (h3.st c hc)) (fun c hc=> ?_) hp hg hh;have Lq:c∈Fs.flatten:=Wh.2 ⟨_,WT hF,hc⟩;exact hw c (h3.lt c (by simp[Lq])) fun hf=>(WS.1 h3.nodup).2.2 c Lq c hf rfl
structure Grown (w w':World):Prop where
 os:w'.os=w.os
 tape:w'.tape=w.tape
 output:w'.output=w.output
 size:w.heap.size≤w'.heap.size
theorem DE{E E1:Env}{σ:St}{a:Act}{w w':World}{HU:List Bx}{F F':V6}(h:Rel E σ a w)(k:A0 E w σ.bx σ.bx [] E1 HU F){v:Value}{d:Nat}{r:Ty}{rows:List r.D}(hd:1≤d)
  (ho:Ow w' E1.S d (.sl r) [v] rows F') (Sj:∀c∈F',c∈F∨w.heap.size≤c) (nd:F'.Nodup) (CA:∀c∈F',c<w'.heap.size) (hw:∀c,c<w.heap.size→c∉F→w'.heap[c]? =w.heap[c]?) (g:Grown w w'):
  let E':=E1.FI HU.length v
  Rel E' { σ with bx:=HU++[.sl d r rows] } a w'∧Cn [] E σ.bx w E' (HU++[.sl d r rows]) w'∧XR E' w' (HU++[.sl d r rows]) (.c (.ref HU.length [])) v:=by
 intro E';have st:=h.bx.st;have hn:=k.len;have keep:C8 E w σ.bx E' w' (HU++[.sl d r rows]):=Gx k st (by simp[hn]) (fun b B hb e=>by
   rw[WO (by omega)]at e;exact e) (fun b _=>rfl) (fun b hb=>by simp[E',Env.FI];intro e;omega) rfl rfl hw
 have MA:C8 E1 w σ.bx E' w' (HU++[.sl d r rows]):=by
  have k':A0 E1 w σ.bx σ.bx [] E1 HU F:=⟨Le.refl _,k.len,k.within,k.boxes⟩;exact Gx k' k.boxes.st (by simp[hn]) (fun b B hb e=>by
   rw[WO (by omega)]at e;exact e) (fun b _=>rfl) (fun b hb=>by simp[E',Env.FI];intro e;omega) rfl rfl hw
 obtain⟨Fs,⟨h1,h2⟩,h3⟩:=k.boxes;simp only[Wj]at h3;have PT:∀c,E1.T c→w'.heap[c]? =w.heap[c]?:=fun c hc=>hw c (h3.GD c hc) fun hf=>h3.free c (by simp[hf]) hc
 have TB:∀c∈Fs.flatten,w'.heap[c]? =w.heap[c]?:=fun c hc=>hw c (h3.lt c (by simp[hc])) fun hf=>(WS.1 h3.nodup).2.2 c hc c hf rfl
 refine⟨⟨h.CC,h.tm.imp fun _ _ hx=>CN keep hx,?_⟩,?_,?_⟩
 ·refine⟨Fs++[F'],⟨by simp[h1],fun n B G hB hG=> ?_⟩,?_⟩
  ·by_cases MY:n<HU.length
   ·rw[WO MY]at hB
    rw[WO (by omega)]at hG;have:=h2 n B G hB hG;have RW:∀c∈G,w'.heap[c]? =w.heap[c]?:=fun c hc=>TB c (Wh.2 ⟨G,WT hG,hc⟩)
    cases B with
    |mem cs=>
     obtain⟨rfl,arr,ty,fr,a1,a2,a3⟩:=this;exact⟨rfl,arr,ty,fr,(RW (E1.BC n) (by simp)).trans a1,a2,a3.imp fun _ _ hv=>Av MA hv⟩
    |sl d0 r0 Ch=>
     refine⟨this.1,?_⟩;have e0:E'.BD n=E1.BD n:=by simp[E',Env.FI];intro e;omega
     rw[e0];exact Ae (fun _ hc=>hc) (fun c hc=>PT c (h3.st c hc)) RW this.2
    |dead=>exact this
   ·have RI:=(WJ.1 hB).1
    simp at RI;obtain rfl:n=HU.length:=by omega
    rw[WW (by omega)]at hB hG;simp[h1]at hB hG;subst hB hG;refine⟨hd,?_⟩;have e0:E'.BD HU.length=v:=by simp[E',Env.FI]
    rw[e0];exact ho
  ·simp only[W6,Wv,Xe,Wj]
   have Tz:=WS.1 h3.nodup;refine⟨WS.2 ⟨Tz.1,nd,fun x hx y hy e=> ?_⟩,fun c hc ht=> ?_,fun c hc=> ?_,h3.st,fun c hc=>Wq (h3.GD c hc) g.size,h3.Lo.mono (fun _ h=>h) PT⟩
   ·subst e
    rcases Sj x hy with h|h
    ·exact Tz.2.2 x hx x h rfl
    ·have:=h3.lt x (by simp[hx]);omega
   ·rcases Wc.1 hc with hc|hc
    ·exact h3.free c (by simp[hc]) ht
    ·rcases Sj c hc with h|h
     ·exact h3.free c (by simp[h]) ht
     ·have:=h3.GD c ht;omega
   ·rcases Wc.1 hc with hc|hc
    ·exact Wq (h3.lt c (by simp[hc])) g.size
    ·exact CA c hc
 ·refine⟨⟨k.le.T,k.le.S,k.le.Pt,k.le.NQ,fun c hc=>PT c (k.le.T c hc),g.os,g.tape,g.output,g.size⟩,by simp[hn],fun b hb=>⟨by show E1.BC b=_;rw[k.le.BC],?_⟩,fun b hb=> ?_,fun n B B' _ hB Cs NJ=> ?_⟩
  ·have:E'.BD b=E1.BD b:=by simp[E',Env.FI];intro e;omega
   rw[this,k.le.BD]
  ·have PW:=(WJ.1 hb).1
   rw[WO (by omega)];obtain⟨B,hB⟩:∃B,HU[b]? =some B:=⟨_,WK (by omega)⟩;rcases k.within b B hB with e|e
   ·rw[hB,e]
   ·rw[hb]at e;rw[hB];exact e.symm
  ·have MY:=(WJ.1 hB).1
   rw[WO (by omega)]at Cs;rcases k.within n B' Cs with e|e
   ·exact absurd e NJ
   rw[hB]at e;cases e;refine⟨Db.refl NJ,fun c hc=> ?_⟩;have hF:Fs[n]? =some (Fs[n]'(by have:=(WJ.1 Cs).1;omega)):=WK _;have hR:=h2 n B _ Cs hF;have Iw:MX E1 w n B c:=by
    cases B with
    |mem cs=>simp only[MX]at hc⊢;rw[k.le.BC];exact hc
    |sl d r rows=>simp only[MX]at hc⊢;rw[k.le.BD];exact hc
    |dead=>exact hc
   rcases Gc hR Iw with hs|hs
   ·exact PT c (h3.st c hs)
   ·exact TB c (Wh.2 ⟨_,WT hF,hs⟩)
 ·have e0:E'.BD HU.length=v:=by simp[E',Env.FI]
  refine⟨?_,?_⟩
  ·have:=ER ho
   simp only[Rd]at this;obtain⟨_,_,e,_⟩:=this;simp only[Wg,W3]at e;rw[e];rfl
  ·have:(HU++[Bx.sl d r rows])[HU.length]? =some (.sl d r rows):=by simp
   rw[this];exact⟨by simp[AM],⟨_,rfl⟩,by rw[e0,AJ]⟩
theorem Jo{E:Env}{σ:St}{a:Act}{w:World}(h:Rel E σ a w){cs:List AV}{arr:Array Value}(ty:TypeId)(hv:HF E w σ.bx cs arr.toList):
  let E':=E.Gg σ.bx.length w.heap.size
  let w':=w.alloc (.cells arr ty)
  Rel E' (σ.new (.mem cs)) a w'∧Cn [] E σ.bx w E' (σ.new (.mem cs)).bx w'∧XR E' w' (σ.new (.mem cs)).bx (.c (.BA σ.bx.length 0)) (.pointer (some ⟨w.heap.size,0,none⟩)):=by
 intro E' w';have st:=h.bx.st;have hw:∀c,c<w.heap.size→c∉([]:V6)→w'.heap[c]? =w.heap[c]?:=fun c hc _=>by
  show(w.heap.push (.cells arr ty))[c]? =_
  rw[Array.getElem?_push,Wr (by omega)]
 have Ri:=h.bx;have keep:C8 E w σ.bx E' w' (σ.bx++[.mem cs]):=Gx (A0.refl Ri) st (by simp) (fun b B hb e=>by
   rw[WO (by omega)]at e;exact e) (fun b hb=>by simp[E',Env.Gg];intro e;omega) (fun b _=>rfl) rfl rfl hw
 obtain⟨Fs,⟨h1,h2⟩,h3⟩:=h.bx;simp only[Wj]at h3;have new:w'.heap[w.heap.size]? =some (.cells arr ty):=by
  show(w.heap.push (.cells arr ty))[w.heap.size]? =_
  simp
 refine⟨⟨h.CC,h.tm.imp fun _ _ hx=>CN keep hx,?_⟩,?_,?_⟩
 ·refine⟨Fs++[[w.heap.size]],⟨by simp[St.new,h1],fun n B G hB hG=> ?_⟩,?_⟩
  ·simp only[St.new]at hB
   by_cases MY:n<σ.bx.length
   ·rw[WO MY]at hB
    rw[WO (by omega)]at hG;have:=h2 n B G hB hG;have RW:∀c∈G,w'.heap[c]? =w.heap[c]?:=fun c hc=>hw c (h3.lt c (by simp;exact⟨G,WT hG,hc⟩)) (by simp)
    have eb:E'.BC n=E.BC n:=by simp[E',Env.Gg];intro e;omega
    cases B with
    |mem cs0=>
     obtain⟨rfl,arr0,ty0,fr,a1,a2,a3⟩:=this;refine⟨by rw[eb],arr0,ty0,fr,?_,a2,a3.imp fun _ _ hv=>Av keep hv⟩;rw[eb];exact(RW (E.BC n) (by simp)).trans a1
    |sl d0 r0 Ch=>exact⟨this.1,Ae (fun _ hc=>hc) (fun c hc=>hw c (h3.GD c (st c hc)) (by simp)) RW this.2⟩
    |dead=>exact this
   ·have RI:=(WJ.1 hB).1
    simp at RI;obtain rfl:n=σ.bx.length:=by omega
    rw[WW (by omega)]at hB hG;simp[h1]at hB hG;subst hB hG;have eb:E'.BC σ.bx.length=w.heap.size:=by simp[E',Env.Gg]
    refine⟨by rw[eb],arr,ty,(0,0),by rw[eb];exact new,fun i _ h=>by omega,hv.imp fun _ _ hv=>Av keep hv⟩
  ·simp only[W6,Wv,Xe,Wj]
   refine⟨WS.2 ⟨h3.nodup,by simp,fun x hx y hy e=> ?_⟩,fun c hc ht=> ?_,fun c hc=> ?_,h3.st,fun c hc=> ?_,h3.Lo.mono (fun _ h=>h) (fun c hc=>hw c (h3.GD c hc) (by simp))⟩
   ·subst e
    simp at hy;have:=h3.lt x hx;omega
   ·rcases Wc.1 hc with hc|hc
    ·exact h3.free c hc ht
    ·simp at hc;have:=h3.GD c ht;omega
   ·rcases Wc.1 hc with hc|hc
    ·have:=h3.lt c hc;simp[w'];omega
    ·simp at hc;simp[w'];omega
   ·have:=h3.GD c hc;simp[w'];omega
 ·refine⟨⟨fun _ h=>h,fun _ h=>h,fun _ h=> .inl h,fun _ h=> .inl h,fun c hc=>hw c (h3.GD c hc) (by simp),rfl,rfl,rfl,by simp[w']⟩,by simp[St.new],fun b hb=>⟨?_,rfl⟩,fun b hb=> ?_,fun n B B' _ hB Cs NJ=> ?_⟩
  ·simp[E',Env.Gg];intro e;omega
  ·have PW:=(WJ.1 hb).1
   simp only[St.new];rw[WO PW];exact hb
  ·have MY:=(WJ.1 hB).1
   simp only[St.new]at Cs;rw[WO MY,hB]at Cs;cases Cs;refine⟨Db.refl NJ,fun c hc=> ?_⟩;have hF:Fs[n]? =some (Fs[n]'(by omega)):=WK _;rcases Gc (h2 n B _ hB hF) hc with hs|hs
   ·exact hw c (h3.GD c (st c hs)) (by simp)
   ·exact hw c (h3.lt c (Wh.2 ⟨_,WT hF,hs⟩)) (by simp)
 ·refine⟨by simp[St.new],?_⟩
  simp[E',Env.Gg]
end Go.Fw
end
section
namespace Go.Fw
theorem Ba:∀r:Ty,(Ax r).length=r.n
 | .cons c r=>by simp[Ax,Ty.n,Ba r]
 | .unit=>rfl
 | .int _=>rfl
 | .bool=>rfl
 | .str=>rfl
 | .sl _=>rfl
theorem Eu{E:Env}{w:World}{vw:List Bx}(t:Ty):VR E w vw (ND t) (zv t):=by
 cases t<;>first
  |exact VR.int _ _
  |exact VR.bool _
  |exact VR.str _
  |rfl
  |trivial
theorem Ea{E:Env}{w:World}{vw:List Bx}:∀r:Ty,HF E w vw (FO r) (Ax r)
 | .cons c r=>⟨Eu c,Ea r⟩
 | .unit=>trivial
 | .int k=>⟨Eu (.int k),trivial⟩
 | .bool=>⟨Eu .bool,trivial⟩
 | .str=>⟨Eu .str,trivial⟩
 | .sl r=>⟨Eu (.sl r),trivial⟩
theorem HO{w:World}{S:Nat→Prop}{d:Nat}:∀{r:Ty},r.Lj=true→Ow w S d r (Ax r) r.z []
 | .cons c r,h=>by
  simp only[Ty.Lj,WY]at h;simp only[Ow,Ax];refine⟨_,_,[],[],rfl,rfl,?_,HO h.2⟩;cases c with
  |sl q=>exact Jw
  |int k=>simp[Ow,zv,Ty.z]
  |bool=>simp[Ow,zv,Ty.z]
  |str=>simp[Ow,zv,Ty.z]
  |unit=>simp[Ty.cell]at h
  |cons _ _=>simp[Ty.cell]at h
 | .unit,_=>by simp[Ow,Ax]
 | .int k,_=>by simp[Ow,Ax,zv,Ty.z]
 | .bool,_=>by simp[Ow,Ax,zv,Ty.z]
 | .str,_=>by simp[Ow,Ax,zv,Ty.z]
 | .sl q,_=>Jw
theorem GG{n:Nat}:∀{css:List (List Value)} {ex:List Value} {i j:Nat} {cs:List Value},(∀c∈css,c.length=n)→css[i]? =some cs→j<n→(css.flatten++ex)[i*n+j]? =cs[j]?
 |[],_,_,_,_,_,h,_=>by simp at h
 |c::css,ex,0,j,cs,hl,h,hj=>by
  simp at h;subst h;have:=hl c (by simp);simp only[Wv,WR,Nat.zero_mul,XA];rw[WO (by omega)]
 |c::css,ex,i+1,j,cs,hl,h,hj=>by
  have hc:=hl c (by simp);have ih:=GG (css:=css) (ex:=ex) (i:=i) (j:=j) (cs:=cs) (fun c' Iw=>hl c' (XC _ Iw)) (by simpa using h) hj;simp only[Wv,WR];rw[WW (by rw[W8];omega),←ih];congr 1;rw[W8,hc];omega
theorem I0{w:World}{b:Nat}{arr:Array Value}{ty:TypeId}{fr:V8}(hb:w.heap[b]? =some (.cells arr ty fr)){n:Nat}{css:List (List Value)}{ex:List Value}(ha:arr.toList=css.flatten++ex)
  (hl:∀c∈css,c.length=n) {i:Nat} {cs:List Value} (h:css[i]? =some cs):AG w b (i*n) cs:=by
 intro j v hj;have VT:j<n:=by
  have:=(WJ.1 hj).1;rw[hl cs (WT h)]at this;exact this
 simp only[World.cell?,hb,XI,W0,XS];rw[←Array.getElem?_toList,ha,GG hl h VT,hj]
theorem Ho{w:World}{S:Nat→Prop}{d b cap:Nat}{r:Ty}{rows:List r.D}{arr:Array Value}{ty:TypeId}{fr:V8}(hb:w.heap[b]? =some (.cells arr ty fr)){css:List (List Value)}{ex:List Value}
  (ha:arr.toList=css.flatten++ex) (hc:css.length=rows.length) (Oy:rows.length≤cap) (CK:cap*r.n≤arr.size) (hu:Mt fr (arr.size+mk r)) {Fs:List V6} (hF:Fs.length=rows.length)
  (Fp:∀(i:Nat) cs y G,css[i]? =some cs→rows[i]? =some y→Fs[i]? =some G→Ow w S d r cs y G):
  Ow w S (d+1) (.sl r) [.slice (some ⟨b,0,none⟩) rows.length cap] rows (b::Fs.flatten):=by
 have hl:∀c∈css,c.length=r.n:=by
  intro c Iw;obtain⟨i,hi,rfl⟩:=W4 Iw;exact EJ (Fp i _ _ _ (WK hi) (WK (by omega)) (WK (by omega)))
 simp only[Ow];refine⟨_,cap,rfl,Oy,.inr ⟨b,0,arr,ty,fr,Fs,rfl,hb,by omega,hu,rfl,hF,fun i y G hy hG=> ?_⟩⟩;have hi:i<css.length:=by
  have:=(WJ.1 hy).1;omega
 refine⟨css[i],hl _ (XB hi),?_,Fp i _ y G (WK hi) hy hG⟩;rw[XA];exact I0 hb ha hl (WK hi)
theorem IC(n:Nat):Mt (0,0) n:=fun i _ h=>by omega
theorem CT{w:World}{o:Obj}{c:Nat}(h:c<w.heap.size):(w.heap.push o)[c]? =w.heap[c]?:=by
 rw[Array.getElem?_push,Wr (by omega)]
section
variable{Y:Type} {P:Program} {T:Bb} (hT:An P T) {o:Oper} {E:Env} {σ:St} {a:Act} {w:World} {k:K Y} {y:Y}
theorem Oc(h:Rel E σ a w){t:TypeId}{x:Operand}(ho:o.op= .box t x)(hk:(σ.ev x).cells.all AV.known=true)(hn:(σ.ev x).cells≠[])(e:k (.c (.BA σ.bx.length 0)) (σ.new (.mem (σ.ev x).cells))=some y):
  Bo P o E σ a w k y:=by
 obtain⟨h1,h2⟩:=Jt (h.ev x) hk hn;obtain⟨r1,r2,r3⟩:=Jo h t h1;refine⟨_,_,_,_,_,.inl ?_,r1,r3,r2.any,rfl,e⟩;simp only[execOp,ho,Instr.box,newVar,newRow,Sem.run_bind,run_newObj,Result.andThen_ok,Sem.run_pure];rfl
include hT
theorem row_zero{t:Nat}{r:Ty}(e:T.Hc t=some r):∃i z,P.info? t=some i∧i.zero=some z∧z.cells.toList=Ax r∧r.Lj=true:=by
 unfold Bb.Hc at e;split at e
 ·rename_i ti Cw
  obtain⟨i,h1,_,_,h2⟩:=(hT t ti Cw).info;obtain⟨hg,z,h3,h4⟩:=h2 r e;exact⟨i,z,h1,h3,h4,hg⟩
 ·cases e
theorem M7(h:Rel E σ a w){t:TypeId}(ho:o.op= .alloc t){r:Ty}(hr:T.Hc t=some r)(e:k (.c (.BA σ.bx.length 0)) (σ.new (.mem (FO r)))=some y):Bo P o E σ a w k y:=by
 obtain⟨i,z,h1,h2,h3,_⟩:=row_zero hT hr;obtain⟨r1,r2,r3⟩:=Jo (arr:=z.cells) h t (by rw[h3];exact Ea r);refine⟨_,_,_,_,_,.inl ?_,r1,r3,r2.any,rfl,e⟩;simp only[execOp,ho,Instr.alloc,zeroValue,typeInfo,newVar,newRow,Sem.run_bind,run_program,Result.andThen_ok,h1,h2,run_newObj,Sem.run_pure];rfl
end
end Go.Fw
end
section
namespace Go.Fw
def As(arr:Array Value):Nat→List Value→Array Value
 |_,[]=>arr
 |o,c::l=>As (arr.setIfInBounds o c) (o+1) l
theorem Be:∀(l:List Value) (o:Nat) (arr:Array Value),(As arr o l).size=arr.size
 |[],_,_=>rfl
 |c::l,o,arr=>by simp[As,Be l]
theorem KG(off:Nat):∀(l:List Value) (k:Nat) (arr:Array Value),(l.zipIdx k).foldl (fun cs (q:Value×Nat)=>cs.setIfInBounds (off+q.2) q.1) arr=As arr (off+k) l
 |[],_,_=>rfl
 |c::l,k,arr=>by
  simp only[List.zipIdx_cons,List.foldl_cons,As];rw[KG off l (k+1)];rfl
theorem EH{E:Env}{w:World}{vw:List Bx}:∀{xs:List AV} {vs:List Value} {cs Fl:List AV} {arr:Array Value} {o:Nat},HF E w vw cs arr.toList→HF E w vw xs vs→D6 cs o xs=some Fl→
  HF E w vw Fl (As arr o vs).toList∧o+xs.length≤cs.length∨(xs=[]∧Fl=cs)
 |[],[],cs,Fl,arr,o,h,_,e=>by simp only[D6,WL]at e;exact .inr ⟨rfl,e.symm⟩
 |x::xs,v::vs,cs,Fl,arr,o,h,hx,e=>by
  simp only[D6]at e;split at e
  case isFalse=>cases e
  rename_i ho;have h1:HF E w vw (cs.set o x) (arr.setIfInBounds o v).toList:=by
   rw[Array.toList_setIfInBounds];exact AF.set h hx.1
  rcases EH h1 hx.2 e with⟨h2,h3⟩|⟨rfl,rfl⟩
  ·refine .inl ⟨h2,?_⟩
   simp at h3⊢;omega
  ·cases vs with
   |nil=>exact .inl ⟨h1,by simp;omega⟩
   |cons _ _=>exact hx.2.elim
 |[],_::_,_,_,_,_,_,hx,_=>hx.elim
 |_::_,[],_,_,_,_,_,hx,_=>hx.elim
section
variable{Y:Type} {P:Program} {T:Bb} (hT:An P T) {o:Oper} {E:Env} {σ:St} {a:Act} {w:World} {k:K Y} {y:Y}
def Mo(E:Env)(w:World)(vw:List Bx)(l:List (Nat×XV))(m:List (Nat×Value)):Prop:=AF (fun x v=>x.1=v.1∧XR E w vw x.2 v.2) l m
theorem Jb(h:Rel E σ a w)(ps:Array (Nat×Operand)):Mo E w σ.bx (ps.toList.map fun q=>(q.1,σ.ev q.2)) (ps.map fun(i,x)=>(i,a.eval x)).toList:=by
 rw[Array.toList_map]
 generalize ps.toList=l
 induction l with
 |nil=>trivial
 |cons q l ih=>exact⟨⟨rfl,h.ev q.2⟩,ih⟩
theorem K_{place:Nat→Option V8}{i off size:Nat}(hp:place i=some (off,size)){cells:Array Value}{v:Value}{rest:List (Nat×Value)}(h1:v.cells.size=size)(h2:off+v.cells.size≤cells.size):
  Instr.fill place cells ((i,v)::rest)=Instr.fill place (As cells off v.cells.toList) rest:=by
 have e:v.cells.zipIdx.foldl (fun cs (q:Value×Nat)=>cs.setIfInBounds (off+q.2) q.1) cells=As cells off v.cells.toList:=by
  rw[←Array.foldl_toList];have:(v.cells.zipIdx).toList=v.cells.toList.zipIdx:=by simp
  rw[this];exact KG off v.cells.toList 0 cells
 conv=>lhs;unfold Instr.fill
 simp only[hp];rw[Wr (by simp;omega)];exact congrArg (fun c=>Instr.fill place c rest) e
theorem KB{α β:Type}{f:α→Option β}{g:α→β}:∀{l:List α},(∀x∈l,f x=some (g x))→l.mapM f=some (l.map g)
 |[],_=>rfl
 |x::l,h=>by
  simp only[Xv,h x (by simp),KB (l:=l) (g:=g) (fun y hy=>h y (by simp[hy]))];rfl
include hT
theorem FY{fs:List V8}{vw:List Bx}:∀{parts:List (Nat×XV)} {vals:List (Nat×Value)} {cs Fl:List AV} {arr:Array Value},Mo E w vw parts vals→HF E w vw cs arr.toList→HB T fs cs parts=some Fl→
  ∃B8:Array Value,Instr.fill (fun i=>(fs[i]?).bind fun q=>((P.info? q.2).map fun i=>(q.1,i.size))) arr vals=some B8∧HF E w vw Fl B8.toList
 |[],[],cs,Fl,arr,_,h,e=>by
  simp only[HB,WL]at e;subst e;exact⟨arr,rfl,h⟩
 |(i,x)::ps,(j,v)::vs,cs,Fl,arr,hp,h,e=>by
  obtain⟨⟨P7,hx⟩,hp⟩:=hp;simp only at P7 hx;subst P7;simp only[HB]at e;split at e
  case h_2=>cases e
  rename_i off u hf;split at e
  case h_2=>cases e
  rename_i ti Cw;split at e
  case isFalse=>cases e
  rename_i hc;obtain⟨c1,c2,c3⟩:=hc;simp only[WN]at e;obtain⟨cs1,e1,e2⟩:=e;have I5:x.cells≠[]:=by intro h0;rw[h0]at c1;simp at c1;omega
  obtain⟨x1,x2⟩:=Jt hx c3 I5;rcases EH h x1 e1 with⟨s1,s2⟩|⟨s1,_⟩
  ·have CK:v.cells.size=ti.size:=by
    have:=x1.len;rw[←c1,this];simp
   have hlen:=h.len;obtain⟨B8,f1,f2⟩:=FY hp s1 e2;refine⟨B8,?_,f2⟩;have Q3:(fun i=>(fs[i]?).bind fun q=>((P.info? q.2).map fun i=>(q.1,i.size))) i=some (off,ti.size):=by
    have:=An.size hT Cw;cases hq:P.info? u with
    |none=>simp[hq]at this
    |some iu=>simp[hq]at this;simp[hf,hq,this]
   rw[K_ (i:=i) (off:=off) (size:=ti.size) Q3 CK (by simp at hlen;omega)];exact f1
  ·exact absurd s1 I5
 |[],_::_,_,_,_,hp,_,_=>hp.elim
 |_::_,[],_,_,_,hp,_,_=>hp.elim
theorem Mc(h:Rel E σ a w){t:TypeId}{ps:Array (Nat×Operand)}(ho:o.op= .build t ps){s b:Nat}{fs:List V8}{rw:Option Ty}(Cw:T.get t=some ⟨s,b,.st fs,rw⟩){r:Ty}(hr:T.Hc t=some r)
  {cs:List AV} (hb:HB T fs (FO r) (ps.toList.map fun q=>(q.1,σ.ev q.2))=some cs) (e:k (.agg cs) σ=some y):Bo P o E σ a w k y:=by
 obtain⟨i,z,h1,h2,h3,_⟩:=row_zero hT hr;obtain⟨fields,hu,hfs,CK⟩:=PY hT Cw;obtain⟨B8,f1,f2⟩:=FY hT (Jb h ps) (arr:=z.cells) (by rw[h3];exact Ea r) hb;refine Bo.same h (v:= .agg B8) (x:= .agg cs) ?_ ⟨B8,rfl,f2⟩ e
 have hb:P.built t (ps.map fun(i,x)=>(i,a.eval x)).toList=some B8:=by
  unfold Program.built;simp only[h1,hu,h2];have hm:fields.toList.mapM (fun f=>(P.info? f.type).map fun i=>(f.offset,i.size))=some (fields.toList.map fun f=>(f.offset,((P.info? f.type).map (·.size)).getD 0)):=by
   refine KB fun f hf=> ?_
   obtain⟨i',NR,_⟩:=CK f hf;simp[NR]
  simp only[hm];rw[←f1];congr 1;funext n;subst hfs;simp only[List.getElem?_toArray,Wl];cases hn:fields.toList[n]? with
  |none=>simp
  |some f=>
   obtain⟨i',NR,_⟩:=CK f (WT hn);simp[NR]
 have:=run_build (P:=P) w t (ps.map fun(i,x)=>(i,a.eval x)) B8 hb;simp only[execOp,ho,Sem.run_bind,this,Result.andThen_ok,Sem.run_pure]
end
end Go.Fw
end
section
namespace Go.Fw
theorem wrap_small{n:Int}(h0:0≤n)(h1:n≤(FE:Int)):IntKind.i64.wrap n=n:=by
 simp only[FE]at h1;unfold IntKind.wrap;simp only[IntKind.bits,IntKind.signed];have e:n%(2^64:Int)=n:=Int.emod_eq_of_lt h0 (by omega);simp only[e];rw[Wr (by simp;omega)]
theorem Am{m:Nat}{zl:List Value}:((List.replicate m zl).flatten).length=m*zl.length:=by
 induction m with
 |zero=>simp
 |succ m ih=>simp only[XT,Wv,Wb,ih,Xm];omega
theorem B6{zl:List Value}:∀{m i:Nat},i<m*zl.length→((List.replicate m zl).flatten)[i]? =zl[i%zl.length]?
 |0,i,h=>by simp at h
 |m+1,i,h=>by
  simp only[XT,Wv];by_cases hi:i<zl.length
  ·rw[WO hi,Nat.mod_eq_of_lt hi]
  ·have NR:zl.length≤i:=by omega
   rw[WW NR,B6 (by rw[Xm]at h;omega),←Nat.mod_eq_sub_mod NR]
theorem FM{zero:Array Value}{zl:List Value}(hz:zero.toList=zl)(m:Nat)(h0:zl≠[]):((Array.range (m*zl.length)).map (fun i=>zero[i%zero.size]!)).toList=(List.replicate m zl).flatten:=by
 have hs:zero.size=zl.length:=by rw[←hz];simp
 have S_:0<zl.length:=List.length_pos_iff.2 h0;apply XL;intro i;by_cases hi:i<m*zl.length
 ·rw[B6 hi]
  have Rp:i%zl.length<zl.length:=Nat.mod_lt _ S_;simp only[Array.toList_map,Array.toList_range,Wl,List.getElem?_range hi,XX,hs];rw[WK Rp];congr 1;subst hz;have VU:i%zero.size<zero.size:=by rw[hs];exact Rp
  simp[VU,←hs]
 ·have h1:((Array.range (m*zl.length)).map (fun i=>zero[i%zero.size]!)).toList.length≤i:=by simp;omega
  rw[XZ h1,XZ (by rw[Am];omega)]
section
variable{Y:Type} {P:Program} {T:Bb} (hT:An P T) {o:Oper} {E:Env} {σ:St} {a:Act} {w:World} {k:K Y} {y:Y}
include hT
theorem Ge{e:Nat}{ti:TI}{r:Ty}(he:T.get e=some ti)(hr:ti.row=some r):∃i z,P.info? e=some i∧i.size=ti.size∧i.bytes=ti.bytes∧i.zero=some z∧z.cells.toList=Ax r∧r.Lj=true:=by
 obtain⟨i,h1,h2,h3,h4⟩:=(hT e ti he).info;obtain⟨hg,z,h5,h6⟩:=h4 r hr;exact⟨i,z,h1,h2,h3,h5,h6,hg⟩
theorem OG(h:Rel E σ a w){t:TypeId}{l c:Operand}(ho:o.op= .makeSlice t l c)(e:Kn T t σ (σ.ev l) (σ.ev c) k=some y):Bo P o E σ a w k y:=by
 unfold Kn at e;split at e
 case h_2=>cases e
 rename_i el n m hd hl hc;split at e
 case h_2=>cases e
 rename_i r hr;split at e
 case isFalse=>cases e
 rename_i HT;split at e
 case isFalse=>cases e
 rename_i hb;obtain⟨b0,b1,b2⟩:=hb;obtain⟨el',ti,hu,Cw,hs,SH,hrow⟩:=CG hT HT;obtain⟨i,z,i1,i2,i3,i4,i5,hg⟩:=Ge hT Cw hrow;obtain⟨κ1,e1⟩:=BI hl (h.ev l);obtain⟨κ2,e2⟩:=BI hc (h.ev c);have w1:=wrap_small b0 (by omega);have w2:=wrap_small (n:=m) (by omega) b2
 let arr:Array Value:=(Array.range (m.toNat*r.n)).map (fun j=>(if m.toNat*r.n=0 then #[]else z.cells)[j%(if m.toNat*r.n=0 then(#[]:Array Value)else z.cells).size]!)
 have G3:arr.toList=(List.replicate n.toNat (Ax r)).flatten++(List.replicate (m.toNat-n.toNat) (Ax r)).flatten:=by
  have hz:=Ba r;have split:(List.replicate n.toNat (Ax r)).flatten++(List.replicate (m.toNat-n.toNat) (Ax r)).flatten=(List.replicate m.toNat (Ax r)).flatten:=by
   rw[←W6,List.replicate_append_replicate];congr 2;omega
  rw[split];by_cases h0:m.toNat*r.n=0
  ·have:arr.toList=[]:=by simp[arr,h0]
   rw[this]
   symm
   rw[←List.length_eq_zero_iff,Am,hz,h0]
  ·have I5:Ax r≠[]:=by
    intro he;rw[he]at hz;simp at hz;rw[←hz]at h0;simp at h0
   have:=FM i5 m.toNat I5;rw[hz]at this;simp only[arr,Wr h0];exact this
 let w':=w.alloc (.cells arr el')
 have new:w'.heap[w.heap.size]? =some (.cells arr el'):=by
  show(w.heap.push (.cells arr el'))[w.heap.size]? =_
  simp
 have P9:arr.size=m.toNat*r.n:=by simp[arr]
 have how:Ow w' E.S (8+1) (.sl r) [.slice (some ⟨w.heap.size,0,none⟩) (List.replicate n.toNat r.z).length m.toNat] (List.replicate n.toNat r.z) (w.heap.size::(List.replicate n.toNat ([]:V6)).flatten):=by
  refine Ho new G3 (by simp) (by simp;omega) (by omega) (IC _) (by simp) fun i cs y G h1 h2 h3=> ?_
  simp only[List.getElem?_replicate]at h1 h2 h3;split at h1
  ·rename_i hi
   rw[Wt hi]at h2 h3;cases h1;cases h2;cases h3;exact HO hg
  ·cases h1
 have hF:(List.replicate n.toNat ([]:V6)).flatten=[]:=by simp
 rw[hF]at how;simp only[List.length_replicate]at how;obtain⟨r1,r2,r3⟩:=DE h (A0.refl h.bx) (w':=w') (d:=9) (by omega) how (by simp) (by simp) (by simp[w']) (fun c hc _=>CT hc) ⟨rfl,rfl,rfl,by simp[w']⟩;refine⟨_,_,_,_,_,.inl ?_,r1,r3,r2.any,rfl,e⟩;have Te:(i.bytes:Int)*m≤2^48:=by
  have h1:(i.bytes:Int)≤512:=by omega
  have h2:(i.bytes:Int)*m≤512*m:=Int.mul_le_mul_of_nonneg_right h1 (by omega);simp only[FE]at b2;omega
 simp only[execOp,ho,Instr.makeSlice,e1,e2,Sem.run_bind,AD hu,Result.andThen_ok,asInt,asIntOf,Sem.run_pure,typeInfo,run_program,i1,w1,w2];rw[Wr (by simp;omega)];by_cases h0:m.toNat*r.n=0
 ·have e3:arr=(Array.range (m.toNat*r.n)).map (fun j=>(#[]:Array Value)[j%(#[]:Array Value).size]!):=by simp only[arr,Wt h0]
  simp only[Sem.run_bind,run_askRoom,Result.andThen_ok,sizeOf,typeInfo,run_program,i1,Sem.run_pure,i2,hs,h0,Xh,newRow,run_newObj];simp only[w',e3,h0];rfl
 ·have e3:arr=(Array.range (m.toNat*r.n)).map (fun j=>z.cells[j%z.cells.size]!):=by simp only[arr,Wr h0]
  simp only[Sem.run_bind,run_askRoom,Result.andThen_ok,sizeOf,typeInfo,run_program,i1,Sem.run_pure,i2,hs,h0,XS,newRow,run_newObj,zeroValue,i4];simp only[w',e3];rfl
end
end Go.Fw
end
section
namespace Go.Fw
theorem HK{w:World}{B S:Nat→Prop}{d:Nat}:∀{r:Ty} {cs:List Value} {x:r.D},r.flat=true→Rd w B r cs x→Ow w S d r cs x []
 | .cons c r,cs,x,h,hr=>by
  simp only[Ty.flat,WY]at h;simp only[Rd]at hr;obtain⟨v,l,rfl,h1,h2⟩:=hr;simp only[Ow];exact⟨v,l,[],[],rfl,rfl,HK h.1 h1,HK h.2 h2⟩
 | .unit,_,_,_,hr=>by simp only[Rd]at hr;simp[Ow,hr]
 | .int k,_,_,_,hr=>by simp only[Rd]at hr;simp[Ow,hr]
 | .bool,_,_,_,hr=>by simp only[Rd]at hr;simp[Ow,hr]
 | .str,_,_,_,hr=>by simp only[Rd]at hr;simp[Ow,hr]
 | .sl q,_,_,h,_=>by simp[Ty.flat]at h
theorem H9{P:Program}{w:World}{b o:Nat}{cs:List Value}(h:AG w b o cs):(loadCells ⟨b,o,none⟩ cs.length).run P w= .ok cs.toArray w:=
 run_loadCells_list (P:=P) w ⟨b,o,none⟩ cs fun j v hv=>by rw[Addr.add_eq];exact h j v hv
theorem EI{P:Program}{w:World}(a:Addr):(loadCells a 0).run P w= .ok #[] w:=by
 simpa using run_loadCells_list (P:=P) w a [] (by simp)
theorem EK{l:List Value}:(l.map fun v=>[v]).flatten=l:=by
 induction l with
 |nil=>rfl
 |cons a l ih=>simp[ih]
theorem Ly{w:World}{B:Nat→Prop}{r:Ty}{b o:Nat}{ys:List r.D}(h:∀(i:Nat) (y:r.D),ys[i]? =some y→ ∃cs,cs.length=r.n∧AG w b (o+i*r.n) cs∧Rd w B r cs y):
  ∃css:List (List Value),css.length=ys.length∧(∀c∈css,c.length=r.n)∧AG w b o css.flatten∧ ∀(i:Nat) cs y,css[i]? =some cs→ys[i]? =some y→Rd w B r cs y:=by
 induction ys generalizing o with
 |nil=>exact⟨[],rfl,by simp,fun _ _ h=>by simp at h,fun i cs y h=>by simp at h⟩
 |cons y ys ih=>
  obtain⟨cs,c1,c2,c3⟩:=h 0 y rfl;obtain⟨css,d1,d2,d3,d4⟩:=ih (o:=o+r.n) (fun i z hz=>by
   obtain⟨cs,e1,e2,e3⟩:=h (i+1) z (by simpa using hz);refine⟨cs,e1,?_,e3⟩;rw[W8,Xj]at e2
   rwa [show o+r.n+i*r.n=o+(i*r.n+r.n)by omega])
  refine⟨cs::css,by simp[d1],by simpa using⟨c1,d2⟩,?_,?_⟩
  ·intro j v hj
   simp only[Wv]at hj;by_cases ON:j<cs.length
   ·rw[WO ON]at hj
    have:=c2 j v hj;simpa using this
   ·rw[WW (by omega)]at hj
    have:=d3 _ v hj
    rwa [show o+r.n+(j-cs.length)=o+j by omega]at this
  ·intro i Fl z h1 h2
   cases i with
   |zero=>simp at h1 h2;subst h1 h2;exact c3
   |succ i=>exact d4 i Fl z (by simpa using h1) (by simpa using h2)
theorem AG.append{w:World}{b o:Nat}{l m:List Value}(h:AG w b o l)(k:AG w b (o+l.length) m):AG w b o (l++m):=by
 intro j v hj;by_cases ON:j<l.length
 ·rw[WO ON]at hj
  exact h j v hj
 ·rw[WW (by omega)]at hj
  have:=k _ v hj
  rwa [show o+l.length+(j-l.length)=o+j by omega]at this
section
variable{Y:Type} {P:Program} {T:Bb} (hT:An P T) {o:Oper} {E:Env} {σ:St} {a:Act} {w:World} {k:K Y} {y:Y}
theorem BN(hT:An P T){t:Nat}{d:TD}(e:(T.get t).map TI.desc=some d):G_ P t d:=by
 simp only[WM]at e;obtain⟨ti,h1,rfl⟩:=e;exact(hT t ti h1).Ot
theorem JN{src dst e:Nat}(hs:P.underlying src=some (.slice e))(he:P.underlying e=some (.int .u8))(hd:P.underlying dst=some .string){x:Value}{l:List Int}{B:Nat→Prop}
  (h:Rd w B (.sl (.int .u8)) [x] l):(convert src dst x).run P w= .ok (.string ⟨(l.map fun n:Int=>UInt8.ofNat n.toNat).toArray⟩) w:=by
 simp only[Rd]at h;obtain⟨a,cap,hx,hle,h⟩:=h;simp only[Wg,W3]at hx;subst hx;rcases h with h|⟨b,o,rfl,_,h⟩
 ·obtain rfl:=Wd h
  cases a with
  |none=>exact run_convert_bytes_nil w src e hs he _ _ dst hd
  |some a=>
   rw[run_convert_bytes_string w src dst e _ _ cap hs he hd];have:=_root_.Go.run_bytesToString (P:=P) w a 0 cap [] (by simpa using EI (P:=P) (w:=w) a);simp only[Wm]at*;rw[this];rfl
 ·refine run_convert_bytes_arg w src e hs he b o _ cap l rfl (fun i hi=> ?_) dst hd
  obtain⟨cs,c1,c2,c3⟩:=h i _ (WK hi);subst c3;have:=c2 0 _ rfl;simp only[Ty.n,Nat.mul_one,XJ]at this;rw[this];simp[List.getD,hi]
include hT in
theorem N3(h:Rel E σ a w){src dst:Nat}{x:Operand}(ho:o.op= .convert src dst x)(e:Km T src dst σ (σ.ev x) k=some y):Bo P o E σ a w k y:=by
 have hx:=h.ev x;unfold Km at e;split at e
 ·rename_i κ0 κ j n hs hd hv
  have h1:=BN hT hs;have h2:=BN hT hd;rw[hv]at hx;have Fi:=Fb (E:=E) (w:=w) (vw:=σ.bx) hx;refine Bo.same h (v:= .int κ (κ.wrap n)) (x:= .c (.v (.int κ) (κ.wrap n))) ?_ (VR.int (E:=E) (vw:=σ.bx) _ _) e
  simp only[G_]at h1 h2;simp only[execOp,ho,Fi,convert,Sem.run_bind,AD h1,AD h2,Result.andThen_ok,Conv.intToInt,Sem.run_pure]
 ·rename_i s hs hd hv
  have h1:=BN hT hs;have h2:=BN hT hd;rw[hv]at hx;have Fi:=D_ (E:=E) (w:=w) (vw:=σ.bx) hx;refine Bo.same h (v:= .string ⟨s.toArray⟩) (x:= .c (.v .str s)) ?_ (VR.str (E:=E) (vw:=σ.bx) _) e
  simp only[G_]at h1 h2;simp only[execOp,ho,Fi,convert,Sem.run_bind,AD h1,AD h2,Result.andThen_ok,Sem.run_pure]
 ·rename_i el s hs hd hv
  have h1:=BN hT hs;have h2:=BN hT hd;rw[hv]at hx;have Fi:=D_ (E:=E) (w:=w) (vw:=σ.bx) hx;split at e
  case h_2=>cases e
  rename_i HT;have h3:=BN hT HT;split at e
  case isFalse=>cases e
  rename_i Ka;simp only[G_]at h1 h2 h3
  let S0:ByteArray:=⟨s.toArray⟩
  have CK:S0.size=s.length:=by simp[S0,ByteArray.size]
  have Ki:=Lib.run_convert_string_bytes (P:=P) w src dst el S0 h1 h2 h3;have Oy:s.length≤grownCap w S0.size 0 el:=by rw[CK];exact grownCap_ge _ _ _ _
  have new:=Lib.bytesWorld_at_new w el S0;have G3:(Lib.bytesCells w el S0).toList=(s.map fun c=>[Value.int .u8 (c.toNat:Int)]).flatten++List.replicate (grownCap w S0.size 0 el-S0.size) (.int .u8 0):=by
   have:(s.map fun c=>[Value.int .u8 (c.toNat:Int)]).flatten=s.map fun c=>Value.int .u8 (c.toNat:Int):=by
    have:=EK (l:=s.map fun c=>Value.int .u8 (c.toNat:Int));simpa[Xt,Function.comp_def]using this
   rw[this];simp[Lib.bytesCells,S0]
  have P9:(Lib.bytesCells w el S0).size=grownCap w S0.size 0 el:=by
   rw[←XU,G3];have:((s.map fun c=>[Value.int .u8 (c.toNat:Int)]).flatten).length=s.length:=by
    have:=EK (l:=s.map fun c=>Value.int .u8 (c.toNat:Int));rw[Xt]at this;have e2:(s.map fun c=>[Value.int .u8 (c.toNat:Int)])=s.map ((fun v=>[v])∘fun c=>Value.int .u8 (c.toNat:Int)):=rfl;rw[e2,this];simp
   rw[Wb,this,List.length_replicate];omega
  have how:Ow (Lib.bytesWorld w el S0) E.S (8+1) (.sl (.int .u8)) [.slice (some ⟨w.heap.size,0,none⟩) (s.map fun c=>(c.toNat:Int)).length (grownCap w S0.size 0 el)] (s.map fun c=>(c.toNat:Int))
    (w.heap.size::(List.replicate s.length ([]:V6)).flatten):=by
   refine Ho (css:=s.map fun c=>[Value.int .u8 (c.toNat:Int)]) new G3 (by simp) (by simpa using Oy) (by simp[Ty.n];omega) (fun i hi hh=>by simp only[mk]at hi;omega) (by simp) fun i cs y G q1 q2 q3=> ?_
   simp only[Wl,WM]at q1 q2;obtain⟨c1,z1,rfl⟩:=q1;obtain⟨c2,z2,rfl⟩:=q2;rw[z1]at z2;cases z2;have:G=[]:=W5 (WT q3);subst this;simp[Ow]
  have hF:(List.replicate s.length ([]:V6)).flatten=[]:=by simp
  rw[hF]at how;obtain⟨r1,r2,r3⟩:=DE h (A0.refl h.bx) (w':=Lib.bytesWorld w el S0) (d:=9) (by omega) how (by simp) (by simp) (by simp[Lib.bytesWorld_size]) (fun c hc _=>Lib.bytesWorld_at_old w el S0 c hc)
   ⟨by simp[Lib.bytesWorld,World.freeze]<;>rfl,by simp[Lib.bytesWorld,World.freeze]<;>rfl,by simp[Lib.bytesWorld,World.freeze]<;>rfl,by rw[Lib.bytesWorld_size];omega⟩
  refine⟨_,_,_,_,_,.inl ?_,r1,r3,r2.any,rfl,e⟩;simp only[execOp,ho,Fi,Sem.run_bind];have e5:=Ki;simp only[S0]at e5;rw[e5];simp only[Result.andThen_ok,Sem.run_pure,List.length_map];rfl
 ·rename_i el z hs hd hv
  have h1:=BN hT hs;have h2:=BN hT hd;rw[hv]at hx;split at e
  case h_2=>cases e
  rename_i l HT hl;have h3:=BN hT HT;simp only[G_]at h1 h2 h3;obtain⟨Fs,hB,hS⟩:=h.bx;have Fa:=DQ (Aj.refl σ.bx) hB hS.st hx hl;have hr:=JN (P:=P) h1 h3 h2 Fa;refine Bo.same h (v:= .string ⟨(l.map fun n:Int=>UInt8.ofNat n.toNat).toArray⟩) (x:= .c (.v .str (l.map fun n:Int=>UInt8.ofNat n.toNat))) ?_ (VR.str (E:=E) (vw:=σ.bx) _) e
  simp only[execOp,ho,Sem.run_bind,hr,Result.andThen_ok,Sem.run_pure]
 ·cases e
end
end Go.Fw
end
section
namespace Go.Fw
theorem Fj:∀(l:List Value) (o:Nat) (arr:Array Value) (p q:List Value),p.length=o→(∃m:List Value,m.length=l.length∧arr.toList=p++m++q)→(As arr o l).toList=p++l++q
 |[],o,arr,p,q,hp,⟨m,hm,h⟩=>by
  have:m=[]:=Wd (by simpa using hm);subst this;simpa[As]using h
 |c::l,o,arr,p,q,hp,⟨m,hm,h⟩=>by
  cases m with
  |nil=>simp at hm
  |cons b m=>
   simp only[As];have:=Fj l (o+1) (arr.setIfInBounds o c) (p++[c]) q (by simp[hp]) ⟨m,by simpa using hm,by
    rw[Array.toList_setIfInBounds,h];subst hp;simp⟩
   rw[this];simp
theorem A0.more{E E1 E2:Env}{w:World}{vw bx HU Et:List Bx}{G F1 F2 A W:V6}(k1:A0 E w vw bx G E1 HU F1)(k2:A0 E1 w vw HU (F1++G) E2 Et F2)(hp:F1.Perm (A++W)):
  let E3:Env:={ E2 with S:=fun c=>E2.S c∨c∈W,T:=fun c=>E2.T c∨c∈W }
  A0 E w vw bx G E3 Et (A++F2):=by
 intro E3;have hB:=k2.boxes.perm (G':=(F2++A)++W++G) (by
  rw[WR F2 A W,WR F2];exact We _ (WX _ hp))
 obtain⟨hle,Dv⟩:=hB.share;exact⟨(k1.le.trans k2.le).trans hle,k2.len.trans k1.len,fun b B hb=>(k2.within b B hb).elim .inl (k1.within b B),Dv.perm (WX _ Wf)⟩
theorem Ep{w:World}{vw:List Bx}{r:Ty}(hg:r.Lj=true):∀{n i:Nat} {parts:List (Nat×XV)} {vals:List (Nat×Value)} {E:Env} {bx:List Bx} {G:V6} {d:Nat} {rows:List r.D} {Cd:List Bx} {d':Nat},
  AK E w vw bx G→Aj bx vw→1≤d→Mo E w vw parts vals→Eb r i n parts bx d=some (rows,Cd,d')→1≤d'∧d'≤d∧rows.length=n∧ ∃(E':Env) (Fs:List V6) (css:List (List Value)),
   A0 E w vw bx G E' Cd Fs.flatten∧css.length=n∧Fs.length=n∧(∀(k:Nat) cs y G,css[k]? =some cs→rows[k]? =some y→Fs[k]? =some G→Ow w E'.S (d'-1) r cs y G)∧
   ∀(pre:List (List Value)) (arr:Array Value),pre.length=i→(∀c∈pre,c.length=r.n)→arr.toList=pre.flatten++(List.replicate n (Ax r)).flatten→
    ∃B8,Instr.fill (fun i=>some (i*r.n,r.n)) arr vals=some B8∧B8.toList=pre.flatten++css.flatten
 |0,i,[],[],E,bx,G,d,rows,Cd,d',h,hw,hd,hp,e=>by
  simp only[Eb,WL,Wn]at e;obtain⟨rfl,rfl,rfl⟩:=e;refine⟨hd,Wu _,rfl,E,[],[],A0.refl h,rfl,rfl,by simp,fun pre arr _ _ ha=>⟨arr,rfl,by simpa using ha⟩⟩
 |n+1,i,(j,x)::l,(j',v)::m,E,bx,G,d,rows,Cd,d',h,hw,hd,hp,e=>by
  obtain⟨⟨hj,hx⟩,hp⟩:=hp;simp only at hj hx;subst hj;simp only[Eb]at e;split at e
  case isFalse=>cases e
  rename_i P7;subst P7;simp only[WN,WM,Wn]at e;obtain⟨⟨y1,HU,d1⟩,e1,⟨y2,Et,d2⟩,e2,rfl,rfl,rfl⟩:=e;dsimp only at e2⊢;obtain⟨a1,a2,E1,F1,k1,o1⟩:=MM h hw hd hx e1;have MA:=k1.le.keep (w:=w) (vw:=vw) h.st;obtain⟨b1,b2,b3,E2,Fs,css,k2,c1,c2,c3,c4⟩:=Ep hg (G:=F1++G) k1.boxes (hw.JT k1) a1 (hp.imp fun _ _ q=>⟨q.1,CN MA q.2⟩) e2;obtain⟨A,W,IZ,o1'⟩:=Bc (d:=d'-1) (by omega) o1;refine⟨b1,XN b2 a2,by simp[b3],_,A::Fs,v.cells.toList::css,A0.more k1 k2 IZ,by simp[c1],by simp[c2],fun k cs y G' q1 q2 q3=> ?_,fun pre arr SD RJ ha=> ?_⟩
  ·cases k with
   |zero=>
    simp at q1 q2 q3;subst q1 q2 q3;refine Ae (S:=fun b=>E1.S b∨b∈W) ?_ (fun _ _=>rfl) (fun _ _=>rfl) o1'
    intro c hc;exact hc.elim (fun h=> .inl (k2.le.S c h)) .inr
   |succ k=>
    refine Ae (S:=E2.S) ?_ (fun _ _=>rfl) (fun _ _=>rfl) (c3 k cs y G' (by simpa using q1) (by simpa using q2) (by simpa using q3))
    intro c hc;exact .inl hc
  ·have hlen:v.cells.toList.length=r.n:=EJ o1
   have SB:pre.flatten.length=i*r.n:=by
    clear ha c4
    subst SD;clear e1 e2
    induction pre with
    |nil=>simp
    |cons c pre ih=>simp[RJ c (by simp),ih (fun c hc=>RJ c (by simp[hc])),Xm];omega
   have Ft:(As arr (i*r.n) v.cells.toList).toList=pre.flatten++v.cells.toList++(List.replicate n (Ax r)).flatten:=
    Fj _ _ _ _ _ SB ⟨Ax r,by rw[Ba,hlen],by rw[ha];simp[XT]⟩
   obtain⟨B8,f1,f2⟩:=c4 (pre++[v.cells.toList]) (As arr (i*r.n) v.cells.toList) (by simp[SD]) (by
    intro c hc;rcases Wc.1 hc with hc|hc
    ·exact RJ c hc
    ·simp at hc;subst hc;exact hlen) (by rw[Ft];simp)
   refine⟨B8,?_,by rw[f2];simp⟩;rw[K_ (i:=i) (off:=i*r.n) (size:=r.n) rfl (by simpa using hlen) ?_]
   ·exact f1
   ·have h1:arr.size=arr.toList.length:=by simp
    rw[h1,ha,Wb,SB,Am,Ba];simp at hlen;rw[hlen,Xm];omega
 |n+1,i,[],[],E,bx,G,d,rows,Cd,d',h,hw,hd,hp,e=>by
  simp only[Eb,WM,Wn]at e;obtain⟨⟨y2,Et,d2⟩,e2,rfl,rfl,rfl⟩:=e;obtain⟨b1,b2,b3,E2,Fs,css,k2,c1,c2,c3,c4⟩:=Ep hg (G:=G) h hw hd (parts:=[]) (vals:=[]) trivial e2;refine⟨b1,b2,by simp[b3],E2,[]::Fs,Ax r::css,by simpa using k2,by simp[c1],by simp[c2],fun k cs y G' q1 q2 q3=> ?_,fun pre arr SD RJ ha=> ?_⟩
  ·cases k with
   |zero=>
    simp at q1 q2 q3;subst q1 q2 q3;exact HO hg
   |succ k=>exact c3 k cs y G' (by simpa using q1) (by simpa using q2) (by simpa using q3)
  ·obtain⟨B8,f1,f2⟩:=c4 (pre++[Ax r]) arr (by simp[SD]) (by
    intro c hc;rcases Wc.1 hc with hc|hc
    ·exact RJ c hc
    ·simp at hc;subst hc;exact Ba r) (by rw[ha];simp[XT])
   exact⟨B8,f1,by rw[f2];simp⟩
 |0,_,_::_,_,_,_,_,_,_,_,_,_,_,_,_,e=>by simp[Eb]at e
 |0,_,[],_::_,_,_,_,_,_,_,_,_,_,_,hp,_=>hp.elim
 |_+1,_,[],_::_,_,_,_,_,_,_,_,_,_,_,hp,_=>hp.elim
 |_+1,_,_::_,[],_,_,_,_,_,_,_,_,_,_,hp,_=>hp.elim
section
variable{Y:Type} {P:Program} {T:Bb} (hT:An P T) {o:Oper} {E:Env} {σ:St} {a:Act} {w:World} {k:K Y} {y:Y}
include hT
theorem Iz(h:Rel E σ a w){t n:Nat}{ps:Array (Nat×Operand)}(ho:o.op= .buildSlice t n ps)(e:Cm T t n (ps.toList.map fun q=>(q.1,σ.ev q.2)) σ k=some y):Bo P o E σ a w k y:=by
 unfold Cm at e;split at e
 case h_2=>cases e
 rename_i el hd;split at e
 case h_2=>cases e
 rename_i r hr;split at e
 case isFalse=>cases e
 rename_i hc;simp only[WY,Wo]at hc;obtain⟨⟨HT,hn⟩,hrn⟩:=hc;simp only[WN]at e;obtain⟨⟨rows,Cd,d'⟩,e1,e⟩:=e;dsimp only at e;obtain⟨el',ti,hu,Cw,hs,SH,hrow⟩:=CG hT HT;obtain⟨i,z,i1,i2,i3,i4,i5,hg⟩:=Ge hT Cw hrow;have Qb:=Jb h ps;obtain⟨b1,b2,b3,E',Fs,css,k2,c1,c2,c3,c4⟩:=Ep hg h.bx (Aj.refl _) (by omega) Qb e1
 let zero:Array Value:=if n*r.n=0 then #[]else z.cells
 have hz:((Array.range (n*r.n)).map (fun j=>zero[j%zero.size]!)).toList=(List.replicate n (Ax r)).flatten:=by
  by_cases h0:n*r.n=0
  ·have h1:(List.replicate n (Ax r)).flatten=[]:=by
    rw[←List.length_eq_zero_iff,Am,Ba,h0]
   rw[h1];simp[h0]
  ·have I5:Ax r≠[]:=by
    intro he;have:=Ba r;rw[he]at this;simp at this;rw[←this]at h0;simp at h0
   have:=FM i5 n I5;rw[Ba]at this;simp only[zero,Wr h0];exact this
 obtain⟨B8,f1,f2⟩:=c4 [] _ rfl (by simp) (by rw[hz];simp);simp only[Xe,Xf]at f2
 let w':=w.alloc (.cells B8 el')
 have new:w'.heap[w.heap.size]? =some (.cells B8 el'):=by
  show(w.heap.push (.cells B8 el'))[w.heap.size]? =_
  simp
 obtain⟨d,rfl⟩:∃m,d' =m+1:=⟨d'-1,by omega⟩;have hl:∀c∈css,c.length=r.n:=by
  intro c hc;obtain⟨j,hj,rfl⟩:=W4 hc;exact EJ (c3 j _ _ _ (WK hj) (WK (by omega)) (WK (by omega)))
 have Q8:css.flatten.length=n*r.n:=by
  rw[←c1];clear f2 c3 c4 c1
  induction css with
  |nil=>simp
  |cons c l ih=>simp[hl c (by simp),ih (fun c hc=>hl c (by simp[hc])),Xm];omega
 have P9:B8.size=n*r.n:=by rw[←XU,f2,Q8]
 obtain⟨Fs0,Sl,Dv⟩:=k2.boxes;simp only[Wj]at Dv;have how:Ow w' E'.S (d+1) (.sl r) [.slice (some ⟨w.heap.size,0,none⟩) rows.length n] rows (w.heap.size::Fs.flatten):=by
  refine Ho (css:=css) (ex:=[]) new (by simpa using f2) (by omega) (by omega) (by omega) (IC _) (by omega) fun k cs y G q1 q2 q3=> ?_
  have Lq:∀c∈G,c∈Fs.flatten:=fun c hc=>Wh.2 ⟨G,WT q3,hc⟩
  exact Ae (fun _ h=>h) (fun c hc=>CT (Dv.GD c (Dv.st c hc))) (fun c hc=>CT (Dv.lt c (by simp only[Wc];exact .inr (Lq c hc)))) (by simpa using c3 k cs y G q1 q2 q3)
 rw[b3]at how;obtain⟨r1,r2,r3⟩:=DE h k2 (w':=w') (d:=d+1) (by omega) how (by
   intro c hc;rcases Wy.1 hc with rfl|hc
   ·exact .inr (Wu _)
   ·exact .inl hc) (by
   refine XM.2 ⟨fun hc=> ?_,(WS.1 Dv.nodup).2.1⟩;have:=Dv.lt w.heap.size (by simp only[Wc];exact .inr hc);omega) (by
   intro c hc;rcases Wy.1 hc with rfl|hc
   ·simp[w']
   ·have:=Dv.lt c (by simp only[Wc];exact .inr hc)
    simp[w'];omega) (fun c hc _=>CT hc) ⟨rfl,rfl,rfl,by simp[w']⟩
 refine⟨_,_,_,_,_,.inl ?_,r1,r3,r2.any,rfl,e⟩;have Ka: ¬(n*r.n>2^24):=by
  have:n*r.n≤1024*1024:=Nat.mul_le_mul hn hrn;omega
 simp only[execOp,ho,Instr.buildSlice,Sem.run_bind,AD hu,Result.andThen_ok,sizeOf,typeInfo,run_program,i1,Sem.run_pure,i2,hs,Ka,XS];by_cases h0:n*r.n=0
 ·have Tn:zero= #[]:=by simp only[zero,Wt h0]
  rw[Tn]at f1;simp only[h0,Xh,Sem.run_bind,Sem.run_pure,Result.andThen_ok];rw[h0]at f1;simp only[f1,newRow,Sem.run_bind,run_newObj,Result.andThen_ok,Sem.run_pure];rfl
 ·have Tn:zero=z.cells:=by simp only[zero,Wr h0]
  rw[Tn]at f1;simp only[h0,XS,Sem.run_bind,zeroValue,typeInfo,run_program,Result.andThen_ok,i1,Sem.run_pure,i4];simp only[f1,newRow,Sem.run_bind,run_newObj,Result.andThen_ok,Sem.run_pure];rfl
end
end Go.Fw
end
section
namespace Go.Fw
theorem FW(w:World)(b o:Nat)(v:Value):(w.setCell ⟨b,o,none⟩ v).heap=w.heap.modify b fun
 | .cells c elem frozen=> .cells (c.setIfInBounds o v) elem frozen
 |o=>o:=rfl
theorem Bf:∀(vs:List Value) (o:Nat) (w:World) (b:Nat) (arr:Array Value) (ty:TypeId) (fr:V8),w.heap[b]? =some (.cells arr ty fr)→
  (w.setCells b o vs).heap[b]? =some (.cells (As arr o vs) ty fr)
 |[],_,_,_,_,_,_,h=>h
 |v::l,o,w,b,arr,ty,fr,h=>by
  simp only[World.setCells,As];refine Bf l (o+1) _ b _ ty fr ?_
  rw[FW,Array.getElem?_modify,Wt rfl,h];rfl
theorem A3:∀(vs:List Value) (o:Nat) (w:World) (b:Nat),(w.setCells b o vs).heap.size=w.heap.size
 |[],_,_,_=>rfl
 |v::l,o,w,b=>by
  simp only[World.setCells];rw[A3 l,FW,Array.size_modify]
theorem Bm:∀(vs:List Value) (o:Nat) (w:World) (b c:Nat),c≠b→(w.setCells b o vs).heap[c]? =w.heap[c]?
 |[],_,_,_,_,_=>rfl
 |v::l,o,w,b,c,h=>by
  simp only[World.setCells];rw[Bm l _ _ _ _ h,FW,Array.getElem?_modify,Wr (fun e=>h e.symm)]
theorem AO:∀(vs:List Value) (o:Nat) (w:World) (b:Nat),Grown w (w.setCells b o vs)
 |[],_,_,_=>⟨rfl,rfl,rfl,Wu _⟩
 |v::l,o,w,b=>by
  have:=AO l (o+1) (w.setCell ⟨b,o,none⟩ v) b;refine⟨this.os,this.tape,this.output,?_⟩;rw[A3];exact Wu _
theorem Ds{arr:Array Value}:∀{l:List Value} {o j:Nat},o+l.length≤arr.size→(As arr o l)[j]? =if o≤j∧j<o+l.length then l[j-o]? else arr[j]?:=by
 intro l
 induction l generalizing arr with
 |nil=>intro o j _;rw[Wr (fun hh=>by simp only[Wm]at hh;omega)];rfl
 |cons c l ih=>
  intro o j h;simp only[Wa]at h;simp only[As];rw[ih (by simp;omega)];by_cases h1:o+1≤j∧j<o+1+l.length
  ·rw[Wt h1,Wt (by simp;omega)]
   rw[show j-o=(j-(o+1))+1 by omega];simp
  ·rw[Wr h1]
   by_cases h2:o=j
   ·subst h2
    rw[Wt (by simp),Array.getElem?_setIfInBounds_self_of_lt (by omega),Nat.sub_self];rfl
   ·rw[Wr (fun hh=>by simp only[Wa]at hh;omega),Array.getElem?_setIfInBounds_ne h2]
theorem B5{w:World}{b o:Nat}{arr:Array Value}{ty:TypeId}{fr:V8}(h:w.heap[b]? =some (.cells arr ty fr)):w.cell? ⟨b,o,none⟩=arr[o]?:=by
 simp[World.cell?,h]
theorem DU{w:World}{b o:Nat}{vs:List Value}{arr:Array Value}{ty:TypeId}{fr:V8}(h:w.heap[b]? =some (.cells arr ty fr))(hs:o+vs.length≤arr.size):AG (w.setCells b o vs) b o vs:=by
 intro j v hj;have hl:=(WJ.1 hj).1;rw[B5 (Bf vs o w b arr ty fr h),Ds hs,Wt (by omega),show o+j-o=j by omega,hj]
theorem Gl{w:World}{b b' o o':Nat}{vs cs:List Value}{arr:Array Value}{ty:TypeId}{fr:V8}(hc:AG w b' o' cs)(h:w.heap[b]? =some (.cells arr ty fr))(hs:o+vs.length≤arr.size)
  (ha:b'≠b∨o'+cs.length≤o∨o+vs.length≤o'):AG (w.setCells b o vs) b' o' cs:=by
 intro j v hj;have hl:=(WJ.1 hj).1;by_cases hb:b' =b
 ·subst hb
  have:=hc j v hj;rw[B5 h]at this;rw[B5 (Bf vs o w b' arr ty fr h),Ds hs,Wr (by omega),this]
 ·rw[World.cell?_of_block (a:=⟨b',o'+j,none⟩) (Bm vs o w b b' hb)]
  exact hc j v hj
theorem Hh{w:World}{b o n k:Nat}{arr:Array Value}{ty:TypeId}{fr:V8}(h:w.heap[b]? =some (.cells arr ty fr))(hs:o+n≤arr.size)(hu:Mt fr (arr.size+k)):w.there b o n:=by
 intro j hj;refine⟨?_,?_⟩
 ·rw[B5 h]
  simp;omega
 ·have:=hu (o+j) (by omega)
  obtain⟨lo,hi⟩:=fr;simp only[World.frozen?,h];simp at this⊢;omega
theorem Jj{w:World}{S:Nat→Prop}:∀{r:Ty} {d:Nat} {cs:List Value} {y:r.D} {F:V6},Ow w S d r cs y F→ ∀v∈cs,v.oneCell' =true
 | .int _,_,_,_,_,h,v,hv=>by simp only[Ow]at h;rw[h.1]at hv;simp at hv;subst hv;rfl
 | .bool,_,_,_,_,h,v,hv=>by simp only[Ow]at h;rw[h.1]at hv;simp at hv;subst hv;rfl
 | .str,_,_,_,_,h,v,hv=>by simp only[Ow]at h;rw[h.1]at hv;simp at hv;subst hv;rfl
 | .unit,_,_,_,_,h,v,hv=>by simp only[Ow]at h;rw[h.1]at hv;simp at hv
 | .sl _,0,_,_,_,h,v,hv=>by
  simp only[Ow,Rd]at h;obtain⟨⟨_,_,rfl,_⟩,_⟩:=h;simp at hv;subst hv;rfl
 | .sl _,_+1,_,_,_,h,v,hv=>by
  simp only[Ow]at h;obtain⟨_,_,rfl,_⟩:=h;simp at hv;subst hv;rfl
 | .cons _ _,_,_,_,_,h,v,hv=>by
  simp only[Ow]at h;obtain⟨u,l,F1,F2,rfl,_,h1,h2⟩:=h;rcases Wy.1 hv with rfl|hv
  ·exact Jj h1 _ (by simp)
  ·exact Jj h2 _ hv
section
variable{P:Program} {w:World}
structure KW (P:Program) (w:World) (size n:Nat) (x:Value) (news:List Value):Prop where
 len:∀w',(Builtin.lenOf x).run P w' = .ok n w'
 cells:∀w',w'.heap=w.heap→(Builtin.firstCells size n x).run P w' = .ok news.toArray w'
theorem Kj{ts:Array TypeId}{t u ty e:TypeId}(L2:ts[0]? =some t)(MU:ts[1]? =some u){i:TypeInfo}{size:Nat}(ht:P.underlying t=some (.slice e))(hu:(∃e,P.underlying u=some (.slice e))∨P.underlying u=some .string)(hi:P.info? e=some i)(CK:i.size=size)
  {b o Ek Ju n:Nat} {x:Value} {news:List Value} (hn:KW P w size n x news) (LA:Ek+n≤Ju) (T7:w.there b (o+Ek*size) news.length) (h1:∀v∈news,v.oneCell' =true):
  (Builtin.append_ ts ty #[.slice (some ⟨b,o,none⟩) Ek Ju,x]).run P w= .ok (.slice (some ⟨b,o,none⟩) (Ek+n) Ju) (w.setCells b (o+Ek*size) news):=by
 subst CK;have OH:=run_storeCells_cells (P:=P) b (o+Ek*i.size) news 0 w (fun j hj=>by simpa using(T7 j hj).1) (fun j hj=>by simpa using(T7 j hj).2) h1;simp only[XJ]at OH;have hl:=hn.len w;have hf:=hn.cells w rfl;rcases hu with⟨e',hu⟩|hu
 ·simp[Builtin.append_,L2,MU,run_underlying ht,run_underlying hu,sizeOf,typeInfo,hi,hl,LA,hf,Addr.add_eq,OH]
 ·simp[Builtin.append_,L2,MU,run_underlying ht,run_underlying hu,sizeOf,typeInfo,hi,hl,LA,hf,Addr.add_eq,OH]
theorem Iv{ts:Array TypeId}{t u ty e:TypeId}(L2:ts[0]? =some t)(MU:ts[1]? =some u){i:TypeInfo}{size:Nat}(ht:P.underlying t=some (.slice e))(hu:(∃e,P.underlying u=some (.slice e))∨P.underlying u=some .string)(hi:P.info? e=some i)(CK:i.size=size)
  {a:Option Addr} {x:Value} (hn:KW P w size 0 x []):
  (Builtin.append_ ts ty #[.slice a 0 0,x]).run P w= .ok (.slice a 0 0) w:=by
 subst CK;have hl:=hn.len w;have hf:=hn.cells w rfl;cases a with
 |none=>
  rcases hu with⟨e',hu⟩|hu
  ·simp[Builtin.append_,L2,MU,run_underlying ht,run_underlying hu,sizeOf,typeInfo,hi,hl,hf]
  ·simp[Builtin.append_,L2,MU,run_underlying ht,run_underlying hu,sizeOf,typeInfo,hi,hl,hf]
 |some a=>
  have OH:(storeCells (a.add (0*i.size)) [] 0).run P w= .ok () w:=rfl;rcases hu with⟨e',hu⟩|hu
  ·simp[Builtin.append_,L2,MU,run_underlying ht,run_underlying hu,sizeOf,typeInfo,hi,hl,hf,storeCells]
  ·simp[Builtin.append_,L2,MU,run_underlying ht,run_underlying hu,sizeOf,typeInfo,hi,hl,hf,storeCells]
theorem Ir{ts:Array TypeId}{t u ty e:TypeId}(L2:ts[0]? =some t)(MU:ts[1]? =some u){i:TypeInfo}{z:Value}{size:Nat}(ht:P.underlying t=some (.slice e))(hu:(∃e,P.underlying u=some (.slice e))∨P.underlying u=some .string)(hi:P.info? e=some i)(hz:i.zero=some z)(CK:i.size=size)
  {a:Option Addr} {Ek Ju n:Nat} {x:Value} {SO news:List Value} (ho:∀w',w'.heap=w.heap→(Builtin.firstCells size Ek (.slice a Ek Ju)).run P w' = .ok SO.toArray w')
  (hn:KW P w size n x news) (RV:Ju<Ek+n) (TU:Ek+n≤FE) (SH:i.bytes≤512):
  (Builtin.append_ ts ty #[.slice a Ek Ju,x]).run P w= .ok (.slice (some ⟨w.heap.size,0,none⟩) (Ek+n) (grownCap w (Ek+n) Ju e))
   (w.drew.alloc (.cells (SO.toArray++news.toArray++Builtin.zeroCells z.cells (grownCap w (Ek+n) Ju e-(Ek+n))) e)):=by
 subst CK;have hl:=hn.len w;have hf:=hn.cells w.drew rfl;have RP:=ho w.drew rfl;have Sq: ¬(Ek+n≤Ju):=by omega
 have hb:(Ek+n)*i.bytes≤140737488355328:=by
  have:(Ek+n)*i.bytes≤FE*512:=Nat.mul_le_mul TU SH;simp only[FE]at this;omega
 have V3:=growslice_fits RV hb;have R3: ¬(281474976710656<Builtin.nextslicecap (Ek+n) Ju*i.bytes):=by omega
 have Rf: ¬(9223372036854775807<((Ek:Int)+(n:Int))):=by simp only[FE]at TU;omega
 rcases hu with⟨e',hu⟩|hu
 ·simp[Builtin.append_,L2,MU,run_underlying ht,run_underlying hu,sizeOf,typeInfo,zeroValue,hi,hz,hl,Sq,Rf,R3,Question.forced,hf,RP,newRow,grownCap]
  congr 2
  apply Xw;simp[WR]
 ·simp[Builtin.append_,L2,MU,run_underlying ht,run_underlying hu,sizeOf,typeInfo,zeroValue,hi,hz,hl,Sq,Rf,R3,Question.forced,hf,RP,newRow,grownCap]
  congr 2
  apply Xw;simp[WR]
end
end Go.Fw
end
section
namespace Go.Fw
def Ap(w:World)(S:Nat→Prop)(d:Nat)(r:Ty)(css:List (List Value))(rows:List r.D)(Fs:List V6):Prop:=
 css.length=rows.length∧Fs.length=rows.length∧(∀c∈css,c.length=r.n)∧ ∀(i:Nat) cs y G,css[i]? =some cs→rows[i]? =some y→Fs[i]? =some G→Ow w S d r cs y G
theorem Ap.mono{w w':World}{S S':Nat→Prop}{d:Nat}{r:Ty}{css:List (List Value)}{rows:List r.D}{Fs:List V6}(h:Ap w S d r css rows Fs)(hS:∀c,S c→S' c)(hw:∀c,S c→w'.heap[c]? =w.heap[c]?)
  (hF:∀c∈Fs.flatten,w'.heap[c]? =w.heap[c]?):Ap w' S' d r css rows Fs:=
 ⟨h.1,h.2.1,h.2.2.1,fun i cs y G a b c=>Ae hS hw (fun x hx=>hF x (Wh.2 ⟨G,WT c,hx⟩)) (h.2.2.2 i cs y G a b c)⟩
theorem Ap.append{w:World}{S:Nat→Prop}{d:Nat}{r:Ty}{css RX:List (List Value)}{rows rows':List r.D}{Fs SI:List V6}(h:Ap w S d r css rows Fs)(k:Ap w S d r RX rows' SI):
  Ap w S d r (css++RX) (rows++rows') (Fs++SI):=by
 refine⟨by simp[h.1,k.1],by simp[h.2.1,k.2.1],fun c hc=>(Wc.1 hc).elim (h.2.2.1 c) (k.2.2.1 c),fun i cs y G a b c=> ?_⟩;by_cases hi:i<rows.length
 ·rw[WO (by rw[h.1];exact hi)]at a
  rw[WO hi]at b;rw[WO (by rw[h.2.1];exact hi)]at c;exact h.2.2.2 i cs y G a b c
 ·rw[WW (by rw[h.1];omega)]at a
  rw[WW (by omega)]at b;rw[WW (by rw[h.2.1];omega)]at c;rw[h.1]at a;rw[h.2.1]at c;exact k.2.2.2 _ cs y G a b c
theorem Ap.weaken{w:World}{S:Nat→Prop}{d d':Nat}{r:Ty}{css:List (List Value)}{rows:List r.D}{Fs:List V6}(h:Ap w S d r css rows Fs)(hd:d'≤d):
  ∃(Gs:List V6) (W:V6),Fs.flatten.Perm (Gs.flatten++W)∧Ap w (fun c=>S c∨c∈W) d' r css rows Gs:=by
 obtain⟨Gs,Ws,h1,h2,h3,h4⟩:=JK (R:=fun i G F W=> ∀cs y,css[i]? =some cs→rows[i]? =some y→Ow w (fun c=>S c∨c∈W) d' r cs y F) Fs 0 (fun i G hG=>by
  rw[XA];have hi:=(WJ.1 hG).1;have h1:=h.1;have h2:=h.2.1;obtain⟨F,W,hp,ho⟩:=Bc hd (h.2.2.2 i _ _ G (WK (by omega)) (WK (by omega)) hG);refine⟨F,W,hp,fun cs y a b=> ?_⟩;rw[WK (by omega)]at a b;cases a;cases b;exact ho)
 refine⟨Gs,Ws.flatten,h3,h.1,h1.trans h.2.1,h.2.2.1,fun i cs y G a b c=> ?_⟩;have hi:=(WJ.1 c).1;have hw:Ws[i]? =some (Ws[i]'(by omega)):=WK _;have hf:Fs[i]? =some (Fs[i]'(by omega)):=WK _;have:=h4 i _ _ _ hf c hw cs y (by rw[XA];exact a) (by rw[XA];exact b);exact Ae (fun x hx=>hx.imp id fun hx=>Wh.2 ⟨_,WT hw,hx⟩) (fun _ _=>rfl) (fun _ _=>rfl) this
theorem EW{n:Nat}:∀{css:List (List Value)},(∀c∈css,c.length=n)→css.flatten.length=css.length*n
 |[],_=>by simp
 |c::l,h=>by simp[h c (by simp),EW (css:=l) (fun c hc=>h c (by simp[hc])),Xm];omega
theorem Ap.one{w:World}{S:Nat→Prop}{d:Nat}{r:Ty}{css:List (List Value)}{rows:List r.D}{Fs:List V6}(h:Ap w S d r css rows Fs):∀v∈css.flatten,v.oneCell' =true:=by
 intro v hv;obtain⟨c,hc,hv⟩:=Wh.1 hv;obtain⟨i,hi,rfl⟩:=W4 hc;have h1:=h.1;have h2:=h.2.1;exact Jj (h.2.2.2 i _ _ _ (WK hi) (WK (by omega)) (WK (by omega))) v hv
theorem Ap.flat{w:World}{B S:Nat→Prop}{d:Nat}{r:Ty}(hf:r.flat=true){css:List (List Value)}{rows:List r.D}(h1:css.length=rows.length)(h2:∀c∈css,c.length=r.n)
  (h3:∀(i:Nat) cs y,css[i]? =some cs→rows[i]? =some y→Rd w B r cs y):Ap w S d r css rows (List.replicate rows.length []):=by
 refine⟨h1,by simp,h2,fun i cs y G a b c=> ?_⟩;have:G=[]:=W5 (WT c);subst this;exact HK hf (h3 i cs y a b)
theorem AG.heap{w w':World}{b o:Nat}{cs:List Value}(h:AG w b o cs)(e:w'.heap=w.heap):AG w' b o cs:=h.of_block (by rw[e])
theorem DH{P:Program}{w:World}{a:Option Addr}{n cap size:Nat}{css:List (List Value)}(hl:css.length=n)(hc:∀c∈css,c.length=size)
  (h:n=0∨ ∃b o,a=some ⟨b,o,none⟩∧AG w b o css.flatten):KW P w size n (.slice a n cap) css.flatten:=by
 refine⟨fun w' =>rfl,fun w' e=> ?_⟩;have hlen:css.flatten.length=n*size:=by rw[EW hc,hl]
 rcases h with rfl|⟨b,o,rfl,h⟩
 ·have:css=[]:=Wd hl
  subst this;cases a with
  |none=>rfl
  |some a=>
   simp only[Builtin.firstCells,Nat.zero_mul,Xe];exact EI a
 ·simp only[Builtin.firstCells]
  rw[←hlen];exact H9 (h.heap e)
theorem OZ{P:Program}{w:World}{s:V7}:KW P w 1 s.length (.string ⟨s.toArray⟩) (s.map fun c=>[Value.int .u8 (c.toNat:Int)]).flatten:=by
 refine⟨fun w' =>rfl,fun w' _=> ?_⟩;have CK:(⟨s.toArray⟩:ByteArray).size=s.length:=by simp[ByteArray.size]
 have e1:(⟨s.toArray⟩:ByteArray).extract 0 s.length=⟨s.toArray⟩:=by
  rw[←CK];apply ByteArray.ext;simp
 simp only[Builtin.firstCells,e1,Sem.run_pure];have:(s.map fun c=>[Value.int .u8 (c.toNat:Int)]).flatten=s.map fun c=>Value.int .u8 (c.toNat:Int):=by
  have:=EK (l:=s.map fun c=>Value.int .u8 (c.toNat:Int));simpa[Xt,Function.comp_def]using this
 rw[this];simp
theorem Nh{w:World}{S:Nat→Prop}{d:Nat}{r:Ty}{v:Value}{rows:List r.D}{F:V6}(h:Ow w S (d+1) (.sl r) [v] rows F):
  ∃a cap css Fs R,v= .slice a rows.length cap∧rows.length≤cap∧Ap w S d r css rows Fs∧F.Perm (Fs.flatten++R)∧
   ((cap=0∧F=[])∨ ∃b o arr ty fr,a=some ⟨b,o,none⟩∧w.heap[b]? =some (.cells arr ty fr)∧o+cap*r.n≤arr.size∧Mt fr (arr.size+mk r)∧F=b::Fs.flatten∧AG w b o css.flatten):=by
 simp only[Ow]at h;obtain⟨a,cap,e,hle,h⟩:=h;simp only[Wg,W3]at e;subst e;rcases h with⟨h,rfl⟩|⟨b,o,arr,ty,fr,Fs,rfl,hb,CK,hu,rfl,hFl,hr⟩
 ·have:rows=[]:=Wd (by omega)
  subst this;exact⟨a,cap,[],[],[],rfl,hle,⟨rfl,rfl,by simp,fun i cs y G h=>by simp at h⟩,by simp,.inl ⟨h,rfl⟩⟩
 ·
  have key:∀(n o:Nat) (ys:List r.D) (Fs:List V6),ys.length=n→Fs.length=n→(∀(i:Nat) (y:r.D) (G:V6),ys[i]? =some y→Fs[i]? =some G→ ∃cs,cs.length=r.n∧AG w b (o+i*r.n) cs∧Ow w S d r cs y G)→
    ∃css,Ap w S d r css ys Fs∧AG w b o css.flatten:=by
   intro n
   induction n with
   |zero=>
    intro o ys Fs h1 h2 _;obtain rfl:=Wd h1;obtain rfl:=Wd h2;exact⟨[],⟨rfl,rfl,by simp,fun i cs y G h=>by simp at h⟩,fun _ _ h=>by simp at h⟩
   |succ n ih=>
    intro o ys Fs h1 h2 hh;obtain⟨y,ys,rfl⟩:=Xd h1;obtain⟨G,Fs,rfl⟩:=Xd h2;obtain⟨cs,c1,c2,c3⟩:=hh 0 y G rfl rfl;obtain⟨css,d1,d2⟩:=ih (o+r.n) ys Fs (by simpa using h1) (by simpa using h2) (fun i z G hz hG=>by
     obtain⟨cs,e1,e2,e3⟩:=hh (i+1) z G (by simpa using hz) (by simpa using hG);refine⟨cs,e1,?_,e3⟩;rw[W8,Xj]at e2
     rwa [show o+r.n+i*r.n=o+(i*r.n+r.n)by omega])
    refine⟨cs::css,⟨by simp[d1.1],by simp[d1.2.1],fun c hc=> ?_,fun i Fl y' G' a b c=> ?_⟩,?_⟩
    ·rcases Wy.1 hc with rfl|hc
     ·exact c1
     ·exact d1.2.2.1 c hc
    ·cases i with
     |zero=>simp at a b c;subst a b c;exact c3
     |succ i=>exact d1.2.2.2 i Fl y' G' (by simpa using a) (by simpa using b) (by simpa using c)
    ·rw[Wv]
     refine AG.append (by simpa using c2) ?_
     rw[c1];exact d2
  obtain⟨css,k1,k2⟩:=key rows.length o rows Fs rfl hFl hr;refine⟨_,cap,css,Fs,[b],rfl,hle,k1,?_,.inr ⟨b,o,arr,ty,fr,rfl,hb,CK,hu,rfl,k2⟩⟩;exact(Wf (l₁:=[b]) (l₂:=Fs.flatten))
theorem IE{w:World}{S:Nat→Prop}:∀{r:Ty} {cs:List Value} {x:r.D},Rd w S r cs x→Ow w S 0 r cs x []
 | .cons c r,cs,x,hr=>by
  simp only[Rd]at hr;obtain⟨v,l,rfl,h1,h2⟩:=hr;simp only[Ow];exact⟨v,l,[],[],rfl,rfl,IE h1,IE h2⟩
 | .unit,_,_,hr=>by simp only[Rd]at hr;simp[Ow,hr]
 | .int k,_,_,hr=>by simp only[Rd]at hr;simp[Ow,hr]
 | .bool,_,_,hr=>by simp only[Rd]at hr;simp[Ow,hr]
 | .str,_,_,hr=>by simp only[Rd]at hr;simp[Ow,hr]
 | .sl q,_,_,hr=>by simp only[Ow];exact⟨hr,trivial⟩
theorem Gr{P:Program}{E:Env}{w:World}{vw bx:List Bx}{G:V6}(h:AK E w vw bx G)(hw:Aj bx vw){x:AV}{v:Value}(hv:VR E w vw x v){r:Ty}{rows:List r.D}{Cd:List Bx}{d:Nat}
  (e:I6 bx x=some ⟨r,rows,Cd,d⟩):1≤d∧ ∃E' F css Fs R,A0 E w vw bx G E' Cd F∧F.Perm (List.flatten Fs++R)∧Ap w E'.S (d-1) r css rows Fs∧KW P w r.n rows.length v css.flatten:=by
 have plain:∀{B:Nat→Prop} {ys:List r.D},r.flat=true→Rd w B (.sl r) [v] ys→ ∀S:Nat→Prop,∃css,Ap w S 8 r css ys (List.replicate ys.length [])∧KW P w r.n ys.length v css.flatten:=by
  intro B ys hf hr S;simp only[Rd]at hr;obtain⟨a,cap,e1,hle,hr⟩:=hr;simp only[Wg,W3]at e1;subst e1;rcases hr with hr|⟨b,o,rfl,_,hr⟩
  ·have:ys=[]:=Wd hr
   subst this;exact⟨[],⟨rfl,rfl,by simp,fun i cs y G h=>by simp at h⟩,DH (css:=[]) rfl (by simp) (.inl rfl)⟩
  ·obtain⟨css,c1,c2,c3,c4⟩:=Ly hr
   exact⟨css,Ap.flat hf c1 c2 c4,DH c1 c2 (.inr ⟨b,o,rfl,c3⟩)⟩
 have done:∀{B:Nat→Prop} {ys:List r.D},r.flat=true→Rd w B (.sl r) [v] ys→rows=ys→Cd=bx→d=9→
   1≤d∧ ∃E' F css Fs R,A0 E w vw bx G E' Cd F∧F.Perm (List.flatten Fs++R)∧Ap w E'.S (d-1) r css rows Fs∧KW P w r.n rows.length v css.flatten:=by
  intro B ys hf hr e1 e2 e3;subst e1 e2 e3;obtain⟨css,k1,k2⟩:=plain hf hr E.S;exact⟨by omega,E,[],css,_,[],A0.refl h,by simp,k1,k2⟩
 unfold I6 at e;split at e
 ·rename_i s
  simp only[WL,WU]at e;obtain⟨rfl,e⟩:=e;have e:=Wi e;simp only[Wn]at e;obtain⟨rfl,rfl,rfl⟩:=e;have Fi:=D_ hv;subst Fi;refine⟨by omega,E,[],s.map fun c=>[Value.int .u8 (c.toNat:Int)],_,[],A0.refl h,?_,Ap.flat (B:=fun _=>False) rfl (by simp) (by simp[Ty.n]) (fun i cs y a b=> ?_),?_⟩
  ·simp
  ·simp only[Wl,WM]at a b
   obtain⟨c1,z1,rfl⟩:=a;obtain⟨c2,z2,rfl⟩:=b;rw[z1]at z2;cases z2;simp[Rd]
  ·have:=OZ (P:=P) (w:=w) (s:=s)
   simpa[Ty.n]using this
 ·rename_i s q ys
  split at e
  ·rename_i hf
   simp only[WL,WU]at e;obtain⟨rfl,e⟩:=e;have e:=Wi e;simp only[Wn]at e;obtain⟨rfl,rfl,rfl⟩:=e;exact done hf hv rfl rfl rfl
  ·split at e
   case isFalse=>cases e
   rename_i hs;simp only[WL,WU]at e;obtain⟨rfl,e⟩:=e;have e:=Wi e;simp only[Wn]at e;obtain⟨rfl,rfl,rfl⟩:=e;subst hs;simp only[VR,Xh]at hv;simp only[Rd]at hv;obtain⟨a,cap,e1,hle,hr⟩:=hv;simp only[Wg,W3]at e1;subst e1;have key:∃css:List (List Value),List.length css=ys.length∧(∀c∈css,c.length=q.n)∧(∀(i:Nat) cs y,css[i]? =some cs→ys[i]? =some y→Rd w E.S q cs y)∧KW P w q.n ys.length (.slice a ys.length cap) css.flatten:=by
    rcases hr with hr|⟨b,o,rfl,_,hr⟩
    ·have:ys=[]:=Wd hr
     subst this;exact⟨[],rfl,by simp,fun i cs y h=>by simp at h,DH (css:=[]) rfl (by simp) (.inl rfl)⟩
    ·obtain⟨css,c1,c2,c3,c4⟩:=Ly hr
     exact⟨css,c1,c2,c4,DH c1 c2 (.inr ⟨b,o,rfl,c3⟩)⟩
   obtain⟨css,c1,c2,c3,c4⟩:=key;refine⟨Wu _,E,[],css,List.replicate ys.length [],[],A0.refl h,by simp,⟨c1,by simp,c2,fun i cs y G a b c=> ?_⟩,c4⟩;have:G=[]:=W5 (WT c);subst this;exact IE (c3 i cs y a b)
 ·rename_i b
  split at e
  case h_2=>cases e
  rename_i d0 q ys hb;split at e
  ·rename_i hf
   simp only[WL,WU]at e;obtain⟨rfl,e⟩:=e;have e:=Wi e;simp only[Wn]at e;obtain⟨rfl,rfl,rfl⟩:=e;obtain⟨Fs,hB,hS⟩:=h;exact done hf (E9 hw hB hS.st hv (q:=q) (ys:=ys) (by simp[B7,hb,Ay])) rfl rfl rfl
  ·simp only[WL,WU]at e
   obtain⟨rfl,e⟩:=e;have e:=Wi e;simp only[Wn]at e;obtain⟨rfl,rfl,rfl⟩:=e;obtain⟨F,⟨hd,ho⟩,hB⟩:=h.take hb;have RZ:=ET hw hb;simp only[VR,RZ,AJ,WL]at hv;obtain⟨_,_,_,rfl⟩:=hv;obtain⟨m,rfl⟩:∃m,d0=m+1:=⟨d0-1,by omega⟩;obtain⟨a,cap,css,Fs,R,e1,hle,Fp,hp,hcase⟩:=Nh ho;refine⟨hd,E,F,css,Fs,R,⟨Le.refl _,by simp,fun n B hn=> ?_,hB⟩,hp,Fp,?_⟩
   ·rw[W_]at hn
    split at hn
    ·split at hn
     ·exact .inl (by simpa using hn.symm)
     ·cases hn
    ·exact .inr hn
   ·rw[e1]
    refine DH Fp.1 Fp.2.2.1 ?_
    rcases hcase with⟨h0,_⟩|⟨b,o,arr,ty,fr,rfl,_,_,_,_,hc⟩
    ·exact .inl (by omega)
    ·exact .inr ⟨b,o,rfl,hc⟩
 ·rename_i b p _
  split at e
  case h_2=>cases e
  rename_i d0 q ys hb;simp only[WN]at e;obtain⟨⟨q',zs⟩,e1,e⟩:=e;dsimp only at e;split at e
  case isFalse=>cases e
  rename_i hf;simp only[WL,WU]at e;obtain⟨rfl,e⟩:=e;have e:=Wi e;simp only[Wn]at e;obtain⟨rfl,rfl,rfl⟩:=e;obtain⟨Fs,hB,hS⟩:=h;exact done hf (E9 hw hB hS.st hv (q:=q') (ys:=zs) (by simp[B7,hb,e1])) rfl rfl rfl
 ·rename_i b p off n
  split at e
  case h_2=>cases e
  rename_i d0 q ys hb;simp only[WN]at e;obtain⟨⟨q',zs⟩,e1,e⟩:=e;dsimp only at e;split at e
  case isFalse=>cases e
  rename_i hf;simp only[WL,WU]at e;obtain⟨rfl,e⟩:=e;have e:=Wi e;simp only[Wn]at e;obtain⟨rfl,rfl,rfl⟩:=e;obtain⟨Fs,hB,hS⟩:=h;exact done hf (E9 hw hB hS.st hv (q:=q') (ys:=(zs.drop off).take n) (by simp[B7,hb,e1])) rfl rfl rfl
 ·cases e
theorem Gj{E:Env}{w:World}{vw bx:List Bx}{G:V6}(h:AK E w vw bx G)(hw:Aj bx vw){x:AV}{v:Value}(hv:VR E w vw x v){r:Ty}{rows:List r.D}{Cd:List Bx}{d:Nat}
  (e:I9 bx x=some ⟨r,rows,Cd,d⟩):1≤d∧ ∃F1 F2,A0 E w vw bx G E Cd (F1++F2)∧Ow w E.S d (.sl r) [v] rows F1:=by
 have tk:∀{b d0:Nat} {q:Ty} {ys:List q.D},bx[b]? =some (.sl d0 q ys)→ ∃F,1≤d0∧Ow w E.S d0 (.sl q) [E.BD b] ys F∧A0 E w vw bx G E (bx.set b .dead) F:=by
  intro b d0 q ys hb;obtain⟨F,⟨hd,ho⟩,hB⟩:=h.take hb;refine⟨F,hd,ho,⟨Le.refl _,by simp,fun n B hn=> ?_,hB⟩⟩;rw[W_]at hn;split at hn
  ·split at hn
   ·exact .inl (by simpa using hn.symm)
   ·cases hn
  ·exact .inr hn
 unfold I9 at e;split at e
 ·rename_i b
  split at e
  case h_2=>cases e
  rename_i d0 q ys hb;simp only[WL,WU]at e;obtain⟨rfl,e⟩:=e;have e:=Wi e;simp only[Wn]at e;obtain⟨rfl,rfl,rfl⟩:=e;obtain⟨F,hd,ho,hT⟩:=tk hb;have RZ:=ET hw hb;simp only[VR,RZ,AJ,WL]at hv;obtain⟨_,_,_,rfl⟩:=hv;exact⟨hd,F,[],by simpa using hT,ho⟩
 ·rename_i b off n
  split at e
  case h_2=>cases e
  rename_i d0 q ys hb;simp only[WL,WU]at e;obtain⟨rfl,e⟩:=e;have e:=Wi e;simp only[Wn]at e;obtain⟨rfl,rfl,rfl⟩:=e;obtain⟨F,hd,ho,hT⟩:=tk hb;have RZ:=ET hw hb;simp only[VR,RZ,AJ,WL]at hv;obtain⟨_,_,q',zs,a,len,cap,h1,h2,h3,rfl⟩:=hv;simp only[Ay,WL,WU]at h1;obtain⟨rfl,h1⟩:=h1;obtain rfl:=Wi h1;rw[h3]at ho;obtain⟨m,rfl⟩:∃m,d0=m+1:=⟨d0-1,by omega⟩;obtain⟨F1,F2,hp,N1⟩:=O6 ho h2;exact⟨hd,F1,F2,⟨hT.le,hT.len,hT.within,hT.boxes.perm (WX _ hp)⟩,N1⟩
 ·cases e
end Go.Fw
end
section
namespace Go.Fw
theorem KT{P:Program}{w:World}{a:Option Addr}{n cap size:Nat}{css:List (List Value)}(hl:css.length=n)(hc:∀c∈css,c.length=size)
  (h:n=0∨ ∃b o,a=some ⟨b,o,none⟩∧AG w b o css.flatten):∀w',w'.heap=w.heap→(Builtin.firstCells size n (.slice a n cap)).run P w' = .ok css.flatten.toArray w':=
 (DH (P:=P) (cap:=cap) hl hc h).cells
theorem KQ{z:Array Value}{n:Nat}:(Builtin.zeroCells z n).size=n*z.size:=size_zeroCells z n
section
variable{Y:Type} {P:Program} {T:Bb} (hT:An P T) {o:Oper} {E:Env} {σ:St} {a:Act} {w:World} {k:K Y} {y:Y}
include hT
theorem Ih(h:Rel E σ a w){E2:Env}{Et:List Bx}{F Fd R:V6}{t u ty:TypeId}{ts:Array TypeId}(L2:ts[0]? =some t)(MU:ts[1]? =some u)
  (hu:(∃e,P.underlying u=some (.slice e))∨P.underlying u=some .string) {m:Nat} {r:Ty} (HT:T.C7 t r=true)
  (kT:A0 E w σ.bx σ.bx [] E2 Et F) {v1 v2:Value} {drows C3:List r.D} {css:List (List Value)} {Fs:List V6}
  (ho:Ow w E2.S (m+1) (.sl r) [v1] drows Fd) (hs:Ap w E2.S m r css C3 Fs) (hn:KW P w r.n C3.length v2 css.flatten) (hp:F.Perm (Fd++Fs.flatten++R)) (Ka:drows.length+C3.length≤FE):
  ∃v w' E',(Builtin.append_ ts ty #[v1,v2]).run P w= .ok v w'∧Rel E' { σ with bx:=Et++[.sl (m+1) r (drows++C3)] } a w'∧Cn [] E σ.bx w E' (Et++[.sl (m+1) r (drows++C3)]) w'∧
   XR E' w' (Et++[.sl (m+1) r (drows++C3)]) (.c (.ref Et.length [])) v:=by
 obtain⟨e,ti,hut,Cw,hs1,SH,hrow⟩:=CG hT HT;obtain⟨i,z,i1,i2,i3,i4,i5,hg⟩:=Ge hT Cw hrow;rw[hs1]at i2;obtain⟨Fs0,Sl,Dv⟩:=kT.boxes;simp only[Wj]at Dv;have Qz:∀c∈Fd,c∈F:=fun c hc=>hp.mem_iff.2 (by simp[hc])
 have SZ:∀c∈Fs.flatten,c∈F:=fun c hc=>hp.mem_iff.2 (by simp only[Wc];exact .inl (.inr hc))
 have Qw:=(WS.1 (hp.nodup_iff.1 (WS.1 Dv.nodup).2.1)).1;have Q7:∀c∈F,c<w.heap.size:=fun c hc=>Dv.lt c (by simp only[Wc];exact .inr hc)
 have SC:∀c∈F,¬E2.S c:=fun c hc hS=>Dv.free c (by simp only[Wc];exact .inr hc) (Dv.st c hS)
 have S7:=ho;obtain⟨ad,cap,dcss,Fs1,R1,rfl,hle,hd,hp1,hcase⟩:=Nh ho;have Nb:css.flatten.length=C3.length*r.n:=by rw[EW hs.2.2.1,hs.1]
 have UL:dcss.flatten.length=drows.length*r.n:=by rw[EW hd.2.2.1,hd.1]
 by_cases LA:drows.length+C3.length≤cap
 ·rcases hcase with⟨h0,TB⟩|⟨b,of,arr,ty0,fr,rfl,hb,CK,hunf,rfl,hc⟩
  ·
   have Vl:drows=[]:=Wd (by omega);have Us:C3=[]:=Wd (by omega);subst Vl Us;have Pf:css=[]:=Wd hs.1;subst Pf h0;have Ki:=Iv (P:=P) (w:=w) (ty:=ty) L2 MU hut hu i1 i2 (a:=ad) (x:=v2) (by simpa using hn);obtain⟨r1,r2,r3⟩:=DE h kT (w':=w) (d:=m+1) (by omega) S7 (fun c hc=> .inl (Qz c hc)) (WS.1 Qw).1 (fun c hc=>Q7 c (Qz c hc)) (fun _ _ _=>rfl) ⟨rfl,rfl,rfl,Wu _⟩;exact⟨_,_,_,Ki,r1,r2,r3⟩
  ·
   have Ew:of+drows.length*r.n+css.flatten.length≤arr.size:=by
    have:(drows.length+C3.length)*r.n≤cap*r.n:=Wz _ LA;rw[W8]at this;omega
   have Ki:=Kj (P:=P) (w:=w) (ty:=ty) L2 MU hut hu i1 i2 (b:=b) (o:=of) hn LA (Hh hb Ew hunf) hs.one;have UN:b∈F:=Qz b (by simp);have I5:∀c,c∈Fs1.flatten∨c∈Fs.flatten∨E2.S c→c≠b:=by
    intro c QR e;subst e;rcases QR with QR|QR|QR
    ·exact(XM.1 (WS.1 Qw).1).1 QR
    ·exact(WS.1 Qw).2.2 c (by simp) c QR rfl
    ·exact SC c UN QR
   have En:∀c,c≠b→(w.setCells b (of+drows.length*r.n) css.flatten).heap[c]? =w.heap[c]?:=fun c hc=>Bm _ _ _ _ _ hc
   have TP:=hd.mono (w':=w.setCells b (of+drows.length*r.n) css.flatten) (S':=E2.S) (fun _ h=>h) (fun c hc=>En c (I5 c (.inr (.inr hc)))) (fun c hc=>En c (I5 c (.inl hc)));have Qk:=hs.mono (w':=w.setCells b (of+drows.length*r.n) css.flatten) (S':=E2.S) (fun _ h=>h) (fun c hc=>En c (I5 c (.inr (.inr hc)))) (fun c hc=>En c (I5 c (.inr (.inl hc))));have EM:=TP.append Qk;have LN:AG (w.setCells b (of+drows.length*r.n) css.flatten) b of (dcss++css).flatten:=by
    rw[W6];refine AG.append (Gl hc hb Ew (.inr (.inl (by omega)))) ?_
    rw[UL];exact DU hb Ew
   have how:Ow (w.setCells b (of+drows.length*r.n) css.flatten) E2.S (m+1) (.sl r) [.slice (some ⟨b,of,none⟩) (drows.length+C3.length) cap] (drows++C3) (b::(Fs1++Fs).flatten):=by
    simp only[Ow];refine⟨_,cap,by rw[Wb],by rw[Wb];exact LA,.inr ⟨b,of,_,ty0,fr,Fs1++Fs,rfl,Bf _ _ _ _ _ _ _ hb,by rw[Be];exact CK,by rw[Be];exact hunf,rfl,EM.2.1,fun j q G hq hG=> ?_⟩⟩;have hj:=(WJ.1 hq).1;have h1:=EM.1;have ON:j<(dcss++css).length:=by omega
    refine⟨(dcss++css)[j],EM.2.2.1 _ (XB _),fun x u hx=> ?_,EM.2.2.2 j _ _ _ (WK ON) hq hG⟩;have Tt:=(WJ.1 hx).1;rw[EM.2.2.1 _ (XB _)]at Tt;have:=GG (n:=r.n) (css:=dcss++css) (ex:=[]) (i:=j) EM.2.2.1 (WK ON) Tt;rw[Wj,hx]at this;have:=LN _ _ this
    rwa [←XQ]at this
   have IZ:(b::(Fs1++Fs).flatten)=(b::Fs1.flatten)++Fs.flatten:=by simp
   rw[IZ]at how;obtain⟨r1,r2,r3⟩:=DE h kT (w':=w.setCells b (of+drows.length*r.n) css.flatten) (d:=m+1) (by omega) how (fun c hc=> .inl ((Wc.1 hc).elim (Qz c) (SZ c))) Qw
    (fun c hc=>by rw[A3];exact Q7 c ((Wc.1 hc).elim (Qz c) (SZ c))) (fun c hc VV=>En c (fun e=>VV (e▸UN))) (AO _ _ _ _)
   exact⟨_,_,_,Ki,r1,r2,r3⟩
 ·
  have hold:drows.length=0∨ ∃b o,ad=some ⟨b,o,none⟩∧AG w b o dcss.flatten:=by
   rcases hcase with⟨h0,_⟩|⟨b,of,arr,ty0,fr,rfl,hb,CK,hunf,rfl,hc⟩
   ·exact .inl (by omega)
   ·exact .inr ⟨b,of,rfl,hc⟩
  have Ki:=Ir (P:=P) (w:=w) (ty:=ty) L2 MU hut hu i1 i4 i2 (KT (P:=P) (cap:=cap) hd.1 hd.2.2.1 hold) hn (by omega) Ka (by omega);have UI:=grownCap_ge w (drows.length+C3.length) cap e
  generalize Vw:grownCap w (drows.length+C3.length) cap e=gc at Ki UI
  let arr:Array Value:=dcss.flatten.toArray++css.flatten.toArray++Builtin.zeroCells z.cells (gc-(drows.length+C3.length))
  have G3:arr.toList=(dcss++css).flatten++(Builtin.zeroCells z.cells (gc-(drows.length+C3.length))).toList:=by simp[arr]
  have RC:z.cells.size=r.n:=by rw[←XU,i5,Ba]
  have Uf:arr.size=gc*r.n:=by
   simp only[arr,Array.size_append,List.size_toArray,KQ,RC,Nb,UL,←W8];congr 1;omega
  let w':=w.drew.alloc (.cells arr e)
  have new:w'.heap[w.heap.size]? =some (.cells arr e):=by
   show(w.heap.push (.cells arr e))[w.heap.size]? =_
   simp
  have O2:∀c,c<w.heap.size→w'.heap[c]? =w.heap[c]?:=fun c hc=>CT (w:=w) (o:= .cells arr e) hc
  have Su:∀c∈Fs1.flatten,c∈Fd:=fun c hc=>hp1.mem_iff.2 (by simp only[Wc];exact .inl hc)
  have TP:=hd.mono (w':=w') (S':=E2.S) (fun _ h=>h) (fun c hc=>O2 c (Dv.GD c (Dv.st c hc))) (fun c hc=>O2 c (Q7 c (Qz c (Su c hc))));have Qk:=hs.mono (w':=w') (S':=E2.S) (fun _ h=>h) (fun c hc=>O2 c (Dv.GD c (Dv.st c hc))) (fun c hc=>O2 c (Q7 c (SZ c hc)));have EM:=TP.append Qk;have how:Ow w' E2.S (m+1) (.sl r) [.slice (some ⟨w.heap.size,0,none⟩) (drows++C3).length gc] (drows++C3) (w.heap.size::(Fs1++Fs).flatten):=
   Ho new G3 EM.1 (by rw[Wb];exact UI) (by omega) (IC _) EM.2.1 EM.2.2.2
  rw[Wb]at how;have Lq:∀c∈(Fs1++Fs).flatten,c∈Fd++Fs.flatten:=by
   intro c hc;rw[W6,Wc]at hc;exact Wc.2 (hc.imp (Su c) id)
  have Vk:(Fs1++Fs).flatten.Nodup:=by
   rw[W6];have n1:=(WS.1 (hp1.nodup_iff.1 (WS.1 Qw).1)).1;exact WS.2 ⟨n1,(WS.1 Qw).2.1,fun x hx y hy=>(WS.1 Qw).2.2 x (Su x hx) y hy⟩
  have Qe:∀c∈(Fs1++Fs).flatten,c∈F:=fun c hc=>(Wc.1 (Lq c hc)).elim (Qz c) (SZ c)
  obtain⟨r1,r2,r3⟩:=DE h kT (w':=w') (d:=m+1) (by omega) how (by
    intro c hc;rcases Wy.1 hc with rfl|hc
    ·exact .inr (Wu _)
    ·exact .inl (Qe c hc)) (by
    refine XM.2 ⟨fun hc=> ?_,Vk⟩;have:=Q7 _ (Qe _ hc);omega) (by
    intro c hc;rcases Wy.1 hc with rfl|hc
    ·simp[w']
    ·have:=Q7 _ (Qe _ hc)
     simp[w'];omega) (fun c hc _=>O2 c hc) ⟨rfl,rfl,rfl,by simp[w']⟩
  exact⟨_,_,_,Ki,r1,r2,r3⟩
end
end Go.Fw
end
section
namespace Go.Fw
theorem EA{α β:Type}{args:Array α}{f:α→β}{x y:β}(h:args.toList.map f=[x,y]):∃a b,args= #[a,b]∧f a=x∧f b=y:=by
 obtain⟨l⟩:=args
 match l,h with
 |[a,b],h=>simp at h;exact⟨a,b,rfl,h.1,h.2⟩
theorem EC{α β:Type}{args:Array α}{f:α→β}{x:β}(h:args.toList.map f=[x]):∃a,args= #[a]∧f a=x:=by
 obtain⟨l⟩:=args
 match l,h with
 |[a],h=>simp at h;exact⟨a,rfl,h⟩
section
variable{Y:Type} {P:Program} {T:Bb} (hT:An P T) {o:Oper} {E:Env} {σ:St} {a:Act} {w:World} {k:K Y} {y:Y}
include hT
theorem MR(h:Rel E σ a w){c:Call}{x1 x2:XV}(ho:o.op= .call c)(hc:c.callee= .builtin .append)(BM:c.args.toList.map σ.ev=[x1,x2])(e:GZ T c.argTypes σ x1 x2 k=some y):Bo P o E σ a w k y:=by
 obtain⟨o1,o2,hargs',rfl,rfl⟩:=EA BM;have Fe:=h.ev o1;have FD:=h.ev o2;have exec:∀{v w'},(Builtin.append_ c.argTypes o.type #[a.eval o1,a.eval o2]).run P w= .ok v w'→(execOp a.eval o).run P w= .ok (.value v) w':=by
  intro v w' hr;simp only[execOp,ho,resolve,hc,hargs',invoke,builtin,Sem.run_bind,Sem.run_pure,Result.andThen_ok,List.map_toArray,Xg,Xs,hr]
 unfold GZ at e;split at e
 case h_2=>cases e
 rename_i t u L2 MU;split at e
 case isFalse=>cases e
 rename_i hu;have US:(∃e,P.underlying u=some (.slice e))∨P.underlying u=some .string:=by
  rw[Xp]at hu;exact hu.imp (Hy hT) (D9 hT)
 split at e
 ·
  rename_i z S6 TE;rw[S6]at Fe;rw[TE]at FD;simp only[WN]at e;obtain⟨⟨r,rows,Cd,d⟩,e1,e⟩:=e;dsimp only at e;split at e
  case isFalse=>cases e
  rename_i HT;split at e
  case isFalse=>cases e
  rename_i Ka;obtain⟨hd,E',F,css,Fs,R,kT,hp,hs,hn⟩:=Gr (P:=P) h.bx (Aj.refl _) FD e1;obtain⟨m,rfl⟩:∃m,d=m+1:=⟨d-1,by omega⟩;have TS:a.eval o1= .slice none 0 0:=Fe;obtain⟨v,w',E3,hr,r1,r2,r3⟩:=Ih hT h (ty:=o.type) L2 MU US HT kT (v1:= .slice none 0 0) (Fd:=[]) (drows:=[]) Jw hs hn (R:=R) (by simpa using hp) (by simpa using Ka);rw[←TS]at hr;simp only[Xf]at r1 r3;exact⟨_,_,_,_,_,.inl (exec hr),r1,r3,r2.any,rfl,e⟩
 ·rename_i z1 z2 RI S6 TE
  rw[S6]at Fe;rw[TE]at FD;simp only[WN]at e;obtain⟨⟨r,rows,HU,d⟩,e1,e⟩:=e;dsimp only at e;split at e
  case isFalse=>cases e
  rename_i HT;simp only[WN]at e;obtain⟨⟨q,srows0,Et,ds⟩,e2,C3,e3,e⟩:=e;dsimp only at e e3;obtain⟨hqr,e4⟩:=A9 e3;subst hqr;subst e4;dsimp only at e;split at e
  case isFalse=>cases e
  rename_i Ka;obtain⟨hd,F1,F2,k1,ho1⟩:=Gj h.bx (Aj.refl _) Fe e1;obtain⟨hds,E',F3,css,Fs,R,k2,hp,hs,hn⟩:=Gr (P:=P) k1.boxes ((Aj.refl _).JT k1) FD e2;obtain⟨m,hm⟩:∃m,min d ds=m+1:=⟨min d ds-1,by omega⟩;rw[hm]at e;obtain⟨A,W1,p1,ho1'⟩:=Bc (d:=m+1) (by omega) ho1;obtain⟨Gs,W2,p2,Qk⟩:=hs.weaken (d':=m) (by omega);have hB:=k2.boxes.perm (G':=(A++Gs.flatten++(R++F2))++(W1++W2)++[]) (by
   rw[Wj,Wj];refine((hp.trans (p2.append_right R)).append (p1.append_right F2)).trans ?_
   classical
   rw[Xq];intro c;simp only[List.count_append];omega)
  obtain⟨hle,Dv⟩:=hB.share;have kT:A0 E w σ.bx σ.bx [] _ Et (A++Gs.flatten++(R++F2)):=⟨(k1.le.trans k2.le).trans hle,k2.len.trans k1.len,fun b B hb=>(k2.within b B hb).elim .inl (k1.within b B),Dv⟩;have Qp:Ow w (fun c=>E'.S c∨c∈W1++W2) (m+1) (.sl q) [a.eval o1] rows A:=
   Ae (fun c hc=>hc.imp (k2.le.S c) (by simp_all)) (fun _ _=>rfl) (fun _ _=>rfl) ho1'
  have RH:Ap w (fun c=>E'.S c∨c∈W1++W2) m q css srows0 Gs:=Qk.mono (fun c hc=>hc.imp id (by simp_all)) (fun _ _=>rfl) (fun _ _=>rfl);obtain⟨v,w',E3,hr,r1,r2,r3⟩:=Ih hT h (ty:=o.type) L2 MU US HT kT Qp RH hn (Xu _) Ka;exact⟨_,_,_,_,_,.inl (exec hr),r1,r3,r2.any,rfl,e⟩
 ·cases e
end
end Go.Fw
end
section
namespace Go.Fw
theorem Iq{P:Program}{w:World}{b o:Nat}{ty:TypeId}{v:Value}(ht:w.there b o v.cells.toList.length)(hi:(P.info? ty).map (·.size)=some v.cells.toList.length)(h1:∀u∈v.cells.toList,u.oneCell' =true):
  (Instr.storeAt ty (.pointer (some ⟨b,o,none⟩)) v).run P w= .ok () (w.setCells b o v.cells.toList):=by
 have:=run_storeCells_cells (P:=P) b o v.cells.toList 0 w (fun j hj=>by simpa using(ht j hj).1) (fun j hj=>by simpa using(ht j hj).2) h1;cases hq:P.info? ty with
 |none=>simp[hq]at hi
 |some i=>
  have hs:v.cells.size=i.size:=by simp[hq]at hi;omega
  simp only[XJ]at this;simp[Instr.storeAt,Instr.sureAddr,storeVar,sizeOf,typeInfo,hq,hs,this]
theorem FH{E E1 E':Env}{w w':World}{vw HU Cd:List Bx}{F:V6}(b0:Nat)(k:A0 E w vw vw [] E1 HU F)(st:∀c,E.S c→E.T c)(hlen:vw.length≤Cd.length)
  (HH:∀b d r rows,b≠b0→b<vw.length→Cd[b]? =some (.sl d r rows)→HU[b]? =some (.sl d r rows)) (Lm:∀b,b<vw.length→E'.BC b=E1.BC b) (F7:∀b,b<vw.length→E'.BD b=E1.BD b) (hT:E'.T=E1.T) (hS:E'.S=E1.S)
  (hw:∀c,c<w.heap.size→c∉F→w'.heap[c]? =w.heap[c]?)
  (h0:∀d r rows,Cd[b0]? =some (.sl d r rows)→ ∃d0 Ch,vw[b0]? =some (.sl d0 r Ch)∧
   ∀p,AM r Ch p→ ∀q ys,Ay r Ch p=some ⟨q,ys⟩→AM r rows p∧(∃JC,Ay r rows p=some ⟨q,JC⟩∧List.length JC=List.length ys)∧
    ∀h,BU w (E.BD b0) p=some h→BU w' (E'.BD b0) p=some h):C8 E w vw E' w' Cd:=by
 have hB:=k.boxes;obtain⟨Fs,⟨h1,h2⟩,h3⟩:=hB;simp only[Wj]at h3;have PT:∀c,E1.T c→w'.heap[c]? =w.heap[c]?:=fun c hc=>hw c (h3.GD c hc) fun hf=>h3.free c (by simp[hf]) hc
 refine⟨hlen,fun b hb=>by rw[Lm b hb,k.le.BC],fun c hc=>by rw[hT];exact k.le.T c hc,fun c hc=>by rw[hS];exact k.le.S c hc,st,fun c hc=>PT c (k.le.T c hc),fun b d r rows hb e=> ?_⟩;by_cases hb0:b=b0
 ·subst hb0
  exact h0 d r rows e
 have e1:=HH b _ _ _ hb0 hb e;rcases k.within b _ e1 with e2|e2
 ·cases e2
 ·refine⟨d,rows,e2,fun p hp q ys hg=>⟨hp,⟨ys,hg,rfl⟩,fun h' hh=> ?_⟩⟩
  have hF:Fs[b]? =some (Fs[b]'(by have:=(WJ.1 e1).1;omega)):=WK _;obtain⟨hd,ho⟩:=h2 b _ _ e1 hF;rw[F7 b hb];rw[←k.le.BD]at hh;refine LS ho (fun c hc=>PT c (h3.st c hc)) (fun c hc=> ?_) hp hg hh;have Lq:c∈Fs.flatten:=Wh.2 ⟨_,WT hF,hc⟩;exact hw c (h3.lt c (by simp[Lq])) fun hf=>(WS.1 h3.nodup).2.2 c Lq c hf rfl
def Bx.map(f:AV→AV):Bx→Bx
 | .mem cs=> .mem (cs.map f)
 |B=>B
theorem AK.SK{E E':Env}{w w':World}{vw vw' bx:List Bx}{G:V6}(f:AV→AV)(h:AK E w vw bx G)(k:∀x v,VR E w vw x v→VR E' w' vw' (f x) v)
  (hS:∀c,E.S c→E'.S c) (Lm:∀b,b<bx.length→E'.BC b=E.BC b) (F7:∀b,b<bx.length→E'.BD b=E.BD b)
  (hw:∀c,(E.S c∨(¬E.T c∧c∉G))→c<w.heap.size→w'.heap[c]? =w.heap[c]?)
  (OV:∀F,Sep E w (F++G)→Sep E' w' (F++G)):AK E' w' vw' (bx.map (Bx.map f)) G:=by
 obtain⟨Fs,⟨hl,h1⟩,h2⟩:=h;refine⟨Fs,⟨by simpa using hl,fun n B F hn hF=> ?_⟩,OV _ h2⟩;rw[Wl,WM]at hn;obtain⟨B,hn,rfl⟩:=hn;have CA:=(WJ.1 hn).1;have h3:=h1 n B F hn hF;have Mb:∀c∈F,c∈Fs.flatten:=fun c hc=>Wh.2 ⟨F,WT hF,hc⟩
 have P_:∀c∈F,w'.heap[c]? =w.heap[c]?:=fun c hc=>hw c (.inr ⟨h2.free c (by simp[Mb c hc]),fun hg=>by
  have:=(WS.1 h2.nodup).2.2 c (Mb c hc) c hg;exact this rfl⟩) (h2.lt c (by simp[Mb c hc]))
 have KJ:∀c,E.S c→w'.heap[c]? =w.heap[c]?:=fun c hc=>hw c (.inl hc) (h2.GD c (h2.st c hc))
 cases B with
 |mem cs=>
  obtain⟨rfl,arr,ty,fr,ha,hu,hv⟩:=h3;refine⟨by rw[Lm n CA],arr,ty,fr,?_,hu,AF.Bi f k hv⟩;rw[Lm n CA,P_ _ (by simp),ha]
 |sl d r rows=>
  obtain⟨hd,ho⟩:=h3;refine⟨hd,?_⟩;rw[F7 n CA];exact Ae hS KJ P_ ho
 |dead=>exact h3
theorem Bx.map_id:∀B:Bx,Bx.map id B=B
 | .mem cs=>by simp[Bx.map]
 | .sl _ _ _=>rfl
 | .dead=>rfl
theorem E5(bx:List Bx):bx.map (Bx.map id)=bx:=by
 induction bx with
 |nil=>rfl
 |cons B l ih=>simp[ih,Bx.map_id]
theorem Il(b:Nat)(bx:List Bx):bx.map (NP b)=bx.map (Bx.map (BW b)):=by
 apply XO;intro B _;cases B<;>rfl
theorem OA{E:Env}{σ:St}{a:Act}{w:World}(h:Rel E σ a w){b j:Nat}{cs Fl:List AV}(hb:σ.bx[b]? =some (.mem cs)){xs:List AV}{vs:List Value}(hx:HF E w σ.bx xs vs)(I5:xs≠[])
  (e:D6 cs j xs=some Fl):
  w.there (E.BC b) j vs.length∧Rel E { σ with bx:=σ.bx.set b (.mem Fl) } a (w.setCells (E.BC b) j vs)∧Cn [b] E σ.bx w E (σ.bx.set b (.mem Fl)) (w.setCells (E.BC b) j vs):=by
 have st:=h.bx.st;obtain⟨F,⟨rfl,arr,ty,fr,ha,hu,hv⟩,hB⟩:=h.bx.take hb;simp only[Wj]at hB;have CA:=(WJ.1 hb).1;rcases EH hv hx e with⟨h1,h2⟩|⟨h1,_⟩
 case inr=>exact absurd h1 I5
 have Ew:j+vs.length≤arr.size:=by
  have l1:=AF.len hv;have l2:=AF.len hx;simp only[XU]at l1;omega
 have Cr: ¬E.T (E.BC b):=hB.PQ _ (by simp);have Ri:=hB;have En:∀c,c≠E.BC b→(w.setCells (E.BC b) j vs).heap[c]? =w.heap[c]?:=fun c hc=>Bm _ _ _ _ _ hc
 have hw:∀c,c<w.heap.size→c∉[E.BC b]→(w.setCells (E.BC b) j vs).heap[c]? =w.heap[c]?:=fun c _ hc=>En c (by simpa using hc)
 have kT:A0 E w σ.bx σ.bx [] E (σ.bx.set b .dead) [E.BC b]:=⟨Le.refl _,by simp,fun n B hn=>by
  by_cases en:n=b
  ·subst en
   rw[WV CA]at hn;exact .inl (by simpa using hn.symm)
  ·rw[WQ (fun h=>en h.symm)]at hn
   exact .inr hn,by simpa using hB⟩
 have keep:C8 E w σ.bx E (w.setCells (E.BC b) j vs) (σ.bx.set b (.mem Fl)):=FH b kT st (by simp) (fun n d r rows hn _ hq=>by
   rw[WQ (by omega)]at hq⊢;exact hq) (fun _ _=>rfl) (fun _ _=>rfl) rfl rfl hw (fun d r rows hq=>by
   rw[WV CA]at hq;cases hq)
 refine⟨Hh ha Ew hu,⟨h.CC,h.tm.imp fun _ _ hq=>CN keep hq,?_⟩,⟨⟨fun _ h=>h,fun _ h=>h,fun _ h=> .inl h,fun _ h=> .inl h,fun c hc=>En c (fun e=>Cr (e▸hc)),(AO _ _ _ _).os,(AO _ _ _ _).tape,(AO _ _ _ _).output,(AO _ _ _ _).size⟩,by simp,fun _ _=>⟨rfl,rfl⟩,fun n hn=>by
  rw[WQ (fun e=>by subst e;rw[hb]at hn;cases hn)];exact hn,fun n B B' KI hB Cs NJ=>by
  simp at KI;rw[WQ (fun e=>KI e.symm),hB]at Cs;cases Cs;refine⟨Db.refl NJ,fun c hc=>En c (fun e=> ?_)⟩;obtain⟨Fs,⟨f1,f2⟩,f3⟩:=Ri;have Dv:(σ.bx.set b .dead)[n]? =some B:=by rw[WQ (fun e=>KI e.symm)];exact hB
  have hF:Fs[n]? =some (Fs[n]'(by have:=(WJ.1 Dv).1;omega)):=WK _;rcases Gc (f2 n B _ Dv hF) hc with hs|hs
  ·exact Cr (e▸st c hs)
  ·exact(WS.1 f3.nodup).2.2 c (Wh.2 ⟨_,WT hF,hs⟩) (E.BC b) (by simp) e⟩⟩
 have hT:=hB.turn (E':=E) (w':=w.setCells (E.BC b) j vs) (vw':=σ.bx.set b (.mem Fl)) (fun x v hq=>Av keep hq) (fun _ h=>h) (fun _ _=>rfl) (fun _ _=>rfl) (fun c hc _=>En c (fun e=>by
   rcases hc with hc|hc
   ·exact Cr (e▸st c hc)
   ·exact hc.2 (by simp[e]))) (fun F hF=>⟨hF.nodup,hF.free,fun c hc=>by rw[A3];exact hF.lt c hc,hF.st,fun c hc=>by rw[A3];exact hF.GD c hc,hF.Lo.mono (fun _ h=>h) (fun c hc=>En c (fun e=>Cr (e▸hc)))⟩)
 have:=AK.put (b:=b) (B:= .mem Fl) (F:=[E.BC b]) (G:=[]) (by simpa using hT) (by rw[WV CA]) ⟨rfl,As arr j vs,ty,fr,Bf _ _ _ _ _ _ _ ha,by rw[Be];exact hu,h1.imp fun _ _ hq=>Av keep hq⟩;rw[Xr]at this;exact this
theorem D4:∀{r:Ty} {j j':Nat} {x:r.D} {t:Ty} {y:t.D} {x':r.D},AX r j x t y=some x'→j'≠j→AB r j' x' =AB r j' x
 | .cons c r,0,j',x,t,y,x',e,hj=>by
  simp only[AX]at e;split at e
  ·rename_i h
   subst h;simp only[WL]at e;subst e;cases j' with
   |zero=>exact absurd rfl hj
   |succ j' =>simp[AB]
  ·cases e
 | .cons c r,j+1,j',x,t,y,x',e,hj=>by
  simp only[AX,WM]at e;obtain⟨z,e1,rfl⟩:=e;cases j' with
  |zero=>simp[AB]
  |succ j' =>
   simp only[AB];exact D4 e1 (by omega)
 | .unit,_,_,_,_,_,_,e,_=>by simp[AX]at e
 | .int k,0,j',x,t,y,x',e,hj=>by cases j' with
  |zero=>exact absurd rfl hj
  |succ j' =>simp[AB]
 | .bool,0,j',x,t,y,x',e,hj=>by cases j' with
  |zero=>exact absurd rfl hj
  |succ j' =>simp[AB]
 | .str,0,j',x,t,y,x',e,hj=>by cases j' with
  |zero=>exact absurd rfl hj
  |succ j' =>simp[AB]
 | .sl _,0,j',x,t,y,x',e,hj=>by cases j' with
  |zero=>exact absurd rfl hj
  |succ j' =>simp[AB]
 | .int _,_+1,_,_,_,_,_,e,_=>by simp[AX]at e
 | .bool,_+1,_,_,_,_,_,e,_=>by simp[AX]at e
 | .str,_+1,_,_,_,_,_,e,_=>by simp[AX]at e
 | .sl _,_+1,_,_,_,_,_,e,_=>by simp[AX]at e
theorem DR:∀{r:Ty} {j:Nat} {x:r.D} {t:Ty} {y:t.D} {x':r.D},AX r j x t y=some x'→AB r j x' =some ⟨t,y⟩∧ ∃y0:t.D,AB r j x=some ⟨t,y0⟩
 | .cons c r,0,x,t,y,x',e=>by
  simp only[AX]at e;split at e
  ·rename_i h
   subst h;simp only[WL]at e;subst e;exact⟨rfl,_,rfl⟩
  ·cases e
 | .cons c r,j+1,x,t,y,x',e=>by
  simp only[AX,WM]at e;obtain⟨z,e1,rfl⟩:=e;simp only[AB];exact DR e1
 | .unit,_,_,_,_,_,e=>by simp[AX]at e
 | .int k,0,x,t,y,x',e=>by
  simp only[AX]at e;split at e
  ·rename_i h;subst h;cases e;exact⟨rfl,_,rfl⟩
  ·cases e
 | .bool,0,x,t,y,x',e=>by
  simp only[AX]at e;split at e
  ·rename_i h;subst h;cases e;exact⟨rfl,_,rfl⟩
  ·cases e
 | .str,0,x,t,y,x',e=>by
  simp only[AX]at e;split at e
  ·rename_i h;subst h;cases e;exact⟨rfl,_,rfl⟩
  ·cases e
 | .sl _,0,x,t,y,x',e=>by
  simp only[AX]at e;split at e
  ·rename_i h;subst h;cases e;exact⟨rfl,_,rfl⟩
  ·cases e
 | .int _,_+1,_,_,_,_,e=>by simp[AX]at e
 | .bool,_+1,_,_,_,_,e=>by simp[AX]at e
 | .str,_+1,_,_,_,_,e=>by simp[AX]at e
 | .sl _,_+1,_,_,_,_,e=>by simp[AX]at e
theorem H0{r:Ty}{rows:List r.D}{i k:Nat}{x:r.D}(hi:i<rows.length):rowAt r (rows.set i x) k=if k=i then x else rowAt r rows k:=by
 unfold rowAt;rw[XF,XF,W_];by_cases e:k=i
 ·subst e;simp[hi]
 ·rw[Wr (fun h=>e h.symm),Wr e]
theorem JO:∀{p:List Ie} {r:Ty} {rows rows':List r.D} {q:Ty} {ys JC:List q.D},Ay r rows p=some ⟨q,ys⟩→JC.length=ys.length→JW r rows p q JC=some rows'→rows'.length=rows.length
 |[],r,rows,rows',q,ys,JC,h1,h2,h3=>by
  simp only[Ay,WL,WU]at h1;obtain⟨rfl,h1⟩:=h1;obtain rfl:=Wi h1;simp only[JW,Xo,Ci,WL]at h3;rw[←h3];exact h2
 |s::p,r,rows,rows',q,ys,JC,h1,h2,h3=>by
  simp only[JW]at h3;split at h3
  ·simp only[WN,WM]at h3
   obtain⟨_,_,_,_,rfl⟩:=h3;simp
  ·cases h3
theorem Ij{t:Ty}(ht:t.scalar=true){y:t.D}{q:Ty}{i j:Nat}:∀{p':List Ie} {r:Ty} {rows rows':List r.D} {p:List Ie} {ys:List q.D} {E8:q.D},AM r rows p→Ay r rows p=some ⟨q,ys⟩→i<ys.length→
  AX q j (rowAt q ys i) t y=some E8→JW r rows p q (ys.set i E8)=some rows'→AM r rows p'→ ∀q' zs,Ay r rows p' =some ⟨q',zs⟩→
   AM r rows' p'∧ ∃zs',Ay r rows' p' =some ⟨q',zs'⟩∧List.length zs' =List.length zs
 |[],r,rows,rows',p,ys,E8,_,hg,hi,hc,hs,_,q',zs,Mk=>by
  simp only[Ay,WL,WU]at Mk;obtain⟨rfl,Mk⟩:=Mk;obtain rfl:=Wi Mk;exact⟨by simp[AM],rows',by simp[Ay],JO hg (by simp) hs⟩
 |s'::p',r,rows,rows',p,ys,E8,hp,hg,hi,hc,hs,QJ,q',zs,Mk=>by
  have hlen:=JO hg (by simp) hs;simp only[AM]at QJ⊢;obtain⟨g1,g2,g3⟩:=QJ;simp only[Ay]at Mk⊢;split at Mk
  case h_2=>cases Mk
  rename_i q0 x0 Fu;rw[Fu]at g3;dsimp only at g3;have key:∃x1,AB r s'.j (rowAt r rows' s'.i)=some ⟨.sl q0,x1⟩∧AM q0 x1 p'∧ ∃zs',Ay q0 x1 p' =some ⟨q',zs'⟩∧List.length zs' =List.length zs:=by
   have same:AB r s'.j (rowAt r rows' s'.i)=some ⟨.sl q0,x0⟩→ ∃x1,AB r s'.j (rowAt r rows' s'.i)=some ⟨.sl q0,x1⟩∧AM q0 x1 p'∧ ∃zs',Ay q0 x1 p' =some ⟨q',zs'⟩∧List.length zs' =List.length zs:=
    fun h=>⟨x0,h,g3,zs,Mk,rfl⟩
   cases p with
   |nil=>
    simp only[Ay,WL,WU]at hg;obtain⟨rfl,hg⟩:=hg;obtain rfl:=Wi hg;simp only[JW,Xo,Ci,WL]at hs;subst hs;apply same;rw[H0 hi];split
    ·rename_i e
     subst e;by_cases ej:s'.j=j
     ·obtain⟨_,y0,h0⟩:=DR hc
      rw[ej,h0]at Fu;simp only[WL,WU]at Fu;obtain⟨rfl,_⟩:=Fu;simp[Ty.scalar]at ht
     ·rw[D4 hc ej];exact Fu
    ·exact Fu
   |cons s p=>
    simp only[AM]at hp;obtain⟨k1,k2,k3⟩:=hp;simp only[Ay]at hg;split at hg
    case h_2=>cases hg
    rename_i r' x Td;rw[Td]at k3;dsimp only at k3;simp only[JW,Td,WN,WM]at hs;obtain⟨x',hs1,row2,RH,rfl⟩:=hs;rw[H0 k1];rw[H0 k1]at same;split
    ·rename_i e
     rw[Wt e]at same;rw[e]at Fu;by_cases ej:s'.j=s.j
     ·rw[ej]at Fu⊢
      rw[Td]at Fu;simp only[WL,WU,Ty.sl.injEq]at Fu;obtain⟨rfl,Fu⟩:=Fu;obtain rfl:=Wi Fu;obtain⟨m1,m2⟩:=Ij ht k3 hg hi hc hs1 g3 q' zs Mk;exact⟨x',(DR RH).1,m1,m2⟩
     ·exact same (by rw[D4 RH ej];exact Fu)
    ·rename_i e
     rw[Wr e]at same;exact same Fu
  obtain⟨x1,e1,e2,e3⟩:=key;rw[e1];exact⟨⟨by omega,g2,e2⟩,e3⟩
theorem K6{w w':World}{B:Nat→Prop}(EP:∀A,w'.cell? A=w.cell? A∨ ∃v,w'.cell? A=some v∧isSlice v=false):∀{p:List Ie} {r:Ty} {h:Value} {rows:List r.D} {hh:Value},
  Rd w' B (.sl r) [h] rows→AM r rows p→BU w h p=some hh→BU w' h p=some hh
 |[],_,h,_,hh,_,_,e=>by rw[AJ]at e⊢;exact e
 |s::p,r,h,rows,hh,hr,hp,e=>by
  simp only[AM]at hp;obtain⟨hi,CK,hp⟩:=hp;simp only[Rd]at hr;obtain⟨a,cap,e1,_,hr⟩:=hr;obtain rfl:=(XH e1).1;rcases hr with hr|⟨b,o,rfl,hb,hr⟩
  ·omega
  obtain⟨cs,hl,hc,hrow⟩:=hr s.i _ (Cf hi);split at hp
  case h_2=>exact hp.elim
  rename_i q x Fu;obtain⟨v,hv,hrv⟩:=GY hrow Fu;have QE:=hc _ _ hv;rw[←CK]at QE;simp only[BU]at e⊢;split at e
  case h_2=>cases e
  rename_i v0 UK;rcases EP ⟨b,o+s.i*s.sz+s.j,none⟩with h1|⟨u,h1,h2⟩
  ·rw[h1,UK]
   rw[h1,UK]at QE;cases QE;exact K6 EP hrv hp e
  ·rw[QE]at h1
   cases h1;simp only[Rd]at hrv;obtain⟨_,_,e2,_⟩:=hrv;simp only[Wg,W3]at e2;subst e2;simp[isSlice]at h2
theorem PR{E E':Env}{w w':World}{vw vw':List Bx}{b d d':Nat}{r:Ty}{rows rows':List r.D}(k:C8 E w vw E' w' (vw'.set b .dead))(hb:vw[b]? =some (.sl d r rows))(Pz:vw'[b]? =some (.sl d' r rows'))(hl:rows'.length=rows.length)
  (hh:E'.BD b=E.BD b) {x:AV} {v:Value} (h:VR E w vw x v):VR E' w' vw' (BW b x) v:=by
 have h1:=Av k h;have En:∀{b'},b'≠b→(vw'.set b .dead)[b']? =vw'[b']?:=fun e=>WQ (fun h=>e h.symm)
 cases x with
 |v t x=>exact h1
 |sl s r x=>exact h1
 |nil=>exact h1
 |BA c j=>exact⟨by simpa using h1.1,h1.2⟩
 |CH s r x j=>exact h1
 |fn f BZ=>exact⟨fun c hc=>by simpa using h1.1 c hc,h1.2⟩
 |LB f rows=>exact h1
 |M_=>exact h1
 |undef=>trivial
 |ref c p=>
  cases p with
  |nil=>
   simp only[BW];by_cases e:c=b
   ·subst e
    simp only[VR,hb,Pz]at h⊢;refine⟨h.1,by simp[AM],⟨_,rfl⟩,?_⟩;rw[AJ,hh,←AJ (w:=w) (h:=E.BD c)];exact h.2.2.2
   ·simp only[VR,En e]at h1⊢;exact h1
  |cons s p=>
   simp only[BW];split
   ·trivial
   ·rename_i e
    simp only[VR,En e]at h1⊢;exact h1
 |win c p off n=>
  cases p with
  |nil=>
   simp only[BW];by_cases e:c=b
   ·subst e
    simp only[VR,hb,Pz]at h⊢;obtain⟨h0,_,q,ys,a,len,cap,e1,e2,e3,e4⟩:=h;simp only[Ay,WL,WU]at e1;obtain⟨rfl,e1⟩:=e1;obtain rfl:=Wi e1;refine⟨h0,by simp[AM],r,rows',a,len,cap,rfl,by rw[hl];exact e2,?_,e4⟩;rw[AJ,hh,←AJ (w:=w) (h:=E.BD c)];exact e3
   ·simp only[VR,En e]at h1⊢;exact h1
  |cons s p=>
   simp only[BW];split
   ·trivial
   ·rename_i e
    simp only[VR,En e]at h1⊢;exact h1
 |BT c p i sz j=>
  cases p with
  |nil=>
   simp only[BW];by_cases e:c=b
   ·subst e
    simp only[VR,hb,Pz]at h⊢;obtain⟨h0,_,q,ys,bb,o,len,cap,e1,e2,e3,e4⟩:=h;simp only[Ay,WL,WU]at e1;obtain⟨rfl,e1⟩:=e1;obtain rfl:=Wi e1;refine⟨h0,by simp[AM],r,rows',bb,o,len,cap,rfl,by rw[hl];exact e2,?_,e4⟩;rw[AJ,hh,←AJ (w:=w) (h:=E.BD c)];exact e3
   ·simp only[VR,En e]at h1⊢;exact h1
  |cons s p=>
   simp only[BW];split
   ·trivial
   ·rename_i e
    simp only[VR,En e]at h1⊢;exact h1
theorem PO{E E':Env}{w w':World}{vw vw':List Bx}{b:Nat}(k:∀x v,VR E w vw x v→VR E' w' vw' (BW b x) v){x:XV}{v:Value}(h:XR E w vw x v):XR E' w' vw' (La b x) v:=by
 cases x with
 |c x=>exact k x v h
 |agg l=>
  obtain⟨vs,rfl,ED⟩:=h;exact⟨vs,rfl,AF.Bi _ k ED⟩
 |DY l=>
  obtain⟨vs,rfl,ED⟩:=h;refine⟨vs,rfl,AF.Bi _ (fun x v hx=> ?_) ED⟩;cases x with
  |inl x=>exact k x v hx
  |inr q=>
   obtain⟨us,rfl,hus⟩:=hx;exact⟨us,rfl,AF.Bi _ k hus⟩
end Go.Fw
end
section
namespace Go.Fw
theorem Ji{w:World}{vw:List Bx}{E:Env}{bx:List Bx}{G:V6}(h:AK E w vw bx G)(hw:Aj bx vw){d:Nat}(hd:1≤d){q:Ty}{R6:q.D}{j:Nat}{x:XV}{v:Value}(hv:XR E w vw x v){E8:q.D}{Cd:List Bx}{d':Nat}
  (e:J7 d q R6 j x bx=some (E8,Cd,d')):1≤d'∧d'≤d∧ ∃E' F,A0 E w vw bx G E' Cd F∧
   ((j=0∧x.plain=false∧Ow w E'.S (d'-1) q v.cells.toList E8 F)∨(∃t y,v.cells.toList=[v]∧Ow w E'.S (d'-1) t [v] y F∧AX q j R6 t y=some E8∧(x.plain=true→t.scalar=true∧isSlice v=false))):=by
 unfold J7 at e;split at e
 ·rename_i l
  split at e
  case isFalse=>cases e
  rename_i hj;obtain⟨vs,rfl,ED⟩:=hv;obtain⟨h1,h2,E',F,h3,h4⟩:=Eg h hw hd ED e;exact⟨h1,h2,E',F,h3,.inl ⟨hj,rfl,h4⟩⟩
 ·rename_i x
  split at e
  case h_2=>cases e
  rename_i t y0 hc;simp only[WN,WM,Wn]at e;obtain⟨⟨y,HU,d1⟩,e1,row,e2,rfl,rfl,rfl⟩:=e;dsimp only at e2;have Fi:VR E w vw x v:=hv;have hk:x.known=true:=by cases x<;>simp_all[AV.known,GO]
  obtain⟨h1,h2,E',F,h3,h4⟩:=Fc h hw hd Fi e1;refine⟨h1,h2,E',F,h3,.inr ⟨t,y,by rw[(Ld Fi hk).2],h4,e2,fun hp=> ?_⟩⟩;cases x with
  |v u z=>
   simp only[GO,WM,Wn]at e1;obtain⟨z',e3,_⟩:=e1;obtain⟨rfl,_⟩:=A9 e3;obtain⟨hs,hr⟩:=Fi;refine⟨hs,?_⟩;cases u<;>simp_all[Ty.scalar,Rd]<;>rfl
  |_=>simp[XV.plain]at hp
 ·cases e
theorem Jy{f:AV→AV}{bx:List Bx}{b d:Nat}{r:Ty}{rows:List r.D}:(bx.set b (.sl d r rows)).map (Bx.map f)=(bx.map (Bx.map f)).set b (.sl d r rows):=by
 rw[List.map_set];rfl
theorem Ol{f:AV→AV}{bx:List Bx}{n d:Nat}{r:Ty}{rows:List r.D}(h:(bx.map (Bx.map f))[n]? =some (.sl d r rows)):bx[n]? =some (.sl d r rows):=by
 rw[Wl,WM]at h;obtain⟨B,h1,h2⟩:=h;cases B with
 |mem cs=>simp[Bx.map]at h2
 |sl d' r' rows' =>rw[h1];exact congrArg some h2
 |dead=>simp[Bx.map]at h2
theorem Kq{E:Env}{σ:St}{a:Act}{w:World}(h:Rel E σ a w){b i sz j:Nat}{p:List Ie}{va v:Value}(Pc:VR E w σ.bx (.BT b p i sz j) va){x:XV}(hv:XR E w σ.bx x v)(Q9:∀u∈v.cells.toList,u.oneCell' =true)
  {σ':St} (e:Gz σ (.c (.BT b p i sz j)) x=some σ'):
  ∃bb oo E',va= .pointer (some ⟨bb,oo,none⟩)∧w.there bb oo v.cells.toList.length∧Rel E' σ' a (w.setCells bb oo v.cells.toList)∧Cn [b] E σ.bx w E' σ'.bx (w.setCells bb oo v.cells.toList)∧σ'.tm.length=σ.tm.length:=by
 simp only[Gz]at e;split at e
 case h_2=>cases e
 rename_i d r rows hb;split at e
 case isFalse=>cases e
 rename_i SD;simp only[WN]at e;obtain⟨⟨q,ys⟩,hg,e⟩:=e;dsimp only at e;split at e
 case isFalse=>cases e
 rename_i CK;simp only[WN,WM]at e;obtain⟨⟨E8,Et,d2⟩,e1,rows',e2,e3⟩:=e;dsimp only at e1 e2 e3;have st:=h.bx.st;simp only[VR,hb]at Pc;obtain⟨_,hp,q1,ys1,bb,o,len,cap,g1,hi,g3,rfl⟩:=Pc;rw[hg]at g1;simp only[WL,WU]at g1;obtain⟨rfl,g1⟩:=g1;obtain rfl:=Wi g1;have CA:=(WJ.1 hb).1;obtain⟨Gb,⟨hd1,ho⟩,hB⟩:=h.bx.take hb;have Rg:Aj (σ.bx.set b .dead) σ.bx:=fun n B hn=>by
  by_cases en:n=b
  ·subst en
   rw[WV CA]at hn;exact .inl (by simpa using hn.symm)
  ·rw[WQ (fun h=>en h.symm)]at hn
   exact .inr hn
 obtain⟨hd2,hd3,E1,Fx,k1,hrow⟩:=Ji hB Rg (by omega) hv e1;obtain⟨A,W,pG,Qp⟩:=Bc (d:=d2+p.length) (by omega) ho;have Dv:=k1.boxes.perm (G':=(Fx++A)++W++[]) (by
  rw[Wj,Wj,WR];exact We _ pG)
 obtain⟨hle,hB3⟩:=Dv.share;simp only[Wj]at hB3
 generalize Vr:({ E1 with S:=fun c=>E1.S c∨c∈W,T:=fun c=>E1.T c∨c∈W }:Env)=E3 at hle hB3
 have It:Le E E3:=k1.le.trans hle;have Sn:Ow w E3.S (d2+p.length) (.sl r) [E.BD b] rows A:=Ae (fun c hc=>by
  subst Vr;exact hc.imp (k1.le.S c) id) (fun _ _=>rfl) (fun _ _=>rfl) Qp
 obtain⟨h',F1,F2,m1,m2,m3,m4⟩:=KD Sn hp hg (by omega);rw[g3]at m1;cases m1;obtain⟨m,rfl⟩:∃m,d2=m+1:=⟨d2-1,by omega⟩;rw[show m+1+p.length-p.length=m+1 by omega]at m2 m4;simp only[Nat.add_sub_cancel]at hrow;obtain⟨b1,o1,arr,ty,fr,cs,G,R,n1,n2,n3,n4,n5,n6,n7,n8,n9⟩:=Lb m2 hi;simp only[WL,Addr.mk.injEq,W3]at n1;obtain⟨rfl,rfl⟩:=n1;subst CK;have Ss:A.Perm (G++(bb::R)++F2):=m3.trans (n8.append_right F2);obtain⟨Fs,hFs1,hFs2⟩:=hB3;have TK:bb∈A:=Ss.mem_iff.2 (by simp);have Cr: ¬E3.T bb:=hFs2.free bb (by simp[TK]);have JP: ¬E3.S bb:=fun hc=>Cr (hFs2.st bb hc)
 have nd:(Fx++(G++(bb::R)++F2)).Nodup:=(We Fx Ss).nodup_iff.1 (WS.1 hFs2.nodup).2.1;have UE:bb∉Fx:=fun hc=>(WS.1 nd).2.2 bb hc bb (by simp) rfl
 have VC:bb∉G:=fun hc=>(WS.1 (WS.1 (WS.1 nd).2.1).1).2.2 bb hc bb (by simp) rfl
 have VO:bb∉R:=(XM.1 (WS.1 (WS.1 (WS.1 nd).2.1).1).2.1).1;have U2:bb∉F2:=fun hc=>(WS.1 (WS.1 nd).2.1).2.2 bb (by simp) bb hc rfl
 have Nb:j+v.cells.toList.length≤q.n:=by
  rcases hrow with⟨rfl,_,ho4⟩|⟨t,y,hc1,ho4,Ft,_⟩
  ·rw[EJ ho4];omega
  ·rw[hc1]
   obtain⟨_,y0,Pf⟩:=DR Ft;obtain⟨u,_,_,hu,_⟩:=GX n7 Pf;have:=(WJ.1 hu).1;simp;omega
 have Ew:o+i*q.n+j+v.cells.toList.length≤arr.size:=by omega
 let w':=w.setCells bb (o+i*q.n+j) v.cells.toList
 have En:∀c,c≠bb→w'.heap[c]? =w.heap[c]?:=fun c hc=>Bm _ _ _ _ _ hc
 have KJ:∀c,E3.S c→w'.heap[c]? =w.heap[c]?:=fun c hc=>En c (fun e=>JP (e▸hc))
 have Pz:=Bf v.cells.toList (o+i*q.n+j) w bb arr ty fr n2;have EP:∃Fl G' D0,Fl.length=q.n∧AG w' bb (o+i*q.n) Fl∧Ow w' E3.S m q Fl E8 G'∧(Fx++G).Perm (G'++D0):=by
  rcases hrow with⟨rfl,_,ho4⟩|⟨t,y,hc1,ho4,Ft,_⟩
  ·refine⟨v.cells.toList,Fx,G,EJ ho4,DU n2 Ew,Ae (fun c hc=>hle.S c hc) (fun c hc=>En c (fun e=>JP (e▸hle.S c hc))) (fun c hc=>En c (fun e=>UE (e▸hc))) ho4,Xu _⟩
  ·obtain⟨_,y0,Pf⟩:=DR Ft
   obtain⟨u,K1,K2,z1,z2,z3,z4⟩:=GX n7 Pf;have S3:bb∉K2:=fun hc=>VC (z3.mem_iff.2 (by simp[hc]))
   obtain⟨F',f1,f2⟩:=z4 w' E3.S v y Fx E8 (fun _ hc=>hc) KJ (fun c hc=>En c (fun e=>S3 (e▸hc)))
    (Ae (fun c hc=>hle.S c hc) (fun c hc=>En c (fun e=>JP (e▸hle.S c hc))) (fun c hc=>En c (fun e=>UE (e▸hc))) ho4) Ft
   refine⟨cs.set j v,F',K1,by simpa using n5,fun x u' hx=> ?_,f2,?_⟩
   ·rw[W_]at hx
    split at hx
    ·rename_i Ts
     subst Ts;split at hx
     ·cases hx
      have:=DU (w:=w) (b:=bb) (o:=o+i*q.n+j) (vs:=v.cells.toList) n2 Ew 0 v (by rw[hc1];rfl);simpa using this
     ·cases hx
    ·rename_i Ts
     have hold:=n6 x u' hx;rw[B5 n2]at hold;rw[B5 Pz,Ds Ew,Wr (fun hh=>by rw[hc1]at hh;simp only[Wa,Wm]at hh;omega),hold]
   ·refine(We Fx z3).trans ?_
    refine List.Perm.trans ?_ (f1.symm.append_right K1)
    rw[WR];exact We _ Wf
 obtain⟨Fl,G',D0,c1,c2,c3,c4⟩:=EP;obtain⟨IQ,f1,f2⟩:=n9 w' E3.S (As arr (o+i*q.n+j) v.cells.toList) Fl E8 G' (fun _ hc=>hc) KJ (fun c hc=>En c (fun e=>VO (e▸hc))) Pz (Be _ _ _) (fun k hk=>by
  rw[Ds Ew,Wr (by omega)]) c1 c2 c3
 obtain⟨F',f3,f4⟩:=m4 w' E3.S (ys.set i E8) IQ rows' (fun _ hc=>hc) KJ (fun c hc=>En c (fun e=>U2 (e▸hc))) f2 e2;have IZ:(Fx++A).Perm (F'++D0):=by
  have p1:F'.Perm (G'++(bb::R)++F2):=f3.trans (f1.append_right F2);refine(We Fx Ss).trans (List.Perm.trans ?_ (p1.symm.append_right D0))
  classical
  rw[Xq];intro c;have h4:=(Xq.1 c4) c;simp only[List.count_append]at h4⊢;omega
 have S5:bb∈F':=(f3.trans (f1.append_right F2)).mem_iff.2 (by simp);have SX:AK E3 w σ.bx Et F':=by
  have:AK E3 w σ.bx Et (F'++D0):=AK.perm (G:=Fx++A) ⟨Fs,hFs1,hFs2⟩ IZ;exact this.drop
 have Ii:Et.length=σ.bx.length:=by rw[k1.len];simp
 have Rz:Et[b]? =some .dead:=by
  obtain⟨B,hB⟩:∃B,Et[b]? =some B:=⟨_,WK (by omega)⟩;rcases k1.within b B hB with e|e
  ·rw[hB,e]
  ·rw[WV CA]at e;rw[hB];exact e.symm
 have VW:rows'.length=rows.length:=JO hg (by simp) e2;have kT:∀E0,Le E0 E3→A0 E0 w σ.bx σ.bx [] E3 Et (Fx++A):=fun E0 hl=>⟨hl,Ii,fun n B hn=>by
  rcases k1.within n B hn with e|e
  ·exact .inl e
  ·exact(Rg n B e),⟨Fs,hFs1,by simpa using hFs2⟩⟩
 have F7:∀n,E3.BD n=E.BD n:=fun n=>by rw[It.BD]
 have UQ:∀c,c<w.heap.size→c∉Fx++A→w'.heap[c]? =w.heap[c]?:=fun c _ hc=>En c (fun e=>hc (by rw[e];simp[TK]))
 have base:Gh E w E3 w':=⟨It.T,It.S,It.Pt,It.NQ,fun c hc=>En c (fun e=>Cr (e▸It.T c hc)),(AO _ _ _ _).os,(AO _ _ _ _).tape,(AO _ _ _ _).output,(AO _ _ _ _).size⟩;have finish:∀(f:AV→AV) (g:XV→XV),(∀E0,Le E0 E3→(∀c,E0.S c→E0.T c)→ ∀x v,VR E0 w σ.bx x v→VR E3 w' ((Et.map (Bx.map f)).set b (.sl (m+1+p.length) r rows')) (f x) v)→
   (∀x v,XR E w σ.bx x v→XR E3 w' ((Et.map (Bx.map f)).set b (.sl (m+1+p.length) r rows')) (g x) v)→
   Rel E3 { tm:=σ.tm.map g,bx:=(Et.map (Bx.map f)).set b (.sl (m+1+p.length) r rows') } a w':=by
  intro f g hf hg;refine⟨h.CC,AF.Bi _ hg h.tm,?_⟩;have hT:=SX.SK (E':=E3) (w':=w') (vw':=(Et.map (Bx.map f)).set b (.sl (m+1+p.length) r rows')) f (hf E3 (Le.refl _) hFs2.st) (fun _ h=>h) (fun _ _=>rfl) (fun _ _=>rfl) (fun c hc _=>En c (fun e=>by
    rcases hc with hc|hc
    ·exact JP (e▸hc)
    ·exact hc.2 (by rw[e];exact S5))) (fun F hF=>⟨hF.nodup,hF.free,fun c hc=>by rw[A3];exact hF.lt c hc,hF.st,fun c hc=>by rw[A3];exact hF.GD c hc,hF.Lo.mono (fun _ h=>h) (fun c hc=>En c (fun e=>Cr (e▸hc)))⟩)
  refine AK.put (F:=F') (G:=[]) (by simpa using hT) (by rw[Wl,Rz];rfl) ⟨by omega,?_⟩;rw[F7];exact f4
 have Pd:∀f:AV→AV,Cn [b] E σ.bx w E3 ((Et.map (Bx.map f)).set b (.sl (m+1+p.length) r rows')) w':=fun f=>⟨base,by simp[Ii],fun n _=>⟨by rw[It.BC],F7 n⟩,fun n hn=>by
  have KI:n≠b:=fun e=>by subst e;rw[hb]at hn;cases hn
  have MY:=(WJ.1 hn).1;rw[WQ (fun e=>KI e.symm),Wl];obtain⟨B,hB⟩:∃B,Et[n]? =some B:=⟨_,WK (by omega)⟩;have Ub:B= .dead:=by
   rcases(kT E It).within n B hB with e|e
   ·exact e
   ·rw[hn]at e;cases e;rfl
  rw[hB,Ub];rfl,fun n B B' KI hB Cs NJ=>by
  simp at KI;have MY:=(WJ.1 hB).1;rw[WQ (fun e=>KI e.symm),Wl]at Cs;obtain⟨B2,Dv⟩:∃B2,Et[n]? =some B2:=⟨_,WK (by omega)⟩;rw[Dv]at Cs;have Cs:Bx.map f B2=B':=by simpa using Cs
  have Ux:B2=B:=by
   rcases(kT E It).within n B2 Dv with e|e
   ·subst e;exact absurd Cs.symm NJ
   ·rw[hB]at e;cases e;rfl
  subst Ux;refine⟨?_,fun c hc=>En c (fun e=> ?_)⟩
  ·subst Cs
   cases B2 with
   |mem cs=>trivial
   |sl d r rows=>rfl
   |dead=>exact absurd rfl NJ
  ·have hF:Fs[n]? =some (Fs[n]'(by have:=(WJ.1 Dv).1;rw[hFs1.1];exact this)):=WK _
   have Iw:MX E3 w n B2 c:=by
    cases B2 with
    |mem cs=>simp only[MX]at hc⊢;rw[It.BC];exact hc
    |sl d r rows=>simp only[MX]at hc⊢;rw[F7];exact hc
    |dead=>exact hc
   rcases Gc (hFs1.2 n B2 _ Dv hF) Iw with hs|hs
   ·exact JP (e▸hs)
   ·exact(WS.1 hFs2.nodup).2.2 c (Wh.2 ⟨_,WT hF,hs⟩) bb (by simp[TK]) e⟩
 refine⟨bb,o+i*q.n+j,E3,rfl,Hh (k:=0) n2 Ew n3,?_,?_,?_⟩
 ·split at e3
  ·rename_i RQ
   have h0:∀E0,Le E0 E3→(∀c,E0.S c→E0.T c)→C8 E0 w σ.bx E3 w' (Et.set b (.sl (m+1+p.length) r rows')):=by
    intro E0 hl Rs;refine FH b (kT E0 hl) Rs (by simp[Ii]) (fun n d r rows hn _ hq=>by
      rw[WQ (fun e=>hn e.symm)]at hq;exact hq) (fun _ _=>rfl) (fun _ _=>rfl) rfl rfl UQ (fun d0 r0 Ch hq=> ?_)
    rw[WV (by omega)]at hq;simp only[WL,Bx.sl.injEq]at hq;obtain⟨rfl,rfl,hq⟩:=hq;obtain rfl:=Wi hq;refine⟨d,rows,hb,fun p' QJ q' zs Mk=> ?_⟩;rcases hrow with⟨_,SB,_⟩|⟨t,y,hc1,ho4,Ft,QA⟩
    ·rw[RQ]at SB;cases SB
    obtain⟨hs1,RH⟩:=QA RQ;have hk:=Ij hs1 hp hg hi Ft e2 QJ q' zs Mk;refine⟨hk.1,hk.2,fun hh T2=> ?_⟩;rw[F7];rw[←hl.BD,F7]at T2;refine K6 (fun Ad=> ?_) (ER f4) hk.1 T2;by_cases eA:Ad.block=bb∧Ad.spot=none∧Ad.off=o+i*q.n+j
    ·right
     obtain⟨ab,ao,asp⟩:=Ad;simp only at eA;rw[eA.1,eA.2.1,eA.2.2];refine⟨v,?_,RH⟩;have:=DU (w:=w) (b:=bb) (o:=o+i*q.n+j) (vs:=v.cells.toList) n2 Ew 0 v (by rw[hc1];rfl);simpa using this
    ·left
     refine World.cell?_setCells_out bb v.cells.toList (o+i*q.n+j) w Ad (fun q1 q2=> ?_)
     rw[hc1];simp only[Wa,Wm];have:Ad.off≠o+i*q.n+j:=fun q3=>eA ⟨q1,q2,q3⟩
     omega
   have:=finish id id (fun E0 hl Rs x v hx=>by rw[E5];exact Av (h0 E0 hl Rs) hx) (fun x v hx=>by rw[E5];exact CN (h0 E It st) hx);rw[E5,List.map_id]at this;rw[←e3];exact this
  ·have h0:∀E0,Le E0 E3→(∀c,E0.S c→E0.T c)→ ∀x v,VR E0 w σ.bx x v→VR E3 w' ((Et.map (Bx.map (BW b))).set b (.sl (m+1+p.length) r rows')) (BW b x) v:=by
    intro E0 hl Rs x v hx;have keep:C8 E0 w σ.bx E3 w' (((Et.map (Bx.map (BW b))).set b (.sl (m+1+p.length) r rows')).set b .dead):=by
     refine FH b (kT E0 hl) Rs (by simp[Ii]) (fun n d r rows hn _ hq=>by
      rw[WQ (fun e=>hn e.symm),WQ (fun e=>hn e.symm)]at hq;exact Ol hq) (fun _ _=>rfl) (fun _ _=>rfl) rfl rfl UQ (fun d0 r0 Ch hq=> ?_)
     rw[WV (by simp;omega)]at hq;cases hq
    exact PR keep hb (by rw[WV (by simp;omega)]) VW (by rw[hl.BD]) hx
   have:=finish (BW b) (La b) h0 (fun x v hx=>PO (h0 E It st) hx);rw[←e3];simp only[St.Na];rw[Il,Jy];exact this
 ·rw[←e3]
  split
  ·have:=Pd id
   rw[E5]at this;exact this
  ·simp only[St.Na]
   rw[Il,Jy];exact Pd _
 ·rw[←e3]
  split<;>simp[St.Na]
end Go.Fw
end
section
namespace Go.Fw
theorem Lh{w w':World}{B B':Nat→Prop}:∀{r:Ty} {cs:List Value} {x:r.D},r.flat=true→Rd w B r cs x→Rd w' B' r cs x
 | .cons c r,cs,x,h,hr=>by
  simp only[Ty.flat,WY]at h;simp only[Rd]at hr⊢;obtain⟨v,l,rfl,h1,h2⟩:=hr;exact⟨v,l,rfl,Lh h.1 h1,Lh h.2 h2⟩
 | .unit,_,_,_,hr=>by simpa only[Rd]using hr
 | .int k,_,_,_,hr=>by simpa only[Rd]using hr
 | .bool,_,_,_,hr=>by simpa only[Rd]using hr
 | .str,_,_,_,hr=>by simpa only[Rd]using hr
 | .sl q,_,_,h,_=>by simp[Ty.flat]at h
theorem Fv{w:World}{S:Nat→Prop}{d:Nat}:∀{r:Ty} {cs:List Value} {y:r.D} {F:V6},r.flat=true→Ow w S d r cs y F→F=[]
 | .int k,_,_,_,_,h=>by simp only[Ow]at h;exact h.2
 | .bool,_,_,_,_,h=>by simp only[Ow]at h;exact h.2
 | .str,_,_,_,_,h=>by simp only[Ow]at h;exact h.2
 | .unit,_,_,_,_,h=>by simp only[Ow]at h;exact h.2
 | .cons c r,_,_,_,hf,h=>by
  simp only[Ty.flat,WY]at hf;simp only[Ow]at h;obtain⟨v,l,F1,F2,_,rfl,h1,h2⟩:=h;rw[Fv hf.1 h1,Fv hf.2 h2];rfl
 | .sl q,_,_,_,hf,_=>by simp[Ty.flat]at hf
theorem MV{w w':World}{S S':Nat→Prop}{d d':Nat}{r:Ty}(hr:r.flat=true){cs:List Value}{y:r.D}{F:V6}(h:Ow w S d r cs y F):F=[]∧cs.length=r.n∧Ow w' S' d' r cs y []:=
 ⟨Fv hr h,EJ h,HK hr (Lh (B':=fun _=>False) hr (ER h))⟩
theorem HL:∀{r:Ty} {j:Nat} {x:r.D} {t:Ty} {y:t.D},r.flat=true→AB r j x=some ⟨t,y⟩→t.flat=true
 | .cons c r,0,x,t,y,h,e=>by
  simp only[Ty.flat,WY]at h;simp only[AB,WL,WU]at e;obtain⟨rfl,_⟩:=e;exact h.1
 | .cons c r,j+1,x,t,y,h,e=>by
  simp only[Ty.flat,WY]at h;simp only[AB]at e;exact HL h.2 e
 | .unit,_,_,_,_,_,e=>by simp[AB]at e
 | .int k,0,x,t,y,_,e=>by simp only[AB,WL,WU]at e;obtain⟨rfl,_⟩:=e;rfl
 | .bool,0,x,t,y,_,e=>by simp only[AB,WL,WU]at e;obtain⟨rfl,_⟩:=e;rfl
 | .str,0,x,t,y,_,e=>by simp only[AB,WL,WU]at e;obtain⟨rfl,_⟩:=e;rfl
 | .sl _,_,_,_,_,h,_=>by simp[Ty.flat]at h
 | .int _,_+1,_,_,_,_,e=>by simp[AB]at e
 | .bool,_+1,_,_,_,_,e=>by simp[AB]at e
 | .str,_+1,_,_,_,_,e=>by simp[AB]at e
theorem OB{r:Ty}(hr:r.flat=true){rows:List r.D}:∀{p:List Ie},AM r rows p→p=[]
 |[],_=>rfl
 |s::p,h=>by
  simp only[AM]at h;obtain⟨_,_,h⟩:=h;exfalso;cases hc:AB r s.j (rowAt r rows s.i)with
  |none=>rw[hc]at h;exact h
  |some tx=>
   obtain⟨t,x⟩:=tx;have hf:=HL hr hc;rw[hc]at h;cases t<;>simp_all[Ty.flat]
theorem flatten_nil{l:List V6}(h:∀x∈l,x=[]):l.flatten=[]:=by
 induction l with
 |nil=>rfl
 |cons x l ih=>
  rw[Wv,h x (by simp),ih (fun y hy=>h y (by simp[hy]))];rfl
theorem OC{E:Env}{σ:St}{a:Act}{w:World}(h:Rel E σ a w){b d off n:Nat}{r:Ty}{rows:List r.D}(hb:σ.bx[b]? =some (.sl d r rows))(hr:r.flat=true)(Tc:r.Lj=true)(hk:0<r.n)(hl:off+n≤rows.length)(hn:0<n):
  ∃bb o cap,E.BD b= .slice (some ⟨bb,o,none⟩) rows.length cap∧rows.length≤cap∧w.there bb (o+off*r.n) (n*r.n)∧
   Rel E { σ with bx:=σ.bx.set b (.sl d r ((rows.take off++List.replicate n r.z)++rows.drop (off+n))) } a (w.setCells bb (o+off*r.n) (List.replicate n (Ax r)).flatten)∧
   Cn [b] E σ.bx w E (σ.bx.set b (.sl d r ((rows.take off++List.replicate n r.z)++rows.drop (off+n)))) (w.setCells bb (o+off*r.n) (List.replicate n (Ax r)).flatten):=by
 have st:=h.bx.st;obtain⟨F,⟨hd,ho⟩,hB⟩:=h.bx.take hb;simp only[Wj]at hB;have CA:=(WJ.1 hb).1;obtain⟨d',rfl⟩:∃m,d=m+1:=⟨d-1,by omega⟩;simp only[Ow]at ho;obtain⟨ad,cap,hh,Oy,ho⟩:=ho;simp only[Wg,W3]at hh;rcases ho with⟨rfl,_⟩|⟨bb,o,arr,ty,fr,Fs,rfl,ha,CK,hu,rfl,hFl,Fp⟩
 ·omega
 have VM:List.flatten Fs=[]:=flatten_nil fun x hx=>by
  obtain⟨i,hi,hxi⟩:=W4 hx;obtain⟨cs,_,_,h3⟩:=Fp i (rows[i]'(by omega)) x (WK _) (by rw[WK hi,hxi]);exact(MV (w':=w) (S':=E.S) (d':=0) hr h3).1
 rw[VM]at hB;have RC:(Ax r).length=r.n:=Ba r;have T6:((List.replicate n (Ax r)).flatten).length=n*r.n:=by rw[Am,RC]
 have RD:(off+n)*r.n≤cap*r.n:=Wz _ (by omega);have V1:(off+n)*r.n=off*r.n+n*r.n:=W8 ..;have Ew:o+off*r.n+((List.replicate n (Ax r)).flatten).length≤arr.size:=by omega
 generalize ED:(List.replicate n (Ax r)).flatten=vs at T6 Ew
 refine⟨bb,o,cap,hh,Oy,Hh ha (by omega) hu,?_⟩;have Cr: ¬E.T bb:=hB.PQ _ (by simp);have Ri:=hB;have En:∀c,c≠bb→(w.setCells bb (o+off*r.n) vs).heap[c]? =w.heap[c]?:=fun c hc=>Bm _ _ _ _ _ hc
 have hw:∀c,c<w.heap.size→c∉[bb]→(w.setCells bb (o+off*r.n) vs).heap[c]? =w.heap[c]?:=fun c _ hc=>En c (by simpa using hc)
 have kT:A0 E w σ.bx σ.bx [] E (σ.bx.set b .dead) [bb]:=⟨Le.refl _,by simp,fun n B hn=>by
  by_cases en:n=b
  ·subst en
   rw[WV CA]at hn;exact .inl (by simpa using hn.symm)
  ·rw[WQ (fun h=>en h.symm)]at hn
   exact .inr hn,by simpa using hB⟩
 generalize Mh:(rows.take off++List.replicate n r.z)++rows.drop (off+n)=rows'
 have QF:rows'.length=rows.length:=by
  rw[←Mh];simp;omega
 have keep:C8 E w σ.bx E (w.setCells bb (o+off*r.n) vs) (σ.bx.set b (.sl (d'+1) r rows')):=FH b kT st (by simp) (fun n d r rows hn _ hq=>by
   rw[WQ (by omega)]at hq⊢;exact hq) (fun _ _=>rfl) (fun _ _=>rfl) rfl rfl hw (fun d1 r1 QH hq=>by
   rw[WV CA]at hq;simp only[WL,Bx.sl.injEq]at hq;obtain⟨rfl,rfl,hq⟩:=hq;obtain rfl:=Wi hq;refine⟨d'+1,rows,hb,fun p hp q ys hg=> ?_⟩;obtain rfl:=OB hr hp;simp only[Ay,WL,WU]at hg;obtain⟨rfl,hg⟩:=hg;obtain rfl:=Wi hg;exact⟨by simp[AM],⟨rows',by simp[Ay],QF⟩,fun h' Tl=>Tl⟩)
 refine⟨⟨h.CC,h.tm.imp fun _ _ hq=>CN keep hq,?_⟩,⟨⟨fun _ h=>h,fun _ h=>h,fun _ h=> .inl h,fun _ h=> .inl h,fun c hc=>En c (fun e=>Cr (e▸hc)),(AO _ _ _ _).os,(AO _ _ _ _).tape,(AO _ _ _ _).output,(AO _ _ _ _).size⟩,by simp,fun _ _=>⟨rfl,rfl⟩,fun n hn=>by
  rw[WQ (fun e=>by subst e;rw[hb]at hn;cases hn)];exact hn,fun n B B' KI hB Cs NJ=>by
  simp at KI;rw[WQ (fun e=>KI e.symm),hB]at Cs;cases Cs;refine⟨Db.refl NJ,fun c hc=>En c (fun e=> ?_)⟩;obtain⟨Fs,⟨f1,f2⟩,f3⟩:=Ri;have Dv:(σ.bx.set b .dead)[n]? =some B:=by rw[WQ (fun e=>KI e.symm)];exact hB
  have hF:Fs[n]? =some (Fs[n]'(by have:=(WJ.1 Dv).1;omega)):=WK _;rcases Gc (f2 n B _ Dv hF) hc with hs|hs
  ·exact Cr (e▸st c hs)
  ·exact(WS.1 f3.nodup).2.2 c (Wh.2 ⟨_,WT hF,hs⟩) bb (by simp) e⟩⟩
 have hT:=hB.turn (E':=E) (w':=w.setCells bb (o+off*r.n) vs) (vw':=σ.bx.set b (.sl (d'+1) r rows')) (fun x v hq=>Av keep hq) (fun _ h=>h) (fun _ _=>rfl) (fun _ _=>rfl) (fun c hc _=>En c (fun e=>by
   rcases hc with hc|hc
   ·exact Cr (e▸st c hc)
   ·exact hc.2 (by simp[e]))) (fun F hF=>⟨hF.nodup,hF.free,fun c hc=>by rw[A3];exact hF.lt c hc,hF.st,fun c hc=>by rw[A3];exact hF.GD c hc,hF.Lo.mono (fun _ h=>h) (fun c hc=>En c (fun e=>Cr (e▸hc)))⟩)
 have TJ:Jk E (w.setCells bb (o+off*r.n) vs) (σ.bx.set b (.sl (d'+1) r rows')) b (.sl (d'+1) r rows') [bb]:=by
  refine⟨hd,?_⟩;simp only[Ow];refine⟨_,cap,by rw[hh,QF],by omega,.inr ⟨bb,o,As arr (o+off*r.n) vs,ty,fr,List.replicate rows'.length [],rfl,Bf _ _ _ _ _ _ _ ha,by rw[Be];omega,by rw[Be];exact hu,by simp,by simp,fun i y G hy hG=> ?_⟩⟩;have VF:G=[]:=W5 (WT hG);subst VF;have Qr:i<rows.length:=by have:=(WJ.1 hy).1;omega
  by_cases Lq:off≤i∧i<off+n
  ·have Vn:y=r.z:=by
    rw[←Mh,WO (by simp;omega),WW (by simp;omega)]at hy;exact W5 (WT hy)
   subst Vn;refine⟨Ax r,RC,fun j v hj=> ?_,HO Tc⟩;have ON:j<r.n:=by have:=(WJ.1 hj).1;omega
   have e1:(i-off)*r.n=i*r.n-off*r.n:=Nat.sub_mul ..;have e2:off*r.n≤i*r.n:=Wz _ Lq.1;have e3:(i-off+1)*r.n≤n*r.n:=Wz _ (by omega);rw[W8,Xj]at e3;have:=DU ha Ew ((i-off)*r.n+j) v (by
    rw[←ED,B6 (by rw[RC];omega),RC,Nat.mul_comm (i-off),Nat.mul_add_mod,Nat.mod_eq_of_lt ON];exact hj)
   rw[show o+off*r.n+((i-off)*r.n+j)=o+i*r.n+j by omega]at this;exact this
  ·have Vh:rows[i]? =some y:=by
    rw[←Mh]at hy;by_cases h1:i<off
    ·rw[WO (by simp;omega),WO (by simp;omega),List.getElem?_take,Wt h1]at hy
     exact hy
    ·rw[WW (by simp;omega),XW]at hy
     rw[←hy];congr 1;simp;omega
   obtain⟨cs,c1,c2,c3⟩:=Fp i y (Fs[i]'(by omega)) Vh (WK _);obtain⟨_,c4,c5⟩:=MV (w':=w.setCells bb (o+off*r.n) vs) (S':=E.S) (d':=d') hr c3;refine⟨cs,c4,Gl c2 ha Ew (.inr ?_),c5⟩;by_cases h1:i<off
   ·have:(i+1)*r.n≤off*r.n:=Wz _ h1
    rw[W8,Xj]at this;omega
   ·have:(off+n)*r.n≤i*r.n:=Wz _ (by omega)
    omega
 have:=AK.put (b:=b) (B:= .sl (d'+1) r rows') (F:=[bb]) (G:=[]) (by simpa using hT) (by rw[WV CA]) TJ;rw[Xr]at this;exact this
section
variable{Y:Type} {P:Program} {T:Bb} (hT:An P T) {o:Oper} {E:Env} {σ:St} {a:Act} {w:World} {k:K Y} {y:Y}
include hT
theorem Me(h:Rel E σ a w){c:Call}{x:XV}(ho:o.op= .call c)(hc:c.callee= .builtin .clear)(BM:c.args.toList.map σ.ev=[x])(e:Hw T c.argTypes σ x k=some y)
  (TQ:∀b p off n,x= .c (.win b p off n)→BK (fun _=>none) σ o.op=[b]):∃v w' E' xv σ',((execOp a.eval o).run P w= .ok (.value v) w'∨((execOp a.eval o).run P w= .ok .skip w'∧v=undef))∧Rel E' σ' a w'∧XR E' w' σ'.bx xv v∧
   Cn (BK (fun _=>none) σ o.op) E σ.bx w E' σ'.bx w'∧σ'.tm.length=σ.tm.length∧k xv σ' =some y:=by
 obtain⟨o1,hargs',rfl⟩:=EC BM;have Fe:=h.ev o1;unfold Hw at e;split at e
 case h_2=>cases e
 rename_i t b off n ht hx;rw[hx]at Fe;rw[TQ b [] off n hx];split at e
 case h_2=>cases e
 rename_i d r rows hb;split at e
 case isFalse=>cases e
 rename_i HT;rw[WY]at HT;obtain⟨HT,hr⟩:=HT;rw[WY,Wo]at hr;obtain⟨hr,hk⟩:=hr;obtain⟨el,ti,hu,Cw,hs,SH,hrow⟩:=CG hT HT;obtain⟨i,z,i1,i2,i3,i4,i5,hg⟩:=Ge hT Cw hrow;have FD:VR E w σ.bx (.win b [] off n) (a.eval o1):=Fe;simp only[VR,hb]at FD;obtain⟨_,_,q,ys,ad,len,cap,Qj,hl,hh,hv⟩:=FD;simp only[Ay,WL,WU]at Qj;obtain⟨rfl,Qj⟩:=Qj;obtain rfl:=Wi Qj;simp only[BU,WL]at hh;by_cases hn:n=0
 ·subst hn
  have SJ:(rows.take off++List.replicate 0 r.z)++rows.drop (off+0)=rows:=by simp
  rw[SJ]at e;have Ft:σ.bx.set b (.sl d r rows)=σ.bx:=by
   apply XL;intro j;rw[W_];split
   ·rename_i e1
    subst e1;rw[hb];simp[(WJ.1 hb).1]
   ·rfl
  rw[Ft]at e;refine⟨.tuple #[],w,E,.c .undef,σ,.inl ?_,h,trivial,Cn.refl _ _ _ _,rfl,e⟩;have hz:∃a' c',a.eval o1= .slice a' 0 c':=⟨_,_,by rw[hv];rfl⟩;obtain⟨a',c',hz⟩:=hz;simp only[execOp,ho,resolve,hc,hargs',invoke,builtin,Sem.run_bind,Sem.run_pure,Result.andThen_ok,List.map_toArray,Xg,Xs,Builtin.clear_,ht,hz];cases a'<;>simp[AD hu]
 ·obtain⟨bb,oo,cap',g1,g2,g3,g4,g5⟩:=OC h (d:=d) hb hr hg hk hl (by omega)
  rw[g1]at hh;simp only[Value.slice.injEq]at hh;obtain⟨rfl,rfl,rfl⟩:=hh;have Fi:a.eval o1= .slice (some ⟨bb,oo+off*r.n,none⟩) n (cap'-off):=by
   rw[hv];unfold C2;rw[Wr (by omega)];simp[Addr.add]
  refine⟨.tuple #[],_,E,.c .undef,_,.inl ?_,g4,trivial,g5,rfl,e⟩;have hz:(Builtin.zeroCells z.cells n).toList=(List.replicate n (Ax r)).flatten:=by
   unfold Builtin.zeroCells;have UY:z.cells.size=(Ax r).length:=by rw[←i5];simp
   have:=FM i5 n (fun hh=>by have:=Ba r;rw[hh]at this;simp at this;omega);rw[←UY]at this;exact this
  have h1:∀v∈(List.replicate n (Ax r)).flatten,v.oneCell' =true:=fun v hv=>by
   obtain⟨l,hl1,hl2⟩:=Wh.1 hv;rw[W5 hl1]at hl2;exact Jj (w:=w) (S:=E.S) (d:=0) (HO hg) v hl2
  have T6:((List.replicate n (Ax r)).flatten).length=n*r.n:=by rw[Am,Ba]
  have OH:=run_storeCells_cells (P:=P) bb (oo+off*r.n) (List.replicate n (Ax r)).flatten 0 w (fun j hj=>by simpa using(g3 j (by omega)).1) (fun j hj=>by simpa using(g3 j (by omega)).2) h1;rw[XJ]at OH;obtain⟨n',rfl⟩:∃n',n=n'+1:=⟨n-1,by omega⟩;simp only[execOp,ho,resolve,hc,hargs',invoke,builtin,Sem.run_bind,Sem.run_pure,Result.andThen_ok,List.map_toArray,Xg,Xs,Builtin.clear_,ht,Fi];simp[AD hu,zeroValue,typeInfo,i1,i4,hz,OH]
end
end Go.Fw
end
