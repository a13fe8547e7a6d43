/- The framework, part 1: a checked interpreter of the model's code over abstract states; no claim is made here. -/
import Derived.Lib.LaidTab
import Derived.Lib.ItoaNum
import Derived.Calls
import Derived.Still
import Derived.Laws.World
import Derived.Laws.AppendOwn
import Derived.RowKit3
import Derived.Deep.MidRow
import Derived.Laws.StructEq
import Derived.Lib.ConvBytes
import Derived.Laws.BytesArg
import Derived.Tactics
import Derived.OrdersHeld
import Derived.ChangeArms
import Derived.ChangeOld
import Derived.DataReads
import Derived.Below
import Derived.Shelf.Spec.SlicesInsertGrow
import Derived.Shelf.Slices.Delete
import Derived.Lib.AtoiAll
import Derived.Lib.IndexMore
import Derived.Lib.Strings
import Derived.Lib.SlicesS
import Derived.Shelf.Strconv.Itoa3
import Derived.Shelf.Strings.Cut
import Derived.Shelf.Strings.Search3
import Derived.Shelf.Strings.Prefix
import Derived.Shelf.Slices.Turned
import Derived.Handed
import Derived.Stop.LaidErr
import Derived.MakeChecks
import Derived.LaidLaws
set_option linter.unusedVariables false
set_option linter.unusedSimpArgs false
set_option linter.unusedSectionVars false
abbrev ZD:Type:=List Nat
abbrev ZF:Type:=Int × Int × Int × Int × List UInt8 × Unit
abbrev ZI:Type:=List Int × Int × Int × Unit
abbrev ZH:Type:=List UInt8 × Unit
abbrev ZG:Type:=Bool × Unit
abbrev ZE:Type:=Nat × Nat
abbrev ZC:Type:=List UInt8
abbrev ZN:Type:=Int × Int × Bool × List UInt8 × Unit
abbrev ZR:Type:=Int × Bool × Unit
abbrev ZQ:Type:=List UInt8 × Bool × Unit
abbrev ZJ:Type:=Int × Unit
abbrev ZL:Type:=Nat × List Nat
abbrev ZK:Type:=ZR × Unit
abbrev ZO:Type:=ZQ × Unit
abbrev ZM:Type:=ZF × Unit
abbrev ZP:Type:=ZF × Bool × Unit
abbrev ZS:=@List.getElem?_eq_some_iff
abbrev ZT:=@List.getElem?_eq_getElem
abbrev ZU:=@Option.some.injEq
abbrev ZV:=@Option.map_eq_some_iff
abbrev ZW:=@Option.bind_eq_some_iff
abbrev ZX:=@List.getElem?_append_left
abbrev ZY:=@List.append_assoc
abbrev ZZ:=@List.getElem?_set_ne
abbrev Za:=@List.nodup_append
abbrev Zb:=@List.mem_of_getElem?
abbrev Zc:=@Sigma.mk.injEq
abbrev Zd:=@List.getElem?_set_self
abbrev Ze:=@beq_eq_false_iff_ne
abbrev Zf:=@List.getElem?_append_right
abbrev Zg:=@Bool.and_eq_true
abbrev Zh:=@List.Perm.append_right
abbrev Zi:=@Bool.eq_false_or_eq_true
abbrev Zj:=@List.length_cons
abbrev Zk:=@List.mem_append
abbrev Zl:=@List.length_append
abbrev Zm:=@List.eq_nil_of_length_eq_zero
abbrev Zn:=@if_pos
abbrev Zo:=@List.cons.injEq
abbrev Zp:=@if_neg
abbrev Zq:=@List.Perm.append_left
abbrev Zr:=@List.perm_append_comm
abbrev Zs:=@decide_eq_true_eq
abbrev Zt:=@List.mem_flatten
abbrev Zu:=@List.append_nil
abbrev Zv:=@List.length_nil
abbrev Zw:=@eq_of_heq
abbrev Zx:=@Nat.le_refl
abbrev Zy:=@List.getElem?_map
abbrev Zz:=@Prod.mk.injEq
abbrev Z0:=@Nat.lt_of_lt_of_le
abbrev Z1:=@List.mem_cons
abbrev Z2:=@List.flatten_cons
abbrev Z3:=@Option.bind_assoc
abbrev Z4:=@cond_false
abbrev Z5:=@Int.tdiv_eq_ediv_of_nonneg
abbrev Z6:=@Bool.false_eq_true
abbrev Z7:=@List.drop_eq_getElem_cons
abbrev Z8:=@List.cons.inj
abbrev Z9:=@Nat.mul_le_mul_right
abbrev Z_:=@and_true
abbrev aA:=@List.getElem_of_mem
abbrev aB:=@List.drop_eq_nil_of_le
abbrev aC:=@List.eq_of_mem_replicate
abbrev aD:=@List.flatten_append
abbrev aE:=@Option.bind_some
abbrev aF:=@List.getElem_mem
abbrev aG:=@Nat.add_mul
abbrev aH:=@decide_eq_false
abbrev aI:=@List.all_eq_true
abbrev aJ:=@List.cons_append
abbrev aK:=@List.getElem?_set
abbrev aL:=@cond_true
abbrev aM:=@Nat.zero_add
abbrev aN:=@decide_eq_true
abbrev aO:=@List.mem_cons_of_mem
abbrev aP:=@Nat.add_zero
abbrev aQ:=@Array.getD_eq_getD_getElem?
abbrev aR:=@Option.map_some
abbrev aS:=@List.getD_eq_getElem?_getD
abbrev aT:=@Option.isSome_none
abbrev aU:=@List.getElem?_eq_none
abbrev aV:=@if_false
abbrev aW:=@List.ext_getElem?
abbrev aX:=@List.nodup_cons
abbrev aY:=@List.map_congr_left
abbrev aZ:=@Nat.add_assoc
abbrev aa:=@List.replicate_succ
abbrev ae:=@Array.length_toList
abbrev af:=@List.getElem?_drop
abbrev ag:=@List.mem_singleton
abbrev ah:=@Option.some.inj
abbrev ai:=@Nat.le_trans
abbrev aj:=@List.nil_append
abbrev ak:=@List.contains_iff_mem
abbrev al:=@Int.tmod_eq_emod_of_nonneg
abbrev an:=@if_true
abbrev aq:=@List.exists_cons_of_length_eq_add_one
abbrev ar:=@List.flatten_nil
abbrev au:=@beq_self_eq_true
abbrev av:=@List.map_cons
abbrev aw:=@List.foldl_cons
abbrev ax:=@Bool.not_true
abbrev ay:=@List.take_of_length_le
abbrev az:=@Nat.one_mul
abbrev a8:=@List.take_append_drop
abbrev a_:=@Nat.succ_mul
abbrev bA:=@dite_true
abbrev bB:=@Bool.or_eq_true
abbrev bC:=@List.perm_iff_count
abbrev bD:=@List.set_set
abbrev bE:=@List.map_nil
abbrev bF:=@List.map_map
abbrev bG:=@List.Perm.refl
abbrev bH:=@List.drop_drop
abbrev bI:=@List.mapM_cons
abbrev bJ:=@Array.ext'
section
namespace Go.Fw
open Go
def QE:Nat:=1
def SE:Nat:=0
def U9:Nat:=2
def VX:Nat:=3
def HS(w:World)(g:Nat):Prop:= ∃ev,w.cell? ⟨g,0,none⟩=some ev∧(ev= .nilIface∨ ∃te pe,ev= .iface te pe)
def GI(w:World):Prop:=(∃t fr,w.heap[QE]? =some (.cells (Go.Lib.pow10Tab.map fun z=>Value.int .u64 z).toArray t fr))∧(∃m,w.cell? ⟨SE,0,none⟩=some (.int .i64 m))∧HS w U9∧HS w VX
theorem GI.tab{P:Program}{w:World}(h:GI w)(hg:P.globalNamed "internal/strconv.uint64pow10" =some QE):Go.Lib.TabIs P w "internal/strconv.uint64pow10" .u64 Go.Lib.pow10Tab:=by
 obtain⟨⟨t,fr,h1⟩,_⟩:=h;unfold Go.Lib.TabIs World.var?;rw[hg];simp only[aE,h1]
theorem GI.of{P:Program}{w w':World}(hg:P.globalNamed "internal/strconv.uint64pow10" =some QE)(ht:Go.Lib.TabIs P w "internal/strconv.uint64pow10" .u64 Go.Lib.pow10Tab)(hm:∃m,w.cell? ⟨SE,0,none⟩=some (.int .i64 m))(h1:HS w U9)(h2:HS w VX)
  (hw:∀c,c<w.heap.size→w'.heap[c]? =w.heap[c]?):GI w':=by
 have lt:∀b o,w.heap[b]? =some o→b<w.heap.size:=fun b o h=>by
  by_cases hb:b<w.heap.size
  ·exact hb
  ·rw[Array.getElem?_eq_none (by omega)]at h;cases h
 unfold Go.Lib.TabIs World.var? at ht;rw[hg]at ht;simp only[aE]at ht;have same:∀g v,w.cell? ⟨g,0,none⟩=some v→w'.cell? ⟨g,0,none⟩=some v:=fun g v h=>by
  have hb:w'.heap[g]? =w.heap[g]?:=by
   cases ho:w.heap[g]? with
   |none=>simp[World.cell?,ho]at h
   |some o=>rw[hw _ (lt _ _ ho),ho]
  rw[←h];simp only[World.cell?,hb]
 refine⟨?_,hm.imp fun m h=>same _ _ h,h1.imp fun v h=>⟨same _ _ h.1,h.2⟩,h2.imp fun v h=>⟨same _ _ h.1,h.2⟩⟩
 ·cases ho:w.heap[QE]? with
  |none=>rw[ho]at ht;cases ht
  |some o=>
   rw[ho]at ht;cases o with
   |cells cs t fr=>
    simp only[ZU]at ht;exact⟨t,fr,by rw[hw _ (lt _ _ ho),ho,ht]⟩
   |_=>cases ht
end Go.Fw
end
section
namespace Go.Fw
inductive Ty where
 |int (k:IntKind)|bool|str|sl (r:Ty)|unit|cons (c r:Ty)
 deriving DecidableEq
@[reducible] def Ty.D:Ty→Type
 | .int _=>Int
 | .bool=>Bool
 | .str=>List UInt8
 | .sl r=>List r.D
 | .unit=>Unit
 | .cons c r=>c.D×r.D
def Ty.n:Ty→Nat
 | .unit=>0
 | .cons _ r=>r.n+1
 |_=>1
def Ty.z:(t:Ty)→t.D
 | .int _=>(0:Int)
 | .bool=>false
 | .str=>[]
 | .sl _=>[]
 | .unit=>()
 | .cons c r=>(c.z,r.z)
def Ty.flat:Ty→Bool
 | .sl _=>false
 | .cons c r=>c.flat&&r.flat
 |_=>true
def Ty.scalar:Ty→Bool
 | .int _| .bool| .str=>true
 |_=>false
structure Jn where
 i:Nat
 sz:Nat
 j:Nat
inductive AV where
 |v (t:Ty) (x:t.D)
 |sl (s:Bool) (r:Ty) (x:List r.D)
 |nil
 |ref (b:Nat) (p:List Jn)
 |win (b:Nat) (p:List Jn) (off n:Nat)
 |BS (b j:Nat)
 |Bl (b:Nat) (p:List Jn) (i sz j:Nat)
 |Cn (s:Bool) (r:Ty) (x:r.D) (j:Nat)
 |fn (f:Nat) (Bu:ZD)
 |M3 (f:Nat) (rows:List ((r:Ty)×r.D))
 |Om
 |undef
def AV.known:AV→Bool
 | .undef=>false
 |_=>true
inductive XV where
 |c (x:AV)
 |agg (l:List AV)
 |D6 (l:List (AV ⊕ List AV))
inductive Bx where
 |mem (cs:List AV)
 |sl (d:Nat) (r:Ty) (rows:List r.D)
 |dead
structure St where
 tm:List XV
 bx:List Bx
def AB:(r:Ty)→(j:Nat)→r.D→Option ((t:Ty)×t.D)
 | .cons c _,0,x=>some ⟨c,x.1⟩
 | .cons _ r,j+1,x=>AB r j x.2
 | .unit,_,_=>none
 | .int k,0,x=>some ⟨.int k,x⟩
 | .bool,0,x=>some ⟨.bool,x⟩
 | .str,0,x=>some ⟨.str,x⟩
 | .sl r,0,x=>some ⟨.sl r,x⟩
 |_,_+1,_=>none
def LD{a b:Ty}(h:a=b)(x:a.D):b.D:=h▸x
def Af:(r:Ty)→(j:Nat)→r.D→(t:Ty)→t.D→Option r.D
 | .cons c _,0,x,t,y=>if h:t=c then some (LD h y,x.2)else none
 | .cons _ r,j+1,x,t,y=>(Af r j x.2 t y).map fun z=>(x.1,z)
 | .unit,_,_,_,_=>none
 | .int k,0,_,t,y=>if h:t= .int k then some (LD h y)else none
 | .bool,0,_,t,y=>if h:t= .bool then some (LD h y)else none
 | .str,0,_,t,y=>if h:t= .str then some (LD h y)else none
 | .sl r,0,_,t,y=>if h:t= .sl r then some (LD h y)else none
 |_,_+1,_,_,_=>none
def rowAt(r:Ty)(rows:List r.D)(i:Nat):r.D:=rows.getD i r.z
def A8:(r:Ty)→List r.D→List Jn→Option ((q:Ty)×List q.D)
 |r,rows,[]=>some ⟨r,rows⟩
 |r,rows,s::p=>
  match AB r s.j (rowAt r rows s.i)with
  |some ⟨.sl q,x⟩=>A8 q x p
  |_=>none
def Li:(r:Ty)→List r.D→List Jn→(q:Ty)→List q.D→Option (List r.D)
 |r,_,[],q,y=>if h:q=r then some (LD (congrArg Ty.sl h) y)else none
 |r,rows,s::p,q,y=>
  match AB r s.j (rowAt r rows s.i)with
  |some ⟨.sl r',x⟩=>(Li r' x p q y).bind fun x' =>(Af r s.j (rowAt r rows s.i) (.sl r') x').map fun row=>rows.set s.i row
  |_=>none
inductive TD where
 |int (k:IntKind)|bool|str|sl (e:Nat)|st (fs:List ZE)|ptr (e:Nat)|other
structure TI where
 size:Nat
 bytes:Nat
 desc:TD
 row:Option Ty
abbrev Bw:=List (Nat×TI)
def Bw.get:Bw→Nat→Option TI
 |[],_=>none
 |(u,i)::l,t=>if u=t then some i else Bw.get l t
def TD.agg:TD→Bool
 | .st _=>true
 |_=>false
def Bw.Il(T:Bw)(t:Nat):Option Ty:=
 match T.get t with
 |some ti=>ti.row
 |none=>none
def Oo:Ty→AV
 | .int k=> .v (.int k) (0:Int)
 | .bool=> .v .bool false
 | .str=> .v .str []
 | .sl _=> .nil
 |_=> .undef
def GZ:Ty→List AV
 | .cons c r=>Oo c::GZ r
 | .unit=>[]
 |t=>[Oo t]
def Lm:Value→AV
 | .int k n=> .v (.int k) n
 | .bool b=> .v .bool b
 | .string s=> .v .str s.data.toList
 | .slice none 0 0=> .nil
 | .pointer none=> .Om
 |_=> .undef
def ofValue:Value→XV
 | .agg cs=> .agg (cs.toList.map Lm)
 |v=> .c (Lm v)
def St.ev(σ:St):Operand→XV
 | .tmp t=>σ.tm.getD t (.c .undef)
 | .const v=>ofValue v
 | .global _=> .c .undef
 | .func f=> .c (.fn f [])
def St.put(σ:St)(dst:Option Tmp)(x:XV):St:=
 match dst with
 |some d=>{ σ with tm:=σ.tm.set d x }
 |none=>σ
def XV.cells:XV→List AV
 | .c x=>[x]
 | .agg l=>l
 | .D6 _=>[]
def DO{β:Ty→Type}(a b:Ty)(x:β a):Option (β b):=if h:a=b then some (h▸x)else none
def Ce(bx:List Bx):AV→Option ((r:Ty)×List r.D)
 | .sl _ r x=>some ⟨r,x⟩
 | .ref b p=>
  match bx[b]? with
  |some (.sl _ r rows)=>A8 r rows p
  |_=>none
 | .win b p off n=>
  match bx[b]? with
  |some (.sl _ r rows)=>(A8 r rows p).map fun q=>⟨q.1,(q.2.drop off).take n⟩
  |_=>none
 |_=>none
def CV(bx:List Bx)(t:Ty)(x:AV):Option t.D:=
 match x with
 | .v u y=>DO (β:=Ty.D) u t y
 | .nil=>match t with
  | .sl _=>some []
  |_=>none
 |x=>match t with
  | .sl r=>(Ce bx x).bind fun q=>DO (β:=fun r=>List r.D) q.1 r q.2
  |_=>none
def BO(bx:List Bx):(r:Ty)→List AV→Option r.D
 | .unit,[]=>some ()
 | .cons c r,x::l=>(CV bx c x).bind fun a=>(BO bx r l).map fun b=>(a,b)
 |_,_=>none
def lenOf(bx:List Bx):AV→Option Nat
 | .nil=>some 0
 | .sl _ _ x=>some x.length
 | .ref b p=>
  match bx[b]? with
  |some (.sl _ r rows)=>(A8 r rows p).map fun q=>q.2.length
  |_=>none
 | .win b _ _ n=>
  match bx[b]? with
  |some (.sl _ _ _)=>some n
  |_=>none
 |_=>none
inductive AP where
 |v (t:Ty)
 |sl (s:Bool) (r:Ty)
 |nil
 |ref (i:Nat)
 |ptr (i j:Nat)
 |Nn (r:Ty)
 |fn (f:Nat) (Bu:ZD)
 |M3 (f:Nat) (rs:List Ty)
 |any
 |JJ (i sz:Nat)
inductive XP where
 |c (p:AP)
 |agg (l:List AP)
 |row (r:Ty)
 |D6 (l:List (AP ⊕ List AP))
inductive BP where
 |mem (l:List AP)
 |sl (d:Nat) (r:Ty)
 |gone
structure C0 where
 Ai:List (Nat×XP)
 A9:List BP
@[reducible] def F_:List Ty→Type
 |[]=>Unit
 |r::l=>r.D×F_ l
def F_.mk:(l:List Ty)→F_ l→List ((r:Ty)×r.D)
 |[],_=>[]
 |r::l,x=>⟨r,x.1⟩::F_.mk l x.2
@[reducible] def AP.V:AP→Type
 | .M3 _ rs=>F_ rs
 | .v t=>t.D
 | .sl _ r=>List r.D
 | .Nn r=>r.D
 | .JJ _ _=>Nat×Nat
 |_=>Unit
@[reducible] def FW.V:List AP→Type
 |[]=>Unit
 |p::l=>p.V×FW.V l
@[reducible] def Fc.V:List (AP ⊕ List AP)→Type
 |[]=>Unit
 | .inl p::l=>p.V×Fc.V l
 | .inr q::l=>FW.V q×Fc.V l
@[reducible] def XP.V:XP→Type
 | .c p=>p.V
 | .agg l=>FW.V l
 | .row r=>r.D
 | .D6 l=>Fc.V l
@[reducible] def BP.V:BP→Type
 | .mem l=>FW.V l
 | .sl _ r=>List r.D
 | .gone=>Unit
@[reducible] def A5.V:List (Nat×XP)→Type
 |[]=>Unit
 |(_,p)::l=>p.V×A5.V l
@[reducible] def Bj.V:List BP→Type
 |[]=>Unit
 |p::l=>p.V×Bj.V l
@[reducible] def C0.V (s:C0):Type:=A5.V s.Ai×Bj.V s.A9
def AP.mk(m:Nat→Nat):(p:AP)→p.V→AV
 | .v t,x=> .v t x
 | .sl s r,x=> .sl s r x
 | .nil,_=> .nil
 | .ref i,_=> .ref (m i) []
 | .ptr i j,_=> .BS (m i) j
 | .Nn r,x=> .Cn false r x 0
 | .fn f Bu,_=> .fn f (Bu.map m)
 | .M3 f rs,x=> .M3 f (F_.mk rs x)
 | .any,_=> .undef
 | .JJ i sz,k=> .ref (m i) [⟨k.1,sz,k.2⟩]
def FW.mk(m:Nat→Nat):(l:List AP)→FW.V l→List AV
 |[],_=>[]
 |p::l,x=>p.mk m x.1::FW.mk m l x.2
def K7:(r:Ty)→r.D→List AV
 | .unit,_=>[]
 | .cons c r,x=>(match c,x.1 with
  | .sl q,y=>AV.sl false q y
  |c,y=> .v c y)::K7 r x.2
 | .sl q,x=>[.sl false q x]
 | .int k,x=>[.v (.int k) x]
 | .bool,x=>[.v .bool x]
 | .str,x=>[.v .str x]
def Fc.mk(m:Nat→Nat):(l:List (AP ⊕ List AP))→Fc.V l→List (AV ⊕ List AV)
 |[],_=>[]
 | .inl p::l,x=> .inl (p.mk m x.1)::Fc.mk m l x.2
 | .inr q::l,x=> .inr (FW.mk m q x.1)::Fc.mk m l x.2
def XP.mk(m:Nat→Nat):(p:XP)→p.V→XV
 | .c p,x=> .c (p.mk m x)
 | .agg l,x=> .agg (FW.mk m l x)
 | .row r,x=> .agg (K7 r x)
 | .D6 l,x=> .D6 (Fc.mk m l x)
def BP.mk(m:Nat→Nat):(p:BP)→p.V→Bx
 | .mem l,x=> .mem (FW.mk m l x)
 | .sl d r,x=> .sl d r x
 | .gone,_=> .dead
def A5.mk(m:Nat→Nat):(l:List (Nat×XP))→A5.V l→List XV→List XV
 |[],_,tm=>tm
 |(i,p)::l,x,tm=>A5.mk m l x.2 (tm.set i (p.mk m x.1))
def Bj.mk(m:Nat→Nat):(l:List BP)→Bj.V l→List Bx
 |[],_=>[]
 |p::l,x=>p.mk m x.1::Bj.mk m l x.2
def C0.st(s:C0)(n:Nat)(x:s.V):St:=
 { tm:=A5.mk id s.Ai x.1 (List.replicate n (.c .undef)),bx:=Bj.mk id s.A9 x.2 }
abbrev DB:=List (Option Nat)
def DB.put(m:DB)(i b:Nat):Option DB:=
 match m[i]? with
 |some none=>if m.contains (some b)then none else some (m.set i (some b))
 |some (some b')=>if b' =b then some m else none
 |none=>none
def Gl:DB→List Nat→List Nat→Option DB
 |m,[],[]=>some m
 |m,i::is,b::bs=>(m.put i b).bind fun m=>Gl m is bs
 |_,_,_=>none
def AP.Ck(N:Nat)(m:DB):AP→AV→Option DB
 | .ref i,.ref b []=>m.put i b
 | .ref i,.nil=>m.put i (N+i)
 | .ref _,_=>none
 | .JJ i sz,.ref b [s]=>if s.sz=sz then m.put i b else none
 | .JJ _ _,_=>none
 | .ptr i j,.BS b j' =>if j=j' then m.put i b else none
 | .ptr _ _,_=>none
 | .fn f Bu,.fn g bs=>if f=g then Gl m Bu bs else none
 | .fn _ _,_=>none
 | .nil,.nil=>some m
 | .nil,_=>none
 |_,_=>some m
def FW.Ck(N:Nat):DB→List AP→List AV→Option DB
 |m,[],[]=>some m
 |m,p::l,x::xs=>(p.Ck N m x).bind fun m=>FW.Ck N m l xs
 |_,_,_=>none
def Fc.Ck(N:Nat):DB→List (AP ⊕ List AP)→List (AV ⊕ List AV)→Option DB
 |m,[],[]=>some m
 |m,.inl p::l,.inl x::xs=>(p.Ck N m x).bind fun m=>Fc.Ck N m l xs
 |m,.inr p::l,.inr x::xs=>(FW.Ck N m p x).bind fun m=>Fc.Ck N m l xs
 |_,_,_=>none
def XP.Ck(N:Nat)(m:DB):XP→XV→Option DB
 | .c p,.c x=>p.Ck N m x
 | .agg l,.agg xs=>FW.Ck N m l xs
 | .row _,.agg _=>some m
 | .D6 l,.D6 xs=>Fc.Ck N m l xs
 |_,_=>none
def A5.Ck(N:Nat)(tm:List XV):DB→List (Nat×XP)→Option DB
 |m,[]=>some m
 |m,(i,p)::l=>
  match tm[i]? with
  |some x=>(p.Ck N m x).bind fun m=>A5.Ck N tm m l
  |none=>none
def Bj.Ck(N:Nat)(bx:List Bx):Nat→DB→List BP→Option DB
 |_,m,[]=>some m
 |i,m,.mem l::ps=>
  match m[i]? with
  |some (some b)=>
   match bx[b]? with
   |some (.mem cs)=>(FW.Ck N m l cs).bind fun m=>Bj.Ck N bx (i+1) m ps
   |_=>none
  |_=>none
 |i,m,.sl _ _::ps=>
  match m[i]? with
  |some (some _)=>Bj.Ck N bx (i+1) m ps
  |_=>none
 |i,m,.gone::ps=>Bj.Ck N bx (i+1) m ps
def AN(bx:List Bx):DB→List Bx
 |[]=>bx
 |some b::m=>AN (bx.set b .dead) m
 |none::m=>AN bx m
def F_.LK:(l:List Ty)→List ((r:Ty)×r.D)→Option (F_ l)
 |[],[]=>some ()
 |r::l,q::qs=>(DO (β:=Ty.D) q.1 r q.2).bind fun a=>(F_.LK l qs).map fun b=>(a,b)
 |_,_=>none
def F_.LL(bx:List Bx):(l:List Ty)→List Nat→Option (F_ l)
 |[],[]=>some ()
 |r::l,b::bs=>(match bx[b]? with
  |some (.mem cs)=>BO bx r cs
  |_=>none).bind fun a=>(F_.LL bx l bs).map fun c=>(a,c)
 |_,_=>none
def AP.get(bx:List Bx):(p:AP)→AV→Option p.V
 | .M3 f rs,x=>match x with
  | .M3 g rows=>if f=g then F_.LK rs rows else none
  | .fn g bs=>if f=g then F_.LL bx rs bs else none
  |_=>none
 | .v t,x=>if t.scalar then CV bx t x else none
 | .sl false r,x=>CV bx (.sl r) x
 | .sl true r,x=>match x with
  | .sl true q y=>DO (β:=fun r=>List r.D) q r y
  | .nil=>some []
  |_=>none
 | .Nn r,x=>match x with
  | .Cn _ q y 0=>DO (β:=Ty.D) q r y
  | .BS b 0=>match bx[b]? with
   |some (.mem cs)=>BO bx r cs
   |_=>none
  | .Bl b p i sz 0=>match bx[b]? with
   |some (.sl _ q rows)=>(A8 q rows p).bind fun s=>if sz=s.1.n then DO (β:=Ty.D) s.1 r (rowAt s.1 s.2 i)else none
   |_=>none
  |_=>none
 | .nil,_=>some ()
 | .ref _,_=>some ()
 | .ptr _ _,_=>some ()
 | .fn _ _,_=>some ()
 | .any,_=>some ()
 | .JJ _ _,x=>match x with
  | .ref _ [s]=>some (s.i,s.j)
  |_=>none
def FW.get(bx:List Bx):(l:List AP)→List AV→Option (FW.V l)
 |[],[]=>some ()
 |p::l,x::xs=>(p.get bx x).bind fun a=>(FW.get bx l xs).map fun b=>(a,b)
 |_,_=>none
def Fc.get(bx:List Bx):(l:List (AP ⊕ List AP))→List (AV ⊕ List AV)→Option (Fc.V l)
 |[],[]=>some ()
 | .inl p::l,.inl x::xs=>(p.get bx x).bind fun a=>(Fc.get bx l xs).map fun b=>(a,b)
 | .inr p::l,.inr x::xs=>(FW.get bx p x).bind fun a=>(Fc.get bx l xs).map fun b=>(a,b)
 |_,_=>none
def XP.get(bx:List Bx):(p:XP)→XV→Option p.V
 | .c p,.c x=>p.get bx x
 | .agg l,.agg xs=>FW.get bx l xs
 | .row r,.agg xs=>BO bx r xs
 | .D6 l,.D6 xs=>Fc.get bx l xs
 |_,_=>none
def A5.get(bx:List Bx)(tm:List XV):(l:List (Nat×XP))→Option (A5.V l)
 |[]=>some ()
 |(i,p)::l=>
  match tm[i]? with
  |some x=>(p.get bx x).bind fun a=>(A5.get bx tm l).map fun b=>(a,b)
  |none=>none
def Bj.get(bx bk:List Bx):(m:DB)→(l:List BP)→Option (Bj.V l)
 |_,[]=>some ()
 |some b::m,.mem l::ps=>
  match bx[b]? with
  |some (.mem cs)=>(FW.get bk l cs).bind fun a=>(Bj.get bx bk m ps).map fun c=>(a,c)
  |_=>none
 |some b::m,.sl d r::ps=>
  match bx[b]? with
  |some (.sl d' q rows)=>if 1≤d∧d≤d' then(DO (β:=fun r=>List r.D) q r rows).bind fun a=>(Bj.get bx bk m ps).map fun c=>(a,c)else none
  |_=>none
 |_::m,.gone::ps=>(Bj.get bx bk m ps).map fun c=>((),c)
 |_,_=>none
def C0.fit(s:C0)(N:Nat)(m0:DB)(tm:List XV)(bx:List Bx):Option (s.V×DB):=
 (A5.Ck N tm m0 s.Ai).bind fun m=>(Bj.Ck N bx 0 m s.A9).bind fun m=>
  let bk:=AN bx m
  (A5.get bk tm s.Ai).bind fun a=>(Bj.get bx bk m s.A9).map fun c=>((a,c),m)
def BP.opened:BP→Bx
 | .sl d r=> .sl (d+1) r []
 |_=> .dead
def C0.opens(s:C0)(bx:List Bx):List Bx:=bx++s.A9.map BP.opened
def C0.m0(s:C0):DB:=List.replicate s.A9.length none
structure FX where
 ins:C0
 outs:C0
 g:ins.V→Option outs.V
def Fi(m:DB)(n:Nat)(i:Nat):Nat:=
 match m[i]? with
 |some (some b)=>b
 |_=>n+(i-m.length)
def GS(Bt:Nat→Nat):Nat→(l:List BP)→Bj.V l→List Bx→List Bx
 |_,[],_,bx=>bx
 |i,p::l,x,bx=>GS Bt (i+1) l x.2 (if Bt i<bx.length then bx.set (Bt i) (p.mk Bt x.1)else bx++[p.mk Bt x.1])
def Hk:(l:List (Nat×XP))→A5.V l→(Nat→Nat)→XV
 |(_,p)::_,x,Bt=>p.mk Bt x.1
 |[],_,_=> .c .undef
def GC:Nat:=2^36
section ops
variable{Y:Type}
abbrev K(Y:Type):=XV→St→Option Y
def St.new(σ:St)(b:Bx):St:={ σ with bx:=σ.bx++[b] }
def Q6(x:Bool)(a b:XV)(σ:St)(k:K Y):Option Y:=cond x (k a σ) (k b σ)
def H4(op:BinOp)(κ:IntKind)(a b:Int)(k:AV→Option Y):Option Y:=
 match op with
 | .add=>k (.v (.int κ) (κ.wrap (a+b)))
 | .sub=>k (.v (.int κ) (κ.wrap (a-b)))
 | .mul=>k (.v (.int κ) (κ.wrap (a*b)))
 | .quo=>if b=0 then none else k (.v (.int κ) (κ.wrap (a.tdiv b)))
 | .rem=>if b=0 then none else k (.v (.int κ) (a.tmod b))
 | .and=>k (.v (.int κ) (κ.wrap (BitVec.ofInt κ.bits a &&& BitVec.ofInt κ.bits b).toNat))
 | .or=>k (.v (.int κ) (κ.wrap (BitVec.ofInt κ.bits a ||| BitVec.ofInt κ.bits b).toNat))
 | .xor=>k (.v (.int κ) (κ.wrap (BitVec.ofInt κ.bits a ^^^ BitVec.ofInt κ.bits b).toNat))
 | .andNot=>k (.v (.int κ) (κ.wrap (BitVec.ofInt κ.bits a &&& ~~~BitVec.ofInt κ.bits b).toNat))
 | .eql=>k (.v .bool (a==b))
 | .neq=>k (.v .bool (a !=b))
 | .lss=>k (.v .bool (decide (a<b)))
 | .leq=>k (.v .bool (decide (a≤b)))
 | .gtr=>k (.v .bool (decide (a>b)))
 | .geq=>k (.v .bool (decide (a≥b)))
 |_=>none
def Ft(op:BinOp)(κ:IntKind)(a b:Int)(k:AV→Option Y):Option Y:=
 if b<0 then none else
 match op with
 | .shl=>k (.v (.int κ) (κ.wrap (a*2^min b.toNat κ.bits)))
 | .shr=>k (.v (.int κ) (a.fdiv (2^min b.toNat κ.bits)))
 |_=>none
def I6(op:BinOp)(a b:ZC)(k:AV→Option Y):Option Y:=
 match op with
 | .add=>if a.length+b.length≤GC then k (.v .str (a++b))else none
 | .eql=>k (.v .bool (a==b))
 | .neq=>k (.v .bool (!(a==b)))
 | .lss=>k (.v .bool (Op.bytesLess a b))
 | .leq=>k (.v .bool (Op.bytesLess a b||a==b))
 | .gtr=>k (.v .bool (!(Op.bytesLess a b||a==b)))
 | .geq=>k (.v .bool (!Op.bytesLess a b))
 |_=>none
def LS:TD→AV→AV→Option Bool
 | .int _,.v (.int j) a,.v (.int k) b=>if j=k then some (a==b)else none
 | .bool,.v .bool a,.v .bool b=>some (a==b)
 | .str,.v .str a,.v .str b=>some (a==b)
 |_,_,_=>none
def B_(T:Bw):Nat→List ZE→List AV→List AV→Option Bool
 |_,[],[],[]=>some true
 |i,(o,t)::fs,x::l,z::m=>
  if o=i then
   match T.get t with
   |some ti=>match LS ti.desc x z with
    |some p=>(B_ T (i+1) fs l m).map fun r=>p&&r
    |none=>none
   |none=>none
  else none
 |_,_,_,_=>none
def Bw.fields(T:Bw)(t:Nat):Option (List ZE):=
 match(T.get t).map TI.desc with
 |some (.st fs)=>some fs
 |_=>none
def OL(T:Bw)(t:Nat)(op:BinOp)(a b:XV)(k:AV→Option Y):Option Y:=
 match a,b with
 | .c (.v (.int j) x),.c (.v (.int j') y)=>
  match op with
  | .shl| .shr=>Ft op j x y k
  |_=>if j=j' then H4 op j x y k else none
 | .c (.v .str x),.c (.v .str y)=>I6 op x y k
 | .c (.v .bool x),.c (.v .bool y)=>
  match T.get t with
  |some ti=>match ti.desc with
   | .bool=>match op with
    | .eql=>k (.v .bool (x==y))
    | .neq=>k (.v .bool (!(x==y)))
    |_=>none
   |_=>none
  |none=>none
 | .agg l,.agg m=>
  match op,(T.fields t).bind fun fs=>B_ T 0 fs l m with
  | .eql,some r=>k (.v .bool r)
  | .neq,some r=>k (.v .bool (!r))
  |_,_=>none
 |_,_=>none
def Sp(op:UnOp)(a:XV)(k:AV→Option Y):Option Y:=
 match op,a with
 | .not,.c (.v .bool x)=>k (.v .bool (!x))
 | .neg,.c (.v (.int j) x)=>k (.v (.int j) (j.wrap (0-x)))
 |_,_=>none
def Pw(d b:Nat)(p:List Jn)(s:Jn):((t:Ty)×t.D)→AV
 |⟨.sl r,x⟩=>if d≤1 then .sl true r x else .ref b (p++[s])
 |⟨t,x⟩=>if t.scalar then .v t x else .undef
def Ol(s:Bool):((t:Ty)×t.D)→AV
 |⟨.sl r,x⟩=> .sl s r x
 |⟨t,x⟩=>if t.scalar then .v t x else .undef
def Ha(f:Nat→Option AV):Nat→Nat→Option (List AV)
 |_,0=>some []
 |j,n+1=>(f j).bind fun x=>(Ha f (j+1) n).map fun l=>x::l
def Bo(bx:List Bx):AV→Nat→Option AV
 | .BS b j,i=>
  match bx[b]? with
  |some (.mem cs)=>cs[j+i]?
  |_=>none
 | .Bl b p r sz j,i=>
  match bx[b]? with
  |some (.sl d q rows)=>if p.length<d then(A8 q rows p).bind fun s=>if sz=s.1.n then(AB s.1 (j+i) (rowAt s.1 s.2 r)).map (Pw (d-p.length) b p ⟨r,sz,j+i⟩)else none else none
  |_=>none
 | .Cn s r x j,i=>(AB r (j+i) x).map (Ol s)
 |_,_=>none
def J3(T:Bw)(t:Nat)(σ:St)(a:XV):Option XV:=
 match a,T.get t with
 | .c a,some ti=>if ti.size=0 then none else if ti.desc.agg then(Ha (Bo σ.bx a) 0 ti.size).map .agg else(Bo σ.bx a 0).map .c
 |_,_=>none
def HG(d:Nat)(t:Ty)(x:AV)(bx:List Bx):Option (t.D×List Bx×Nat):=
 match x with
 | .v u y=>(DO (β:=Ty.D) u t y).map fun y=>(y,bx,d)
 | .nil=>match t with
  | .sl _=>some ([],bx,d)
  |_=>none
 | .sl true r y=>match t with
  | .sl q=>(DO (β:=fun r=>List r.D) r q y).map fun y=>(y,bx,1)
  |_=>none
 | .ref b []=>match t with
  | .sl q=>
   match bx[b]? with
   |some (.sl d' r y)=>(DO (β:=fun r=>List r.D) r q y).map fun y=>(y,bx.set b .dead,min d (d'+1))
   |_=>none
  |_=>none
 | .win b [] off n=>match t with
  | .sl q=>
   match bx[b]? with
   |some (.sl d' r y)=>(DO (β:=fun r=>List r.D) r q ((y.drop off).take n)).map fun y=>(y,bx.set b .dead,min d (d'+1))
   |_=>none
  |_=>none
 |_=>none
def cellsIn(d:Nat):(r:Ty)→List AV→List Bx→Option (r.D×List Bx×Nat)
 | .unit,[],bx=>some ((),bx,d)
 | .cons c r,x::l,bx=>(HG d c x bx).bind fun a=>(cellsIn a.2.2 r l a.2.1).map fun b=>((a.1,b.1),b.2)
 |_,_,_=>none
def RH(d:Nat)(r:Ty)(x:XV)(bx:List Bx):Option (r.D×List Bx×Nat):=
 match x with
 | .agg l=>cellsIn d r l bx
 | .c x=>HG d r x bx
 |_=>none
def Bp(b:Nat):AV→AV
 | .ref b' (s::p)=>if b' =b then .undef else .ref b' (s::p)
 | .win b' (s::p) i n=>if b' =b then .undef else .win b' (s::p) i n
 | .Bl b' (s::p) i sz j=>if b' =b then .undef else .Bl b' (s::p) i sz j
 |x=>x
def Mo(b:Nat):XV→XV
 | .c x=> .c (Bp b x)
 | .agg l=> .agg (l.map (Bp b))
 | .D6 l=> .D6 (l.map fun| .inl x=> .inl (Bp b x)| .inr q=> .inr (q.map (Bp b)))
def PY(b:Nat):Bx→Bx
 | .mem cs=> .mem (cs.map (Bp b))
 |x=>x
def St.Px(b:Nat)(σ:St):St:={ tm:=σ.tm.map (Mo b),bx:=σ.bx.map (PY b) }
def FJ(cs:List AV):Nat→List AV→Option (List AV)
 |_,[]=>some cs
 |j,x::l=>if j<cs.length then FJ (cs.set j x) (j+1) l else none
def Kd(d:Nat)(r:Ty)(UN:r.D)(j:Nat)(x:XV)(bx:List Bx):Option (r.D×List Bx×Nat):=
 match x with
 | .agg l=>if j=0 then cellsIn d r l bx else none
 | .c x=>
  match AB r j UN with
  |some ⟨t,_⟩=>(HG d t x bx).bind fun a=>(Af r j UN t a.1).map fun row=>(row,a.2)
  |none=>none
 |_=>none
def XV.plain:XV→Bool
 | .c (.v _ _)=>true
 |_=>false
def IP(σ:St)(a:XV)(x:XV):Option St:=
 match a with
 | .c (.BS b j)=>
  match σ.bx[b]? with
  |some (.mem cs)=>(FJ cs j x.cells).map fun cs=>{ σ with bx:=σ.bx.set b (.mem cs) }
  |_=>none
 | .c (.Bl b p i sz j)=>
  match σ.bx[b]? with
  |some (.sl d r rows)=>if p.length<d then
   (A8 r rows p).bind fun s=>if sz=s.1.n then(Kd (d-p.length) s.1 (rowAt s.1 s.2 i) j x (σ.bx.set b .dead)).bind fun w=>
    (Li r rows p s.1 (s.2.set i w.1)).map fun rows=>
     let σ':St:={ σ with bx:=w.2.1.set b (.sl (w.2.2+p.length) r rows) }
     if x.plain then σ' else σ'.Px b
    else none
   else none
  |_=>none
 |_=>none
def GF(σ:St)(a x:XV):Option (St×XV):=
 match a,x with
 | .c (.Bl b _ _ _ _),.c (.win b' (s::p') off n)=>
  if b' =b then
   match σ.bx[b]? with
   |some (.sl d r rows)=>(A8 r rows (s::p')).map fun q=>({ σ with bx:=σ.bx.set b (.sl (min d (p'.length+1)) r rows) },.c (.sl true q.1 ((q.2.drop off).take n)))
   |_=>none
  else none
 |_,_=>some (σ,x)
def Hc(σ:St)(a x:XV):Option St:=(GF σ a x).bind fun q=>IP q.1 a q.2
def KZ(bx:List Bx)(x:AV):Option ((r:Ty)×(List r.D×List Bx×Nat)):=
 match x with
 | .v .str s=>some ⟨.int .u8,s.map (fun c=>(c.toNat:Int)),bx,9⟩
 | .sl s r rows=>if r.flat then some ⟨r,rows,bx,9⟩else if s then some ⟨r,rows,bx,1⟩else none
 | .ref b []=>
  match bx[b]? with
  |some (.sl d r rows)=>if r.flat then some ⟨r,rows,bx,9⟩else some ⟨r,rows,bx.set b .dead,d⟩
  |_=>none
 | .ref b p=>
  match bx[b]? with
  |some (.sl _ r rows)=>(A8 r rows p).bind fun q=>if q.1.flat then some ⟨q.1,q.2,bx,9⟩else none
  |_=>none
 | .win b p off n=>
  match bx[b]? with
  |some (.sl _ r rows)=>(A8 r rows p).bind fun q=>if q.1.flat then some ⟨q.1,(q.2.drop off).take n,bx,9⟩else none
  |_=>none
 |_=>none
def KX(bx:List Bx)(x:AV):Option ((r:Ty)×(List r.D×List Bx×Nat)):=
 match x with
 | .ref b []=>
  match bx[b]? with
  |some (.sl d r rows)=>some ⟨r,rows,bx.set b .dead,d⟩
  |_=>none
 | .win b [] off n=>
  match bx[b]? with
  |some (.sl d r rows)=>some ⟨r,(rows.drop off).take n,bx.set b .dead,d⟩
  |_=>none
 |_=>none
def Bw.elem(T:Bw)(t:Nat):Option TI:=
 match(T.get t).map TI.desc with
 |some (.sl e)=>T.get e
 |_=>none
def Bw.Dg(T:Bw)(t:Nat)(r:Ty):Bool:=
 match T.elem t with
 |some ti=>decide (ti.size=r.n)&&decide (ti.bytes≤512)&&decide (ti.row=some r)
 |none=>false
def Bw.isStr(T:Bw)(t:Nat):Bool:=
 match(T.get t).map TI.desc with
 |some .str=>true
 |_=>false
def Bw.Ru(T:Bw)(t:Nat):Bool:=
 match(T.get t).map TI.desc with
 |some (.sl _)=>true
 |_=>false
def Hv(T:Bw)(ts:Array TypeId)(σ:St)(a x:XV)(k:K Y):Option Y:=
 match ts[0]?,ts[1]? with
 |some t,some u=>
  if T.Ru u||T.isStr u then
   match a,x with
   | .c .nil,.c y=>
    (KZ σ.bx y).bind fun s=>if T.Dg t s.1 then
     if s.2.1.length≤GC then k (.c (.ref s.2.2.1.length [])) { σ with bx:=s.2.2.1++[.sl s.2.2.2 s.1 s.2.1] }else none
     else none
   | .c a,.c y=>
    (KX σ.bx a).bind fun d=>if T.Dg t d.1 then(KZ d.2.2.1 y).bind fun s=>
     (DO (β:=fun r=>List r.D) s.1 d.1 s.2.1).bind fun rows=>
      if d.2.1.length+rows.length≤GC then
       k (.c (.ref s.2.2.1.length [])) { σ with bx:=s.2.2.1++[.sl (min d.2.2.2 s.2.2.2) d.1 (d.2.1++rows)] }
      else none
     else none
   |_,_=>none
  else none
 |_,_=>none
def Jl(T:Bw)(ts:Array TypeId)(σ:St)(x:XV)(k:K Y):Option Y:=
 match ts[0]?,x with
 |some t,.c (.win b [] off n)=>
  match σ.bx[b]? with
  |some (.sl d r rows)=>if T.Dg t r&&(r.flat&&decide (0<r.n))then k (.c .undef) { σ with bx:=σ.bx.set b (.sl d r ((rows.take off++List.replicate n r.z)++rows.drop (off+n))) }else none
  |_=>none
 |_,_=>none
def HV:XV→Option Int
 | .c (.v (.int _) n)=>some n
 |_=>none
def Cr(len:Nat)(lo hi:Option XV)(k:Nat→Nat→Option Y):Option Y:=
 let h:Option Int:=match hi with
  |none=>some (len:Int)
  |some x=>HV x
 let l:Option Int:=match lo with
  |none=>some 0
  |some x=>HV x
 match l,h with
 |some l,some h=>if 0≤l∧l≤h∧h≤(len:Int)then k l.toNat h.toNat else none
 |_,_=>none
def JH(T:Bw)(t:Nat)(σ:St)(x:XV)(lo hi:Option XV)(k:K Y):Option Y:=
 match x with
 | .c (.v .str s)=>if T.isStr t then Cr s.length lo hi fun l h=>k (.c (.v .str ((s.drop l).take (h-l)))) σ else none
 | .c (.sl s r rows)=>if T.Dg t r then Cr rows.length lo hi fun l h=>k (.c (.sl s r ((rows.drop l).take (h-l)))) σ else none
 | .c (.ref b p)=>
  match Ce σ.bx (.ref b p)with
  |some q=>if T.Dg t q.1 then Cr q.2.length lo hi fun l h=>k (.c (.win b p l (h-l))) σ else none
  |none=>none
 |_=>none
def Ja(σ:St)(T:Bw)(t:Nat)(x i:XV)(k:K Y):Option Y:=
 match x,HV i with
 | .c (.sl s r rows),some i=>if T.Dg t r then(if 0≤i∧i<(rows.length:Int)then k (.c (.Cn s r (rowAt r rows i.toNat) 0)) σ else none)else none
 | .c (.ref b p),some i=>
  match Ce σ.bx (.ref b p)with
  |some q=>if T.Dg t q.1 then(if 0≤i∧i<(q.2.length:Int)then k (.c (.Bl b p i.toNat q.1.n 0)) σ else none)else none
  |none=>none
 | .c (.win b p off n),some i=>
  match Ce σ.bx (.ref b p)with
  |some q=>if T.Dg t q.1 then(if 0≤i∧i<(n:Int)then k (.c (.Bl b p (off+i.toNat) q.1.n 0)) σ else none)else none
  |none=>none
 |_,_=>none
def My(T:Bw)(t:Nat)(x:XV)(f:Nat):Option XV:=
 match T.get t with
 |some ⟨_,_,.st fs,_⟩=>
  match fs[f]? with
  |some (o,_)=>match x with
   | .c (.BS b j)=>some (.c (.BS b (j+o)))
   | .c (.Bl b p i sz j)=>some (.c (.Bl b p i sz (j+o)))
   | .c (.Cn s r y j)=>some (.c (.Cn s r y (j+o)))
   |_=>none
  |none=>none
 |_=>none
def RS(T:Bw)(t:Nat)(x:XV)(f:Nat):Option XV:=
 match T.get t,x with
 |some ⟨_,_,.st fs,_⟩,.agg l=>
  match fs[f]? with
  |some (o,u)=>
   match T.get u with
   |some ti=>if ti.desc.agg then some (.agg ((l.drop o).take ti.size))else(l[o]?).map .c
   |none=>none
  |none=>none
 |_,_=>none
def MU(T:Bw)(src dst:Nat)(σ:St)(x:XV)(k:K Y):Option Y:=
 match(T.get src).map TI.desc,(T.get dst).map TI.desc,x with
 |some (.int _),some (.int κ),.c (.v (.int _) n)=>k (.c (.v (.int κ) (κ.wrap n))) σ
 |some .str,some .str,.c (.v .str s)=>k (.c (.v .str s)) σ
 |some .str,some (.sl e),.c (.v .str s)=>
  match(T.get e).map TI.desc with
  |some (.int .u8)=>if s.length≤GC then k (.c (.ref σ.bx.length [])) (σ.new (.sl 9 (.int .u8) (s.map fun c=>(c.toNat:Int))))else none
  |_=>none
 |some (.sl e),some .str,.c x=>
  match(T.get e).map TI.desc,CV σ.bx (.sl (.int .u8)) x with
  |some (.int .u8),some l=>k (.c (.v .str (l.map fun n:Int=>UInt8.ofNat n.toNat))) σ
  |_,_=>none
 |_,_,_=>none
def Mf(T:Bw)(t:Nat)(σ:St)(l c:XV)(k:K Y):Option Y:=
 match(T.get t).map TI.desc,HV l,HV c with
 |some (.sl e),some n,some m=>
  match Bw.Il T e with
  |some r=>if T.Dg t r then(if 0≤n∧n≤m∧m≤(GC:Int)then k (.c (.ref σ.bx.length [])) (σ.new (.sl 9 r (List.replicate n.toNat r.z)))else none)else none
  |none=>none
 |_,_,_=>none
def IL(T:Bw)(fs:List ZE):List AV→List (Nat×XV)→Option (List AV)
 |cs,[]=>some cs
 |cs,(i,x)::l=>
  match fs[i]? with
  |some (o,u)=>
   match T.get u with
   |some ti=>if x.cells.length=ti.size∧ti.size≠0∧x.cells.all AV.known=true then(FJ cs o x.cells).bind fun cs=>IL T fs cs l else none
   |none=>none
  |none=>none
def Fm(r:Ty):Nat→Nat→List (Nat×XV)→List Bx→Nat→Option (List r.D×List Bx×Nat)
 |_,0,[],bx,d=>some ([],bx,d)
 |i,n+1,(j,x)::l,bx,d=>
  if i=j then(RH d r x bx).bind fun a=>(Fm r (i+1) n l a.2.1 a.2.2).map fun b=>(a.1::b.1,b.2)else none
 |i,n+1,[],bx,d=>(Fm r (i+1) n [] bx d).map fun b=>(r.z::b.1,b.2)
 |_,0,_::_,_,_=>none
def DW(T:Bw)(t n:Nat)(parts:List (Nat×XV))(σ:St)(k:K Y):Option Y:=
 match(T.get t).map TI.desc with
 |some (.sl e)=>
  match Bw.Il T e with
  |some r=>if T.Dg t r&&decide (n≤1024)&&decide (r.n≤1024)then(Fm r 0 n parts σ.bx 9).bind fun a=>k (.c (.ref a.2.1.length [])) { σ with bx:=a.2.1++[.sl a.2.2 r a.1] }else none
  |none=>none
 |_=>none
def Ez(T:Bw)(t:Nat)(σ:St)(x i:XV)(k:K Y):Option Y:=
 match x,HV i with
 | .c (.v .str s),some i=>if T.isStr t then if 0≤i∧i<(s.length:Int)then k (.c (.v (.int .u8) ((s.getD i.toNat 0).toNat:Int))) σ else none else none
 |_,_=>none
def Kn(x:XV)(i:Nat):Option XV:=
 match x with
 | .D6 l=>match l[i]? with
  |some (.inl a)=>some (.c a)
  |some (.inr q)=>some (.agg q)
  |none=>none
 |_=>none
def Ap(m:DB):AV→AV
 | .ref b (s::p)=>if m.contains (some b)then .undef else .ref b (s::p)
 | .win b (s::p) i n=>if m.contains (some b)then .undef else .win b (s::p) i n
 | .Bl b (s::p) i sz j=>if m.contains (some b)then .undef else .Bl b (s::p) i sz j
 |x=>x
def EK(m:DB):XV→XV
 | .c x=> .c (Ap m x)
 | .agg l=> .agg (l.map (Ap m))
 | .D6 l=> .D6 (l.map fun| .inl x=> .inl (Ap m x)| .inr q=> .inr (q.map (Ap m)))
def RJ(m:DB):Bx→Bx
 | .mem cs=> .mem (cs.map (Ap m))
 |x=>x
def St.FK(m:DB)(σ:St):St:=
 match m with
 |[]=>σ
 |_::_=>{ tm:=σ.tm.map (EK m),bx:=σ.bx.map (RJ m) }
def J9(c:FX)(args:List XV)(σ:St)(k:K Y):Option Y:=
 if args.length=c.ins.Ai.length then
  match c.ins.fit σ.bx.length c.ins.m0 args (c.ins.opens σ.bx)with
  |some (v,m)=>(c.g v).bind fun u=>
   let Bt:=Fi m (c.ins.opens σ.bx).length
   let σ1:=({ σ with bx:=c.ins.opens σ.bx }:St).FK m
   k (Hk c.outs.Ai u.1 Bt) { σ1 with bx:=GS Bt 0 c.outs.A9 u.2 (AN σ1.bx m) }
  |none=>none
 else none
def Gr(σ:St)(x:XV)(k:K Y):Option Y:=
 match x with
 | .c (.win b [] off n)=>
  (KX σ.bx (.win b [] off n)).bind fun s=>k (.c (.ref s.2.2.1.length [])) { σ with bx:=s.2.2.1++[.sl s.2.2.2 s.1 s.2.1] }
 |x=>k x σ
def OB(l:List XV):Option ZD:=
 match l with
 |[]=>some []
 | .c (.BS b 0)::l=>(OB l).map fun r=>b::r
 |_=>none
def NK(big:Bool)(a b:XV)(k:AV→Option Y):Option Y:=
 match a,b with
 | .c (.v (.int j) x),.c (.v (.int j') y)=>
  if j=j' then(if big then k (.v (.int j) (if y>x then y else x))else k (.v (.int j) (if y<x then y else x)))else none
 |_,_=>none
def FC(T:Bw)(Γ:Nat→Option FX)(o:Oper)(σ:St)(k:K Y):Option Y:=
 match o.op with
 | .move x=>k (σ.ev x) σ
 | .assign x=>Gr σ (σ.ev x) k
 | .pick c a b=>match σ.ev c with
  | .c (.v .bool x)=>Q6 x (σ.ev a) (σ.ev b) σ k
  |_=>none
 | .alloc t=>match Bw.Il T t with
  |some r=>k (.c (.BS σ.bx.length 0)) (σ.new (.mem (GZ r)))
  |none=>none
 | .box t x=>match T.get t with
  |some ti=>if(σ.ev x).cells.length=ti.size∧ti.size≠0∧(σ.ev x).cells.all AV.known=true then k (.c (.BS σ.bx.length 0)) (σ.new (.mem (σ.ev x).cells))else none
  |none=>none
 | .build t parts=>match T.get t,Bw.Il T t with
  |some ⟨_,_,.st fs,_⟩,some r=>match IL T fs (GZ r) (parts.toList.map fun q=>(q.1,σ.ev q.2))with
   |some cs=>k (.agg cs) σ
   |none=>none
  |_,_=>none
 | .buildSlice t n parts=>DW T t n (parts.toList.map fun q=>(q.1,σ.ev q.2)) σ k
 | .load t a=>match J3 T t σ (σ.ev a)with
  |some x=>k x σ
  |none=>none
 | .store t a x=>match T.get t with
  |some ti=>if(σ.ev x).cells.length=ti.size∧ti.size≠0∧(σ.ev x).cells.all AV.known=true then(match Hc σ (σ.ev a) (σ.ev x)with
   |some σ=>k (.c .undef) σ
   |none=>none)else none
  |none=>none
 | .nilCheck x=>match σ.ev x with
  | .c (.BS b j)=>k (.c (.BS b j)) σ
  | .c (.Bl b p i sz j)=>k (.c (.Bl b p i sz j)) σ
  | .c (.Cn s r y j)=>k (.c (.Cn s r y j)) σ
  | .c (.fn f Bu)=>k (.c (.fn f Bu)) σ
  |_=>none
 | .binOp op t x y _=>OL T t op (σ.ev x) (σ.ev y) fun a=>k (.c a) σ
 | .unOp op _ x=>Sp op (σ.ev x) fun a=>k (.c a) σ
 | .convert s d x=>MU T s d σ (σ.ev x) k
 | .makeFunc (.func f) first Bu=>if first.size=0 then(match OB (Bu.toList.map σ.ev)with
  |some bs=>k (.c (.fn f bs)) σ
  |none=>none)else none
 | .makeSlice t l c=>Mf T t σ (σ.ev l) (σ.ev c) k
 | .slice t x lo hi none=>JH T t σ (σ.ev x) (lo.map σ.ev) (hi.map σ.ev) k
 | .fieldAddr t x f=>match My T t (σ.ev x) f with
  |some y=>k y σ
  |none=>none
 | .field t x f=>match RS T t (σ.ev x) f with
  |some y=>k y σ
  |none=>none
 | .indexAddr t x i=>Ja σ T t (σ.ev x) (σ.ev i) k
 | .index t x i=>Ez T t σ (σ.ev x) (σ.ev i) k
 | .extract x i=>match Kn (σ.ev x) i with
  |some y=>k y σ
  |none=>none
 | .call { callee:= .value f,args,.. }=>match σ.ev f with
  | .c (.fn f Bu)=>match Γ f with
   |some c=>J9 c (args.toList.map σ.ev++Bu.map fun b=> .c (.BS b 0)) σ k
   |none=>none
  | .c (.M3 f rows)=>match Γ f with
   |some c=>J9 c (args.toList.map σ.ev++rows.map fun q=> .c (.Cn false q.1 q.2 0)) σ k
   |none=>none
  |_=>none
 | .call { callee:= .builtin .len,args,argTypes }=>match args.toList.map σ.ev,argTypes[0]? with
  |[.c (.v .str s)],some t=>if T.isStr t then k (.c (.v (.int .i64) (s.length:Int))) σ else none
  |[.c x],some t=>if T.Ru t then(match lenOf σ.bx x with
   |some n=>k (.c (.v (.int .i64) (n:Int))) σ
   |none=>none)else none
  |_,_=>none
 | .call { callee:= .builtin .append,args,argTypes }=>match args.toList.map σ.ev with
  |[a,x]=>Hv T argTypes σ a x k
  |_=>none
 | .call { callee:= .builtin .clear,args,argTypes }=>match args.toList.map σ.ev with
  |[x]=>Jl T argTypes σ x k
  |_=>none
 | .call { callee:= .builtin .max,args,.. }=>match args.toList.map σ.ev with
  |[a,x]=>NK true a x fun a=>k (.c a) σ
  |_=>none
 | .call { callee:= .builtin .min,args,.. }=>match args.toList.map σ.ev with
  |[a,x]=>NK false a x fun a=>k (.c a) σ
  |_=>none
 |_=>none
end ops
end Go.Fw
end
section
namespace Go.Fw
section
variable{Y:Type}
structure Ls where
 T:Bw
 Γ:Nat→Option FX
 hint:Nat→List Nat
def IA(hint:ZD):XV→Bool
 | .c (.BS b _)=>hint.contains b
 | .c (.Bl b _ _ _ _)=>hint.contains b
 | .c (.Cn _ _ _ _)=>true
 |_=>false
def I0(hint:ZD)(σ:St):Op→Bool
 | .assign x=>match σ.ev x with
  | .c (.win _ [] _ _)=>false
  |_=>true
 | .move _| .pick .. | .nilCheck _| .binOp .. | .unOp .. | .fieldAddr .. | .field .. | .indexAddr .. | .index .. | .extract .. | .build .. =>true
 | .slice _ _ _ _ none=>true
 | .load _ a=>IA hint (σ.ev a)
 | .call { callee:= .builtin .len,.. }=>true
 | .call { callee:= .builtin .max,.. }=>true
 | .call { callee:= .builtin .min,.. }=>true
 |_=>false
def BZ(Γ:Nat→Option FX)(σ:St):Op→List Nat
 | .store _ a _=>match σ.ev a with
  | .c (.BS b _)=>[b]
  | .c (.Bl b _ _ _ _)=>[b]
  |_=>[]
 | .call { callee:= .value f,args,.. }=>match σ.ev f with
  | .c (.fn f Bu)=>match Γ f with
   |some c=>match c.ins.fit σ.bx.length c.ins.m0 (args.toList.map σ.ev++Bu.map fun b=> .c (.BS b 0)) (c.ins.opens σ.bx)with
    |some (_,m)=>m.filterMap id
    |none=>[]
   |none=>[]
  | .c (.M3 f rows)=>match Γ f with
   |some c=>match c.ins.fit σ.bx.length c.ins.m0 (args.toList.map σ.ev++rows.map fun q=> .c (.Cn false q.1 q.2 0)) (c.ins.opens σ.bx)with
    |some (_,m)=>m.filterMap id
    |none=>[]
   |none=>[]
  |_=>[]
 | .call { callee:= .builtin .clear,args,.. }=>match args.toList.map σ.ev with
  |[.c (.win b _ _ _)]=>[b]
  |_=>[]
 |_=>[]
def tt:XV:= .c (.v .bool true)
def ff:XV:= .c (.v .bool false)
def Pk(C:Ls)(ops:Array Oper)(o:Oper)(kn:St→Option Y)(σ:St):Option Y:=
 match o.guard with
 |none=>FC C.T C.Γ o σ fun x σ' =>kn (σ'.put o.dst x)
 |some (j,want)=>
  match(ops[j]?).bind (·.dst)with
  |some t=>
   match σ.tm[t]? with
   |some (.c (.v .bool b))=>
    let yes (σ:St):Option Y:=FC C.T C.Γ o σ fun x σ' =>kn (σ'.put o.dst x)
    let no (σ:St):Option Y:=kn (σ.put o.dst (.D6 []))
    cond b ((if want then yes else no) (σ.put (some t) tt)) ((if want then no else yes) (σ.put (some t) ff))
   |some (.D6 [])=>kn (σ.put o.dst (.D6 []))
   |_=>none
  |none=>none
def NT(C:Ls)(all:Array Oper):List Oper→(St→Option Y)→St→Option Y
 |[],kn,σ=>kn σ
 |o::rest,kn,σ=>Pk C all o (fun σ' =>NT C all rest kn σ') σ
def PV(C:Ls)(ops:Array Oper)(i:Nat)(kn:St→Option Y)(σ:St):Option Y:=
 match ops[i]? with
 |none=>none
 |some o=>Pk C ops o kn σ
def JW(bx:List Bx)(b:Nat):Bool:=
 match bx[b]? with
 |some .dead=>true
 |some _=>false
 |none=>true
def idle(ops:Array Oper)(σ:St)(o:Oper):Bool:=
 match o.guard with
 |none=>false
 |some (j,want)=>
  match(ops[j]?).bind (·.dst)with
  |some t=>
   match σ.tm[t]? with
   |some (.c (.v .bool b))=>b !=want
   |some (.D6 [])=>true
   |_=>false
  |none=>false
def Kk(hint:ZD)(ops:Array Oper)(listed:Array Bool)(σ:St)(i:Nat):Bool:=
 match ops[i]? with
 |some o=>(I0 hint σ o.op||idle ops σ o)&&Region.free .any ops listed i
 |none=>false
def Mx(f:Nat→List Bool→Option Y):List Nat→List Bool→Option Y
 |[],_=>none
 |[i],ω=>f i ω
 |i::_::_,[]=>f i []
 |i::_::_,true::ω=>f i ω
 |_::j::r,false::ω=>Mx f (j::r) ω
def EJ(C:Ls)(hint:ZD)(ops:Array Oper)(kn:List Bool→St→Option Y):Nat→Array Bool→List Bool→St→Option Y
 |fuel,listed,ω,σ=>
  if hint.all (fun b=> !JW σ.bx b)then
   match Region.ready .any ops listed with
   |[]=>kn ω σ
   |rs=>
    match fuel with
    |0=>none
    |fuel+1=>
     match rs.find? (Kk hint ops listed σ)with
     |some i=>PV C ops i (fun σ' =>EJ C hint ops kn fuel (listed.setIfInBounds i true) ω σ') σ
     |none=>Mx (fun i ω=>
      match ops[i]? with
      |some o=>if(BZ C.Γ σ o.op).all (fun b=> !hint.contains b)then PV C ops i (fun σ' =>EJ C hint ops kn fuel (listed.setIfInBounds i true) ω σ') σ else none
      |none=>none) rs ω
  else none
def first:Code→Nat
 | .region id _ _=>id
 | .seq a _=>first a
 | .cond _ a _=>first a
 | .block _ a=>first a
 | .loop a=>first a
 | .scope a=>first a
 |_=>0
abbrev KN(Y:Type):=List Bool→St→Option Y
def run(C:Ls)(J:Nat→St→Option Y):Code→KN Y→(Nat→KN Y)→KN Y→KN Y
 | .skip,kn,_,_,ω,σ=>kn ω σ
 | .region id ops draw,kn,_,_,ω,σ=>
  if draw then(if Region.noSelect ops then EJ C (C.hint id) ops kn ops.size (Array.replicate ops.size false) ω σ else none)else NT C ops ops.toList (kn ω) σ
 | .seq a b,kn,kx,kr,ω,σ=>run C J a (fun ω σ=>run C J b kn kx kr ω σ) kx kr ω σ
 | .cond (.tmp t) a b,kn,kx,kr,ω,σ=>
  match σ.tm[t]? with
  |some (.c (.v .bool x))=>cond x (run C J a kn kx kr ω (σ.put (some t) tt)) (run C J b kn kx kr ω (σ.put (some t) ff))
  |_=>none
 | .block id body,kn,kx,kr,ω,σ=>run C J body kn (fun j ω σ=>if j=id then kn ω σ else kx j ω σ) kr ω σ
 | .loop body,_,_,_,_,σ=>J (first body) σ
 | .exit id,_,kx,_,ω,σ=>kx id ω σ
 | .ret,_,_,kr,ω,σ=>kr ω σ
 |_,_,_,_,_,_=>none
def find(C:Ls)(J:Nat→St→Option Y)(ℓ :Nat):Code→KN Y→(Nat→KN Y)→KN Y→Option (KN Y)
 | .seq a b,kn,kx,kr=>
  match find C J ℓ a (fun ω σ=>run C J b kn kx kr ω σ) kx kr with
  |some f=>some f
  |none=>find C J ℓ b kn kx kr
 | .cond _ a b,kn,kx,kr=>
  match find C J ℓ a kn kx kr with
  |some f=>some f
  |none=>find C J ℓ b kn kx kr
 | .block id body,kn,kx,kr=>find C J ℓ body kn (fun j ω σ=>if j=id then kn ω σ else kx j ω σ) kr
 | .loop body,_,kx,kr=>
  if first body= ℓ then some (fun ω σ=>run C J body (fun _ σ=>J ℓ σ) kx kr ω σ)else find C J ℓ body (fun _ σ=>J (first body) σ) kx kr
 |_,_,_,_=>none
def Rf(T:Bw)(σ:St):ResultVar→Option XV
 | .tmp t=>σ.tm[t]?
 | .cell a t=>match σ.tm[a]? with
  |some x=>J3 T t σ x
  |none=>none
def N3:List XV→Option (List (AV ⊕ List AV))
 |[]=>some []
 | .c x::l=>(N3 l).map fun r=> .inl x::r
 | .agg q::l=>(N3 l).map fun r=> .inr q::r
 |_=>none
def Kf(T:Bw)(σ:St)(rs:List ResultVar):Option XV:=
 match rs.mapM (Rf T σ)with
 |some [x]=>some x
 |some l=>(N3 l).map .D6
 |none=>none
def EE:Nat→Nat→List BP→DB
 |_,_,[]=>[]
 |i,n,p::l=>(match p with| .gone=>none|_=>if i<n then some i else none)::EE (i+1) n l
def L1(T:Bw)(c:FX)(rs:List ResultVar)(σ:St):Option c.outs.V:=
 (Kf T σ rs).bind fun x=>(c.outs.fit σ.bx.length (EE 0 c.ins.A9.length c.outs.A9) [x] (c.outs.opens σ.bx)).map fun q=>q.1
def JI(C:Ls)(c:FX)(fn:Func)(J:Nat→St→Option c.outs.V)(ω:List Bool)(v:c.ins.V):Option c.outs.V:=
 match fn.body with
 |some code=>run C J code (fun _=>L1 C.T c fn.results.toList) (fun _ _ _=>none) (fun _=>L1 C.T c fn.results.toList) ω (c.ins.st fn.ntmps v)
 |none=>none
def N5(C:Ls)(c:FX)(fn:Func)(J:Nat→St→Option c.outs.V)(ℓ :Nat)(ω:List Bool)(σ:St):Option c.outs.V:=
 match fn.body with
 |some code=>
  match find C J ℓ code (fun _=>L1 C.T c fn.results.toList) (fun _ _ _=>none) (fun _=>L1 C.T c fn.results.toList)with
  |some f=>f ω σ
  |none=>none
 |none=>none
def AV.LY(b:Nat)(r:Ty)(rows:List r.D):AV→AV
 | .ref k []=>if k=b then .sl true r rows else .ref k []
 |x=>x
def XV.LY(b:Nat)(r:Ty)(rows:List r.D):XV→XV
 | .c x=> .c (x.LY b r rows)
 |x=>x
def Bx.LY(b:Nat)(r:Ty)(rows:List r.D):Bx→Bx
 | .mem cs=> .mem (cs.map (AV.LY b r rows))
 |x=>x
def St.LY(b:Nat)(σ:St):St:=
 match σ.bx[b]? with
 |some (.sl _ r rows)=>{ tm:=σ.tm.map (XV.LY b r rows),bx:=(σ.bx.set b .dead).map (Bx.LY b r rows) }
 |_=>σ
def DE:List AP→List AV→St→St
 | .sl true _::l,.ref b []::xs,σ=>DE l xs (σ.LY b)
 |_::l,_::xs,σ=>DE l xs σ
 |_,_,σ=>σ
def DG(bs:List BP):List (Nat×XP)→St→St
 |[],σ=>σ
 |(i,.c (.sl true r))::l,σ=>
  match σ.tm[i]? with
  |some (.c x)=>DG bs l (DE [.sl true r] [x] σ)
  |_=>DG bs l σ
 |(i,.c (.ptr k _))::l,σ=>
  match bs[k]?,σ.tm[i]? with
  |some (.mem ps),some (.c (.BS b _))=>
   match σ.bx[b]? with
   |some (.mem cs)=>DG bs l (DE ps cs σ)
   |_=>DG bs l σ
  |_,_=>DG bs l σ
 |_::l,σ=>DG bs l σ
def AV.MP:AV→Bool
 | .ref _ _| .win _ _ _ _| .sl _ _ _| .nil=>true
 |_=>false
def St.forget(b j:Nat)(σ:St):St:=
 match σ.bx[b]? with
 |some (.mem cs)=>
  match cs[j]? with
  |some x=>if x.MP then{ σ with bx:=σ.bx.set b (.mem (cs.set j (.ref σ.bx.length [])))++[.dead] }else σ
  |none=>σ
 |_=>σ
def E4(bs:List BP)(b:Nat):Nat→List AP→St→St
 |_,[],σ=>σ
 |j,p::l,σ=>E4 bs b (j+1) l (match p with
  | .ref q=>match bs[q]? with
   |some .gone=>σ.forget b j
   |_=>σ
  |_=>σ)
def Hd(bs:List BP):List (Nat×XP)→St→St
 |[],σ=>σ
 |(i,p)::l,σ=>Hd bs l (match p with
  | .c (.ptr k _)=>match bs[k]?,σ.tm[i]? with
   |some (.mem ps),some (.c (.BS b _))=>E4 bs b 0 ps σ
   |_,_=>σ
  |_=>σ)
def jump(nb:Nat)(s:C0)(f:s.V→Option Y)(σ:St):Option Y:=
 if nb≤s.A9.length then
  let σ:=Hd s.A9 s.Ai (DG s.A9 s.Ai σ)
  (s.fit σ.bx.length (EE 0 nb s.A9) σ.tm (s.opens σ.bx)).bind fun q=>f q.1
 else none
end
end Go.Fw
end
section
namespace Go.Fw
def AL(w:World)(b o:Nat)(cs:List Value):Prop:= ∀j v,cs[j]? =some v→w.cell? ⟨b,o+j,none⟩=some v
def Rd(w:World)(B:Nat→Prop):(t:Ty)→List Value→t.D→Prop
 | .int k,vs,x=>vs=[.int k x]
 | .bool,vs,x=>vs=[.bool x]
 | .str,vs,x=>vs=[.string ⟨x.toArray⟩]
 | .sl r,vs,x=> ∃a cap,vs=[.slice a (List.length x) cap]∧List.length x≤cap∧(List.length x=0∨ ∃b o,a=some ⟨b,o,none⟩∧B b∧
  ∀(i:Nat) (y:r.D),x[i]? =some y→ ∃cs,cs.length=r.n∧AL w b (o+i*r.n) cs∧Rd w B r cs y)
 | .unit,vs,_=>vs=[]
 | .cons c r,vs,x=> ∃v l,vs=v::l∧Rd w B c [v] x.1∧Rd w B r l x.2
def Og(fr:ZE)(n:Nat):Prop:= ∀i,i<n→ ¬(fr.1≤i∧i<fr.2)
def mk:Ty→Nat
 | .int .u8=>0
 |_=>1
def Ow(w:World)(S:Nat→Prop):(d:Nat)→(t:Ty)→List Value→t.D→List Nat→Prop
 |0,.sl r,vs,x,F=>Rd w S (.sl r) vs x∧F=[]
 |d+1,.sl r,vs,x,F=> ∃a cap,vs=[.slice a (List.length x) cap]∧List.length x≤cap∧
  ((
   cap=0∧F=[])∨ ∃b o arr ty fr Fs,a=some ⟨b,o,none⟩∧w.heap[b]? =some (.cells arr ty fr)∧o+cap*r.n≤arr.size∧Og fr (arr.size+mk r)∧
   F=b::List.flatten Fs∧Fs.length=List.length x∧
   ∀(i:Nat) (y:r.D) (G:ZD),x[i]? =some y→Fs[i]? =some G→ ∃cs,cs.length=r.n∧AL w b (o+i*r.n) cs∧Ow w S d r cs y G)
 |d,.cons c r,vs,x,F=> ∃v l F1 F2,vs=v::l∧F=F1++F2∧Ow w S d c [v] x.1 F1∧Ow w S d r l x.2 F2
 |_,.unit,vs,_,F=>vs=[]∧F=[]
 |_,.int k,vs,x,F=>vs=[.int k x]∧F=[]
 |_,.bool,vs,x,F=>vs=[.bool x]∧F=[]
 |_,.str,vs,x,F=>vs=[.string ⟨x.toArray⟩]∧F=[]
theorem Jm{w B}:∀{t:Ty} {vs x},Rd w B t vs x→vs.length=t.n
 | .int _,_,_,h=>by simp only[Rd]at h;subst h;rfl
 | .bool,_,_,h=>by simp only[Rd]at h;subst h;rfl
 | .str,_,_,h=>by simp only[Rd]at h;subst h;rfl
 | .sl _,_,_,h=>by simp only[Rd]at h;obtain⟨_,_,h,_⟩:=h;subst h;rfl
 | .unit,_,_,h=>by simp only[Rd]at h;subst h;rfl
 | .cons _ _,_,_,h=>by
  simp only[Rd]at h;obtain⟨_,_,rfl,_,h⟩:=h;simp[Ty.n,Jm h]
theorem FP{w S}:∀{d} {t:Ty} {vs x F},Ow w S d t vs x F→vs.length=t.n
 |_,.int _,_,_,_,h=>by simp only[Ow]at h;rw[h.1];rfl
 |_,.bool,_,_,_,h=>by simp only[Ow]at h;rw[h.1];rfl
 |_,.str,_,_,_,h=>by simp only[Ow]at h;rw[h.1];rfl
 |0,.sl _,_,_,_,h=>by simp only[Ow]at h;exact Jm h.1
 |_+1,.sl _,_,_,_,h=>by simp only[Ow]at h;obtain⟨_,_,h,_⟩:=h;subst h;rfl
 |_,.unit,_,_,_,h=>by simp only[Ow]at h;rw[h.1];rfl
 |_,.cons _ _,_,_,_,h=>by
  simp only[Ow]at h;obtain⟨_,_,_,_,rfl,_,_,h⟩:=h;simp[Ty.n,FP h]
theorem AL.of_block{w w':World}{b o:Nat}{cs:List Value}(h:AL w b o cs)(hb:w'.heap[b]? =w.heap[b]?):AL w' b o cs:=
 fun j v hj=>(World.cell?_of_block (a:=⟨b,o+j,none⟩) hb).trans (h j v hj)
theorem Ar{w w':World}{B B':Nat→Prop}(hB:∀b,B b→B' b)(hw:∀b,B b→w'.heap[b]? =w.heap[b]?):∀{t:Ty} {vs x},Rd w B t vs x→Rd w' B' t vs x
 | .int _,_,_,h=>by simpa only[Rd]using h
 | .bool,_,_,h=>by simpa only[Rd]using h
 | .str,_,_,h=>by simpa only[Rd]using h
 | .unit,_,_,h=>by simpa only[Rd]using h
 | .sl r,_,_,h=>by
  simp only[Rd]at h⊢;obtain⟨a,cap,h1,h2,h3⟩:=h;refine⟨a,cap,h1,h2,h3.imp id ?_⟩
  rintro⟨b,o,ha,hb,h⟩
  refine⟨b,o,ha,hB b hb,fun i y hy=> ?_⟩;obtain⟨cs,hl,hc,hr⟩:=h i y hy;exact⟨cs,hl,hc.of_block (hw b hb),Ar hB hw hr⟩
 | .cons _ _,_,_,h=>by
  simp only[Rd]at h⊢;obtain⟨v,l,h1,h2,h3⟩:=h;exact⟨v,l,h1,Ar hB hw h2,Ar hB hw h3⟩
theorem Ak{w w':World}{S S':Nat→Prop}(hS:∀b,S b→S' b)(hw:∀b,S b→w'.heap[b]? =w.heap[b]?):
  ∀{d} {t:Ty} {vs x F},(∀b∈F,w'.heap[b]? =w.heap[b]?)→Ow w S d t vs x F→Ow w' S' d t vs x F
 |_,.int _,_,_,_,_,h=>by simpa only[Ow]using h
 |_,.bool,_,_,_,_,h=>by simpa only[Ow]using h
 |_,.str,_,_,_,_,h=>by simpa only[Ow]using h
 |_,.unit,_,_,_,_,h=>by simpa only[Ow]using h
 |0,.sl r,_,_,_,_,h=>by
  simp only[Ow]at h⊢;exact⟨Ar hS hw h.1,h.2⟩
 |d+1,.sl r,_,x,F,hF,h=>by
  simp only[Ow]at h⊢;obtain⟨a,cap,h1,h2,h3⟩:=h;refine⟨a,cap,h1,h2,h3.imp id ?_⟩
  rintro⟨b,o,arr,ty,fr,Fs,ha,hb,h4,h5,h6,h7,h⟩
  subst h6;have SJ:=hF b (by simp);refine⟨b,o,arr,ty,fr,Fs,ha,SJ.trans hb,h4,h5,rfl,h7,fun i y G hy hG=> ?_⟩;obtain⟨cs,hl,hc,hr⟩:=h i y G hy hG;refine⟨cs,hl,hc.of_block SJ,Ak hS hw (fun c hc=>hF c ?_) hr⟩;exact aO _ (Zt.2 ⟨G,Zb hG,hc⟩)
 |_,.cons _ _,_,_,_,hF,h=>by
  simp only[Ow]at h⊢;obtain⟨v,l,F1,F2,h1,h2,h3,h4⟩:=h;subst h2;exact⟨v,l,F1,F2,h1,rfl,Ak hS hw (fun c hc=>hF c (by simp[hc])) h3,Ak hS hw (fun c hc=>hF c (by simp[hc])) h4⟩
theorem Fb{w:World}{S:Nat→Prop}:∀{d} {t:Ty} {vs x F},Ow w S d t vs x F→Rd w (fun b=>S b∨b∈F) t vs x
 |_,.int _,_,_,_,h=>by simp only[Ow]at h;simp only[Rd];exact h.1
 |_,.bool,_,_,_,h=>by simp only[Ow]at h;simp only[Rd];exact h.1
 |_,.str,_,_,_,h=>by simp only[Ow]at h;simp only[Rd];exact h.1
 |_,.unit,_,_,_,h=>by simp only[Ow]at h;simp only[Rd];exact h.1
 |0,.sl r,_,_,_,h=>by
  simp only[Ow]at h;exact Ar (fun b hb=> .inl hb) (fun _ _=>rfl) h.1
 |d+1,.sl r,_,x,F,h=>by
  simp only[Ow]at h;simp only[Rd];obtain⟨a,cap,h1,h2,h3⟩:=h;refine⟨a,cap,h1,h2,?_⟩;rcases h3 with⟨hc,_⟩|⟨b,o,arr,ty,fr,Fs,ha,hb,h4,h5,h6,h7,h⟩
  ·exact .inl (by omega)
  ·refine .inr ⟨b,o,ha,.inr (by simp[h6]),fun i y hy=> ?_⟩
   have hi:i<Fs.length:=by
    have:=(ZS.1 hy).1;omega
   obtain⟨cs,hl,hc,hr⟩:=h i y Fs[i] hy (ZT hi);refine⟨cs,hl,hc,Ar ?_ (fun _ _=>rfl) (Fb hr)⟩;intro c KH;rcases KH with KH|KH
   ·exact .inl KH
   ·exact .inr (by rw[h6];exact aO _ (Zt.2 ⟨_,aF hi,KH⟩))
 |_,.cons _ _,_,_,_,h=>by
  simp only[Ow]at h;simp only[Rd];obtain⟨v,l,F1,F2,h1,h2,h3,h4⟩:=h;subst h2;refine⟨v,l,h1,Ar ?_ (fun _ _=>rfl) (Fb h3),Ar ?_ (fun _ _=>rfl) (Fb h4)⟩
  ·intro c hc;exact hc.imp id (by simp_all)
  ·intro c hc;exact hc.imp id (by simp_all)
theorem B3{w:World}{S:Nat→Prop}:∀{d d'} {t:Ty} {vs x F},d≤d'→Ow w S d' t vs x F→
  ∃F1 F2,F.Perm (F1++F2)∧Ow w (fun b=>S b∨b∈F2) d t vs x F1
 |_,_,.int _,_,_,_,_,h=>by simp only[Ow]at h⊢;exact⟨[],[],by rw[h.2];simp,h.1,rfl⟩
 |_,_,.bool,_,_,_,_,h=>by simp only[Ow]at h⊢;exact⟨[],[],by rw[h.2];simp,h.1,rfl⟩
 |_,_,.str,_,_,_,_,h=>by simp only[Ow]at h⊢;exact⟨[],[],by rw[h.2];simp,h.1,rfl⟩
 |_,_,.unit,_,_,_,_,h=>by simp only[Ow]at h⊢;exact⟨[],[],by rw[h.2];simp,h.1,rfl⟩
 |0,d',.sl r,_,x,F,_,h=>by
  refine⟨[],F,by simp,?_⟩;simp only[Ow];exact⟨Fb h,trivial⟩
 |d+1,0,.sl r,_,x,F,hd,h=>by omega
 |d+1,d'+1,.sl r,_,x,F,hd,h=>by
  simp only[Ow]at h⊢;obtain⟨a,cap,h1,h2,h3⟩:=h;rcases h3 with⟨hc,hF⟩|⟨b,o,arr,ty,fr,Fs,ha,hb,h4,h5,h6,h7,h⟩
  ·exact⟨[],[],by simp[hF],a,cap,h1,h2,.inl ⟨hc,rfl⟩⟩
  ·have key:∀(n:Nat) (Fs:List ZD) (y:List r.D),Fs.length=n→y.length=n→(∀(i:Nat) (z:r.D) (G:ZD),y[i]? =some z→Fs[i]? =some G→ ∃cs,cs.length=r.n∧AL w b (o+i*r.n) cs∧Ow w S d' r cs z G)→
     ∃(Gs:List ZD) (F2:ZD),Fs.flatten.Perm (Gs.flatten++F2)∧Gs.length=n∧ ∀(i:Nat) (z:r.D) (G:ZD),y[i]? =some z→Gs[i]? =some G→ ∃cs,cs.length=r.n∧AL w b (o+i*r.n) cs∧Ow w (fun b=>S b∨b∈F2) d r cs z G:=by
    intro n
    induction n with
    |zero=>
     intro Fs y hF hy _;obtain rfl:=Zm hF;exact⟨[],[],by simp,rfl,fun i z G _ hG=>by simp at hG⟩
    |succ n ih=>
     intro Fs y hF hy hh;obtain⟨Uq,G0,rfl⟩:∃l a,Fs=l++[a]:=⟨Fs.dropLast,Fs.getLast (by intro e;simp[e]at hF),(List.dropLast_concat_getLast _).symm⟩;obtain⟨y',z0,rfl⟩:∃l a,y=l++[a]:=⟨y.dropLast,y.getLast (by intro e;simp[e]at hy),(List.dropLast_concat_getLast _).symm⟩;simp only[Zl,Zj,Zv]at hF hy;obtain⟨Gs,F2,hp,hl,hg⟩:=ih Uq y' (by omega) (by omega) (fun i z G hz hG=>hh i z G
      (by rw[ZX (ZS.1 hz).1];exact hz) (by rw[ZX (ZS.1 hG).1];exact hG))
     obtain⟨cs,Oc,hc,ho⟩:=hh n z0 G0 (by rw[Zf (by omega)];simp[show n-y'.length=0 by omega]) (by rw[Zf (by omega)];simp[show n-Uq.length=0 by omega]);obtain⟨H1,H2,hhp,hho⟩:=B3 (d:=d) (d':=d') (by omega) ho;refine⟨Gs++[H1],F2++H2,?_,by simp[hl],?_⟩
     ·simp only[aD,Z2,ar,Zu]
      refine(hp.append hhp).trans ?_
      rw[ZY,ZY];refine Zq _ ?_
      rw[←ZY,←ZY];exact Zh _ Zr
     ·intro i z G hz hG
      by_cases hi:i<n
      ·rw[ZX (by omega)]at hz hG
       obtain⟨cs,e1,e2,e3⟩:=hg i z G hz hG;exact⟨cs,e1,e2,Ak (by intro c hc;exact hc.imp id (by simp_all)) (fun _ _=>rfl) (fun _ _=>rfl) e3⟩
      ·have:i=n:=by
        have:=(ZS.1 hz).1;simp at this;omega
       subst this;rw[Zf (by omega)]at hz hG;simp[show i-y'.length=0 by omega,show i-Gs.length=0 by omega]at hz hG;subst hz hG;exact⟨cs,Oc,hc,Ak (by intro c hc;exact hc.imp id (by simp_all)) (fun _ _=>rfl) (fun _ _=>rfl) hho⟩
   obtain⟨Gs,F2,hp,hl,hg⟩:=key _ Fs x h7 rfl h;refine⟨b::Gs.flatten,F2,?_,a,cap,h1,h2,.inr ⟨b,o,arr,ty,fr,Gs,ha,hb,h4,h5,rfl,hl,hg⟩⟩;rw[h6];exact List.Perm.cons _ hp
 |d,d',.cons _ _,_,_,_,hd,h=>by
  simp only[Ow]at h⊢;obtain⟨v,l,F1,F2,h1,h2,h3,h4⟩:=h;obtain⟨A1,A2,pa,oa⟩:=B3 hd h3;obtain⟨B1,B2,pb,ob⟩:=B3 hd h4;refine⟨A1++B1,A2++B2,?_,v,l,A1,B1,h1,rfl,Ak (by intro c hc;exact hc.imp id (by simp_all)) (fun _ _=>rfl) (fun _ _=>rfl) oa,Ak (by intro c hc;exact hc.imp id (by simp_all)) (fun _ _=>rfl) (fun _ _=>rfl) ob⟩;rw[h2];refine(pa.append pb).trans ?_
  rw[ZY,ZY];refine Zq _ ?_
  rw[←ZY,←ZY];exact Zh _ Zr
def RB(w:World):(t:Ty)→List Value→t.D→Nat→Prop
 | .sl r,vs,x,c=> ∃b o len cap,vs=[.slice (some ⟨b,o,none⟩) len cap]∧0<List.length x∧
  (c=b∨ ∃(i:Nat) (y:r.D) (cs:List Value),x[i]? =some y∧cs.length=r.n∧AL w b (o+i*r.n) cs∧RB w r cs y c)
 | .cons c r,vs,x,d=> ∃v l,vs=v::l∧(RB w c [v] x.1 d∨RB w r l x.2 d)
 |_,_,_,_=>False
theorem AL.unique{w:World}{b o:Nat}{cs ds:List Value}(h:AL w b o cs)(k:AL w b o ds)(hl:cs.length=ds.length):cs=ds:=by
 apply List.ext_getElem hl;intro i h1 h2;have e1:=h i _ (ZT h1);have e2:=k i _ (ZT h2);rw[e1]at e2;exact ah e2
theorem NW{w:World}{B:Nat→Prop}{c:Nat}:∀{t:Ty} {vs x},Rd w B t vs x→RB w t vs x c→B c
 | .int _,_,_,_,h=>by simp[RB]at h
 | .bool,_,_,_,h=>by simp[RB]at h
 | .str,_,_,_,h=>by simp[RB]at h
 | .unit,_,_,_,h=>by simp[RB]at h
 | .sl r,_,x,h,k=>by
  simp only[Rd]at h;simp only[RB]at k;obtain⟨a,cap,rfl,_,h⟩:=h;obtain⟨b,o,len,cap',e,hl,k⟩:=k;simp only[Zo,Value.slice.injEq,Z_]at e;obtain⟨rfl,rfl,rfl⟩:=e;rcases h with h|⟨b',o',e,hb,h⟩
  ·omega
  simp only[ZU,Addr.mk.injEq,Z_]at e;obtain⟨rfl,rfl⟩:=e;rcases k with rfl|⟨i,y,cs,hy,Oc,Tq,k⟩
  ·exact hb
  ·obtain⟨ds,d1,d2,d3⟩:=h i y hy
   have:=Tq.unique d2 (by omega);subst this;exact NW d3 k
 | .cons _ _,_,_,h,k=>by
  simp only[Rd]at h;simp only[RB]at k;obtain⟨v,l,rfl,h1,h2⟩:=h;obtain⟨v',l',e,k⟩:=k;cases e;exact k.elim (NW h1) (NW h2)
theorem KW{w w':World}{c:Nat}:∀{t:Ty} {vs x},(∀d,RB w t vs x d→w'.heap[d]? =w.heap[d]?)→RB w t vs x c→RB w' t vs x c
 | .int _,_,_,_,h=>by simp[RB]at h
 | .bool,_,_,_,h=>by simp[RB]at h
 | .str,_,_,_,h=>by simp[RB]at h
 | .unit,_,_,_,h=>by simp[RB]at h
 | .sl r,_,x,h,k=>by
  simp only[RB]at h k⊢;obtain⟨b,o,len,cap,e,hl,k⟩:=k;refine⟨b,o,len,cap,e,hl,?_⟩;rcases k with rfl|⟨i,y,cs,hy,Oc,Tq,k⟩
  ·exact .inl rfl
  ·have hb:=h b ⟨b,o,len,cap,e,hl,.inl rfl⟩
   exact .inr ⟨i,y,cs,hy,Oc,Tq.of_block hb,KW (fun d hd=>h d ⟨b,o,len,cap,e,hl,.inr ⟨i,y,cs,hy,Oc,Tq,hd⟩⟩) k⟩
 | .cons _ _,_,_,h,k=>by
  simp only[RB]at h k⊢;obtain⟨v,l,e,k⟩:=k;refine⟨v,l,e,k.elim (fun k=> .inl (KW (fun d hd=>h d ⟨v,l,e,.inl hd⟩) k)) (fun k=> .inr (KW (fun d hd=>h d ⟨v,l,e,.inr hd⟩) k))⟩
end Go.Fw
end
section
namespace Go.Fw
def AJ{α β:Type}(R:α→β→Prop):List α→List β→Prop
 |[],[]=>True
 |a::l,b::m=>R a b∧AJ R l m
 |_,_=>False
theorem AJ.len{α β:Type}{R:α→β→Prop}:∀{l:List α} {m:List β},AJ R l m→l.length=m.length
 |[],[],_=>rfl
 |_::_,_::_,h=>by simp[AJ.len h.2]
theorem AJ.get{α β:Type}{R:α→β→Prop}:∀{l:List α} {m:List β} {i:Nat} {a:α},AJ R l m→l[i]? =some a→ ∃b,m[i]? =some b∧R a b
 |_::_,_::_,0,a,h,e=>by simp at e;subst e;exact⟨_,rfl,h.1⟩
 |_::_,_::_,i+1,a,h,e=>by
  obtain⟨b,hb,hr⟩:=AJ.get (i:=i) h.2 (by simpa using e);exact⟨b,by simpa using hb,hr⟩
 |[],[],_,_,_,e=>by simp at e
theorem AJ.imp{α β:Type}{R S:α→β→Prop}(h:∀a b,R a b→S a b):∀{l:List α} {m:List β},AJ R l m→AJ S l m
 |[],[],_=>trivial
 |_::_,_::_,k=>⟨h _ _ k.1,AJ.imp h k.2⟩
structure Env where
 BR:Nat→Nat
 BT:Nat→Value
 T:Nat→Prop
 S:Nat→Prop
def Bm(w:World):Value→List Jn→Option Value
 |h,[]=>some h
 | .slice (some a) _ _,s::p=>
  match w.cell? ⟨a.block,a.off+s.i*s.sz+s.j,none⟩with
  |some h=>Bm w h p
  |none=>none
 |_,_::_=>none
def AW:(r:Ty)→List r.D→List Jn→Prop
 |_,_,[]=>True
 |r,rows,s::p=>s.i<rows.length∧s.sz=r.n∧
  match AB r s.j (rowAt r rows s.i)with
  |some ⟨.sl q,x⟩=>AW q x p
  |_=>False
def Dm(sz off n:Nat)(a:Option Addr)(cap:Nat):Value:=
 .slice (if cap=off then a else a.map (·.add (off*sz))) n (cap-off)
def isSlice:Value→Bool
 | .slice .. =>true
 |_=>false
def G3:Value→Bool
 | .pointer (some ⟨_,_,none⟩)=>true
 |_=>false
def RA(E:Env)(w:World)(q:(r:Ty)×r.D)(p:Value):Prop:= ∃bb o cs,p= .pointer (some ⟨bb,o,none⟩)∧E.T bb∧cs.length=q.1.n∧AL w bb o cs∧Rd w E.T q.1 cs q.2
def VR(E:Env)(w:World)(vw:List Bx):AV→Value→Prop
 | .v t x,v=>t.scalar=true∧Rd w (fun _=>False) t [v] x
 | .sl s r x,v=>Rd w (if s then E.S else E.T) (.sl r) [v] x
 | .nil,v=>v= .slice none 0 0
 | .ref b p,v=>isSlice v=true∧match vw[b]? with
  |some (.sl _ r rows)=>AW r rows p∧(∃q,A8 r rows p=some q)∧Bm w (E.BT b) p=some v
  |some _=>True
  |none=>False
 | .win b p off n,v=>isSlice v=true∧match vw[b]? with
  |some (.sl _ r rows)=>AW r rows p∧ ∃q ys a len cap,A8 r rows p=some ⟨q,ys⟩∧off+n≤List.length ys∧Bm w (E.BT b) p=some (.slice a len cap)∧v=Dm q.n off n a cap
  |some _=>True
  |none=>False
 | .BS b j,v=>b<vw.length∧v= .pointer (some ⟨E.BR b,j,none⟩)
 | .Bl b p i sz j,v=>G3 v=true∧match vw[b]? with
  |some (.sl _ r rows)=>AW r rows p∧ ∃q ys bb o len cap,A8 r rows p=some ⟨q,ys⟩∧i<List.length ys∧Bm w (E.BT b) p=some (.slice (some ⟨bb,o,none⟩) len cap)∧v= .pointer (some ⟨bb,o+i*sz+j,none⟩)
  |some _=>True
  |none=>False
 | .Cn s r x j,v=> ∃bb o cs,v= .pointer (some ⟨bb,o+j,none⟩)∧(if s then E.S else E.T) bb∧cs.length=r.n∧AL w bb o cs∧Rd w (if s then E.S else E.T) r cs x
 | .fn f Bu,v=>(∀b∈Bu,b<vw.length)∧v= .func (.func f) #[] (Bu.map fun b=>Value.pointer (some ⟨E.BR b,0,none⟩)).toArray
 | .M3 f rows,v=> ∃ps:List Value,v= .func (.func f) #[] ps.toArray∧AJ (RA E w) rows ps
 | .Om,v=>v= .pointer none
 | .undef,_=>True
def Ir(E:Env)(w:World)(vw:List Bx)(l:List AV)(vs:List Value):Prop:=AJ (VR E w vw) l vs
def TR(E:Env)(w:World)(vw:List Bx):AV ⊕ List AV→Value→Prop
 | .inl x,v=>VR E w vw x v
 | .inr q,v=> ∃vs,v= .agg vs∧Ir E w vw q vs.toList
def XR(E:Env)(w:World)(vw:List Bx):XV→Value→Prop
 | .c x,v=>VR E w vw x v
 | .agg l,v=> ∃vs,v= .agg vs∧Ir E w vw l vs.toList
 | .D6 l,v=> ∃vs,v= .tuple vs∧AJ (TR E w vw) l vs.toList
def Kj(E:Env)(w:World)(vw:List Bx)(k:Nat):Bx→List Nat→Prop
 | .mem cs,F=>F=[E.BR k]∧ ∃arr ty fr,w.heap[E.BR k]? =some (.cells arr ty fr)∧Og fr (arr.size+1)∧Ir E w vw cs arr.toList
 | .sl d r rows,F=>1≤d∧Ow w E.S d (.sl r) [E.BT k] rows F
 | .dead,F=>F=[]
def UC(E:Env)(w:World):Prop:= ∀w':World,(∀c,E.T c→w'.heap[c]? =w.heap[c]?)→GI w'
theorem UC.mono{E E':Env}{w w':World}(h:UC E w)(hT:∀c,E.T c→E'.T c)(hw:∀c,E.T c→w'.heap[c]? =w.heap[c]?):UC E' w':=
 fun v hv=>h v fun c hc=>(hv c (hT c hc)).trans (hw c hc)
structure Sep (E:Env) (w:World) (F:ZD):Prop where
 nodup:F.Nodup
 free:∀c∈F,¬E.T c
 lt:∀c∈F,c<w.heap.size
 st:∀c,E.S c→E.T c
 HU:∀c,E.T c→c<w.heap.size
 NY:UC E w
def Cd(E:Env)(w:World)(vw bx:List Bx)(Fs:List ZD):Prop:=
 Fs.length=bx.length∧ ∀k B F,bx[k]? =some B→Fs[k]? =some F→Kj E w vw k B F
def AQ(E:Env)(w:World)(vw bx:List Bx)(G:ZD):Prop:=
 ∃Fs,Cd E w vw bx Fs∧Sep E w (Fs.flatten++G)
structure Le (E E':Env):Prop where
 BR:E'.BR=E.BR
 BT:E'.BT=E.BT
 T:∀c,E.T c→E'.T c
 S:∀c,E.S c→E'.S c
 Rq:∀c,E'.T c→E.T c∨E'.S c
 Pe:∀c,E'.S c→E.S c∨ ¬E.T c
theorem Le.refl(E:Env):Le E E:=⟨rfl,rfl,fun _ h=>h,fun _ h=>h,fun _ h=> .inl h,fun _ h=> .inl h⟩
theorem Le.trans{E E' Qp:Env}(h:Le E E')(k:Le E' Qp):Le E Qp:=
 ⟨k.BR.trans h.BR,k.BT.trans h.BT,fun c hc=>k.T c (h.T c hc),fun c hc=>k.S c (h.S c hc),
  fun c hc=>(k.Rq c hc).elim (fun h' =>(h.Rq c h').imp id (k.S c)) .inr,
  fun c hc=>(k.Pe c hc).elim (h.Pe c) (fun h' => .inr fun ht=>h' (h.T c ht))⟩
theorem Hr{w B}:∀{r:Ty} {cs x j t y},Rd w B r cs x→AB r j x=some ⟨t,y⟩→ ∃v,cs[j]? =some v∧Rd w B t [v] y
 | .cons c r,cs,x,0,t,y,h,e=>by
  simp only[Rd]at h;obtain⟨v,l,rfl,h1,h2⟩:=h;simp only[AB,ZU,Zc]at e;obtain⟨rfl,e⟩:=e;obtain rfl:=Zw e;exact⟨v,rfl,h1⟩
 | .cons c r,cs,x,j+1,t,y,h,e=>by
  simp only[Rd]at h;obtain⟨v,l,rfl,h1,h2⟩:=h;simp only[AB]at e;obtain⟨u,hu,hr⟩:=Hr h2 e;exact⟨u,by simpa using hu,hr⟩
 | .int k,cs,x,0,t,y,h,e=>by
  simp only[AB,ZU,Zc]at e;obtain⟨rfl,e⟩:=e;obtain rfl:=Zw e;simp only[Rd]at h;subst h;exact⟨_,rfl,by simp only[Rd]⟩
 | .bool,cs,x,0,t,y,h,e=>by
  simp only[AB,ZU,Zc]at e;obtain⟨rfl,e⟩:=e;obtain rfl:=Zw e;simp only[Rd]at h;subst h;exact⟨_,rfl,by simp only[Rd]⟩
 | .str,cs,x,0,t,y,h,e=>by
  simp only[AB,ZU,Zc]at e;obtain⟨rfl,e⟩:=e;obtain rfl:=Zw e;simp only[Rd]at h;subst h;exact⟨_,rfl,by simp only[Rd]⟩
 | .sl r,cs,x,0,t,y,h,e=>by
  simp only[AB,ZU,Zc]at e;obtain⟨rfl,e⟩:=e;obtain rfl:=Zw e;have h':=h;simp only[Rd]at h;obtain⟨a,cap,rfl,_⟩:=h;exact⟨_,rfl,h'⟩
 | .unit,_,_,_,_,_,_,e=>by simp[AB]at e
 | .int _,_,_,_+1,_,_,_,e=>by simp[AB]at e
 | .bool,_,_,_+1,_,_,_,e=>by simp[AB]at e
 | .str,_,_,_+1,_,_,_,e=>by simp[AB]at e
 | .sl _,_,_,_+1,_,_,_,e=>by simp[AB]at e
theorem DS{r:Ty}{rows:List r.D}{i:Nat}(h:i<rows.length):rows[i]? =some (rowAt r rows i):=by
 simp[rowAt,h]
theorem KU{w:World}{B:Nat→Prop}:∀{p:List Jn} {r:Ty} {h:Value} {rows:List r.D} {q:Ty} {ys:List q.D},
  Rd w B (.sl r) [h] rows→AW r rows p→A8 r rows p=some ⟨q,ys⟩→
  ∃h',(∀w':World,(∀b,B b→w'.heap[b]? =w.heap[b]?)→Bm w' h p=some h')∧Rd w B (.sl q) [h'] ys
 |[],r,h,rows,q,ys,hr,_,hg=>by
  simp only[A8,ZU,Zc]at hg;obtain⟨rfl,e⟩:=hg;obtain rfl:=Zw e;exact⟨h,fun w' _=>by cases h<;>rfl,hr⟩
 |s::p,r,h,rows,q,ys,hr,hp,hg=>by
  simp only[AW]at hp;obtain⟨hi,CO,hp⟩:=hp;simp only[A8]at hg;simp only[Rd]at hr;obtain⟨a,cap,hh,_,hr⟩:=hr;obtain rfl:=(Z8 hh).1;rcases hr with hr|⟨b,o,rfl,hb,hr⟩
  ·omega
  obtain⟨cs,hl,hc,hrow⟩:=hr s.i _ (DS hi);split at hg
  ·rename_i q' x' HY
   rw[HY]at hp;obtain⟨v,hv,hrv⟩:=Hr hrow HY;obtain⟨h',Vr,Gf⟩:=KU hrv hp hg;refine⟨h',fun w' R_=> ?_,Gf⟩;simp only[Bm];have Fo:w'.cell? ⟨b,o+s.i*s.sz+s.j,none⟩=some v:=by
    rw[CO];exact(World.cell?_of_block (a:=⟨b,_,none⟩) (R_ b hb)).trans (hc _ _ hv)
   rw[Fo];exact Vr w' R_
  ·cases hg
theorem AO{w:World}{h:Value}:Bm w h []=some h:=by cases h<;>rfl
structure D5 (E:Env) (w:World) (vw:List Bx) (E':Env) (w':World) (vw':List Bx):Prop where
 len:vw.length≤vw'.length
 BR:∀b,b<vw.length→E'.BR b=E.BR b
 T:∀b,E.T b→E'.T b
 S:∀b,E.S b→E'.S b
 st:∀b,E.S b→E.T b
 heap:∀b,E.T b→w'.heap[b]? =w.heap[b]?
 box:∀b d r rows,b<vw.length→vw'[b]? =some (.sl d r rows)→ ∃d0 DP,vw[b]? =some (.sl d0 r DP)∧
  ∀p,AW r DP p→ ∀q ys,A8 r DP p=some ⟨q,ys⟩→AW r rows p∧(∃Lf,A8 r rows p=some ⟨q,Lf⟩∧List.length Lf=List.length ys)∧
   ∀h,Bm w (E.BT b) p=some h→Bm w' (E'.BT b) p=some h
theorem DA{α:Type}{l l':List α}{b:Nat}{x:α}(h:l.length≤l'.length)(e:l[b]? =some x):∃y,l'[b]? =some y:=
 ⟨l'[b]'(Z0 (ZS.1 e).1 h),ZT _⟩
theorem A3{E E':Env}{w w':World}{vw vw':List Bx}(k:D5 E w vw E' w' vw'):∀{x:AV} {v:Value},VR E w vw x v→VR E' w' vw' x v:=by
 intro x v h;cases x with
 |v t x=>exact⟨h.1,Ar (fun _ h=>h) (fun _ h=>h.elim) h.2⟩
 |sl s r x=>
  simp only[VR]at h⊢;cases s with
  |false=>exact Ar k.T k.heap (by simpa using h)
  |true=>exact Ar k.S (fun b hb=>k.heap b (k.st b hb)) (by simpa using h)
 |nil=>exact h
 |ref b p=>
  simp only[VR]at h⊢;obtain⟨h0,h⟩:=h;refine⟨h0,?_⟩;cases e:vw[b]? with
  |none=>rw[e]at h;exact h.elim
  |some B=>
   rw[e]at h;have CK:=(ZS.1 e).1;obtain⟨B',e'⟩:=DA k.len e;rw[e'];cases B' with
   |mem cs=>trivial
   |dead=>trivial
   |sl d r rows=>
    obtain⟨d0,DP,e0,hk⟩:=k.box b d r rows CK e';rw[e]at e0;cases e0;simp only at h;obtain⟨hp,⟨⟨q,ys⟩,hg⟩,hh⟩:=h;obtain⟨k1,⟨Lf,k2,_⟩,k3⟩:=hk p hp q ys hg;exact⟨k1,⟨_,k2⟩,k3 _ hh⟩
 |win b p off n=>
  simp only[VR]at h⊢;obtain⟨h0,h⟩:=h;refine⟨h0,?_⟩;cases e:vw[b]? with
  |none=>rw[e]at h;exact h.elim
  |some B=>
   rw[e]at h;have CK:=(ZS.1 e).1;obtain⟨B',e'⟩:=DA k.len e;rw[e'];cases B' with
   |mem cs=>trivial
   |dead=>trivial
   |sl d r rows=>
    obtain⟨d0,DP,e0,hk⟩:=k.box b d r rows CK e';rw[e]at e0;cases e0;simp only at h;obtain⟨hp,q,ys,a,len,cap,hg,hl,hh,hv⟩:=h;obtain⟨k1,⟨Lf,k2,k4⟩,k3⟩:=hk p hp q ys hg;exact⟨k1,q,Lf,a,len,cap,k2,by omega,k3 _ hh,hv⟩
 |BS b j=>exact⟨Z0 h.1 k.len,by rw[h.2,k.BR b h.1]⟩
 |Bl b p i sz j=>
  simp only[VR]at h⊢;obtain⟨h0,h⟩:=h;refine⟨h0,?_⟩;cases e:vw[b]? with
  |none=>rw[e]at h;exact h.elim
  |some B=>
   rw[e]at h;have CK:=(ZS.1 e).1;obtain⟨B',e'⟩:=DA k.len e;rw[e'];cases B' with
   |mem cs=>trivial
   |dead=>trivial
   |sl d r rows=>
    obtain⟨d0,DP,e0,hk⟩:=k.box b d r rows CK e';rw[e]at e0;cases e0;simp only at h;obtain⟨hp,q,ys,bb,o,len,cap,hg,hl,hh,hv⟩:=h;obtain⟨k1,⟨Lf,k2,k4⟩,k3⟩:=hk p hp q ys hg;exact⟨k1,q,Lf,bb,o,len,cap,k2,by omega,k3 _ hh,hv⟩
 |Cn s r x j=>
  simp only[VR]at h⊢;obtain⟨bb,o,cs,hv,hb,hl,hc,hr⟩:=h;cases s with
  |false=>exact⟨bb,o,cs,hv,k.T bb (by simpa using hb),hl,hc.of_block (k.heap bb (by simpa using hb)),Ar k.T k.heap (by simpa using hr)⟩
  |true=>exact⟨bb,o,cs,hv,k.S bb (by simpa using hb),hl,hc.of_block (k.heap bb (k.st bb (by simpa using hb))),Ar k.S (fun b hb=>k.heap b (k.st b hb)) (by simpa using hr)⟩
 |fn f Bu=>
  refine⟨fun b hb=>Z0 (h.1 b hb) k.len,?_⟩;rw[h.2];congr 2;exact aY fun b hb=>by rw[k.BR b (h.1 b hb)]
 |M3 f rows=>
  obtain⟨ps,hv,h⟩:=h;exact⟨ps,hv,h.imp fun q p ⟨bb,o,cs,h1,h2,h3,h4,h5⟩=>⟨bb,o,cs,h1,k.T bb h2,h3,h4.of_block (k.heap bb h2),Ar k.T k.heap h5⟩⟩
 |Om=>exact h
 |undef=>trivial
theorem C2{E E':Env}{w w':World}{vw vw':List Bx}(k:D5 E w vw E' w' vw'):∀{x:XV} {v:Value},XR E w vw x v→XR E' w' vw' x v
 | .c _,_,h=>A3 k h
 | .agg _,_,⟨vs,hv,h⟩=>⟨vs,hv,h.imp fun _ _ h=>A3 k h⟩
 | .D6 l,_,⟨vs,hv,h⟩=>⟨vs,hv,h.imp fun
  | .inl _,_,h=>A3 k h
  | .inr _,_,⟨ws,hw,h⟩=>⟨ws,hw,h.imp fun _ _ h=>A3 k h⟩⟩
theorem D5.refl{E:Env}{w:World}{vw:List Bx}(st:∀b,E.S b→E.T b):D5 E w vw E w vw:=
 ⟨Zx _,fun _ _=>rfl,fun _ h=>h,fun _ h=>h,st,fun _ _=>rfl,fun b d r rows _ h=>⟨d,rows,h,fun p hp q ys hg=>⟨hp,⟨ys,hg,rfl⟩,fun _ h=>h⟩⟩⟩
theorem D5.trans{E E' Qp:Env}{w w' Tp:World}{vw vw' T7:List Bx}(k:D5 E w vw E' w' vw')(k':D5 E' w' vw' Qp Tp T7):D5 E w vw Qp Tp T7 where
 len:=ai k.len k'.len
 BR:=fun b hb=>(k'.BR b (Z0 hb k.len)).trans (k.BR b hb)
 T:=fun b h=>k'.T b (k.T b h)
 S:=fun b h=>k'.S b (k.S b h)
 st:=k.st
 heap:=fun b h=>(k'.heap b (k.T b h)).trans (k.heap b h)
 box:=fun b d r rows hb h=>by
  obtain⟨d1,SZ,h1,k1⟩:=k'.box b d r rows (Z0 hb k.len) h;obtain⟨d0,DP,h0,k0⟩:=k.box b d1 r SZ hb h1;refine⟨d0,DP,h0,fun p hp q ys hg=> ?_⟩;obtain⟨a1,⟨ys1,a2,a3⟩,a4⟩:=k0 p hp q ys hg;obtain⟨b1,⟨ys2,b2,b3⟩,b4⟩:=k1 p a1 q ys1 a2;exact⟨b1,⟨ys2,b2,b3.trans a3⟩,fun h hh=>b4 h (a4 h hh)⟩
theorem NV{w w':World}{S:Nat→Prop}{d:Nat}{r:Ty}{h:Value}{rows:List r.D}{F:ZD}(ho:Ow w S d (.sl r) [h] rows F)
  (hS:∀b,S b→w'.heap[b]? =w.heap[b]?) (hF:∀b∈F,w'.heap[b]? =w.heap[b]?) {p:List Jn} (hp:AW r rows p) {q:Ty} {ys:List q.D} (hg:A8 r rows p=some ⟨q,ys⟩)
  {h':Value} (hh:Bm w h p=some h'):Bm w' h p=some h':=by
 obtain⟨h1,k,_⟩:=KU (Fb ho) hp hg;have e1:=k w (fun _ _=>rfl);rw[hh]at e1;cases e1;exact k w' fun b hb=>hb.elim (hS b) (hF b)
end Go.Fw
end
section
namespace Go.Fw
theorem AJ.set{α β:Type}{R:α→β→Prop}:∀{l:List α} {m:List β} {i:Nat} {a:α} {b:β},AJ R l m→R a b→AJ R (l.set i a) (m.set i b)
 |[],[],_,_,_,_,_=>trivial
 |_::_,_::_,0,_,_,h,r=>⟨r,h.2⟩
 |_::_,_::_,i+1,_,_,h,r=>⟨h.1,AJ.set h.2 r⟩
theorem AJ.append{α β:Type}{R:α→β→Prop}:∀{l:List α} {m:List β} {l':List α} {m':List β},AJ R l m→AJ R l' m'→AJ R (l++l') (m++m')
 |[],[],_,_,_,h=>h
 |_::_,_::_,_,_,h,k=>⟨h.1,AJ.append h.2 k⟩
theorem AJ.CE{α β γ:Type}{R:α→β→Prop}{S:γ→β→Prop}(f:α→γ)(h:∀a b,R a b→S (f a) b):∀{l:List α} {m:List β},AJ R l m→AJ S (l.map f) m
 |[],[],_=>trivial
 |_::_,_::_,k=>⟨h _ _ k.1,AJ.CE f h k.2⟩
theorem AJ.drop{α β:Type}{R:α→β→Prop}:∀{l:List α} {m:List β} (n:Nat),AJ R l m→AJ R (l.drop n) (m.drop n)
 |_,_,0,h=>h
 |[],[],_+1,_=>trivial
 |_::_,_::_,n+1,h=>AJ.drop n h.2
theorem AJ.take{α β:Type}{R:α→β→Prop}:∀{l:List α} {m:List β} (n:Nat),AJ R l m→AJ R (l.take n) (m.take n)
 |[],[],0,_=>trivial
 |_::_,_::_,0,_=>trivial
 |[],[],_+1,_=>trivial
 |_::_,_::_,n+1,h=>⟨h.1,AJ.take n h.2⟩
structure Hw (E0:Env) (w0:World) (E:Env) (w:World):Prop where
 T:∀c,E0.T c→E.T c
 S:∀c,E0.S c→E.S c
 Rq:∀c,E.T c→E0.T c∨E.S c
 Pe:∀c,E.S c→E0.S c∨ ¬E0.T c
 heap:∀c,E0.T c→w.heap[c]? =w0.heap[c]?
 os:w.os=w0.os
 tape:w.tape=w0.tape
 output:w.output=w0.output
 size:w0.heap.size≤w.heap.size
theorem Hw.refl(E:Env)(w:World):Hw E w E w:=⟨fun _ h=>h,fun _ h=>h,fun _ h=> .inl h,fun _ h=> .inl h,fun _ _=>rfl,rfl,rfl,rfl,Zx _⟩
theorem Hw.trans{E E' Qp:Env}{w w' Tp:World}(h:Hw E w E' w')(k:Hw E' w' Qp Tp):Hw E w Qp Tp:=
 ⟨fun c hc=>k.T c (h.T c hc),fun c hc=>k.S c (h.S c hc),fun c hc=>(k.Rq c hc).elim (fun h' =>(h.Rq c h').imp id (k.S c)) .inr,
  fun c hc=>(k.Pe c hc).elim (h.Pe c) (fun h' => .inr fun ht=>h' (h.T c ht)),fun c hc=>(k.heap c (h.T c hc)).trans (h.heap c hc),
  k.os.trans h.os,k.tape.trans h.tape,k.output.trans h.output,ai h.size k.size⟩
theorem Le.base{E E':Env}(h:Le E E')(w:World):Hw E w E' w:=⟨h.T,h.S,h.Rq,h.Pe,fun _ _=>rfl,rfl,rfl,rfl,Zx _⟩
def Ob(E:Env)(w:World)(k:Nat):Bx→Nat→Prop
 | .mem _,c=>c=E.BR k
 | .sl _ r rows,c=>RB w (.sl r) [E.BT k] rows c
 | .dead,_=>False
def EZ:Bx→Bx→Prop
 | .mem _,.mem _=>True
 | .sl _ r x,.sl _ q y=>(⟨r,x⟩:(r:Ty)×List r.D)=⟨q,y⟩
 |_,_=>False
structure DZ (t:ZD) (E0:Env) (VH:List Bx) (w0:World) (E:Env) (bx:List Bx) (w:World):Prop where
 base:Hw E0 w0 E w
 len:VH.length≤bx.length
 ids:∀b,b<VH.length→E.BR b=E0.BR b∧E.BT b=E0.BT b
 dead:∀b:Nat,VH[b]? =some Bx.dead→bx[b]? =some Bx.dead
 frame:∀(n:Nat) B B',n∉t→VH[n]? =some B→bx[n]? =some B'→B'≠ .dead→EZ B B'∧ ∀c,Ob E0 w0 n B c→w.heap[c]? =w0.heap[c]?
theorem DZ.any{E E':Env}{bx DN:List Bx}{w w':World}(h:DZ [] E bx w E' DN w'){t:ZD}:DZ t E bx w E' DN w':=
 ⟨h.base,h.len,h.ids,h.dead,fun n B B' _=>h.frame n B B' (by simp)⟩
theorem EZ.refl{B:Bx}(h:B≠ .dead):EZ B B:=by cases B<;>simp_all[EZ]
theorem DZ.refl(t:ZD)(E:Env)(bx:List Bx)(w:World):DZ t E bx w E bx w:=⟨Hw.refl E w,Zx _,fun _ _=>⟨rfl,rfl⟩,fun _ h=>h,fun n B B' _ h h' hd=>by
 rw[h]at h';cases h';exact⟨EZ.refl hd,fun _ _=>rfl⟩⟩
theorem Ho{E:Env}{w:World}{vw:List Bx}{k:Nat}{B:Bx}{F:ZD}{c:Nat}(h:Kj E w vw k B F)(hc:Ob E w k B c):E.S c∨c∈F:=by
 cases B with
 |mem cs=>obtain⟨rfl,_⟩:=h;right;simp[Ob]at hc;simp[hc]
 |sl d r rows=>exact NW (Fb h.2) hc
 |dead=>exact hc.elim
structure Rel (E:Env) (σ:St) (a:Act) (w:World):Prop where
 Cg:a.defers=[]
 tm:AJ (XR E w σ.bx) σ.tm a.tmps.toList
 bx:AQ E w σ.bx σ.bx []
theorem Rel.put{E:Env}{σ:St}{a:Act}{w:World}(h:Rel E σ a w)(dst:Option Tmp){x:XV}{v:Value}(hx:XR E w σ.bx x v):Rel E (σ.put dst x) (a.put dst v) w:=by
 cases dst with
 |none=>exact h
 |some d=>exact⟨h.Cg,by simpa[St.put,Act.put]using AJ.set h.tm hx,h.bx⟩
theorem AJ.TC{E:Env}{w:World}{vw:List Bx}{l:List XV}{m:Array Value}(h:AJ (XR E w vw) l m.toList)(t:Nat):XR E w vw (l.getD t (.c .undef)) (m.getD t undef):=by
 by_cases ht:t<l.length
 ·have e:l[t]? =some l[t]:=ZT ht
  obtain⟨b,hb,hr⟩:=h.get e;have:m[t]? =some b:=by simpa using hb
  simp only[aS,e,Option.getD_some,aQ,this];exact hr
 ·have e:l[t]? =none:=by simp;omega
  simp only[aS,e,Option.getD_none]
  trivial
theorem Mh{E:Env}{w:World}{vw:List Bx}(v:Value):VR E w vw (Lm v) v:=by
 unfold Lm;split<;>first
  |trivial
  |exact⟨rfl,by simp[Rd]⟩
  |rfl
theorem Jq{E:Env}{w:World}{vw:List Bx}:∀(l:List Value),Ir E w vw (l.map Lm) l
 |[]=>trivial
 |a::l=>⟨Mh a,Jq l⟩
theorem PF{E:Env}{w:World}{vw:List Bx}(v:Value):XR E w vw (ofValue v) v:=by
 unfold ofValue;split
 ·rename_i cs
  exact⟨cs,rfl,Jq cs.toList⟩
 ·exact Mh v
theorem Rel.ev{E:Env}{σ:St}{a:Act}{w:World}(h:Rel E σ a w)(x:Operand):XR E w σ.bx (σ.ev x) (a.eval x):=by
 cases x with
 |tmp t=>exact AJ.TC h.tm t
 |const v=>exact PF v
 |global g=>trivial
 |func f=>exact⟨by simp,rfl⟩
theorem EM{b:Nat}:∀{Fs:List ZD} {F:ZD},Fs[b]? =some F→Fs.flatten.Perm (F++(Fs.set b []).flatten):=by
 induction b with
 |zero=>
  intro Fs F h;cases Fs with
  |nil=>simp at h
  |cons A l=>simp at h;subst h;simp
 |succ b ih=>
  intro Fs F h;cases Fs with
  |nil=>simp at h
  |cons A l=>
   have:=ih (Fs:=l) (F:=F) (by simpa using h);simp only[List.set_cons_succ,Z2];refine(Zq A this).trans ?_
   rw[←ZY,←ZY];exact Zh _ Zr
theorem Sep.perm{E:Env}{w:World}{F F':ZD}(h:Sep E w F)(p:F.Perm F'):Sep E w F':=
 ⟨p.nodup_iff.1 h.nodup,fun c hc=>h.free c (p.mem_iff.2 hc),fun c hc=>h.lt c (p.mem_iff.2 hc),h.st,h.HU,h.NY⟩
theorem Sep.sub{E:Env}{w:World}{F F':ZD}(h:Sep E w (F++F')):Sep E w F:=
 ⟨(Za.1 h.nodup).1,fun c hc=>h.free c (by simp[hc]),fun c hc=>h.lt c (by simp[hc]),h.st,h.HU,h.NY⟩
theorem AQ.perm{E:Env}{w:World}{vw bx:List Bx}{G G':ZD}(h:AQ E w vw bx G)(p:G.Perm G'):AQ E w vw bx G':=
 let⟨Fs,h1,h2⟩:=h
 ⟨Fs,h1,h2.perm (Zq _ p)⟩
theorem AQ.drop{E:Env}{w:World}{vw bx:List Bx}{G G':ZD}(h:AQ E w vw bx (G++G')):AQ E w vw bx G:=
 let⟨Fs,h1,h2⟩:=h
 ⟨Fs,h1,by rw[←ZY]at h2;exact h2.sub⟩
theorem AQ.st{E:Env}{w:World}{vw bx:List Bx}{G:ZD}(h:AQ E w vw bx G):∀c,E.S c→E.T c:=let⟨_,_,h⟩:=h;h.st
theorem AQ.HU{E:Env}{w:World}{vw bx:List Bx}{G:ZD}(h:AQ E w vw bx G):∀c,E.T c→c<w.heap.size:=let⟨_,_,h⟩:=h;h.HU
theorem AQ.NY{E:Env}{w:World}{vw bx:List Bx}{G:ZD}(h:AQ E w vw bx G):UC E w:=let⟨_,_,h⟩:=h;h.NY
theorem AQ.Rg{E:Env}{w:World}{vw bx:List Bx}{G:ZD}(h:AQ E w vw bx G):∀c∈G,¬E.T c:=let⟨_,_,h⟩:=h;fun c hc=>h.free c (by simp[hc])
theorem AQ.take{E:Env}{w:World}{vw bx:List Bx}{G:ZD}(h:AQ E w vw bx G){b:Nat}{B:Bx}(hb:bx[b]? =some B):
  ∃F,Kj E w vw b B F∧AQ E w vw (bx.set b .dead) (F++G):=by
 obtain⟨Fs,⟨hl,h1⟩,h2⟩:=h;have CK:=(ZS.1 hb).1;have hF:Fs[b]? =some (Fs[b]'(by omega)):=ZT _;refine⟨_,h1 b B _ hb hF,Fs.set b [],⟨by simpa using hl,fun k C F hk PC=> ?_⟩,h2.perm ?_⟩
 ·by_cases e:k=b
  ·subst e
   rw[Zd (by omega)]at hk PC;cases hk;cases PC;rfl
  ·rw[ZZ (by omega)]at hk PC
   exact h1 k C F hk PC
 ·have:=Zh G (EM hF)
  refine this.trans ?_
  rw[ZY,←ZY (List.flatten _)];refine(Zr (l₁:=Fs[b]'(by omega))).trans ?_
  rw[ZY,ZY];exact Zq _ Zr
theorem AQ.put{E:Env}{w:World}{vw bx:List Bx}{F G:ZD}(h:AQ E w vw bx (F++G)){b:Nat}{B:Bx}(hb:bx[b]? =some .dead)(hB:Kj E w vw b B F):
  AQ E w vw (bx.set b B) G:=by
 obtain⟨Fs,⟨hl,h1⟩,h2⟩:=h;have CK:=(ZS.1 hb).1;have hF:Fs[b]? =some (Fs[b]'(by omega)):=ZT _;have e0:Fs[b]'(by omega)=[]:=h1 b _ _ hb hF;refine⟨Fs.set b F,⟨by simpa using hl,fun k C F' hk PC=> ?_⟩,h2.perm ?_⟩
 ·by_cases e:k=b
  ·subst e
   rw[Zd (by omega)]at hk PC;cases hk;cases PC;exact hB
  ·rw[ZZ (by omega)]at hk PC
   exact h1 k C F' hk PC
 ·have p:(Fs.set b F).flatten.Perm (F++Fs.flatten):=by
   have p1:=EM (Fs:=Fs.set b F) (b:=b) (F:=F) (Zd (by omega));rw[bD]at p1;have p2:=EM hF;rw[e0,aj]at p2;exact p1.trans (Zq _ p2.symm)
  refine List.Perm.symm ?_
  refine(Zh G p).trans ?_
  rw[←ZY];exact Zh _ Zr
theorem AQ.push{E:Env}{w:World}{vw bx:List Bx}{F G:ZD}(h:AQ E w vw bx (F++G)){B:Bx}(hB:Kj E w vw bx.length B F):
  AQ E w vw (bx++[B]) G:=by
 obtain⟨Fs,⟨hl,h1⟩,h2⟩:=h;refine⟨Fs++[F],⟨by simp[hl],fun k C F' hk PC=> ?_⟩,h2.perm (by simp)⟩;by_cases e:k<bx.length
 ·rw[ZX (by omega)]at hk PC
  exact h1 k C F' hk PC
 ·have WR:=(ZS.1 hk).1
  simp at WR;obtain rfl:k=bx.length:=by omega
  rw[Zf (by omega)]at hk PC;simp[hl]at hk PC;subst hk PC;exact hB
theorem AQ.turn{E E':Env}{w w':World}{vw vw' bx:List Bx}{G:ZD}(h:AQ E w vw bx G)(k:∀x v,VR E w vw x v→VR E' w' vw' x v)
  (hS:∀c,E.S c→E'.S c) (Ms:∀b,b<bx.length→E'.BR b=E.BR b) (HX:∀b,b<bx.length→E'.BT b=E.BT b)
  (hw:∀c,(E.S c∨(¬E.T c∧c∉G))→c<w.heap.size→w'.heap[c]? =w.heap[c]?)
  (RE:∀F,Sep E w (F++G)→Sep E' w' (F++G)):AQ E' w' vw' bx G:=by
 obtain⟨Fs,⟨hl,h1⟩,h2⟩:=h;refine⟨Fs,⟨hl,fun n B F hn hF=> ?_⟩,RE _ h2⟩;have CK:=(ZS.1 hn).1;have h3:=h1 n B F hn hF;have Ov:∀c∈F,c∈Fs.flatten:=fun c hc=>Zt.2 ⟨F,Zb hF,hc⟩
 have SW:∀c∈F,w'.heap[c]? =w.heap[c]?:=fun c hc=>hw c (.inr ⟨h2.free c (by simp[Ov c hc]),fun hg=>by
  have:=(Za.1 h2.nodup).2.2 c (Ov c hc) c hg;exact this rfl⟩) (h2.lt c (by simp[Ov c hc]))
 have Lr:∀c,E.S c→w'.heap[c]? =w.heap[c]?:=fun c hc=>hw c (.inl hc) (h2.HU c (h2.st c hc))
 cases B with
 |mem cs=>
  obtain⟨rfl,arr,ty,fr,ha,hu,hv⟩:=h3;refine⟨by rw[Ms n CK],arr,ty,fr,?_,hu,hv.imp k⟩;rw[Ms n CK,SW _ (by simp),ha]
 |sl d r rows=>
  obtain⟨hd,ho⟩:=h3;refine⟨hd,?_⟩;rw[HX n CK];exact Ak hS Lr SW ho
 |dead=>exact h3
end Go.Fw
end
section
namespace Go.Fw
theorem BN{β:Ty→Type}{a b:Ty}{x:β a}{y:β b}(h:DO a b x=some y):∃e:a=b,e▸x=y:=by
 unfold DO at h;split at h
 ·rename_i e
  exact⟨e,by simpa using h⟩
 ·cases h
def Aq(bk vw:List Bx):Prop:= ∀(b:Nat) (B:Bx),bk[b]? =some B→B= .dead∨vw[b]? =some B
theorem Aq.refl(bx:List Bx):Aq bx bx:=fun _ _ h=> .inr h
theorem Addr.add_eq(b o n:Nat):(⟨b,o,none⟩:Addr).add n=⟨b,o+n,none⟩:=by unfold Addr.add;split<;>simp_all
theorem Oj{w:World}{B:Nat→Prop}{r:Ty}{a:Option Addr}{len cap:Nat}{ys:List r.D}(h:Rd w B (.sl r) [.slice a len cap] ys){off n:Nat}(hn:off+n≤ys.length):
  Rd w B (.sl r) [Dm r.n off n a cap] ((ys.drop off).take n):=by
 simp only[Rd]at h⊢;obtain⟨a',cap',e,hc,h⟩:=h;simp only[Zo,Value.slice.injEq,Z_]at e;obtain⟨rfl,rfl,rfl⟩:=e;have hl:((ys.drop off).take n).length=n:=by simp;omega
 refine⟨_,_,by unfold Dm;rw[hl],by rw[hl];omega,?_⟩;rw[hl];by_cases h0:n=0
 ·exact .inl h0
 ·rcases h with h|⟨b,o,rfl,hb,h⟩
  ·omega
  ·refine .inr ⟨b,o+off*r.n,?_,hb,fun i y hy=> ?_⟩
   ·rw[Zp (by omega)]
    simp[Addr.add_eq]
   ·have hi:=(ZS.1 hy).1
    rw[hl]at hi;rw[List.getElem?_take_of_lt hi,af]at hy;obtain⟨cs,e1,e2,e3⟩:=h (off+i) y hy;refine⟨cs,e1,?_,e3⟩;rw[aG,←aZ]at e2;exact e2
def Ko(E:Env)(Fs:List ZD)(c:Nat):Prop:=E.T c∨c∈Fs.flatten
section
variable{E:Env} {w:World} {vw bk:List Bx} {Fs:List ZD}
theorem Cd.get(h:Cd E w vw bk Fs){b:Nat}{B:Bx}(e:bk[b]? =some B):∃F,Kj E w vw b B F∧ ∀c∈F,c∈Fs.flatten:=by
 have CK:=(ZS.1 e).1;have hF:Fs[b]? =some (Fs[b]'(by rw[h.1];exact CK)):=ZT _;exact⟨_,h.2 b B _ e hF,fun c hc=>Zt.2 ⟨_,Zb hF,hc⟩⟩
theorem HZ(hs:Aq bk vw)(h:Cd E w vw bk Fs)(st:∀c,E.S c→E.T c){b d:Nat}{r:Ty}{rows:List r.D}(e:bk[b]? =some (.sl d r rows))
  {p:List Jn} (hp:AW r rows p) {q:Ty} {ys:List q.D} (hg:A8 r rows p=some ⟨q,ys⟩) {v:Value} (hh:Bm w (E.BT b) p=some v):
  Rd w (Ko E Fs) (.sl q) [v] ys:=by
 obtain⟨F,⟨_,ho⟩,hF⟩:=h.get e;obtain⟨h',k,hr⟩:=KU (Fb ho) hp hg;have:=k w (fun _ _=>rfl);rw[hh]at this;cases this;exact Ar (fun c hc=>hc.elim (fun hc=> .inl (st c hc)) (fun hc=> .inr (hF c hc))) (fun _ _=>rfl) hr
theorem Fe(hs:Aq bk vw){b d:Nat}{r:Ty}{rows:List r.D}(e:bk[b]? =some (.sl d r rows)):vw[b]? =some (.sl d r rows):=by
 rcases hs b _ e with h|h
 ·cases h
 ·exact h
theorem GL(hs:Aq bk vw)(h:Cd E w vw bk Fs)(st:∀c,E.S c→E.T c){x:AV}{v:Value}(hv:VR E w vw x v){q:Ty}{ys:List q.D}(e:Ce bk x=some ⟨q,ys⟩):
  Rd w (Ko E Fs) (.sl q) [v] ys:=by
 cases x with
 |sl s r x=>
  simp only[Ce,ZU,Zc]at e;obtain⟨rfl,e⟩:=e;obtain rfl:=Zw e;simp only[VR]at hv;refine Ar (fun c hc=> ?_) (fun _ _=>rfl) hv;cases s
  ·exact .inl (by simpa using hc)
  ·exact .inl (st c (by simpa using hc))
 |ref b p=>
  simp only[Ce]at e;split at e
  ·rename_i d r rows hb
   simp only[VR,Fe hs hb]at hv
   replace hv:=hv.2
   exact HZ hs h st hb hv.1 e hv.2.2
  ·cases e
 |win b p off n=>
  simp only[Ce]at e;split at e
  ·rename_i d r rows hb
   simp only[VR,Fe hs hb]at hv;obtain⟨_,hp,q',Lf,a,len,cap,hg,hl,hh,rfl⟩:=hv;rw[hg]at e;simp only[aR,ZU,Zc]at e;obtain⟨rfl,e⟩:=e;obtain rfl:=Zw e;exact Oj (HZ hs h st hb hp hg hh) hl
  ·cases e
 |_=>simp[Ce]at e
theorem ER(hs:Aq bk vw)(h:Cd E w vw bk Fs)(st:∀c,E.S c→E.T c){t:Ty}{x:AV}{v:Value}(hv:VR E w vw x v){y:t.D}(e:CV bk t x=some y):
  Rd w (Ko E Fs) t [v] y:=by
 have sl:∀(r:Ty) (x:AV) (v:Value) (y:List r.D),VR E w vw x v→((Ce bk x).bind fun q=>DO (β:=fun r=>List r.D) q.1 r q.2)=some y→Rd w (Ko E Fs) (.sl r) [v] y:=by
  intro r x v y hv e;rw[ZW]at e;obtain⟨⟨q,ys⟩,e1,e2⟩:=e;obtain⟨e3,e4⟩:=BN e2;dsimp only at e3;subst e3;subst e4;exact GL hs h st hv e1
 cases x with
 |v u z=>
  simp only[CV]at e;obtain⟨e1,e2⟩:=BN e;subst e1;subst e2;exact Ar (fun _ hc=>hc.elim) (fun _ hc=>hc.elim) hv.2
 |nil=>
  cases t with
  |sl r=>
   simp only[CV,ZU]at e;subst e;simp only[VR]at hv;subst hv;simp only[Rd];exact⟨none,0,rfl,by simp,.inl rfl⟩
  |_=>simp[CV]at e
 |_=>
  cases t with
  |sl r=>exact sl r _ _ y hv (by simpa only[CV]using e)
  |_=>simp[CV]at e
theorem IB(hs:Aq bk vw)(h:Cd E w vw bk Fs)(st:∀c,E.S c→E.T c):∀{r:Ty} {l:List AV} {vs:List Value} {x:r.D},Ir E w vw l vs→BO bk r l=some x→
  Rd w (Ko E Fs) r vs x
 | .unit,[],[],x,_,_=>by simp only[Rd]
 | .cons c r,a::l,v::vs,x,hv,e=>by
  simp only[BO,ZW,ZV]at e;obtain⟨y,e1,z,e2,rfl⟩:=e;simp only[Rd];exact⟨v,vs,rfl,ER hs h st hv.1 e1,IB hs h st hv.2 e2⟩
 | .unit,_::_,_,_,_,e=>by simp[BO]at e
 | .unit,[],_::_,_,hv,_=>hv.elim
 | .cons _ _,[],_,_,_,e=>by simp[BO]at e
 | .cons _ _,_::_,[],_,hv,_=>hv.elim
 | .int _,_,_,_,_,e=>by simp[BO]at e
 | .bool,_,_,_,_,e=>by simp[BO]at e
 | .str,_,_,_,_,e=>by simp[BO]at e
 | .sl _,_,_,_,_,e=>by simp[BO]at e
theorem Ia{E1:Env}{Od:List Bx}(hs:Aq bk vw)(h:Cd E w vw bk Fs)(st:∀c,E.S c→E.T c)(hT:∀c,Ko E Fs c→E1.T c):
  ∀{r:Ty} {l:List AV} {vs:List Value} {x:r.D},Ir E w vw l vs→BO bk r l=some x→Ir E1 w Od (K7 r x) vs
 | .unit,[],[],x,_,_=>trivial
 | .cons c r,a::l,v::vs,x,hv,e=>by
  simp only[BO,ZW,ZV]at e;obtain⟨y,e1,z,e2,rfl⟩:=e;have Gf:=ER hs h st hv.1 e1;have tl:Ir E1 w Od _ _:=Ia hs h st hT hv.2 e2;cases c with
  |sl q=>
   refine⟨?_,tl⟩;simp only[VR];exact Ar hT (fun _ _=>rfl) (by simpa using Gf)
  |int k=>exact⟨⟨rfl,by simpa only[Rd]using Gf⟩,tl⟩
  |bool=>exact⟨⟨rfl,by simpa only[Rd]using Gf⟩,tl⟩
  |str=>exact⟨⟨rfl,by simpa only[Rd]using Gf⟩,tl⟩
  |unit=>
   exfalso
   simp only[Rd]at Gf;cases Gf
  |cons c' r' =>
   exfalso
   cases a with
   |v u z=>
    simp only[CV]at e1;obtain⟨e3,_⟩:=BN e1;subst e3;exact absurd hv.1.1 (by simp[Ty.scalar])
   |_=>simp[CV]at e1
 | .unit,_::_,_,_,_,e=>by simp[BO]at e
 | .unit,[],_::_,_,hv,_=>hv.elim
 | .cons _ _,[],_,_,_,e=>by simp[BO]at e
 | .cons _ _,_::_,[],_,hv,_=>hv.elim
 | .int _,_,_,_,_,e=>by simp[BO]at e
 | .bool,_,_,_,_,e=>by simp[BO]at e
 | .str,_,_,_,_,e=>by simp[BO]at e
 | .sl _,_,_,_,_,e=>by simp[BO]at e
end
end Go.Fw
end
section
namespace Go.Fw
def Ext(m m':DB):Prop:=m'.length=m.length∧ ∀(i b:Nat),m[i]? =some (some b)→m'[i]? =some (some b)
theorem Ext.refl(m:DB):Ext m m:=⟨rfl,fun _ _ h=>h⟩
theorem Ext.trans{m m' XL:DB}(h:Ext m m')(k:Ext m' XL):Ext m XL:=⟨k.1.trans h.1,fun i b e=>k.2 i b (h.2 i b e)⟩
def K3(m:DB):Prop:= ∀(i j b:Nat),m[i]? =some (some b)→m[j]? =some (some b)→i=j
theorem Hg{m m':DB}{i b:Nat}(e:m.put i b=some m'):Ext m m'∧m'[i]? =some (some b)∧(K3 m→K3 m'):=by
 unfold DB.put at e;split at e
 ·rename_i h
  split at e
  ·cases e
  ·rename_i hc
   cases e;have CK:=(ZS.1 h).1;have Rs:∀(k:Nat),m[k]?≠some (some b):=fun k hk=>hc (by
    rw[ak];exact Zb hk)
   refine⟨⟨by simp,fun k c hk=> ?_⟩,by simp[CK],fun hi j k c hj hk=> ?_⟩
   ·by_cases e:k=i
    ·subst e;rw[h]at hk;cases hk
    ·rw[ZZ (by omega)];exact hk
   ·by_cases e1:j=i<;>by_cases e2:k=i
    ·omega
    ·subst e1
     rw[Zd CK]at hj;rw[ZZ (by omega)]at hk;cases hj;exact absurd hk (Rs k)
    ·subst e2
     rw[Zd CK]at hk;rw[ZZ (by omega)]at hj;cases hk;exact absurd hj (Rs j)
    ·rw[ZZ (by omega)]at hj hk
     exact hi j k c hj hk
 ·rename_i b' h
  split at e
  ·rename_i hb
   cases e;subst hb;exact⟨Ext.refl _,h,fun h=>h⟩
  ·cases e
 ·cases e
def Ds(m:DB):List Nat→List Nat→Prop
 |[],[]=>True
 |i::is,b::bs=>m[i]? =some (some b)∧Ds m is bs
 |_,_=>False
theorem Ds.ext{m m':DB}(h:Ext m m'):∀{is bs},Ds m is bs→Ds m' is bs
 |[],[],_=>trivial
 |_::_,_::_,k=>⟨h.2 _ _ k.1,Ds.ext h k.2⟩
theorem I9:∀{is bs:ZD} {m m':DB},Gl m is bs=some m'→Ext m m'∧Ds m' is bs∧(K3 m→K3 m')
 |[],[],m,m',e=>by simp only[Gl,ZU]at e;subst e;exact⟨Ext.refl _,trivial,fun h=>h⟩
 |i::is,b::bs,m,m',e=>by
  simp only[Gl,ZW]at e;obtain⟨m1,e1,e2⟩:=e;obtain⟨a1,a2,a3⟩:=Hg e1;obtain⟨b1,b2,b3⟩:=I9 e2;exact⟨a1.trans b1,⟨b1.2 _ _ a2,b2⟩,fun h=>b3 (a3 h)⟩
 |[],_::_,_,_,e=>by simp[Gl]at e
 |_::_,[],_,_,e=>by simp[Gl]at e
def Dz(N:Nat)(m:DB):AP→AV→Prop
 | .ref i,x=> ∃b,(x= .ref b []∨(x= .nil∧b=N+i))∧m[i]? =some (some b)
 | .ptr i j,x=> ∃b,x= .BS b j∧m[i]? =some (some b)
 | .fn f Bu,x=> ∃bs,x= .fn f bs∧Ds m Bu bs
 | .nil,x=>x= .nil
 | .JJ i sz,x=> ∃b k j,x= .ref b [⟨k,sz,j⟩]∧m[i]? =some (some b)
 |_,_=>True
theorem Dz.ext{N:Nat}{m m':DB}(h:Ext m m'){p:AP}{x:AV}(k:Dz N m p x):Dz N m' p x:=by
 cases p with
 |ref i=>obtain⟨b,hx,k⟩:=k;exact⟨b,hx,h.2 _ _ k⟩
 |ptr i j=>obtain⟨b,rfl,k⟩:=k;exact⟨b,rfl,h.2 _ _ k⟩
 |fn f Bu=>obtain⟨bs,rfl,k⟩:=k;exact⟨bs,rfl,k.ext h⟩
 |nil=>exact k
 |JJ i sz=>obtain⟨b,q,j,rfl,k⟩:=k;exact⟨b,q,j,rfl,h.2 _ _ k⟩
 |_=>trivial
theorem HJ{N:Nat}{m m':DB}{p:AP}{x:AV}(e:p.Ck N m x=some m'):Ext m m'∧Dz N m' p x∧(K3 m→K3 m'):=by
 cases p with
 |ref i=>
  cases x with
  |ref b q=>
   cases q with
   |nil=>
    obtain⟨a,b,c⟩:=Hg (by simpa only[AP.Ck]using e);exact⟨a,⟨_,.inl rfl,b⟩,c⟩
   |cons _ _=>simp[AP.Ck]at e
  |nil=>
   obtain⟨a,b,c⟩:=Hg (by simpa only[AP.Ck]using e);exact⟨a,⟨_,.inr ⟨rfl,rfl⟩,b⟩,c⟩
  |_=>simp[AP.Ck]at e
 |ptr i j=>
  cases x with
  |BS b j' =>
   simp only[AP.Ck]at e;split at e
   ·rename_i hj
    subst hj;obtain⟨a,b,c⟩:=Hg e;exact⟨a,⟨_,rfl,b⟩,c⟩
   ·cases e
  |_=>simp[AP.Ck]at e
 |fn f Bu=>
  cases x with
  |fn g bs=>
   simp only[AP.Ck]at e;split at e
   ·rename_i hf
    subst hf;obtain⟨a,b,c⟩:=I9 e;exact⟨a,⟨_,rfl,b⟩,c⟩
   ·cases e
  |_=>simp[AP.Ck]at e
 |nil=>
  cases x with
  |nil=>simp only[AP.Ck,ZU]at e;subst e;exact⟨Ext.refl _,rfl,fun h=>h⟩
  |_=>simp[AP.Ck]at e
 |JJ i sz=>
  cases x with
  |ref b q=>
   cases q with
   |nil=>simp[AP.Ck]at e
   |cons s q=>
    cases q with
    |nil=>
     simp only[AP.Ck]at e;split at e
     ·rename_i hs
      obtain⟨a,b,c⟩:=Hg e;obtain⟨k,z,y⟩:=s;dsimp only at hs;subst hs;exact⟨a,⟨_,k,y,rfl,b⟩,c⟩
     ·cases e
    |cons _ _=>simp[AP.Ck]at e
  |_=>simp[AP.Ck]at e
 |_=>
  have:m=m':=by cases x<;>simpa[AP.Ck]using e
  subst this;exact⟨Ext.refl _,trivial,fun h=>h⟩
theorem Ek{N:Nat}:∀{l:List AP} {xs:List AV} {m m':DB},FW.Ck N m l xs=some m'→Ext m m'∧AJ (Dz N m') l xs∧(K3 m→K3 m')
 |[],[],m,m',e=>by simp only[FW.Ck,ZU]at e;subst e;exact⟨Ext.refl _,trivial,fun h=>h⟩
 |p::l,x::xs,m,m',e=>by
  simp only[FW.Ck,ZW]at e;obtain⟨m1,e1,e2⟩:=e;obtain⟨a1,a2,a3⟩:=HJ e1;obtain⟨b1,b2,b3⟩:=Ek e2;exact⟨a1.trans b1,⟨a2.ext b1,b2⟩,fun h=>b3 (a3 h)⟩
 |[],_::_,_,_,e=>by simp[FW.Ck]at e
 |_::_,[],_,_,e=>by simp[FW.Ck]at e
def IW(N:Nat)(m:DB):AP ⊕ List AP→AV ⊕ List AV→Prop
 | .inl p,.inl x=>Dz N m p x
 | .inr p,.inr x=>AJ (Dz N m) p x
 |_,_=>False
theorem IW.ext{N:Nat}{m m':DB}(h:Ext m m'):∀{p:AP ⊕ List AP} {x:AV ⊕ List AV},IW N m p x→IW N m' p x
 | .inl _,.inl _,k=>Dz.ext h k
 | .inr _,.inr _,k=>AJ.imp (fun _ _ k=>Dz.ext h k) k
theorem Gu{N:Nat}:∀{l:List (AP ⊕ List AP)} {xs:List (AV ⊕ List AV)} {m m':DB},Fc.Ck N m l xs=some m'→Ext m m'∧AJ (IW N m') l xs∧(K3 m→K3 m')
 |[],[],m,m',e=>by simp only[Fc.Ck,ZU]at e;subst e;exact⟨Ext.refl _,trivial,fun h=>h⟩
 | .inl p::l,.inl x::xs,m,m',e=>by
  simp only[Fc.Ck,ZW]at e;obtain⟨m1,e1,e2⟩:=e;obtain⟨a1,a2,a3⟩:=HJ e1;obtain⟨b1,b2,b3⟩:=Gu e2;exact⟨a1.trans b1,⟨Dz.ext b1 a2,b2⟩,fun h=>b3 (a3 h)⟩
 | .inr p::l,.inr x::xs,m,m',e=>by
  simp only[Fc.Ck,ZW]at e;obtain⟨m1,e1,e2⟩:=e;obtain⟨a1,a2,a3⟩:=Ek e1;obtain⟨b1,b2,b3⟩:=Gu e2;exact⟨a1.trans b1,⟨AJ.imp (fun _ _ k=>Dz.ext b1 k) a2,b2⟩,fun h=>b3 (a3 h)⟩
 |[],_::_,_,_,e=>by simp[Fc.Ck]at e
 | .inl _::_,[],_,_,e=>by simp[Fc.Ck]at e
 | .inr _::_,[],_,_,e=>by simp[Fc.Ck]at e
 | .inl _::_,.inr _::_,_,_,e=>by simp[Fc.Ck]at e
 | .inr _::_,.inl _::_,_,_,e=>by simp[Fc.Ck]at e
def Gq(N:Nat)(m:DB):XP→XV→Prop
 | .c p,.c x=>Dz N m p x
 | .agg l,.agg xs=>AJ (Dz N m) l xs
 | .row _,.agg _=>True
 | .D6 l,.D6 xs=>AJ (IW N m) l xs
 |_,_=>False
theorem Gq.ext{N:Nat}{m m':DB}(h:Ext m m'):∀{p:XP} {x:XV},Gq N m p x→Gq N m' p x
 | .c _,.c _,k=>Dz.ext h k
 | .agg _,.agg _,k=>AJ.imp (fun _ _ k=>Dz.ext h k) k
 | .row _,.agg _,_=>trivial
 | .D6 _,.D6 _,k=>AJ.imp (fun _ _ k=>IW.ext h k) k
theorem N7{N:Nat}{m m':DB}:∀{p:XP} {x:XV},p.Ck N m x=some m'→Ext m m'∧Gq N m' p x∧(K3 m→K3 m')
 | .c p,.c x,e=>HJ (by simpa only[XP.Ck]using e)
 | .agg l,.agg xs,e=>Ek (by simpa only[XP.Ck]using e)
 | .row r,.agg xs,e=>by simp only[XP.Ck,ZU]at e;subst e;exact⟨Ext.refl _,trivial,fun h=>h⟩
 | .D6 l,.D6 xs,e=>Gu (by simpa only[XP.Ck]using e)
 | .c _,.agg _,e=>by simp[XP.Ck]at e
 | .c _,.D6 _,e=>by simp[XP.Ck]at e
 | .agg _,.c _,e=>by simp[XP.Ck]at e
 | .agg _,.D6 _,e=>by simp[XP.Ck]at e
 | .row _,.c _,e=>by simp[XP.Ck]at e
 | .row _,.D6 _,e=>by simp[XP.Ck]at e
 | .D6 _,.c _,e=>by simp[XP.Ck]at e
 | .D6 _,.agg _,e=>by simp[XP.Ck]at e
theorem Hh{N:Nat}{tm:List XV}:∀{l:List (Nat×XP)} {m m':DB},A5.Ck N tm m l=some m'→
  Ext m m'∧(∀q∈l,∃x,tm[q.1]? =some x∧Gq N m' q.2 x)∧(K3 m→K3 m')
 |[],m,m',e=>by simp only[A5.Ck,ZU]at e;subst e;exact⟨Ext.refl _,by simp,fun h=>h⟩
 |(i,p)::l,m,m',e=>by
  simp only[A5.Ck]at e;split at e
  ·rename_i x hx
   simp only[ZW]at e;obtain⟨m1,e1,e2⟩:=e;obtain⟨a1,a2,a3⟩:=N7 e1;obtain⟨b1,b2,b3⟩:=Hh e2;refine⟨a1.trans b1,?_,fun h=>b3 (a3 h)⟩;intro q hq;rcases Z1.1 hq with rfl|hq
   ·exact⟨x,hx,Gq.ext b1 a2⟩
   ·exact b2 q hq
  ·cases e
theorem Eo{N:Nat}{bx:List Bx}:∀{l:List BP} {i:Nat} {m m':DB},Bj.Ck N bx i m l=some m'→
  Ext m m'∧(∀(k:Nat) q,l[k]? =some (.mem q)→ ∃b cs,m'[i+k]? =some (some b)∧bx[b]? =some (.mem cs)∧AJ (Dz N m') q cs)∧
   (∀(k:Nat) d r,l[k]? =some (.sl d r)→ ∃b,m'[i+k]? =some (some b))∧(K3 m→K3 m')
 |[],i,m,m',e=>by simp only[Bj.Ck,ZU]at e;subst e;exact⟨Ext.refl _,by simp,by simp,fun h=>h⟩
 | .mem q::l,i,m,m',e=>by
  simp only[Bj.Ck]at e;split at e
  ·rename_i b hb
   split at e
   ·rename_i cs Qf
    simp only[ZW]at e;obtain⟨m1,e1,e2⟩:=e;obtain⟨a1,a2,a3⟩:=Ek e1;obtain⟨b1,b2,b4,b3⟩:=Eo e2;refine⟨a1.trans b1,?_,?_,fun h=>b3 (a3 h)⟩
    ·intro k q' hk
     cases k with
     |zero=>cases hk;exact⟨b,cs,b1.2 _ _ (a1.2 _ _ hb),Qf,AJ.imp (fun _ _ k=>Dz.ext b1 k) a2⟩
     |succ k=>
      have:=b2 k q' (by simpa using hk)
      rwa [show i+1+k=i+(k+1)by omega]at this
    ·intro k d r hk
     cases k with
     |zero=>cases hk
     |succ k=>
      have:=b4 k d r (by simpa using hk)
      rwa [show i+1+k=i+(k+1)by omega]at this
   ·cases e
  ·cases e
 | .sl d r::l,i,m,m',e=>by
  simp only[Bj.Ck]at e;split at e
  ·rename_i b hb
   obtain⟨b1,b2,b4,b3⟩:=Eo e;refine⟨b1,?_,?_,b3⟩
   ·intro k q' hk
    cases k with
    |zero=>cases hk
    |succ k=>
     have:=b2 k q' (by simpa using hk)
     rwa [show i+1+k=i+(k+1)by omega]at this
   ·intro k d r hk
    cases k with
    |zero=>exact⟨b,b1.2 _ _ hb⟩
    |succ k=>
     have:=b4 k d r (by simpa using hk)
     rwa [show i+1+k=i+(k+1)by omega]at this
  ·cases e
 | .gone::l,i,m,m',e=>by
  simp only[Bj.Ck]at e;obtain⟨b1,b2,b4,b3⟩:=Eo e;refine⟨b1,?_,?_,b3⟩
  ·intro k q' hk
   cases k with
   |zero=>cases hk
   |succ k=>
    have:=b2 k q' (by simpa using hk)
    rwa [show i+1+k=i+(k+1)by omega]at this
  ·intro k d r hk
   cases k with
   |zero=>cases hk
   |succ k=>
    have:=b4 k d r (by simpa using hk)
    rwa [show i+1+k=i+(k+1)by omega]at this
theorem Dr{bx bk:List Bx}{Bt:Nat→Nat}:∀{l:List BP} {m:DB} {x:Bj.V l},Bj.get bx bk m l=some x→(Bj.mk Bt l x).length=l.length∧
  ∀(k:Nat) p,l[k]? =some p→ ∃y:p.V,(Bj.mk Bt l x)[k]? =some (p.mk Bt y)∧
   match p,y with
   | .mem q,y=> ∃b cs,m[k]? =some (some b)∧bx[b]? =some (.mem cs)∧FW.get bk q cs=some y
   | .sl d r,y=> ∃b d',m[k]? =some (some b)∧bx[b]? =some (.sl d' r y)∧1≤d∧d≤d'
   | .gone,_=>True
 |[],m,x,e=>⟨rfl,by simp⟩
 | .mem q::l,some b::m,x,e=>by
  simp only[Bj.get]at e;split at e
  ·rename_i cs Qf
   simp only[ZW,ZV]at e;obtain⟨a,e1,c,e2,rfl⟩:=e;obtain⟨h1,h2⟩:=Dr (Bt:=Bt) e2;refine⟨by simp[Bj.mk,h1],fun k p hk=> ?_⟩;cases k with
   |zero=>cases hk;exact⟨a,rfl,b,cs,rfl,Qf,e1⟩
   |succ k=>
    obtain⟨y,k1,k2⟩:=h2 k p (by simpa using hk);exact⟨y,by simpa[Bj.mk]using k1,by simpa using k2⟩
  ·cases e
 | .sl d r::l,some b::m,x,e=>by
  simp only[Bj.get]at e;split at e
  ·rename_i d' q rows hb
   split at e
   ·rename_i hd
    simp only[ZW,ZV]at e;obtain⟨a,e1,c,e2,rfl⟩:=e;obtain⟨e3,e4⟩:=BN e1;subst e3;subst e4;obtain⟨h1,h2⟩:=Dr (Bt:=Bt) e2;refine⟨by simp[Bj.mk,h1],fun k p hk=> ?_⟩;cases k with
    |zero=>cases hk;exact⟨rows,rfl,b,d',rfl,hb,hd.1,hd.2⟩
    |succ k=>
     obtain⟨y,k1,k2⟩:=h2 k p (by simpa using hk);exact⟨y,by simpa[Bj.mk]using k1,by simpa using k2⟩
   ·cases e
  ·cases e
 | .gone::l,o::m,x,e=>by
  have e':(Bj.get bx bk m l).map (fun c=>((),c))=some x:=by cases o<;>simpa only[Bj.get]using e
  simp only[ZV]at e';obtain⟨c,e2,rfl⟩:=e';obtain⟨h1,h2⟩:=Dr (Bt:=Bt) e2;refine⟨by simp[Bj.mk,h1],fun k p hk=> ?_⟩;cases k with
  |zero=>cases hk;exact⟨(),rfl,trivial⟩
  |succ k=>
   obtain⟨y,k1,k2⟩:=h2 k p (by simpa using hk);exact⟨y,by simpa[Bj.mk]using k1,by simpa using k2⟩
 | .mem q::l,none::m,x,e=>by simp[Bj.get]at e
 | .sl d r::l,none::m,x,e=>by simp[Bj.get]at e
 | .mem _::_,[],x,e=>by simp[Bj.get]at e
 | .sl _ _::_,[],x,e=>by simp[Bj.get]at e
 | .gone::_,[],x,e=>by simp[Bj.get]at e
theorem BL:∀{m:DB} {bx:List Bx},(AN bx m).length=bx.length
 |[],_=>rfl
 |some b::m,bx=>by simp[AN,BL]
 |none::m,bx=>by simp[AN,BL]
theorem Dn:∀{m:DB} {bx vw:List Bx},Aq bx vw→Aq (AN bx m) vw
 |[],_,_,h=>h
 |none::m,bx,vw,h=>by simp only[AN];exact Dn h
 |some b::m,bx,vw,h=>by
  simp only[AN];refine Dn fun k B hk=> ?_
  by_cases e:k=b
  ·subst e
   have CK:=(ZS.1 hk).1;rw[Zd (by simpa using CK)]at hk;cases hk;exact .inl rfl
  ·rw[ZZ (by omega)]at hk
   exact h k B hk
theorem Ef:∀{m:DB} {bx:List Bx} {b:Nat} {B:Bx},some b∈m→(AN bx m)[b]? =some B→B= .dead
 |some c::m,bx,b,B,h,e=>by
  simp only[AN]at e;by_cases hm:some b∈m
  ·exact Ef hm e
  ·have:c=b:=by
    rcases Z1.1 h with h|h
    ·cases h;rfl
    ·exact absurd h hm
   subst this;have:∀{m:DB} {bx:List Bx},bx[c]? =some .dead→some c∉m→(AN bx m)[c]? =some .dead:=by
    intro m
    induction m with
    |nil=>intro bx h _;exact h
    |cons o m ih=>
     intro bx h hn;cases o with
     |none=>simp only[AN];exact ih h (fun hh=>hn (aO _ hh))
     |some d=>
      simp only[AN];refine ih ?_ (fun hh=>hn (aO _ hh))
      have:d≠c:=fun hh=>hn (by subst hh;simp)
      rw[ZZ (by omega)];exact h
   have CK:c<bx.length:=by
    have:=(ZS.1 e).1;simpa[BL]using this
   have:=this (m:=m) (bx:=bx.set c .dead) (by simp[CK]) hm;rw[this]at e;cases e;rfl
 |none::m,bx,b,B,h,e=>by
  simp only[AN]at e;exact Ef (by simpa using h) e
theorem KT{E:Env}{w:World}{vw:List Bx}:∀{m:DB} {bx:List Bx} {G:ZD},K3 m→AQ E w vw bx G→
  ∃Gs:List ZD,Gs.length=m.length∧(∀(k b:Nat) B F,m[k]? =some (some b)→bx[b]? =some B→Gs[k]? =some F→Kj E w vw b B F)∧
   AQ E w vw (AN bx m) (Gs.flatten++G)
 |[],bx,G,_,h=>⟨[],rfl,by simp,h⟩
 |none::m,bx,G,hi,h=>by
  obtain⟨Gs,h1,h2,h3⟩:=KT (m:=m) (fun i j b Pp hj=>by
   have:=hi (i+1) (j+1) b (by simpa using Pp) (by simpa using hj);omega) h
  refine⟨[]::Gs,by simp[h1],fun k b B F hk hB hF=> ?_,by simpa[AN]using h3⟩;cases k with
  |zero=>simp at hk
  |succ k=>exact h2 k b B F (by simpa using hk) hB (by simpa using hF)
 |some b::m,bx,G,hi,h=>by
  have Rl:K3 m:=fun i j b Pp hj=>by
   have:=hi (i+1) (j+1) b (by simpa using Pp) (by simpa using hj);omega
  cases e:bx[b]? with
  |none=>
   have HD:bx.set b .dead=bx:=List.set_eq_of_length_le (by simpa using e);obtain⟨Gs,h1,h2,h3⟩:=KT (m:=m) Rl h;refine⟨[]::Gs,by simp[h1],fun k b' B F hk hB hF=> ?_,by simpa[AN,HD]using h3⟩;cases k with
   |zero=>simp at hk;subst hk;rw[e]at hB;cases hB
   |succ k=>exact h2 k b' B F (by simpa using hk) hB (by simpa using hF)
  |some B0=>
   obtain⟨F0,k1,k2⟩:=h.take e;obtain⟨Gs,h1,h2,h3⟩:=KT (m:=m) Rl k2;refine⟨F0::Gs,by simp[h1],fun k b' B F hk hB hF=> ?_,?_⟩
   ·cases k with
    |zero=>
     simp at hk hF;subst hk hF;rw[e]at hB;cases hB;exact k1
    |succ k=>
     have Hm:b'≠b:=fun hh=>by
      have:=hi 0 (k+1) b (by simp) (by subst hh;simpa using hk);omega
     exact h2 k b' B F (by simpa using hk) (by rw[ZZ (by omega)];exact hB) (by simpa using hF)
   ·simp only[AN]
    refine h3.perm ?_
    rw[Z2,←ZY];exact Zh _ Zr
end Go.Fw
end
section
namespace Go.Fw
theorem K_{R:Nat→List Nat→List Nat→List Nat→Prop}:∀(Gs:List ZD) (o:Nat),(∀(k:Nat) G,Gs[k]? =some G→ ∃F W,G.Perm (F++W)∧R (o+k) G F W)→
  ∃Fs Ws:List ZD,Fs.length=Gs.length∧Ws.length=Gs.length∧Gs.flatten.Perm (Fs.flatten++Ws.flatten)∧
   ∀(k:Nat) G F W,Gs[k]? =some G→Fs[k]? =some F→Ws[k]? =some W→R (o+k) G F W
 |[],o,_=>⟨[],[],rfl,rfl,by simp,by simp⟩
 |G::Gs,o,h=>by
  obtain⟨F,W,hp,hr⟩:=h 0 G rfl;obtain⟨Fs,Ws,h1,h2,h3,h4⟩:=K_ Gs (o+1) (fun k G hk=>by
   have:=h (k+1) G (by simpa using hk)
   rwa [show o+1+k=o+(k+1)by omega])
  refine⟨F::Fs,W::Ws,by simp[h1],by simp[h2],?_,fun k G' F' W' hG hF hW=> ?_⟩
  ·simp only[Z2]
   refine(hp.append h3).trans ?_
   rw[ZY,ZY];refine Zq _ ?_
   rw[←ZY,←ZY];exact Zh _ Zr
  ·cases k with
   |zero=>simp at hG hF hW;subst hG hF hW;exact hr
   |succ k=>
    have:=h4 k G' F' W' (by simpa using hG) (by simpa using hF) (by simpa using hW)
    rwa [show o+1+k=o+(k+1)by omega]at this
def Cc(E:Env)(w:World)(vw:List Bx)(Bt:Nat→Nat):(l:List (Nat×XP))→A5.V l→List Value→Prop
 |[],_,_=>True
 |(i,p)::l,x,vals=>(∃v,vals[i]? =some v∧XR E w vw (p.mk Bt x.1) v)∧Cc E w vw Bt l x.2 vals
section
variable{E E1:Env} {w:World} {bx bk Od:List Bx} {Fk:List ZD} {m:DB}
theorem Ds.map{f:Nat→Nat}(h:∀(i b:Nat),m[i]? =some (some b)→E1.BR i=E.BR b):∀{is bs:ZD},Ds m is bs→
  (is.map fun b=>Value.pointer (some ⟨E1.BR b,0,none⟩))=bs.map fun b=>Value.pointer (some ⟨E.BR b,0,none⟩)
 |[],[],_=>rfl
 |i::is,b::bs,k=>by simp[h i b k.1,Ds.map (f:=f) h k.2]
theorem Ds.lt:∀{is bs:ZD},Ds m is bs→ ∀i∈is,i<m.length
 |[],[],_,_,h=>by simp at h
 |i::is,b::bs,k,j,h=>by
  rcases Z1.1 h with rfl|h
  ·exact(ZS.1 k.1).1
  ·exact Ds.lt k.2 j h
structure Qt (N:Nat) (E:Env) (w:World) (bx bk:List Bx) (Fk:List ZD) (m:DB) (E1:Env) (Od:List Bx):Prop where
 within:Aq bk bx
 boxes:Cd E w bx bk Fk
 st:∀c,E.S c→E.T c
 T:∀c,Ko E Fk c→E1.T c
 S:∀c,E.S c→E1.S c
 ids:∀(i b:Nat),m[i]? =some (some b)→E1.BR i=E.BR b∧E1.BT i=E.BT b
 len:m.length≤Od.length
 nil:∀(i:Nat) d r rows,Od[i]? =some (.sl d r rows)→E.BT (N+i)= .slice none 0 0
 sl:∀(i:Nat) d r rows,i<m.length→Od[i]? =some (.sl d r rows)→ ∃b d',m[i]? =some (some b)∧bx[b]? =some (.sl d' r rows)
variable{N:Nat} (k:Qt N E w bx bk Fk m E1 Od)
include k
theorem O1{p:AP}{x:AV}{v:Value}(hv:VR E w bx x v)(ha:Dz N m p x){y:p.V}(e:p.get bk x=some y):VR E1 w Od (p.mk id y) v:=by
 cases p with
 |v t=>
  simp only[AP.get]at e;split at e
  ·rename_i hs
   have hr:=ER k.within k.boxes k.st hv e;refine⟨hs,?_⟩;cases t with
   |int _=>simpa only[Rd]using hr
   |bool=>simpa only[Rd]using hr
   |str=>simpa only[Rd]using hr
   |_=>simp[Ty.scalar]at hs
  ·cases e
 |sl s r=>
  cases s with
  |false=>
   simp only[AP.get]at e;have hr:=ER k.within k.boxes k.st hv e;simp only[AP.mk,VR];exact Ar k.T (fun _ _=>rfl) (by simpa using hr)
  |true=>
   simp only[AP.get]at e;split at e
   ·rename_i q z
    obtain⟨e1,e2⟩:=BN e;subst e1;subst e2;simp only[AP.mk,VR]at hv⊢;exact Ar k.S (fun _ _=>rfl) (by simpa using hv)
   ·cases e
    simp only[AP.mk,VR]at hv⊢;subst hv;simp only[Rd];exact⟨none,0,rfl,by simp,.inl rfl⟩
   ·cases e
 |nil=>
  obtain rfl:=ha;exact hv
 |ref i=>
  obtain⟨b,hx,hm⟩:=ha;have hi:=(ZS.1 hm).1;simp only[AP.mk,id,VR];rcases hx with rfl|⟨rfl,rfl⟩
  ·have V_:=hv.1
   refine⟨V_,?_⟩;cases e1:Od[i]? with
   |none=>simp at e1;have:=k.len;omega
   |some B=>
    cases B with
    |sl d r rows=>
     obtain⟨b',d',h1,h2⟩:=k.sl i d r rows hi e1;rw[hm]at h1;cases h1;simp only[VR,h2]at hv
     replace hv:=hv.2
     refine⟨by simp[AW],⟨_,rfl⟩,?_⟩;rw[(k.ids i b hm).2];exact hv.2.2
    |_=>trivial
  ·have G4:v= .slice none 0 0:=hv
   subst G4;refine⟨rfl,?_⟩;cases e1:Od[i]? with
   |none=>simp at e1;have:=k.len;omega
   |some B=>
    cases B with
    |sl d r rows=>
     refine⟨by simp[AW],⟨_,rfl⟩,?_⟩;rw[(k.ids i _ hm).2,k.nil i d r rows e1,AO]
    |_=>trivial
 |ptr i j=>
  obtain⟨b,rfl,hm⟩:=ha;have hi:=(ZS.1 hm).1;exact⟨Z0 hi k.len,by rw[hv.2,id,(k.ids i b hm).1]⟩
 |Nn r=>
  simp only[AP.get]at e;split at e
  ·rename_i s q z
   obtain⟨e1,e2⟩:=BN e;subst e1;subst e2;simp only[AP.mk,VR]at hv⊢;obtain⟨bb,o,cs,h1,h2,h3,h4,h5⟩:=hv;have RW:∀c,(if s=true then E.S else E.T) c→E1.T c:=by
    intro c hc;cases s
    ·exact k.T c (.inl (by simpa using hc))
    ·exact k.T c (.inl (k.st c (by simpa using hc)))
   exact⟨bb,o,cs,h1,by simpa using RW bb h2,h3,h4,by simpa using Ar RW (fun _ _=>rfl) h5⟩
  ·rename_i b
   split at e
   ·rename_i cs hb
    obtain⟨F,⟨hF,arr,ty,fr,ha,hu,FB⟩,KC⟩:=k.boxes.get hb;have Gf:=IB k.within k.boxes k.st FB e;simp only[AP.mk,VR];refine⟨E.BR b,0,arr.toList,by simpa using hv.2,?_,Jm Gf,?_,by simpa using Ar k.T (fun _ _=>rfl) Gf⟩
    ·simp only[Z6,aV]
     exact k.T _ (.inr (KC _ (by rw[hF];simp)))
    ·intro j u hj
     simp only[aM,World.cell?,ha,aT,Z6,aV];simpa using hj
   ·cases e
  ·rename_i b p i sz
   split at e
   ·rename_i d q rows hb
    simp only[ZW]at e;obtain⟨⟨q',ys⟩,e1,e2⟩:=e;split at e2
    case isFalse=>cases e2
    rename_i CO;obtain⟨e3,e4⟩:=BN e2;dsimp only at e3;subst e3;subst e4;simp only[VR,Fe k.within hb]at hv;obtain⟨_,hp,q1,ys1,bb,o,len,cap,hg,hi,hh,rfl⟩:=hv;rw[hg]at e1;simp only[ZU,Zc]at e1;obtain⟨e5,e6⟩:=e1;subst e5;obtain rfl:=Zw e6;have Gf:=HZ k.within k.boxes k.st hb hp hg hh;simp only[Rd]at Gf;obtain⟨a',cap',ee,_,Gf⟩:=Gf;simp only[Zo,Value.slice.injEq,Z_]at ee;obtain⟨rfl,rfl,rfl⟩:=ee;rcases Gf with Gf|⟨b1,o1,e7,hb1,Gf⟩
    ·omega
    ·cases e7
     obtain⟨cs,c1,c2,c3⟩:=Gf i _ (DS hi);simp only[AP.mk,VR];refine⟨bb,o+i*q1.n,cs,by rw[CO],by simpa using k.T _ hb1,c1,c2,by simpa using Ar k.T (fun _ _=>rfl) c3⟩
   ·cases e
  ·cases e
 |fn f Bu=>
  obtain⟨bs,rfl,hc⟩:=ha;refine⟨fun i hi=>Z0 (hc.lt i (by simpa[AP.mk]using hi)) k.len,?_⟩;rw[hv.2];simp only[AP.mk,List.map_id];rw[Ds.map (f:=id) (fun i b h=>(k.ids i b h).1) hc]
 |M3 f rs=>
  simp only[AP.get]at e;split at e
  ·rename_i g rows
   split at e
   case isFalse=>cases e
   rename_i WB;subst WB;obtain⟨ps,G7,GY⟩:=hv;refine⟨ps,G7,?_⟩;clear ha G7
   induction rs generalizing rows ps with
   |nil=>
    cases rows with
    |nil=>
     cases ps with
     |nil=>trivial
     |cons _ _=>exact GY.elim
    |cons _ _=>simp[F_.LK]at e
   |cons r rs ih=>
    cases rows with
    |nil=>simp[F_.LK]at e
    |cons q rows=>
     cases ps with
     |nil=>exact GY.elim
     |cons p ps=>
      simp only[F_.LK,ZW,ZV]at e;obtain⟨x1,e1,x2,e2,rfl⟩:=e;obtain⟨q1,q2⟩:=q;obtain⟨e3,e4⟩:=BN e1;dsimp only at e3;subst e3;subst e4;obtain⟨⟨bb,o,cs,h1,h2,h3,h4,h5⟩,GY⟩:=GY;exact⟨⟨bb,o,cs,h1,k.T bb (.inl h2),h3,h4,Ar (fun b hb=>k.T b (.inl hb)) (fun _ _=>rfl) h5⟩,ih rows e2 ps GY⟩
  ·rename_i g bs
   split at e
   case isFalse=>cases e
   rename_i WB;subst WB;obtain⟨G7,GY⟩:=hv;refine⟨bs.map fun b=>Value.pointer (some ⟨E.BR b,0,none⟩),GY,?_⟩;clear ha G7 GY
   induction rs generalizing bs with
   |nil=>
    cases bs with
    |nil=>trivial
    |cons _ _=>simp[F_.LL]at e
   |cons r rs ih=>
    cases bs with
    |nil=>simp[F_.LL]at e
    |cons b bs=>
     simp only[F_.LL,ZW,ZV]at e;obtain⟨x1,e1,x2,e2,rfl⟩:=e;split at e1
     case h_2=>cases e1
     rename_i cs hb;obtain⟨F,⟨hF,arr,ty,fr,ha,hu,FB⟩,KC⟩:=k.boxes.get hb;have Gf:=IB k.within k.boxes k.st FB e1;refine⟨⟨E.BR b,0,arr.toList,rfl,k.T _ (.inr (KC _ (by rw[hF];simp))),Jm Gf,?_,Ar k.T (fun _ _=>rfl) Gf⟩,ih bs e2⟩;intro j u hj;simp only[aM,World.cell?,ha,aT,Z6,aV];simpa using hj
  ·cases e
 |any=>trivial
 |JJ i sz=>
  obtain⟨b,q,j,rfl,hm⟩:=ha;have hi:=(ZS.1 hm).1;simp only[AP.get,ZU]at e;subst e;simp only[AP.mk,id,VR];have V_:=hv.1;refine⟨V_,?_⟩;cases e1:Od[i]? with
  |none=>simp at e1;have:=k.len;omega
  |some B=>
   cases B with
   |sl d r rows=>
    obtain⟨b',d',h1,h2⟩:=k.sl i d r rows hi e1;rw[hm]at h1;cases h1;simp only[VR,h2]at hv
    replace hv:=hv.2
    refine⟨hv.1,hv.2.1,?_⟩;rw[(k.ids i b hm).2];exact hv.2.2
   |_=>trivial
theorem KS:∀{l:List AP} {xs:List AV} {vs:List Value},Ir E w bx xs vs→AJ (Dz N m) l xs→ ∀{y:FW.V l},FW.get bk l xs=some y→Ir E1 w Od (FW.mk id l y) vs
 |[],[],[],_,_,_,_=>trivial
 |p::l,x::xs,v::vs,hv,ha,y,e=>by
  simp only[FW.get,ZW,ZV]at e;obtain⟨a,e1,b,e2,rfl⟩:=e;exact⟨O1 k hv.1 ha.1 e1,KS hv.2 ha.2 e2⟩
 |[],[],_::_,hv,_,_,_=>hv.elim
 |_::_,_::_,[],hv,_,_,_=>hv.elim
 |[],_::_,_,_,ha,_,_=>ha.elim
 |_::_,[],_,_,ha,_,_=>ha.elim
theorem Mu:∀{l:List (AP ⊕ List AP)} {xs:List (AV ⊕ List AV)} {vs:List Value},AJ (TR E w bx) xs vs→AJ (IW N m) l xs→ ∀{y:Fc.V l},Fc.get bk l xs=some y→
  AJ (TR E1 w Od) (Fc.mk id l y) vs
 |[],[],[],_,_,_,_=>trivial
 | .inl p::l,.inl x::xs,v::vs,hv,ha,y,e=>by
  simp only[Fc.get,ZW,ZV]at e;obtain⟨a,e1,b,e2,rfl⟩:=e;exact⟨O1 k hv.1 ha.1 e1,Mu hv.2 ha.2 e2⟩
 | .inr p::l,.inr x::xs,v::vs,hv,ha,y,e=>by
  simp only[Fc.get,ZW,ZV]at e;obtain⟨a,e1,b,e2,rfl⟩:=e;obtain⟨⟨us,hu,hus⟩,h2⟩:=hv;exact⟨⟨us,hu,KS k hus ha.1 e1⟩,Mu h2 ha.2 e2⟩
 | .inl _::_,.inr _::_,_,_,ha,_,_=>ha.1.elim
 | .inr _::_,.inl _::_,_,_,ha,_,_=>ha.1.elim
 |[],[],_::_,hv,_,_,_=>hv.elim
 |_::_,_::_,[],hv,_,_,_=>hv.elim
 |[],_::_,_,_,ha,_,_=>ha.elim
 |_::_,[],_,_,ha,_,_=>ha.elim
theorem Ss{p:XP}{x:XV}{v:Value}(hv:XR E w bx x v)(ha:Gq N m p x){y:p.V}(e:p.get bk x=some y):XR E1 w Od (p.mk id y) v:=by
 cases p with
 |c p=>cases x with
  |c x=>exact O1 k hv ha (by simpa only[XP.get]using e)
  |_=>exact ha.elim
 |agg l=>cases x with
  |agg xs=>
   obtain⟨vs,rfl,FB⟩:=hv;exact⟨vs,rfl,KS k FB ha (by simpa only[XP.get]using e)⟩
  |_=>exact ha.elim
 |row r=>cases x with
  |agg xs=>
   obtain⟨vs,rfl,FB⟩:=hv;exact⟨vs,rfl,Ia k.within k.boxes k.st k.T FB (by simpa only[XP.get]using e)⟩
  |_=>exact ha.elim
 |D6 l=>cases x with
  |D6 xs=>
   obtain⟨vs,rfl,FB⟩:=hv;exact⟨vs,rfl,Mu k FB ha (by simpa only[XP.get]using e)⟩
  |_=>exact ha.elim
theorem Me{tm:List XV}{vals:List Value}(TX:AJ (XR E w bx) tm vals):∀{l:List (Nat×XP)},(∀q∈l,∃x,tm[q.1]? =some x∧Gq N m q.2 x)→ ∀{y:A5.V l},A5.get bk tm l=some y→
  Cc E1 w Od id l y vals
 |[],_,_,_=>trivial
 |(i,p)::l,ha,y,e=>by
  obtain⟨x,hx,hax⟩:=ha (i,p) (by simp);simp only[A5.get,hx,ZW,ZV]at e;obtain⟨a,e1,b,e2,rfl⟩:=e;obtain⟨v,hv,hr⟩:=TX.get hx;exact⟨⟨v,hv,Ss k hr hax e1⟩,Me TX (fun q hq=>ha q (by simp[hq])) e2⟩
end
structure NQ (E:Env) (w:World) (bx:List Bx) (m:DB) (s:C0) (x:s.V) (vals:List Value) (E1:Env):Prop where
 boxes:AQ E1 w (Bj.mk id s.A9 x.2) (Bj.mk id s.A9 x.2) []
 Ai:Cc E1 w (Bj.mk id s.A9 x.2) id s.Ai x.1 vals
 ids:∀(i b:Nat),m[i]? =some (some b)→E1.BR i=E.BR b∧E1.BT i=E.BT b
 inj:K3 m
 len:m.length=s.A9.length
 S:∀c,E.S c→E1.S c
 Pe:∀c,E1.S c→E.S c∨ ¬E.T c
 T:∀c,E.T c→E1.T c
 rest:∃Fk,Cd E w bx (AN bx m) Fk∧Fk.flatten.Nodup∧(∀c∈Fk.flatten,¬E.T c∧ ¬E1.S c∧c<w.heap.size∧E1.T c)∧(∀c,E1.T c→E.T c∨E1.S c∨c∈Fk.flatten)
theorem Jg{E:Env}{w:World}{bx:List Bx}{tm:List XV}{vals:List Value}(hB:AQ E w bx bx [])(TX:AJ (XR E w bx) tm vals){s:C0}{m0 m:DB}{x:s.V}
  {N:Nat} (Oi:∀(i:Nat) d r,s.A9[i]? =some (.sl d r)→E.BT (N+i)= .slice none 0 0) (hlen:m0.length=s.A9.length) (Rl:K3 m0) (e:s.fit N m0 tm bx=some (x,m)):Ext m0 m∧ ∃E1,NQ E w bx m s x vals E1:=by
 simp only[C0.fit,ZW,ZV]at e;obtain⟨m1,e1,m2,e2,a,e3,c,e4,e5⟩:=e;cases e5;obtain⟨a1,a2,a3⟩:=Hh e1;obtain⟨b1,b2,b4,b3⟩:=Eo e2;have hi:K3 m:=b3 (a3 Rl);have TT:m.length=s.A9.length:=by rw[b1.1,a1.1,hlen]
 refine⟨a1.trans b1,?_⟩;obtain⟨Gs,g1,g2,g3⟩:=KT hi hB;obtain⟨q1,q2⟩:=Dr (Bt:=id) e4;have st:=hB.st
 let R:Nat→List Nat→List Nat→List Nat→Prop:=fun k G F W=>
  match s.A9[k]? with
  |some (.sl d r)=> ∀(b d':Nat) (rows:List r.D),m[k]? =some (some b)→bx[b]? =some (.sl d' r rows)→Ow w (fun c=>E.S c∨c∈W) d (.sl r) [E.BT b] rows F
  |some (.mem q)=>F=G∧W=[]
  |_=>F=[]∧W=G
 have Sw:∀(k:Nat) G,Gs[k]? =some G→ ∃F W,G.Perm (F++W)∧R (0+k) G F W:=by
  intro k G hG;rw[aM];have hk:k<s.A9.length:=by
   have:=(ZS.1 hG).1;omega
  have hp:s.A9[k]? =some s.A9[k]:=ZT hk;cases hb:s.A9[k]with
  |mem q=>exact⟨G,[],by simp,by simp[R,hp,hb]⟩
  |gone=>exact⟨[],G,by simp,by simp[R,hp,hb]⟩
  |sl d r=>
   obtain⟨y,y1,b,d',y2,y3,y4,y5⟩:=q2 k _ (hp.trans (by rw[hb]));obtain⟨_,ho⟩:=g2 k b _ G y2 y3 hG;obtain⟨F,W,w1,w2⟩:=B3 y5 ho;refine⟨F,W,w1,?_⟩;simp only[R,hp,hb];intro b' Y4 rows h1 h2;rw[y2]at h1;cases h1;rw[y3]at h2;cases h2;exact w2
 obtain⟨Fs,Ws,f1,f2,f3,f4⟩:=K_ Gs 0 Sw;obtain⟨Fk,k1,k2⟩:=g3;simp only[Zu]at k2;have Q7:Sep E w (Fk.flatten++(Fs.flatten++Ws.flatten)):=k2.perm (Zq _ f3)
 let E1:Env:={
   BR:=fun i=>match m[i]? with|some (some b)=>E.BR b|_=>0
   BT:=fun i=>match m[i]? with|some (some b)=>E.BT b|_=> .nilFunc
   S:=fun c=>E.S c∨c∈Ws.flatten
   T:=fun c=>E.T c∨c∈Ws.flatten∨c∈Fk.flatten }
 have Ng:∀(i b:Nat),m[i]? =some (some b)→E1.BR i=E.BR b∧E1.BT i=E.BT b:=fun i b h=>by simp[E1,h]
 have fe:Qt N E w bx (AN bx m) Fk m E1 (Bj.mk id s.A9 c):={
  within:=Dn (Aq.refl bx)
  boxes:=k1
  st:=st
  T:=fun d hd=>hd.elim .inl fun h=> .inr (.inr h)
  S:=fun d hd=> .inl hd
  ids:=Ng
  len:=by rw[q1,TT];exact Zx _
  nil:=fun i d r rows e=>by
   have hk:i<s.A9.length:=by
    have:=(ZS.1 e).1
    rwa [q1]at this
   obtain⟨y,y1,_⟩:=q2 i _ (ZT hk);have hp:=ZT hk;rw[e]at y1
   generalize s.A9[i]=P at y y1 hp
   cases P with
   |mem q=>cases y1
   |gone=>cases y1
   |sl d0 r0=>exact Oi i d0 r0 hp
  sl:=fun i d r rows hi e=>by
   have hk:i<s.A9.length:=by omega
   obtain⟨y,y1,y2⟩:=q2 i _ (ZT hk);rw[e]at y1
   generalize s.A9[i]=P at y y1 y2
   cases P with
   |mem q=>cases y1
   |gone=>cases y1
   |sl d0 r0=>
    simp only[BP.mk,ZU,Bx.sl.injEq]at y1;obtain⟨rfl,rfl,y1⟩:=y1;obtain rfl:=Zw y1;obtain⟨b,d',z1,z2,_⟩:=y2;exact⟨b,d',z1,z2⟩ }
 have nd:=Q7.nodup;have RE:∀c∈Fs.flatten,¬E1.T c:=by
  intro d hd h;rcases h with h|h|h
  ·exact Q7.free d (by simp[hd]) h
  ·have:=(Za.1 (Za.1 nd).2.1).2.2 d hd d h
   exact this rfl
  ·have:=(Za.1 nd).2.2 d h d (by simp[hd])
   exact this rfl
 have Tc:Cc E1 w (Bj.mk id s.A9 c) id s.Ai a vals:=Me fe TX (fun q hq=>let⟨x,h1,h2⟩:=a2 q hq;⟨x,h1,Gq.ext b1 h2⟩) e3;refine⟨E1,NQ.mk ?_ Tc Ng hi TT (fun d hd=> .inl hd) ?_ (fun d hd=> .inl hd) ⟨Fk,k1,(Za.1 nd).1,fun d hd=>⟨Q7.free d (by simp[hd]),?_,Q7.lt d (by simp[hd]),.inr (.inr hd)⟩,?_⟩⟩
 ·refine⟨Fs,⟨by rw[f1,g1,q1,TT],fun k B F hk hF=> ?_⟩,?_⟩
  ·have Yu:k<s.A9.length:=by
    have Vs:=(ZS.1 hk).1;rw[←q1];exact Vs
   have hp:s.A9[k]? =some s.A9[k]:=ZT Yu;obtain⟨y,y1,y2⟩:=q2 k _ hp;rw[hk]at y1;cases y1;have hG:Gs[k]? =some (Gs[k]'(by omega)):=ZT _;have hW:Ws[k]? =some (Ws[k]'(by omega)):=ZT _;have hr:=f4 k _ F _ hG hF hW;rw[aM]at hr;have UX:∀d∈Ws[k]'(by omega),d∈Ws.flatten:=fun d hd=>Zt.2 ⟨_,Zb hW,hd⟩
   generalize Xh:s.A9[k]=P at y y2 hp
   have UJ:=fun q=>b2 k q
   simp only[R,hp]at hr;cases P with
   |mem q=>
    obtain⟨b,cs,z1,z2,z3⟩:=y2;obtain⟨rfl,hW0⟩:=hr;obtain⟨hFe,arr,ty,fr,h1,h2,h3⟩:=g2 k b _ _ z1 z2 hG;obtain⟨b',G2,t1,t2,t3⟩:=UJ q hp;rw[aM,z1]at t1;cases t1;rw[z2]at t2;cases t2;refine⟨by rw[hFe,(Ng k b z1).1],arr,ty,fr,by rw[(Ng k b z1).1];exact h1,h2,KS fe h3 t3 z3⟩
   |sl d r=>
    obtain⟨b,d',z1,z2,z3,z4⟩:=y2;have:=hr b d' y z1 z2;refine⟨z3,?_⟩;rw[(Ng k b z1).2];exact Ak (fun d hd=>hd.elim .inl fun h=> .inr (UX d h)) (fun _ _=>rfl) (fun _ _=>rfl) this
   |gone=>exact hr.1
  ·simp only[Zu]
   refine⟨(Za.1 (Za.1 nd).2.1).1,RE,fun d hd=>Q7.lt d (by simp[hd]),fun d hd=>hd.elim (fun h=> .inl (st d h)) (fun h=> .inr (.inl h)),fun d hd=> ?_,Q7.NY.mono (fun _ h=> .inl h) (fun _ _=>rfl)⟩;rcases hd with hd|hd|hd
   ·exact Q7.HU d hd
   ·exact Q7.lt d (by simp[hd])
   ·exact Q7.lt d (by simp[hd])
 ·intro d hd
  exact hd.elim .inl fun h=> .inr (Q7.free d (by simp[h]))
 ·intro h
  rcases h with h|h
  ·exact Q7.free d (by simp[hd]) (st d h)
  ·have:=(Za.1 nd).2.2 d hd d (by simp[h])
   exact this rfl
 ·intro d hd
  rcases hd with hd|hd|hd
  ·exact .inl hd
  ·exact .inr (.inl (.inr hd))
  ·exact .inr (.inr hd)
end Go.Fw
end
section
namespace Go.Fw
def zv:Ty→Value
 | .int k=> .int k 0
 | .bool=> .bool false
 | .str=> .string ⟨#[]⟩
 |_=> .slice none 0 0
def A6:Ty→List Value
 | .cons c r=>zv c::A6 r
 | .unit=>[]
 |t=>[zv t]
def Ty.cell:Ty→Bool
 | .unit| .cons _ _=>false
 |_=>true
def Ty.KO:Ty→Bool
 | .cons c r=>c.cell&&r.KO
 |_=>true
def Vt:Value→Value→Bool
 | .int k n,.int k' n' =>decide (k=k')&&decide (n=n')
 | .bool a,.bool b=>decide (a=b)
 | .string a,.string b=>decide (a.data.toList=[])&&decide (b.data.toList=[])
 | .slice none a b,.slice none c d=>decide (a=c)&&decide (b=d)
 |_,_=>false
theorem TO{a b:Value}(h:Vt a b=true):a=b:=by
 unfold Vt at h;split at h
 ·simp at h;rw[h.1,h.2]
 ·simp at h;rw[h]
 ·rename_i a b
  simp at h;obtain⟨h1,h2⟩:=h;cases a;cases b;simp at h1 h2;subst h1 h2;rfl
 ·simp at h;rw[h.1,h.2]
 ·cases h
def QQ:List Value→List Value→Bool
 |[],[]=>true
 |a::l,b::m=>Vt a b&&QQ l m
 |_,_=>false
theorem PL:∀{l m:List Value},QQ l m=true→l=m
 |[],[],_=>rfl
 |a::l,b::m,h=>by
  simp only[QQ,Zg]at h;rw[TO h.1,PL h.2]
 |[],_::_,h=>by simp[QQ]at h
 |_::_,[],h=>by simp[QQ]at h
def ID(P:Program)(t:Nat):TD→Prop
 | .int k=>P.underlying t=some (.int k)
 | .bool=>P.underlying t=some .bool
 | .str=>P.underlying t=some .string
 | .sl e=>P.underlying t=some (.slice e)
 | .ptr e=>P.underlying t=some (.pointer e)
 | .st fs=> ∃fields,P.underlying t=some (.struct fields)∧fields.toList.map (fun f=>(f.offset,f.type))=fs∧(∀f∈fields.toList,f.name≠ "_" ∧ ∃i,P.info? f.type=some i∧i.size≠0)∧
  P.stoodInHeld t=false∧P.eqGuardType P.depth t=false
 | .other=> ∃d,P.underlying t=some d∧d.isRow=false
structure Ul (P:Program) (T:Bw) (t:Nat) (ti:TI):Prop where
 info:∃i,P.info? t=some i∧i.size=ti.size∧i.bytes=ti.bytes∧(∀r,ti.row=some r→r.KO=true∧ ∃z,i.zero=some z∧z.cells.toList=A6 r)
 Q4:ID P t ti.desc
def Av(P:Program)(T:Bw):Prop:= ∀t ti,T.get t=some ti→Ul P T t ti
def M9(P:Program)(T:Bw)(t:Nat)(ti:TI):Bool:=
 (match P.info? t with
  |some i=>decide (i.size=ti.size)&&decide (i.bytes=ti.bytes)&&(match ti.row with
   |some r=>r.KO&&(match i.zero with
    |some z=>QQ z.cells.toList (A6 r)
    |none=>false)
   |none=>true)
  |none=>false)&&
 (match ti.desc,P.underlying t with
  | .int k,some (.int k')=>decide (k=k')
  | .bool,some .bool=>true
  | .str,some .string=>true
  | .sl e,some (.slice e')=>decide (e=e')
  | .ptr e,some (.pointer e')=>decide (e=e')
  | .st fs,some (.struct fields)=>decide (fields.toList.map (fun f=>(f.offset,f.type))=fs)&&
    fields.toList.all (fun f=>decide (f.name≠ "_")&&(match P.info? f.type with|some i=>decide (i.size≠0)|none=>false))&&
    !P.stoodInHeld t&& !P.eqGuardType P.depth t
  | .other,some d=> !d.isRow
  |_,_=>false)
theorem NN{P:Program}{T:Bw}{t:Nat}{ti:TI}(h:M9 P T t ti=true):Ul P T t ti:=by
 unfold M9 at h;rw[Zg]at h;obtain⟨h1,h2⟩:=h;constructor
 ·split at h1
  ·rename_i i hi
   simp only[Zg,Zs]at h1;refine⟨i,hi,h1.1.1,h1.1.2,fun r hr=> ?_⟩;obtain⟨_,h3⟩:=h1;rw[hr]at h3;dsimp only at h3;rw[Zg]at h3;obtain⟨hg,h3⟩:=h3;refine⟨hg,?_⟩;split at h3
   ·rename_i z hz
    exact⟨z,hz,PL h3⟩
   ·cases h3
  ·cases h1
 ·split at h2
  ·rename_i hd hu;simp only[hd,ID];simp at h2;rw[hu,h2]
  ·rename_i hd hu;simp only[hd,ID];exact hu
  ·rename_i hd hu;simp only[hd,ID];exact hu
  ·rename_i hd hu;simp only[hd,ID];simp at h2;rw[hu,h2]
  ·rename_i hd hu;simp only[hd,ID];simp at h2;rw[hu,h2]
  ·rename_i fs fields hd hu
   simp only[hd,ID];simp only[Zg,Zs,aI,Bool.not_eq_true']at h2;refine⟨fields,hu,h2.1.1.1,fun f hf=> ?_,h2.1.2,h2.2⟩;have:=h2.1.1.2 f hf;refine⟨this.1,?_⟩;have h4:=this.2;split at h4
   ·rename_i i hi
    exact⟨i,hi,by simpa using h4⟩
   ·cases h4
  ·rename_i d hd hu;simp only[hd,ID]
   exact⟨d,hu,by simpa using h2⟩
  ·cases h2
def Qh(P:Program)(T:Bw):Bool:=T.all fun q=>M9 P T q.1 q.2
theorem Bw.get_mem:∀{T:Bw} {t:Nat} {ti:TI},T.get t=some ti→(t,ti)∈T
 |(u,i)::l,t,ti,h=>by
  simp only[Bw.get]at h;split at h
  ·rename_i e;cases h;subst e;simp
  ·exact aO _ (Bw.get_mem h)
 |[],_,_,h=>by simp[Bw.get]at h
theorem K4{P:Program}{T:Bw}(h:Qh P T=true):Av P T:=fun t ti e=>
 NN (by simpa using aI.1 h (t,ti) (Bw.get_mem e))
section
variable{P:Program} {T:Bw} (hT:Av P T)
include hT
theorem Av.size{t:Nat}{ti:TI}(e:T.get t=some ti):(P.info? t).map (·.size)=some ti.size:=by
 obtain⟨i,h1,h2,_⟩:=(hT t ti e).info;simp[h1,h2]
theorem Av.sizeOf{t:Nat}{ti:TI}(e:T.get t=some ti)(w:World):(Go.sizeOf t).run P w= .ok ti.size w:=by
 obtain⟨i,h1,h2,_⟩:=(hT t ti e).info;simp[Go.sizeOf,typeInfo,h1,h2]
omit hT in
theorem AD{t:Nat}{d:TypeDesc}(h:P.underlying t=some d)(w:World):(Go.underlying t).run P w= .ok d w:=by
 simp[Go.underlying,h]
theorem Av.isAgg{t:Nat}{ti:TI}(e:T.get t=some ti)(w:World):(Go.isAgg t).run P w= .ok ti.desc.agg w:=by
 have hu:=(hT t ti e).Q4;unfold Go.isAgg;cases hd:ti.desc<;>rw[hd]at hu<;>simp only[ID]at hu
 case st fs=>
  obtain⟨fields,hu,_⟩:=hu;simp[AD hu,TD.agg]
 case other=>
  obtain⟨d,hu,hd⟩:=hu;rw[Sem.run_bind,AD hu];cases d<;>simp_all[TypeDesc.isRow,TD.agg]
 all_goals simp[AD hu,TD.agg]
end
end Go.Fw
end
section
namespace Go.Fw
def CG{Y:Type}(P:Program)(o:Oper)(E:Env)(σ:St)(a:Act)(w:World)(k:K Y)(y:Y):Prop:=
 ∃v w' E' x σ',((execOp a.eval o).run P w= .ok (.value v) w'∨((execOp a.eval o).run P w= .ok .skip w'∧v=undef))∧Rel E' σ' a w'∧XR E' w' σ'.bx x v∧DZ (BZ (fun _=>none) σ o.op) E σ.bx w E' σ'.bx w'∧
  σ'.tm.length=σ.tm.length∧k x σ' =some y
section
variable{Y:Type} {P:Program} {T:Bw} {o:Oper} {E:Env} {σ:St} {a:Act} {w:World} {k:K Y} {y:Y}
theorem CG.same(h:Rel E σ a w){v:Value}{x:XV}(hr:(execOp a.eval o).run P w= .ok (.value v) w)(hx:XR E w σ.bx x v)(hk:k x σ=some y):CG P o E σ a w k y:=
 ⟨v,w,E,x,σ,.inl hr,h,hx,DZ.refl _ E σ.bx w,rfl,hk⟩
theorem Gv{vw:List Bx}{κ:IntKind}{n:Int}{v:Value}(h:VR E w vw (.v (.int κ) n) v):v= .int κ n:=by
 have:=h.2;simpa[Rd]using this
theorem Dx{vw:List Bx}{b:Bool}{v:Value}(h:VR E w vw (.v .bool b) v):v= .bool b:=by
 have:=h.2;simpa[Rd]using this
theorem FQ{vw:List Bx}{s:ZC}{v:Value}(h:VR E w vw (.v .str s) v):v= .string ⟨s.toArray⟩:=by
 have:=h.2;simpa[Rd]using this
theorem VR.int{vw:List Bx}(κ:IntKind)(n:Int):VR E w vw (.v (.int κ) n) (.int κ n):=⟨rfl,by simp[Rd]⟩
theorem VR.bool{vw:List Bx}(b:Bool):VR E w vw (.v .bool b) (.bool b):=⟨rfl,by simp[Rd]⟩
theorem VR.str{vw:List Bx}(s:ZC):VR E w vw (.v .str s) (.string ⟨s.toArray⟩):=⟨rfl,by simp[Rd]⟩
theorem Eh(s:ZC):ByteArray.toList ⟨s.toArray⟩=s:=by
 have:∀(n i:Nat) (r:ZC),n=s.length-i→ByteArray.toList.loop ⟨s.toArray⟩ i r=r.reverse++s.drop i:=by
  intro n
  induction n with
  |zero=>
   intro i r hn;unfold ByteArray.toList.loop;rw[Zp (by simp[ByteArray.size];omega),List.drop_of_length_le (by omega)];simp
  |succ n ih=>
   intro i r hn;unfold ByteArray.toList.loop;have hi:i<s.length:=by omega
   rw[Zn (by simpa[ByteArray.size]using hi),ih (i+1) _ (by omega)];have:(⟨s.toArray⟩:ByteArray).get! i=s[i]:=by
    simp[ByteArray.get!,hi]
   rw[this,Z7 hi];simp
 unfold ByteArray.toList;rw[this _ 0 [] rfl];simp
theorem NI(a b:ZC):(⟨a.toArray⟩:ByteArray)++⟨b.toArray⟩=⟨(a++b).toArray⟩:=by
 apply ByteArray.ext;simp
theorem N8(op:BinOp)(t:TypeId)(x y:Operand)(u v:Value)(hu:∀l,u≠ .agg l)(hn:u≠ .nilIface)(w:World):(eqGuard op t x y u v).run P w= .ok () w:=by
 unfold eqGuard;by_cases h:(op matches .eql| .neq)=true
 ·cases u<;>first
   |(exfalso;exact hn rfl)
   |(exfalso;exact hu _ rfl)
   |(cases v<;>simp[h])
 ·simp[h]
  exact fun hh=>absurd hh h
theorem OH{op:BinOp}{κ:IntKind}{m n:Int}{k:AV→Option Y}{y:Y}(e:H4 op κ m n k=some y)(t:TypeId)(w:World):
  ∃z v,k z=some y∧(binOp op t (.int κ m) (.int κ n)).run P w= .ok v w∧ ∀E vw,VR E w vw z v:=by
 cases op with
 |add=>exact⟨_,.int κ (κ.wrap (m+n)),e,by simp[binOp,Op.intArith],fun _ _=>VR.int _ _⟩
 |sub=>exact⟨_,.int κ (κ.wrap (m-n)),e,by simp[binOp,Op.intArith],fun _ _=>VR.int _ _⟩
 |mul=>exact⟨_,.int κ (κ.wrap (m*n)),e,by simp[binOp,Op.intArith],fun _ _=>VR.int _ _⟩
 |and=>exact⟨_,.int κ (κ.wrap (BitVec.ofInt κ.bits m &&& BitVec.ofInt κ.bits n).toNat),e,by simp[binOp,Op.intBits],fun _ _=>VR.int _ _⟩
 |or=>exact⟨_,.int κ (κ.wrap (BitVec.ofInt κ.bits m ||| BitVec.ofInt κ.bits n).toNat),e,by simp[binOp,Op.intBits],fun _ _=>VR.int _ _⟩
 |xor=>exact⟨_,.int κ (κ.wrap (BitVec.ofInt κ.bits m ^^^ BitVec.ofInt κ.bits n).toNat),e,by simp[binOp,Op.intBits],fun _ _=>VR.int _ _⟩
 |andNot=>exact⟨_,.int κ (κ.wrap (BitVec.ofInt κ.bits m &&& ~~~BitVec.ofInt κ.bits n).toNat),e,by simp[binOp,Op.intBits],fun _ _=>VR.int _ _⟩
 |eql=>exact⟨_,.bool (m==n),e,by simp[binOp,Op.intCmp],fun _ _=>VR.bool _⟩
 |neq=>exact⟨_,.bool (m !=n),e,by simp[binOp,Op.intCmp],fun _ _=>VR.bool _⟩
 |lss=>exact⟨_,.bool (decide (m<n)),e,by simp[binOp,Op.intCmp],fun _ _=>VR.bool _⟩
 |leq=>exact⟨_,.bool (decide (m≤n)),e,by simp[binOp,Op.intCmp],fun _ _=>VR.bool _⟩
 |gtr=>exact⟨_,.bool (decide (m>n)),e,by simp[binOp,Op.intCmp],fun _ _=>VR.bool _⟩
 |geq=>exact⟨_,.bool (decide (m≥n)),e,by simp[binOp,Op.intCmp],fun _ _=>VR.bool _⟩
 |quo=>
  simp only[H4]at e;split at e
  ·cases e
  ·rename_i hz
   exact⟨_,.int κ (κ.wrap (m.tdiv n)),e,by simp[binOp,Op.intDiv,hz],fun _ _=>VR.int _ _⟩
 |rem=>
  simp only[H4]at e;split at e
  ·cases e
  ·rename_i hz
   exact⟨_,.int κ (m.tmod n),e,by simp[binOp,Op.intDiv,hz],fun _ _=>VR.int _ _⟩
 |_=>simp[H4]at e
theorem H6{op:BinOp}{κ κ':IntKind}{m n:Int}{k:AV→Option Y}{y:Y}(e:Ft op κ m n k=some y)(t:TypeId)(w:World):
  ∃z v,k z=some y∧(binOp op t (.int κ m) (.int κ' n)).run P w= .ok v w∧ ∀E vw,VR E w vw z v:=by
 unfold Ft at e;split at e
 ·cases e
 ·rename_i hn
  cases op with
  |shl=>exact⟨_,.int κ (κ.wrap (m*2^min n.toNat κ.bits)),e,by simp[binOp,Op.shift,hn],fun _ _=>VR.int _ _⟩
  |shr=>exact⟨_,.int κ (m.fdiv (2^min n.toNat κ.bits)),e,by simp[binOp,Op.shift,hn],fun _ _=>VR.int _ _⟩
  |_=>simp at e
theorem Nq{op:BinOp}{s u:ZC}{k:AV→Option Y}{y:Y}(e:I6 op s u k=some y)(t:TypeId)(w:World):
  ∃z v,k z=some y∧(binOp op t (.string ⟨s.toArray⟩) (.string ⟨u.toArray⟩)).run P w= .ok v w∧ ∀E vw,VR E w vw z v:=by
 have h1:=Eh s;have h2:=Eh u;cases op with
 |eql=>exact⟨_,.bool (s==u),e,by simp[binOp,Op.stringOp,h1,h2],fun _ _=>VR.bool _⟩
 |neq=>exact⟨_,.bool (!(s==u)),e,by simp[binOp,Op.stringOp,h1,h2],fun _ _=>VR.bool _⟩
 |lss=>exact⟨_,.bool (Op.bytesLess s u),e,by simp[binOp,Op.stringOp,h1,h2],fun _ _=>VR.bool _⟩
 |leq=>exact⟨_,.bool (Op.bytesLess s u||s==u),e,by simp[binOp,Op.stringOp,h1,h2],fun _ _=>VR.bool _⟩
 |gtr=>exact⟨_,.bool (!(Op.bytesLess s u||s==u)),e,by simp[binOp,Op.stringOp,h1,h2],fun _ _=>VR.bool _⟩
 |geq=>exact⟨_,.bool (!Op.bytesLess s u),e,by simp[binOp,Op.stringOp,h1,h2],fun _ _=>VR.bool _⟩
 |add=>
  simp only[I6]at e;split at e
  ·rename_i hl
   refine⟨_,.string ⟨(s++u).toArray⟩,e,?_,fun _ _=>VR.str _⟩;have hs:(⟨s.toArray⟩:ByteArray).size=s.length:=by simp[ByteArray.size]
   have hu:(⟨u.toArray⟩:ByteArray).size=u.length:=by simp[ByteArray.size]
   have KB: ¬(((⟨s.toArray⟩:ByteArray).size+(⟨u.toArray⟩:ByteArray).size:Nat):Int)>IntKind.i64.max:=by
    rw[hs,hu];simp only[GC,IntKind.max,IntKind.signed,IntKind.bits]at hl⊢;simp;omega
   simp only[binOp,Op.stringOp,Sem.run_ite,Zp KB,NI];rfl
  ·cases e
 |_=>simp[I6]at e
theorem M4{d:TD}{x z:AV}{p:Bool}(e:LS d x z=some p){E:Env}{w:World}{vw:List Bx}{v u:Value}(hx:VR E w vw x v)(hz:VR E w vw z u){t:TypeId}
  (hu:ID P t d) (n:Nat):(Op.equalIn (n+1) t v u).run P w= .ok p w∧d.agg=false:=by
 unfold LS at e;split at e
 ·rename_i κ j a k b
  split at e
  ·rename_i hj
   subst hj;cases e;rw[Gv hx,Gv hz];exact⟨run_equalIn_int (P:=P) w n t j κ a b hu,rfl⟩
  ·cases e
 ·cases e
  rw[Dx hx,Dx hz];exact⟨run_equalIn_bool' (P:=P) w n t _ _ hu,rfl⟩
 ·cases e
  rename_i a b;rw[FQ hx,FQ hz];have q:=run_equalIn_string (P:=P) w n t ⟨a.toArray⟩ ⟨b.toArray⟩ hu;rw[Eh,Eh]at q;exact⟨q,rfl⟩
 ·cases e
theorem H9{T:Bw}(hT:Av P T){E:Env}{w:World}{vw:List Bx}{xs ys:Array Value}:∀{fields:List Field} {i:Nat} {l m:List AV} {vs us:List Value} {r:Bool},
  (∀f∈fields,f.name≠ "_")→Ir E w vw l vs→Ir E w vw m us→B_ T i (fields.map fun f=>(f.offset,f.type)) l m=some r→
  (∀(j:Nat) v,vs[j]? =some v→xs[i+j]? =some v)→(∀(j:Nat) v,us[j]? =some v→ys[i+j]? =some v)→(Op.eqFields 9999 xs ys fields).run P w= .ok r w
 |[],i,[],[],_,_,r,_,_,_,e,_,_=>by
  simp only[bE,B_,ZU]at e;subst e;simp[Op.eqFields]
 |f::fs,i,x::l,z::m,v::vs,u::us,r,hn,hx,hz,e,h1,h2=>by
  simp only[av,B_]at e;split at e
  case isFalse=>cases e
  rename_i ho;have hv:=h1 0 v rfl;have hu:=h2 0 u rfl;simp only[aP]at hv hu;have Ue:=hn f (by simp);split at e
  case h_2=>cases e
  rename_i ti Dw;split at e
  case h_2=>cases e
  rename_i p hp;simp only[ZV]at e;obtain⟨r',e',rfl⟩:=e;have Vk:=H9 hT (fields:=fs) (i:=i+1) (l:=l) (m:=m) (vs:=vs) (us:=us) (r:=r') (fun f hf=>hn f (by simp[hf])) hx.2 hz.2 e'
   (fun j v' hj=>by have:=h1 (j+1) v' (by simpa using hj);rwa [show i+(j+1)=i+1+j by omega]at this)
   (fun j v' hj=>by have:=h2 (j+1) v' (by simpa using hj);rwa [show i+(j+1)=i+1+j by omega]at this)
  have JG:=(hT f.type ti Dw).Q4;obtain⟨q,na⟩:=M4 (P:=P) hp hx.1 hz.1 (t:=f.type) JG 9998;have JE:=Av.isAgg hT Dw w;rw[na]at JE;have p1:(part f.type xs f.offset).run P w= .ok v w:=by simp[part,JE,ho,hv]
  have p2:(part f.type ys f.offset).run P w= .ok u w:=by simp[part,JE,ho,hu]
  simp only[Op.eqFields,Ue,ne_eq,not_false_eq_true,an,Sem.run_bind,p1,p2,Result.andThen_ok,q,Vk,Sem.run_ite,Sem.run_pure];cases p<;>simp
 |[],_,_::_,_,_,_,_,_,_,_,e,_,_=>by simp[B_]at e
 |[],_,[],_::_,_,_,_,_,_,_,e,_,_=>by simp[B_]at e
 |_::_,_,[],_,_,_,_,_,_,_,e,_,_=>by simp[B_]at e
 |_::_,_,x::_,[],_,_,_,_,_,_,e,_,_=>by simp[B_]at e
 |_::_,_,_::_,_::_,[],_,_,_,hx,_,_,_,_=>hx.elim
 |_::_,_,_::_,_::_,_::_,[],_,_,_,hz,_,_,_=>hz.elim
theorem Ln(op:BinOp)(t:TypeId)(p q:Bool)(hu:P.underlying t=some .bool)(w:World):(op= .eql→(binOp op t (.bool p) (.bool q)).run P w= .ok (.bool (p==q)) w)∧
  (op= .neq→(binOp op t (.bool p) (.bool q)).run P w= .ok (.bool (!(p==q))) w):=by
 have h:=run_equalIn_bool' (P:=P) w 9999 t p q hu;constructor
 ·rintro rfl
  simp only[binOp,Op.equal,Op.maxDepth,Sem.run_bind,h,Result.andThen_ok,Sem.run_pure]
 ·rintro rfl
  simp only[binOp,Op.equal,Op.maxDepth,Sem.run_bind,h,Result.andThen_ok,Sem.run_pure]
theorem IF{T:Bw}(hT:Av P T){t:Nat}{op:BinOp}{x z:XV}{k:AV→Option Y}{y:Y}(e:OL T t op x z k=some y){E:Env}{w:World}{vw:List Bx}{v u:Value}
  (hx:XR E w vw x v) (hz:XR E w vw z u) (ox oz:Operand):
  ∃r val,k r=some y∧(do eqGuard op t ox oz v u;binOp op t v u:Sem Value).run P w= .ok val w∧VR E w vw r val:=by
 have guard:∀(v u:Value),(∀l,v≠ .agg l)→v≠ .nilIface→ ∀val,(binOp op t v u).run P w= .ok val w→(do eqGuard op t ox oz v u;binOp op t v u:Sem Value).run P w= .ok val w:=by
  intro v u h1 h2 val h;rw[Sem.run_bind,N8 op t ox oz v u h1 h2 w,Result.andThen_ok,h]
 unfold OL at e;split at e
 ·rename_i j m j' n
  have hv:=Gv (E:=E) (vw:=vw) hx;have hu:=Gv (E:=E) (vw:=vw) hz;subst hv hu;have done:∀(q:∃r val,k r=some y∧(binOp op t (.int j m) (.int j' n)).run P w= .ok val w∧ ∀E vw,VR E w vw r val),∃r val,k r=some y∧(do eqGuard op t ox oz (.int j m) (.int j' n);binOp op t (.int j m) (.int j' n):Sem Value).run P w= .ok val w∧VR E w vw r val:=by
   rintro⟨r,val,h1,h2,h3⟩
   exact⟨r,val,h1,guard _ _ (by simp) (by simp) _ h2,h3 _ _⟩
  split at e
  ·exact done (H6 e t w)
  ·exact done (H6 e t w)
  ·split at e
   ·rename_i hj
    subst hj;exact done (OH e t w)
   ·cases e
 ·rename_i s s'
  have hv:=FQ (E:=E) (vw:=vw) hx;have hu:=FQ (E:=E) (vw:=vw) hz;subst hv hu;obtain⟨r,val,h1,h2,h3⟩:=Nq (P:=P) e t w;exact⟨r,val,h1,guard _ _ (by simp) (by simp) _ h2,h3 _ _⟩
 ·rename_i p q
  have hv:=Dx (E:=E) (vw:=vw) hx;have hu:=Dx (E:=E) (vw:=vw) hz;subst hv hu;split at e
  ·rename_i ti Dw
   have JG:=(hT t ti Dw).Q4;split at e
   ·rename_i hd
    rw[hd]at JG;split at e
    ·exact⟨_,_,e,guard _ _ (by simp) (by simp) _ ((Ln _ t p q JG w).1 rfl),VR.bool _⟩
    ·exact⟨_,_,e,guard _ _ (by simp) (by simp) _ ((Ln _ t p q JG w).2 rfl),VR.bool _⟩
    ·cases e
   ·cases e
  ·cases e
 ·rename_i l m
  obtain⟨vs,rfl,FB⟩:=hx;obtain⟨us,rfl,hus⟩:=hz;have key:∀r,((T.fields t).bind fun fs=>B_ T 0 fs l m)=some r→(Op.equalIn 10000 t (.agg vs) (.agg us)).run P w= .ok r w∧P.eqGuardType P.depth t=false:=by
   intro r hr;simp only[ZW]at hr;obtain⟨fs,hf,hr⟩:=hr;unfold Bw.fields at hf;split at hf
   ·rename_i Y6 hd
    cases hf;simp only[ZV]at hd;obtain⟨ti,Dw,hd⟩:=hd;have JG:=(hT t ti Dw).Q4;rw[hd]at JG;obtain⟨fields,hu,hfs,TP,QN,hg⟩:=JG;have T4:P.fieldsOf t=fields:=by simp[Program.fieldsOf,hu]
    have q:=run_equalIn_agg (P:=P) w 9999 t vs us (by rw[T4];exact hu) QN;rw[T4]at q;refine⟨q.trans ?_,hg⟩;subst hfs;exact H9 hT (fun f hf=>(TP f hf).1) FB hus hr (fun j v hj=>by simpa using hj) (fun j v hj=>by simpa using hj)
   ·cases hf
  split at e
  ·rename_i r hr
   obtain⟨q,hg⟩:=key r hr;refine⟨_,_,e,?_,VR.bool r⟩;rw[Sem.run_bind,run_eqGuard_agg (P:=P) w _ t ox oz vs us hg,Result.andThen_ok,run_eql_struct (P:=P) w t vs us,q];rfl
  ·rename_i r hr
   obtain⟨q,hg⟩:=key r hr;refine⟨_,_,e,?_,VR.bool (!r)⟩;rw[Sem.run_bind,run_eqGuard_agg (P:=P) w _ t ox oz vs us hg,Result.andThen_ok,run_neq_struct (P:=P) w t vs us,q];rfl
  ·cases e
 ·cases e
end
end Go.Fw
end
section
namespace Go.Fw
section
variable{Y:Type} {P:Program} {T:Bw} (hT:Av P T) {E:Env} {w:World} {vw:List Bx}
include hT
theorem Rr{t:Nat}{s b:Nat}{fs:List ZE}{rw:Option Ty}(e:T.get t=some ⟨s,b,.st fs,rw⟩):∃fields,P.underlying t=some (.struct fields)∧fields.toList.map (fun f=>(f.offset,f.type))=fs∧
  ∀f∈fields.toList,∃i,P.info? f.type=some i∧i.size≠0:=by
 obtain⟨fields,h1,h2,h3,_⟩:=(hT t _ e).Q4;exact⟨fields,h1,h2,fun f hf=>(h3 f hf).2⟩
omit hT in
theorem Kc{a:Addr}{f:Field}(h:∃i,P.info? f.type=some i∧i.size≠0):(fieldPlace a f).run P w= .ok (a.add f.offset) w:=by
 obtain⟨i,h1,h2⟩:=h;simp[fieldPlace,Go.sizeOf,typeInfo,h1,h2]
theorem EL{t:Nat}{s b:Nat}{fs:List ZE}{rw:Option Ty}(e:T.get t=some ⟨s,b,.st fs,rw⟩){f o u:Nat}(hf:fs[f]? =some (o,u)){a:Addr}:
  (Instr.fieldAt t (.pointer (some a)) f).run P w= .ok (.pointer (some (a.add o))) w:=by
 obtain⟨fields,h1,h2,h3⟩:=Rr hT e;subst h2;simp only[Zy,ZV]at hf;obtain⟨fld,Ts,he⟩:=hf;have hm:=Zb Ts;have VS:fields[f]? =some fld:=by simpa using Ts
 simp only[Zz]at he;simp[Instr.fieldAt,AD h1,VS,Instr.sureAddr,Kc (h3 fld hm),he.1]
theorem Iq{t:Nat}{x z:XV}{f:Nat}(e:My T t x f=some z){v:Value}(hx:XR E w vw x v):∃u,(Instr.fieldAt t v f).run P w= .ok u w∧XR E w vw z u:=by
 unfold My at e;split at e
 case h_2=>cases e
 rename_i s b fs _ Dw;split at e
 case h_2=>cases e
 rename_i o u hf;split at e
 ·rename_i b' j
  cases e;obtain⟨h1,rfl⟩:=hx;exact⟨_,EL hT Dw hf,h1,by rw[Addr.add_eq]⟩
 ·rename_i b' p i sz j
  cases e;obtain⟨h0,h1⟩:=hx;cases v with
  |pointer oa=>
   cases oa with
   |none=>simp[G3]at h0
   |some a=>
    obtain⟨ab,ao,sp⟩:=a;cases sp with
    |some _=>simp[G3]at h0
    |none=>
     refine⟨_,EL hT Dw hf,by rw[Addr.add_eq];rfl,?_⟩;revert h1;split
     ·rintro⟨hp,q,ys,bb,o',len,cap,g1,g2,g3,g4⟩
      refine⟨hp,q,ys,bb,o',len,cap,g1,g2,g3,?_⟩;simp only[Value.pointer.injEq,ZU,Addr.mk.injEq,Z_]at g4;rw[Addr.add_eq,g4.1,g4.2,aZ]
     ·exact fun h=>h
     ·exact fun h=>h
  |_=>simp[G3]at h0
 ·rename_i s r y j
  cases e;obtain⟨bb,o',cs,rfl,h2,h3,h4,h5⟩:=hx;refine⟨_,EL hT Dw hf,bb,o',cs,?_,h2,h3,h4,h5⟩;rw[Addr.add_eq,aZ]
 ·cases e
theorem Jr{t:Nat}{x z:XV}{f:Nat}(e:RS T t x f=some z){v:Value}(hx:XR E w vw x v):∃u,(Instr.field t v f).run P w= .ok u w∧XR E w vw z u:=by
 unfold RS at e;split at e
 case h_2=>cases e
 rename_i s b fs _ l Dw;obtain⟨vs,rfl,FB⟩:=hx;split at e
 case h_2=>cases e
 rename_i o u hf;split at e
 case h_2=>cases e
 rename_i ti XT;obtain⟨fields,h1,h2,h3⟩:=Rr hT Dw;subst h2;simp only[Zy,ZV]at hf;obtain⟨fld,Ts,he⟩:=hf;have VS:fields[f]? =some fld:=by simpa using Ts
 simp only[Zz]at he;obtain⟨rfl,rfl⟩:=he;have JE:=Av.isAgg hT XT w;have CO:=Av.sizeOf hT XT w;split at e
 ·rename_i ha
  cases e;rw[ha]at JE;refine⟨.agg (vs.extract fld.offset (fld.offset+ti.size)),?_,_,rfl,?_⟩
  ·simp[Instr.field,AD h1,VS,asAgg,part,JE,CO]
  ·have:(vs.extract fld.offset (fld.offset+ti.size)).toList=(vs.toList.drop fld.offset).take ti.size:=by
    rw[Array.toList_extract,List.extract_eq_take_drop];simp
   rw[this];exact AJ.take _ (AJ.drop _ FB)
 ·rename_i ha
  simp only[Bool.not_eq_true]at ha;rw[ha]at JE;simp only[ZV]at e;obtain⟨y,hy,rfl⟩:=e;obtain⟨v,hv,hr⟩:=AJ.get FB hy;refine⟨v,?_,hr⟩;have:vs[fld.offset]? =some v:=by simpa using hv
  simp[Instr.field,AD h1,VS,asAgg,part,JE,this]
theorem Cl{t:Nat}{r:Ty}(h:T.Dg t r=true):∃e ti,P.underlying t=some (.slice e)∧T.get e=some ti∧ti.size=r.n∧ti.bytes≤512∧ti.row=some r:=by
 unfold Bw.Dg at h;split at h
 ·rename_i ti Dw
  simp only[Zg,Zs]at h;unfold Bw.elem at Dw;split at Dw
  ·rename_i e hd
   simp only[ZV]at hd;obtain⟨tj,h1,h2⟩:=hd;have:=(hT t tj h1).Q4;rw[h2]at this;exact⟨e,ti,this,Dw,h.1.1,h.1.2,h.2⟩
  ·cases Dw
 ·cases h
theorem FR{t:Nat}(h:T.isStr t=true):P.underlying t=some .string:=by
 unfold Bw.isStr at h;split at h
 ·rename_i hd
  simp only[ZV]at hd;obtain⟨tj,h1,h2⟩:=hd;have:=(hT t tj h1).Q4;rw[h2]at this;exact this
 ·cases h
theorem JX{t:Nat}(h:T.Ru t=true):∃e,P.underlying t=some (.slice e):=by
 unfold Bw.Ru at h;split at h
 ·rename_i e hd
  simp only[ZV]at hd;obtain⟨tj,h1,h2⟩:=hd;have:=(hT t tj h1).Q4;rw[h2]at this;exact⟨e,this⟩
 ·cases h
omit hT in
theorem Ba{x:XV}{n:Int}(e:HV x=some n){v:Value}(hx:XR E w vw x v):∃κ,v= .int κ n:=by
 unfold HV at e;split at e
 ·cases e;exact⟨_,Gv (E:=E) (w:=w) (vw:=vw) hx⟩
 ·cases e
theorem Hi{t:Nat}{r:Ty}(h:T.Dg t r=true){κ:IntKind}{i:Int}{a:Addr}{len cap:Nat}(h0:0≤i)(h1:i<(len:Int)):
  (Instr.indexAt t (.slice (some a) len cap) (.int κ i)).run P w= .ok (.pointer (some (a.add (i.toNat*r.n)))) w:=by
 obtain⟨e,ti,hu,Dw,hs,_⟩:=Cl hT h;have CO:=Av.sizeOf hT Dw w;simp[Instr.indexAt,asIntOf,AD hu,h0,h1,CO,hs]
omit hT in
theorem PD{bx:List Bx}{Fs:List ZD}(hB:Cd E w bx bx Fs)(st:∀c,E.S c→E.T c){x:AV}{v:Value}(hv:VR E w bx x v){q:Ty}{ys:List q.D}(e:Ce bx x=some ⟨q,ys⟩):
  ∃a cap,v= .slice a ys.length cap∧ys.length≤cap∧(ys.length=0∨ ∃b o,a=some ⟨b,o,none⟩):=by
 have:=GL (Aq.refl bx) hB st hv e;simp only[Rd]at this;obtain⟨a,cap,h1,h2,h3⟩:=this;simp only[Zo,Z_]at h1;exact⟨a,cap,h1,h2,h3.imp id fun⟨b,o,h,_⟩=>⟨b,o,h⟩⟩
theorem JF{σ:St}{Fs:List ZD}(hB:Cd E w σ.bx σ.bx Fs)(st:∀c,E.S c→E.T c){t:Nat}{x i:XV}{k:K Y}{y:Y}(e:Ja σ T t x i k=some y){v u:Value}
  (hx:XR E w σ.bx x v) (hi:XR E w σ.bx i u):∃z val,k z σ=some y∧(Instr.indexAt t v u).run P w= .ok val w∧XR E w σ.bx z val:=by
 unfold Ja at e;split at e
 ·rename_i s r rows n hn
  obtain⟨κ,rfl⟩:=Ba hn hi;split at e
  case isFalse=>cases e
  rename_i Ib;split at e
  case isFalse=>cases e
  rename_i hb;obtain⟨h0,h1⟩:=hb;simp only[XR,VR,Rd]at hx;obtain⟨a,cap,hv,hl,hx⟩:=hx;simp only[Zo,Z_]at hv;subst hv;rcases hx with hx|⟨b,o,rfl,hb,hx⟩
  ·omega
  ·have CK:n.toNat<rows.length:=by omega
   obtain⟨cs,c1,c2,c3⟩:=hx n.toNat _ (DS CK);refine⟨_,_,e,Hi hT Ib h0 h1,b,o+n.toNat*r.n,cs,?_,by simpa using hb,c1,c2,by simpa using c3⟩;rw[Addr.add_eq];rfl
 ·rename_i b p n hn
  obtain⟨κ,rfl⟩:=Ba hn hi;split at e
  case h_2=>cases e
  rename_i q hq;split at e
  case isFalse=>cases e
  rename_i Ib;split at e
  case isFalse=>cases e
  rename_i hb;obtain⟨h0,h1⟩:=hb
  change VR E w σ.bx (.ref b p) v at hx
  obtain⟨a,cap,rfl,hl,ha⟩:=PD hB st hx hq;rcases ha with ha|⟨b',o,rfl⟩
  ·omega
  ·refine⟨_,_,e,Hi hT Ib h0 h1,by rw[Addr.add_eq];rfl,?_⟩
   simp only[Ce]at hq;obtain⟨_,hx⟩:=hx;revert hx;split
   ·rename_i d r rows Ip
    rw[Ip]at hq;dsimp only at hq
    rintro⟨hp,hg,hh⟩
    exact⟨hp,q.1,q.2,b',o,_,cap,hq,by omega,hh,by rw[Addr.add_eq];rfl⟩
   ·rename_i Ip
    intro _
    trivial
   ·exact fun h=>h
 ·rename_i b p off n' n hn
  obtain⟨κ,rfl⟩:=Ba hn hi;split at e
  case h_2=>cases e
  rename_i q hq;split at e
  case isFalse=>cases e
  rename_i Ib;split at e
  case isFalse=>cases e
  rename_i hb;obtain⟨h0,h1⟩:=hb;simp only[Ce]at hq;obtain⟨h00,hx⟩:=hx;revert hx;split
  ·rename_i d r rows Ip
   rw[Ip]at hq;dsimp only at hq
   rintro⟨hp,q',ys,a,len,cap,g1,g2,g3,rfl⟩
   have Gf:=HZ (Aq.refl _) hB st Ip hp g1 g3;simp only[Rd]at Gf;obtain⟨a',cap',ee,hle,Gf⟩:=Gf;simp only[Zo,Value.slice.injEq,Z_]at ee;obtain⟨rfl,rfl,rfl⟩:=ee;rcases Gf with Gf|⟨b',o,rfl,_,_⟩
   ·omega
   ·unfold Dm
    rw[Zp (by omega)];have VB:q.1=q':=by
     rw[g1]at hq;simp only[aR,ZU]at hq;rw[←hq]
    refine⟨_,_,e,Hi hT Ib h0 h1,by simp only[Option.map];rw[Addr.add_eq,Addr.add_eq];rfl,?_⟩;rw[Ip];refine⟨hp,q',ys,b',o,_,cap,g1,by omega,g3,?_⟩;dsimp only;rw[Addr.add_eq,Addr.add_eq,VB,aZ,←aG];rfl
  ·rename_i B Ip Tx
   exfalso
   cases B with
   |sl d r rows=>exact Ip d r rows rfl
   |_=>rw[Tx]at hq;simp at hq
  ·exact fun h=>h.elim
 ·cases e
theorem Gz{σ:St}{t:Nat}{x i:XV}{k:K Y}{y:Y}(e:Ez T t σ x i k=some y){v u:Value}(hx:XR E w vw x v)(hi:XR E w vw i u):
  ∃z val,k z σ=some y∧(Instr.index t v u).run P w= .ok val w∧XR E w vw z val:=by
 unfold Ez at e;split at e
 ·rename_i s n hn
  obtain⟨κ,rfl⟩:=Ba hn hi;have hv:=FQ (E:=E) (w:=w) (vw:=vw) hx;subst hv;split at e
  case isFalse=>cases e
  rename_i QN;split at e
  case isFalse=>cases e
  rename_i hb;obtain⟨h0,h1⟩:=hb;refine⟨_,.int .u8 ((s.getD n.toNat 0).toNat:Int),e,?_,VR.int (E:=E) (vw:=vw) _ _⟩;have CK:n.toNat<s.length:=by omega
  have:(⟨s.toArray⟩:ByteArray)[n.toNat]? =some s[n.toNat]:=by
   rw[getElem?_pos _ _ (by simpa[ByteArray.size]using CK)];rfl
  simp[Instr.index,asIntOf,AD (FR hT QN),h0,this,CK]
 ·cases e
omit hT in
theorem HL{x z:XV}{i:Nat}(e:Kn x i=some z){v:Value}(hx:XR E w vw x v):∃u,(Instr.extract v i).run P w= .ok u w∧XR E w vw z u:=by
 unfold Kn at e;split at e
 case h_2=>cases e
 rename_i l;obtain⟨vs,rfl,FB⟩:=hx;split at e
 ·rename_i x hx
  cases e;obtain⟨v,hv,hr⟩:=FB.get hx;have:vs[i]? =some v:=by simpa using hv
  exact⟨v,by simp[Instr.extract,this],hr⟩
 ·rename_i q hx
  cases e;obtain⟨v,hv,ws,rfl,hr⟩:=FB.get hx;have:vs[i]? =some (.agg ws):=by simpa using hv
  exact⟨.agg ws,by simp[Instr.extract,this],ws,rfl,hr⟩
 ·cases e
omit hT in
theorem J5{bx:List Bx}{Fs:List ZD}(hB:Cd E w bx bx Fs)(st:∀c,E.S c→E.T c){x:AV}{n:Nat}(e:lenOf bx x=some n){v:Value}(hx:VR E w bx x v):
  ∃a cap,v= .slice a n cap:=by
 cases x with
 |nil=>simp only[lenOf,ZU]at e;subst e;exact⟨_,_,hx⟩
 |sl s r x=>
  simp only[lenOf,ZU]at e;subst e;simp only[VR,Rd]at hx;obtain⟨a,cap,h,_⟩:=hx;simp only[Zo,Z_]at h;exact⟨a,cap,h⟩
 |ref b p=>
  simp only[lenOf]at e;split at e
  ·rename_i d r rows hb
   simp only[ZV]at e;obtain⟨q,hq,rfl⟩:=e;obtain⟨a,cap,h,_⟩:=PD hB st hx (q:=q.1) (ys:=q.2) (by simp only[Ce,hb];exact hq);exact⟨a,cap,h⟩
  ·cases e
 |win b p off m=>
  simp only[lenOf]at e;split at e
  ·rename_i d r rows hb
   cases e;simp only[VR,hb]at hx;obtain⟨_,_,q,ys,a,len,cap,_,_,_,rfl⟩:=hx;exact⟨_,_,rfl⟩
  ·cases e
 |_=>simp[lenOf]at e
omit hT in
theorem D_{big:Bool}{x z:XV}{k:AV→Option Y}{y:Y}(e:NK big x z k=some y){v u:Value}(hx:XR E w vw x v)(hz:XR E w vw z u)(t s:Array TypeId)(tt:TypeId):
  ∃r val,k r=some y∧(if big then Builtin.max_ t tt #[v,u]else Builtin.min_ t tt #[v,u]).run P w= .ok val w∧VR E w vw r val:=by
 unfold NK at e;split at e
 ·rename_i j m j' n
  have hv:=Gv (E:=E) (w:=w) (vw:=vw) hx;have hu:=Gv (E:=E) (w:=w) (vw:=vw) hz;subst hv hu;split at e
  case isFalse=>cases e
  rename_i hj;subst hj;cases big with
  |true=>exact⟨_,.int j (if n>m then n else m),e,by simp[Builtin.max_,Builtin.max2],VR.int _ _⟩
  |false=>exact⟨_,.int j (if n<m then n else m),e,by simp[Builtin.min_,Builtin.min2],VR.int _ _⟩
 ·cases e
omit hT in
theorem Ji{op:UnOp}{x:XV}{k:AV→Option Y}{y:Y}(e:Sp op x k=some y){v:Value}(hx:XR E w vw x v):
  ∃r val,k r=some y∧(Op.unary op v).run P w= .ok val w∧VR E w vw r val:=by
 unfold Sp at e;split at e
 ·have hv:=Dx (E:=E) (w:=w) (vw:=vw) hx
  subst hv;exact⟨_,_,e,by simp[Op.unary],VR.bool _⟩
 ·rename_i j n
  have hv:=Gv (E:=E) (w:=w) (vw:=vw) hx;subst hv;exact⟨_,.int j (j.wrap (0-n)),e,by simp[Op.unary,Op.intArith],VR.int _ _⟩
 ·cases e
end
end Go.Fw
end
section
namespace Go.Fw
theorem DR{a:Ty}(x:a.D):LD rfl x=x:=rfl
theorem Ht{w:World}{S:Nat→Prop}:∀{r:Ty} {d j:Nat} {cs:List Value} {x:r.D} {F:ZD} {t:Ty} {y:t.D},Ow w S d r cs x F→AB r j x=some ⟨t,y⟩→
  ∃v F1 F2,cs[j]? =some v∧Ow w S d t [v] y F1∧F.Perm (F1++F2)∧
   ∀(w':World) (S':Nat→Prop) (v':Value) (y':t.D) (J_:ZD) (x':r.D),(∀b,S b→S' b)→(∀b,S b→w'.heap[b]? =w.heap[b]?)→(∀b∈F2,w'.heap[b]? =w.heap[b]?)→
    Ow w' S' d t [v'] y' J_→Af r j x t y' =some x'→ ∃F',F'.Perm (J_++F2)∧Ow w' S' d r (cs.set j v') x' F'
 | .cons c r,d,0,cs,x,F,t,y,h,e=>by
  simp only[Ow]at h;obtain⟨v,l,A,B,rfl,rfl,h1,h2⟩:=h;simp only[AB,ZU,Zc]at e;obtain⟨rfl,e⟩:=e;obtain rfl:=Zw e;refine⟨v,A,B,rfl,h1,bG _,fun w' S' v' y' J_ x' hS Lr hF ho hx=> ?_⟩;simp only[Af,bA,DR,ZU]at hx;subst hx;refine⟨J_++B,bG _,?_⟩;simp only[Ow,List.set_cons_zero];exact⟨v',l,J_,B,rfl,rfl,ho,Ak hS Lr hF h2⟩
 | .cons c r,d,j+1,cs,x,F,t,y,h,e=>by
  simp only[Ow]at h;obtain⟨v,l,A,B,rfl,rfl,h1,h2⟩:=h;simp only[AB]at e;obtain⟨u,F1,F2,k1,k2,k3,k4⟩:=Ht h2 e;refine⟨u,F1,A++F2,by simpa using k1,k2,?_,fun w' S' v' y' J_ x' hS Lr hF ho hx=> ?_⟩
  ·refine(Zq A k3).trans ?_
   rw[←ZY,←ZY];exact Zh _ Zr
  ·simp only[Af,ZV]at hx
   obtain⟨z,hz,rfl⟩:=hx;obtain⟨F',p1,p2⟩:=k4 w' S' v' y' J_ z hS Lr (fun b hb=>hF b (by simp[hb])) ho hz;refine⟨A++F',?_,?_⟩
   ·refine(Zq A p1).trans ?_
    rw[←ZY,←ZY];exact Zh _ Zr
   ·simp only[Ow,List.set_cons_succ]
    exact⟨v,_,A,F',rfl,rfl,Ak hS Lr (fun b hb=>hF b (by simp[hb])) h1,p2⟩
 | .int k,d,0,cs,x,F,t,y,h,e=>by
  simp only[AB,ZU,Zc]at e;obtain⟨rfl,e⟩:=e;obtain rfl:=Zw e;have hc:=FP h;obtain⟨v,rfl⟩:∃v,cs=[v]:=by
   cases cs with
   |nil=>simp[Ty.n]at hc
   |cons a l=>cases l with
    |nil=>exact⟨a,rfl⟩
    |cons _ _=>simp[Ty.n]at hc
  refine⟨v,F,[],rfl,h,by simp,fun w' S' v' y' J_ x' hS Lr hF ho hx=>⟨J_,by simp,?_⟩⟩;simp only[Af,bA,DR,ZU]at hx;subst hx;exact ho
 | .bool,d,0,cs,x,F,t,y,h,e=>by
  simp only[AB,ZU,Zc]at e;obtain⟨rfl,e⟩:=e;obtain rfl:=Zw e;have hc:=FP h;obtain⟨v,rfl⟩:∃v,cs=[v]:=by
   cases cs with
   |nil=>simp[Ty.n]at hc
   |cons a l=>cases l with
    |nil=>exact⟨a,rfl⟩
    |cons _ _=>simp[Ty.n]at hc
  refine⟨v,F,[],rfl,h,by simp,fun w' S' v' y' J_ x' hS Lr hF ho hx=>⟨J_,by simp,?_⟩⟩;simp only[Af,bA,DR,ZU]at hx;subst hx;exact ho
 | .str,d,0,cs,x,F,t,y,h,e=>by
  simp only[AB,ZU,Zc]at e;obtain⟨rfl,e⟩:=e;obtain rfl:=Zw e;have hc:=FP h;obtain⟨v,rfl⟩:∃v,cs=[v]:=by
   cases cs with
   |nil=>simp[Ty.n]at hc
   |cons a l=>cases l with
    |nil=>exact⟨a,rfl⟩
    |cons _ _=>simp[Ty.n]at hc
  refine⟨v,F,[],rfl,h,by simp,fun w' S' v' y' J_ x' hS Lr hF ho hx=>⟨J_,by simp,?_⟩⟩;simp only[Af,bA,DR,ZU]at hx;subst hx;exact ho
 | .sl r,d,0,cs,x,F,t,y,h,e=>by
  simp only[AB,ZU,Zc]at e;obtain⟨rfl,e⟩:=e;obtain rfl:=Zw e;have hc:=FP h;obtain⟨v,rfl⟩:∃v,cs=[v]:=by
   cases cs with
   |nil=>simp[Ty.n]at hc
   |cons a l=>cases l with
    |nil=>exact⟨a,rfl⟩
    |cons _ _=>simp[Ty.n]at hc
  refine⟨v,F,[],rfl,h,by simp,fun w' S' v' y' J_ x' hS Lr hF ho hx=>⟨J_,by simp,?_⟩⟩;simp only[Af,bA,DR,ZU]at hx;subst hx;exact ho
 | .unit,_,_,_,_,_,_,_,_,e=>by simp[AB]at e
 | .int _,_,_+1,_,_,_,_,_,_,e=>by simp[AB]at e
 | .bool,_,_+1,_,_,_,_,_,_,e=>by simp[AB]at e
 | .str,_,_+1,_,_,_,_,_,_,e=>by simp[AB]at e
 | .sl _,_,_+1,_,_,_,_,_,_,e=>by simp[AB]at e
theorem Jj{Fs:List ZD}{i:Nat}{G G':ZD}(h:Fs[i]? =some G):(Fs.set i G').flatten.Perm (G'++(Fs.set i []).flatten):=by
 have CK:=(ZS.1 h).1;have p1:=EM (Fs:=Fs.set i G') (b:=i) (F:=G') (Zd (by omega));rw[bD]at p1;exact p1
theorem NB{w:World}{S:Nat→Prop}{d:Nat}{q:Ty}{a:Option Addr}{len cap:Nat}{ys:List q.D}{F:ZD}(h:Ow w S (d+1) (.sl q) [.slice a len cap] ys F){i:Nat}(hi:i<ys.length):
  ∃b o arr ty fr cs G R,a=some ⟨b,o,none⟩∧w.heap[b]? =some (.cells arr ty fr)∧Og fr arr.size∧o+i*q.n+q.n≤arr.size∧cs.length=q.n∧AL w b (o+i*q.n) cs∧
   Ow w S d q cs (rowAt q ys i) G∧F.Perm (G++(b::R))∧
   ∀(w':World) (S':Nat→Prop) (Cb:Array Value) (G2:List Value) (GQ:q.D) (G':ZD),(∀c,S c→S' c)→(∀c,S c→w'.heap[c]? =w.heap[c]?)→(∀c∈R,w'.heap[c]? =w.heap[c]?)→
    w'.heap[b]? =some (.cells Cb ty fr)→Cb.size=arr.size→(∀k,(k<o+i*q.n∨o+i*q.n+q.n≤k)→Cb[k]? =arr[k]?)→G2.length=q.n→AL w' b (o+i*q.n) G2→
    Ow w' S' d q G2 GQ G'→ ∃F',F'.Perm (G'++(b::R))∧Ow w' S' (d+1) (.sl q) [.slice a len cap] (ys.set i GQ) F':=by
 simp only[Ow]at h;obtain⟨a',cap',e,hle,h⟩:=h;simp only[Zo,Value.slice.injEq,Z_]at e;obtain⟨rfl,rfl,rfl⟩:=e;rcases h with⟨h1,_⟩|⟨b,o,arr,ty,fr,Fs,rfl,hb,CO,hu,rfl,hFl,GP⟩
 ·omega
 ·have hG:Fs[i]? =some (Fs[i]'(by omega)):=ZT _
  generalize Fs[i]'(by omega)=G at hG
  obtain⟨cs,c1,c2,c3⟩:=GP i _ G (DS hi) hG;have hbound:o+i*q.n+q.n≤arr.size:=by
   have:(i+1)*q.n≤cap*q.n:=Z9 _ (by omega);rw[aG,az]at this;omega
  refine⟨b,o,arr,ty,fr,cs,G,(Fs.set i []).flatten,rfl,hb,fun i hi=>hu i (by omega),hbound,c1,c2,c3,?_,?_⟩
  ·refine(List.Perm.cons b (EM hG)).trans ?_
   exact List.perm_middle.symm
  ·intro w' S' Cb G2 GQ G' hS Lr hR Rp Sv hk Oc Tq ho
   refine⟨b::(Fs.set i G').flatten,?_,?_⟩
   ·refine(List.Perm.cons b (Jj hG)).trans ?_
    exact List.perm_middle.symm
   ·simp only[Ow]
    refine⟨_,cap,by simp,by simpa using hle,.inr ⟨b,o,Cb,ty,fr,Fs.set i G',rfl,Rp,by omega,by rw[Sv];exact hu,rfl,by simpa using hFl,fun k y H hy hH=> ?_⟩⟩;by_cases e:k=i
    ·subst e
     rw[Zd hi]at hy;rw[Zd (by omega)]at hH;cases hy;cases hH;exact⟨G2,Oc,Tq,ho⟩
    ·rw[ZZ (by omega)]at hy
     rw[ZZ (by omega)]at hH;obtain⟨ds,d1,d2,d3⟩:=GP k y H hy hH;refine⟨ds,d1,fun j v hj=> ?_,Ak hS Lr (fun c hc=>hR c (Zt.2 ⟨H,Zb (by rw[ZZ (by omega)];exact hH:(Fs.set i [])[k]? =some H),hc⟩)) d3⟩;have Qa:=(ZS.1 hj).1;have hold:=d2 j v hj;simp only[World.cell?,hb,aT,Z6,aV]at hold;simp only[World.cell?,Rp,aT,Z6,aV];rw[hk,hold];rcases Nat.lt_or_gt_of_ne e with e|e
     ·left
      have:(k+1)*q.n≤i*q.n:=Z9 _ e;rw[aG,az]at this;omega
     ·right
      have:(i+1)*q.n≤k*q.n:=Z9 _ e;rw[aG,az]at this;omega
theorem Kr{w:World}{S:Nat→Prop}:∀{p:List Jn} {d:Nat} {r:Ty} {h:Value} {rows:List r.D} {F:ZD} {q:Ty} {ys:List q.D},Ow w S d (.sl r) [h] rows F→AW r rows p→
  A8 r rows p=some ⟨q,ys⟩→p.length<d→ ∃h' F1 F2,Bm w h p=some h'∧Ow w S (d-p.length) (.sl q) [h'] ys F1∧F.Perm (F1++F2)∧
   ∀(w':World) (S':Nat→Prop) (Lf:List q.D) (J_:ZD) (rows':List r.D),(∀c,S c→S' c)→(∀c,S c→w'.heap[c]? =w.heap[c]?)→(∀c∈F2,w'.heap[c]? =w.heap[c]?)→
    Ow w' S' (d-p.length) (.sl q) [h'] Lf J_→Li r rows p q Lf=some rows'→ ∃F',F'.Perm (J_++F2)∧Ow w' S' d (.sl r) [h] rows' F'
 |[],d,r,h,rows,F,q,ys,ho,_,hg,_=>by
  simp only[A8,ZU,Zc]at hg;obtain⟨rfl,e⟩:=hg;obtain rfl:=Zw e;refine⟨h,F,[],AO,ho,by simp,fun w' S' Lf J_ rows' _ _ _ QC hs=>⟨J_,by simp,?_⟩⟩;simp only[Li,bA,DR,ZU]at hs;subst hs;exact QC
 |s::p,d,r,h,rows,F,q,ys,ho,hp,hg,hd=>by
  obtain⟨d,rfl⟩:∃n,d=n+1:=⟨d-1,by simp at hd;omega⟩;simp only[AW]at hp;obtain⟨hi,CO,hp⟩:=hp;simp only[A8]at hg;obtain⟨a,len,cap,rfl⟩:∃a len cap,h= .slice a len cap:=by
   have:=ho;simp only[Ow]at this;obtain⟨a,cap,e,_⟩:=this;simp only[Zo,Z_]at e;exact⟨_,_,_,e⟩
  split at hg
  case h_2=>cases hg
  rename_i q' x' HY;rw[HY]at hp;obtain⟨b,o,arr,ty,fr,cs,G,R,rfl,hb,hu,hbd,c1,c2,c3,Js,hback⟩:=NB ho hi;obtain⟨v,A1,A2,k1,k2,k3,k4⟩:=Ht c3 HY;obtain⟨h',F1,F2,m1,m2,m3,m4⟩:=Kr k2 hp hg (by simp at hd;omega);have RW:d+1-(s::p).length=d-p.length:=by simp
  refine⟨h',F1,F2++A2++(b::R),?_,by rw[RW];exact m2,?_,?_⟩
  ·simp only[Bm]
   rw[CO,c2 _ _ k1];exact m1
  ·refine Js.trans ?_
   rw[ZY F2,←ZY F1];refine(Zh _ k3).trans ?_
   rw[←ZY (F1++F2)];exact Zh _ (Zh _ m3)
  ·intro w' S' Lf J_ rows' hS Lr VJ QC HD
   rw[RW]at QC;simp only[Li,HY]at HD;simp only[ZW,ZV]at HD;obtain⟨x2,hx2,GQ,hrow,rfl⟩:=HD;obtain⟨B1,p1,p2⟩:=m4 w' S' Lf J_ x2 hS Lr (fun c hc=>VJ c (by simp[hc])) QC hx2;obtain⟨B2,p3,p4⟩:=k4 w' S' v x2 B1 GQ hS Lr (fun c hc=>VJ c (by simp[hc])) p2 hrow;have SI:cs.set s.j v=cs:=by
    apply aW;intro k;by_cases e:k=s.j
    ·subst e
     rw[Zd (ZS.1 k1).1,k1]
    ·rw[ZZ (by omega)]
   rw[SI]at p4;have SJ:=VJ b (by simp);obtain⟨F',p5,p6⟩:=hback w' S' arr cs GQ B2 hS Lr (fun c hc=>VJ c (by simp[hc])) (SJ.trans hb) rfl (fun _ _=>rfl) c1 (c2.of_block SJ) p4;refine⟨F',?_,p6⟩;refine p5.trans ?_
   rw[ZY F2,←ZY J_];refine(Zh _ p3).trans ?_
   rw[←ZY (J_++F2)];exact Zh _ (Zh _ p1)
end Go.Fw
end
section
namespace Go.Fw
def OR(E:Env)(w:World)(vw:List Bx):Option XV→Option Value→Prop
 |none,none=>True
 |some x,some v=>XR E w vw x v
 |_,_=>False
section
variable{Y:Type} {P:Program} {T:Bw} (hT:Av P T) {E:Env} {w:World} {vw:List Bx}
theorem run_sliceBound{κ:IntKind}{i:Int}{y:Nat}{code:BoundsCode}(h0:0≤i)(h1:i≤(y:Int)):(Instr.sliceBound (.int κ i) y code).run P w= .ok i.toNat w:=by
 simp[Instr.sliceBound,asIntOf,h0,h1]
theorem EA{len cap:Nat}(hc:len≤cap){lo hi:Option XV}{k:Nat→Nat→Option Y}{y:Y}(e:Cr len lo hi k=some y){lv hv:Option Value}
  (hl:OR E w vw lo lv) (hh:OR E w vw hi hv) (b:Bool):∃l h,k l h=some y∧l≤h∧h≤len∧(Instr.sliceBounds b len cap lv hv none).run P w= .ok (l,h,cap) w:=by
 unfold Cr at e;dsimp only at e;split at e
 case h_2=>cases e
 rename_i l h el eh;split at e
 case isFalse=>cases e
 rename_i hb;obtain⟨b1,b2,b3⟩:=hb;refine⟨l.toNat,h.toNat,e,by omega,by omega,?_⟩;cases hi with
 |none=>cases hv with
  |some _=>exact hh.elim
  |none=>
   simp only[ZU]at eh;subst eh;cases lo with
   |none=>cases lv with
    |some _=>exact hl.elim
    |none=>
     simp only[ZU]at el;subst el;simp[Instr.sliceBounds]
   |some x=>cases lv with
    |none=>exact hl.elim
    |some v=>
     obtain⟨κ,rfl⟩:=Ba (E:=E) (w:=w) (vw:=vw) el hl;simp[Instr.sliceBounds,run_sliceBound (P:=P) (w:=w) (κ:=κ) (i:=l) (y:=len) b1 (by omega)]
 |some x=>cases hv with
  |none=>exact hh.elim
  |some v=>
   obtain⟨κ,rfl⟩:=Ba (E:=E) (w:=w) (vw:=vw) eh hh;have e1:=fun code=>run_sliceBound (P:=P) (w:=w) (κ:=κ) (i:=h) (y:=cap) (code:=code) (by omega) (by omega)
   cases lo with
   |none=>cases lv with
    |some _=>exact hl.elim
    |none=>
     simp only[ZU]at el;subst el;simp[Instr.sliceBounds,e1]
   |some x=>cases lv with
    |none=>exact hl.elim
    |some v=>
     obtain⟨κ',rfl⟩:=Ba (E:=E) (w:=w) (vw:=vw) el hl;have e2:=fun code=>run_sliceBound (P:=P) (w:=w) (κ:=κ') (i:=l) (y:=h.toNat) (code:=code) b1 (by omega)
     simp[Instr.sliceBounds,e1,e2]
theorem MH(s:ZC)(l h:Nat):(⟨s.toArray⟩:ByteArray).extract l h=⟨((s.drop l).take (h-l)).toArray⟩:=by
 apply ByteArray.ext;simp[List.extract_eq_take_drop]
include hT
theorem Ig{σ:St}{Fs:List ZD}(hB:Cd E w σ.bx σ.bx Fs)(st:∀c,E.S c→E.T c){t:Nat}{x:XV}{lo hi:Option XV}{k:K Y}{y:Y}(e:JH T t σ x lo hi k=some y)
  {v:Value} {lv hv:Option Value} (hx:XR E w σ.bx x v) (hl:OR E w σ.bx lo lv) (hh:OR E w σ.bx hi hv):
  ∃z val,k z σ=some y∧(Instr.sliceAt t v lv hv none).run P w= .ok val w∧XR E w σ.bx z val:=by
 unfold JH at e;split at e
 ·rename_i s
  split at e
  case isFalse=>cases e
  rename_i QN;have hu:=FR hT QN;have G4:=FQ (E:=E) (w:=w) (vw:=σ.bx) hx;subst G4;obtain⟨l,h,ek,h1,h2,hr⟩:=EA (P:=P) (cap:=s.length) (Zx _) e hl hh false;refine⟨_,.string ⟨((s.drop l).take (h-l)).toArray⟩,ek,?_,VR.str (E:=E) (vw:=σ.bx) _⟩;have hs:(⟨s.toArray⟩:ByteArray).size=s.length:=by simp[ByteArray.size]
  simp[Instr.sliceAt,AD hu,Instr.slice,hs,hr,MH]
 ·rename_i s r rows
  split at e
  case isFalse=>cases e
  rename_i Ib;obtain⟨el,ti,hu,Dw,hs,_⟩:=Cl hT Ib;have CO:=Av.sizeOf hT Dw w
  change VR E w σ.bx (.sl s r rows) v at hx
  have Qb:=hx;simp only[VR,Rd]at Qb;obtain⟨a,cap,G4,hle,_⟩:=Qb;simp only[Zo,Z_]at G4;subst G4;obtain⟨l,h,ek,h1,h2,hr⟩:=EA (P:=P) hle e hl hh true;refine⟨_,Dm r.n l (h-l) a cap,ek,?_,?_⟩
  ·simp[Instr.sliceAt,AD hu,Instr.slice,hr,CO,hs,Dm]
  ·simp only[XR,VR]at hx⊢
   exact Oj hx (by omega)
 ·rename_i b p
  split at e
  case h_2=>cases e
  rename_i q hq;split at e
  case isFalse=>cases e
  rename_i Ib;obtain⟨el,ti,hu,Dw,hs,_⟩:=Cl hT Ib;have CO:=Av.sizeOf hT Dw w
  change VR E w σ.bx (.ref b p) v at hx
  obtain⟨a,cap,rfl,hle,_⟩:=PD hB st hx hq;obtain⟨l,h,ek,h1,h2,hr⟩:=EA (P:=P) hle e hl hh true;refine⟨_,Dm q.1.n l (h-l) a cap,ek,?_,?_⟩
  ·simp[Instr.sliceAt,AD hu,Instr.slice,hr,CO,hs,Dm]
  ·simp only[Ce]at hq
   obtain⟨_,hx⟩:=hx;refine⟨by simp[Dm,isSlice],?_⟩;revert hx;split
   ·rename_i d r rows Ip
    rw[Ip]at hq;dsimp only at hq
    rintro⟨hp,hg,hh⟩
    exact⟨hp,q.1,q.2,a,_,cap,hq,by omega,hh,rfl⟩
   ·exact fun _=>trivial
   ·exact fun h=>h
 ·cases e
omit hT in
theorem Ga{f:Nat→Option AV}:∀{n j:Nat} {l:List AV},Ha f j n=some l→l.length=n∧ ∀(i:Nat) x,l[i]? =some x→f (j+i)=some x
 |0,j,l,e=>by simp only[Ha,ZU]at e;subst e;simp
 |n+1,j,l,e=>by
  simp only[Ha,ZW,ZV]at e;obtain⟨x,hx,l',hl,rfl⟩:=e;obtain⟨h1,h2⟩:=Ga hl;refine⟨by simp[h1],fun i z hz=> ?_⟩;cases i with
  |zero=>simp at hz;subst hz;exact hx
  |succ i=>
   have:=h2 i z (by simpa using hz)
   rwa [show j+1+i=j+(i+1)by omega]at this
omit hT in
theorem Ew{B:Nat→Prop}{t:Ty}{x:t.D}{v:Value}(h:Rd w B t [v] x)(hs:t.scalar=true):VR E w vw (.v t x) v:=by
 refine⟨hs,?_⟩;cases t<;>first
  |(simpa only[Rd]using h)
  |(simp[Ty.scalar]at hs)
omit hT in
theorem P7{s:Bool}{t:Ty}{x:t.D}{v:Value}(h:Rd w (if s then E.S else E.T) t [v] x):VR E w vw (Ol s ⟨t,x⟩) v:=by
 cases t with
 |sl r=>simp only[Ol,VR];exact h
 |int k=>exact Ew h rfl
 |bool=>exact Ew h rfl
 |str=>exact Ew h rfl
 |unit=>trivial
 |cons c r=>trivial
omit hT in
theorem J6{s:Jn}:∀{p:List Jn} {r:Ty} {rows:List r.D} {q:Ty} {ys:List q.D} {t:Ty} {x:List t.D},AW r rows p→A8 r rows p=some ⟨q,ys⟩→s.i<ys.length→s.sz=q.n→
  AB q s.j (rowAt q ys s.i)=some ⟨.sl t,x⟩→AW r rows (p++[s])∧A8 r rows (p++[s])=some ⟨t,x⟩
 |[],r,rows,q,ys,t,x,_,hg,hi,hs,hc=>by
  simp only[A8,ZU,Zc]at hg;obtain⟨rfl,e⟩:=hg;obtain rfl:=Zw e;refine⟨?_,?_⟩
  ·simp only[aj,AW,hc]
   exact⟨hi,hs,trivial⟩
  ·simp only[aj,A8,hc]
 |s'::p,r,rows,q,ys,t,x,hp,hg,hi,hs,hc=>by
  simp only[AW]at hp;obtain⟨h1,h2,hp⟩:=hp;simp only[A8]at hg;split at hg
  ·rename_i q' x' HY
   rw[HY]at hp;obtain⟨a,b⟩:=J6 hp hg hi hs hc;refine⟨?_,?_⟩
   ·simp only[aJ,AW,HY]
    exact⟨h1,h2,a⟩
   ·simp only[aJ,A8,HY]
    exact b
  ·cases hg
omit hT in
theorem LF{s:Jn}:∀{p:List Jn} {h:Value} {b o len cap:Nat} {v:Value},Bm w h p=some (.slice (some ⟨b,o,none⟩) len cap)→w.cell? ⟨b,o+s.i*s.sz+s.j,none⟩=some v→
  Bm w h (p++[s])=some v
 |[],h,b,o,len,cap,v,e,hc=>by
  rw[AO]at e;cases e;simp[Bm,hc,AO]
 |s'::p,h,b,o,len,cap,v,e,hc=>by
  cases h with
  |slice a l c=>
   cases a with
   |none=>simp[Bm]at e
   |some a=>
    simp only[Bm]at e;split at e
    ·rename_i h' hh
     simp only[aJ,Bm,hh];exact LF e hc
    ·cases e
  |_=>simp[Bm]at e
omit hT in
theorem CD{bx:List Bx}{Fs:List ZD}(hB:Cd E w bx bx Fs)(st:∀c,E.S c→E.T c){x z:AV}{i:Nat}(e:Bo bx x i=some z){v:Value}(hx:VR E w bx x v):
  ∃b o u,v= .pointer (some ⟨b,o,none⟩)∧w.cell? ⟨b,o+i,none⟩=some u∧VR E w bx z u:=by
 cases x with
 |BS b j=>
  simp only[Bo]at e;split at e
  ·rename_i cs hb
   obtain⟨F,⟨_,arr,ty,fr,ha,hu,hv⟩,_⟩:=hB.get hb;obtain⟨u,h1,h2⟩:=AJ.get hv e;refine⟨_,_,u,hx.2,?_,h2⟩;simp only[World.cell?,ha,aT,Z6,aV];simpa using h1
  ·cases e
 |Bl b p r sz j=>
  simp only[Bo]at e;split at e
  ·rename_i d q rows hb
   split at e
   case isFalse=>cases e
   rename_i hd;simp only[ZW]at e;obtain⟨⟨q',Lf⟩,hg,e⟩:=e;split at e
   case isFalse=>cases e
   rename_i CO;simp only[ZV]at e;obtain⟨⟨t,y⟩,hc,rfl⟩:=e;simp only[VR,hb]at hx;obtain⟨_,hp,q1,ys,bb,o,len,cap,g1,g2,g3,rfl⟩:=hx;rw[hg]at g1;simp only[ZU,Zc]at g1;obtain⟨rfl,g1⟩:=g1;obtain rfl:=Zw g1;dsimp only at CO hc;obtain⟨F,⟨hd1,ho⟩,hF⟩:=hB.get hb;have Gf:=HZ (Aq.refl bx) hB st hb hp hg g3;have YH:=Gf;simp only[Rd]at Gf;obtain⟨a',cap',ee,hle,Gf⟩:=Gf;simp only[Zo,Value.slice.injEq,Z_]at ee;obtain⟨rfl,rfl,rfl⟩:=ee;rcases Gf with Gf|⟨b1,o1,e7,_,Gf⟩
   ·omega
   ·cases e7
    obtain⟨cs,c1,c2,c3⟩:=Gf r _ (DS g2);obtain⟨u,hu,hur⟩:=Hr c3 hc;have Fo:=c2 _ _ hu;rw[←CO]at Fo;refine⟨_,_,u,rfl,by rw[aZ];exact Fo,?_⟩;cases t with
    |sl t' =>
     simp only[Pw];split
     ·rename_i TZ
      obtain⟨h',F1,F2,m1,m2,_,_⟩:=Kr ho hp hg hd;rw[g3]at m1;cases m1;rw[show d-p.length=0+1 by omega]at m2;obtain⟨b2,o2,arr,ty,fr,cs2,G,R,e2,_,_,_,_,k2,k3,_,_⟩:=NB m2 g2;cases e2;obtain⟨v2,A1,A2,z1,z2,_,_⟩:=Ht k3 hc;have RZ:=k2 _ _ z1;rw[←CO,Fo]at RZ;cases RZ;simp only[Ow]at z2;simp only[VR];exact z2.1
     ·simp only[VR,hb]
      have:=J6 (s:=⟨r,sz,j+i⟩) hp hg g2 CO hc;simp only[Rd]at hur;obtain⟨a2,cap2,e2,_⟩:=hur;simp only[Zo,Z_]at e2;refine⟨by rw[e2];rfl,this.1,⟨_,this.2⟩,LF g3 Fo⟩
    |int k=>exact Ew hur rfl
    |bool=>exact Ew hur rfl
    |str=>exact Ew hur rfl
    |unit=>trivial
    |cons c r=>trivial
  ·cases e
 |Cn s r y j=>
  simp only[Bo,ZV]at e;obtain⟨⟨t,y'⟩,hc,rfl⟩:=e;obtain⟨bb,o,cs,rfl,h2,h3,h4,h5⟩:=hx;obtain⟨u,hu,hur⟩:=Hr h5 hc;refine⟨_,_,u,rfl,by rw[aZ];exact h4 _ _ hu,P7 hur⟩
 |_=>simp[Bo]at e
omit hT in
theorem HI{bx:List Bx}{Fs:List ZD}(hB:Cd E w bx bx Fs)(st:∀c,E.S c→E.T c){x:AV}{v:Value}(hx:VR E w bx x v){b o:Nat}(hv:v= .pointer (some ⟨b,o,none⟩)):
  ∀{l:List AV} {j:Nat},(∀(i:Nat) z,l[i]? =some z→Bo bx x (j+i)=some z)→ ∃cs:List Value,cs.length=l.length∧AL w b (o+j) cs∧Ir E w bx l cs
 |[],_,_=>⟨[],rfl,fun _ _ h=>by simp at h,trivial⟩
 |z::l,j,h=>by
  obtain⟨b',o',u,e1,e2,e3⟩:=CD hB st (h 0 z rfl) hx;subst hv;simp only[Value.pointer.injEq,ZU,Addr.mk.injEq,Z_]at e1;obtain⟨rfl,rfl⟩:=e1;obtain⟨cs,c1,c2,c3⟩:=HI hB st hx rfl (l:=l) (j:=j+1) (fun i y hy=>by
   have:=h (i+1) y (by simpa using hy)
   rwa [show j+1+i=j+(i+1)by omega])
  refine⟨u::cs,by simp[c1],fun i y hy=> ?_,e3,c3⟩;cases i with
  |zero=>simp at hy;subst hy;exact e2
  |succ i=>
   have:=c2 i y (by simpa using hy)
   rwa [show o+(j+1)+i=o+j+(i+1)by omega]at this
theorem N_{σ:St}{Fs:List ZD}(hB:Cd E w σ.bx σ.bx Fs)(st:∀c,E.S c→E.T c){t:Nat}{x z:XV}(e:J3 T t σ x=some z){v:Value}(hx:XR E w σ.bx x v):
  ∃u,(Instr.loadAt t v).run P w= .ok u w∧XR E w σ.bx z u:=by
 unfold J3 at e;split at e
 case h_2=>cases e
 rename_i x ti Dw;split at e
 case isTrue=>cases e
 rename_i CO;have JE:=Av.isAgg hT Dw w;split at e
 ·rename_i ha
  rw[ha]at JE;simp only[ZV]at e;obtain⟨l,hl,rfl⟩:=e;obtain⟨h1,h2⟩:=Ga hl;have h0:0<l.length:=by omega
  obtain⟨b,o,u,hv,_,_⟩:=CD hB st (h2 0 _ (ZT h0)) hx;obtain⟨cs,c1,c2,c3⟩:=HI hB st hx hv (l:=l) (j:=0) (fun i y hy=>by simpa using h2 i y hy);subst hv;have JG:=(hT t ti Dw).Q4;cases hd:ti.desc with
  |st fs=>
   rw[hd]at JG;obtain⟨fields,hu,_⟩:=JG;refine⟨.agg cs.toArray,run_loadAt_mid w b o t cs _ (by simpa[AL,World.rangeAt]using c2) hu rfl ?_,cs.toArray,rfl,by simpa using c3⟩;rw[Av.size hT Dw,c1,h1]
  |_=>rw[hd]at ha;simp[TD.agg]at ha
 ·rename_i ha
  simp only[Bool.not_eq_true]at ha;rw[ha]at JE;simp only[ZV]at e;obtain⟨y,hy,rfl⟩:=e;obtain⟨b,o,u,hv,hc,hr⟩:=CD hB st hy hx;subst hv;refine⟨u,?_,hr⟩;simp only[aP]at hc;simp[Instr.loadAt,Instr.sureAddr,loadVar,JE,hc]
end
end Go.Fw
end
section
namespace Go.Fw
theorem Ld{w:World}{S:Nat→Prop}{d:Nat}{q:Ty}:Ow w S d (.sl q) [.slice none 0 0] [] []:=by
 cases d with
 |zero=>simp only[Ow,Rd];exact⟨⟨none,0,rfl,by simp,.inl rfl⟩,trivial⟩
 |succ d=>simp only[Ow];exact⟨none,0,rfl,by simp,.inl ⟨rfl,trivial⟩⟩
theorem RN{w:World}{S:Nat→Prop}{d:Nat}{r:Ty}{a:Option Addr}{len cap:Nat}{ys:List r.D}{F:ZD}(h:Ow w S (d+1) (.sl r) [.slice a len cap] ys F){off n:Nat}(hn:off+n≤ys.length):
  ∃F1 F2,F.Perm (F1++F2)∧Ow w S (d+1) (.sl r) [Dm r.n off n a cap] ((ys.drop off).take n) F1:=by
 simp only[Ow]at h⊢;obtain⟨a',cap',e,hc,h⟩:=h;simp only[Zo,Value.slice.injEq,Z_]at e;obtain⟨rfl,rfl,rfl⟩:=e;have hl:((ys.drop off).take n).length=n:=by simp;omega
 by_cases h0:cap=off
 ·subst h0
  refine⟨[],F,by simp,a,0,by simp[Dm,hl],by rw[hl];omega,.inl ⟨rfl,rfl⟩⟩
 ·rcases h with⟨h,rfl⟩|⟨b,o,arr,ty,fr,Fs,rfl,hb,CO,hu,rfl,hFl,hr⟩
  ·refine⟨[],[],by simp,a.map (·.add (off*r.n)),cap-off,by simp[Dm,hl,h0],by rw[hl];omega,.inl ⟨by omega,rfl⟩⟩
  ·have p:Fs.flatten.Perm (((Fs.drop off).take n).flatten++((Fs.take off).flatten++(Fs.drop (off+n)).flatten)):=by
    have e:Fs=Fs.take off++(((Fs.drop off).take n)++Fs.drop (off+n)):=by
     rw[←bH,a8,a8]
    conv=>lhs;rw[e]
    rw[aD,aD,←ZY,←ZY];exact Zh _ Zr
   refine⟨b::((Fs.drop off).take n).flatten,(Fs.take off).flatten++(Fs.drop (off+n)).flatten,List.Perm.cons b p,some ⟨b,o+off*r.n,none⟩,cap-off,?_,by rw[hl];omega,.inr ⟨b,o+off*r.n,arr,ty,fr,_,rfl,hb,?_,hu,rfl,?_,?_⟩⟩
   ·simp[Dm,h0,hl,Addr.add_eq]
   ·have:off*r.n+(cap-off)*r.n=cap*r.n:=by rw[←aG];congr 1;omega
    omega
   ·rw[hl];simp;omega
   ·intro i y G hy hG
    have hi:=(ZS.1 hy).1;rw[hl]at hi;rw[List.getElem?_take_of_lt hi,af]at hy hG;obtain⟨cs,c1,c2,c3⟩:=hr (off+i) y G hy hG;refine⟨cs,c1,?_,c3⟩;rw[aG,←aZ]at c2;exact c2
theorem Le.keep{E E':Env}(h:Le E E'){w:World}{vw:List Bx}(st:∀c,E.S c→E.T c):D5 E w vw E' w vw:=
 ⟨Zx _,fun b _=>by rw[h.BR],h.T,h.S,st,fun _ _=>rfl,fun b d r rows _ e=>⟨d,rows,e,fun p hp q ys hg=>⟨hp,⟨ys,hg,rfl⟩,fun h' hh=>by rw[h.BT];exact hh⟩⟩⟩
theorem AQ.share{E:Env}{w:World}{vw bx:List Bx}{F W G:ZD}(h:AQ E w vw bx (F++W++G)):
  let E':Env:={ E with S:=fun c=>E.S c∨c∈W,T:=fun c=>E.T c∨c∈W }
  Le E E'∧AQ E' w vw bx (F++G):=by
 intro E';have st:=h.st;have hle:Le E E':=⟨rfl,rfl,fun c hc=> .inl hc,fun c hc=> .inl hc,fun c hc=>hc.elim .inl fun h' => .inr (.inr h'),fun c hc=>hc.elim .inl fun h' => .inr (h.Rg c (by simp[h']))⟩;refine⟨hle,?_⟩;obtain⟨Fs,⟨h1,h2⟩,h3⟩:=h;refine⟨Fs,⟨h1,fun k B F' hk hF=> ?_⟩,?_⟩
 ·have:=h2 k B F' hk hF
  cases B with
  |mem cs=>
   obtain⟨rfl,arr,ty,fr,a1,a2,a3⟩:=this;exact⟨rfl,arr,ty,fr,a1,a2,a3.imp fun _ _ hv=>A3 (hle.keep st) hv⟩
  |sl d r rows=>exact⟨this.1,Ak hle.S (fun _ _=>rfl) (fun _ _=>rfl) this.2⟩
  |dead=>exact this
 ·have h4:Sep E w (W++(Fs.flatten++(F++G))):=h3.perm (by
   rw[ZY F W G,←ZY Fs.flatten,←ZY (Fs.flatten++F),←ZY Fs.flatten F G,←ZY W];exact Zh _ Zr)
  refine⟨(Za.1 h4.nodup).2.1,fun c hc ht=> ?_,fun c hc=>h4.lt c (by simp only[Zk];exact .inr (by simpa using hc)),fun c hc=>hc.imp (st c) id,fun c hc=>hc.elim (h4.HU c) fun h' =>h4.lt c (by simp[h']),h4.NY.mono (fun _ h=> .inl h) (fun _ _=>rfl)⟩;rcases ht with ht|ht
  ·exact h4.free c (Zk.2 (.inr hc)) ht
  ·exact(Za.1 h4.nodup).2.2 c ht c hc rfl
structure BB (E:Env) (w:World) (vw bx:List Bx) (G:ZD) (E':Env) (DN:List Bx) (F:ZD):Prop where
 le:Le E E'
 len:DN.length=bx.length
 within:∀(b:Nat) (B:Bx),DN[b]? =some B→B= .dead∨bx[b]? =some B
 boxes:AQ E' w vw DN (F++G)
theorem BB.refl{E:Env}{w:World}{vw bx:List Bx}{G:ZD}(h:AQ E w vw bx G):BB E w vw bx G E bx []:=
 ⟨Le.refl E,rfl,fun _ _ h=> .inr h,h⟩
theorem Aq.K6{E E':Env}{w:World}{vw bx DN:List Bx}{G F:ZD}(h:Aq bx vw)(k:BB E w vw bx G E' DN F):Aq DN vw:=fun b B e=>
 (k.within b B e).elim .inl (h b B)
theorem Gk{E:Env}{w:World}{vw bx:List Bx}{G:ZD}(h:AQ E w vw bx G)(hw:Aq bx vw){d:Nat}(hd:1≤d){t:Ty}{x:AV}{v:Value}(hv:VR E w vw x v){y:t.D}{DN:List Bx}{d':Nat}
  (e:HG d t x bx=some (y,DN,d')):1≤d'∧d'≤d∧ ∃E' F,BB E w vw bx G E' DN F∧Ow w E'.S (d'-1) t [v] y F:=by
 unfold HG at e;split at e
 ·rename_i u z
  simp only[ZV,Zz]at e;obtain⟨z',e1,rfl,rfl,rfl⟩:=e;obtain⟨e2,e3⟩:=BN e1;subst e2;subst e3;refine⟨hd,Zx _,E,[],BB.refl h,?_⟩;obtain⟨hs,hr⟩:=hv;cases u<;>simp_all[Ty.scalar,Ow,Rd]
 ·split at e
  ·simp only[ZU,Zz]at e
   obtain⟨rfl,rfl,rfl⟩:=e;simp only[VR]at hv;subst hv;exact⟨hd,Zx _,E,[],BB.refl h,Ld⟩
  ·cases e
 ·rename_i r z
  split at e
  ·rename_i q
   simp only[ZV,Zz]at e;obtain⟨z',e1,rfl,rfl,rfl⟩:=e;obtain⟨e2,e3⟩:=BN e1;subst e2;subst e3;refine⟨Zx _,hd,E,[],BB.refl h,?_⟩;simp only[VR]at hv;simp only[Nat.sub_self,Ow];exact⟨by simpa using hv,trivial⟩
  ·cases e
 ·rename_i b
  split at e
  case h_2=>cases e
  rename_i q;split at e
  case h_2=>cases e
  rename_i db r z hb;simp only[ZV,Zz]at e;obtain⟨z',e1,rfl,rfl,rfl⟩:=e;obtain⟨e2,e3⟩:=BN e1;subst e2;subst e3;obtain⟨F0,⟨hd1,ho⟩,hB⟩:=h.take hb;have Xv:v=E.BT b:=by
   simp only[VR,Fe hw hb,AO]at hv;simpa using hv.2.2.2.symm
  subst Xv;obtain⟨F1,W,hp,QC⟩:=B3 (d:=min d (db+1)-1) (by omega) ho;have D2:=hB.perm (Zh G hp);obtain⟨hle,Ey⟩:=D2.share;refine⟨by omega,Nat.min_le_left _ _,_,F1,⟨hle,by simp,fun k B hk=> ?_,Ey⟩,QC⟩;by_cases ek:k=b
  ·subst ek
   rw[Zd (ZS.1 hb).1]at hk;cases hk;exact .inl rfl
  ·rw[ZZ (by omega)]at hk;exact .inr hk
 ·rename_i b off n
  split at e
  case h_2=>cases e
  rename_i q;split at e
  case h_2=>cases e
  rename_i db r z hb;simp only[ZV,Zz]at e;obtain⟨z',e1,rfl,rfl,rfl⟩:=e;obtain⟨e2,e3⟩:=BN e1;subst e2;subst e3;obtain⟨F0,⟨hd1,ho⟩,hB⟩:=h.take hb;simp only[VR,Fe hw hb,AO]at hv;obtain⟨_,_,q',ys,a,len,cap,hg,hn,hh,rfl⟩:=hv;simp only[A8,ZU,Zc]at hg;obtain⟨rfl,hg⟩:=hg;obtain rfl:=Zw hg;simp only[ZU]at hh;rw[hh]at ho;obtain⟨db,rfl⟩:∃m,db=m+1:=⟨db-1,by omega⟩;obtain⟨A1,A2,hp0,Wb⟩:=RN ho hn;obtain⟨F1,W,hp,QC⟩:=B3 (d:=min d (db+1+1)-1) (by omega) Wb;have VE:AQ E w vw (bx.set b .dead) (A1++G):=by
   refine AQ.drop (G':=A2) (hB.perm ?_);refine(Zh G hp0).trans ?_
   rw[ZY,ZY];exact Zq _ Zr
  have D2:=VE.perm (Zh G hp);obtain⟨hle,Ey⟩:=D2.share;refine⟨by omega,Nat.min_le_left _ _,_,F1,⟨hle,by simp,fun k B hk=> ?_,Ey⟩,QC⟩;by_cases ek:k=b
  ·subst ek
   rw[Zd (ZS.1 hb).1]at hk;cases hk;exact .inl rfl
  ·rw[ZZ (by omega)]at hk;exact .inr hk
 ·cases e
theorem Fu{w:World}{vw:List Bx}:∀{r:Ty} {E:Env} {bx:List Bx} {G:ZD} {d:Nat} {l:List AV} {vs:List Value} {y:r.D} {DN:List Bx} {d':Nat},AQ E w vw bx G→Aq bx vw→1≤d→
  Ir E w vw l vs→cellsIn d r l bx=some (y,DN,d')→1≤d'∧d'≤d∧ ∃E' F,BB E w vw bx G E' DN F∧Ow w E'.S (d'-1) r vs y F
 | .unit,E,bx,G,d,[],[],y,DN,d',h,hw,hd,_,e=>by
  simp only[cellsIn,ZU,Zz]at e;obtain⟨_,rfl,rfl⟩:=e;exact⟨hd,Zx _,E,[],BB.refl h,by simp only[Ow];exact⟨trivial,trivial⟩⟩
 | .cons c r,E,bx,G,d,x::l,v::vs,y,DN,d',h,hw,hd,hv,e=>by
  simp only[cellsIn,ZW,ZV,Zz]at e;obtain⟨⟨y1,I2,d1⟩,e1,⟨y2,GD,d2⟩,e2,rfl,rfl,rfl⟩:=e;dsimp only at e2⊢;obtain⟨a1,a2,E1,F1,k1,o1⟩:=Gk h hw hd hv.1 e1;have OO:=k1.le.keep (w:=w) (vw:=vw) h.st;obtain⟨b1,b2,E2,F2,k2,o2⟩:=Fu (G:=F1++G) k1.boxes (hw.K6 k1) a1 (hv.2.imp fun _ _ h=>A3 OO h) e2;obtain⟨A,W,hp,o1'⟩:=B3 (d:=d'-1) (by omega) o1;have hB:=k2.boxes.perm (G':=(F2++A)++W++G) (by
   rw[ZY F2 A W,ZY F2];exact Zq _ (Zh _ hp))
  obtain⟨hle,Ey⟩:=hB.share;refine⟨b1,ai b2 a2,_,A++F2,⟨(k1.le.trans k2.le).trans hle,k2.len.trans k1.len,fun b B hb=>(k2.within b B hb).elim .inl (k1.within b B),Ey.perm (Zh _ Zr)⟩,?_⟩;simp only[Ow];refine⟨v,vs,A,F2,rfl,rfl,?_,?_⟩
  ·refine Ak (S:=fun b=>E1.S b∨b∈W) ?_ (fun _ _=>rfl) (fun _ _=>rfl) o1'
   intro c hc;exact hc.elim (fun h=> .inl (k2.le.S c h)) .inr
  ·refine Ak (S:=E2.S) ?_ (fun _ _=>rfl) (fun _ _=>rfl) o2
   intro c hc;exact .inl hc
 | .unit,_,_,_,_,_::_,_,_,_,_,_,_,_,_,e=>by simp[cellsIn]at e
 | .unit,_,_,_,_,[],_::_,_,_,_,_,_,_,hv,_=>hv.elim
 | .cons _ _,_,_,_,_,[],_,_,_,_,_,_,_,_,e=>by simp[cellsIn]at e
 | .cons _ _,_,_,_,_,_::_,[],_,_,_,_,_,_,hv,_=>hv.elim
 | .int _,_,_,_,_,_,_,_,_,_,_,_,_,_,e=>by simp[cellsIn]at e
 | .bool,_,_,_,_,_,_,_,_,_,_,_,_,_,e=>by simp[cellsIn]at e
 | .str,_,_,_,_,_,_,_,_,_,_,_,_,_,e=>by simp[cellsIn]at e
 | .sl _,_,_,_,_,_,_,_,_,_,_,_,_,_,e=>by simp[cellsIn]at e
theorem Mn{E:Env}{w:World}{vw:List Bx}{x:AV}{v:Value}(h:VR E w vw x v)(hk:x.known=true):v.oneCell' =true∧v.cells= #[v]:=by
 have aux:∀{v:Value},isSlice v=true→v.oneCell' =true∧v.cells= #[v]:=by intro v h;cases v<;>simp_all[isSlice,Value.oneCell',Value.cells]
 have Vv:∀{v:Value},G3 v=true→v.oneCell' =true∧v.cells= #[v]:=by intro v h;cases v<;>simp_all[G3,Value.oneCell',Value.cells]
 cases x with
 |v t y=>
  obtain⟨hs,hr⟩:=h;cases t<;>simp[Ty.scalar]at hs<;>simp only[Rd,Zo,Z_]at hr<;>subst hr<;>exact⟨rfl,rfl⟩
 |sl s r y=>
  simp only[VR,Rd]at h;obtain⟨a,cap,h,_⟩:=h;simp only[Zo,Z_]at h;subst h;exact⟨rfl,rfl⟩
 |nil=>simp only[VR]at h;subst h;exact⟨rfl,rfl⟩
 |ref b p=>exact aux h.1
 |win b p off n=>exact aux h.1
 |BS b j=>rw[h.2];exact⟨rfl,rfl⟩
 |Bl b p i sz j=>exact Vv h.1
 |Cn s r y j=>obtain⟨bb,o,cs,rfl,_⟩:=h;exact⟨rfl,rfl⟩
 |fn f Bu=>rw[h.2];exact⟨rfl,rfl⟩
 |M3 f rows=>obtain⟨ps,rfl,_⟩:=h;exact⟨rfl,rfl⟩
 |Om=>simp only[VR]at h;subst h;exact⟨rfl,rfl⟩
 |undef=>simp[AV.known]at hk
theorem Pd{E:Env}{w:World}{vw:List Bx}:∀{l:List AV} {vs:List Value},Ir E w vw l vs→l.all AV.known=true→ ∀v∈vs,v.oneCell' =true
 |[],[],_,_=>by simp
 |x::l,v::vs,h,hk=>by
  simp only[List.all_cons,Zg]at hk;intro u hu;rcases Z1.1 hu with rfl|hu
  ·exact(Mn h.1 hk.1).1
  ·exact Pd h.2 hk.2 u hu
theorem Ks{E:Env}{w:World}{vw:List Bx}{x:XV}{v:Value}(h:XR E w vw x v)(hk:x.cells.all AV.known=true)(hn:x.cells≠[]):Ir E w vw x.cells v.cells.toList∧ ∀u∈v.cells.toList,u.oneCell' =true:=by
 cases x with
 |c x=>
  have h':VR E w vw x v:=h;obtain⟨h1,h2⟩:=Mn h' (by simpa[XV.cells]using hk);rw[h2];exact⟨⟨h',trivial⟩,by simpa using h1⟩
 |agg l=>
  obtain⟨vs,rfl,FB⟩:=h;exact⟨FB,Pd FB hk⟩
 |D6 l=>simp[XV.cells]at hn
theorem Nw{w:World}{vw:List Bx}{r:Ty}{E:Env}{bx:List Bx}{G:ZD}{d:Nat}{x:XV}{v:Value}{y:r.D}{DN:List Bx}{d':Nat}(h:AQ E w vw bx G)(hw:Aq bx vw)(hd:1≤d)
  (hv:XR E w vw x v) (e:RH d r x bx=some (y,DN,d')):1≤d'∧d'≤d∧ ∃E' F,BB E w vw bx G E' DN F∧Ow w E'.S (d'-1) r v.cells.toList y F:=by
 unfold RH at e;split at e
 ·rename_i l
  obtain⟨vs,rfl,FB⟩:=hv;exact Fu h hw hd FB e
 ·rename_i x
  have G4:VR E w vw x v:=hv;have hk:x.known=true:=by cases x<;>simp_all[AV.known,HG]
  rw[(Mn G4 hk).2];exact Gk h hw hd G4 e
 ·cases e
end Go.Fw
end
section
namespace Go.Fw
def Env.Gp(E:Env)(n:Nat)(h:Value):Env:={ E with BT:=fun k=>if k=n then h else E.BT k }
def Env.Hj(E:Env)(n b:Nat):Env:={ E with BR:=fun k=>if k=n then b else E.BR k }
theorem IK{E E1 E':Env}{w w':World}{vw I2 DN:List Bx}{F:ZD}(k:BB E w vw vw [] E1 I2 F)(st:∀c,E.S c→E.T c)(hlen:vw.length≤DN.length)
  (Ip:∀b B,b<vw.length→DN[b]? =some B→I2[b]? =some B) (Ms:∀b,b<vw.length→E'.BR b=E1.BR b) (HX:∀b,b<vw.length→E'.BT b=E1.BT b) (hT:E'.T=E1.T) (hS:E'.S=E1.S)
  (hw:∀c,c<w.heap.size→c∉F→w'.heap[c]? =w.heap[c]?):D5 E w vw E' w' DN:=by
 have hB:=k.boxes;obtain⟨Fs,⟨h1,h2⟩,h3⟩:=hB;simp only[Zu]at h3;have Ri:∀c,E1.T c→w'.heap[c]? =w.heap[c]?:=fun c hc=>hw c (h3.HU c hc) fun hf=>h3.free c (by simp[hf]) hc
 refine⟨hlen,fun b hb=>by rw[Ms b hb,k.le.BR],fun c hc=>by rw[hT];exact k.le.T c hc,fun c hc=>by rw[hS];exact k.le.S c hc,st,fun c hc=>Ri c (k.le.T c hc),fun b d r rows hb e=> ?_⟩;have e1:=Ip b _ hb e;rcases k.within b _ e1 with e2|e2
 ·cases e2
 ·refine⟨d,rows,e2,fun p hp q ys hg=>⟨hp,⟨ys,hg,rfl⟩,fun h' hh=> ?_⟩⟩
  have hF:Fs[b]? =some (Fs[b]'(by have:=(ZS.1 e1).1;omega)):=ZT _;obtain⟨hd,ho⟩:=h2 b _ _ e1 hF;rw[HX b hb];rw[←k.le.BT]at hh;refine NV ho (fun c hc=>Ri c (h3.st c hc)) (fun c hc=> ?_) hp hg hh;have KC:c∈Fs.flatten:=Zt.2 ⟨_,Zb hF,hc⟩;exact hw c (h3.lt c (by simp[KC])) fun hf=>(Za.1 h3.nodup).2.2 c KC c hf rfl
structure Grown (w w':World):Prop where
 os:w'.os=w.os
 tape:w'.tape=w.tape
 output:w'.output=w.output
 size:w.heap.size≤w'.heap.size
theorem EG{E E1:Env}{σ:St}{a:Act}{w w':World}{I2:List Bx}{F F':ZD}(h:Rel E σ a w)(k:BB E w σ.bx σ.bx [] E1 I2 F){v:Value}{d:Nat}{r:Ty}{rows:List r.D}(hd:1≤d)
  (ho:Ow w' E1.S d (.sl r) [v] rows F') (VL:∀c∈F',c∈F∨w.heap.size≤c) (nd:F'.Nodup) (CK:∀c∈F',c<w'.heap.size) (hw:∀c,c<w.heap.size→c∉F→w'.heap[c]? =w.heap[c]?) (g:Grown w w'):
  let E':=E1.Gp I2.length v
  Rel E' { σ with bx:=I2++[.sl d r rows] } a w'∧DZ [] E σ.bx w E' (I2++[.sl d r rows]) w'∧XR E' w' (I2++[.sl d r rows]) (.c (.ref I2.length [])) v:=by
 intro E';have st:=h.bx.st;have hn:=k.len;have keep:D5 E w σ.bx E' w' (I2++[.sl d r rows]):=IK k st (by simp[hn]) (fun b B hb e=>by
   rw[ZX (by omega)]at e;exact e) (fun b _=>rfl) (fun b hb=>by simp[E',Env.Gp];intro e;omega) rfl rfl hw
 have OO:D5 E1 w σ.bx E' w' (I2++[.sl d r rows]):=by
  have k':BB E1 w σ.bx σ.bx [] E1 I2 F:=⟨Le.refl _,k.len,k.within,k.boxes⟩;exact IK k' k.boxes.st (by simp[hn]) (fun b B hb e=>by
   rw[ZX (by omega)]at e;exact e) (fun b _=>rfl) (fun b hb=>by simp[E',Env.Gp];intro e;omega) rfl rfl hw
 obtain⟨Fs,⟨h1,h2⟩,h3⟩:=k.boxes;simp only[Zu]at h3;have Ri:∀c,E1.T c→w'.heap[c]? =w.heap[c]?:=fun c hc=>hw c (h3.HU c hc) fun hf=>h3.free c (by simp[hf]) hc
 have WH:∀c∈Fs.flatten,w'.heap[c]? =w.heap[c]?:=fun c hc=>hw c (h3.lt c (by simp[hc])) fun hf=>(Za.1 h3.nodup).2.2 c hc c hf rfl
 refine⟨⟨h.Cg,h.tm.imp fun _ _ hx=>C2 keep hx,?_⟩,?_,?_⟩
 ·refine⟨Fs++[F'],⟨by simp[h1],fun n B G hB hG=> ?_⟩,?_⟩
  ·by_cases Oa:n<I2.length
   ·rw[ZX Oa]at hB
    rw[ZX (by omega)]at hG;have:=h2 n B G hB hG;have UE:∀c∈G,w'.heap[c]? =w.heap[c]?:=fun c hc=>WH c (Zt.2 ⟨G,Zb hG,hc⟩)
    cases B with
    |mem cs=>
     obtain⟨rfl,arr,ty,fr,a1,a2,a3⟩:=this;exact⟨rfl,arr,ty,fr,(UE (E1.BR n) (by simp)).trans a1,a2,a3.imp fun _ _ hv=>A3 OO hv⟩
    |sl d0 r0 DP=>
     refine⟨this.1,?_⟩;have e0:E'.BT n=E1.BT n:=by simp[E',Env.Gp];intro e;omega
     rw[e0];exact Ak (fun _ hc=>hc) (fun c hc=>Ri c (h3.st c hc)) UE this.2
    |dead=>exact this
   ·have Tx:=(ZS.1 hB).1
    simp at Tx;obtain rfl:n=I2.length:=by omega
    rw[Zf (by omega)]at hB hG;simp[h1]at hB hG;subst hB hG;refine⟨hd,?_⟩;have e0:E'.BT I2.length=v:=by simp[E',Env.Gp]
    rw[e0];exact ho
  ·simp only[aD,Z2,ar,Zu]
   have XS:=Za.1 h3.nodup;refine⟨Za.2 ⟨XS.1,nd,fun x hx y hy e=> ?_⟩,fun c hc ht=> ?_,fun c hc=> ?_,h3.st,fun c hc=>Z0 (h3.HU c hc) g.size,h3.NY.mono (fun _ h=>h) Ri⟩
   ·subst e
    rcases VL x hy with h|h
    ·exact XS.2.2 x hx x h rfl
    ·have:=h3.lt x (by simp[hx]);omega
   ·rcases Zk.1 hc with hc|hc
    ·exact h3.free c (by simp[hc]) ht
    ·rcases VL c hc with h|h
     ·exact h3.free c (by simp[h]) ht
     ·have:=h3.HU c ht;omega
   ·rcases Zk.1 hc with hc|hc
    ·exact Z0 (h3.lt c (by simp[hc])) g.size
    ·exact CK c hc
 ·refine⟨⟨k.le.T,k.le.S,k.le.Rq,k.le.Pe,fun c hc=>Ri c (k.le.T c hc),g.os,g.tape,g.output,g.size⟩,by simp[hn],fun b hb=>⟨by show E1.BR b=_;rw[k.le.BR],?_⟩,fun b hb=> ?_,fun n B B' _ hB D2 Pt=> ?_⟩
  ·have:E'.BT b=E1.BT b:=by simp[E',Env.Gp];intro e;omega
   rw[this,k.le.BT]
  ·have Rh:=(ZS.1 hb).1
   rw[ZX (by omega)];obtain⟨B,hB⟩:∃B,I2[b]? =some B:=⟨_,ZT (by omega)⟩;rcases k.within b B hB with e|e
   ·rw[hB,e]
   ·rw[hb]at e;rw[hB];exact e.symm
  ·have Oa:=(ZS.1 hB).1
   rw[ZX (by omega)]at D2;rcases k.within n B' D2 with e|e
   ·exact absurd e Pt
   rw[hB]at e;cases e;refine⟨EZ.refl Pt,fun c hc=> ?_⟩;have hF:Fs[n]? =some (Fs[n]'(by have:=(ZS.1 D2).1;omega)):=ZT _;have hR:=h2 n B _ D2 hF;have KH:Ob E1 w n B c:=by
    cases B with
    |mem cs=>simp only[Ob]at hc⊢;rw[k.le.BR];exact hc
    |sl d r rows=>simp only[Ob]at hc⊢;rw[k.le.BT];exact hc
    |dead=>exact hc
   rcases Ho hR KH with hs|hs
   ·exact Ri c (h3.st c hs)
   ·exact WH c (Zt.2 ⟨_,Zb hF,hs⟩)
 ·have e0:E'.BT I2.length=v:=by simp[E',Env.Gp]
  refine⟨?_,?_⟩
  ·have:=Fb ho
   simp only[Rd]at this;obtain⟨_,_,e,_⟩:=this;simp only[Zo,Z_]at e;rw[e];rfl
  ·have:(I2++[Bx.sl d r rows])[I2.length]? =some (.sl d r rows):=by simp
   rw[this];exact⟨by simp[AW],⟨_,rfl⟩,by rw[e0,AO]⟩
theorem Kb{E:Env}{σ:St}{a:Act}{w:World}(h:Rel E σ a w){cs:List AV}{arr:Array Value}(ty:TypeId)(hv:Ir E w σ.bx cs arr.toList):
  let E':=E.Hj σ.bx.length w.heap.size
  let w':=w.alloc (.cells arr ty)
  Rel E' (σ.new (.mem cs)) a w'∧DZ [] E σ.bx w E' (σ.new (.mem cs)).bx w'∧XR E' w' (σ.new (.mem cs)).bx (.c (.BS σ.bx.length 0)) (.pointer (some ⟨w.heap.size,0,none⟩)):=by
 intro E' w';have st:=h.bx.st;have hw:∀c,c<w.heap.size→c∉([]:ZD)→w'.heap[c]? =w.heap[c]?:=fun c hc _=>by
  show(w.heap.push (.cells arr ty))[c]? =_
  rw[Array.getElem?_push,Zp (by omega)]
 have Uc:=h.bx;have keep:D5 E w σ.bx E' w' (σ.bx++[.mem cs]):=IK (BB.refl Uc) st (by simp) (fun b B hb e=>by
   rw[ZX (by omega)]at e;exact e) (fun b hb=>by simp[E',Env.Hj];intro e;omega) (fun b _=>rfl) rfl rfl hw
 obtain⟨Fs,⟨h1,h2⟩,h3⟩:=h.bx;simp only[Zu]at h3;have new:w'.heap[w.heap.size]? =some (.cells arr ty):=by
  show(w.heap.push (.cells arr ty))[w.heap.size]? =_
  simp
 refine⟨⟨h.Cg,h.tm.imp fun _ _ hx=>C2 keep hx,?_⟩,?_,?_⟩
 ·refine⟨Fs++[[w.heap.size]],⟨by simp[St.new,h1],fun n B G hB hG=> ?_⟩,?_⟩
  ·simp only[St.new]at hB
   by_cases Oa:n<σ.bx.length
   ·rw[ZX Oa]at hB
    rw[ZX (by omega)]at hG;have:=h2 n B G hB hG;have UE:∀c∈G,w'.heap[c]? =w.heap[c]?:=fun c hc=>hw c (h3.lt c (by simp;exact⟨G,Zb hG,hc⟩)) (by simp)
    have eb:E'.BR n=E.BR n:=by simp[E',Env.Hj];intro e;omega
    cases B with
    |mem cs0=>
     obtain⟨rfl,arr0,ty0,fr,a1,a2,a3⟩:=this;refine⟨by rw[eb],arr0,ty0,fr,?_,a2,a3.imp fun _ _ hv=>A3 keep hv⟩;rw[eb];exact(UE (E.BR n) (by simp)).trans a1
    |sl d0 r0 DP=>exact⟨this.1,Ak (fun _ hc=>hc) (fun c hc=>hw c (h3.HU c (st c hc)) (by simp)) UE this.2⟩
    |dead=>exact this
   ·have Tx:=(ZS.1 hB).1
    simp at Tx;obtain rfl:n=σ.bx.length:=by omega
    rw[Zf (by omega)]at hB hG;simp[h1]at hB hG;subst hB hG;have eb:E'.BR σ.bx.length=w.heap.size:=by simp[E',Env.Hj]
    refine⟨by rw[eb],arr,ty,(0,0),by rw[eb];exact new,fun i _ h=>by omega,hv.imp fun _ _ hv=>A3 keep hv⟩
  ·simp only[aD,Z2,ar,Zu]
   refine⟨Za.2 ⟨h3.nodup,by simp,fun x hx y hy e=> ?_⟩,fun c hc ht=> ?_,fun c hc=> ?_,h3.st,fun c hc=> ?_,h3.NY.mono (fun _ h=>h) (fun c hc=>hw c (h3.HU c hc) (by simp))⟩
   ·subst e
    simp at hy;have:=h3.lt x hx;omega
   ·rcases Zk.1 hc with hc|hc
    ·exact h3.free c hc ht
    ·simp at hc;have:=h3.HU c ht;omega
   ·rcases Zk.1 hc with hc|hc
    ·have:=h3.lt c hc;simp[w'];omega
    ·simp at hc;simp[w'];omega
   ·have:=h3.HU c hc;simp[w'];omega
 ·refine⟨⟨fun _ h=>h,fun _ h=>h,fun _ h=> .inl h,fun _ h=> .inl h,fun c hc=>hw c (h3.HU c hc) (by simp),rfl,rfl,rfl,by simp[w']⟩,by simp[St.new],fun b hb=>⟨?_,rfl⟩,fun b hb=> ?_,fun n B B' _ hB D2 Pt=> ?_⟩
  ·simp[E',Env.Hj];intro e;omega
  ·have Rh:=(ZS.1 hb).1
   simp only[St.new];rw[ZX Rh];exact hb
  ·have Oa:=(ZS.1 hB).1
   simp only[St.new]at D2;rw[ZX Oa,hB]at D2;cases D2;refine⟨EZ.refl Pt,fun c hc=> ?_⟩;have hF:Fs[n]? =some (Fs[n]'(by omega)):=ZT _;rcases Ho (h2 n B _ hB hF) hc with hs|hs
   ·exact hw c (h3.HU c (st c hs)) (by simp)
   ·exact hw c (h3.lt c (Zt.2 ⟨_,Zb hF,hs⟩)) (by simp)
 ·refine⟨by simp[St.new],?_⟩
  simp[E',Env.Hj]
end Go.Fw
end
section
namespace Go.Fw
theorem Bz:∀r:Ty,(A6 r).length=r.n
 | .cons c r=>by simp[A6,Ty.n,Bz r]
 | .unit=>rfl
 | .int _=>rfl
 | .bool=>rfl
 | .str=>rfl
 | .sl _=>rfl
theorem GV{E:Env}{w:World}{vw:List Bx}(t:Ty):VR E w vw (Oo t) (zv t):=by
 cases t<;>first
  |exact VR.int _ _
  |exact VR.bool _
  |exact VR.str _
  |rfl
  |trivial
theorem Ff{E:Env}{w:World}{vw:List Bx}:∀r:Ty,Ir E w vw (GZ r) (A6 r)
 | .cons c r=>⟨GV c,Ff r⟩
 | .unit=>trivial
 | .int k=>⟨GV (.int k),trivial⟩
 | .bool=>⟨GV .bool,trivial⟩
 | .str=>⟨GV .str,trivial⟩
 | .sl r=>⟨GV (.sl r),trivial⟩
theorem I4{w:World}{S:Nat→Prop}{d:Nat}:∀{r:Ty},r.KO=true→Ow w S d r (A6 r) r.z []
 | .cons c r,h=>by
  simp only[Ty.KO,Zg]at h;simp only[Ow,A6];refine⟨_,_,[],[],rfl,rfl,?_,I4 h.2⟩;cases c with
  |sl q=>exact Ld
  |int k=>simp[Ow,zv,Ty.z]
  |bool=>simp[Ow,zv,Ty.z]
  |str=>simp[Ow,zv,Ty.z]
  |unit=>simp[Ty.cell]at h
  |cons _ _=>simp[Ty.cell]at h
 | .unit,_=>by simp[Ow,A6]
 | .int k,_=>by simp[Ow,A6,zv,Ty.z]
 | .bool,_=>by simp[Ow,A6,zv,Ty.z]
 | .str,_=>by simp[Ow,A6,zv,Ty.z]
 | .sl q,_=>Ld
theorem HP{n:Nat}:∀{css:List (List Value)} {ex:List Value} {i j:Nat} {cs:List Value},(∀c∈css,c.length=n)→css[i]? =some cs→j<n→(css.flatten++ex)[i*n+j]? =cs[j]?
 |[],_,_,_,_,_,h,_=>by simp at h
 |c::css,ex,0,j,cs,hl,h,hj=>by
  simp at h;subst h;have:=hl c (by simp);simp only[Z2,ZY,Nat.zero_mul,aM];rw[ZX (by omega)]
 |c::css,ex,i+1,j,cs,hl,h,hj=>by
  have hc:=hl c (by simp);have ih:=HP (css:=css) (ex:=ex) (i:=i) (j:=j) (cs:=cs) (fun c' KH=>hl c' (aO _ KH)) (by simpa using h) hj;simp only[Z2,ZY];rw[Zf (by rw[aG];omega),←ih];congr 1;rw[aG,hc];omega
theorem KE{w:World}{b:Nat}{arr:Array Value}{ty:TypeId}{fr:ZE}(hb:w.heap[b]? =some (.cells arr ty fr)){n:Nat}{css:List (List Value)}{ex:List Value}(ha:arr.toList=css.flatten++ex)
  (hl:∀c∈css,c.length=n) {i:Nat} {cs:List Value} (h:css[i]? =some cs):AL w b (i*n) cs:=by
 intro j v hj;have YD:j<n:=by
  have:=(ZS.1 hj).1;rw[hl cs (Zb h)]at this;exact this
 simp only[World.cell?,hb,aT,Z6,aV];rw[←Array.getElem?_toList,ha,HP hl h YD,hj]
theorem JB{w:World}{S:Nat→Prop}{d b cap:Nat}{r:Ty}{rows:List r.D}{arr:Array Value}{ty:TypeId}{fr:ZE}(hb:w.heap[b]? =some (.cells arr ty fr)){css:List (List Value)}{ex:List Value}
  (ha:arr.toList=css.flatten++ex) (hc:css.length=rows.length) (Rb:rows.length≤cap) (CO:cap*r.n≤arr.size) (hu:Og fr (arr.size+mk r)) {Fs:List ZD} (hF:Fs.length=rows.length)
  (GP:∀(i:Nat) cs y G,css[i]? =some cs→rows[i]? =some y→Fs[i]? =some G→Ow w S d r cs y G):
  Ow w S (d+1) (.sl r) [.slice (some ⟨b,0,none⟩) rows.length cap] rows (b::Fs.flatten):=by
 have hl:∀c∈css,c.length=r.n:=by
  intro c KH;obtain⟨i,hi,rfl⟩:=aA KH;exact FP (GP i _ _ _ (ZT hi) (ZT (by omega)) (ZT (by omega)))
 simp only[Ow];refine⟨_,cap,rfl,Rb,.inr ⟨b,0,arr,ty,fr,Fs,rfl,hb,by omega,hu,rfl,hF,fun i y G hy hG=> ?_⟩⟩;have hi:i<css.length:=by
  have:=(ZS.1 hy).1;omega
 refine⟨css[i],hl _ (aF hi),?_,GP i _ y G (ZT hi) hy hG⟩;rw[aM];exact KE hb ha hl (ZT hi)
theorem JM(n:Nat):Og (0,0) n:=fun i _ h=>by omega
theorem DF{w:World}{o:Obj}{c:Nat}(h:c<w.heap.size):(w.heap.push o)[c]? =w.heap[c]?:=by
 rw[Array.getElem?_push,Zp (by omega)]
section
variable{Y:Type} {P:Program} {T:Bw} (hT:Av P T) {o:Oper} {E:Env} {σ:St} {a:Act} {w:World} {k:K Y} {y:Y}
theorem RU(h:Rel E σ a w){t:TypeId}{x:Operand}(ho:o.op= .box t x)(hk:(σ.ev x).cells.all AV.known=true)(hn:(σ.ev x).cells≠[])(e:k (.c (.BS σ.bx.length 0)) (σ.new (.mem (σ.ev x).cells))=some y):
  CG P o E σ a w k y:=by
 obtain⟨h1,h2⟩:=Ks (h.ev x) hk hn;obtain⟨r1,r2,r3⟩:=Kb h t h1;refine⟨_,_,_,_,_,.inl ?_,r1,r3,r2.any,rfl,e⟩;simp only[execOp,ho,Instr.box,newVar,newRow,Sem.run_bind,run_newObj,Result.andThen_ok,Sem.run_pure];rfl
include hT
theorem row_zero{t:Nat}{r:Ty}(e:T.Il t=some r):∃i z,P.info? t=some i∧i.zero=some z∧z.cells.toList=A6 r∧r.KO=true:=by
 unfold Bw.Il at e;split at e
 ·rename_i ti Dw
  obtain⟨i,h1,_,_,h2⟩:=(hT t ti Dw).info;obtain⟨hg,z,h3,h4⟩:=h2 r e;exact⟨i,z,h1,h3,h4,hg⟩
 ·cases e
theorem PG(h:Rel E σ a w){t:TypeId}(ho:o.op= .alloc t){r:Ty}(hr:T.Il t=some r)(e:k (.c (.BS σ.bx.length 0)) (σ.new (.mem (GZ r)))=some y):CG P o E σ a w k y:=by
 obtain⟨i,z,h1,h2,h3,_⟩:=row_zero hT hr;obtain⟨r1,r2,r3⟩:=Kb (arr:=z.cells) h t (by rw[h3];exact Ff r);refine⟨_,_,_,_,_,.inl ?_,r1,r3,r2.any,rfl,e⟩;simp only[execOp,ho,Instr.alloc,zeroValue,typeInfo,newVar,newRow,Sem.run_bind,run_program,Result.andThen_ok,h1,h2,run_newObj,Sem.run_pure];rfl
end
end Go.Fw
end
section
namespace Go.Fw
def A0(arr:Array Value):Nat→List Value→Array Value
 |_,[]=>arr
 |o,c::l=>A0 (arr.setIfInBounds o c) (o+1) l
theorem B7:∀(l:List Value) (o:Nat) (arr:Array Value),(A0 arr o l).size=arr.size
 |[],_,_=>rfl
 |c::l,o,arr=>by simp[A0,B7 l]
theorem K9(off:Nat):∀(l:List Value) (k:Nat) (arr:Array Value),(l.zipIdx k).foldl (fun cs (q:Value×Nat)=>cs.setIfInBounds (off+q.2) q.1) arr=A0 arr (off+k) l
 |[],_,_=>rfl
 |c::l,k,arr=>by
  simp only[List.zipIdx_cons,aw,A0];rw[K9 off l (k+1)];rfl
theorem FN{E:Env}{w:World}{vw:List Bx}:∀{xs:List AV} {vs:List Value} {cs G2:List AV} {arr:Array Value} {o:Nat},Ir E w vw cs arr.toList→Ir E w vw xs vs→FJ cs o xs=some G2→
  Ir E w vw G2 (A0 arr o vs).toList∧o+xs.length≤cs.length∨(xs=[]∧G2=cs)
 |[],[],cs,G2,arr,o,h,_,e=>by simp only[FJ,ZU]at e;exact .inr ⟨rfl,e.symm⟩
 |x::xs,v::vs,cs,G2,arr,o,h,hx,e=>by
  simp only[FJ]at e;split at e
  case isFalse=>cases e
  rename_i ho;have h1:Ir E w vw (cs.set o x) (arr.setIfInBounds o v).toList:=by
   rw[Array.toList_setIfInBounds];exact AJ.set h hx.1
  rcases FN h1 hx.2 e with⟨h2,h3⟩|⟨rfl,rfl⟩
  ·refine .inl ⟨h2,?_⟩
   simp at h3⊢;omega
  ·cases vs with
   |nil=>exact .inl ⟨h1,by simp;omega⟩
   |cons _ _=>exact hx.2.elim
 |[],_::_,_,_,_,_,_,hx,_=>hx.elim
 |_::_,[],_,_,_,_,_,hx,_=>hx.elim
section
variable{Y:Type} {P:Program} {T:Bw} (hT:Av P T) {o:Oper} {E:Env} {σ:St} {a:Act} {w:World} {k:K Y} {y:Y}
def O7(E:Env)(w:World)(vw:List Bx)(l:List (Nat×XV))(m:List (Nat×Value)):Prop:=AJ (fun x v=>x.1=v.1∧XR E w vw x.2 v.2) l m
theorem Kl(h:Rel E σ a w)(ps:Array (Nat×Operand)):O7 E w σ.bx (ps.toList.map fun q=>(q.1,σ.ev q.2)) (ps.map fun(i,x)=>(i,a.eval x)).toList:=by
 rw[Array.toList_map]
 generalize ps.toList=l
 induction l with
 |nil=>trivial
 |cons q l ih=>exact⟨⟨rfl,h.ev q.2⟩,ih⟩
theorem MM{place:Nat→Option ZE}{i off size:Nat}(hp:place i=some (off,size)){cells:Array Value}{v:Value}{rest:List (Nat×Value)}(h1:v.cells.size=size)(h2:off+v.cells.size≤cells.size):
  Instr.fill place cells ((i,v)::rest)=Instr.fill place (A0 cells off v.cells.toList) rest:=by
 have e:v.cells.zipIdx.foldl (fun cs (q:Value×Nat)=>cs.setIfInBounds (off+q.2) q.1) cells=A0 cells off v.cells.toList:=by
  rw[←Array.foldl_toList];have:(v.cells.zipIdx).toList=v.cells.toList.zipIdx:=by simp
  rw[this];exact K9 off v.cells.toList 0 cells
 conv=>lhs;unfold Instr.fill
 simp only[hp];rw[Zp (by simp;omega)];exact congrArg (fun c=>Instr.fill place c rest) e
theorem Ll{α β:Type}{f:α→Option β}{g:α→β}:∀{l:List α},(∀x∈l,f x=some (g x))→l.mapM f=some (l.map g)
 |[],_=>rfl
 |x::l,h=>by
  simp only[bI,h x (by simp),Ll (l:=l) (g:=g) (fun y hy=>h y (by simp[hy]))];rfl
include hT
theorem Gx{fs:List ZE}{vw:List Bx}:∀{parts:List (Nat×XV)} {vals:List (Nat×Value)} {cs G2:List AV} {arr:Array Value},O7 E w vw parts vals→Ir E w vw cs arr.toList→IL T fs cs parts=some G2→
  ∃Cb:Array Value,Instr.fill (fun i=>(fs[i]?).bind fun q=>((P.info? q.2).map fun i=>(q.1,i.size))) arr vals=some Cb∧Ir E w vw G2 Cb.toList
 |[],[],cs,G2,arr,_,h,e=>by
  simp only[IL,ZU]at e;subst e;exact⟨arr,rfl,h⟩
 |(i,x)::ps,(j,v)::vs,cs,G2,arr,hp,h,e=>by
  obtain⟨⟨Sl,hx⟩,hp⟩:=hp;simp only at Sl hx;subst Sl;simp only[IL]at e;split at e
  case h_2=>cases e
  rename_i off u hf;split at e
  case h_2=>cases e
  rename_i ti Dw;split at e
  case isFalse=>cases e
  rename_i hc;obtain⟨c1,c2,c3⟩:=hc;simp only[ZW]at e;obtain⟨cs1,e1,e2⟩:=e;have Hm:x.cells≠[]:=by intro h0;rw[h0]at c1;simp at c1;omega
  obtain⟨x1,x2⟩:=Ks hx c3 Hm;rcases FN h x1 e1 with⟨s1,s2⟩|⟨s1,_⟩
  ·have CO:v.cells.size=ti.size:=by
    have:=x1.len;rw[←c1,this];simp
   have hlen:=h.len;obtain⟨Cb,f1,f2⟩:=Gx hp s1 e2;refine⟨Cb,?_,f2⟩;have Tf:(fun i=>(fs[i]?).bind fun q=>((P.info? q.2).map fun i=>(q.1,i.size))) i=some (off,ti.size):=by
    have:=Av.size hT Dw;cases hq:P.info? u with
    |none=>simp[hq]at this
    |some iu=>simp[hq]at this;simp[hf,hq,this]
   rw[MM (i:=i) (off:=off) (size:=ti.size) Tf CO (by simp at hlen;omega)];exact f1
  ·exact absurd s1 Hm
 |[],_::_,_,_,_,hp,_,_=>hp.elim
 |_::_,[],_,_,_,hp,_,_=>hp.elim
theorem Oe(h:Rel E σ a w){t:TypeId}{ps:Array (Nat×Operand)}(ho:o.op= .build t ps){s b:Nat}{fs:List ZE}{rw:Option Ty}(Dw:T.get t=some ⟨s,b,.st fs,rw⟩){r:Ty}(hr:T.Il t=some r)
  {cs:List AV} (hb:IL T fs (GZ r) (ps.toList.map fun q=>(q.1,σ.ev q.2))=some cs) (e:k (.agg cs) σ=some y):CG P o E σ a w k y:=by
 obtain⟨i,z,h1,h2,h3,_⟩:=row_zero hT hr;obtain⟨fields,hu,hfs,CO⟩:=Rr hT Dw;obtain⟨Cb,f1,f2⟩:=Gx hT (Kl h ps) (arr:=z.cells) (by rw[h3];exact Ff r) hb;refine CG.same h (v:= .agg Cb) (x:= .agg cs) ?_ ⟨Cb,rfl,f2⟩ e
 have hb:P.built t (ps.map fun(i,x)=>(i,a.eval x)).toList=some Cb:=by
  unfold Program.built;simp only[h1,hu,h2];have hm:fields.toList.mapM (fun f=>(P.info? f.type).map fun i=>(f.offset,i.size))=some (fields.toList.map fun f=>(f.offset,((P.info? f.type).map (·.size)).getD 0)):=by
   refine Ll fun f hf=> ?_
   obtain⟨i',Pp,_⟩:=CO f hf;simp[Pp]
  simp only[hm];rw[←f1];congr 1;funext n;subst hfs;simp only[List.getElem?_toArray,Zy];cases hn:fields.toList[n]? with
  |none=>simp
  |some f=>
   obtain⟨i',Pp,_⟩:=CO f (Zb hn);simp[Pp]
 have:=run_build (P:=P) w t (ps.map fun(i,x)=>(i,a.eval x)) Cb hb;simp only[execOp,ho,Sem.run_bind,this,Result.andThen_ok,Sem.run_pure]
end
end Go.Fw
end
section
namespace Go.Fw
theorem wrap_small{n:Int}(h0:0≤n)(h1:n≤(GC:Int)):IntKind.i64.wrap n=n:=by
 simp only[GC]at h1;unfold IntKind.wrap;simp only[IntKind.bits,IntKind.signed];have e:n%(2^64:Int)=n:=Int.emod_eq_of_lt h0 (by omega);simp only[e];rw[Zp (by simp;omega)]
theorem Au{m:Nat}{zl:List Value}:((List.replicate m zl).flatten).length=m*zl.length:=by
 induction m with
 |zero=>simp
 |succ m ih=>simp only[aa,Z2,Zl,ih,a_];omega
theorem Ca{zl:List Value}:∀{m i:Nat},i<m*zl.length→((List.replicate m zl).flatten)[i]? =zl[i%zl.length]?
 |0,i,h=>by simp at h
 |m+1,i,h=>by
  simp only[aa,Z2];by_cases hi:i<zl.length
  ·rw[ZX hi,Nat.mod_eq_of_lt hi]
  ·have Pp:zl.length≤i:=by omega
   rw[Zf Pp,Ca (by rw[a_]at h;omega),←Nat.mod_eq_sub_mod Pp]
theorem Ge{zero:Array Value}{zl:List Value}(hz:zero.toList=zl)(m:Nat)(h0:zl≠[]):((Array.range (m*zl.length)).map (fun i=>zero[i%zero.size]!)).toList=(List.replicate m zl).flatten:=by
 have hs:zero.size=zl.length:=by rw[←hz];simp
 have Vz:0<zl.length:=List.length_pos_iff.2 h0;apply aW;intro i;by_cases hi:i<m*zl.length
 ·rw[Ca hi]
  have UT:i%zl.length<zl.length:=Nat.mod_lt _ Vz;simp only[Array.toList_map,Array.toList_range,Zy,List.getElem?_range hi,aR,hs];rw[ZT UT];congr 1;subst hz;have Xb:i%zero.size<zero.size:=by rw[hs];exact UT
  simp[Xb,←hs]
 ·have h1:((Array.range (m*zl.length)).map (fun i=>zero[i%zero.size]!)).toList.length≤i:=by simp;omega
  rw[aU h1,aU (by rw[Au];omega)]
section
variable{Y:Type} {P:Program} {T:Bw} (hT:Av P T) {o:Oper} {E:Env} {σ:St} {a:Act} {w:World} {k:K Y} {y:Y}
include hT
theorem Hs{e:Nat}{ti:TI}{r:Ty}(he:T.get e=some ti)(hr:ti.row=some r):∃i z,P.info? e=some i∧i.size=ti.size∧i.bytes=ti.bytes∧i.zero=some z∧z.cells.toList=A6 r∧r.KO=true:=by
 obtain⟨i,h1,h2,h3,h4⟩:=(hT e ti he).info;obtain⟨hg,z,h5,h6⟩:=h4 r hr;exact⟨i,z,h1,h2,h3,h5,h6,hg⟩
theorem QO(h:Rel E σ a w){t:TypeId}{l c:Operand}(ho:o.op= .makeSlice t l c)(e:Mf T t σ (σ.ev l) (σ.ev c) k=some y):CG P o E σ a w k y:=by
 unfold Mf at e;split at e
 case h_2=>cases e
 rename_i el n m hd hl hc;split at e
 case h_2=>cases e
 rename_i r hr;split at e
 case isFalse=>cases e
 rename_i Ib;split at e
 case isFalse=>cases e
 rename_i hb;obtain⟨b0,b1,b2⟩:=hb;obtain⟨el',ti,hu,Dw,hs,Ud,hrow⟩:=Cl hT Ib;obtain⟨i,z,i1,i2,i3,i4,i5,hg⟩:=Hs hT Dw hrow;obtain⟨κ1,e1⟩:=Ba hl (h.ev l);obtain⟨κ2,e2⟩:=Ba hc (h.ev c);have w1:=wrap_small b0 (by omega);have w2:=wrap_small (n:=m) (by omega) b2
 let arr:Array Value:=(Array.range (m.toNat*r.n)).map (fun j=>(if m.toNat*r.n=0 then #[]else z.cells)[j%(if m.toNat*r.n=0 then(#[]:Array Value)else z.cells).size]!)
 have IG:arr.toList=(List.replicate n.toNat (A6 r)).flatten++(List.replicate (m.toNat-n.toNat) (A6 r)).flatten:=by
  have hz:=Bz r;have split:(List.replicate n.toNat (A6 r)).flatten++(List.replicate (m.toNat-n.toNat) (A6 r)).flatten=(List.replicate m.toNat (A6 r)).flatten:=by
   rw[←aD,List.replicate_append_replicate];congr 2;omega
  rw[split];by_cases h0:m.toNat*r.n=0
  ·have:arr.toList=[]:=by simp[arr,h0]
   rw[this]
   symm
   rw[←List.length_eq_zero_iff,Au,hz,h0]
  ·have Hm:A6 r≠[]:=by
    intro he;rw[he]at hz;simp at hz;rw[←hz]at h0;simp at h0
   have:=Ge i5 m.toNat Hm;rw[hz]at this;simp only[arr,Zp h0];exact this
 let w':=w.alloc (.cells arr el')
 have new:w'.heap[w.heap.size]? =some (.cells arr el'):=by
  show(w.heap.push (.cells arr el'))[w.heap.size]? =_
  simp
 have Sa:arr.size=m.toNat*r.n:=by simp[arr]
 have how:Ow w' E.S (8+1) (.sl r) [.slice (some ⟨w.heap.size,0,none⟩) (List.replicate n.toNat r.z).length m.toNat] (List.replicate n.toNat r.z) (w.heap.size::(List.replicate n.toNat ([]:ZD)).flatten):=by
  refine JB new IG (by simp) (by simp;omega) (by omega) (JM _) (by simp) fun i cs y G h1 h2 h3=> ?_
  simp only[List.getElem?_replicate]at h1 h2 h3;split at h1
  ·rename_i hi
   rw[Zn hi]at h2 h3;cases h1;cases h2;cases h3;exact I4 hg
  ·cases h1
 have hF:(List.replicate n.toNat ([]:ZD)).flatten=[]:=by simp
 rw[hF]at how;simp only[List.length_replicate]at how;obtain⟨r1,r2,r3⟩:=EG h (BB.refl h.bx) (w':=w') (d:=9) (by omega) how (by simp) (by simp) (by simp[w']) (fun c hc _=>DF hc) ⟨rfl,rfl,rfl,by simp[w']⟩;refine⟨_,_,_,_,_,.inl ?_,r1,r3,r2.any,rfl,e⟩;have Vq:(i.bytes:Int)*m≤2^48:=by
  have h1:(i.bytes:Int)≤512:=by omega
  have h2:(i.bytes:Int)*m≤512*m:=Int.mul_le_mul_of_nonneg_right h1 (by omega);simp only[GC]at b2;omega
 simp only[execOp,ho,Instr.makeSlice,e1,e2,Sem.run_bind,AD hu,Result.andThen_ok,asInt,asIntOf,Sem.run_pure,typeInfo,run_program,i1,w1,w2];rw[Zp (by simp;omega)];by_cases h0:m.toNat*r.n=0
 ·have e3:arr=(Array.range (m.toNat*r.n)).map (fun j=>(#[]:Array Value)[j%(#[]:Array Value).size]!):=by simp only[arr,Zn h0]
  simp only[Sem.run_bind,run_askRoom,Result.andThen_ok,sizeOf,typeInfo,run_program,i1,Sem.run_pure,i2,hs,h0,an,newRow,run_newObj];simp only[w',e3,h0];rfl
 ·have e3:arr=(Array.range (m.toNat*r.n)).map (fun j=>z.cells[j%z.cells.size]!):=by simp only[arr,Zp h0]
  simp only[Sem.run_bind,run_askRoom,Result.andThen_ok,sizeOf,typeInfo,run_program,i1,Sem.run_pure,i2,hs,h0,aV,newRow,run_newObj,zeroValue,i4];simp only[w',e3];rfl
end
end Go.Fw
end
section
namespace Go.Fw
theorem I5{w:World}{B S:Nat→Prop}{d:Nat}:∀{r:Ty} {cs:List Value} {x:r.D},r.flat=true→Rd w B r cs x→Ow w S d r cs x []
 | .cons c r,cs,x,h,hr=>by
  simp only[Ty.flat,Zg]at h;simp only[Rd]at hr;obtain⟨v,l,rfl,h1,h2⟩:=hr;simp only[Ow];exact⟨v,l,[],[],rfl,rfl,I5 h.1 h1,I5 h.2 h2⟩
 | .unit,_,_,_,hr=>by simp only[Rd]at hr;simp[Ow,hr]
 | .int k,_,_,_,hr=>by simp only[Rd]at hr;simp[Ow,hr]
 | .bool,_,_,_,hr=>by simp only[Rd]at hr;simp[Ow,hr]
 | .str,_,_,_,hr=>by simp only[Rd]at hr;simp[Ow,hr]
 | .sl q,_,_,h,_=>by simp[Ty.flat]at h
theorem JL{P:Program}{w:World}{b o:Nat}{cs:List Value}(h:AL w b o cs):(loadCells ⟨b,o,none⟩ cs.length).run P w= .ok cs.toArray w:=
 run_loadCells_list (P:=P) w ⟨b,o,none⟩ cs fun j v hv=>by rw[Addr.add_eq];exact h j v hv
theorem FE{P:Program}{w:World}(a:Addr):(loadCells a 0).run P w= .ok #[] w:=by
 simpa using run_loadCells_list (P:=P) w a [] (by simp)
theorem E5{l:List Value}:(l.map fun v=>[v]).flatten=l:=by
 induction l with
 |nil=>rfl
 |cons a l ih=>simp[ih]
theorem Nf{w:World}{B:Nat→Prop}{r:Ty}{b o:Nat}{ys:List r.D}(h:∀(i:Nat) (y:r.D),ys[i]? =some y→ ∃cs,cs.length=r.n∧AL w b (o+i*r.n) cs∧Rd w B r cs y):
  ∃css:List (List Value),css.length=ys.length∧(∀c∈css,c.length=r.n)∧AL w b o css.flatten∧ ∀(i:Nat) cs y,css[i]? =some cs→ys[i]? =some y→Rd w B r cs y:=by
 induction ys generalizing o with
 |nil=>exact⟨[],rfl,by simp,fun _ _ h=>by simp at h,fun i cs y h=>by simp at h⟩
 |cons y ys ih=>
  obtain⟨cs,c1,c2,c3⟩:=h 0 y rfl;obtain⟨css,d1,d2,d3,d4⟩:=ih (o:=o+r.n) (fun i z hz=>by
   obtain⟨cs,e1,e2,e3⟩:=h (i+1) z (by simpa using hz);refine⟨cs,e1,?_,e3⟩;rw[aG,az]at e2
   rwa [show o+r.n+i*r.n=o+(i*r.n+r.n)by omega])
  refine⟨cs::css,by simp[d1],by simpa using⟨c1,d2⟩,?_,?_⟩
  ·intro j v hj
   simp only[Z2]at hj;by_cases Qa:j<cs.length
   ·rw[ZX Qa]at hj
    have:=c2 j v hj;simpa using this
   ·rw[Zf (by omega)]at hj
    have:=d3 _ v hj
    rwa [show o+r.n+(j-cs.length)=o+j by omega]at this
  ·intro i G2 z h1 h2
   cases i with
   |zero=>simp at h1 h2;subst h1 h2;exact c3
   |succ i=>exact d4 i G2 z (by simpa using h1) (by simpa using h2)
theorem AL.append{w:World}{b o:Nat}{l m:List Value}(h:AL w b o l)(k:AL w b (o+l.length) m):AL w b o (l++m):=by
 intro j v hj;by_cases Qa:j<l.length
 ·rw[ZX Qa]at hj
  exact h j v hj
 ·rw[Zf (by omega)]at hj
  have:=k _ v hj
  rwa [show o+l.length+(j-l.length)=o+j by omega]at this
section
variable{Y:Type} {P:Program} {T:Bw} (hT:Av P T) {o:Oper} {E:Env} {σ:St} {a:Act} {w:World} {k:K Y} {y:Y}
theorem Bi(hT:Av P T){t:Nat}{d:TD}(e:(T.get t).map TI.desc=some d):ID P t d:=by
 simp only[ZV]at e;obtain⟨ti,h1,rfl⟩:=e;exact(hT t ti h1).Q4
theorem LH{src dst e:Nat}(hs:P.underlying src=some (.slice e))(he:P.underlying e=some (.int .u8))(hd:P.underlying dst=some .string){x:Value}{l:List Int}{B:Nat→Prop}
  (h:Rd w B (.sl (.int .u8)) [x] l):(convert src dst x).run P w= .ok (.string ⟨(l.map fun n:Int=>UInt8.ofNat n.toNat).toArray⟩) w:=by
 simp only[Rd]at h;obtain⟨a,cap,hx,hle,h⟩:=h;simp only[Zo,Z_]at hx;subst hx;rcases h with h|⟨b,o,rfl,_,h⟩
 ·obtain rfl:=Zm h
  cases a with
  |none=>exact run_convert_bytes_nil w src e hs he _ _ dst hd
  |some a=>
   rw[run_convert_bytes_string w src dst e _ _ cap hs he hd];have:=_root_.Go.run_bytesToString (P:=P) w a 0 cap [] (by simpa using FE (P:=P) (w:=w) a);simp only[Zv]at*;rw[this];rfl
 ·refine run_convert_bytes_arg w src e hs he b o _ cap l rfl (fun i hi=> ?_) dst hd
  obtain⟨cs,c1,c2,c3⟩:=h i _ (ZT hi);subst c3;have:=c2 0 _ rfl;simp only[Ty.n,Nat.mul_one,aP]at this;rw[this];simp[List.getD,hi]
include hT in
theorem QU(h:Rel E σ a w){src dst:Nat}{x:Operand}(ho:o.op= .convert src dst x)(e:MU T src dst σ (σ.ev x) k=some y):CG P o E σ a w k y:=by
 have hx:=h.ev x;unfold MU at e;split at e
 ·rename_i κ0 κ j n hs hd hv
  have h1:=Bi hT hs;have h2:=Bi hT hd;rw[hv]at hx;have G4:=Gv (E:=E) (w:=w) (vw:=σ.bx) hx;refine CG.same h (v:= .int κ (κ.wrap n)) (x:= .c (.v (.int κ) (κ.wrap n))) ?_ (VR.int (E:=E) (vw:=σ.bx) _ _) e
  simp only[ID]at h1 h2;simp only[execOp,ho,G4,convert,Sem.run_bind,AD h1,AD h2,Result.andThen_ok,Conv.intToInt,Sem.run_pure]
 ·rename_i s hs hd hv
  have h1:=Bi hT hs;have h2:=Bi hT hd;rw[hv]at hx;have G4:=FQ (E:=E) (w:=w) (vw:=σ.bx) hx;refine CG.same h (v:= .string ⟨s.toArray⟩) (x:= .c (.v .str s)) ?_ (VR.str (E:=E) (vw:=σ.bx) _) e
  simp only[ID]at h1 h2;simp only[execOp,ho,G4,convert,Sem.run_bind,AD h1,AD h2,Result.andThen_ok,Sem.run_pure]
 ·rename_i el s hs hd hv
  have h1:=Bi hT hs;have h2:=Bi hT hd;rw[hv]at hx;have G4:=FQ (E:=E) (w:=w) (vw:=σ.bx) hx;split at e
  case h_2=>cases e
  rename_i Ib;have h3:=Bi hT Ib;split at e
  case isFalse=>cases e
  rename_i KB;simp only[ID]at h1 h2 h3
  let S0:ByteArray:=⟨s.toArray⟩
  have CO:S0.size=s.length:=by simp[S0,ByteArray.size]
  have Lu:=Lib.run_convert_string_bytes (P:=P) w src dst el S0 h1 h2 h3;have Rb:s.length≤grownCap w S0.size 0 el:=by rw[CO];exact grownCap_ge _ _ _ _
  have new:=Lib.bytesWorld_at_new w el S0;have IG:(Lib.bytesCells w el S0).toList=(s.map fun c=>[Value.int .u8 (c.toNat:Int)]).flatten++List.replicate (grownCap w S0.size 0 el-S0.size) (.int .u8 0):=by
   have:(s.map fun c=>[Value.int .u8 (c.toNat:Int)]).flatten=s.map fun c=>Value.int .u8 (c.toNat:Int):=by
    have:=E5 (l:=s.map fun c=>Value.int .u8 (c.toNat:Int));simpa[bF,Function.comp_def]using this
   rw[this];simp[Lib.bytesCells,S0]
  have Sa:(Lib.bytesCells w el S0).size=grownCap w S0.size 0 el:=by
   rw[←ae,IG];have:((s.map fun c=>[Value.int .u8 (c.toNat:Int)]).flatten).length=s.length:=by
    have:=E5 (l:=s.map fun c=>Value.int .u8 (c.toNat:Int));rw[bF]at this;have e2:(s.map fun c=>[Value.int .u8 (c.toNat:Int)])=s.map ((fun v=>[v])∘fun c=>Value.int .u8 (c.toNat:Int)):=rfl;rw[e2,this];simp
   rw[Zl,this,List.length_replicate];omega
  have how:Ow (Lib.bytesWorld w el S0) E.S (8+1) (.sl (.int .u8)) [.slice (some ⟨w.heap.size,0,none⟩) (s.map fun c=>(c.toNat:Int)).length (grownCap w S0.size 0 el)] (s.map fun c=>(c.toNat:Int))
    (w.heap.size::(List.replicate s.length ([]:ZD)).flatten):=by
   refine JB (css:=s.map fun c=>[Value.int .u8 (c.toNat:Int)]) new IG (by simp) (by simpa using Rb) (by simp[Ty.n];omega) (fun i hi hh=>by simp only[mk]at hi;omega) (by simp) fun i cs y G q1 q2 q3=> ?_
   simp only[Zy,ZV]at q1 q2;obtain⟨c1,z1,rfl⟩:=q1;obtain⟨c2,z2,rfl⟩:=q2;rw[z1]at z2;cases z2;have:G=[]:=aC (Zb q3);subst this;simp[Ow]
  have hF:(List.replicate s.length ([]:ZD)).flatten=[]:=by simp
  rw[hF]at how;obtain⟨r1,r2,r3⟩:=EG h (BB.refl h.bx) (w':=Lib.bytesWorld w el S0) (d:=9) (by omega) how (by simp) (by simp) (by simp[Lib.bytesWorld_size]) (fun c hc _=>Lib.bytesWorld_at_old w el S0 c hc)
   ⟨by simp[Lib.bytesWorld,World.freeze]<;>rfl,by simp[Lib.bytesWorld,World.freeze]<;>rfl,by simp[Lib.bytesWorld,World.freeze]<;>rfl,by rw[Lib.bytesWorld_size];omega⟩
  refine⟨_,_,_,_,_,.inl ?_,r1,r3,r2.any,rfl,e⟩;simp only[execOp,ho,G4,Sem.run_bind];have e5:=Lu;simp only[S0]at e5;rw[e5];simp only[Result.andThen_ok,Sem.run_pure,List.length_map];rfl
 ·rename_i el z hs hd hv
  have h1:=Bi hT hs;have h2:=Bi hT hd;rw[hv]at hx;split at e
  case h_2=>cases e
  rename_i l Ib hl;have h3:=Bi hT Ib;simp only[ID]at h1 h2 h3;obtain⟨Fs,hB,hS⟩:=h.bx;have Gf:=ER (Aq.refl σ.bx) hB hS.st hx hl;have hr:=LH (P:=P) h1 h3 h2 Gf;refine CG.same h (v:= .string ⟨(l.map fun n:Int=>UInt8.ofNat n.toNat).toArray⟩) (x:= .c (.v .str (l.map fun n:Int=>UInt8.ofNat n.toNat))) ?_ (VR.str (E:=E) (vw:=σ.bx) _) e
  simp only[execOp,ho,Sem.run_bind,hr,Result.andThen_ok,Sem.run_pure]
 ·cases e
end
end Go.Fw
end
section
namespace Go.Fw
theorem G8:∀(l:List Value) (o:Nat) (arr:Array Value) (p q:List Value),p.length=o→(∃m:List Value,m.length=l.length∧arr.toList=p++m++q)→(A0 arr o l).toList=p++l++q
 |[],o,arr,p,q,hp,⟨m,hm,h⟩=>by
  have:m=[]:=Zm (by simpa using hm);subst this;simpa[A0]using h
 |c::l,o,arr,p,q,hp,⟨m,hm,h⟩=>by
  cases m with
  |nil=>simp at hm
  |cons b m=>
   simp only[A0];have:=G8 l (o+1) (arr.setIfInBounds o c) (p++[c]) q (by simp[hp]) ⟨m,by simpa using hm,by
    rw[Array.toList_setIfInBounds,h];subst hp;simp⟩
   rw[this];simp
theorem BB.more{E E1 E2:Env}{w:World}{vw bx I2 GD:List Bx}{G F1 F2 A W:ZD}(k1:BB E w vw bx G E1 I2 F1)(k2:BB E1 w vw I2 (F1++G) E2 GD F2)(hp:F1.Perm (A++W)):
  let E3:Env:={ E2 with S:=fun c=>E2.S c∨c∈W,T:=fun c=>E2.T c∨c∈W }
  BB E w vw bx G E3 GD (A++F2):=by
 intro E3;have hB:=k2.boxes.perm (G':=(F2++A)++W++G) (by
  rw[ZY F2 A W,ZY F2];exact Zq _ (Zh _ hp))
 obtain⟨hle,Ey⟩:=hB.share;exact⟨(k1.le.trans k2.le).trans hle,k2.len.trans k1.len,fun b B hb=>(k2.within b B hb).elim .inl (k1.within b B),Ey.perm (Zh _ Zr)⟩
theorem F7{w:World}{vw:List Bx}{r:Ty}(hg:r.KO=true):∀{n i:Nat} {parts:List (Nat×XV)} {vals:List (Nat×Value)} {E:Env} {bx:List Bx} {G:ZD} {d:Nat} {rows:List r.D} {DN:List Bx} {d':Nat},
  AQ E w vw bx G→Aq bx vw→1≤d→O7 E w vw parts vals→Fm r i n parts bx d=some (rows,DN,d')→1≤d'∧d'≤d∧rows.length=n∧ ∃(E':Env) (Fs:List ZD) (css:List (List Value)),
   BB E w vw bx G E' DN Fs.flatten∧css.length=n∧Fs.length=n∧(∀(k:Nat) cs y G,css[k]? =some cs→rows[k]? =some y→Fs[k]? =some G→Ow w E'.S (d'-1) r cs y G)∧
   ∀(pre:List (List Value)) (arr:Array Value),pre.length=i→(∀c∈pre,c.length=r.n)→arr.toList=pre.flatten++(List.replicate n (A6 r)).flatten→
    ∃Cb,Instr.fill (fun i=>some (i*r.n,r.n)) arr vals=some Cb∧Cb.toList=pre.flatten++css.flatten
 |0,i,[],[],E,bx,G,d,rows,DN,d',h,hw,hd,hp,e=>by
  simp only[Fm,ZU,Zz]at e;obtain⟨rfl,rfl,rfl⟩:=e;refine⟨hd,Zx _,rfl,E,[],[],BB.refl h,rfl,rfl,by simp,fun pre arr _ _ ha=>⟨arr,rfl,by simpa using ha⟩⟩
 |n+1,i,(j,x)::l,(j',v)::m,E,bx,G,d,rows,DN,d',h,hw,hd,hp,e=>by
  obtain⟨⟨hj,hx⟩,hp⟩:=hp;simp only at hj hx;subst hj;simp only[Fm]at e;split at e
  case isFalse=>cases e
  rename_i Sl;subst Sl;simp only[ZW,ZV,Zz]at e;obtain⟨⟨y1,I2,d1⟩,e1,⟨y2,GD,d2⟩,e2,rfl,rfl,rfl⟩:=e;dsimp only at e2⊢;obtain⟨a1,a2,E1,F1,k1,o1⟩:=Nw h hw hd hx e1;have OO:=k1.le.keep (w:=w) (vw:=vw) h.st;obtain⟨b1,b2,b3,E2,Fs,css,k2,c1,c2,c3,c4⟩:=F7 hg (G:=F1++G) k1.boxes (hw.K6 k1) a1 (hp.imp fun _ _ q=>⟨q.1,C2 OO q.2⟩) e2;obtain⟨A,W,Js,o1'⟩:=B3 (d:=d'-1) (by omega) o1;refine⟨b1,ai b2 a2,by simp[b3],_,A::Fs,v.cells.toList::css,BB.more k1 k2 Js,by simp[c1],by simp[c2],fun k cs y G' q1 q2 q3=> ?_,fun pre arr UH U2 ha=> ?_⟩
  ·cases k with
   |zero=>
    simp at q1 q2 q3;subst q1 q2 q3;refine Ak (S:=fun b=>E1.S b∨b∈W) ?_ (fun _ _=>rfl) (fun _ _=>rfl) o1'
    intro c hc;exact hc.elim (fun h=> .inl (k2.le.S c h)) .inr
   |succ k=>
    refine Ak (S:=E2.S) ?_ (fun _ _=>rfl) (fun _ _=>rfl) (c3 k cs y G' (by simpa using q1) (by simpa using q2) (by simpa using q3))
    intro c hc;exact .inl hc
  ·have hlen:v.cells.toList.length=r.n:=FP o1
   have UL:pre.flatten.length=i*r.n:=by
    clear ha c4
    subst UH;clear e1 e2
    induction pre with
    |nil=>simp
    |cons c pre ih=>simp[U2 c (by simp),ih (fun c hc=>U2 c (by simp[hc])),a_];omega
   have HD:(A0 arr (i*r.n) v.cells.toList).toList=pre.flatten++v.cells.toList++(List.replicate n (A6 r)).flatten:=
    G8 _ _ _ _ _ UL ⟨A6 r,by rw[Bz,hlen],by rw[ha];simp[aa]⟩
   obtain⟨Cb,f1,f2⟩:=c4 (pre++[v.cells.toList]) (A0 arr (i*r.n) v.cells.toList) (by simp[UH]) (by
    intro c hc;rcases Zk.1 hc with hc|hc
    ·exact U2 c hc
    ·simp at hc;subst hc;exact hlen) (by rw[HD];simp)
   refine⟨Cb,?_,by rw[f2];simp⟩;rw[MM (i:=i) (off:=i*r.n) (size:=r.n) rfl (by simpa using hlen) ?_]
   ·exact f1
   ·have h1:arr.size=arr.toList.length:=by simp
    rw[h1,ha,Zl,UL,Au,Bz];simp at hlen;rw[hlen,a_];omega
 |n+1,i,[],[],E,bx,G,d,rows,DN,d',h,hw,hd,hp,e=>by
  simp only[Fm,ZV,Zz]at e;obtain⟨⟨y2,GD,d2⟩,e2,rfl,rfl,rfl⟩:=e;obtain⟨b1,b2,b3,E2,Fs,css,k2,c1,c2,c3,c4⟩:=F7 hg (G:=G) h hw hd (parts:=[]) (vals:=[]) trivial e2;refine⟨b1,b2,by simp[b3],E2,[]::Fs,A6 r::css,by simpa using k2,by simp[c1],by simp[c2],fun k cs y G' q1 q2 q3=> ?_,fun pre arr UH U2 ha=> ?_⟩
  ·cases k with
   |zero=>
    simp at q1 q2 q3;subst q1 q2 q3;exact I4 hg
   |succ k=>exact c3 k cs y G' (by simpa using q1) (by simpa using q2) (by simpa using q3)
  ·obtain⟨Cb,f1,f2⟩:=c4 (pre++[A6 r]) arr (by simp[UH]) (by
    intro c hc;rcases Zk.1 hc with hc|hc
    ·exact U2 c hc
    ·simp at hc;subst hc;exact Bz r) (by rw[ha];simp[aa])
   exact⟨Cb,f1,by rw[f2];simp⟩
 |0,_,_::_,_,_,_,_,_,_,_,_,_,_,_,_,e=>by simp[Fm]at e
 |0,_,[],_::_,_,_,_,_,_,_,_,_,_,_,hp,_=>hp.elim
 |_+1,_,[],_::_,_,_,_,_,_,_,_,_,_,_,hp,_=>hp.elim
 |_+1,_,_::_,[],_,_,_,_,_,_,_,_,_,_,hp,_=>hp.elim
section
variable{Y:Type} {P:Program} {T:Bw} (hT:Av P T) {o:Oper} {E:Env} {σ:St} {a:Act} {w:World} {k:K Y} {y:Y}
include hT
theorem KM(h:Rel E σ a w){t n:Nat}{ps:Array (Nat×Operand)}(ho:o.op= .buildSlice t n ps)(e:DW T t n (ps.toList.map fun q=>(q.1,σ.ev q.2)) σ k=some y):CG P o E σ a w k y:=by
 unfold DW at e;split at e
 case h_2=>cases e
 rename_i el hd;split at e
 case h_2=>cases e
 rename_i r hr;split at e
 case isFalse=>cases e
 rename_i hc;simp only[Zg,Zs]at hc;obtain⟨⟨Ib,hn⟩,hrn⟩:=hc;simp only[ZW]at e;obtain⟨⟨rows,DN,d'⟩,e1,e⟩:=e;dsimp only at e;obtain⟨el',ti,hu,Dw,hs,Ud,hrow⟩:=Cl hT Ib;obtain⟨i,z,i1,i2,i3,i4,i5,hg⟩:=Hs hT Dw hrow;have TG:=Kl h ps;obtain⟨b1,b2,b3,E',Fs,css,k2,c1,c2,c3,c4⟩:=F7 hg h.bx (Aq.refl _) (by omega) TG e1
 let zero:Array Value:=if n*r.n=0 then #[]else z.cells
 have hz:((Array.range (n*r.n)).map (fun j=>zero[j%zero.size]!)).toList=(List.replicate n (A6 r)).flatten:=by
  by_cases h0:n*r.n=0
  ·have h1:(List.replicate n (A6 r)).flatten=[]:=by
    rw[←List.length_eq_zero_iff,Au,Bz,h0]
   rw[h1];simp[h0]
  ·have Hm:A6 r≠[]:=by
    intro he;have:=Bz r;rw[he]at this;simp at this;rw[←this]at h0;simp at h0
   have:=Ge i5 n Hm;rw[Bz]at this;simp only[zero,Zp h0];exact this
 obtain⟨Cb,f1,f2⟩:=c4 [] _ rfl (by simp) (by rw[hz];simp);simp only[ar,aj]at f2
 let w':=w.alloc (.cells Cb el')
 have new:w'.heap[w.heap.size]? =some (.cells Cb el'):=by
  show(w.heap.push (.cells Cb el'))[w.heap.size]? =_
  simp
 obtain⟨d,rfl⟩:∃m,d' =m+1:=⟨d'-1,by omega⟩;have hl:∀c∈css,c.length=r.n:=by
  intro c hc;obtain⟨j,hj,rfl⟩:=aA hc;exact FP (c3 j _ _ _ (ZT hj) (ZT (by omega)) (ZT (by omega)))
 have Ts:css.flatten.length=n*r.n:=by
  rw[←c1];clear f2 c3 c4 c1
  induction css with
  |nil=>simp
  |cons c l ih=>simp[hl c (by simp),ih (fun c hc=>hl c (by simp[hc])),a_];omega
 have Sa:Cb.size=n*r.n:=by rw[←ae,f2,Ts]
 obtain⟨Fs0,VE,Ey⟩:=k2.boxes;simp only[Zu]at Ey;have how:Ow w' E'.S (d+1) (.sl r) [.slice (some ⟨w.heap.size,0,none⟩) rows.length n] rows (w.heap.size::Fs.flatten):=by
  refine JB (css:=css) (ex:=[]) new (by simpa using f2) (by omega) (by omega) (by omega) (JM _) (by omega) fun k cs y G q1 q2 q3=> ?_
  have KC:∀c∈G,c∈Fs.flatten:=fun c hc=>Zt.2 ⟨G,Zb q3,hc⟩
  exact Ak (fun _ h=>h) (fun c hc=>DF (Ey.HU c (Ey.st c hc))) (fun c hc=>DF (Ey.lt c (by simp only[Zk];exact .inr (KC c hc)))) (by simpa using c3 k cs y G q1 q2 q3)
 rw[b3]at how;obtain⟨r1,r2,r3⟩:=EG h k2 (w':=w') (d:=d+1) (by omega) how (by
   intro c hc;rcases Z1.1 hc with rfl|hc
   ·exact .inr (Zx _)
   ·exact .inl hc) (by
   refine aX.2 ⟨fun hc=> ?_,(Za.1 Ey.nodup).2.1⟩;have:=Ey.lt w.heap.size (by simp only[Zk];exact .inr hc);omega) (by
   intro c hc;rcases Z1.1 hc with rfl|hc
   ·simp[w']
   ·have:=Ey.lt c (by simp only[Zk];exact .inr hc)
    simp[w'];omega) (fun c hc _=>DF hc) ⟨rfl,rfl,rfl,by simp[w']⟩
 refine⟨_,_,_,_,_,.inl ?_,r1,r3,r2.any,rfl,e⟩;have KB: ¬(n*r.n>2^24):=by
  have:n*r.n≤1024*1024:=Nat.mul_le_mul hn hrn;omega
 simp only[execOp,ho,Instr.buildSlice,Sem.run_bind,AD hu,Result.andThen_ok,sizeOf,typeInfo,run_program,i1,Sem.run_pure,i2,hs,KB,aV];by_cases h0:n*r.n=0
 ·have V9:zero= #[]:=by simp only[zero,Zn h0]
  rw[V9]at f1;simp only[h0,an,Sem.run_bind,Sem.run_pure,Result.andThen_ok];rw[h0]at f1;simp only[f1,newRow,Sem.run_bind,run_newObj,Result.andThen_ok,Sem.run_pure];rfl
 ·have V9:zero=z.cells:=by simp only[zero,Zp h0]
  rw[V9]at f1;simp only[h0,aV,Sem.run_bind,zeroValue,typeInfo,run_program,Result.andThen_ok,i1,Sem.run_pure,i4];simp only[f1,newRow,Sem.run_bind,run_newObj,Result.andThen_ok,Sem.run_pure];rfl
end
end Go.Fw
end
section
namespace Go.Fw
theorem Gy(w:World)(b o:Nat)(v:Value):(w.setCell ⟨b,o,none⟩ v).heap=w.heap.modify b fun
 | .cells c elem frozen=> .cells (c.setIfInBounds o v) elem frozen
 |o=>o:=rfl
theorem B9:∀(vs:List Value) (o:Nat) (w:World) (b:Nat) (arr:Array Value) (ty:TypeId) (fr:ZE),w.heap[b]? =some (.cells arr ty fr)→
  (w.setCells b o vs).heap[b]? =some (.cells (A0 arr o vs) ty fr)
 |[],_,_,_,_,_,_,h=>h
 |v::l,o,w,b,arr,ty,fr,h=>by
  simp only[World.setCells,A0];refine B9 l (o+1) _ b _ ty fr ?_
  rw[Gy,Array.getElem?_modify,Zn rfl,h];rfl
theorem BF:∀(vs:List Value) (o:Nat) (w:World) (b:Nat),(w.setCells b o vs).heap.size=w.heap.size
 |[],_,_,_=>rfl
 |v::l,o,w,b=>by
  simp only[World.setCells];rw[BF l,Gy,Array.size_modify]
theorem CB:∀(vs:List Value) (o:Nat) (w:World) (b c:Nat),c≠b→(w.setCells b o vs).heap[c]? =w.heap[c]?
 |[],_,_,_,_,_=>rfl
 |v::l,o,w,b,c,h=>by
  simp only[World.setCells];rw[CB l _ _ _ _ h,Gy,Array.getElem?_modify,Zp (fun e=>h e.symm)]
theorem AZ:∀(vs:List Value) (o:Nat) (w:World) (b:Nat),Grown w (w.setCells b o vs)
 |[],_,_,_=>⟨rfl,rfl,rfl,Zx _⟩
 |v::l,o,w,b=>by
  have:=AZ l (o+1) (w.setCell ⟨b,o,none⟩ v) b;refine⟨this.os,this.tape,this.output,?_⟩;rw[BF];exact Zx _
theorem Em{arr:Array Value}:∀{l:List Value} {o j:Nat},o+l.length≤arr.size→(A0 arr o l)[j]? =if o≤j∧j<o+l.length then l[j-o]? else arr[j]?:=by
 intro l
 induction l generalizing arr with
 |nil=>intro o j _;rw[Zp (fun hh=>by simp only[Zv]at hh;omega)];rfl
 |cons c l ih=>
  intro o j h;simp only[Zj]at h;simp only[A0];rw[ih (by simp;omega)];by_cases h1:o+1≤j∧j<o+1+l.length
  ·rw[Zn h1,Zn (by simp;omega)]
   rw[show j-o=(j-(o+1))+1 by omega];simp
  ·rw[Zp h1]
   by_cases h2:o=j
   ·subst h2
    rw[Zn (by simp),Array.getElem?_setIfInBounds_self_of_lt (by omega),Nat.sub_self];rfl
   ·rw[Zp (fun hh=>by simp only[Zj]at hh;omega),Array.getElem?_setIfInBounds_ne h2]
theorem CZ{w:World}{b o:Nat}{arr:Array Value}{ty:TypeId}{fr:ZE}(h:w.heap[b]? =some (.cells arr ty fr)):w.cell? ⟨b,o,none⟩=arr[o]?:=by
 simp[World.cell?,h]
theorem EV{w:World}{b o:Nat}{vs:List Value}{arr:Array Value}{ty:TypeId}{fr:ZE}(h:w.heap[b]? =some (.cells arr ty fr))(hs:o+vs.length≤arr.size):AL (w.setCells b o vs) b o vs:=by
 intro j v hj;have hl:=(ZS.1 hj).1;rw[CZ (B9 vs o w b arr ty fr h),Em hs,Zn (by omega),show o+j-o=j by omega,hj]
theorem Hz{w:World}{b b' o o':Nat}{vs cs:List Value}{arr:Array Value}{ty:TypeId}{fr:ZE}(hc:AL w b' o' cs)(h:w.heap[b]? =some (.cells arr ty fr))(hs:o+vs.length≤arr.size)
  (ha:b'≠b∨o'+cs.length≤o∨o+vs.length≤o'):AL (w.setCells b o vs) b' o' cs:=by
 intro j v hj;have hl:=(ZS.1 hj).1;by_cases hb:b' =b
 ·subst hb
  have:=hc j v hj;rw[CZ h]at this;rw[CZ (B9 vs o w b' arr ty fr h),Em hs,Zp (by omega),this]
 ·rw[World.cell?_of_block (a:=⟨b',o'+j,none⟩) (CB vs o w b b' hb)]
  exact hc j v hj
theorem I7{w:World}{b o n k:Nat}{arr:Array Value}{ty:TypeId}{fr:ZE}(h:w.heap[b]? =some (.cells arr ty fr))(hs:o+n≤arr.size)(hu:Og fr (arr.size+k)):w.there b o n:=by
 intro j hj;refine⟨?_,?_⟩
 ·rw[CZ h]
  simp;omega
 ·have:=hu (o+j) (by omega)
  obtain⟨lo,hi⟩:=fr;simp only[World.frozen?,h];simp at this⊢;omega
theorem Kg{w:World}{S:Nat→Prop}:∀{r:Ty} {d:Nat} {cs:List Value} {y:r.D} {F:ZD},Ow w S d r cs y F→ ∀v∈cs,v.oneCell' =true
 | .int _,_,_,_,_,h,v,hv=>by simp only[Ow]at h;rw[h.1]at hv;simp at hv;subst hv;rfl
 | .bool,_,_,_,_,h,v,hv=>by simp only[Ow]at h;rw[h.1]at hv;simp at hv;subst hv;rfl
 | .str,_,_,_,_,h,v,hv=>by simp only[Ow]at h;rw[h.1]at hv;simp at hv;subst hv;rfl
 | .unit,_,_,_,_,h,v,hv=>by simp only[Ow]at h;rw[h.1]at hv;simp at hv
 | .sl _,0,_,_,_,h,v,hv=>by
  simp only[Ow,Rd]at h;obtain⟨⟨_,_,rfl,_⟩,_⟩:=h;simp at hv;subst hv;rfl
 | .sl _,_+1,_,_,_,h,v,hv=>by
  simp only[Ow]at h;obtain⟨_,_,rfl,_⟩:=h;simp at hv;subst hv;rfl
 | .cons _ _,_,_,_,_,h,v,hv=>by
  simp only[Ow]at h;obtain⟨u,l,F1,F2,rfl,_,h1,h2⟩:=h;rcases Z1.1 hv with rfl|hv
  ·exact Kg h1 _ (by simp)
  ·exact Kg h2 _ hv
section
variable{P:Program} {w:World}
structure Lv (P:Program) (w:World) (size n:Nat) (x:Value) (news:List Value):Prop where
 len:∀w',(Builtin.lenOf x).run P w' = .ok n w'
 cells:∀w',w'.heap=w.heap→(Builtin.firstCells size n x).run P w' = .ok news.toArray w'
theorem ME{ts:Array TypeId}{t u ty e:TypeId}(NS:ts[0]? =some t)(OV:ts[1]? =some u){i:TypeInfo}{size:Nat}(ht:P.underlying t=some (.slice e))(hu:(∃e,P.underlying u=some (.slice e))∨P.underlying u=some .string)(hi:P.info? e=some i)(CO:i.size=size)
  {b o F8 Lo n:Nat} {x:Value} {news:List Value} (hn:Lv P w size n x news) (MT:F8+n≤Lo) (XD:w.there b (o+F8*size) news.length) (h1:∀v∈news,v.oneCell' =true):
  (Builtin.append_ ts ty #[.slice (some ⟨b,o,none⟩) F8 Lo,x]).run P w= .ok (.slice (some ⟨b,o,none⟩) (F8+n) Lo) (w.setCells b (o+F8*size) news):=by
 subst CO;have QN:=run_storeCells_cells (P:=P) b (o+F8*i.size) news 0 w (fun j hj=>by simpa using(XD j hj).1) (fun j hj=>by simpa using(XD j hj).2) h1;simp only[aP]at QN;have hl:=hn.len w;have hf:=hn.cells w rfl;rcases hu with⟨e',hu⟩|hu
 ·simp[Builtin.append_,NS,OV,run_underlying ht,run_underlying hu,sizeOf,typeInfo,hi,hl,MT,hf,Addr.add_eq,QN]
 ·simp[Builtin.append_,NS,OV,run_underlying ht,run_underlying hu,sizeOf,typeInfo,hi,hl,MT,hf,Addr.add_eq,QN]
theorem KQ{ts:Array TypeId}{t u ty e:TypeId}(NS:ts[0]? =some t)(OV:ts[1]? =some u){i:TypeInfo}{size:Nat}(ht:P.underlying t=some (.slice e))(hu:(∃e,P.underlying u=some (.slice e))∨P.underlying u=some .string)(hi:P.info? e=some i)(CO:i.size=size)
  {a:Option Addr} {x:Value} (hn:Lv P w size 0 x []):
  (Builtin.append_ ts ty #[.slice a 0 0,x]).run P w= .ok (.slice a 0 0) w:=by
 subst CO;have hl:=hn.len w;have hf:=hn.cells w rfl;cases a with
 |none=>
  rcases hu with⟨e',hu⟩|hu
  ·simp[Builtin.append_,NS,OV,run_underlying ht,run_underlying hu,sizeOf,typeInfo,hi,hl,hf]
  ·simp[Builtin.append_,NS,OV,run_underlying ht,run_underlying hu,sizeOf,typeInfo,hi,hl,hf]
 |some a=>
  have QN:(storeCells (a.add (0*i.size)) [] 0).run P w= .ok () w:=rfl;rcases hu with⟨e',hu⟩|hu
  ·simp[Builtin.append_,NS,OV,run_underlying ht,run_underlying hu,sizeOf,typeInfo,hi,hl,hf,storeCells]
  ·simp[Builtin.append_,NS,OV,run_underlying ht,run_underlying hu,sizeOf,typeInfo,hi,hl,hf,storeCells]
theorem KL{ts:Array TypeId}{t u ty e:TypeId}(NS:ts[0]? =some t)(OV:ts[1]? =some u){i:TypeInfo}{z:Value}{size:Nat}(ht:P.underlying t=some (.slice e))(hu:(∃e,P.underlying u=some (.slice e))∨P.underlying u=some .string)(hi:P.info? e=some i)(hz:i.zero=some z)(CO:i.size=size)
  {a:Option Addr} {F8 Lo n:Nat} {x:Value} {UO news:List Value} (ho:∀w',w'.heap=w.heap→(Builtin.firstCells size F8 (.slice a F8 Lo)).run P w' = .ok UO.toArray w')
  (hn:Lv P w size n x news) (Uy:Lo<F8+n) (Vy:F8+n≤GC) (Ud:i.bytes≤512):
  (Builtin.append_ ts ty #[.slice a F8 Lo,x]).run P w= .ok (.slice (some ⟨w.heap.size,0,none⟩) (F8+n) (grownCap w (F8+n) Lo e))
   (w.drew.alloc (.cells (UO.toArray++news.toArray++Builtin.zeroCells z.cells (grownCap w (F8+n) Lo e-(F8+n))) e)):=by
 subst CO;have hl:=hn.len w;have hf:=hn.cells w.drew rfl;have T4:=ho w.drew rfl;have VV: ¬(F8+n≤Lo):=by omega
 have hb:(F8+n)*i.bytes≤140737488355328:=by
  have:(F8+n)*i.bytes≤GC*512:=Nat.mul_le_mul Vy Ud;simp only[GC]at this;omega
 have Y7:=growslice_fits Uy hb;have US: ¬(281474976710656<Builtin.nextslicecap (F8+n) Lo*i.bytes):=by omega
 have Ux: ¬(9223372036854775807<((F8:Int)+(n:Int))):=by simp only[GC]at Vy;omega
 rcases hu with⟨e',hu⟩|hu
 ·simp[Builtin.append_,NS,OV,run_underlying ht,run_underlying hu,sizeOf,typeInfo,zeroValue,hi,hz,hl,VV,Ux,US,Question.forced,hf,T4,newRow,grownCap]
  congr 2
  apply bJ;simp[ZY]
 ·simp[Builtin.append_,NS,OV,run_underlying ht,run_underlying hu,sizeOf,typeInfo,zeroValue,hi,hz,hl,VV,Ux,US,Question.forced,hf,T4,newRow,grownCap]
  congr 2
  apply bJ;simp[ZY]
end
end Go.Fw
end
section
namespace Go.Fw
def Ax(w:World)(S:Nat→Prop)(d:Nat)(r:Ty)(css:List (List Value))(rows:List r.D)(Fs:List ZD):Prop:=
 css.length=rows.length∧Fs.length=rows.length∧(∀c∈css,c.length=r.n)∧ ∀(i:Nat) cs y G,css[i]? =some cs→rows[i]? =some y→Fs[i]? =some G→Ow w S d r cs y G
theorem Ax.mono{w w':World}{S S':Nat→Prop}{d:Nat}{r:Ty}{css:List (List Value)}{rows:List r.D}{Fs:List ZD}(h:Ax w S d r css rows Fs)(hS:∀c,S c→S' c)(hw:∀c,S c→w'.heap[c]? =w.heap[c]?)
  (hF:∀c∈Fs.flatten,w'.heap[c]? =w.heap[c]?):Ax w' S' d r css rows Fs:=
 ⟨h.1,h.2.1,h.2.2.1,fun i cs y G a b c=>Ak hS hw (fun x hx=>hF x (Zt.2 ⟨G,Zb c,hx⟩)) (h.2.2.2 i cs y G a b c)⟩
theorem Ax.append{w:World}{S:Nat→Prop}{d:Nat}{r:Ty}{css UA:List (List Value)}{rows rows':List r.D}{Fs Uq:List ZD}(h:Ax w S d r css rows Fs)(k:Ax w S d r UA rows' Uq):
  Ax w S d r (css++UA) (rows++rows') (Fs++Uq):=by
 refine⟨by simp[h.1,k.1],by simp[h.2.1,k.2.1],fun c hc=>(Zk.1 hc).elim (h.2.2.1 c) (k.2.2.1 c),fun i cs y G a b c=> ?_⟩;by_cases hi:i<rows.length
 ·rw[ZX (by rw[h.1];exact hi)]at a
  rw[ZX hi]at b;rw[ZX (by rw[h.2.1];exact hi)]at c;exact h.2.2.2 i cs y G a b c
 ·rw[Zf (by rw[h.1];omega)]at a
  rw[Zf (by omega)]at b;rw[Zf (by rw[h.2.1];omega)]at c;rw[h.1]at a;rw[h.2.1]at c;exact k.2.2.2 _ cs y G a b c
theorem Ax.weaken{w:World}{S:Nat→Prop}{d d':Nat}{r:Ty}{css:List (List Value)}{rows:List r.D}{Fs:List ZD}(h:Ax w S d r css rows Fs)(hd:d'≤d):
  ∃(Gs:List ZD) (W:ZD),Fs.flatten.Perm (Gs.flatten++W)∧Ax w (fun c=>S c∨c∈W) d' r css rows Gs:=by
 obtain⟨Gs,Ws,h1,h2,h3,h4⟩:=K_ (R:=fun i G F W=> ∀cs y,css[i]? =some cs→rows[i]? =some y→Ow w (fun c=>S c∨c∈W) d' r cs y F) Fs 0 (fun i G hG=>by
  rw[aM];have hi:=(ZS.1 hG).1;have h1:=h.1;have h2:=h.2.1;obtain⟨F,W,hp,ho⟩:=B3 hd (h.2.2.2 i _ _ G (ZT (by omega)) (ZT (by omega)) hG);refine⟨F,W,hp,fun cs y a b=> ?_⟩;rw[ZT (by omega)]at a b;cases a;cases b;exact ho)
 refine⟨Gs,Ws.flatten,h3,h.1,h1.trans h.2.1,h.2.2.1,fun i cs y G a b c=> ?_⟩;have hi:=(ZS.1 c).1;have hw:Ws[i]? =some (Ws[i]'(by omega)):=ZT _;have hf:Fs[i]? =some (Fs[i]'(by omega)):=ZT _;have:=h4 i _ _ _ hf c hw cs y (by rw[aM];exact a) (by rw[aM];exact b);exact Ak (fun x hx=>hx.imp id fun hx=>Zt.2 ⟨_,Zb hw,hx⟩) (fun _ _=>rfl) (fun _ _=>rfl) this
theorem FZ{n:Nat}:∀{css:List (List Value)},(∀c∈css,c.length=n)→css.flatten.length=css.length*n
 |[],_=>by simp
 |c::l,h=>by simp[h c (by simp),FZ (css:=l) (fun c hc=>h c (by simp[hc])),a_];omega
theorem Ax.one{w:World}{S:Nat→Prop}{d:Nat}{r:Ty}{css:List (List Value)}{rows:List r.D}{Fs:List ZD}(h:Ax w S d r css rows Fs):∀v∈css.flatten,v.oneCell' =true:=by
 intro v hv;obtain⟨c,hc,hv⟩:=Zt.1 hv;obtain⟨i,hi,rfl⟩:=aA hc;have h1:=h.1;have h2:=h.2.1;exact Kg (h.2.2.2 i _ _ _ (ZT hi) (ZT (by omega)) (ZT (by omega))) v hv
theorem Ax.flat{w:World}{B S:Nat→Prop}{d:Nat}{r:Ty}(hf:r.flat=true){css:List (List Value)}{rows:List r.D}(h1:css.length=rows.length)(h2:∀c∈css,c.length=r.n)
  (h3:∀(i:Nat) cs y,css[i]? =some cs→rows[i]? =some y→Rd w B r cs y):Ax w S d r css rows (List.replicate rows.length []):=by
 refine⟨h1,by simp,h2,fun i cs y G a b c=> ?_⟩;have:G=[]:=aC (Zb c);subst this;exact I5 hf (h3 i cs y a b)
theorem AL.heap{w w':World}{b o:Nat}{cs:List Value}(h:AL w b o cs)(e:w'.heap=w.heap):AL w' b o cs:=h.of_block (by rw[e])
theorem EC{P:Program}{w:World}{a:Option Addr}{n cap size:Nat}{css:List (List Value)}(hl:css.length=n)(hc:∀c∈css,c.length=size)
  (h:n=0∨ ∃b o,a=some ⟨b,o,none⟩∧AL w b o css.flatten):Lv P w size n (.slice a n cap) css.flatten:=by
 refine⟨fun w' =>rfl,fun w' e=> ?_⟩;have hlen:css.flatten.length=n*size:=by rw[FZ hc,hl]
 rcases h with rfl|⟨b,o,rfl,h⟩
 ·have:css=[]:=Zm hl
  subst this;cases a with
  |none=>rfl
  |some a=>
   simp only[Builtin.firstCells,Nat.zero_mul,ar];exact FE a
 ·simp only[Builtin.firstCells]
  rw[←hlen];exact JL (h.heap e)
theorem Ql{P:Program}{w:World}{s:ZC}:Lv P w 1 s.length (.string ⟨s.toArray⟩) (s.map fun c=>[Value.int .u8 (c.toNat:Int)]).flatten:=by
 refine⟨fun w' =>rfl,fun w' _=> ?_⟩;have CO:(⟨s.toArray⟩:ByteArray).size=s.length:=by simp[ByteArray.size]
 have e1:(⟨s.toArray⟩:ByteArray).extract 0 s.length=⟨s.toArray⟩:=by
  rw[←CO];apply ByteArray.ext;simp
 simp only[Builtin.firstCells,e1,Sem.run_pure];have:(s.map fun c=>[Value.int .u8 (c.toNat:Int)]).flatten=s.map fun c=>Value.int .u8 (c.toNat:Int):=by
  have:=E5 (l:=s.map fun c=>Value.int .u8 (c.toNat:Int));simpa[bF,Function.comp_def]using this
 rw[this];simp
theorem Pf{w:World}{S:Nat→Prop}{d:Nat}{r:Ty}{v:Value}{rows:List r.D}{F:ZD}(h:Ow w S (d+1) (.sl r) [v] rows F):
  ∃a cap css Fs R,v= .slice a rows.length cap∧rows.length≤cap∧Ax w S d r css rows Fs∧F.Perm (Fs.flatten++R)∧
   ((cap=0∧F=[])∨ ∃b o arr ty fr,a=some ⟨b,o,none⟩∧w.heap[b]? =some (.cells arr ty fr)∧o+cap*r.n≤arr.size∧Og fr (arr.size+mk r)∧F=b::Fs.flatten∧AL w b o css.flatten):=by
 simp only[Ow]at h;obtain⟨a,cap,e,hle,h⟩:=h;simp only[Zo,Z_]at e;subst e;rcases h with⟨h,rfl⟩|⟨b,o,arr,ty,fr,Fs,rfl,hb,CO,hu,rfl,hFl,hr⟩
 ·have:rows=[]:=Zm (by omega)
  subst this;exact⟨a,cap,[],[],[],rfl,hle,⟨rfl,rfl,by simp,fun i cs y G h=>by simp at h⟩,by simp,.inl ⟨h,rfl⟩⟩
 ·
  have key:∀(n o:Nat) (ys:List r.D) (Fs:List ZD),ys.length=n→Fs.length=n→(∀(i:Nat) (y:r.D) (G:ZD),ys[i]? =some y→Fs[i]? =some G→ ∃cs,cs.length=r.n∧AL w b (o+i*r.n) cs∧Ow w S d r cs y G)→
    ∃css,Ax w S d r css ys Fs∧AL w b o css.flatten:=by
   intro n
   induction n with
   |zero=>
    intro o ys Fs h1 h2 _;obtain rfl:=Zm h1;obtain rfl:=Zm h2;exact⟨[],⟨rfl,rfl,by simp,fun i cs y G h=>by simp at h⟩,fun _ _ h=>by simp at h⟩
   |succ n ih=>
    intro o ys Fs h1 h2 hh;obtain⟨y,ys,rfl⟩:=aq h1;obtain⟨G,Fs,rfl⟩:=aq h2;obtain⟨cs,c1,c2,c3⟩:=hh 0 y G rfl rfl;obtain⟨css,d1,d2⟩:=ih (o+r.n) ys Fs (by simpa using h1) (by simpa using h2) (fun i z G hz hG=>by
     obtain⟨cs,e1,e2,e3⟩:=hh (i+1) z G (by simpa using hz) (by simpa using hG);refine⟨cs,e1,?_,e3⟩;rw[aG,az]at e2
     rwa [show o+r.n+i*r.n=o+(i*r.n+r.n)by omega])
    refine⟨cs::css,⟨by simp[d1.1],by simp[d1.2.1],fun c hc=> ?_,fun i G2 y' G' a b c=> ?_⟩,?_⟩
    ·rcases Z1.1 hc with rfl|hc
     ·exact c1
     ·exact d1.2.2.1 c hc
    ·cases i with
     |zero=>simp at a b c;subst a b c;exact c3
     |succ i=>exact d1.2.2.2 i G2 y' G' (by simpa using a) (by simpa using b) (by simpa using c)
    ·rw[Z2]
     refine AL.append (by simpa using c2) ?_
     rw[c1];exact d2
  obtain⟨css,k1,k2⟩:=key rows.length o rows Fs rfl hFl hr;refine⟨_,cap,css,Fs,[b],rfl,hle,k1,?_,.inr ⟨b,o,arr,ty,fr,rfl,hb,CO,hu,rfl,k2⟩⟩;exact(Zr (l₁:=[b]) (l₂:=Fs.flatten))
theorem JY{w:World}{S:Nat→Prop}:∀{r:Ty} {cs:List Value} {x:r.D},Rd w S r cs x→Ow w S 0 r cs x []
 | .cons c r,cs,x,hr=>by
  simp only[Rd]at hr;obtain⟨v,l,rfl,h1,h2⟩:=hr;simp only[Ow];exact⟨v,l,[],[],rfl,rfl,JY h1,JY h2⟩
 | .unit,_,_,hr=>by simp only[Rd]at hr;simp[Ow,hr]
 | .int k,_,_,hr=>by simp only[Rd]at hr;simp[Ow,hr]
 | .bool,_,_,hr=>by simp only[Rd]at hr;simp[Ow,hr]
 | .str,_,_,hr=>by simp only[Rd]at hr;simp[Ow,hr]
 | .sl q,_,_,hr=>by simp only[Ow];exact⟨hr,trivial⟩
theorem H7{P:Program}{E:Env}{w:World}{vw bx:List Bx}{G:ZD}(h:AQ E w vw bx G)(hw:Aq bx vw){x:AV}{v:Value}(hv:VR E w vw x v){r:Ty}{rows:List r.D}{DN:List Bx}{d:Nat}
  (e:KZ bx x=some ⟨r,rows,DN,d⟩):1≤d∧ ∃E' F css Fs R,BB E w vw bx G E' DN F∧F.Perm (List.flatten Fs++R)∧Ax w E'.S (d-1) r css rows Fs∧Lv P w r.n rows.length v css.flatten:=by
 have plain:∀{B:Nat→Prop} {ys:List r.D},r.flat=true→Rd w B (.sl r) [v] ys→ ∀S:Nat→Prop,∃css,Ax w S 8 r css ys (List.replicate ys.length [])∧Lv P w r.n ys.length v css.flatten:=by
  intro B ys hf hr S;simp only[Rd]at hr;obtain⟨a,cap,e1,hle,hr⟩:=hr;simp only[Zo,Z_]at e1;subst e1;rcases hr with hr|⟨b,o,rfl,_,hr⟩
  ·have:ys=[]:=Zm hr
   subst this;exact⟨[],⟨rfl,rfl,by simp,fun i cs y G h=>by simp at h⟩,EC (css:=[]) rfl (by simp) (.inl rfl)⟩
  ·obtain⟨css,c1,c2,c3,c4⟩:=Nf hr
   exact⟨css,Ax.flat hf c1 c2 c4,EC c1 c2 (.inr ⟨b,o,rfl,c3⟩)⟩
 have done:∀{B:Nat→Prop} {ys:List r.D},r.flat=true→Rd w B (.sl r) [v] ys→rows=ys→DN=bx→d=9→
   1≤d∧ ∃E' F css Fs R,BB E w vw bx G E' DN F∧F.Perm (List.flatten Fs++R)∧Ax w E'.S (d-1) r css rows Fs∧Lv P w r.n rows.length v css.flatten:=by
  intro B ys hf hr e1 e2 e3;subst e1 e2 e3;obtain⟨css,k1,k2⟩:=plain hf hr E.S;exact⟨by omega,E,[],css,_,[],BB.refl h,by simp,k1,k2⟩
 unfold KZ at e;split at e
 ·rename_i s
  simp only[ZU,Zc]at e;obtain⟨rfl,e⟩:=e;have e:=Zw e;simp only[Zz]at e;obtain⟨rfl,rfl,rfl⟩:=e;have G4:=FQ hv;subst G4;refine⟨by omega,E,[],s.map fun c=>[Value.int .u8 (c.toNat:Int)],_,[],BB.refl h,?_,Ax.flat (B:=fun _=>False) rfl (by simp) (by simp[Ty.n]) (fun i cs y a b=> ?_),?_⟩
  ·simp
  ·simp only[Zy,ZV]at a b
   obtain⟨c1,z1,rfl⟩:=a;obtain⟨c2,z2,rfl⟩:=b;rw[z1]at z2;cases z2;simp[Rd]
  ·have:=Ql (P:=P) (w:=w) (s:=s)
   simpa[Ty.n]using this
 ·rename_i s q ys
  split at e
  ·rename_i hf
   simp only[ZU,Zc]at e;obtain⟨rfl,e⟩:=e;have e:=Zw e;simp only[Zz]at e;obtain⟨rfl,rfl,rfl⟩:=e;exact done hf hv rfl rfl rfl
  ·split at e
   case isFalse=>cases e
   rename_i hs;simp only[ZU,Zc]at e;obtain⟨rfl,e⟩:=e;have e:=Zw e;simp only[Zz]at e;obtain⟨rfl,rfl,rfl⟩:=e;subst hs;simp only[VR,an]at hv;simp only[Rd]at hv;obtain⟨a,cap,e1,hle,hr⟩:=hv;simp only[Zo,Z_]at e1;subst e1;have key:∃css:List (List Value),List.length css=ys.length∧(∀c∈css,c.length=q.n)∧(∀(i:Nat) cs y,css[i]? =some cs→ys[i]? =some y→Rd w E.S q cs y)∧Lv P w q.n ys.length (.slice a ys.length cap) css.flatten:=by
    rcases hr with hr|⟨b,o,rfl,_,hr⟩
    ·have:ys=[]:=Zm hr
     subst this;exact⟨[],rfl,by simp,fun i cs y h=>by simp at h,EC (css:=[]) rfl (by simp) (.inl rfl)⟩
    ·obtain⟨css,c1,c2,c3,c4⟩:=Nf hr
     exact⟨css,c1,c2,c4,EC c1 c2 (.inr ⟨b,o,rfl,c3⟩)⟩
   obtain⟨css,c1,c2,c3,c4⟩:=key;refine⟨Zx _,E,[],css,List.replicate ys.length [],[],BB.refl h,by simp,⟨c1,by simp,c2,fun i cs y G a b c=> ?_⟩,c4⟩;have:G=[]:=aC (Zb c);subst this;exact JY (c3 i cs y a b)
 ·rename_i b
  split at e
  case h_2=>cases e
  rename_i d0 q ys hb;split at e
  ·rename_i hf
   simp only[ZU,Zc]at e;obtain⟨rfl,e⟩:=e;have e:=Zw e;simp only[Zz]at e;obtain⟨rfl,rfl,rfl⟩:=e;obtain⟨Fs,hB,hS⟩:=h;exact done hf (GL hw hB hS.st hv (q:=q) (ys:=ys) (by simp[Ce,hb,A8])) rfl rfl rfl
  ·simp only[ZU,Zc]at e
   obtain⟨rfl,e⟩:=e;have e:=Zw e;simp only[Zz]at e;obtain⟨rfl,rfl,rfl⟩:=e;obtain⟨F,⟨hd,ho⟩,hB⟩:=h.take hb;have UI:=Fe hw hb;simp only[VR,UI,AO,ZU]at hv;obtain⟨_,_,_,rfl⟩:=hv;obtain⟨m,rfl⟩:∃m,d0=m+1:=⟨d0-1,by omega⟩;obtain⟨a,cap,css,Fs,R,e1,hle,GP,hp,hcase⟩:=Pf ho;refine⟨hd,E,F,css,Fs,R,⟨Le.refl _,by simp,fun n B hn=> ?_,hB⟩,hp,GP,?_⟩
   ·rw[aK]at hn
    split at hn
    ·split at hn
     ·exact .inl (by simpa using hn.symm)
     ·cases hn
    ·exact .inr hn
   ·rw[e1]
    refine EC GP.1 GP.2.2.1 ?_
    rcases hcase with⟨h0,_⟩|⟨b,o,arr,ty,fr,rfl,_,_,_,_,hc⟩
    ·exact .inl (by omega)
    ·exact .inr ⟨b,o,rfl,hc⟩
 ·rename_i b p _
  split at e
  case h_2=>cases e
  rename_i d0 q ys hb;simp only[ZW]at e;obtain⟨⟨q',zs⟩,e1,e⟩:=e;dsimp only at e;split at e
  case isFalse=>cases e
  rename_i hf;simp only[ZU,Zc]at e;obtain⟨rfl,e⟩:=e;have e:=Zw e;simp only[Zz]at e;obtain⟨rfl,rfl,rfl⟩:=e;obtain⟨Fs,hB,hS⟩:=h;exact done hf (GL hw hB hS.st hv (q:=q') (ys:=zs) (by simp[Ce,hb,e1])) rfl rfl rfl
 ·rename_i b p off n
  split at e
  case h_2=>cases e
  rename_i d0 q ys hb;simp only[ZW]at e;obtain⟨⟨q',zs⟩,e1,e⟩:=e;dsimp only at e;split at e
  case isFalse=>cases e
  rename_i hf;simp only[ZU,Zc]at e;obtain⟨rfl,e⟩:=e;have e:=Zw e;simp only[Zz]at e;obtain⟨rfl,rfl,rfl⟩:=e;obtain⟨Fs,hB,hS⟩:=h;exact done hf (GL hw hB hS.st hv (q:=q') (ys:=(zs.drop off).take n) (by simp[Ce,hb,e1])) rfl rfl rfl
 ·cases e
theorem Hy{E:Env}{w:World}{vw bx:List Bx}{G:ZD}(h:AQ E w vw bx G)(hw:Aq bx vw){x:AV}{v:Value}(hv:VR E w vw x v){r:Ty}{rows:List r.D}{DN:List Bx}{d:Nat}
  (e:KX bx x=some ⟨r,rows,DN,d⟩):1≤d∧ ∃F1 F2,BB E w vw bx G E DN (F1++F2)∧Ow w E.S d (.sl r) [v] rows F1:=by
 have tk:∀{b d0:Nat} {q:Ty} {ys:List q.D},bx[b]? =some (.sl d0 q ys)→ ∃F,1≤d0∧Ow w E.S d0 (.sl q) [E.BT b] ys F∧BB E w vw bx G E (bx.set b .dead) F:=by
  intro b d0 q ys hb;obtain⟨F,⟨hd,ho⟩,hB⟩:=h.take hb;refine⟨F,hd,ho,⟨Le.refl _,by simp,fun n B hn=> ?_,hB⟩⟩;rw[aK]at hn;split at hn
  ·split at hn
   ·exact .inl (by simpa using hn.symm)
   ·cases hn
  ·exact .inr hn
 unfold KX at e;split at e
 ·rename_i b
  split at e
  case h_2=>cases e
  rename_i d0 q ys hb;simp only[ZU,Zc]at e;obtain⟨rfl,e⟩:=e;have e:=Zw e;simp only[Zz]at e;obtain⟨rfl,rfl,rfl⟩:=e;obtain⟨F,hd,ho,hT⟩:=tk hb;have UI:=Fe hw hb;simp only[VR,UI,AO,ZU]at hv;obtain⟨_,_,_,rfl⟩:=hv;exact⟨hd,F,[],by simpa using hT,ho⟩
 ·rename_i b off n
  split at e
  case h_2=>cases e
  rename_i d0 q ys hb;simp only[ZU,Zc]at e;obtain⟨rfl,e⟩:=e;have e:=Zw e;simp only[Zz]at e;obtain⟨rfl,rfl,rfl⟩:=e;obtain⟨F,hd,ho,hT⟩:=tk hb;have UI:=Fe hw hb;simp only[VR,UI,AO,ZU]at hv;obtain⟨_,_,q',zs,a,len,cap,h1,h2,h3,rfl⟩:=hv;simp only[A8,ZU,Zc]at h1;obtain⟨rfl,h1⟩:=h1;obtain rfl:=Zw h1;rw[h3]at ho;obtain⟨m,rfl⟩:∃m,d0=m+1:=⟨d0-1,by omega⟩;obtain⟨F1,F2,hp,QC⟩:=RN ho h2;exact⟨hd,F1,F2,⟨hT.le,hT.len,hT.within,hT.boxes.perm (Zh _ hp)⟩,QC⟩
 ·cases e
end Go.Fw
end
section
namespace Go.Fw
theorem L0{P:Program}{w:World}{a:Option Addr}{n cap size:Nat}{css:List (List Value)}(hl:css.length=n)(hc:∀c∈css,c.length=size)
  (h:n=0∨ ∃b o,a=some ⟨b,o,none⟩∧AL w b o css.flatten):∀w',w'.heap=w.heap→(Builtin.firstCells size n (.slice a n cap)).run P w' = .ok css.flatten.toArray w':=
 (EC (P:=P) (cap:=cap) hl hc h).cells
theorem Lx{z:Array Value}{n:Nat}:(Builtin.zeroCells z n).size=n*z.size:=size_zeroCells z n
section
variable{Y:Type} {P:Program} {T:Bw} (hT:Av P T) {o:Oper} {E:Env} {σ:St} {a:Act} {w:World} {k:K Y} {y:Y}
include hT
theorem Jx(h:Rel E σ a w){E2:Env}{GD:List Bx}{F Fd R:ZD}{t u ty:TypeId}{ts:Array TypeId}(NS:ts[0]? =some t)(OV:ts[1]? =some u)
  (hu:(∃e,P.underlying u=some (.slice e))∨P.underlying u=some .string) {m:Nat} {r:Ty} (Ib:T.Dg t r=true)
  (kT:BB E w σ.bx σ.bx [] E2 GD F) {v1 v2:Value} {drows Du:List r.D} {css:List (List Value)} {Fs:List ZD}
  (ho:Ow w E2.S (m+1) (.sl r) [v1] drows Fd) (hs:Ax w E2.S m r css Du Fs) (hn:Lv P w r.n Du.length v2 css.flatten) (hp:F.Perm (Fd++Fs.flatten++R)) (KB:drows.length+Du.length≤GC):
  ∃v w' E',(Builtin.append_ ts ty #[v1,v2]).run P w= .ok v w'∧Rel E' { σ with bx:=GD++[.sl (m+1) r (drows++Du)] } a w'∧DZ [] E σ.bx w E' (GD++[.sl (m+1) r (drows++Du)]) w'∧
   XR E' w' (GD++[.sl (m+1) r (drows++Du)]) (.c (.ref GD.length [])) v:=by
 obtain⟨e,ti,hut,Dw,hs1,Ud,hrow⟩:=Cl hT Ib;obtain⟨i,z,i1,i2,i3,i4,i5,hg⟩:=Hs hT Dw hrow;rw[hs1]at i2;obtain⟨Fs0,VE,Ey⟩:=kT.boxes;simp only[Zu]at Ey;have TU:∀c∈Fd,c∈F:=fun c hc=>hp.mem_iff.2 (by simp[hc])
 have VK:∀c∈Fs.flatten,c∈F:=fun c hc=>hp.mem_iff.2 (by simp only[Zk];exact .inl (.inr hc))
 have S5:=(Za.1 (hp.nodup_iff.1 (Za.1 Ey.nodup).2.1)).1;have Tk:∀c∈F,c<w.heap.size:=fun c hc=>Ey.lt c (by simp only[Zk];exact .inr hc)
 have UM:∀c∈F,¬E2.S c:=fun c hc hS=>Ey.free c (by simp only[Zk];exact .inr hc) (Ey.st c hS)
 have Wb:=ho;obtain⟨ad,cap,dcss,Fs1,R1,rfl,hle,hd,hp1,hcase⟩:=Pf ho;have Oc:css.flatten.length=Du.length*r.n:=by rw[FZ hs.2.2.1,hs.1]
 have W4:dcss.flatten.length=drows.length*r.n:=by rw[FZ hd.2.2.1,hd.1]
 by_cases MT:drows.length+Du.length≤cap
 ·rcases hcase with⟨h0,WH⟩|⟨b,of,arr,ty0,fr,rfl,hb,CO,hunf,rfl,hc⟩
  ·
   have WA:drows=[]:=Zm (by omega);have X2:Du=[]:=Zm (by omega);subst WA X2;have Qe:css=[]:=Zm hs.1;subst Qe h0;have Lu:=KQ (P:=P) (w:=w) (ty:=ty) NS OV hut hu i1 i2 (a:=ad) (x:=v2) (by simpa using hn);obtain⟨r1,r2,r3⟩:=EG h kT (w':=w) (d:=m+1) (by omega) Wb (fun c hc=> .inl (TU c hc)) (Za.1 S5).1 (fun c hc=>Tk c (TU c hc)) (fun _ _ _=>rfl) ⟨rfl,rfl,rfl,Zx _⟩;exact⟨_,_,_,Lu,r1,r2,r3⟩
  ·
   have GR:of+drows.length*r.n+css.flatten.length≤arr.size:=by
    have:(drows.length+Du.length)*r.n≤cap*r.n:=Z9 _ MT;rw[aG]at this;omega
   have Lu:=ME (P:=P) (w:=w) (ty:=ty) NS OV hut hu i1 i2 (b:=b) (o:=of) hn MT (I7 hb GR hunf) hs.one;have W5:b∈F:=TU b (by simp);have Hm:∀c,c∈Fs1.flatten∨c∈Fs.flatten∨E2.S c→c≠b:=by
    intro c Qc e;subst e;rcases Qc with Qc|Qc|Qc
    ·exact(aX.1 (Za.1 S5).1).1 Qc
    ·exact(Za.1 S5).2.2 c (by simp) c Qc rfl
    ·exact UM c W5 Qc
   have F6:∀c,c≠b→(w.setCells b (of+drows.length*r.n) css.flatten).heap[c]? =w.heap[c]?:=fun c hc=>CB _ _ _ _ _ hc
   have V1:=hd.mono (w':=w.setCells b (of+drows.length*r.n) css.flatten) (S':=E2.S) (fun _ h=>h) (fun c hc=>F6 c (Hm c (.inr (.inr hc)))) (fun c hc=>F6 c (Hm c (.inl hc)));have Sv:=hs.mono (w':=w.setCells b (of+drows.length*r.n) css.flatten) (S':=E2.S) (fun _ h=>h) (fun c hc=>F6 c (Hm c (.inr (.inr hc)))) (fun c hc=>F6 c (Hm c (.inr (.inl hc))));have Es:=V1.append Sv;have M7:AL (w.setCells b (of+drows.length*r.n) css.flatten) b of (dcss++css).flatten:=by
    rw[aD];refine AL.append (Hz hc hb GR (.inr (.inl (by omega)))) ?_
    rw[W4];exact EV hb GR
   have how:Ow (w.setCells b (of+drows.length*r.n) css.flatten) E2.S (m+1) (.sl r) [.slice (some ⟨b,of,none⟩) (drows.length+Du.length) cap] (drows++Du) (b::(Fs1++Fs).flatten):=by
    simp only[Ow];refine⟨_,cap,by rw[Zl],by rw[Zl];exact MT,.inr ⟨b,of,_,ty0,fr,Fs1++Fs,rfl,B9 _ _ _ _ _ _ _ hb,by rw[B7];exact CO,by rw[B7];exact hunf,rfl,Es.2.1,fun j q G hq hG=> ?_⟩⟩;have hj:=(ZS.1 hq).1;have h1:=Es.1;have Qa:j<(dcss++css).length:=by omega
    refine⟨(dcss++css)[j],Es.2.2.1 _ (aF _),fun x u hx=> ?_,Es.2.2.2 j _ _ _ (ZT Qa) hq hG⟩;have Wm:=(ZS.1 hx).1;rw[Es.2.2.1 _ (aF _)]at Wm;have:=HP (n:=r.n) (css:=dcss++css) (ex:=[]) (i:=j) Es.2.2.1 (ZT Qa) Wm;rw[Zu,hx]at this;have:=M7 _ _ this
    rwa [←aZ]at this
   have Js:(b::(Fs1++Fs).flatten)=(b::Fs1.flatten)++Fs.flatten:=by simp
   rw[Js]at how;obtain⟨r1,r2,r3⟩:=EG h kT (w':=w.setCells b (of+drows.length*r.n) css.flatten) (d:=m+1) (by omega) how (fun c hc=> .inl ((Zk.1 hc).elim (TU c) (VK c))) S5
    (fun c hc=>by rw[BF];exact Tk c ((Zk.1 hc).elim (TU c) (VK c))) (fun c hc Yv=>F6 c (fun e=>Yv (e▸W5))) (AZ _ _ _ _)
   exact⟨_,_,_,Lu,r1,r2,r3⟩
 ·
  have hold:drows.length=0∨ ∃b o,ad=some ⟨b,o,none⟩∧AL w b o dcss.flatten:=by
   rcases hcase with⟨h0,_⟩|⟨b,of,arr,ty0,fr,rfl,hb,CO,hunf,rfl,hc⟩
   ·exact .inl (by omega)
   ·exact .inr ⟨b,of,rfl,hc⟩
  have Lu:=KL (P:=P) (w:=w) (ty:=ty) NS OV hut hu i1 i4 i2 (L0 (P:=P) (cap:=cap) hd.1 hd.2.2.1 hold) hn (by omega) KB (by omega);have Tw:=grownCap_ge w (drows.length+Du.length) cap e
  generalize Y5:grownCap w (drows.length+Du.length) cap e=gc at Lu Tw
  let arr:Array Value:=dcss.flatten.toArray++css.flatten.toArray++Builtin.zeroCells z.cells (gc-(drows.length+Du.length))
  have IG:arr.toList=(dcss++css).flatten++(Builtin.zeroCells z.cells (gc-(drows.length+Du.length))).toList:=by simp[arr]
  have To:z.cells.size=r.n:=by rw[←ae,i5,Bz]
  have Xa:arr.size=gc*r.n:=by
   simp only[arr,Array.size_append,List.size_toArray,Lx,To,Oc,W4,←aG];congr 1;omega
  let w':=w.drew.alloc (.cells arr e)
  have new:w'.heap[w.heap.size]? =some (.cells arr e):=by
   show(w.heap.push (.cells arr e))[w.heap.size]? =_
   simp
  have Q0:∀c,c<w.heap.size→w'.heap[c]? =w.heap[c]?:=fun c hc=>DF (w:=w) (o:= .cells arr e) hc
  have V7:∀c∈Fs1.flatten,c∈Fd:=fun c hc=>hp1.mem_iff.2 (by simp only[Zk];exact .inl hc)
  have V1:=hd.mono (w':=w') (S':=E2.S) (fun _ h=>h) (fun c hc=>Q0 c (Ey.HU c (Ey.st c hc))) (fun c hc=>Q0 c (Tk c (TU c (V7 c hc))));have Sv:=hs.mono (w':=w') (S':=E2.S) (fun _ h=>h) (fun c hc=>Q0 c (Ey.HU c (Ey.st c hc))) (fun c hc=>Q0 c (Tk c (VK c hc)));have Es:=V1.append Sv;have how:Ow w' E2.S (m+1) (.sl r) [.slice (some ⟨w.heap.size,0,none⟩) (drows++Du).length gc] (drows++Du) (w.heap.size::(Fs1++Fs).flatten):=
   JB new IG Es.1 (by rw[Zl];exact Tw) (by omega) (JM _) Es.2.1 Es.2.2.2
  rw[Zl]at how;have KC:∀c∈(Fs1++Fs).flatten,c∈Fd++Fs.flatten:=by
   intro c hc;rw[aD,Zk]at hc;exact Zk.2 (hc.imp (V7 c) id)
  have Yp:(Fs1++Fs).flatten.Nodup:=by
   rw[aD];have n1:=(Za.1 (hp1.nodup_iff.1 (Za.1 S5).1)).1;exact Za.2 ⟨n1,(Za.1 S5).2.1,fun x hx y hy=>(Za.1 S5).2.2 x (V7 x hx) y hy⟩
  have Tb:∀c∈(Fs1++Fs).flatten,c∈F:=fun c hc=>(Zk.1 (KC c hc)).elim (TU c) (VK c)
  obtain⟨r1,r2,r3⟩:=EG h kT (w':=w') (d:=m+1) (by omega) how (by
    intro c hc;rcases Z1.1 hc with rfl|hc
    ·exact .inr (Zx _)
    ·exact .inl (Tb c hc)) (by
    refine aX.2 ⟨fun hc=> ?_,Yp⟩;have:=Tk _ (Tb _ hc);omega) (by
    intro c hc;rcases Z1.1 hc with rfl|hc
    ·simp[w']
    ·have:=Tk _ (Tb _ hc)
     simp[w'];omega) (fun c hc _=>Q0 c hc) ⟨rfl,rfl,rfl,by simp[w']⟩
  exact⟨_,_,_,Lu,r1,r2,r3⟩
end
end Go.Fw
end
section
namespace Go.Fw
theorem E_{α β:Type}{args:Array α}{f:α→β}{x y:β}(h:args.toList.map f=[x,y]):∃a b,args= #[a,b]∧f a=x∧f b=y:=by
 obtain⟨l⟩:=args
 match l,h with
 |[a,b],h=>simp at h;exact⟨a,b,rfl,h.1,h.2⟩
theorem FA{α β:Type}{args:Array α}{f:α→β}{x:β}(h:args.toList.map f=[x]):∃a,args= #[a]∧f a=x:=by
 obtain⟨l⟩:=args
 match l,h with
 |[a],h=>simp at h;exact⟨a,rfl,h⟩
section
variable{Y:Type} {P:Program} {T:Bw} (hT:Av P T) {o:Oper} {E:Env} {σ:St} {a:Act} {w:World} {k:K Y} {y:Y}
include hT
theorem N2(h:Rel E σ a w){c:Call}{x1 x2:XV}(ho:o.op= .call c)(hc:c.callee= .builtin .append)(Bd:c.args.toList.map σ.ev=[x1,x2])(e:Hv T c.argTypes σ x1 x2 k=some y):CG P o E σ a w k y:=by
 obtain⟨o1,o2,hargs',rfl,rfl⟩:=E_ Bd;have G7:=h.ev o1;have GY:=h.ev o2;have exec:∀{v w'},(Builtin.append_ c.argTypes o.type #[a.eval o1,a.eval o2]).run P w= .ok v w'→(execOp a.eval o).run P w= .ok (.value v) w':=by
  intro v w' hr;simp only[execOp,ho,resolve,hc,hargs',invoke,builtin,Sem.run_bind,Sem.run_pure,Result.andThen_ok,List.map_toArray,av,bE,hr]
 unfold Hv at e;split at e
 case h_2=>cases e
 rename_i t u NS OV;split at e
 case isFalse=>cases e
 rename_i hu;have XO:(∃e,P.underlying u=some (.slice e))∨P.underlying u=some .string:=by
  rw[bB]at hu;exact hu.imp (JX hT) (FR hT)
 split at e
 ·
  rename_i z WG Vi;rw[WG]at G7;rw[Vi]at GY;simp only[ZW]at e;obtain⟨⟨r,rows,DN,d⟩,e1,e⟩:=e;dsimp only at e;split at e
  case isFalse=>cases e
  rename_i Ib;split at e
  case isFalse=>cases e
  rename_i KB;obtain⟨hd,E',F,css,Fs,R,kT,hp,hs,hn⟩:=H7 (P:=P) h.bx (Aq.refl _) GY e1;obtain⟨m,rfl⟩:∃m,d=m+1:=⟨d-1,by omega⟩;have WN:a.eval o1= .slice none 0 0:=G7;obtain⟨v,w',E3,hr,r1,r2,r3⟩:=Jx hT h (ty:=o.type) NS OV XO Ib kT (v1:= .slice none 0 0) (Fd:=[]) (drows:=[]) Ld hs hn (R:=R) (by simpa using hp) (by simpa using KB);rw[←WN]at hr;simp only[aj]at r1 r3;exact⟨_,_,_,_,_,.inl (exec hr),r1,r3,r2.any,rfl,e⟩
 ·rename_i z1 z2 Tx WG Vi
  rw[WG]at G7;rw[Vi]at GY;simp only[ZW]at e;obtain⟨⟨r,rows,I2,d⟩,e1,e⟩:=e;dsimp only at e;split at e
  case isFalse=>cases e
  rename_i Ib;simp only[ZW]at e;obtain⟨⟨q,srows0,GD,ds⟩,e2,Du,e3,e⟩:=e;dsimp only at e e3;obtain⟨hqr,e4⟩:=BN e3;subst hqr;subst e4;dsimp only at e;split at e
  case isFalse=>cases e
  rename_i KB;obtain⟨hd,F1,F2,k1,ho1⟩:=Hy h.bx (Aq.refl _) G7 e1;obtain⟨Sn,E',F3,css,Fs,R,k2,hp,hs,hn⟩:=H7 (P:=P) k1.boxes ((Aq.refl _).K6 k1) GY e2;obtain⟨m,hm⟩:∃m,min d ds=m+1:=⟨min d ds-1,by omega⟩;rw[hm]at e;obtain⟨A,W1,p1,ho1'⟩:=B3 (d:=m+1) (by omega) ho1;obtain⟨Gs,W2,p2,Sv⟩:=hs.weaken (d':=m) (by omega);have hB:=k2.boxes.perm (G':=(A++Gs.flatten++(R++F2))++(W1++W2)++[]) (by
   rw[Zu,Zu];refine((hp.trans (p2.append_right R)).append (p1.append_right F2)).trans ?_
   classical
   rw[bC];intro c;simp only[List.count_append];omega)
  obtain⟨hle,Ey⟩:=hB.share;have kT:BB E w σ.bx σ.bx [] _ GD (A++Gs.flatten++(R++F2)):=⟨(k1.le.trans k2.le).trans hle,k2.len.trans k1.len,fun b B hb=>(k2.within b B hb).elim .inl (k1.within b B),Ey⟩;have S_:Ow w (fun c=>E'.S c∨c∈W1++W2) (m+1) (.sl q) [a.eval o1] rows A:=
   Ak (fun c hc=>hc.imp (k2.le.S c) (by simp_all)) (fun _ _=>rfl) (fun _ _=>rfl) ho1'
  have T0:Ax w (fun c=>E'.S c∨c∈W1++W2) m q css srows0 Gs:=Sv.mono (fun c hc=>hc.imp id (by simp_all)) (fun _ _=>rfl) (fun _ _=>rfl);obtain⟨v,w',E3,hr,r1,r2,r3⟩:=Jx hT h (ty:=o.type) NS OV XO Ib kT S_ T0 hn (bG _) KB;exact⟨_,_,_,_,_,.inl (exec hr),r1,r3,r2.any,rfl,e⟩
 ·cases e
end
end Go.Fw
end
section
namespace Go.Fw
theorem KP{P:Program}{w:World}{b o:Nat}{ty:TypeId}{v:Value}(ht:w.there b o v.cells.toList.length)(hi:(P.info? ty).map (·.size)=some v.cells.toList.length)(h1:∀u∈v.cells.toList,u.oneCell' =true):
  (Instr.storeAt ty (.pointer (some ⟨b,o,none⟩)) v).run P w= .ok () (w.setCells b o v.cells.toList):=by
 have:=run_storeCells_cells (P:=P) b o v.cells.toList 0 w (fun j hj=>by simpa using(ht j hj).1) (fun j hj=>by simpa using(ht j hj).2) h1;cases hq:P.info? ty with
 |none=>simp[hq]at hi
 |some i=>
  have hs:v.cells.size=i.size:=by simp[hq]at hi;omega
  simp only[aP]at this;simp[Instr.storeAt,Instr.sureAddr,storeVar,sizeOf,typeInfo,hq,hs,this]
theorem Gi{E E1 E':Env}{w w':World}{vw I2 DN:List Bx}{F:ZD}(b0:Nat)(k:BB E w vw vw [] E1 I2 F)(st:∀c,E.S c→E.T c)(hlen:vw.length≤DN.length)
  (Ip:∀b d r rows,b≠b0→b<vw.length→DN[b]? =some (.sl d r rows)→I2[b]? =some (.sl d r rows)) (Ms:∀b,b<vw.length→E'.BR b=E1.BR b) (HX:∀b,b<vw.length→E'.BT b=E1.BT b) (hT:E'.T=E1.T) (hS:E'.S=E1.S)
  (hw:∀c,c<w.heap.size→c∉F→w'.heap[c]? =w.heap[c]?)
  (h0:∀d r rows,DN[b0]? =some (.sl d r rows)→ ∃d0 DP,vw[b0]? =some (.sl d0 r DP)∧
   ∀p,AW r DP p→ ∀q ys,A8 r DP p=some ⟨q,ys⟩→AW r rows p∧(∃Lf,A8 r rows p=some ⟨q,Lf⟩∧List.length Lf=List.length ys)∧
    ∀h,Bm w (E.BT b0) p=some h→Bm w' (E'.BT b0) p=some h):D5 E w vw E' w' DN:=by
 have hB:=k.boxes;obtain⟨Fs,⟨h1,h2⟩,h3⟩:=hB;simp only[Zu]at h3;have Ri:∀c,E1.T c→w'.heap[c]? =w.heap[c]?:=fun c hc=>hw c (h3.HU c hc) fun hf=>h3.free c (by simp[hf]) hc
 refine⟨hlen,fun b hb=>by rw[Ms b hb,k.le.BR],fun c hc=>by rw[hT];exact k.le.T c hc,fun c hc=>by rw[hS];exact k.le.S c hc,st,fun c hc=>Ri c (k.le.T c hc),fun b d r rows hb e=> ?_⟩;by_cases hb0:b=b0
 ·subst hb0
  exact h0 d r rows e
 have e1:=Ip b _ _ _ hb0 hb e;rcases k.within b _ e1 with e2|e2
 ·cases e2
 ·refine⟨d,rows,e2,fun p hp q ys hg=>⟨hp,⟨ys,hg,rfl⟩,fun h' hh=> ?_⟩⟩
  have hF:Fs[b]? =some (Fs[b]'(by have:=(ZS.1 e1).1;omega)):=ZT _;obtain⟨hd,ho⟩:=h2 b _ _ e1 hF;rw[HX b hb];rw[←k.le.BT]at hh;refine NV ho (fun c hc=>Ri c (h3.st c hc)) (fun c hc=> ?_) hp hg hh;have KC:c∈Fs.flatten:=Zt.2 ⟨_,Zb hF,hc⟩;exact hw c (h3.lt c (by simp[KC])) fun hf=>(Za.1 h3.nodup).2.2 c KC c hf rfl
def Bx.map(f:AV→AV):Bx→Bx
 | .mem cs=> .mem (cs.map f)
 |B=>B
theorem AQ.T1{E E':Env}{w w':World}{vw vw' bx:List Bx}{G:ZD}(f:AV→AV)(h:AQ E w vw bx G)(k:∀x v,VR E w vw x v→VR E' w' vw' (f x) v)
  (hS:∀c,E.S c→E'.S c) (Ms:∀b,b<bx.length→E'.BR b=E.BR b) (HX:∀b,b<bx.length→E'.BT b=E.BT b)
  (hw:∀c,(E.S c∨(¬E.T c∧c∉G))→c<w.heap.size→w'.heap[c]? =w.heap[c]?)
  (RE:∀F,Sep E w (F++G)→Sep E' w' (F++G)):AQ E' w' vw' (bx.map (Bx.map f)) G:=by
 obtain⟨Fs,⟨hl,h1⟩,h2⟩:=h;refine⟨Fs,⟨by simpa using hl,fun n B F hn hF=> ?_⟩,RE _ h2⟩;rw[Zy,ZV]at hn;obtain⟨B,hn,rfl⟩:=hn;have CK:=(ZS.1 hn).1;have h3:=h1 n B F hn hF;have Ov:∀c∈F,c∈Fs.flatten:=fun c hc=>Zt.2 ⟨F,Zb hF,hc⟩
 have SW:∀c∈F,w'.heap[c]? =w.heap[c]?:=fun c hc=>hw c (.inr ⟨h2.free c (by simp[Ov c hc]),fun hg=>by
  have:=(Za.1 h2.nodup).2.2 c (Ov c hc) c hg;exact this rfl⟩) (h2.lt c (by simp[Ov c hc]))
 have Lr:∀c,E.S c→w'.heap[c]? =w.heap[c]?:=fun c hc=>hw c (.inl hc) (h2.HU c (h2.st c hc))
 cases B with
 |mem cs=>
  obtain⟨rfl,arr,ty,fr,ha,hu,hv⟩:=h3;refine⟨by rw[Ms n CK],arr,ty,fr,?_,hu,AJ.CE f k hv⟩;rw[Ms n CK,SW _ (by simp),ha]
 |sl d r rows=>
  obtain⟨hd,ho⟩:=h3;refine⟨hd,?_⟩;rw[HX n CK];exact Ak hS Lr SW ho
 |dead=>exact h3
theorem Bx.map_id:∀B:Bx,Bx.map id B=B
 | .mem cs=>by simp[Bx.map]
 | .sl _ _ _=>rfl
 | .dead=>rfl
theorem GH(bx:List Bx):bx.map (Bx.map id)=bx:=by
 induction bx with
 |nil=>rfl
 |cons B l ih=>simp[ih,Bx.map_id]
theorem Jv(b:Nat)(bx:List Bx):bx.map (PY b)=bx.map (Bx.map (Bp b)):=by
 apply aY;intro B _;cases B<;>rfl
theorem QD{E:Env}{σ:St}{a:Act}{w:World}(h:Rel E σ a w){b j:Nat}{cs G2:List AV}(hb:σ.bx[b]? =some (.mem cs)){xs:List AV}{vs:List Value}(hx:Ir E w σ.bx xs vs)(Hm:xs≠[])
  (e:FJ cs j xs=some G2):
  w.there (E.BR b) j vs.length∧Rel E { σ with bx:=σ.bx.set b (.mem G2) } a (w.setCells (E.BR b) j vs)∧DZ [b] E σ.bx w E (σ.bx.set b (.mem G2)) (w.setCells (E.BR b) j vs):=by
 have st:=h.bx.st;obtain⟨F,⟨rfl,arr,ty,fr,ha,hu,hv⟩,hB⟩:=h.bx.take hb;simp only[Zu]at hB;have CK:=(ZS.1 hb).1;rcases FN hv hx e with⟨h1,h2⟩|⟨h1,_⟩
 case inr=>exact absurd h1 Hm
 have GR:j+vs.length≤arr.size:=by
  have l1:=AJ.len hv;have l2:=AJ.len hx;simp only[ae]at l1;omega
 have Dp: ¬E.T (E.BR b):=hB.Rg _ (by simp);have Uc:=hB;have F6:∀c,c≠E.BR b→(w.setCells (E.BR b) j vs).heap[c]? =w.heap[c]?:=fun c hc=>CB _ _ _ _ _ hc
 have hw:∀c,c<w.heap.size→c∉[E.BR b]→(w.setCells (E.BR b) j vs).heap[c]? =w.heap[c]?:=fun c _ hc=>F6 c (by simpa using hc)
 have kT:BB E w σ.bx σ.bx [] E (σ.bx.set b .dead) [E.BR b]:=⟨Le.refl _,by simp,fun n B hn=>by
  by_cases en:n=b
  ·subst en
   rw[Zd CK]at hn;exact .inl (by simpa using hn.symm)
  ·rw[ZZ (fun h=>en h.symm)]at hn
   exact .inr hn,by simpa using hB⟩
 have keep:D5 E w σ.bx E (w.setCells (E.BR b) j vs) (σ.bx.set b (.mem G2)):=Gi b kT st (by simp) (fun n d r rows hn _ hq=>by
   rw[ZZ (by omega)]at hq⊢;exact hq) (fun _ _=>rfl) (fun _ _=>rfl) rfl rfl hw (fun d r rows hq=>by
   rw[Zd CK]at hq;cases hq)
 refine⟨I7 ha GR hu,⟨h.Cg,h.tm.imp fun _ _ hq=>C2 keep hq,?_⟩,⟨⟨fun _ h=>h,fun _ h=>h,fun _ h=> .inl h,fun _ h=> .inl h,fun c hc=>F6 c (fun e=>Dp (e▸hc)),(AZ _ _ _ _).os,(AZ _ _ _ _).tape,(AZ _ _ _ _).output,(AZ _ _ _ _).size⟩,by simp,fun _ _=>⟨rfl,rfl⟩,fun n hn=>by
  rw[ZZ (fun e=>by subst e;rw[hb]at hn;cases hn)];exact hn,fun n B B' Lt hB D2 Pt=>by
  simp at Lt;rw[ZZ (fun e=>Lt e.symm),hB]at D2;cases D2;refine⟨EZ.refl Pt,fun c hc=>F6 c (fun e=> ?_)⟩;obtain⟨Fs,⟨f1,f2⟩,f3⟩:=Uc;have Ey:(σ.bx.set b .dead)[n]? =some B:=by rw[ZZ (fun e=>Lt e.symm)];exact hB
  have hF:Fs[n]? =some (Fs[n]'(by have:=(ZS.1 Ey).1;omega)):=ZT _;rcases Ho (f2 n B _ Ey hF) hc with hs|hs
  ·exact Dp (e▸st c hs)
  ·exact(Za.1 f3.nodup).2.2 c (Zt.2 ⟨_,Zb hF,hs⟩) (E.BR b) (by simp) e⟩⟩
 have hT:=hB.turn (E':=E) (w':=w.setCells (E.BR b) j vs) (vw':=σ.bx.set b (.mem G2)) (fun x v hq=>A3 keep hq) (fun _ h=>h) (fun _ _=>rfl) (fun _ _=>rfl) (fun c hc _=>F6 c (fun e=>by
   rcases hc with hc|hc
   ·exact Dp (e▸st c hc)
   ·exact hc.2 (by simp[e]))) (fun F hF=>⟨hF.nodup,hF.free,fun c hc=>by rw[BF];exact hF.lt c hc,hF.st,fun c hc=>by rw[BF];exact hF.HU c hc,hF.NY.mono (fun _ h=>h) (fun c hc=>F6 c (fun e=>Dp (e▸hc)))⟩)
 have:=AQ.put (b:=b) (B:= .mem G2) (F:=[E.BR b]) (G:=[]) (by simpa using hT) (by rw[Zd CK]) ⟨rfl,A0 arr j vs,ty,fr,B9 _ _ _ _ _ _ _ ha,by rw[B7];exact hu,h1.imp fun _ _ hq=>A3 keep hq⟩;rw[bD]at this;exact this
theorem FU:∀{r:Ty} {j j':Nat} {x:r.D} {t:Ty} {y:t.D} {x':r.D},Af r j x t y=some x'→j'≠j→AB r j' x' =AB r j' x
 | .cons c r,0,j',x,t,y,x',e,hj=>by
  simp only[Af]at e;split at e
  ·rename_i h
   subst h;simp only[ZU]at e;subst e;cases j' with
   |zero=>exact absurd rfl hj
   |succ j' =>simp[AB]
  ·cases e
 | .cons c r,j+1,j',x,t,y,x',e,hj=>by
  simp only[Af,ZV]at e;obtain⟨z,e1,rfl⟩:=e;cases j' with
  |zero=>simp[AB]
  |succ j' =>
   simp only[AB];exact FU e1 (by omega)
 | .unit,_,_,_,_,_,_,e,_=>by simp[Af]at e
 | .int k,0,j',x,t,y,x',e,hj=>by cases j' with
  |zero=>exact absurd rfl hj
  |succ j' =>simp[AB]
 | .bool,0,j',x,t,y,x',e,hj=>by cases j' with
  |zero=>exact absurd rfl hj
  |succ j' =>simp[AB]
 | .str,0,j',x,t,y,x',e,hj=>by cases j' with
  |zero=>exact absurd rfl hj
  |succ j' =>simp[AB]
 | .sl _,0,j',x,t,y,x',e,hj=>by cases j' with
  |zero=>exact absurd rfl hj
  |succ j' =>simp[AB]
 | .int _,_+1,_,_,_,_,_,e,_=>by simp[Af]at e
 | .bool,_+1,_,_,_,_,_,e,_=>by simp[Af]at e
 | .str,_+1,_,_,_,_,_,e,_=>by simp[Af]at e
 | .sl _,_+1,_,_,_,_,_,e,_=>by simp[Af]at e
theorem EN:∀{r:Ty} {j:Nat} {x:r.D} {t:Ty} {y:t.D} {x':r.D},Af r j x t y=some x'→AB r j x' =some ⟨t,y⟩∧ ∃y0:t.D,AB r j x=some ⟨t,y0⟩
 | .cons c r,0,x,t,y,x',e=>by
  simp only[Af]at e;split at e
  ·rename_i h
   subst h;simp only[ZU]at e;subst e;exact⟨rfl,_,rfl⟩
  ·cases e
 | .cons c r,j+1,x,t,y,x',e=>by
  simp only[Af,ZV]at e;obtain⟨z,e1,rfl⟩:=e;simp only[AB];exact EN e1
 | .unit,_,_,_,_,_,e=>by simp[Af]at e
 | .int k,0,x,t,y,x',e=>by
  simp only[Af]at e;split at e
  ·rename_i h;subst h;cases e;exact⟨rfl,_,rfl⟩
  ·cases e
 | .bool,0,x,t,y,x',e=>by
  simp only[Af]at e;split at e
  ·rename_i h;subst h;cases e;exact⟨rfl,_,rfl⟩
  ·cases e
 | .str,0,x,t,y,x',e=>by
  simp only[Af]at e;split at e
  ·rename_i h;subst h;cases e;exact⟨rfl,_,rfl⟩
  ·cases e
 | .sl _,0,x,t,y,x',e=>by
  simp only[Af]at e;split at e
  ·rename_i h;subst h;cases e;exact⟨rfl,_,rfl⟩
  ·cases e
 | .int _,_+1,_,_,_,_,e=>by simp[Af]at e
 | .bool,_+1,_,_,_,_,e=>by simp[Af]at e
 | .str,_+1,_,_,_,_,e=>by simp[Af]at e
 | .sl _,_+1,_,_,_,_,e=>by simp[Af]at e
theorem JU{r:Ty}{rows:List r.D}{i k:Nat}{x:r.D}(hi:i<rows.length):rowAt r (rows.set i x) k=if k=i then x else rowAt r rows k:=by
 unfold rowAt;rw[aS,aS,aK];by_cases e:k=i
 ·subst e;simp[hi]
 ·rw[Zp (fun h=>e h.symm),Zp e]
theorem Kq:∀{p:List Jn} {r:Ty} {rows rows':List r.D} {q:Ty} {ys Lf:List q.D},A8 r rows p=some ⟨q,ys⟩→Lf.length=ys.length→Li r rows p q Lf=some rows'→rows'.length=rows.length
 |[],r,rows,rows',q,ys,Lf,h1,h2,h3=>by
  simp only[A8,ZU,Zc]at h1;obtain⟨rfl,h1⟩:=h1;obtain rfl:=Zw h1;simp only[Li,bA,DR,ZU]at h3;rw[←h3];exact h2
 |s::p,r,rows,rows',q,ys,Lf,h1,h2,h3=>by
  simp only[Li]at h3;split at h3
  ·simp only[ZW,ZV]at h3
   obtain⟨_,_,_,_,rfl⟩:=h3;simp
  ·cases h3
theorem J2{t:Ty}(ht:t.scalar=true){y:t.D}{q:Ty}{i j:Nat}:∀{p':List Jn} {r:Ty} {rows rows':List r.D} {p:List Jn} {ys:List q.D} {GQ:q.D},AW r rows p→A8 r rows p=some ⟨q,ys⟩→i<ys.length→
  Af q j (rowAt q ys i) t y=some GQ→Li r rows p q (ys.set i GQ)=some rows'→AW r rows p'→ ∀q' zs,A8 r rows p' =some ⟨q',zs⟩→
   AW r rows' p'∧ ∃zs',A8 r rows' p' =some ⟨q',zs'⟩∧List.length zs' =List.length zs
 |[],r,rows,rows',p,ys,GQ,_,hg,hi,hc,hs,_,q',zs,O8=>by
  simp only[A8,ZU,Zc]at O8;obtain⟨rfl,O8⟩:=O8;obtain rfl:=Zw O8;exact⟨by simp[AW],rows',by simp[A8],Kq hg (by simp) hs⟩
 |s'::p',r,rows,rows',p,ys,GQ,hp,hg,hi,hc,hs,SX,q',zs,O8=>by
  have hlen:=Kq hg (by simp) hs;simp only[AW]at SX⊢;obtain⟨g1,g2,g3⟩:=SX;simp only[A8]at O8⊢;split at O8
  case h_2=>cases O8
  rename_i q0 x0 HY;rw[HY]at g3;dsimp only at g3;have key:∃x1,AB r s'.j (rowAt r rows' s'.i)=some ⟨.sl q0,x1⟩∧AW q0 x1 p'∧ ∃zs',A8 q0 x1 p' =some ⟨q',zs'⟩∧List.length zs' =List.length zs:=by
   have same:AB r s'.j (rowAt r rows' s'.i)=some ⟨.sl q0,x0⟩→ ∃x1,AB r s'.j (rowAt r rows' s'.i)=some ⟨.sl q0,x1⟩∧AW q0 x1 p'∧ ∃zs',A8 q0 x1 p' =some ⟨q',zs'⟩∧List.length zs' =List.length zs:=
    fun h=>⟨x0,h,g3,zs,O8,rfl⟩
   cases p with
   |nil=>
    simp only[A8,ZU,Zc]at hg;obtain⟨rfl,hg⟩:=hg;obtain rfl:=Zw hg;simp only[Li,bA,DR,ZU]at hs;subst hs;apply same;rw[JU hi];split
    ·rename_i e
     subst e;by_cases ej:s'.j=j
     ·obtain⟨_,y0,h0⟩:=EN hc
      rw[ej,h0]at HY;simp only[ZU,Zc]at HY;obtain⟨rfl,_⟩:=HY;simp[Ty.scalar]at ht
     ·rw[FU hc ej];exact HY
    ·exact HY
   |cons s p=>
    simp only[AW]at hp;obtain⟨k1,k2,k3⟩:=hp;simp only[A8]at hg;split at hg
    case h_2=>cases hg
    rename_i r' x V2;rw[V2]at k3;dsimp only at k3;simp only[Li,V2,ZW,ZV]at hs;obtain⟨x',hs1,row2,T0,rfl⟩:=hs;rw[JU k1];rw[JU k1]at same;split
    ·rename_i e
     rw[Zn e]at same;rw[e]at HY;by_cases ej:s'.j=s.j
     ·rw[ej]at HY⊢
      rw[V2]at HY;simp only[ZU,Zc,Ty.sl.injEq]at HY;obtain⟨rfl,HY⟩:=HY;obtain rfl:=Zw HY;obtain⟨m1,m2⟩:=J2 ht k3 hg hi hc hs1 g3 q' zs O8;exact⟨x',(EN T0).1,m1,m2⟩
     ·exact same (by rw[FU T0 ej];exact HY)
    ·rename_i e
     rw[Zp e]at same;exact same HY
  obtain⟨x1,e1,e2,e3⟩:=key;rw[e1];exact⟨⟨by omega,g2,e2⟩,e3⟩
theorem MO{w w':World}{B:Nat→Prop}(Fo:∀A,w'.cell? A=w.cell? A∨ ∃v,w'.cell? A=some v∧isSlice v=false):∀{p:List Jn} {r:Ty} {h:Value} {rows:List r.D} {hh:Value},
  Rd w' B (.sl r) [h] rows→AW r rows p→Bm w h p=some hh→Bm w' h p=some hh
 |[],_,h,_,hh,_,_,e=>by rw[AO]at e⊢;exact e
 |s::p,r,h,rows,hh,hr,hp,e=>by
  simp only[AW]at hp;obtain⟨hi,CO,hp⟩:=hp;simp only[Rd]at hr;obtain⟨a,cap,e1,_,hr⟩:=hr;obtain rfl:=(Z8 e1).1;rcases hr with hr|⟨b,o,rfl,hb,hr⟩
  ·omega
  obtain⟨cs,hl,hc,hrow⟩:=hr s.i _ (DS hi);split at hp
  case h_2=>exact hp.elim
  rename_i q x HY;obtain⟨v,hv,hrv⟩:=Hr hrow HY;have Sk:=hc _ _ hv;rw[←CO]at Sk;simp only[Bm]at e⊢;split at e
  case h_2=>cases e
  rename_i v0 VT;rcases Fo ⟨b,o+s.i*s.sz+s.j,none⟩with h1|⟨u,h1,h2⟩
  ·rw[h1,VT]
   rw[h1,VT]at Sk;cases Sk;exact MO Fo hrv hp e
  ·rw[Sk]at h1
   cases h1;simp only[Rd]at hrv;obtain⟨_,_,e2,_⟩:=hrv;simp only[Zo,Z_]at e2;subst e2;simp[isSlice]at h2
theorem Qy{E E':Env}{w w':World}{vw vw':List Bx}{b d d':Nat}{r:Ty}{rows rows':List r.D}(k:D5 E w vw E' w' (vw'.set b .dead))(hb:vw[b]? =some (.sl d r rows))(Rp:vw'[b]? =some (.sl d' r rows'))(hl:rows'.length=rows.length)
  (hh:E'.BT b=E.BT b) {x:AV} {v:Value} (h:VR E w vw x v):VR E' w' vw' (Bp b x) v:=by
 have h1:=A3 k h;have F6:∀{b'},b'≠b→(vw'.set b .dead)[b']? =vw'[b']?:=fun e=>ZZ (fun h=>e h.symm)
 cases x with
 |v t x=>exact h1
 |sl s r x=>exact h1
 |nil=>exact h1
 |BS c j=>exact⟨by simpa using h1.1,h1.2⟩
 |Cn s r x j=>exact h1
 |fn f Bu=>exact⟨fun c hc=>by simpa using h1.1 c hc,h1.2⟩
 |M3 f rows=>exact h1
 |Om=>exact h1
 |undef=>trivial
 |ref c p=>
  cases p with
  |nil=>
   simp only[Bp];by_cases e:c=b
   ·subst e
    simp only[VR,hb,Rp]at h⊢;refine⟨h.1,by simp[AW],⟨_,rfl⟩,?_⟩;rw[AO,hh,←AO (w:=w) (h:=E.BT c)];exact h.2.2.2
   ·simp only[VR,F6 e]at h1⊢;exact h1
  |cons s p=>
   simp only[Bp];split
   ·trivial
   ·rename_i e
    simp only[VR,F6 e]at h1⊢;exact h1
 |win c p off n=>
  cases p with
  |nil=>
   simp only[Bp];by_cases e:c=b
   ·subst e
    simp only[VR,hb,Rp]at h⊢;obtain⟨h0,_,q,ys,a,len,cap,e1,e2,e3,e4⟩:=h;simp only[A8,ZU,Zc]at e1;obtain⟨rfl,e1⟩:=e1;obtain rfl:=Zw e1;refine⟨h0,by simp[AW],r,rows',a,len,cap,rfl,by rw[hl];exact e2,?_,e4⟩;rw[AO,hh,←AO (w:=w) (h:=E.BT c)];exact e3
   ·simp only[VR,F6 e]at h1⊢;exact h1
  |cons s p=>
   simp only[Bp];split
   ·trivial
   ·rename_i e
    simp only[VR,F6 e]at h1⊢;exact h1
 |Bl c p i sz j=>
  cases p with
  |nil=>
   simp only[Bp];by_cases e:c=b
   ·subst e
    simp only[VR,hb,Rp]at h⊢;obtain⟨h0,_,q,ys,bb,o,len,cap,e1,e2,e3,e4⟩:=h;simp only[A8,ZU,Zc]at e1;obtain⟨rfl,e1⟩:=e1;obtain rfl:=Zw e1;refine⟨h0,by simp[AW],r,rows',bb,o,len,cap,rfl,by rw[hl];exact e2,?_,e4⟩;rw[AO,hh,←AO (w:=w) (h:=E.BT c)];exact e3
   ·simp only[VR,F6 e]at h1⊢;exact h1
  |cons s p=>
   simp only[Bp];split
   ·trivial
   ·rename_i e
    simp only[VR,F6 e]at h1⊢;exact h1
theorem Ra{E E':Env}{w w':World}{vw vw':List Bx}{b:Nat}(k:∀x v,VR E w vw x v→VR E' w' vw' (Bp b x) v){x:XV}{v:Value}(h:XR E w vw x v):XR E' w' vw' (Mo b x) v:=by
 cases x with
 |c x=>exact k x v h
 |agg l=>
  obtain⟨vs,rfl,FB⟩:=h;exact⟨vs,rfl,AJ.CE _ k FB⟩
 |D6 l=>
  obtain⟨vs,rfl,FB⟩:=h;refine⟨vs,rfl,AJ.CE _ (fun x v hx=> ?_) FB⟩;cases x with
  |inl x=>exact k x v hx
  |inr q=>
   obtain⟨us,rfl,hus⟩:=hx;exact⟨us,rfl,AJ.CE _ k hus⟩
end Go.Fw
end
section
namespace Go.Fw
theorem Lh{w:World}{vw:List Bx}{E:Env}{bx:List Bx}{G:ZD}(h:AQ E w vw bx G)(hw:Aq bx vw){d:Nat}(hd:1≤d){q:Ty}{UN:q.D}{j:Nat}{x:XV}{v:Value}(hv:XR E w vw x v){GQ:q.D}{DN:List Bx}{d':Nat}
  (e:Kd d q UN j x bx=some (GQ,DN,d')):1≤d'∧d'≤d∧ ∃E' F,BB E w vw bx G E' DN F∧
   ((j=0∧x.plain=false∧Ow w E'.S (d'-1) q v.cells.toList GQ F)∨(∃t y,v.cells.toList=[v]∧Ow w E'.S (d'-1) t [v] y F∧Af q j UN t y=some GQ∧(x.plain=true→t.scalar=true∧isSlice v=false))):=by
 unfold Kd at e;split at e
 ·rename_i l
  split at e
  case isFalse=>cases e
  rename_i hj;obtain⟨vs,rfl,FB⟩:=hv;obtain⟨h1,h2,E',F,h3,h4⟩:=Fu h hw hd FB e;exact⟨h1,h2,E',F,h3,.inl ⟨hj,rfl,h4⟩⟩
 ·rename_i x
  split at e
  case h_2=>cases e
  rename_i t y0 hc;simp only[ZW,ZV,Zz]at e;obtain⟨⟨y,I2,d1⟩,e1,row,e2,rfl,rfl,rfl⟩:=e;dsimp only at e2;have G4:VR E w vw x v:=hv;have hk:x.known=true:=by cases x<;>simp_all[AV.known,HG]
  obtain⟨h1,h2,E',F,h3,h4⟩:=Gk h hw hd G4 e1;refine⟨h1,h2,E',F,h3,.inr ⟨t,y,by rw[(Mn G4 hk).2],h4,e2,fun hp=> ?_⟩⟩;cases x with
  |v u z=>
   simp only[HG,ZV,Zz]at e1;obtain⟨z',e3,_⟩:=e1;obtain⟨rfl,_⟩:=BN e3;obtain⟨hs,hr⟩:=G4;refine⟨hs,?_⟩;cases u<;>simp_all[Ty.scalar,Rd]<;>rfl
  |_=>simp[XV.plain]at hp
 ·cases e
theorem Lg{f:AV→AV}{bx:List Bx}{b d:Nat}{r:Ty}{rows:List r.D}:(bx.set b (.sl d r rows)).map (Bx.map f)=(bx.map (Bx.map f)).set b (.sl d r rows):=by
 rw[List.map_set];rfl
theorem RF{f:AV→AV}{bx:List Bx}{n d:Nat}{r:Ty}{rows:List r.D}(h:(bx.map (Bx.map f))[n]? =some (.sl d r rows)):bx[n]? =some (.sl d r rows):=by
 rw[Zy,ZV]at h;obtain⟨B,h1,h2⟩:=h;cases B with
 |mem cs=>simp[Bx.map]at h2
 |sl d' r' rows' =>rw[h1];exact congrArg some h2
 |dead=>simp[Bx.map]at h2
theorem Mg{E:Env}{σ:St}{a:Act}{w:World}(h:Rel E σ a w){b i sz j:Nat}{p:List Jn}{va v:Value}(SC:VR E w σ.bx (.Bl b p i sz j) va){x:XV}(hv:XR E w σ.bx x v)(Tn:∀u∈v.cells.toList,u.oneCell' =true)
  {σ':St} (e:IP σ (.c (.Bl b p i sz j)) x=some σ'):
  ∃bb oo E',va= .pointer (some ⟨bb,oo,none⟩)∧w.there bb oo v.cells.toList.length∧Rel E' σ' a (w.setCells bb oo v.cells.toList)∧DZ [b] E σ.bx w E' σ'.bx (w.setCells bb oo v.cells.toList)∧σ'.tm.length=σ.tm.length:=by
 simp only[IP]at e;split at e
 case h_2=>cases e
 rename_i d r rows hb;split at e
 case isFalse=>cases e
 rename_i UH;simp only[ZW]at e;obtain⟨⟨q,ys⟩,hg,e⟩:=e;dsimp only at e;split at e
 case isFalse=>cases e
 rename_i CO;simp only[ZW,ZV]at e;obtain⟨⟨GQ,GD,d2⟩,e1,rows',e2,e3⟩:=e;dsimp only at e1 e2 e3;have st:=h.bx.st;simp only[VR,hb]at SC;obtain⟨_,hp,q1,ys1,bb,o,len,cap,g1,hi,g3,rfl⟩:=SC;rw[hg]at g1;simp only[ZU,Zc]at g1;obtain⟨rfl,g1⟩:=g1;obtain rfl:=Zw g1;have CK:=(ZS.1 hb).1;obtain⟨Gb,⟨hd1,ho⟩,hB⟩:=h.bx.take hb;have T2:Aq (σ.bx.set b .dead) σ.bx:=fun n B hn=>by
  by_cases en:n=b
  ·subst en
   rw[Zd CK]at hn;exact .inl (by simpa using hn.symm)
  ·rw[ZZ (fun h=>en h.symm)]at hn
   exact .inr hn
 obtain⟨hd2,hd3,E1,Fx,k1,hrow⟩:=Lh hB T2 (by omega) hv e1;obtain⟨A,W,pG,S_⟩:=B3 (d:=d2+p.length) (by omega) ho;have Ey:=k1.boxes.perm (G':=(Fx++A)++W++[]) (by
  rw[Zu,Zu,ZY];exact Zq _ pG)
 obtain⟨hle,hB3⟩:=Ey.share;simp only[Zu]at hB3
 generalize Ys:({ E1 with S:=fun c=>E1.S c∨c∈W,T:=fun c=>E1.T c∨c∈W }:Env)=E3 at hle hB3
 have KJ:Le E E3:=k1.le.trans hle;have VN:Ow w E3.S (d2+p.length) (.sl r) [E.BT b] rows A:=Ak (fun c hc=>by
  subst Ys;exact hc.imp (k1.le.S c) id) (fun _ _=>rfl) (fun _ _=>rfl) S_
 obtain⟨h',F1,F2,m1,m2,m3,m4⟩:=Kr VN hp hg (by omega);rw[g3]at m1;cases m1;obtain⟨m,rfl⟩:∃m,d2=m+1:=⟨d2-1,by omega⟩;rw[show m+1+p.length-p.length=m+1 by omega]at m2 m4;simp only[Nat.add_sub_cancel]at hrow;obtain⟨b1,o1,arr,ty,fr,cs,G,R,n1,n2,n3,n4,n5,n6,n7,n8,n9⟩:=NB m2 hi;simp only[ZU,Addr.mk.injEq,Z_]at n1;obtain⟨rfl,rfl⟩:=n1;subst CO;have WZ:A.Perm (G++(bb::R)++F2):=m3.trans (n8.append_right F2);obtain⟨Fs,hFs1,hFs2⟩:=hB3;have VZ:bb∈A:=WZ.mem_iff.2 (by simp);have Dp: ¬E3.T bb:=hFs2.free bb (by simp[VZ]);have Kx: ¬E3.S bb:=fun hc=>Dp (hFs2.st bb hc)
 have nd:(Fx++(G++(bb::R)++F2)).Nodup:=(Zq Fx WZ).nodup_iff.1 (Za.1 hFs2.nodup).2.1;have Wv:bb∉Fx:=fun hc=>(Za.1 nd).2.2 bb hc bb (by simp) rfl
 have YM:bb∉G:=fun hc=>(Za.1 (Za.1 (Za.1 nd).2.1).1).2.2 bb hc bb (by simp) rfl
 have X_:bb∉R:=(aX.1 (Za.1 (Za.1 (Za.1 nd).2.1).1).2.1).1;have YY:bb∉F2:=fun hc=>(Za.1 (Za.1 nd).2.1).2.2 bb (by simp) bb hc rfl
 have Oc:j+v.cells.toList.length≤q.n:=by
  rcases hrow with⟨rfl,_,ho4⟩|⟨t,y,hc1,ho4,HD,_⟩
  ·rw[FP ho4];omega
  ·rw[hc1]
   obtain⟨_,y0,Qe⟩:=EN HD;obtain⟨u,_,_,hu,_⟩:=Ht n7 Qe;have:=(ZS.1 hu).1;simp;omega
 have GR:o+i*q.n+j+v.cells.toList.length≤arr.size:=by omega
 let w':=w.setCells bb (o+i*q.n+j) v.cells.toList
 have F6:∀c,c≠bb→w'.heap[c]? =w.heap[c]?:=fun c hc=>CB _ _ _ _ _ hc
 have Lr:∀c,E3.S c→w'.heap[c]? =w.heap[c]?:=fun c hc=>F6 c (fun e=>Kx (e▸hc))
 have Rp:=B9 v.cells.toList (o+i*q.n+j) w bb arr ty fr n2;have Fo:∃G2 G' D0,G2.length=q.n∧AL w' bb (o+i*q.n) G2∧Ow w' E3.S m q G2 GQ G'∧(Fx++G).Perm (G'++D0):=by
  rcases hrow with⟨rfl,_,ho4⟩|⟨t,y,hc1,ho4,HD,_⟩
  ·refine⟨v.cells.toList,Fx,G,FP ho4,EV n2 GR,Ak (fun c hc=>hle.S c hc) (fun c hc=>F6 c (fun e=>Kx (e▸hle.S c hc))) (fun c hc=>F6 c (fun e=>Wv (e▸hc))) ho4,bG _⟩
  ·obtain⟨_,y0,Qe⟩:=EN HD
   obtain⟨u,K1,K2,z1,z2,z3,z4⟩:=Ht n7 Qe;have V5:bb∉K2:=fun hc=>YM (z3.mem_iff.2 (by simp[hc]))
   obtain⟨F',f1,f2⟩:=z4 w' E3.S v y Fx GQ (fun _ hc=>hc) Lr (fun c hc=>F6 c (fun e=>V5 (e▸hc)))
    (Ak (fun c hc=>hle.S c hc) (fun c hc=>F6 c (fun e=>Kx (e▸hle.S c hc))) (fun c hc=>F6 c (fun e=>Wv (e▸hc))) ho4) HD
   refine⟨cs.set j v,F',K1,by simpa using n5,fun x u' hx=> ?_,f2,?_⟩
   ·rw[aK]at hx
    split at hx
    ·rename_i Wi
     subst Wi;split at hx
     ·cases hx
      have:=EV (w:=w) (b:=bb) (o:=o+i*q.n+j) (vs:=v.cells.toList) n2 GR 0 v (by rw[hc1];rfl);simpa using this
     ·cases hx
    ·rename_i Wi
     have hold:=n6 x u' hx;rw[CZ n2]at hold;rw[CZ Rp,Em GR,Zp (fun hh=>by rw[hc1]at hh;simp only[Zj,Zv]at hh;omega),hold]
   ·refine(Zq Fx z3).trans ?_
    refine List.Perm.trans ?_ (f1.symm.append_right K1)
    rw[ZY];exact Zq _ Zr
 obtain⟨G2,G',D0,c1,c2,c3,c4⟩:=Fo;obtain⟨J_,f1,f2⟩:=n9 w' E3.S (A0 arr (o+i*q.n+j) v.cells.toList) G2 GQ G' (fun _ hc=>hc) Lr (fun c hc=>F6 c (fun e=>X_ (e▸hc))) Rp (B7 _ _ _) (fun k hk=>by
  rw[Em GR,Zp (by omega)]) c1 c2 c3
 obtain⟨F',f3,f4⟩:=m4 w' E3.S (ys.set i GQ) J_ rows' (fun _ hc=>hc) Lr (fun c hc=>F6 c (fun e=>YY (e▸hc))) f2 e2;have Js:(Fx++A).Perm (F'++D0):=by
  have p1:F'.Perm (G'++(bb::R)++F2):=f3.trans (f1.append_right F2);refine(Zq Fx WZ).trans (List.Perm.trans ?_ (p1.symm.append_right D0))
  classical
  rw[bC];intro c;have h4:=(bC.1 c4) c;simp only[List.count_append]at h4⊢;omega
 have Va:bb∈F':=(f3.trans (f1.append_right F2)).mem_iff.2 (by simp);have VF:AQ E3 w σ.bx GD F':=by
  have:AQ E3 w σ.bx GD (F'++D0):=AQ.perm (G:=Fx++A) ⟨Fs,hFs1,hFs2⟩ Js;exact this.drop
 have Jy:GD.length=σ.bx.length:=by rw[k1.len];simp
 have U3:GD[b]? =some .dead:=by
  obtain⟨B,hB⟩:∃B,GD[b]? =some B:=⟨_,ZT (by omega)⟩;rcases k1.within b B hB with e|e
  ·rw[hB,e]
  ·rw[Zd CK]at e;rw[hB];exact e.symm
 have Yg:rows'.length=rows.length:=Kq hg (by simp) e2;have kT:∀E0,Le E0 E3→BB E0 w σ.bx σ.bx [] E3 GD (Fx++A):=fun E0 hl=>⟨hl,Jy,fun n B hn=>by
  rcases k1.within n B hn with e|e
  ·exact .inl e
  ·exact(T2 n B e),⟨Fs,hFs1,by simpa using hFs2⟩⟩
 have HX:∀n,E3.BT n=E.BT n:=fun n=>by rw[KJ.BT]
 have Wf:∀c,c<w.heap.size→c∉Fx++A→w'.heap[c]? =w.heap[c]?:=fun c _ hc=>F6 c (fun e=>hc (by rw[e];simp[VZ]))
 have base:Hw E w E3 w':=⟨KJ.T,KJ.S,KJ.Rq,KJ.Pe,fun c hc=>F6 c (fun e=>Dp (e▸KJ.T c hc)),(AZ _ _ _ _).os,(AZ _ _ _ _).tape,(AZ _ _ _ _).output,(AZ _ _ _ _).size⟩;have finish:∀(f:AV→AV) (g:XV→XV),(∀E0,Le E0 E3→(∀c,E0.S c→E0.T c)→ ∀x v,VR E0 w σ.bx x v→VR E3 w' ((GD.map (Bx.map f)).set b (.sl (m+1+p.length) r rows')) (f x) v)→
   (∀x v,XR E w σ.bx x v→XR E3 w' ((GD.map (Bx.map f)).set b (.sl (m+1+p.length) r rows')) (g x) v)→
   Rel E3 { tm:=σ.tm.map g,bx:=(GD.map (Bx.map f)).set b (.sl (m+1+p.length) r rows') } a w':=by
  intro f g hf hg;refine⟨h.Cg,AJ.CE _ hg h.tm,?_⟩;have hT:=VF.T1 (E':=E3) (w':=w') (vw':=(GD.map (Bx.map f)).set b (.sl (m+1+p.length) r rows')) f (hf E3 (Le.refl _) hFs2.st) (fun _ h=>h) (fun _ _=>rfl) (fun _ _=>rfl) (fun c hc _=>F6 c (fun e=>by
    rcases hc with hc|hc
    ·exact Kx (e▸hc)
    ·exact hc.2 (by rw[e];exact Va))) (fun F hF=>⟨hF.nodup,hF.free,fun c hc=>by rw[BF];exact hF.lt c hc,hF.st,fun c hc=>by rw[BF];exact hF.HU c hc,hF.NY.mono (fun _ h=>h) (fun c hc=>F6 c (fun e=>Dp (e▸hc)))⟩)
  refine AQ.put (F:=F') (G:=[]) (by simpa using hT) (by rw[Zy,U3];rfl) ⟨by omega,?_⟩;rw[HX];exact f4
 have Rv:∀f:AV→AV,DZ [b] E σ.bx w E3 ((GD.map (Bx.map f)).set b (.sl (m+1+p.length) r rows')) w':=fun f=>⟨base,by simp[Jy],fun n _=>⟨by rw[KJ.BR],HX n⟩,fun n hn=>by
  have Lt:n≠b:=fun e=>by subst e;rw[hb]at hn;cases hn
  have Oa:=(ZS.1 hn).1;rw[ZZ (fun e=>Lt e.symm),Zy];obtain⟨B,hB⟩:∃B,GD[n]? =some B:=⟨_,ZT (by omega)⟩;have YS:B= .dead:=by
   rcases(kT E KJ).within n B hB with e|e
   ·exact e
   ·rw[hn]at e;cases e;rfl
  rw[hB,YS];rfl,fun n B B' Lt hB D2 Pt=>by
  simp at Lt;have Oa:=(ZS.1 hB).1;rw[ZZ (fun e=>Lt e.symm),Zy]at D2;obtain⟨B2,Ey⟩:∃B2,GD[n]? =some B2:=⟨_,ZT (by omega)⟩;rw[Ey]at D2;have D2:Bx.map f B2=B':=by simpa using D2
  have YI:B2=B:=by
   rcases(kT E KJ).within n B2 Ey with e|e
   ·subst e;exact absurd D2.symm Pt
   ·rw[hB]at e;cases e;rfl
  subst YI;refine⟨?_,fun c hc=>F6 c (fun e=> ?_)⟩
  ·subst D2
   cases B2 with
   |mem cs=>trivial
   |sl d r rows=>rfl
   |dead=>exact absurd rfl Pt
  ·have hF:Fs[n]? =some (Fs[n]'(by have:=(ZS.1 Ey).1;rw[hFs1.1];exact this)):=ZT _
   have KH:Ob E3 w n B2 c:=by
    cases B2 with
    |mem cs=>simp only[Ob]at hc⊢;rw[KJ.BR];exact hc
    |sl d r rows=>simp only[Ob]at hc⊢;rw[HX];exact hc
    |dead=>exact hc
   rcases Ho (hFs1.2 n B2 _ Ey hF) KH with hs|hs
   ·exact Kx (e▸hs)
   ·exact(Za.1 hFs2.nodup).2.2 c (Zt.2 ⟨_,Zb hF,hs⟩) bb (by simp[VZ]) e⟩
 refine⟨bb,o+i*q.n+j,E3,rfl,I7 (k:=0) n2 GR n3,?_,?_,?_⟩
 ·split at e3
  ·rename_i Un
   have h0:∀E0,Le E0 E3→(∀c,E0.S c→E0.T c)→D5 E0 w σ.bx E3 w' (GD.set b (.sl (m+1+p.length) r rows')):=by
    intro E0 hl Uw;refine Gi b (kT E0 hl) Uw (by simp[Jy]) (fun n d r rows hn _ hq=>by
      rw[ZZ (fun e=>hn e.symm)]at hq;exact hq) (fun _ _=>rfl) (fun _ _=>rfl) rfl rfl Wf (fun d0 r0 DP hq=> ?_)
    rw[Zd (by omega)]at hq;simp only[ZU,Bx.sl.injEq]at hq;obtain⟨rfl,rfl,hq⟩:=hq;obtain rfl:=Zw hq;refine⟨d,rows,hb,fun p' SX q' zs O8=> ?_⟩;rcases hrow with⟨_,UL,_⟩|⟨t,y,hc1,ho4,HD,SV⟩
    ·rw[Un]at UL;cases UL
    obtain⟨hs1,T0⟩:=SV Un;have hk:=J2 hs1 hp hg hi HD e2 SX q' zs O8;refine⟨hk.1,hk.2,fun hh Wn=> ?_⟩;rw[HX];rw[←hl.BT,HX]at Wn;refine MO (fun Ad=> ?_) (Fb f4) hk.1 Wn;by_cases eA:Ad.block=bb∧Ad.spot=none∧Ad.off=o+i*q.n+j
    ·right
     obtain⟨ab,ao,asp⟩:=Ad;simp only at eA;rw[eA.1,eA.2.1,eA.2.2];refine⟨v,?_,T0⟩;have:=EV (w:=w) (b:=bb) (o:=o+i*q.n+j) (vs:=v.cells.toList) n2 GR 0 v (by rw[hc1];rfl);simpa using this
    ·left
     refine World.cell?_setCells_out bb v.cells.toList (o+i*q.n+j) w Ad (fun q1 q2=> ?_)
     rw[hc1];simp only[Zj,Zv];have:Ad.off≠o+i*q.n+j:=fun q3=>eA ⟨q1,q2,q3⟩
     omega
   have:=finish id id (fun E0 hl Uw x v hx=>by rw[GH];exact A3 (h0 E0 hl Uw) hx) (fun x v hx=>by rw[GH];exact C2 (h0 E KJ st) hx);rw[GH,List.map_id]at this;rw[←e3];exact this
  ·have h0:∀E0,Le E0 E3→(∀c,E0.S c→E0.T c)→ ∀x v,VR E0 w σ.bx x v→VR E3 w' ((GD.map (Bx.map (Bp b))).set b (.sl (m+1+p.length) r rows')) (Bp b x) v:=by
    intro E0 hl Uw x v hx;have keep:D5 E0 w σ.bx E3 w' (((GD.map (Bx.map (Bp b))).set b (.sl (m+1+p.length) r rows')).set b .dead):=by
     refine Gi b (kT E0 hl) Uw (by simp[Jy]) (fun n d r rows hn _ hq=>by
      rw[ZZ (fun e=>hn e.symm),ZZ (fun e=>hn e.symm)]at hq;exact RF hq) (fun _ _=>rfl) (fun _ _=>rfl) rfl rfl Wf (fun d0 r0 DP hq=> ?_)
     rw[Zd (by simp;omega)]at hq;cases hq
    exact Qy keep hb (by rw[Zd (by simp;omega)]) Yg (by rw[hl.BT]) hx
   have:=finish (Bp b) (Mo b) h0 (fun x v hx=>Ra (h0 E KJ st) hx);rw[←e3];simp only[St.Px];rw[Jv,Lg];exact this
 ·rw[←e3]
  split
  ·have:=Rv id
   rw[GH]at this;exact this
  ·simp only[St.Px]
   rw[Jv,Lg];exact Rv _
 ·rw[←e3]
  split<;>simp[St.Px]
end Go.Fw
end
section
namespace Go.Fw
theorem Mv{w w':World}{B B':Nat→Prop}:∀{r:Ty} {cs:List Value} {x:r.D},r.flat=true→Rd w B r cs x→Rd w' B' r cs x
 | .cons c r,cs,x,h,hr=>by
  simp only[Ty.flat,Zg]at h;simp only[Rd]at hr⊢;obtain⟨v,l,rfl,h1,h2⟩:=hr;exact⟨v,l,rfl,Mv h.1 h1,Mv h.2 h2⟩
 | .unit,_,_,_,hr=>by simpa only[Rd]using hr
 | .int k,_,_,_,hr=>by simpa only[Rd]using hr
 | .bool,_,_,_,hr=>by simpa only[Rd]using hr
 | .str,_,_,_,hr=>by simpa only[Rd]using hr
 | .sl q,_,_,h,_=>by simp[Ty.flat]at h
theorem Hb{w:World}{S:Nat→Prop}{d:Nat}:∀{r:Ty} {cs:List Value} {y:r.D} {F:ZD},r.flat=true→Ow w S d r cs y F→F=[]
 | .int k,_,_,_,_,h=>by simp only[Ow]at h;exact h.2
 | .bool,_,_,_,_,h=>by simp only[Ow]at h;exact h.2
 | .str,_,_,_,_,h=>by simp only[Ow]at h;exact h.2
 | .unit,_,_,_,_,h=>by simp only[Ow]at h;exact h.2
 | .cons c r,_,_,_,hf,h=>by
  simp only[Ty.flat,Zg]at hf;simp only[Ow]at h;obtain⟨v,l,F1,F2,_,rfl,h1,h2⟩:=h;rw[Hb hf.1 h1,Hb hf.2 h2];rfl
 | .sl q,_,_,_,hf,_=>by simp[Ty.flat]at hf
theorem Nc{w w':World}{S S':Nat→Prop}{d d':Nat}{r:Ty}(hr:r.flat=true){cs:List Value}{y:r.D}{F:ZD}(h:Ow w S d r cs y F):F=[]∧cs.length=r.n∧Ow w' S' d' r cs y []:=
 ⟨Hb hr h,FP h,I5 hr (Mv (B':=fun _=>False) hr (Fb h))⟩
theorem Ij:∀{r:Ty} {j:Nat} {x:r.D} {t:Ty} {y:t.D},r.flat=true→AB r j x=some ⟨t,y⟩→t.flat=true
 | .cons c r,0,x,t,y,h,e=>by
  simp only[Ty.flat,Zg]at h;simp only[AB,ZU,Zc]at e;obtain⟨rfl,_⟩:=e;exact h.1
 | .cons c r,j+1,x,t,y,h,e=>by
  simp only[Ty.flat,Zg]at h;simp only[AB]at e;exact Ij h.2 e
 | .unit,_,_,_,_,_,e=>by simp[AB]at e
 | .int k,0,x,t,y,_,e=>by simp only[AB,ZU,Zc]at e;obtain⟨rfl,_⟩:=e;rfl
 | .bool,0,x,t,y,_,e=>by simp only[AB,ZU,Zc]at e;obtain⟨rfl,_⟩:=e;rfl
 | .str,0,x,t,y,_,e=>by simp only[AB,ZU,Zc]at e;obtain⟨rfl,_⟩:=e;rfl
 | .sl _,_,_,_,_,h,_=>by simp[Ty.flat]at h
 | .int _,_+1,_,_,_,_,e=>by simp[AB]at e
 | .bool,_+1,_,_,_,_,e=>by simp[AB]at e
 | .str,_+1,_,_,_,_,e=>by simp[AB]at e
theorem QT{r:Ty}(hr:r.flat=true){rows:List r.D}:∀{p:List Jn},AW r rows p→p=[]
 |[],_=>rfl
 |s::p,h=>by
  simp only[AW]at h;obtain⟨_,_,h⟩:=h;exfalso;cases hc:AB r s.j (rowAt r rows s.i)with
  |none=>rw[hc]at h;exact h
  |some tx=>
   obtain⟨t,x⟩:=tx;have hf:=Ij hr hc;rw[hc]at h;cases t<;>simp_all[Ty.flat]
theorem flatten_nil{l:List ZD}(h:∀x∈l,x=[]):l.flatten=[]:=by
 induction l with
 |nil=>rfl
 |cons x l ih=>
  rw[Z2,h x (by simp),ih (fun y hy=>h y (by simp[hy]))];rfl
theorem P8{E:Env}{σ:St}{a:Act}{w:World}(h:Rel E σ a w){b d off n:Nat}{r:Ty}{rows:List r.D}(hb:σ.bx[b]? =some (.sl d r rows))(hr:r.flat=true)(WX:r.KO=true)(hk:0<r.n)(hl:off+n≤rows.length)(hn:0<n):
  ∃bb o cap,E.BT b= .slice (some ⟨bb,o,none⟩) rows.length cap∧rows.length≤cap∧w.there bb (o+off*r.n) (n*r.n)∧
   Rel E { σ with bx:=σ.bx.set b (.sl d r ((rows.take off++List.replicate n r.z)++rows.drop (off+n))) } a (w.setCells bb (o+off*r.n) (List.replicate n (A6 r)).flatten)∧
   DZ [b] E σ.bx w E (σ.bx.set b (.sl d r ((rows.take off++List.replicate n r.z)++rows.drop (off+n)))) (w.setCells bb (o+off*r.n) (List.replicate n (A6 r)).flatten):=by
 have st:=h.bx.st;obtain⟨F,⟨hd,ho⟩,hB⟩:=h.bx.take hb;simp only[Zu]at hB;have CK:=(ZS.1 hb).1;obtain⟨d',rfl⟩:∃m,d=m+1:=⟨d-1,by omega⟩;simp only[Ow]at ho;obtain⟨ad,cap,hh,Rb,ho⟩:=ho;simp only[Zo,Z_]at hh;rcases ho with⟨rfl,_⟩|⟨bb,o,arr,ty,fr,Fs,rfl,ha,CO,hu,rfl,hFl,GP⟩
 ·omega
 have Xi:List.flatten Fs=[]:=flatten_nil fun x hx=>by
  obtain⟨i,hi,hxi⟩:=aA hx;obtain⟨cs,_,_,h3⟩:=GP i (rows[i]'(by omega)) x (ZT _) (by rw[ZT hi,hxi]);exact(Nc (w':=w) (S':=E.S) (d':=0) hr h3).1
 rw[Xi]at hB;have To:(A6 r).length=r.n:=Bz r;have Wg:((List.replicate n (A6 r)).flatten).length=n*r.n:=by rw[Au,To]
 have Tv:(off+n)*r.n≤cap*r.n:=Z9 _ (by omega);have ZB:(off+n)*r.n=off*r.n+n*r.n:=aG ..;have GR:o+off*r.n+((List.replicate n (A6 r)).flatten).length≤arr.size:=by omega
 generalize FB:(List.replicate n (A6 r)).flatten=vs at Wg GR
 refine⟨bb,o,cap,hh,Rb,I7 ha (by omega) hu,?_⟩;have Dp: ¬E.T bb:=hB.Rg _ (by simp);have Uc:=hB;have F6:∀c,c≠bb→(w.setCells bb (o+off*r.n) vs).heap[c]? =w.heap[c]?:=fun c hc=>CB _ _ _ _ _ hc
 have hw:∀c,c<w.heap.size→c∉[bb]→(w.setCells bb (o+off*r.n) vs).heap[c]? =w.heap[c]?:=fun c _ hc=>F6 c (by simpa using hc)
 have kT:BB E w σ.bx σ.bx [] E (σ.bx.set b .dead) [bb]:=⟨Le.refl _,by simp,fun n B hn=>by
  by_cases en:n=b
  ·subst en
   rw[Zd CK]at hn;exact .inl (by simpa using hn.symm)
  ·rw[ZZ (fun h=>en h.symm)]at hn
   exact .inr hn,by simpa using hB⟩
 generalize Ot:(rows.take off++List.replicate n r.z)++rows.drop (off+n)=rows'
 have Sj:rows'.length=rows.length:=by
  rw[←Ot];simp;omega
 have keep:D5 E w σ.bx E (w.setCells bb (o+off*r.n) vs) (σ.bx.set b (.sl (d'+1) r rows')):=Gi b kT st (by simp) (fun n d r rows hn _ hq=>by
   rw[ZZ (by omega)]at hq⊢;exact hq) (fun _ _=>rfl) (fun _ _=>rfl) rfl rfl hw (fun d1 r1 SZ hq=>by
   rw[Zd CK]at hq;simp only[ZU,Bx.sl.injEq]at hq;obtain⟨rfl,rfl,hq⟩:=hq;obtain rfl:=Zw hq;refine⟨d'+1,rows,hb,fun p hp q ys hg=> ?_⟩;obtain rfl:=QT hr hp;simp only[A8,ZU,Zc]at hg;obtain⟨rfl,hg⟩:=hg;obtain rfl:=Zw hg;exact⟨by simp[AW],⟨rows',by simp[A8],Sj⟩,fun h' Vr=>Vr⟩)
 refine⟨⟨h.Cg,h.tm.imp fun _ _ hq=>C2 keep hq,?_⟩,⟨⟨fun _ h=>h,fun _ h=>h,fun _ h=> .inl h,fun _ h=> .inl h,fun c hc=>F6 c (fun e=>Dp (e▸hc)),(AZ _ _ _ _).os,(AZ _ _ _ _).tape,(AZ _ _ _ _).output,(AZ _ _ _ _).size⟩,by simp,fun _ _=>⟨rfl,rfl⟩,fun n hn=>by
  rw[ZZ (fun e=>by subst e;rw[hb]at hn;cases hn)];exact hn,fun n B B' Lt hB D2 Pt=>by
  simp at Lt;rw[ZZ (fun e=>Lt e.symm),hB]at D2;cases D2;refine⟨EZ.refl Pt,fun c hc=>F6 c (fun e=> ?_)⟩;obtain⟨Fs,⟨f1,f2⟩,f3⟩:=Uc;have Ey:(σ.bx.set b .dead)[n]? =some B:=by rw[ZZ (fun e=>Lt e.symm)];exact hB
  have hF:Fs[n]? =some (Fs[n]'(by have:=(ZS.1 Ey).1;omega)):=ZT _;rcases Ho (f2 n B _ Ey hF) hc with hs|hs
  ·exact Dp (e▸st c hs)
  ·exact(Za.1 f3.nodup).2.2 c (Zt.2 ⟨_,Zb hF,hs⟩) bb (by simp) e⟩⟩
 have hT:=hB.turn (E':=E) (w':=w.setCells bb (o+off*r.n) vs) (vw':=σ.bx.set b (.sl (d'+1) r rows')) (fun x v hq=>A3 keep hq) (fun _ h=>h) (fun _ _=>rfl) (fun _ _=>rfl) (fun c hc _=>F6 c (fun e=>by
   rcases hc with hc|hc
   ·exact Dp (e▸st c hc)
   ·exact hc.2 (by simp[e]))) (fun F hF=>⟨hF.nodup,hF.free,fun c hc=>by rw[BF];exact hF.lt c hc,hF.st,fun c hc=>by rw[BF];exact hF.HU c hc,hF.NY.mono (fun _ h=>h) (fun c hc=>F6 c (fun e=>Dp (e▸hc)))⟩)
 have Vm:Kj E (w.setCells bb (o+off*r.n) vs) (σ.bx.set b (.sl (d'+1) r rows')) b (.sl (d'+1) r rows') [bb]:=by
  refine⟨hd,?_⟩;simp only[Ow];refine⟨_,cap,by rw[hh,Sj],by omega,.inr ⟨bb,o,A0 arr (o+off*r.n) vs,ty,fr,List.replicate rows'.length [],rfl,B9 _ _ _ _ _ _ _ ha,by rw[B7];omega,by rw[B7];exact hu,by simp,by simp,fun i y G hy hG=> ?_⟩⟩;have Yk:G=[]:=aC (Zb hG);subst Yk;have TK:i<rows.length:=by have:=(ZS.1 hy).1;omega
  by_cases KC:off≤i∧i<off+n
  ·have Yb:y=r.z:=by
    rw[←Ot,ZX (by simp;omega),Zf (by simp;omega)]at hy;exact aC (Zb hy)
   subst Yb;refine⟨A6 r,To,fun j v hj=> ?_,I4 WX⟩;have Qa:j<r.n:=by have:=(ZS.1 hj).1;omega
   have e1:(i-off)*r.n=i*r.n-off*r.n:=Nat.sub_mul ..;have e2:off*r.n≤i*r.n:=Z9 _ KC.1;have e3:(i-off+1)*r.n≤n*r.n:=Z9 _ (by omega);rw[aG,az]at e3;have:=EV ha GR ((i-off)*r.n+j) v (by
    rw[←FB,Ca (by rw[To];omega),To,Nat.mul_comm (i-off),Nat.mul_add_mod,Nat.mod_eq_of_lt Qa];exact hj)
   rw[show o+off*r.n+((i-off)*r.n+j)=o+i*r.n+j by omega]at this;exact this
  ·have Yl:rows[i]? =some y:=by
    rw[←Ot]at hy;by_cases h1:i<off
    ·rw[ZX (by simp;omega),ZX (by simp;omega),List.getElem?_take,Zn h1]at hy
     exact hy
    ·rw[Zf (by simp;omega),af]at hy
     rw[←hy];congr 1;simp;omega
   obtain⟨cs,c1,c2,c3⟩:=GP i y (Fs[i]'(by omega)) Yl (ZT _);obtain⟨_,c4,c5⟩:=Nc (w':=w.setCells bb (o+off*r.n) vs) (S':=E.S) (d':=d') hr c3;refine⟨cs,c4,Hz c2 ha GR (.inr ?_),c5⟩;by_cases h1:i<off
   ·have:(i+1)*r.n≤off*r.n:=Z9 _ h1
    rw[aG,az]at this;omega
   ·have:(off+n)*r.n≤i*r.n:=Z9 _ (by omega)
    omega
 have:=AQ.put (b:=b) (B:= .sl (d'+1) r rows') (F:=[bb]) (G:=[]) (by simpa using hT) (by rw[Zd CK]) Vm;rw[bD]at this;exact this
section
variable{Y:Type} {P:Program} {T:Bw} (hT:Av P T) {o:Oper} {E:Env} {σ:St} {a:Act} {w:World} {k:K Y} {y:Y}
include hT
theorem O_(h:Rel E σ a w){c:Call}{x:XV}(ho:o.op= .call c)(hc:c.callee= .builtin .clear)(Bd:c.args.toList.map σ.ev=[x])(e:Jl T c.argTypes σ x k=some y)
  (Vf:∀b p off n,x= .c (.win b p off n)→BZ (fun _=>none) σ o.op=[b]):∃v w' E' xv σ',((execOp a.eval o).run P w= .ok (.value v) w'∨((execOp a.eval o).run P w= .ok .skip w'∧v=undef))∧Rel E' σ' a w'∧XR E' w' σ'.bx xv v∧
   DZ (BZ (fun _=>none) σ o.op) E σ.bx w E' σ'.bx w'∧σ'.tm.length=σ.tm.length∧k xv σ' =some y:=by
 obtain⟨o1,hargs',rfl⟩:=FA Bd;have G7:=h.ev o1;unfold Jl at e;split at e
 case h_2=>cases e
 rename_i t b off n ht hx;rw[hx]at G7;rw[Vf b [] off n hx];split at e
 case h_2=>cases e
 rename_i d r rows hb;split at e
 case isFalse=>cases e
 rename_i Ib;rw[Zg]at Ib;obtain⟨Ib,hr⟩:=Ib;rw[Zg,Zs]at hr;obtain⟨hr,hk⟩:=hr;obtain⟨el,ti,hu,Dw,hs,Ud,hrow⟩:=Cl hT Ib;obtain⟨i,z,i1,i2,i3,i4,i5,hg⟩:=Hs hT Dw hrow;have GY:VR E w σ.bx (.win b [] off n) (a.eval o1):=G7;simp only[VR,hb]at GY;obtain⟨_,_,q,ys,ad,len,cap,S4,hl,hh,hv⟩:=GY;simp only[A8,ZU,Zc]at S4;obtain⟨rfl,S4⟩:=S4;obtain rfl:=Zw S4;simp only[Bm,ZU]at hh;by_cases hn:n=0
 ·subst hn
  have UP:(rows.take off++List.replicate 0 r.z)++rows.drop (off+0)=rows:=by simp
  rw[UP]at e;have HD:σ.bx.set b (.sl d r rows)=σ.bx:=by
   apply aW;intro j;rw[aK];split
   ·rename_i e1
    subst e1;rw[hb];simp[(ZS.1 hb).1]
   ·rfl
  rw[HD]at e;refine⟨.tuple #[],w,E,.c .undef,σ,.inl ?_,h,trivial,DZ.refl _ _ _ _,rfl,e⟩;have hz:∃a' c',a.eval o1= .slice a' 0 c':=⟨_,_,by rw[hv];rfl⟩;obtain⟨a',c',hz⟩:=hz;simp only[execOp,ho,resolve,hc,hargs',invoke,builtin,Sem.run_bind,Sem.run_pure,Result.andThen_ok,List.map_toArray,av,bE,Builtin.clear_,ht,hz];cases a'<;>simp[AD hu]
 ·obtain⟨bb,oo,cap',g1,g2,g3,g4,g5⟩:=P8 h (d:=d) hb hr hg hk hl (by omega)
  rw[g1]at hh;simp only[Value.slice.injEq]at hh;obtain⟨rfl,rfl,rfl⟩:=hh;have G4:a.eval o1= .slice (some ⟨bb,oo+off*r.n,none⟩) n (cap'-off):=by
   rw[hv];unfold Dm;rw[Zp (by omega)];simp[Addr.add]
  refine⟨.tuple #[],_,E,.c .undef,_,.inl ?_,g4,trivial,g5,rfl,e⟩;have hz:(Builtin.zeroCells z.cells n).toList=(List.replicate n (A6 r)).flatten:=by
   unfold Builtin.zeroCells;have X8:z.cells.size=(A6 r).length:=by rw[←i5];simp
   have:=Ge i5 n (fun hh=>by have:=Bz r;rw[hh]at this;simp at this;omega);rw[←X8]at this;exact this
  have h1:∀v∈(List.replicate n (A6 r)).flatten,v.oneCell' =true:=fun v hv=>by
   obtain⟨l,hl1,hl2⟩:=Zt.1 hv;rw[aC hl1]at hl2;exact Kg (w:=w) (S:=E.S) (d:=0) (I4 hg) v hl2
  have Wg:((List.replicate n (A6 r)).flatten).length=n*r.n:=by rw[Au,Bz]
  have QN:=run_storeCells_cells (P:=P) bb (oo+off*r.n) (List.replicate n (A6 r)).flatten 0 w (fun j hj=>by simpa using(g3 j (by omega)).1) (fun j hj=>by simpa using(g3 j (by omega)).2) h1;rw[aP]at QN;obtain⟨n',rfl⟩:∃n',n=n'+1:=⟨n-1,by omega⟩;simp only[execOp,ho,resolve,hc,hargs',invoke,builtin,Sem.run_bind,Sem.run_pure,Result.andThen_ok,List.map_toArray,av,bE,Builtin.clear_,ht,G4];simp[AD hu,zeroValue,typeInfo,i1,i4,hz,QN]
end
end Go.Fw
end
