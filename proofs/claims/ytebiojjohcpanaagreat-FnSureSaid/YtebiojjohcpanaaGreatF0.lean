/- The framework, part 1: a checked interpreter of the model's code over abstract states; no claim is made here. -/
import Derived.Calls
import Derived.Still
import Derived.Laws.World
import Derived.Laws.AppendOwn
import Derived.RowKit3
import Derived.Deep.MidRow
import Derived.Laws.StructEq
import Derived.Lib.ConvBytes
import Derived.Laws.BytesArg
import Derived.Tactics
import Derived.OrdersHeld
import Derived.ChangeArms
import Derived.ChangeOld
import Derived.DataReads
import Derived.Below
import Derived.Shelf.Spec.SlicesInsertGrow
import Derived.Shelf.Slices.Delete
set_option linter.unusedVariables false
set_option linter.unusedSimpArgs false
set_option linter.unusedSectionVars false
abbrev ACg:Type:=Int × Int × Bool × List UInt8 × Unit
abbrev AGu:Type:=List UInt8 × List Int × Bool × Unit
abbrev AE7:Type:=List Int × Bool × Int × Unit
abbrev AEo:Type:=Int × Int × List UInt8 × Unit
abbrev AFj:Type:=Int × List UInt8 × Bool × Unit
abbrev AAH:Type:=List Int
abbrev ACr:Type:=Unit × Int × Unit × Unit × Unit × Int × Unit × Unit × Unit × Unit × Bool × Unit
abbrev AHn:Type:=Int × Bool × Int × Int × Bool × List UInt8 × Unit
abbrev ACa:Type:=Int × Int × Int × Int × List UInt8 × Unit
abbrev ABZ:Type:=Bool × Unit
abbrev ABO:Type:=List Int × Int × Unit
abbrev ABp:Type:=Int × Unit
abbrev AHk:Type:=Int × Int × Unit × Unit × Bool × Unit × Unit
abbrev ACp:Type:=List Int × Int × Int × Unit
abbrev ACL:Type:=Unit × Unit
abbrev AG8:Type:=Unit × Unit × Int × Unit
abbrev ACb:Type:=List Int × Unit
abbrev ABI:Type:=List Nat
abbrev AFn:Type:=Unit × Int × Unit
abbrev AFo:Type:=Int × Int × Unit × Unit
abbrev AFm:Type:=Int × Unit × Unit
abbrev AHl:Type:=Int × Bool × Unit
abbrev ACf:Type:=Nat × Nat
abbrev AFe:Type:=Unit × List Int × Unit
abbrev AFc:Type:=Nat × List Nat
abbrev ABs:Type:=List UInt8
abbrev AFf:Type:=List UInt8 × Unit
abbrev ABi:Type:=Int × Int × List Int × List ACg × Bool × List AAH × Unit
abbrev ACP:Type:=List ACg × List ACg × Int × Unit
abbrev ACh:Type:=Int × Int × List AEo × Unit
abbrev ACJ:Type:=Int × List AGu × Unit
abbrev AA_:Type:=List ACg
abbrev AAk:Type:=List AE7
abbrev AAs:Type:=List AFj
abbrev ACC:Type:=List AE7 × Int × Unit
abbrev AH2:Type:=ACr × Int × Unit
abbrev AIX:Type:=AG8 × Bool × Unit
abbrev ACH:Type:=List AGu
abbrev AIs:Type:=AHk × Bool × Unit
abbrev ACs:Type:=ACp × Unit
abbrev AKg:Type:=AFm × Bool × Unit
abbrev AJx:Type:=AFn × Bool × Unit
abbrev AIu:Type:=ACg × Bool × Unit
abbrev ADw:Type:=AHl × Unit
abbrev ADU:Type:=List AEo
abbrev ACe:Type:=List AHn
abbrev AFd:Type:=ACp × List Int × Unit
abbrev AEX:Type:=AFn × Unit
abbrev AEY:Type:=AHk × Unit
abbrev ACk:Type:=List ACa
abbrev AFJ:Type:=AFo × Unit
abbrev ACi:Type:=ABp × Unit
abbrev AFU:Type:=ACa × Unit
abbrev AFs:Type:=AFm × Int × Bool × Unit
abbrev AFr:Type:=AFn × Int × Bool × Unit
abbrev AFh:Type:=AFm × Unit
abbrev AFg:Type:=AG8 × Unit
abbrev AFi:Type:=ACr × Unit
abbrev AFq:Type:=AFo × Int × Unit
abbrev ABS:Type:=List Int × Int × List ACP × List Int × List AE7 × Int × List ACJ × List ABi × List ACh × List AFj × Bool × Unit
abbrev AAQ:Type:=List ACP
abbrev AAt:Type:=List ACJ
abbrev AA2:Type:=List ACh
abbrev AAu:Type:=List ABi
abbrev ACm:Type:=List Int × AA_ × List AAH × Unit
abbrev ACl:Type:=AA_ × AA_ × Unit
abbrev ACj:Type:=AH2 × Unit
abbrev ACo:Type:=AIX × Unit
abbrev ADu:Type:=AIs × Unit
abbrev ACv:Type:=ACH × Unit
abbrev ACt:Type:=AAk × Unit
abbrev AEL:Type:=ADU × Unit
abbrev AD5:Type:=AA_ × Unit
abbrev AEc:Type:=AIu × Unit
abbrev AE6:Type:=AJx × Unit
abbrev AEz:Type:=AKg × Unit
abbrev AFk:Type:=Unit × AA_ × Unit
abbrev AFp:Type:=AFo × Unit × ADU × Unit
abbrev ACn:Type:=List Int × AAQ × List Int × AAk × AAt × AAu × AA2 × AAs × Unit
abbrev ACq:Type:=ACr × List Int × AAQ × List Int × AAk × AAt × AAu × AA2 × AAs × Unit
abbrev AFl:Type:=List Int × Int × AAQ × List Int × AAk × Int × AAt × AAu × AA2 × AAs × Bool × Unit
abbrev AGp:Type:=ACr × List Int × AAQ × Unit × AAk × AAt × AAu × AA2 × AAs × List Int × Unit
abbrev AFt:Type:=List Int × AAQ × Unit × AAk × AAt × AAu × AA2 × AAs × List Int × Unit
abbrev AGg:Type:=AAQ × AA_ × AA_ × Unit
abbrev AK7:=@Bool.eq_false_or_eq_true
abbrev ALI:=@if_pos
abbrev ALR:=@List.getElem?_eq_getElem
abbrev ALT:=@if_neg
abbrev ALW:=@Option.some.injEq
abbrev ALe:=@Option.map_eq_some_iff
abbrev ALf:=@List.getElem?_eq_some_iff
abbrev ALp:=@Bool.and_eq_true
abbrev ALr:=@Bool.false_eq_true
abbrev ALt:=@Option.bind_eq_some_iff
abbrev ALu:=@Bool.not_true
abbrev ALz:=@cond_false
abbrev AL2:=@Int.toNat_natCast
abbrev AL5:=@List.getElem_mem
abbrev AMC:=@decide_eq_true_eq
abbrev AMD:=@Bool.true_and
abbrev AMI:=@List.drop_eq_nil_of_le
abbrev AMJ:=@cond_true
abbrev AMM:=@Option.bind_some
abbrev AMa:=@List.append_nil
abbrev AMn:=@Sigma.mk.injEq
abbrev AMx:=@List.nodup_append
abbrev AM4:=@List.append_assoc
abbrev ANA:=@List.getElem?_append_left
abbrev ANO:=@List.mem_of_getElem?
abbrev ANW:=@List.length_cons
abbrev AOU:=@List.getElem?_append_right
abbrev AOV:=@if_false
abbrev AOk:=@Nat.mul_le_mul_right
abbrev AOs:=@List.mem_append
abbrev AO3:=@List.mem_cons
abbrev AO4:=@Bool.not_eq_true
abbrev AO7:=@Bool.not_eq_false'
abbrev APV:=@List.length_append
abbrev APa:=@beq_eq_false_iff_ne
abbrev APc:=@List.eq_nil_of_length_eq_zero
abbrev APo:=@Prod.mk.injEq
abbrev APz:=@Nat.le_refl
abbrev AQF:=@List.length_nil
abbrev AQN:=@List.cons.injEq
abbrev AQU:=@List.getElem_of_mem
abbrev AQc:=@List.pairwise_cons
abbrev AQ3:=@eq_of_heq
abbrev ARB:=@List.getElem?_map
abbrev ARE:=@Nat.le_trans
abbrev ARK:=@List.length_filter_le
abbrev ARU:=@Bool.not_false
abbrev ARd:=@decide_eq_true
abbrev ARg:=@List.mem_flatten
abbrev AR8:=@List.getElem?_set_ne
abbrev AR9:=@Bool.or_eq_true
abbrev ASR:=@Bool.false_or
abbrev ASY:=@Bool.not_eq_true'
abbrev ASe:=@if_true
abbrev ASf:=@List.filter_cons
abbrev ASg:=@List.nil_append
abbrev ASh:=@Nat.lt_of_lt_of_le
abbrev ASi:=@List.drop_zero
abbrev ASj:=@Int.le_refl
abbrev ASk:=@Bool.false_and
abbrev ASl:=@List.map_congr_left
abbrev ASm:=@List.take_of_length_le
abbrev ASn:=@and_true
abbrev ASo:=@List.take_succ_eq_append_getElem
abbrev ASp:=@List.mem_filter
abbrev ASq:=@decide_eq_false
abbrev ASr:=@Option.isSome_none
abbrev ASs:=@Option.isSome_some
abbrev ASt:=@List.mem_map
abbrev ASu:=@List.getElem?_eq_none
abbrev ASv:=@Option.getD_some
abbrev ASw:=@List.mem_or_eq_of_mem_set
abbrev ASx:=@List.getElem?_set_self
abbrev ASy:=@beq_iff_eq
abbrev ASz:=@Nat.zero_add
abbrev AS0:=@List.all_eq_true
abbrev AS1:=@Bool.eq_false_iff
abbrev AS2:=@List.mem_singleton
abbrev AS3:=@List.all_cons
abbrev AS4:=@Bool.and_true
abbrev AS5:=@Nat.add_mul
abbrev AS6:=@List.flatten_append
abbrev AS7:=@List.eq_of_mem_replicate
abbrev AS8:=@List.singleton_append
abbrev AS9:=@Nat.add_assoc
abbrev AS_:=@decide_eq_false_iff_not
abbrev ATA:=@List.drop_length
abbrev ATB:=@List.flatten_cons
abbrev ATE:=@List.mem_of_find?_eq_some
abbrev ATN:=@Classical.byContradiction
abbrev ATU:=@Nat.add_zero
abbrev ATZ:=@List.length_set
abbrev ATb:=@List.map_cons
abbrev ATj:=@List.map_map
abbrev ATs:=@Nat.le_of_lt
abbrev AUH:=@Option.bind_assoc
abbrev AUI:=@Option.map_some
abbrev AUO:=@List.find?_cons
abbrev AUY:=@Int.toNat_of_nonneg
abbrev AUd:=@List.Perm.append_right
abbrev AUr:=@List.getElem_cons_zero
abbrev AUt:=@List.contains_iff_mem
abbrev AUw:=@List.mem_of_mem_drop
abbrev AUx:=@List.ext_getElem?
abbrev AU0:=@Array.length_toList
abbrev AU2:=@Nat.sub_mul
abbrev AVD:=@List.getElem?_cons_succ
abbrev AVH:=@List.cons_append
abbrev AVM:=@List.flatten_nil
abbrev AVO:=@List.length_take
abbrev AVR:=@List.getElem?_drop
abbrev AVk:=@List.getElem?_take
abbrev AVz:=@List.Perm.append_left
abbrev AV4:=@List.length_replicate
abbrev AWI:=@List.nodup_cons
abbrev AWZ:=@Array.getD_eq_getD_getElem?
abbrev AWk:=@List.getElem_set_self
abbrev AWl:=@Decidable.not_not
abbrev AWm:=@List.pairwise_map
abbrev AWn:=@List.exists_cons_of_length_eq_add_one
abbrev AWo:=@List.mem_of_mem_take
abbrev AWp:=@List.pairwise_iff_getElem
abbrev AWq:=@Bool.and_false
abbrev AWr:=@List.length_drop
abbrev AWs:=@List.map_nil
abbrev AWt:=@List.set_cons_zero
abbrev AWu:=@List.length_map
abbrev AWv:=@List.length_eq_zero_iff
abbrev AWw:=@Int.eq_ofNat_of_zero_le
abbrev AWx:=@Nat.eq_zero_or_pos
abbrev AWy:=@Option.map_eq_none_iff
abbrev AWz:=@Array.size_append
abbrev AW0:=@List.size_toArray
abbrev AW1:=@Nat.zero_le
abbrev AW2:=@dite_true
abbrev AW3:=@List.set_append_right
abbrev AW4:=@Bool.true_or
abbrev AW5:=@beq_self_eq_true
abbrev AW6:=@List.mem_cons_of_mem
abbrev AW7:=@Bool.or_false
abbrev AW8:=@List.length_pos_iff
abbrev AW9:=@List.filter_nil
abbrev AW_:=@List.drop_set_of_lt
abbrev AXA:=@List.take_set_of_le
abbrev AXB:=@List.set_set
abbrev AXC:=@Nat.sub_self
abbrev AXD:=@List.Perm.refl
abbrev AXE:=@List.mapM_cons
abbrev AXF:=@List.take_zero
abbrev AXG:=@not_or
section
namespace Go.Fw
inductive Ty where
 |int (k:IntKind)|bool|str|sl (r:Ty)|unit|cons (c r:Ty)
 deriving DecidableEq
@[reducible] def Ty.D:Ty→Type
 | .int _=>Int
 | .bool=>Bool
 | .str=>List UInt8
 | .sl r=>List r.D
 | .unit=>Unit
 | .cons c r=>c.D×r.D
def Ty.n:Ty→Nat
 | .unit=>0
 | .cons _ r=>r.n+1
 |_=>1
def Ty.z:(t:Ty)→t.D
 | .int _=>(0:Int)
 | .bool=>false
 | .str=>[]
 | .sl _=>[]
 | .unit=>()
 | .cons c r=>(c.z,r.z)
def Ty.flat:Ty→Bool
 | .sl _=>false
 | .cons c r=>c.flat&&r.flat
 |_=>true
def Ty.scalar:Ty→Bool
 | .int _| .bool| .str=>true
 |_=>false
structure V_ where
 i:Nat
 sz:Nat
 j:Nat
inductive AV where
 |v (t:Ty) (x:t.D)
 |sl (s:Bool) (r:Ty) (x:List r.D)
 |nil
 |ref (b:Nat) (p:List V_)
 |win (b:Nat) (p:List V_) (off n:Nat)
 |IG (b j:Nat)
 |JX (b:Nat) (p:List V_) (i sz j:Nat)
 |PB (s:Bool) (r:Ty) (x:r.D) (j:Nat)
 |fn (f:Nat) (KM:ABI)
 |qP (f:Nat) (rows:List ((r:Ty)×r.D))
 |xj
 |undef
def AV.known:AV→Bool
 | .undef=>false
 |_=>true
inductive XV where
 |c (x:AV)
 |agg (l:List AV)
 |Mh (l:List (AV ⊕ List AV))
inductive Bx where
 |mem (cs:List AV)
 |sl (d:Nat) (r:Ty) (rows:List r.D)
 |dead
structure St where
 tm:List XV
 bx:List Bx
def BL:(r:Ty)→(j:Nat)→r.D→Option ((t:Ty)×t.D)
 | .cons c _,0,x=>some ⟨c,x.1⟩
 | .cons _ r,j+1,x=>BL r j x.2
 | .unit,_,_=>none
 | .int k,0,x=>some ⟨.int k,x⟩
 | .bool,0,x=>some ⟨.bool,x⟩
 | .str,0,x=>some ⟨.str,x⟩
 | .sl r,0,x=>some ⟨.sl r,x⟩
 |_,_+1,_=>none
def pQ{a b:Ty}(h:a=b)(x:a.D):b.D:=h▸x
def D5:(r:Ty)→(j:Nat)→r.D→(t:Ty)→t.D→Option r.D
 | .cons c _,0,x,t,y=>if h:t=c then some (pQ h y,x.2)else none
 | .cons _ r,j+1,x,t,y=>(D5 r j x.2 t y).map fun z=>(x.1,z)
 | .unit,_,_,_,_=>none
 | .int k,0,_,t,y=>if h:t= .int k then some (pQ h y)else none
 | .bool,0,_,t,y=>if h:t= .bool then some (pQ h y)else none
 | .str,0,_,t,y=>if h:t= .str then some (pQ h y)else none
 | .sl r,0,_,t,y=>if h:t= .sl r then some (pQ h y)else none
 |_,_+1,_,_,_=>none
def rowAt(r:Ty)(rows:List r.D)(i:Nat):r.D:=rows.getD i r.z
def G5:(r:Ty)→List r.D→List V_→Option ((q:Ty)×List q.D)
 |r,rows,[]=>some ⟨r,rows⟩
 |r,rows,s::p=>
  match BL r s.j (rowAt r rows s.i)with
  |some ⟨.sl q,x⟩=>G5 q x p
  |_=>none
def nv:(r:Ty)→List r.D→List V_→(q:Ty)→List q.D→Option (List r.D)
 |r,_,[],q,y=>if h:q=r then some (pQ (congrArg Ty.sl h) y)else none
 |r,rows,s::p,q,y=>
  match BL r s.j (rowAt r rows s.i)with
  |some ⟨.sl r',x⟩=>(nv r' x p q y).bind fun x' =>(D5 r s.j (rowAt r rows s.i) (.sl r') x').map fun row=>rows.set s.i row
  |_=>none
inductive TD where
 |int (k:IntKind)|bool|str|sl (e:Nat)|st (fs:List ACf)|ptr (e:Nat)|other
structure TI where
 size:Nat
 bytes:Nat
 desc:TD
 row:Option Ty
abbrev Jg:=List (Nat×TI)
def Jg.get:Jg→Nat→Option TI
 |[],_=>none
 |(u,i)::l,t=>if u=t then some i else Jg.get l t
def TD.agg:TD→Bool
 | .st _=>true
 |_=>false
def Jg.gx(T:Jg)(t:Nat):Option Ty:=
 match T.get t with
 |some ti=>ti.row
 |none=>none
def yf:Ty→AV
 | .int k=> .v (.int k) (0:Int)
 | .bool=> .v .bool false
 | .str=> .v .str []
 | .sl _=> .nil
 |_=> .undef
def bE:Ty→List AV
 | .cons c r=>yf c::bE r
 | .unit=>[]
 |t=>[yf t]
def oB:Value→AV
 | .int k n=> .v (.int k) n
 | .bool b=> .v .bool b
 | .string s=> .v .str s.data.toList
 | .slice none 0 0=> .nil
 | .pointer none=> .xj
 |_=> .undef
def ofValue:Value→XV
 | .agg cs=> .agg (cs.toList.map oB)
 |v=> .c (oB v)
def St.ev(σ:St):Operand→XV
 | .tmp t=>σ.tm.getD t (.c .undef)
 | .const v=>ofValue v
 | .global _=> .c .undef
 | .func f=> .c (.fn f [])
def St.put(σ:St)(dst:Option Tmp)(x:XV):St:=
 match dst with
 |some d=>{ σ with tm:=σ.tm.set d x }
 |none=>σ
def XV.cells:XV→List AV
 | .c x=>[x]
 | .agg l=>l
 | .Mh _=>[]
def QR{β:Ty→Type}(a b:Ty)(x:β a):Option (β b):=if h:a=b then some (h▸x)else none
def NA(bx:List Bx):AV→Option ((r:Ty)×List r.D)
 | .sl _ r x=>some ⟨r,x⟩
 | .ref b p=>
  match bx[b]? with
  |some (.sl _ r rows)=>G5 r rows p
  |_=>none
 | .win b p off n=>
  match bx[b]? with
  |some (.sl _ r rows)=>(G5 r rows p).map fun q=>⟨q.1,(q.2.drop off).take n⟩
  |_=>none
 |_=>none
def Ma(bx:List Bx)(t:Ty)(x:AV):Option t.D:=
 match x with
 | .v u y=>QR (β:=Ty.D) u t y
 | .nil=>match t with
  | .sl _=>some []
  |_=>none
 |x=>match t with
  | .sl r=>(NA bx x).bind fun q=>QR (β:=fun r=>List r.D) q.1 r q.2
  |_=>none
def H9(bx:List Bx):(r:Ty)→List AV→Option r.D
 | .unit,[]=>some ()
 | .cons c r,x::l=>(Ma bx c x).bind fun a=>(H9 bx r l).map fun b=>(a,b)
 |_,_=>none
def lenOf(bx:List Bx):AV→Option Nat
 | .nil=>some 0
 | .sl _ _ x=>some x.length
 | .ref b p=>
  match bx[b]? with
  |some (.sl _ r rows)=>(G5 r rows p).map fun q=>q.2.length
  |_=>none
 | .win b _ _ n=>
  match bx[b]? with
  |some (.sl _ _ _)=>some n
  |_=>none
 |_=>none
inductive AP where
 |v (t:Ty)
 |sl (s:Bool) (r:Ty)
 |nil
 |ref (i:Nat)
 |ptr (i j:Nat)
 |mb (r:Ty)
 |fn (f:Nat) (KM:ABI)
 |qP (f:Nat) (rs:List Ty)
 |any
 |jb (i sz:Nat)
inductive XP where
 |c (p:AP)
 |agg (l:List AP)
 |row (r:Ty)
 |Mh (l:List (AP ⊕ List AP))
inductive BP where
 |mem (l:List AP)
 |sl (d:Nat) (r:Ty)
 |gone
structure BX where
 Dz:List (Nat×XP)
 Gu:List BP
@[reducible] def Yz:List Ty→Type
 |[]=>Unit
 |r::l=>r.D×Yz l
def Yz.mk:(l:List Ty)→Yz l→List ((r:Ty)×r.D)
 |[],_=>[]
 |r::l,x=>⟨r,x.1⟩::Yz.mk l x.2
@[reducible] def AP.V:AP→Type
 | .qP _ rs=>Yz rs
 | .v t=>t.D
 | .sl _ r=>List r.D
 | .mb r=>r.D
 | .jb _ _=>Nat×Nat
 |_=>Unit
@[reducible] def XW.V:List AP→Type
 |[]=>Unit
 |p::l=>p.V×XW.V l
@[reducible] def Xq.V:List (AP ⊕ List AP)→Type
 |[]=>Unit
 | .inl p::l=>p.V×Xq.V l
 | .inr q::l=>XW.V q×Xq.V l
@[reducible] def XP.V:XP→Type
 | .c p=>p.V
 | .agg l=>XW.V l
 | .row r=>r.D
 | .Mh l=>Xq.V l
@[reducible] def BP.V:BP→Type
 | .mem l=>XW.V l
 | .sl _ r=>List r.D
 | .gone=>Unit
@[reducible] def Gx.V:List (Nat×XP)→Type
 |[]=>Unit
 |(_,p)::l=>p.V×Gx.V l
@[reducible] def Jj.V:List BP→Type
 |[]=>Unit
 |p::l=>p.V×Jj.V l
@[reducible] def BX.V (s:BX):Type:=Gx.V s.Dz×Jj.V s.Gu
def AP.mk(m:Nat→Nat):(p:AP)→p.V→AV
 | .v t,x=> .v t x
 | .sl s r,x=> .sl s r x
 | .nil,_=> .nil
 | .ref i,_=> .ref (m i) []
 | .ptr i j,_=> .IG (m i) j
 | .mb r,x=> .PB false r x 0
 | .fn f KM,_=> .fn f (KM.map m)
 | .qP f rs,x=> .qP f (Yz.mk rs x)
 | .any,_=> .undef
 | .jb i sz,k=> .ref (m i) [⟨k.1,sz,k.2⟩]
def XW.mk(m:Nat→Nat):(l:List AP)→XW.V l→List AV
 |[],_=>[]
 |p::l,x=>p.mk m x.1::XW.mk m l x.2
def pY:(r:Ty)→r.D→List AV
 | .unit,_=>[]
 | .cons c r,x=>(match c,x.1 with
  | .sl q,y=>AV.sl false q y
  |c,y=> .v c y)::pY r x.2
 | .sl q,x=>[.sl false q x]
 | .int k,x=>[.v (.int k) x]
 | .bool,x=>[.v .bool x]
 | .str,x=>[.v .str x]
def Xq.mk(m:Nat→Nat):(l:List (AP ⊕ List AP))→Xq.V l→List (AV ⊕ List AV)
 |[],_=>[]
 | .inl p::l,x=> .inl (p.mk m x.1)::Xq.mk m l x.2
 | .inr q::l,x=> .inr (XW.mk m q x.1)::Xq.mk m l x.2
def XP.mk(m:Nat→Nat):(p:XP)→p.V→XV
 | .c p,x=> .c (p.mk m x)
 | .agg l,x=> .agg (XW.mk m l x)
 | .row r,x=> .agg (pY r x)
 | .Mh l,x=> .Mh (Xq.mk m l x)
def BP.mk(m:Nat→Nat):(p:BP)→p.V→Bx
 | .mem l,x=> .mem (XW.mk m l x)
 | .sl d r,x=> .sl d r x
 | .gone,_=> .dead
def Gx.mk(m:Nat→Nat):(l:List (Nat×XP))→Gx.V l→List XV→List XV
 |[],_,tm=>tm
 |(i,p)::l,x,tm=>Gx.mk m l x.2 (tm.set i (p.mk m x.1))
def Jj.mk(m:Nat→Nat):(l:List BP)→Jj.V l→List Bx
 |[],_=>[]
 |p::l,x=>p.mk m x.1::Jj.mk m l x.2
def BX.st(s:BX)(n:Nat)(x:s.V):St:=
 { tm:=Gx.mk id s.Dz x.1 (List.replicate n (.c .undef)),bx:=Jj.mk id s.Gu x.2 }
abbrev PD:=List (Option Nat)
def PD.put(m:PD)(i b:Nat):Option PD:=
 match m[i]? with
 |some none=>if m.contains (some b)then none else some (m.set i (some b))
 |some (some b')=>if b' =b then some m else none
 |none=>none
def aL:PD→List Nat→List Nat→Option PD
 |m,[],[]=>some m
 |m,i::is,b::bs=>(m.put i b).bind fun m=>aL m is bs
 |_,_,_=>none
def AP.Na(N:Nat)(m:PD):AP→AV→Option PD
 | .ref i,.ref b []=>m.put i b
 | .ref i,.nil=>m.put i (N+i)
 | .ref _,_=>none
 | .jb i sz,.ref b [s]=>if s.sz=sz then m.put i b else none
 | .jb _ _,_=>none
 | .ptr i j,.IG b j' =>if j=j' then m.put i b else none
 | .ptr _ _,_=>none
 | .fn f KM,.fn g bs=>if f=g then aL m KM bs else none
 | .fn _ _,_=>none
 | .nil,.nil=>some m
 | .nil,_=>none
 |_,_=>some m
def XW.Na(N:Nat):PD→List AP→List AV→Option PD
 |m,[],[]=>some m
 |m,p::l,x::xs=>(p.Na N m x).bind fun m=>XW.Na N m l xs
 |_,_,_=>none
def Xq.Na(N:Nat):PD→List (AP ⊕ List AP)→List (AV ⊕ List AV)→Option PD
 |m,[],[]=>some m
 |m,.inl p::l,.inl x::xs=>(p.Na N m x).bind fun m=>Xq.Na N m l xs
 |m,.inr p::l,.inr x::xs=>(XW.Na N m p x).bind fun m=>Xq.Na N m l xs
 |_,_,_=>none
def XP.Na(N:Nat)(m:PD):XP→XV→Option PD
 | .c p,.c x=>p.Na N m x
 | .agg l,.agg xs=>XW.Na N m l xs
 | .row _,.agg _=>some m
 | .Mh l,.Mh xs=>Xq.Na N m l xs
 |_,_=>none
def Gx.Na(N:Nat)(tm:List XV):PD→List (Nat×XP)→Option PD
 |m,[]=>some m
 |m,(i,p)::l=>
  match tm[i]? with
  |some x=>(p.Na N m x).bind fun m=>Gx.Na N tm m l
  |none=>none
def Jj.Na(N:Nat)(bx:List Bx):Nat→PD→List BP→Option PD
 |_,m,[]=>some m
 |i,m,.mem l::ps=>
  match m[i]? with
  |some (some b)=>
   match bx[b]? with
   |some (.mem cs)=>(XW.Na N m l cs).bind fun m=>Jj.Na N bx (i+1) m ps
   |_=>none
  |_=>none
 |i,m,.sl _ _::ps=>
  match m[i]? with
  |some (some _)=>Jj.Na N bx (i+1) m ps
  |_=>none
 |i,m,.gone::ps=>Jj.Na N bx (i+1) m ps
def Cz(bx:List Bx):PD→List Bx
 |[]=>bx
 |some b::m=>Cz (bx.set b .dead) m
 |none::m=>Cz bx m
def Yz.nf:(l:List Ty)→List ((r:Ty)×r.D)→Option (Yz l)
 |[],[]=>some ()
 |r::l,q::qs=>(QR (β:=Ty.D) q.1 r q.2).bind fun a=>(Yz.nf l qs).map fun b=>(a,b)
 |_,_=>none
def Yz.p8(bx:List Bx):(l:List Ty)→List Nat→Option (Yz l)
 |[],[]=>some ()
 |r::l,b::bs=>(match bx[b]? with
  |some (.mem cs)=>H9 bx r cs
  |_=>none).bind fun a=>(Yz.p8 bx l bs).map fun c=>(a,c)
 |_,_=>none
def AP.get(bx:List Bx):(p:AP)→AV→Option p.V
 | .qP f rs,x=>match x with
  | .qP g rows=>if f=g then Yz.nf rs rows else none
  | .fn g bs=>if f=g then Yz.p8 bx rs bs else none
  |_=>none
 | .v t,x=>if t.scalar then Ma bx t x else none
 | .sl false r,x=>Ma bx (.sl r) x
 | .sl true r,x=>match x with
  | .sl true q y=>QR (β:=fun r=>List r.D) q r y
  | .nil=>some []
  |_=>none
 | .mb r,x=>match x with
  | .PB _ q y 0=>QR (β:=Ty.D) q r y
  | .IG b 0=>match bx[b]? with
   |some (.mem cs)=>H9 bx r cs
   |_=>none
  | .JX b p i sz 0=>match bx[b]? with
   |some (.sl _ q rows)=>(G5 q rows p).bind fun s=>if sz=s.1.n then QR (β:=Ty.D) s.1 r (rowAt s.1 s.2 i)else none
   |_=>none
  |_=>none
 | .nil,_=>some ()
 | .ref _,_=>some ()
 | .ptr _ _,_=>some ()
 | .fn _ _,_=>some ()
 | .any,_=>some ()
 | .jb _ _,x=>match x with
  | .ref _ [s]=>some (s.i,s.j)
  |_=>none
def XW.get(bx:List Bx):(l:List AP)→List AV→Option (XW.V l)
 |[],[]=>some ()
 |p::l,x::xs=>(p.get bx x).bind fun a=>(XW.get bx l xs).map fun b=>(a,b)
 |_,_=>none
def Xq.get(bx:List Bx):(l:List (AP ⊕ List AP))→List (AV ⊕ List AV)→Option (Xq.V l)
 |[],[]=>some ()
 | .inl p::l,.inl x::xs=>(p.get bx x).bind fun a=>(Xq.get bx l xs).map fun b=>(a,b)
 | .inr p::l,.inr x::xs=>(XW.get bx p x).bind fun a=>(Xq.get bx l xs).map fun b=>(a,b)
 |_,_=>none
def XP.get(bx:List Bx):(p:XP)→XV→Option p.V
 | .c p,.c x=>p.get bx x
 | .agg l,.agg xs=>XW.get bx l xs
 | .row r,.agg xs=>H9 bx r xs
 | .Mh l,.Mh xs=>Xq.get bx l xs
 |_,_=>none
def Gx.get(bx:List Bx)(tm:List XV):(l:List (Nat×XP))→Option (Gx.V l)
 |[]=>some ()
 |(i,p)::l=>
  match tm[i]? with
  |some x=>(p.get bx x).bind fun a=>(Gx.get bx tm l).map fun b=>(a,b)
  |none=>none
def Jj.get(bx bk:List Bx):(m:PD)→(l:List BP)→Option (Jj.V l)
 |_,[]=>some ()
 |some b::m,.mem l::ps=>
  match bx[b]? with
  |some (.mem cs)=>(XW.get bk l cs).bind fun a=>(Jj.get bx bk m ps).map fun c=>(a,c)
  |_=>none
 |some b::m,.sl d r::ps=>
  match bx[b]? with
  |some (.sl d' q rows)=>if 1≤d∧d≤d' then(QR (β:=fun r=>List r.D) q r rows).bind fun a=>(Jj.get bx bk m ps).map fun c=>(a,c)else none
  |_=>none
 |_::m,.gone::ps=>(Jj.get bx bk m ps).map fun c=>((),c)
 |_,_=>none
def BX.fit(s:BX)(N:Nat)(m0:PD)(tm:List XV)(bx:List Bx):Option (s.V×PD):=
 (Gx.Na N tm m0 s.Dz).bind fun m=>(Jj.Na N bx 0 m s.Gu).bind fun m=>
  let bk:=Cz bx m
  (Gx.get bk tm s.Dz).bind fun a=>(Jj.get bx bk m s.Gu).map fun c=>((a,c),m)
def BP.opened:BP→Bx
 | .sl d r=> .sl (d+1) r []
 |_=> .dead
def BX.opens(s:BX)(bx:List Bx):List Bx:=bx++s.Gu.map BP.opened
def BX.m0(s:BX):PD:=List.replicate s.Gu.length none
structure QP where
 ins:BX
 outs:BX
 g:ins.V→Option outs.V
def Xf(m:PD)(n:Nat)(i:Nat):Nat:=
 match m[i]? with
 |some (some b)=>b
 |_=>n+(i-m.length)
def ZR(I_:Nat→Nat):Nat→(l:List BP)→Jj.V l→List Bx→List Bx
 |_,[],_,bx=>bx
 |i,p::l,x,bx=>ZR I_ (i+1) l x.2 (if I_ i<bx.length then bx.set (I_ i) (p.mk I_ x.1)else bx++[p.mk I_ x.1])
def da:(l:List (Nat×XP))→Gx.V l→(Nat→Nat)→XV
 |(_,p)::_,x,I_=>p.mk I_ x.1
 |[],_,_=> .c .undef
def Ds:Nat:=2^36
section ops
variable{Y:Type}
abbrev K(Y:Type):=XV→St→Option Y
def St.new(σ:St)(b:Bx):St:={ σ with bx:=σ.bx++[b] }
def AC4(x:Bool)(a b:XV)(σ:St)(k:K Y):Option Y:=cond x (k a σ) (k b σ)
def eP(op:BinOp)(κ:IntKind)(a b:Int)(k:AV→Option Y):Option Y:=
 match op with
 | .add=>k (.v (.int κ) (κ.wrap (a+b)))
 | .sub=>k (.v (.int κ) (κ.wrap (a-b)))
 | .mul=>k (.v (.int κ) (κ.wrap (a*b)))
 | .quo=>if b=0 then none else k (.v (.int κ) (κ.wrap (a.tdiv b)))
 | .rem=>if b=0 then none else k (.v (.int κ) (a.tmod b))
 | .and=>k (.v (.int κ) (κ.wrap (BitVec.ofInt κ.bits a &&& BitVec.ofInt κ.bits b).toNat))
 | .or=>k (.v (.int κ) (κ.wrap (BitVec.ofInt κ.bits a ||| BitVec.ofInt κ.bits b).toNat))
 | .xor=>k (.v (.int κ) (κ.wrap (BitVec.ofInt κ.bits a ^^^ BitVec.ofInt κ.bits b).toNat))
 | .andNot=>k (.v (.int κ) (κ.wrap (BitVec.ofInt κ.bits a &&& ~~~BitVec.ofInt κ.bits b).toNat))
 | .eql=>k (.v .bool (a==b))
 | .neq=>k (.v .bool (a !=b))
 | .lss=>k (.v .bool (decide (a<b)))
 | .leq=>k (.v .bool (decide (a≤b)))
 | .gtr=>k (.v .bool (decide (a>b)))
 | .geq=>k (.v .bool (decide (a≥b)))
 |_=>none
def X0(op:BinOp)(κ:IntKind)(a b:Int)(k:AV→Option Y):Option Y:=
 if b<0 then none else
 match op with
 | .shl=>k (.v (.int κ) (κ.wrap (a*2^min b.toNat κ.bits)))
 | .shr=>k (.v (.int κ) (a.fdiv (2^min b.toNat κ.bits)))
 |_=>none
def gw(op:BinOp)(a b:ABs)(k:AV→Option Y):Option Y:=
 match op with
 | .add=>if a.length+b.length≤Ds then k (.v .str (a++b))else none
 | .eql=>k (.v .bool (a==b))
 | .neq=>k (.v .bool (!(a==b)))
 | .lss=>k (.v .bool (Op.bytesLess a b))
 | .leq=>k (.v .bool (Op.bytesLess a b||a==b))
 | .gtr=>k (.v .bool (!(Op.bytesLess a b||a==b)))
 | .geq=>k (.v .bool (!Op.bytesLess a b))
 |_=>none
def nT:TD→AV→AV→Option Bool
 | .int _,.v (.int j) a,.v (.int k) b=>if j=k then some (a==b)else none
 | .bool,.v .bool a,.v .bool b=>some (a==b)
 | .str,.v .str a,.v .str b=>some (a==b)
 |_,_,_=>none
def K0(T:Jg):Nat→List ACf→List AV→List AV→Option Bool
 |_,[],[],[]=>some true
 |i,(o,t)::fs,x::l,z::m=>
  if o=i then
   match T.get t with
   |some ti=>match nT ti.desc x z with
    |some p=>(K0 T (i+1) fs l m).map fun r=>p&&r
    |none=>none
   |none=>none
  else none
 |_,_,_,_=>none
def Jg.fields(T:Jg)(t:Nat):Option (List ACf):=
 match(T.get t).map TI.desc with
 |some (.st fs)=>some fs
 |_=>none
def vZ(T:Jg)(t:Nat)(op:BinOp)(a b:XV)(k:AV→Option Y):Option Y:=
 match a,b with
 | .c (.v (.int j) x),.c (.v (.int j') y)=>
  match op with
  | .shl| .shr=>X0 op j x y k
  |_=>if j=j' then eP op j x y k else none
 | .c (.v .str x),.c (.v .str y)=>gw op x y k
 | .c (.v .bool x),.c (.v .bool y)=>
  match T.get t with
  |some ti=>match ti.desc with
   | .bool=>match op with
    | .eql=>k (.v .bool (x==y))
    | .neq=>k (.v .bool (!(x==y)))
    |_=>none
   |_=>none
  |none=>none
 | .agg l,.agg m=>
  match op,(T.fields t).bind fun fs=>K0 T 0 fs l m with
  | .eql,some r=>k (.v .bool r)
  | .neq,some r=>k (.v .bool (!r))
  |_,_=>none
 |_,_=>none
def unX(op:UnOp)(a:XV)(k:AV→Option Y):Option Y:=
 match op,a with
 | .not,.c (.v .bool x)=>k (.v .bool (!x))
 | .neg,.c (.v (.int j) x)=>k (.v (.int j) (j.wrap (0-x)))
 |_,_=>none
def AAi(d b:Nat)(p:List V_)(s:V_):((t:Ty)×t.D)→AV
 |⟨.sl r,x⟩=>if d≤1 then .sl true r x else .ref b (p++[s])
 |⟨t,x⟩=>if t.scalar then .v t x else .undef
def zL(s:Bool):((t:Ty)×t.D)→AV
 |⟨.sl r,x⟩=> .sl s r x
 |⟨t,x⟩=>if t.scalar then .v t x else .undef
def cY(f:Nat→Option AV):Nat→Nat→Option (List AV)
 |_,0=>some []
 |j,n+1=>(f j).bind fun x=>(cY f (j+1) n).map fun l=>x::l
def JB(bx:List Bx):AV→Nat→Option AV
 | .IG b j,i=>
  match bx[b]? with
  |some (.mem cs)=>cs[j+i]?
  |_=>none
 | .JX b p r sz j,i=>
  match bx[b]? with
  |some (.sl d q rows)=>if p.length<d then(G5 q rows p).bind fun s=>if sz=s.1.n then(BL s.1 (j+i) (rowAt s.1 s.2 r)).map (AAi (d-p.length) b p ⟨r,sz,j+i⟩)else none else none
  |_=>none
 | .PB s r x j,i=>(BL r (j+i) x).map (zL s)
 |_,_=>none
def lW(T:Jg)(t:Nat)(σ:St)(a:XV):Option XV:=
 match a,T.get t with
 | .c a,some ti=>if ti.size=0 then none else if ti.desc.agg then(cY (JB σ.bx a) 0 ti.size).map .agg else(JB σ.bx a 0).map .c
 |_,_=>none
def cC(d:Nat)(t:Ty)(x:AV)(bx:List Bx):Option (t.D×List Bx×Nat):=
 match x with
 | .v u y=>(QR (β:=Ty.D) u t y).map fun y=>(y,bx,d)
 | .nil=>match t with
  | .sl _=>some ([],bx,d)
  |_=>none
 | .sl true r y=>match t with
  | .sl q=>(QR (β:=fun r=>List r.D) r q y).map fun y=>(y,bx,1)
  |_=>none
 | .ref b []=>match t with
  | .sl q=>
   match bx[b]? with
   |some (.sl d' r y)=>(QR (β:=fun r=>List r.D) r q y).map fun y=>(y,bx.set b .dead,min d (d'+1))
   |_=>none
  |_=>none
 | .win b [] off n=>match t with
  | .sl q=>
   match bx[b]? with
   |some (.sl d' r y)=>(QR (β:=fun r=>List r.D) r q ((y.drop off).take n)).map fun y=>(y,bx.set b .dead,min d (d'+1))
   |_=>none
  |_=>none
 |_=>none
def cellsIn(d:Nat):(r:Ty)→List AV→List Bx→Option (r.D×List Bx×Nat)
 | .unit,[],bx=>some ((),bx,d)
 | .cons c r,x::l,bx=>(cC d c x bx).bind fun a=>(cellsIn a.2.2 r l a.2.1).map fun b=>((a.1,b.1),b.2)
 |_,_,_=>none
def ADS(d:Nat)(r:Ty)(x:XV)(bx:List Bx):Option (r.D×List Bx×Nat):=
 match x with
 | .agg l=>cellsIn d r l bx
 | .c x=>cC d r x bx
 |_=>none
def Jh(b:Nat):AV→AV
 | .ref b' (s::p)=>if b' =b then .undef else .ref b' (s::p)
 | .win b' (s::p) i n=>if b' =b then .undef else .win b' (s::p) i n
 | .JX b' (s::p) i sz j=>if b' =b then .undef else .JX b' (s::p) i sz j
 |x=>x
def sn(b:Nat):XV→XV
 | .c x=> .c (Jh b x)
 | .agg l=> .agg (l.map (Jh b))
 | .Mh l=> .Mh (l.map fun| .inl x=> .inl (Jh b x)| .inr q=> .inr (q.map (Jh b)))
def AAR(b:Nat):Bx→Bx
 | .mem cs=> .mem (cs.map (Jh b))
 |x=>x
def St.zc(b:Nat)(σ:St):St:={ tm:=σ.tm.map (sn b),bx:=σ.bx.map (AAR b) }
def Wa(cs:List AV):Nat→List AV→Option (List AV)
 |_,[]=>some cs
 |j,x::l=>if j<cs.length then Wa (cs.set j x) (j+1) l else none
def pL(d:Nat)(r:Ty)(old:r.D)(j:Nat)(x:XV)(bx:List Bx):Option (r.D×List Bx×Nat):=
 match x with
 | .agg l=>if j=0 then cellsIn d r l bx else none
 | .c x=>
  match BL r j old with
  |some ⟨t,_⟩=>(cC d t x bx).bind fun a=>(D5 r j old t a.1).map fun row=>(row,a.2)
  |none=>none
 |_=>none
def XV.plain:XV→Bool
 | .c (.v _ _)=>true
 |_=>false
def fy(σ:St)(a:XV)(x:XV):Option St:=
 match a with
 | .c (.IG b j)=>
  match σ.bx[b]? with
  |some (.mem cs)=>(Wa cs j x.cells).map fun cs=>{ σ with bx:=σ.bx.set b (.mem cs) }
  |_=>none
 | .c (.JX b p i sz j)=>
  match σ.bx[b]? with
  |some (.sl d r rows)=>if p.length<d then
   (G5 r rows p).bind fun s=>if sz=s.1.n then(pL (d-p.length) s.1 (rowAt s.1 s.2 i) j x (σ.bx.set b .dead)).bind fun w=>
    (nv r rows p s.1 (s.2.set i w.1)).map fun rows=>
     let σ':St:={ σ with bx:=w.2.1.set b (.sl (w.2.2+p.length) r rows) }
     if x.plain then σ' else σ'.zc b
    else none
   else none
  |_=>none
 |_=>none
def ZQ(σ:St)(a x:XV):Option (St×XV):=
 match a,x with
 | .c (.JX b _ _ _ _),.c (.win b' (s::p') off n)=>
  if b' =b then
   match σ.bx[b]? with
   |some (.sl d r rows)=>(G5 r rows (s::p')).map fun q=>({ σ with bx:=σ.bx.set b (.sl (min d (p'.length+1)) r rows) },.c (.sl true q.1 ((q.2.drop off).take n)))
   |_=>none
  else none
 |_,_=>some (σ,x)
def K_(σ:St)(a x:XV):Option St:=(ZQ σ a x).bind fun q=>fy q.1 a q.2
def nJ(bx:List Bx)(x:AV):Option ((r:Ty)×(List r.D×List Bx×Nat)):=
 match x with
 | .v .str s=>some ⟨.int .u8,s.map (fun c=>(c.toNat:Int)),bx,9⟩
 | .sl s r rows=>if r.flat then some ⟨r,rows,bx,9⟩else if s then some ⟨r,rows,bx,1⟩else none
 | .ref b []=>
  match bx[b]? with
  |some (.sl d r rows)=>if r.flat then some ⟨r,rows,bx,9⟩else some ⟨r,rows,bx.set b .dead,d⟩
  |_=>none
 | .ref b p=>
  match bx[b]? with
  |some (.sl _ r rows)=>(G5 r rows p).bind fun q=>if q.1.flat then some ⟨q.1,q.2,bx,9⟩else none
  |_=>none
 | .win b p off n=>
  match bx[b]? with
  |some (.sl _ r rows)=>(G5 r rows p).bind fun q=>if q.1.flat then some ⟨q.1,(q.2.drop off).take n,bx,9⟩else none
  |_=>none
 |_=>none
def nF(bx:List Bx)(x:AV):Option ((r:Ty)×(List r.D×List Bx×Nat)):=
 match x with
 | .ref b []=>
  match bx[b]? with
  |some (.sl d r rows)=>some ⟨r,rows,bx.set b .dead,d⟩
  |_=>none
 | .win b [] off n=>
  match bx[b]? with
  |some (.sl d r rows)=>some ⟨r,(rows.drop off).take n,bx.set b .dead,d⟩
  |_=>none
 |_=>none
def Jg.elem(T:Jg)(t:Nat):Option TI:=
 match(T.get t).map TI.desc with
 |some (.sl e)=>T.get e
 |_=>none
def Jg.M9(T:Jg)(t:Nat)(r:Ty):Bool:=
 match T.elem t with
 |some ti=>decide (ti.size=r.n)&&decide (ti.bytes≤512)&&decide (ti.row=some r)
 |none=>false
def Jg.isStr(T:Jg)(t:Nat):Bool:=
 match(T.get t).map TI.desc with
 |some .str=>true
 |_=>false
def Jg.AIM(T:Jg)(t:Nat):Bool:=
 match(T.get t).map TI.desc with
 |some (.sl _)=>true
 |_=>false
def dj(T:Jg)(ts:Array TypeId)(σ:St)(a x:XV)(k:K Y):Option Y:=
 match ts[0]?,ts[1]? with
 |some t,some u=>
  if T.AIM u||T.isStr u then
   match a,x with
   | .c .nil,.c y=>
    (nJ σ.bx y).bind fun s=>if T.M9 t s.1 then
     if s.2.1.length≤Ds then k (.c (.ref s.2.2.1.length [])) { σ with bx:=s.2.2.1++[.sl s.2.2.2 s.1 s.2.1] }else none
     else none
   | .c a,.c y=>
    (nF σ.bx a).bind fun d=>if T.M9 t d.1 then(nJ d.2.2.1 y).bind fun s=>
     (QR (β:=fun r=>List r.D) s.1 d.1 s.2.1).bind fun rows=>
      if d.2.1.length+rows.length≤Ds then
       k (.c (.ref s.2.2.1.length [])) { σ with bx:=s.2.2.1++[.sl (min d.2.2.2 s.2.2.2) d.1 (d.2.1++rows)] }
      else none
     else none
   |_,_=>none
  else none
 |_,_=>none
def ko(T:Jg)(ts:Array TypeId)(σ:St)(x:XV)(k:K Y):Option Y:=
 match ts[0]?,x with
 |some t,.c (.win b [] off n)=>
  match σ.bx[b]? with
  |some (.sl d r rows)=>if T.M9 t r&&(r.flat&&decide (0<r.n))then k (.c .undef) { σ with bx:=σ.bx.set b (.sl d r ((rows.take off++List.replicate n r.z)++rows.drop (off+n))) }else none
  |_=>none
 |_,_=>none
def dA:XV→Option Int
 | .c (.v (.int _) n)=>some n
 |_=>none
def Nv(len:Nat)(lo hi:Option XV)(k:Nat→Nat→Option Y):Option Y:=
 let h:Option Int:=match hi with
  |none=>some (len:Int)
  |some x=>dA x
 let l:Option Int:=match lo with
  |none=>some 0
  |some x=>dA x
 match l,h with
 |some l,some h=>if 0≤l∧l≤h∧h≤(len:Int)then k l.toNat h.toNat else none
 |_,_=>none
def kO(T:Jg)(t:Nat)(σ:St)(x:XV)(lo hi:Option XV)(k:K Y):Option Y:=
 match x with
 | .c (.v .str s)=>if T.isStr t then Nv s.length lo hi fun l h=>k (.c (.v .str ((s.drop l).take (h-l)))) σ else none
 | .c (.sl s r rows)=>if T.M9 t r then Nv rows.length lo hi fun l h=>k (.c (.sl s r ((rows.drop l).take (h-l)))) σ else none
 | .c (.ref b p)=>
  match NA σ.bx (.ref b p)with
  |some q=>if T.M9 t q.1 then Nv q.2.length lo hi fun l h=>k (.c (.win b p l (h-l))) σ else none
  |none=>none
 |_=>none
def kK(σ:St)(T:Jg)(t:Nat)(x i:XV)(k:K Y):Option Y:=
 match x,dA i with
 | .c (.sl s r rows),some i=>if T.M9 t r then(if 0≤i∧i<(rows.length:Int)then k (.c (.PB s r (rowAt r rows i.toNat) 0)) σ else none)else none
 | .c (.ref b p),some i=>
  match NA σ.bx (.ref b p)with
  |some q=>if T.M9 t q.1 then(if 0≤i∧i<(q.2.length:Int)then k (.c (.JX b p i.toNat q.1.n 0)) σ else none)else none
  |none=>none
 | .c (.win b p off n),some i=>
  match NA σ.bx (.ref b p)with
  |some q=>if T.M9 t q.1 then(if 0≤i∧i<(n:Int)then k (.c (.JX b p (off+i.toNat) q.1.n 0)) σ else none)else none
  |none=>none
 |_,_=>none
def tf(T:Jg)(t:Nat)(x:XV)(f:Nat):Option XV:=
 match T.get t with
 |some ⟨_,_,.st fs,_⟩=>
  match fs[f]? with
  |some (o,_)=>match x with
   | .c (.IG b j)=>some (.c (.IG b (j+o)))
   | .c (.JX b p i sz j)=>some (.c (.JX b p i sz (j+o)))
   | .c (.PB s r y j)=>some (.c (.PB s r y (j+o)))
   |_=>none
  |none=>none
 |_=>none
def AFP(T:Jg)(t:Nat)(x:XV)(f:Nat):Option XV:=
 match T.get t,x with
 |some ⟨_,_,.st fs,_⟩,.agg l=>
  match fs[f]? with
  |some (o,u)=>
   match T.get u with
   |some ti=>if ti.desc.agg then some (.agg ((l.drop o).take ti.size))else(l[o]?).map .c
   |none=>none
  |none=>none
 |_,_=>none
def rL(T:Jg)(src dst:Nat)(σ:St)(x:XV)(k:K Y):Option Y:=
 match(T.get src).map TI.desc,(T.get dst).map TI.desc,x with
 |some (.int _),some (.int κ),.c (.v (.int _) n)=>k (.c (.v (.int κ) (κ.wrap n))) σ
 |some .str,some .str,.c (.v .str s)=>k (.c (.v .str s)) σ
 |some .str,some (.sl e),.c (.v .str s)=>
  match(T.get e).map TI.desc with
  |some (.int .u8)=>if s.length≤Ds then k (.c (.ref σ.bx.length [])) (σ.new (.sl 9 (.int .u8) (s.map fun c=>(c.toNat:Int))))else none
  |_=>none
 |some (.sl e),some .str,.c x=>
  match(T.get e).map TI.desc,Ma σ.bx (.sl (.int .u8)) x with
  |some (.int .u8),some l=>k (.c (.v .str (l.map fun n:Int=>UInt8.ofNat n.toNat))) σ
  |_,_=>none
 |_,_,_=>none
def rR(T:Jg)(t:Nat)(σ:St)(l c:XV)(k:K Y):Option Y:=
 match(T.get t).map TI.desc,dA l,dA c with
 |some (.sl e),some n,some m=>
  match Jg.gx T e with
  |some r=>if T.M9 t r then(if 0≤n∧n≤m∧m≤(Ds:Int)then k (.c (.ref σ.bx.length [])) (σ.new (.sl 9 r (List.replicate n.toNat r.z)))else none)else none
  |none=>none
 |_,_,_=>none
def fT(T:Jg)(fs:List ACf):List AV→List (Nat×XV)→Option (List AV)
 |cs,[]=>some cs
 |cs,(i,x)::l=>
  match fs[i]? with
  |some (o,u)=>
   match T.get u with
   |some ti=>if x.cells.length=ti.size∧ti.size≠0∧x.cells.all AV.known=true then(Wa cs o x.cells).bind fun cs=>fT T fs cs l else none
   |none=>none
  |none=>none
def Xx(r:Ty):Nat→Nat→List (Nat×XV)→List Bx→Nat→Option (List r.D×List Bx×Nat)
 |_,0,[],bx,d=>some ([],bx,d)
 |i,n+1,(j,x)::l,bx,d=>
  if i=j then(ADS d r x bx).bind fun a=>(Xx r (i+1) n l a.2.1 a.2.2).map fun b=>(a.1::b.1,b.2)else none
 |i,n+1,[],bx,d=>(Xx r (i+1) n [] bx d).map fun b=>(r.z::b.1,b.2)
 |_,0,_::_,_,_=>none
def Qx(T:Jg)(t n:Nat)(parts:List (Nat×XV))(σ:St)(k:K Y):Option Y:=
 match(T.get t).map TI.desc with
 |some (.sl e)=>
  match Jg.gx T e with
  |some r=>if T.M9 t r&&decide (n≤1024)&&decide (r.n≤1024)then(Xx r 0 n parts σ.bx 9).bind fun a=>k (.c (.ref a.2.1.length [])) { σ with bx:=a.2.1++[.sl a.2.2 r a.1] }else none
  |none=>none
 |_=>none
def V9(T:Jg)(t:Nat)(σ:St)(x i:XV)(k:K Y):Option Y:=
 match x,dA i with
 | .c (.v .str s),some i=>if T.isStr t then if 0≤i∧i<(s.length:Int)then k (.c (.v (.int .u8) ((s.getD i.toNat 0).toNat:Int))) σ else none else none
 |_,_=>none
def pj(x:XV)(i:Nat):Option XV:=
 match x with
 | .Mh l=>match l[i]? with
  |some (.inl a)=>some (.c a)
  |some (.inr q)=>some (.agg q)
  |none=>none
 |_=>none
def Ga(m:PD):AV→AV
 | .ref b (s::p)=>if m.contains (some b)then .undef else .ref b (s::p)
 | .win b (s::p) i n=>if m.contains (some b)then .undef else .win b (s::p) i n
 | .JX b (s::p) i sz j=>if m.contains (some b)then .undef else .JX b (s::p) i sz j
 |x=>x
def UN(m:PD):XV→XV
 | .c x=> .c (Ga m x)
 | .agg l=> .agg (l.map (Ga m))
 | .Mh l=> .Mh (l.map fun| .inl x=> .inl (Ga m x)| .inr q=> .inr (q.map (Ga m)))
def AD9(m:PD):Bx→Bx
 | .mem cs=> .mem (cs.map (Ga m))
 |x=>x
def St.Yr(m:PD)(σ:St):St:=
 match m with
 |[]=>σ
 |_::_=>{ tm:=σ.tm.map (UN m),bx:=σ.bx.map (AD9 m) }
def lG(c:QP)(args:List XV)(σ:St)(k:K Y):Option Y:=
 if args.length=c.ins.Dz.length then
  match c.ins.fit σ.bx.length c.ins.m0 args (c.ins.opens σ.bx)with
  |some (v,m)=>(c.g v).bind fun u=>
   let I_:=Xf m (c.ins.opens σ.bx).length
   let σ1:=({ σ with bx:=c.ins.opens σ.bx }:St).Yr m
   k (da c.outs.Dz u.1 I_) { σ1 with bx:=ZR I_ 0 c.outs.Gu u.2 (Cz σ1.bx m) }
  |none=>none
 else none
def aq(σ:St)(x:XV)(k:K Y):Option Y:=
 match x with
 | .c (.win b [] off n)=>
  (nF σ.bx (.win b [] off n)).bind fun s=>k (.c (.ref s.2.2.1.length [])) { σ with bx:=s.2.2.1++[.sl s.2.2.2 s.1 s.2.1] }
 |x=>k x σ
def wF(l:List XV):Option ABI:=
 match l with
 |[]=>some []
 | .c (.IG b 0)::l=>(wF l).map fun r=>b::r
 |_=>none
def tM(big:Bool)(a b:XV)(k:AV→Option Y):Option Y:=
 match a,b with
 | .c (.v (.int j) x),.c (.v (.int j') y)=>
  if j=j' then(if big then k (.v (.int j) (if y>x then y else x))else k (.v (.int j) (if y<x then y else x)))else none
 |_,_=>none
def WM(T:Jg)(Γ:Nat→Option QP)(o:Oper)(σ:St)(k:K Y):Option Y:=
 match o.op with
 | .move x=>k (σ.ev x) σ
 | .assign x=>aq σ (σ.ev x) k
 | .pick c a b=>match σ.ev c with
  | .c (.v .bool x)=>AC4 x (σ.ev a) (σ.ev b) σ k
  |_=>none
 | .alloc t=>match Jg.gx T t with
  |some r=>k (.c (.IG σ.bx.length 0)) (σ.new (.mem (bE r)))
  |none=>none
 | .box t x=>match T.get t with
  |some ti=>if(σ.ev x).cells.length=ti.size∧ti.size≠0∧(σ.ev x).cells.all AV.known=true then k (.c (.IG σ.bx.length 0)) (σ.new (.mem (σ.ev x).cells))else none
  |none=>none
 | .build t parts=>match T.get t,Jg.gx T t with
  |some ⟨_,_,.st fs,_⟩,some r=>match fT T fs (bE r) (parts.toList.map fun q=>(q.1,σ.ev q.2))with
   |some cs=>k (.agg cs) σ
   |none=>none
  |_,_=>none
 | .buildSlice t n parts=>Qx T t n (parts.toList.map fun q=>(q.1,σ.ev q.2)) σ k
 | .load t a=>match lW T t σ (σ.ev a)with
  |some x=>k x σ
  |none=>none
 | .store t a x=>match T.get t with
  |some ti=>if(σ.ev x).cells.length=ti.size∧ti.size≠0∧(σ.ev x).cells.all AV.known=true then(match K_ σ (σ.ev a) (σ.ev x)with
   |some σ=>k (.c .undef) σ
   |none=>none)else none
  |none=>none
 | .nilCheck x=>match σ.ev x with
  | .c (.IG b j)=>k (.c (.IG b j)) σ
  | .c (.JX b p i sz j)=>k (.c (.JX b p i sz j)) σ
  | .c (.PB s r y j)=>k (.c (.PB s r y j)) σ
  | .c (.fn f KM)=>k (.c (.fn f KM)) σ
  |_=>none
 | .binOp op t x y _=>vZ T t op (σ.ev x) (σ.ev y) fun a=>k (.c a) σ
 | .unOp op _ x=>unX op (σ.ev x) fun a=>k (.c a) σ
 | .convert s d x=>rL T s d σ (σ.ev x) k
 | .makeFunc (.func f) first KM=>if first.size=0 then(match wF (KM.toList.map σ.ev)with
  |some bs=>k (.c (.fn f bs)) σ
  |none=>none)else none
 | .makeSlice t l c=>rR T t σ (σ.ev l) (σ.ev c) k
 | .slice t x lo hi none=>kO T t σ (σ.ev x) (lo.map σ.ev) (hi.map σ.ev) k
 | .fieldAddr t x f=>match tf T t (σ.ev x) f with
  |some y=>k y σ
  |none=>none
 | .field t x f=>match AFP T t (σ.ev x) f with
  |some y=>k y σ
  |none=>none
 | .indexAddr t x i=>kK σ T t (σ.ev x) (σ.ev i) k
 | .index t x i=>V9 T t σ (σ.ev x) (σ.ev i) k
 | .extract x i=>match pj (σ.ev x) i with
  |some y=>k y σ
  |none=>none
 | .call { callee:= .value f,args,.. }=>match σ.ev f with
  | .c (.fn f KM)=>match Γ f with
   |some c=>lG c (args.toList.map σ.ev++KM.map fun b=> .c (.IG b 0)) σ k
   |none=>none
  | .c (.qP f rows)=>match Γ f with
   |some c=>lG c (args.toList.map σ.ev++rows.map fun q=> .c (.PB false q.1 q.2 0)) σ k
   |none=>none
  |_=>none
 | .call { callee:= .builtin .len,args,argTypes }=>match args.toList.map σ.ev,argTypes[0]? with
  |[.c (.v .str s)],some t=>if T.isStr t then k (.c (.v (.int .i64) (s.length:Int))) σ else none
  |[.c x],some t=>if T.AIM t then(match lenOf σ.bx x with
   |some n=>k (.c (.v (.int .i64) (n:Int))) σ
   |none=>none)else none
  |_,_=>none
 | .call { callee:= .builtin .append,args,argTypes }=>match args.toList.map σ.ev with
  |[a,x]=>dj T argTypes σ a x k
  |_=>none
 | .call { callee:= .builtin .clear,args,argTypes }=>match args.toList.map σ.ev with
  |[x]=>ko T argTypes σ x k
  |_=>none
 | .call { callee:= .builtin .max,args,.. }=>match args.toList.map σ.ev with
  |[a,x]=>tM true a x fun a=>k (.c a) σ
  |_=>none
 | .call { callee:= .builtin .min,args,.. }=>match args.toList.map σ.ev with
  |[a,x]=>tM false a x fun a=>k (.c a) σ
  |_=>none
 |_=>none
end ops
end Go.Fw
end
section
namespace Go.Fw
section
variable{Y:Type}
structure Z9 where
 T:Jg
 Γ:Nat→Option QP
 hint:Nat→List Nat
def gF(hint:ABI):XV→Bool
 | .c (.IG b _)=>hint.contains b
 | .c (.JX b _ _ _ _)=>hint.contains b
 | .c (.PB _ _ _ _)=>true
 |_=>false
def i7(hint:ABI)(σ:St):Op→Bool
 | .assign x=>match σ.ev x with
  | .c (.win _ [] _ _)=>false
  |_=>true
 | .move _| .pick .. | .nilCheck _| .binOp .. | .unOp .. | .fieldAddr .. | .field .. | .indexAddr .. | .index .. | .extract .. | .build .. =>true
 | .slice _ _ _ _ none=>true
 | .load _ a=>gF hint (σ.ev a)
 | .call { callee:= .builtin .len,.. }=>true
 | .call { callee:= .builtin .max,.. }=>true
 | .call { callee:= .builtin .min,.. }=>true
 |_=>false
def KD(Γ:Nat→Option QP)(σ:St):Op→List Nat
 | .store _ a _=>match σ.ev a with
  | .c (.IG b _)=>[b]
  | .c (.JX b _ _ _ _)=>[b]
  |_=>[]
 | .call { callee:= .value f,args,.. }=>match σ.ev f with
  | .c (.fn f KM)=>match Γ f with
   |some c=>match c.ins.fit σ.bx.length c.ins.m0 (args.toList.map σ.ev++KM.map fun b=> .c (.IG b 0)) (c.ins.opens σ.bx)with
    |some (_,m)=>m.filterMap id
    |none=>[]
   |none=>[]
  | .c (.qP f rows)=>match Γ f with
   |some c=>match c.ins.fit σ.bx.length c.ins.m0 (args.toList.map σ.ev++rows.map fun q=> .c (.PB false q.1 q.2 0)) (c.ins.opens σ.bx)with
    |some (_,m)=>m.filterMap id
    |none=>[]
   |none=>[]
  |_=>[]
 | .call { callee:= .builtin .clear,args,.. }=>match args.toList.map σ.ev with
  |[.c (.win b _ _ _)]=>[b]
  |_=>[]
 |_=>[]
def tt:XV:= .c (.v .bool true)
def ff:XV:= .c (.v .bool false)
def AAE(C:Z9)(ops:Array Oper)(o:Oper)(kn:St→Option Y)(σ:St):Option Y:=
 match o.guard with
 |none=>WM C.T C.Γ o σ fun x σ' =>kn (σ'.put o.dst x)
 |some (j,want)=>
  match(ops[j]?).bind (·.dst)with
  |some t=>
   match σ.tm[t]? with
   |some (.c (.v .bool b))=>
    let yes (σ:St):Option Y:=WM C.T C.Γ o σ fun x σ' =>kn (σ'.put o.dst x)
    let no (σ:St):Option Y:=kn (σ.put o.dst (.Mh []))
    cond b ((if want then yes else no) (σ.put (some t) tt)) ((if want then no else yes) (σ.put (some t) ff))
   |some (.Mh [])=>kn (σ.put o.dst (.Mh []))
   |_=>none
  |none=>none
def tE(C:Z9)(all:Array Oper):List Oper→(St→Option Y)→St→Option Y
 |[],kn,σ=>kn σ
 |o::rest,kn,σ=>AAE C all o (fun σ' =>tE C all rest kn σ') σ
def AAd(C:Z9)(ops:Array Oper)(i:Nat)(kn:St→Option Y)(σ:St):Option Y:=
 match ops[i]? with
 |none=>none
 |some o=>AAE C ops o kn σ
def jl(bx:List Bx)(b:Nat):Bool:=
 match bx[b]? with
 |some .dead=>true
 |some _=>false
 |none=>true
def idle(ops:Array Oper)(σ:St)(o:Oper):Bool:=
 match o.guard with
 |none=>false
 |some (j,want)=>
  match(ops[j]?).bind (·.dst)with
  |some t=>
   match σ.tm[t]? with
   |some (.c (.v .bool b))=>b !=want
   |some (.Mh [])=>true
   |_=>false
  |none=>false
def o3(hint:ABI)(ops:Array Oper)(listed:Array Bool)(σ:St)(i:Nat):Bool:=
 match ops[i]? with
 |some o=>(i7 hint σ o.op||idle ops σ o)&&Region.free .any ops listed i
 |none=>false
def tK(f:Nat→List Bool→Option Y):List Nat→List Bool→Option Y
 |[],_=>none
 |[i],ω=>f i ω
 |i::_::_,[]=>f i []
 |i::_::_,true::ω=>f i ω
 |_::j::r,false::ω=>tK f (j::r) ω
def Ts(C:Z9)(hint:ABI)(ops:Array Oper)(kn:List Bool→St→Option Y):Nat→Array Bool→List Bool→St→Option Y
 |fuel,listed,ω,σ=>
  if hint.all (fun b=> !jl σ.bx b)then
   match Region.ready .any ops listed with
   |[]=>kn ω σ
   |rs=>
    match fuel with
    |0=>none
    |fuel+1=>
     match rs.find? (o3 hint ops listed σ)with
     |some i=>AAd C ops i (fun σ' =>Ts C hint ops kn fuel (listed.setIfInBounds i true) ω σ') σ
     |none=>tK (fun i ω=>
      match ops[i]? with
      |some o=>if(KD C.Γ σ o.op).all (fun b=> !hint.contains b)then AAd C ops i (fun σ' =>Ts C hint ops kn fuel (listed.setIfInBounds i true) ω σ') σ else none
      |none=>none) rs ω
  else none
def first:Code→Nat
 | .region id _ _=>id
 | .seq a _=>first a
 | .cond _ a _=>first a
 | .block _ a=>first a
 | .loop a=>first a
 | .scope a=>first a
 |_=>0
abbrev KN(Y:Type):=List Bool→St→Option Y
def run(C:Z9)(J:Nat→St→Option Y):Code→KN Y→(Nat→KN Y)→KN Y→KN Y
 | .skip,kn,_,_,ω,σ=>kn ω σ
 | .region id ops draw,kn,_,_,ω,σ=>
  if draw then(if Region.noSelect ops then Ts C (C.hint id) ops kn ops.size (Array.replicate ops.size false) ω σ else none)else tE C ops ops.toList (kn ω) σ
 | .seq a b,kn,kx,kr,ω,σ=>run C J a (fun ω σ=>run C J b kn kx kr ω σ) kx kr ω σ
 | .cond (.tmp t) a b,kn,kx,kr,ω,σ=>
  match σ.tm[t]? with
  |some (.c (.v .bool x))=>cond x (run C J a kn kx kr ω (σ.put (some t) tt)) (run C J b kn kx kr ω (σ.put (some t) ff))
  |_=>none
 | .block id body,kn,kx,kr,ω,σ=>run C J body kn (fun j ω σ=>if j=id then kn ω σ else kx j ω σ) kr ω σ
 | .loop body,_,_,_,_,σ=>J (first body) σ
 | .exit id,_,kx,_,ω,σ=>kx id ω σ
 | .ret,_,_,kr,ω,σ=>kr ω σ
 |_,_,_,_,_,_=>none
def find(C:Z9)(J:Nat→St→Option Y)(ℓ :Nat):Code→KN Y→(Nat→KN Y)→KN Y→Option (KN Y)
 | .seq a b,kn,kx,kr=>
  match find C J ℓ a (fun ω σ=>run C J b kn kx kr ω σ) kx kr with
  |some f=>some f
  |none=>find C J ℓ b kn kx kr
 | .cond _ a b,kn,kx,kr=>
  match find C J ℓ a kn kx kr with
  |some f=>some f
  |none=>find C J ℓ b kn kx kr
 | .block id body,kn,kx,kr=>find C J ℓ body kn (fun j ω σ=>if j=id then kn ω σ else kx j ω σ) kr
 | .loop body,_,kx,kr=>
  if first body= ℓ then some (fun ω σ=>run C J body (fun _ σ=>J ℓ σ) kx kr ω σ)else find C J ℓ body (fun _ σ=>J (first body) σ) kx kr
 |_,_,_,_=>none
def ADW(T:Jg)(σ:St):ResultVar→Option XV
 | .tmp t=>σ.tm[t]?
 | .cell a t=>match σ.tm[a]? with
  |some x=>lW T t σ x
  |none=>none
def vR:List XV→Option (List (AV ⊕ List AV))
 |[]=>some []
 | .c x::l=>(vR l).map fun r=> .inl x::r
 | .agg q::l=>(vR l).map fun r=> .inr q::r
 |_=>none
def gy(T:Jg)(σ:St)(rs:List ResultVar):Option XV:=
 match rs.mapM (ADW T σ)with
 |some [x]=>some x
 |some l=>(vR l).map .Mh
 |none=>none
def TO:Nat→Nat→List BP→PD
 |_,_,[]=>[]
 |i,n,p::l=>(match p with| .gone=>none|_=>if i<n then some i else none)::TO (i+1) n l
def AV.nN(b:Nat)(r:Ty)(rows:List r.D):AV→AV
 | .ref k []=>if k=b then .sl true r rows else .ref k []
 |x=>x
def XV.nN(b:Nat)(r:Ty)(rows:List r.D):XV→XV
 | .c x=> .c (x.nN b r rows)
 |x=>x
def Bx.nN(b:Nat)(r:Ty)(rows:List r.D):Bx→Bx
 | .mem cs=> .mem (cs.map (AV.nN b r rows))
 |x=>x
def St.nN(b:Nat)(σ:St):St:=
 match σ.bx[b]? with
 |some (.sl _ r rows)=>{ tm:=σ.tm.map (XV.nN b r rows),bx:=(σ.bx.set b .dead).map (Bx.nN b r rows) }
 |_=>σ
def G9:List AP→List AV→St→St
 | .sl true _::l,.ref b []::xs,σ=>G9 l xs (σ.nN b)
 |_::l,_::xs,σ=>G9 l xs σ
 |_,_,σ=>σ
def aK:List (AP ⊕ List AP)→List (AV ⊕ List AV)→St→St
 | .inl p::l,.inl x::xs,σ=>aK l xs (G9 [p] [x] σ)
 | .inr p::l,.inr x::xs,σ=>aK l xs (G9 p x σ)
 |_::l,_::xs,σ=>aK l xs σ
 |_,_,σ=>σ
def AVb:XP→XV→St→St
 | .c p,.c x,σ=>G9 [p] [x] σ
 | .agg l,.agg xs,σ=>G9 l xs σ
 | .Mh l,.Mh xs,σ=>aK l xs σ
 |_,_,σ=>σ
def kD(l:List (Nat×XP))(x:XV)(σ:St):St:=
 match l with
 |(_,p)::_=>AVb p x σ
 |[]=>σ
def qk(T:Jg)(c:QP)(rs:List ResultVar)(σ:St):Option c.outs.V:=
 (gy T σ rs).bind fun x=>
  let σ:=kD c.outs.Dz x σ
  (gy T σ rs).bind fun x=>(c.outs.fit σ.bx.length (TO 0 c.ins.Gu.length c.outs.Gu) [x] (c.outs.opens σ.bx)).map fun q=>q.1
def DP(C:Z9)(c:QP)(fn:Func)(J:Nat→St→Option c.outs.V)(ω:List Bool)(v:c.ins.V):Option c.outs.V:=
 match fn.body with
 |some code=>run C J code (fun _=>qk C.T c fn.results.toList) (fun _ _ _=>none) (fun _=>qk C.T c fn.results.toList) ω (c.ins.st fn.ntmps v)
 |none=>none
def G2(C:Z9)(c:QP)(fn:Func)(J:Nat→St→Option c.outs.V)(ℓ :Nat)(ω:List Bool)(σ:St):Option c.outs.V:=
 match fn.body with
 |some code=>
  match find C J ℓ code (fun _=>qk C.T c fn.results.toList) (fun _ _ _=>none) (fun _=>qk C.T c fn.results.toList)with
  |some f=>f ω σ
  |none=>none
 |none=>none
def Pe(bs:List BP):List (Nat×XP)→St→St
 |[],σ=>σ
 |(i,.c (.sl true r))::l,σ=>
  match σ.tm[i]? with
  |some (.c x)=>Pe bs l (G9 [.sl true r] [x] σ)
  |_=>Pe bs l σ
 |(i,.c (.ptr k _))::l,σ=>
  match bs[k]?,σ.tm[i]? with
  |some (.mem ps),some (.c (.IG b _))=>
   match σ.bx[b]? with
   |some (.mem cs)=>Pe bs l (G9 ps cs σ)
   |_=>Pe bs l σ
  |_,_=>Pe bs l σ
 |_::l,σ=>Pe bs l σ
def AV.rS:AV→Bool
 | .ref _ _| .win _ _ _ _| .sl _ _ _| .nil=>true
 |_=>false
def St.forget(b j:Nat)(σ:St):St:=
 match σ.bx[b]? with
 |some (.mem cs)=>
  match cs[j]? with
  |some x=>if x.rS then{ σ with bx:=σ.bx.set b (.mem (cs.set j (.ref σ.bx.length [])))++[.dead] }else σ
  |none=>σ
 |_=>σ
def XB(bs:List BP)(b:Nat):Nat→List AP→St→St
 |_,[],σ=>σ
 |j,p::l,σ=>XB bs b (j+1) l (match p with
  | .ref q=>match bs[q]? with
   |some .gone=>σ.forget b j
   |_=>σ
  |_=>σ)
def cG(bs:List BP):List (Nat×XP)→St→St
 |[],σ=>σ
 |(i,p)::l,σ=>cG bs l (match p with
  | .c (.ptr k _)=>match bs[k]?,σ.tm[i]? with
   |some (.mem ps),some (.c (.IG b _))=>XB bs b 0 ps σ
   |_,_=>σ
  |_=>σ)
def jump(nb:Nat)(s:BX)(f:s.V→Option Y)(σ:St):Option Y:=
 if nb≤s.Gu.length then
  let σ:=cG s.Gu s.Dz (Pe s.Gu s.Dz σ)
  (s.fit σ.bx.length (TO 0 nb s.Gu) σ.tm (s.opens σ.bx)).bind fun q=>f q.1
 else none
end
end Go.Fw
end
section
namespace Go.Fw
def Bb(w:World)(b o:Nat)(cs:List Value):Prop:= ∀j v,cs[j]? =some v→w.cell? ⟨b,o+j,none⟩=some v
def Rd(w:World)(B:Nat→Prop):(t:Ty)→List Value→t.D→Prop
 | .int k,vs,x=>vs=[.int k x]
 | .bool,vs,x=>vs=[.bool x]
 | .str,vs,x=>vs=[.string ⟨x.toArray⟩]
 | .sl r,vs,x=> ∃a cap,vs=[.slice a (List.length x) cap]∧List.length x≤cap∧(List.length x=0∨ ∃b o,a=some ⟨b,o,none⟩∧B b∧
  ∀(i:Nat) (y:r.D),x[i]? =some y→ ∃cs,cs.length=r.n∧Bb w b (o+i*r.n) cs∧Rd w B r cs y)
 | .unit,vs,_=>vs=[]
 | .cons c r,vs,x=> ∃v l,vs=v::l∧Rd w B c [v] x.1∧Rd w B r l x.2
def vx(fr:ACf)(n:Nat):Prop:= ∀i,i<n→ ¬(fr.1≤i∧i<fr.2)
def mk:Ty→Nat
 | .int .u8=>0
 |_=>1
def Ow(w:World)(S:Nat→Prop):(d:Nat)→(t:Ty)→List Value→t.D→List Nat→Prop
 |0,.sl r,vs,x,F=>Rd w S (.sl r) vs x∧F=[]
 |d+1,.sl r,vs,x,F=> ∃a cap,vs=[.slice a (List.length x) cap]∧List.length x≤cap∧
  ((
   cap=0∧F=[])∨ ∃b o arr ty fr Fs,a=some ⟨b,o,none⟩∧w.heap[b]? =some (.cells arr ty fr)∧o+cap*r.n≤arr.size∧vx fr (arr.size+mk r)∧
   F=b::List.flatten Fs∧Fs.length=List.length x∧
   ∀(i:Nat) (y:r.D) (G:ABI),x[i]? =some y→Fs[i]? =some G→ ∃cs,cs.length=r.n∧Bb w b (o+i*r.n) cs∧Ow w S d r cs y G)
 |d,.cons c r,vs,x,F=> ∃v l F1 F2,vs=v::l∧F=F1++F2∧Ow w S d c [v] x.1 F1∧Ow w S d r l x.2 F2
 |_,.unit,vs,_,F=>vs=[]∧F=[]
 |_,.int k,vs,x,F=>vs=[.int k x]∧F=[]
 |_,.bool,vs,x,F=>vs=[.bool x]∧F=[]
 |_,.str,vs,x,F=>vs=[.string ⟨x.toArray⟩]∧F=[]
theorem kU{w B}:∀{t:Ty} {vs x},Rd w B t vs x→vs.length=t.n
 | .int _,_,_,h=>by simp only[Rd]at h;subst h;rfl
 | .bool,_,_,h=>by simp only[Rd]at h;subst h;rfl
 | .str,_,_,h=>by simp only[Rd]at h;subst h;rfl
 | .sl _,_,_,h=>by simp only[Rd]at h;obtain⟨_,_,h,_⟩:=h;subst h;rfl
 | .unit,_,_,h=>by simp only[Rd]at h;subst h;rfl
 | .cons _ _,_,_,h=>by
  simp only[Rd]at h;obtain⟨_,_,rfl,_,h⟩:=h;simp[Ty.n,kU h]
theorem We{w S}:∀{d} {t:Ty} {vs x F},Ow w S d t vs x F→vs.length=t.n
 |_,.int _,_,_,_,h=>by simp only[Ow]at h;rw[h.1];rfl
 |_,.bool,_,_,_,h=>by simp only[Ow]at h;rw[h.1];rfl
 |_,.str,_,_,_,h=>by simp only[Ow]at h;rw[h.1];rfl
 |0,.sl _,_,_,_,h=>by grind[Ow,kU]
 |_+1,.sl _,_,_,_,h=>by simp only[Ow]at h;obtain⟨_,_,h,_⟩:=h;subst h;rfl
 |_,.unit,_,_,_,h=>by simp only[Ow]at h;rw[h.1];rfl
 |_,.cons _ _,_,_,_,h=>by
  simp only[Ow]at h;obtain⟨_,_,_,_,rfl,_,_,h⟩:=h;simp[Ty.n,We h]
theorem Bb.of_block{w w':World}{b o:Nat}{cs:List Value}(h:Bb w b o cs)(hb:w'.heap[b]? =w.heap[b]?):Bb w' b o cs:=
 fun j v hj=>(World.cell?_of_block (a:=⟨b,o+j,none⟩) hb).trans (h j v hj)
theorem Fl{w w':World}{B B':Nat→Prop}(hB:∀b,B b→B' b)(hw:∀b,B b→w'.heap[b]? =w.heap[b]?):∀{t:Ty} {vs x},Rd w B t vs x→Rd w' B' t vs x
 | .int _,_,_,h=>by grind[Rd]
 | .bool,_,_,h=>by grind[Rd]
 | .str,_,_,h=>by grind[Rd]
 | .unit,_,_,h=>by grind[Rd]
 | .sl r,_,_,h=>by
  simp only[Rd]at h⊢;obtain⟨a,cap,h1,h2,h3⟩:=h;refine⟨a,cap,h1,h2,h3.imp id ?_⟩
  rintro⟨b,o,ha,hb,h⟩
  refine⟨b,o,ha,hB b hb,fun i y hy=> ?_⟩;obtain⟨cs,hl,hc,hr⟩:=h i y hy;exact⟨cs,hl,hc.of_block (hw b hb),Fl hB hw hr⟩
 | .cons _ _,_,_,h=>by
  simp only[Rd]at h⊢;obtain⟨v,l,h1,h2,h3⟩:=h;exact⟨v,l,h1,Fl hB hw h2,Fl hB hw h3⟩
theorem ES{w w':World}{S S':Nat→Prop}(hS:∀b,S b→S' b)(hw:∀b,S b→w'.heap[b]? =w.heap[b]?):
  ∀{d} {t:Ty} {vs x F},(∀b∈F,w'.heap[b]? =w.heap[b]?)→Ow w S d t vs x F→Ow w' S' d t vs x F
 |_,.int _,_,_,_,_,h=>by grind[Ow]
 |_,.bool,_,_,_,_,h=>by grind[Ow]
 |_,.str,_,_,_,_,h=>by grind[Ow]
 |_,.unit,_,_,_,_,h=>by grind[Ow]
 |0,.sl r,_,_,_,_,h=>by
  grind[Ow,Fl]
 |d+1,.sl r,_,x,F,hF,h=>by
  simp only[Ow]at h⊢;obtain⟨a,cap,h1,h2,h3⟩:=h;refine⟨a,cap,h1,h2,h3.imp id ?_⟩
  rintro⟨b,o,arr,ty,fr,Fs,ha,hb,h4,h5,h6,h7,h⟩
  subst h6;have hbb:=hF b (by simp);refine⟨b,o,arr,ty,fr,Fs,ha,hbb.trans hb,h4,h5,rfl,h7,fun i y G hy hG=> ?_⟩;obtain⟨cs,hl,hc,hr⟩:=h i y G hy hG;refine⟨cs,hl,hc.of_block hbb,ES hS hw (fun c hc=>hF c ?_) hr⟩;grind[List.mem_cons_of_mem,List.mem_flatten,List.mem_of_getElem?]
 |_,.cons _ _,_,_,_,hF,h=>by
  simp only[Ow]at h⊢;obtain⟨v,l,F1,F2,h1,h2,h3,h4⟩:=h;subst h2;exact⟨v,l,F1,F2,h1,rfl,ES hS hw (fun c hc=>hF c (by simp[hc])) h3,ES hS hw (fun c hc=>hF c (by simp[hc])) h4⟩
theorem XJ{w:World}{S:Nat→Prop}:∀{d} {t:Ty} {vs x F},Ow w S d t vs x F→Rd w (fun b=>S b∨b∈F) t vs x
 |_,.int _,_,_,_,h=>by grind[Ow,Rd]
 |_,.bool,_,_,_,h=>by grind[Ow,Rd]
 |_,.str,_,_,_,h=>by grind[Ow,Rd]
 |_,.unit,_,_,_,h=>by grind[Ow,Rd]
 |0,.sl r,_,_,_,h=>by
  simp only[Ow]at h;simp_all
 |d+1,.sl r,_,x,F,h=>by
  simp only[Ow]at h;simp only[Rd];obtain⟨a,cap,h1,h2,h3⟩:=h;refine⟨a,cap,h1,h2,?_⟩;rcases h3 with⟨hc,_⟩|⟨b,o,arr,ty,fr,Fs,ha,hb,h4,h5,h6,h7,h⟩
  ·omega
  ·refine .inr ⟨b,o,ha,.inr (by simp[h6]),fun i y hy=> ?_⟩
   have hi:i<Fs.length:=by
    grind
   obtain⟨cs,hl,hc,hr⟩:=h i y Fs[i] hy (ALR hi);refine⟨cs,hl,hc,Fl ?_ (fun _ _=>rfl) (XJ hr)⟩;grind[List.mem_cons_of_mem,List.mem_flatten,List.getElem_mem]
 |_,.cons _ _,_,_,_,h=>by
  simp only[Ow]at h;simp only[Rd];obtain⟨v,l,F1,F2,h1,h2,h3,h4⟩:=h;subst h2;refine⟨v,l,h1,Fl ?_ (fun _ _=>rfl) (XJ h3),Fl ?_ (fun _ _=>rfl) (XJ h4)⟩
  all_goals grind
theorem J4{w:World}{S:Nat→Prop}:∀{d d'} {t:Ty} {vs x F},d≤d'→Ow w S d' t vs x F→
  ∃F1 F2,F.Perm (F1++F2)∧Ow w (fun b=>S b∨b∈F2) d t vs x F1
 |_,_,.int _,_,_,_,_,h=>by simp only[Ow]at h⊢;simp_all
 |_,_,.bool,_,_,_,_,h=>by simp only[Ow]at h⊢;simp_all
 |_,_,.str,_,_,_,_,h=>by simp only[Ow]at h⊢;simp_all
 |_,_,.unit,_,_,_,_,h=>by simp only[Ow]at h⊢;simp_all
 |0,d',.sl r,_,x,F,_,h=>by
  refine⟨[],F,by simp,?_⟩;simp only[Ow];exact⟨XJ h,trivial⟩
 |d+1,0,.sl r,_,x,F,hd,h=>by omega
 |d+1,d'+1,.sl r,_,x,F,hd,h=>by
  simp only[Ow]at h⊢;obtain⟨a,cap,h1,h2,h3⟩:=h;rcases h3 with⟨hc,hF⟩|⟨b,o,arr,ty,fr,Fs,ha,hb,h4,h5,h6,h7,h⟩
  ·simp_all
  ·have key:∀(n:Nat) (Fs:List ABI) (y:List r.D),Fs.length=n→y.length=n→(∀(i:Nat) (z:r.D) (G:ABI),y[i]? =some z→Fs[i]? =some G→ ∃cs,cs.length=r.n∧Bb w b (o+i*r.n) cs∧Ow w S d' r cs z G)→
     ∃(Gs:List ABI) (F2:ABI),Fs.flatten.Perm (Gs.flatten++F2)∧Gs.length=n∧ ∀(i:Nat) (z:r.D) (G:ABI),y[i]? =some z→Gs[i]? =some G→ ∃cs,cs.length=r.n∧Bb w b (o+i*r.n) cs∧Ow w (fun b=>S b∨b∈F2) d r cs z G:=by
    intro n
    induction n with
    |zero=>
     simp_all
    |succ n ih=>
     intro Fs y hF hy hh;obtain⟨Fs',G0,rfl⟩:∃l a,Fs=l++[a]:=⟨Fs.dropLast,Fs.getLast (by grind),(List.dropLast_concat_getLast _).symm⟩;obtain⟨y',z0,rfl⟩:∃l a,y=l++[a]:=⟨y.dropLast,y.getLast (by grind),(List.dropLast_concat_getLast _).symm⟩;simp only[APV,ANW,AQF]at hF hy;obtain⟨Gs,F2,hp,hl,hg⟩:=ih Fs' y' (by omega) (by omega) (fun i z G hz hG=>hh i z G
      (by grind) (by grind))
     obtain⟨cs,cu,hc,ho⟩:=hh n z0 G0 (by simp_all) (by simp_all);obtain⟨H1,H2,hhp,hho⟩:=J4 (d:=d) (d':=d') (by omega) ho;refine⟨Gs++[H1],F2++H2,?_,by simp[hl],?_⟩
     ·grind
     ·intro i z G hz hG
      by_cases hi:i<n
      ·rw[ANA (by omega)]at hz hG
       obtain⟨cs,e1,e2,e3⟩:=hg i z G hz hG;exact⟨cs,e1,e2,ES (by grind) (fun _ _=>rfl) (fun _ _=>rfl) e3⟩
      ·have:i=n:=by
        grind
       subst this;rw[AOU (by omega)]at hz hG;simp[show i-y'.length=0 by omega,show i-Gs.length=0 by omega]at hz hG;subst hz hG;exact⟨cs,cu,hc,ES (by grind) (fun _ _=>rfl) (fun _ _=>rfl) hho⟩
   obtain⟨Gs,F2,hp,hl,hg⟩:=key _ Fs x h7 rfl h;refine⟨b::Gs.flatten,F2,?_,a,cap,h1,h2,.inr ⟨b,o,arr,ty,fr,Gs,ha,hb,h4,h5,rfl,hl,hg⟩⟩;simp_all
 |d,d',.cons _ _,_,_,_,hd,h=>by
  simp only[Ow]at h⊢;obtain⟨v,l,F1,F2,h1,h2,h3,h4⟩:=h;obtain⟨A1,A2,pa,oa⟩:=J4 hd h3;obtain⟨B1,B2,pb,ob⟩:=J4 hd h4;refine⟨A1++B1,A2++B2,?_,v,l,A1,B1,h1,rfl,ES (by grind) (fun _ _=>rfl) (fun _ _=>rfl) oa,ES (by grind) (fun _ _=>rfl) (fun _ _=>rfl) ob⟩;grind
def RB(w:World):(t:Ty)→List Value→t.D→Nat→Prop
 | .sl r,vs,x,c=> ∃b o len cap,vs=[.slice (some ⟨b,o,none⟩) len cap]∧0<List.length x∧
  (c=b∨ ∃(i:Nat) (y:r.D) (cs:List Value),x[i]? =some y∧cs.length=r.n∧Bb w b (o+i*r.n) cs∧RB w r cs y c)
 | .cons c r,vs,x,d=> ∃v l,vs=v::l∧(RB w c [v] x.1 d∨RB w r l x.2 d)
 |_,_,_,_=>False
theorem Bb.unique{w:World}{b o:Nat}{cs ds:List Value}(h:Bb w b o cs)(k:Bb w b o ds)(hl:cs.length=ds.length):cs=ds:=by
 apply List.ext_getElem hl;intro i h1 h2;have e1:=h i _ (ALR h1);have e2:=k i _ (ALR h2);simp_all
theorem s_{w:World}{B:Nat→Prop}{c:Nat}:∀{t:Ty} {vs x},Rd w B t vs x→RB w t vs x c→B c
 | .int _,_,_,_,h=>by simp[RB]at h
 | .bool,_,_,_,h=>by simp[RB]at h
 | .str,_,_,_,h=>by simp[RB]at h
 | .unit,_,_,_,h=>by simp[RB]at h
 | .sl r,_,x,h,k=>by
  simp only[Rd]at h;simp only[RB]at k;obtain⟨a,cap,rfl,_,h⟩:=h;obtain⟨b,o,len,cap',e,hl,k⟩:=k;simp only[AQN,Value.slice.injEq,ASn]at e;obtain⟨rfl,rfl,rfl⟩:=e;rcases h with h|⟨b',o',e,hb,h⟩
  ·omega
  simp only[ALW,Addr.mk.injEq,ASn]at e;obtain⟨rfl,rfl⟩:=e;rcases k with rfl|⟨i,y,cs,hy,cu,hca,k⟩
  ·omega
  ·obtain⟨ds,d1,d2,d3⟩:=h i y hy
   have:=hca.unique d2 (by omega);subst this;exact s_ d3 k
 | .cons _ _,_,_,h,k=>by
  simp only[Rd]at h;simp only[RB]at k;obtain⟨v,l,rfl,h1,h2⟩:=h;obtain⟨v',l',e,k⟩:=k;cases e;exact k.elim (s_ h1) (s_ h2)
theorem mz{w w':World}{c:Nat}:∀{t:Ty} {vs x},(∀d,RB w t vs x d→w'.heap[d]? =w.heap[d]?)→RB w t vs x c→RB w' t vs x c
 | .int _,_,_,_,h=>by simp[RB]at h
 | .bool,_,_,_,h=>by simp[RB]at h
 | .str,_,_,_,h=>by simp[RB]at h
 | .unit,_,_,_,h=>by simp[RB]at h
 | .sl r,_,x,h,k=>by
  simp only[RB]at h k⊢;obtain⟨b,o,len,cap,e,hl,k⟩:=k;refine⟨b,o,len,cap,e,hl,?_⟩;rcases k with rfl|⟨i,y,cs,hy,cu,hca,k⟩
  ·omega
  ·have hb:=h b ⟨b,o,len,cap,e,hl,.inl rfl⟩
   exact .inr ⟨i,y,cs,hy,cu,hca.of_block hb,mz (fun d hd=>h d ⟨b,o,len,cap,e,hl,.inr ⟨i,y,cs,hy,cu,hca,hd⟩⟩) k⟩
 | .cons _ _,_,_,h,k=>by
  simp only[RB]at h k⊢;obtain⟨v,l,e,k⟩:=k;refine⟨v,l,e,k.elim (fun k=> .inl (mz (fun d hd=>h d ⟨v,l,e,.inl hd⟩) k)) (fun k=> .inr (mz (fun d hd=>h d ⟨v,l,e,.inr hd⟩) k))⟩
end Go.Fw
end
section
namespace Go.Fw
def Cb{α β:Type}(R:α→β→Prop):List α→List β→Prop
 |[],[]=>True
 |a::l,b::m=>R a b∧Cb R l m
 |_,_=>False
theorem Cb.len{α β:Type}{R:α→β→Prop}:∀{l:List α} {m:List β},Cb R l m→l.length=m.length
 |[],[],_=>rfl
 |_::_,_::_,h=>by simp[Cb.len h.2]
theorem Cb.get{α β:Type}{R:α→β→Prop}:∀{l:List α} {m:List β} {i:Nat} {a:α},Cb R l m→l[i]? =some a→ ∃b,m[i]? =some b∧R a b
 |_::_,_::_,0,a,h,e=>by simp at e;subst e;exact⟨_,rfl,h.1⟩
 |_::_,_::_,i+1,a,h,e=>by
  obtain⟨b,hb,hr⟩:=Cb.get (i:=i) h.2 (by simpa using e);simp_all
 |[],[],_,_,_,e=>by simp at e
theorem Cb.imp{α β:Type}{R S:α→β→Prop}(h:∀a b,R a b→S a b):∀{l:List α} {m:List β},Cb R l m→Cb S l m
 |[],[],_=>trivial
 |_::_,_::_,k=>⟨h _ _ k.1,Cb.imp h k.2⟩
structure Env where
 Ht:Nat→Nat
 Hu:Nat→Value
 T:Nat→Prop
 S:Nat→Prop
def Ir(w:World):Value→List V_→Option Value
 |h,[]=>some h
 | .slice (some a) _ _,s::p=>
  match w.cell? ⟨a.block,a.off+s.i*s.sz+s.j,none⟩with
  |some h=>Ir w h p
  |none=>none
 |_,_::_=>none
def DE:(r:Ty)→List r.D→List V_→Prop
 |_,_,[]=>True
 |r,rows,s::p=>s.i<rows.length∧s.sz=r.n∧
  match BL r s.j (rowAt r rows s.i)with
  |some ⟨.sl q,x⟩=>DE q x p
  |_=>False
def Uo(sz off n:Nat)(a:Option Addr)(cap:Nat):Value:=
 .slice (if cap=off then a else a.map (·.add (off*sz))) n (cap-off)
def isSlice:Value→Bool
 | .slice .. =>true
 |_=>false
def bR:Value→Bool
 | .pointer (some ⟨_,_,none⟩)=>true
 |_=>false
def RA(E:Env)(w:World)(q:(r:Ty)×r.D)(p:Value):Prop:= ∃bb o cs,p= .pointer (some ⟨bb,o,none⟩)∧E.T bb∧cs.length=q.1.n∧Bb w bb o cs∧Rd w E.T q.1 cs q.2
def VR(E:Env)(w:World)(vw:List Bx):AV→Value→Prop
 | .v t x,v=>t.scalar=true∧Rd w (fun _=>False) t [v] x
 | .sl s r x,v=>Rd w (if s then E.S else E.T) (.sl r) [v] x
 | .nil,v=>v= .slice none 0 0
 | .ref b p,v=>isSlice v=true∧match vw[b]? with
  |some (.sl _ r rows)=>DE r rows p∧(∃q,G5 r rows p=some q)∧Ir w (E.Hu b) p=some v
  |some _=>True
  |none=>False
 | .win b p off n,v=>isSlice v=true∧match vw[b]? with
  |some (.sl _ r rows)=>DE r rows p∧ ∃q ys a len cap,G5 r rows p=some ⟨q,ys⟩∧off+n≤List.length ys∧Ir w (E.Hu b) p=some (.slice a len cap)∧v=Uo q.n off n a cap
  |some _=>True
  |none=>False
 | .IG b j,v=>b<vw.length∧v= .pointer (some ⟨E.Ht b,j,none⟩)
 | .JX b p i sz j,v=>bR v=true∧match vw[b]? with
  |some (.sl _ r rows)=>DE r rows p∧ ∃q ys bb o len cap,G5 r rows p=some ⟨q,ys⟩∧i<List.length ys∧Ir w (E.Hu b) p=some (.slice (some ⟨bb,o,none⟩) len cap)∧v= .pointer (some ⟨bb,o+i*sz+j,none⟩)
  |some _=>True
  |none=>False
 | .PB s r x j,v=> ∃bb o cs,v= .pointer (some ⟨bb,o+j,none⟩)∧(if s then E.S else E.T) bb∧cs.length=r.n∧Bb w bb o cs∧Rd w (if s then E.S else E.T) r cs x
 | .fn f KM,v=>(∀b∈KM,b<vw.length)∧v= .func (.func f) #[] (KM.map fun b=>Value.pointer (some ⟨E.Ht b,0,none⟩)).toArray
 | .qP f rows,v=> ∃ps:List Value,v= .func (.func f) #[] ps.toArray∧Cb (RA E w) rows ps
 | .xj,v=>v= .pointer none
 | .undef,_=>True
def gi(E:Env)(w:World)(vw:List Bx)(l:List AV)(vs:List Value):Prop:=Cb (VR E w vw) l vs
def TR(E:Env)(w:World)(vw:List Bx):AV ⊕ List AV→Value→Prop
 | .inl x,v=>VR E w vw x v
 | .inr q,v=> ∃vs,v= .agg vs∧gi E w vw q vs.toList
def XR(E:Env)(w:World)(vw:List Bx):XV→Value→Prop
 | .c x,v=>VR E w vw x v
 | .agg l,v=> ∃vs,v= .agg vs∧gi E w vw l vs.toList
 | .Mh l,v=> ∃vs,v= .tuple vs∧Cb (TR E w vw) l vs.toList
def pR(E:Env)(w:World)(vw:List Bx)(k:Nat):Bx→List Nat→Prop
 | .mem cs,F=>F=[E.Ht k]∧ ∃arr ty fr,w.heap[E.Ht k]? =some (.cells arr ty fr)∧vx fr (arr.size+1)∧gi E w vw cs arr.toList
 | .sl d r rows,F=>1≤d∧Ow w E.S d (.sl r) [E.Hu k] rows F
 | .dead,F=>F=[]
structure Sep (E:Env) (w:World) (F:ABI):Prop where
 nodup:F.Nodup
 free:∀c∈F,¬E.T c
 lt:∀c∈F,c<w.heap.size
 st:∀c,E.S c→E.T c
 cA:∀c,E.T c→c<w.heap.size
def NC(E:Env)(w:World)(vw bx:List Bx)(Fs:List ABI):Prop:=
 Fs.length=bx.length∧ ∀k B F,bx[k]? =some B→Fs[k]? =some F→pR E w vw k B F
def C_(E:Env)(w:World)(vw bx:List Bx)(G:ABI):Prop:=
 ∃Fs,NC E w vw bx Fs∧Sep E w (Fs.flatten++G)
structure Le (E E':Env):Prop where
 Ht:E'.Ht=E.Ht
 Hu:E'.Hu=E.Hu
 T:∀c,E.T c→E'.T c
 S:∀c,E.S c→E'.S c
 Tof:∀c,E'.T c→E.T c∨E'.S c
 zq:∀c,E'.S c→E.S c∨ ¬E.T c
theorem Le.refl(E:Env):Le E E:=⟨rfl,rfl,fun _ h=>h,fun _ h=>h,fun _ h=> .inl h,fun _ h=> .inl h⟩
theorem Le.trans{E E' E'':Env}(h:Le E E')(k:Le E' E''):Le E E'':=
 ⟨k.Ht.trans h.Ht,k.Hu.trans h.Hu,fun c hc=>k.T c (h.T c hc),fun c hc=>k.S c (h.S c hc),
  fun c hc=>(k.Tof c hc).elim (fun h' =>(h.Tof c h').imp id (k.S c)) .inr,
  fun c hc=>(k.zq c hc).elim (h.zq c) (fun h' => .inr fun ht=>h' (h.T c ht))⟩
theorem dv{w B}:∀{r:Ty} {cs x j t y},Rd w B r cs x→BL r j x=some ⟨t,y⟩→ ∃v,cs[j]? =some v∧Rd w B t [v] y
 | .cons c r,cs,x,0,t,y,h,e=>by
  simp only[Rd]at h;obtain⟨v,l,rfl,h1,h2⟩:=h;simp only[BL,ALW,AMn]at e;grind
 | .cons c r,cs,x,j+1,t,y,h,e=>by
  simp only[Rd]at h;obtain⟨v,l,rfl,h1,h2⟩:=h;simp only[BL]at e;obtain⟨u,hu,hr⟩:=dv h2 e;simp_all
 | .int k,cs,x,0,t,y,h,e=>by
  simp only[BL,ALW,AMn]at e;obtain⟨rfl,e⟩:=e;obtain rfl:=AQ3 e;simp only[Rd]at h;subst h;exact⟨_,rfl,by rfl⟩
 | .bool,cs,x,0,t,y,h,e=>by
  simp only[BL,ALW,AMn]at e;obtain⟨rfl,e⟩:=e;obtain rfl:=AQ3 e;simp only[Rd]at h;subst h;exact⟨_,rfl,by rfl⟩
 | .str,cs,x,0,t,y,h,e=>by
  simp only[BL,ALW,AMn]at e;obtain⟨rfl,e⟩:=e;obtain rfl:=AQ3 e;simp only[Rd]at h;subst h;exact⟨_,rfl,by rfl⟩
 | .sl r,cs,x,0,t,y,h,e=>by
  simp only[BL,ALW,AMn]at e;obtain⟨rfl,e⟩:=e;obtain rfl:=AQ3 e;have h':=h;simp only[Rd]at h;grind
 | .unit,_,_,_,_,_,_,e=>by simp[BL]at e
 | .int _,_,_,_+1,_,_,_,e=>by simp[BL]at e
 | .bool,_,_,_+1,_,_,_,e=>by simp[BL]at e
 | .str,_,_,_+1,_,_,_,e=>by simp[BL]at e
 | .sl _,_,_,_+1,_,_,_,e=>by simp[BL]at e
theorem Q3{r:Ty}{rows:List r.D}{i:Nat}(h:i<rows.length):rows[i]? =some (rowAt r rows i):=by
 simp[rowAt,h]
theorem nD{w:World}{B:Nat→Prop}:∀{p:List V_} {r:Ty} {h:Value} {rows:List r.D} {q:Ty} {ys:List q.D},
  Rd w B (.sl r) [h] rows→DE r rows p→G5 r rows p=some ⟨q,ys⟩→
  ∃h',(∀w':World,(∀b,B b→w'.heap[b]? =w.heap[b]?)→Ir w' h p=some h')∧Rd w B (.sl q) [h'] ys
 |[],r,h,rows,q,ys,hr,_,hg=>by
  simp only[G5,ALW,AMn]at hg;obtain⟨rfl,e⟩:=hg;obtain rfl:=AQ3 e;exact⟨h,fun w' _=>by rfl,hr⟩
 |s::p,r,h,rows,q,ys,hr,hp,hg=>by
  simp only[DE]at hp;obtain⟨hi,O_,hp⟩:=hp;simp only[G5]at hg;simp only[Rd]at hr;obtain⟨a,cap,hh,_,hr⟩:=hr;obtain rfl:=(List.cons.inj hh).1;rcases hr with hr|⟨b,o,rfl,hb,hr⟩
  ·omega
  obtain⟨cs,hl,hc,hrow⟩:=hr s.i _ (Q3 hi);split at hg
  ·rename_i q' x' gV
   rw[gV]at hp;obtain⟨v,hv,hrv⟩:=dv hrow gV;obtain⟨h',hh',Yv⟩:=nD hrv hp hg;refine⟨h',fun w' qY=> ?_,Yv⟩;simp only[Ir];have Z1:w'.cell? ⟨b,o+s.i*s.sz+s.j,none⟩=some v:=by
    rw[O_];exact(World.cell?_of_block (a:=⟨b,_,none⟩) (qY b hb)).trans (hc _ _ hv)
   simp_all
  simp_all
theorem DB{w:World}{h:Value}:Ir w h []=some h:=by rfl
structure SR (E:Env) (w:World) (vw:List Bx) (E':Env) (w':World) (vw':List Bx):Prop where
 len:vw.length≤vw'.length
 Ht:∀b,b<vw.length→E'.Ht b=E.Ht b
 T:∀b,E.T b→E'.T b
 S:∀b,E.S b→E'.S b
 st:∀b,E.S b→E.T b
 heap:∀b,E.T b→w'.heap[b]? =w.heap[b]?
 box:∀b d r rows,b<vw.length→vw'[b]? =some (.sl d r rows)→ ∃d0 SB,vw[b]? =some (.sl d0 r SB)∧
  ∀p,DE r SB p→ ∀q ys,G5 r SB p=some ⟨q,ys⟩→DE r rows p∧(∃ui,G5 r rows p=some ⟨q,ui⟩∧List.length ui=List.length ys)∧
   ∀h,Ir w (E.Hu b) p=some h→Ir w' (E'.Hu b) p=some h
theorem PI{α:Type}{l l':List α}{b:Nat}{x:α}(h:l.length≤l'.length)(e:l[b]? =some x):∃y,l'[b]? =some y:=
 ⟨l'[b]'(ASh (ALf.1 e).1 h),ALR _⟩
theorem GK{E E':Env}{w w':World}{vw vw':List Bx}(k:SR E w vw E' w' vw'):∀{x:AV} {v:Value},VR E w vw x v→VR E' w' vw' x v:=by
 intro x v h;cases x with
 |v t x=>exact⟨h.1,Fl (fun _ h=>h) (fun _ h=>h.elim) h.2⟩
 |sl s r x=>
  simp only[VR]at h⊢;cases s with
  |false=>exact Fl k.T k.heap (by simp_all)
  |true=>exact Fl k.S (fun b hb=>k.heap b (k.st b hb)) (by simp_all)
 |nil=>exact h
 |ref b p=>
  simp only[VR]at h⊢;obtain⟨h0,h⟩:=h;refine⟨h0,?_⟩;cases e:vw[b]? with
  |none=>simp_all
  |some B=>
   rw[e]at h;have Jq:=(ALf.1 e).1;obtain⟨B',e'⟩:=PI k.len e;rw[e'];cases B' with
   |mem cs=>trivial
   |dead=>trivial
   |sl d r rows=>
    obtain⟨d0,SB,e0,hk⟩:=k.box b d r rows Jq e';grind
 |win b p off n=>
  simp only[VR]at h⊢;obtain⟨h0,h⟩:=h;refine⟨h0,?_⟩;cases e:vw[b]? with
  |none=>simp_all
  |some B=>
   rw[e]at h;have Jq:=(ALf.1 e).1;obtain⟨B',e'⟩:=PI k.len e;rw[e'];cases B' with
   |mem cs=>trivial
   |dead=>trivial
   |sl d r rows=>
    obtain⟨d0,SB,e0,hk⟩:=k.box b d r rows Jq e';grind
 |IG b j=>exact⟨ASh h.1 k.len,by rw[h.2,k.Ht b h.1]⟩
 |JX b p i sz j=>
  simp only[VR]at h⊢;obtain⟨h0,h⟩:=h;refine⟨h0,?_⟩;cases e:vw[b]? with
  |none=>simp_all
  |some B=>
   rw[e]at h;have Jq:=(ALf.1 e).1;obtain⟨B',e'⟩:=PI k.len e;rw[e'];cases B' with
   |mem cs=>trivial
   |dead=>trivial
   |sl d r rows=>
    obtain⟨d0,SB,e0,hk⟩:=k.box b d r rows Jq e';grind
 |PB s r x j=>
  simp only[VR]at h⊢;obtain⟨bb,o,cs,hv,hb,hl,hc,hr⟩:=h;cases s with
  |false=>exact⟨bb,o,cs,hv,k.T bb (by simp_all),hl,hc.of_block (k.heap bb (by simp_all)),Fl k.T k.heap (by simp_all)⟩
  |true=>exact⟨bb,o,cs,hv,k.S bb (by simp_all),hl,hc.of_block (k.heap bb (k.st bb (by simp_all))),Fl k.S (fun b hb=>k.heap b (k.st b hb)) (by simp_all)⟩
 |fn f KM=>
  refine⟨fun b hb=>ASh (h.1 b hb) k.len,?_⟩;rw[h.2];congr 2;exact ASl fun b hb=>by rw[k.Ht b (h.1 b hb)]
 |qP f rows=>
  obtain⟨ps,hv,h⟩:=h;exact⟨ps,hv,h.imp fun q p ⟨bb,o,cs,h1,h2,h3,h4,h5⟩=>⟨bb,o,cs,h1,k.T bb h2,h3,h4.of_block (k.heap bb h2),Fl k.T k.heap h5⟩⟩
 |xj=>exact h
 |undef=>trivial
theorem O1{E E':Env}{w w':World}{vw vw':List Bx}(k:SR E w vw E' w' vw'):∀{x:XV} {v:Value},XR E w vw x v→XR E' w' vw' x v
 | .c _,_,h=>GK k h
 | .agg _,_,⟨vs,hv,h⟩=>⟨vs,hv,h.imp fun _ _ h=>GK k h⟩
 | .Mh l,_,⟨vs,hv,h⟩=>⟨vs,hv,h.imp fun
  | .inl _,_,h=>GK k h
  | .inr _,_,⟨ws,hw,h⟩=>⟨ws,hw,h.imp fun _ _ h=>GK k h⟩⟩
theorem SR.refl{E:Env}{w:World}{vw:List Bx}(st:∀b,E.S b→E.T b):SR E w vw E w vw:=
 ⟨APz _,fun _ _=>rfl,fun _ h=>h,fun _ h=>h,st,fun _ _=>rfl,fun b d r rows _ h=>⟨d,rows,h,fun p hp q ys hg=>⟨hp,⟨ys,hg,rfl⟩,fun _ h=>h⟩⟩⟩
theorem SR.trans{E E' E'':Env}{w w' w'':World}{vw vw' AVq:List Bx}(k:SR E w vw E' w' vw')(k':SR E' w' vw' E'' w'' AVq):SR E w vw E'' w'' AVq where
 len:=ARE k.len k'.len
 Ht:=fun b hb=>(k'.Ht b (ASh hb k.len)).trans (k.Ht b hb)
 T:=fun b h=>k'.T b (k.T b h)
 S:=fun b h=>k'.S b (k.S b h)
 st:=k.st
 heap:=fun b h=>(k'.heap b (k.T b h)).trans (k.heap b h)
 box:=fun b d r rows hb h=>by
  obtain⟨d1,AMS,h1,k1⟩:=k'.box b d r rows (ASh hb k.len) h;obtain⟨d0,SB,h0,k0⟩:=k.box b d1 r AMS hb h1;grind
theorem tZ{w w':World}{S:Nat→Prop}{d:Nat}{r:Ty}{h:Value}{rows:List r.D}{F:ABI}(ho:Ow w S d (.sl r) [h] rows F)
  (hS:∀b,S b→w'.heap[b]? =w.heap[b]?) (hF:∀b∈F,w'.heap[b]? =w.heap[b]?) {p:List V_} (hp:DE r rows p) {q:Ty} {ys:List q.D} (hg:G5 r rows p=some ⟨q,ys⟩)
  {h':Value} (hh:Ir w h p=some h'):Ir w' h p=some h':=by
 obtain⟨h1,k,_⟩:=nD (XJ ho) hp hg;grind
end Go.Fw
end
section
namespace Go.Fw
theorem Cb.set{α β:Type}{R:α→β→Prop}:∀{l:List α} {m:List β} {i:Nat} {a:α} {b:β},Cb R l m→R a b→Cb R (l.set i a) (m.set i b)
 |[],[],_,_,_,_,_=>trivial
 |_::_,_::_,0,_,_,h,r=>⟨r,h.2⟩
 |_::_,_::_,i+1,_,_,h,r=>⟨h.1,Cb.set h.2 r⟩
theorem Cb.append{α β:Type}{R:α→β→Prop}:∀{l:List α} {m:List β} {l':List α} {m':List β},Cb R l m→Cb R l' m'→Cb R (l++l') (m++m')
 |[],[],_,_,_,h=>h
 |_::_,_::_,_,_,h,k=>⟨h.1,Cb.append h.2 k⟩
theorem Cb.Ld{α β γ:Type}{R:α→β→Prop}{S:γ→β→Prop}(f:α→γ)(h:∀a b,R a b→S (f a) b):∀{l:List α} {m:List β},Cb R l m→Cb S (l.map f) m
 |[],[],_=>trivial
 |_::_,_::_,k=>⟨h _ _ k.1,Cb.Ld f h k.2⟩
theorem Cb.drop{α β:Type}{R:α→β→Prop}:∀{l:List α} {m:List β} (n:Nat),Cb R l m→Cb R (l.drop n) (m.drop n)
 |_,_,0,h=>h
 |[],[],_+1,_=>trivial
 |_::_,_::_,n+1,h=>Cb.drop n h.2
theorem Cb.take{α β:Type}{R:α→β→Prop}:∀{l:List α} {m:List β} (n:Nat),Cb R l m→Cb R (l.take n) (m.take n)
 |[],[],0,_=>trivial
 |_::_,_::_,0,_=>trivial
 |[],[],_+1,_=>trivial
 |_::_,_::_,n+1,h=>⟨h.1,Cb.take n h.2⟩
structure cw (E0:Env) (w0:World) (E:Env) (w:World):Prop where
 T:∀c,E0.T c→E.T c
 S:∀c,E0.S c→E.S c
 Tof:∀c,E.T c→E0.T c∨E.S c
 zq:∀c,E.S c→E0.S c∨ ¬E0.T c
 heap:∀c,E0.T c→w.heap[c]? =w0.heap[c]?
 os:w.os=w0.os
 tape:w.tape=w0.tape
 output:w.output=w0.output
 size:w0.heap.size≤w.heap.size
theorem cw.refl(E:Env)(w:World):cw E w E w:=⟨fun _ h=>h,fun _ h=>h,fun _ h=> .inl h,fun _ h=> .inl h,fun _ _=>rfl,rfl,rfl,rfl,APz _⟩
theorem cw.trans{E E' E'':Env}{w w' w'':World}(h:cw E w E' w')(k:cw E' w' E'' w''):cw E w E'' w'':=
 ⟨fun c hc=>k.T c (h.T c hc),fun c hc=>k.S c (h.S c hc),fun c hc=>(k.Tof c hc).elim (fun h' =>(h.Tof c h').imp id (k.S c)) .inr,
  fun c hc=>(k.zq c hc).elim (h.zq c) (fun h' => .inr fun ht=>h' (h.T c ht)),fun c hc=>(k.heap c (h.T c hc)).trans (h.heap c hc),
  k.os.trans h.os,k.tape.trans h.tape,k.output.trans h.output,ARE h.size k.size⟩
theorem Le.base{E E':Env}(h:Le E E')(w:World):cw E w E' w:=⟨h.T,h.S,h.Tof,h.zq,fun _ _=>rfl,rfl,rfl,rfl,APz _⟩
def xH(E:Env)(w:World)(k:Nat):Bx→Nat→Prop
 | .mem _,c=>c=E.Ht k
 | .sl _ r rows,c=>RB w (.sl r) [E.Hu k] rows c
 | .dead,_=>False
def U1:Bx→Bx→Prop
 | .mem _,.mem _=>True
 | .sl _ r x,.sl _ q y=>(⟨r,x⟩:(r:Ty)×List r.D)=⟨q,y⟩
 |_,_=>False
structure Q6 (t:ABI) (E0:Env) (bx0:List Bx) (w0:World) (E:Env) (bx:List Bx) (w:World):Prop where
 base:cw E0 w0 E w
 len:bx0.length≤bx.length
 ids:∀b,b<bx0.length→E.Ht b=E0.Ht b∧E.Hu b=E0.Hu b
 dead:∀b:Nat,bx0[b]? =some Bx.dead→bx[b]? =some Bx.dead
 frame:∀(n:Nat) B B',n∉t→bx0[n]? =some B→bx[n]? =some B'→B'≠ .dead→U1 B B'∧ ∀c,xH E0 w0 n B c→w.heap[c]? =w0.heap[c]?
theorem Q6.any{E E':Env}{bx QX:List Bx}{w w':World}(h:Q6 [] E bx w E' QX w'){t:ABI}:Q6 t E bx w E' QX w':=
 ⟨h.base,h.len,h.ids,h.dead,fun n B B' _=>h.frame n B B' (by simp)⟩
theorem U1.refl{B:Bx}(h:B≠ .dead):U1 B B:=by cases B<;>simp_all[U1]
theorem Q6.refl(t:ABI)(E:Env)(bx:List Bx)(w:World):Q6 t E bx w E bx w:=⟨cw.refl E w,APz _,fun _ _=>⟨rfl,rfl⟩,fun _ h=>h,fun n B B' _ h h' hd=>by
 rw[h]at h';cases h';exact⟨U1.refl hd,fun _ _=>rfl⟩⟩
theorem dU{E:Env}{w:World}{vw:List Bx}{k:Nat}{B:Bx}{F:ABI}{c:Nat}(h:pR E w vw k B F)(hc:xH E w k B c):E.S c∨c∈F:=by
 cases B with
 |mem cs=>obtain⟨rfl,_⟩:=h;grind[xH]
 |sl d r rows=>exact s_ (XJ h.2) hc
 |dead=>exact hc.elim
structure Rel (E:Env) (σ:St) (a:Act) (w:World):Prop where
 NO:a.defers=[]
 tm:Cb (XR E w σ.bx) σ.tm a.tmps.toList
 bx:C_ E w σ.bx σ.bx []
theorem Rel.put{E:Env}{σ:St}{a:Act}{w:World}(h:Rel E σ a w)(dst:Option Tmp){x:XV}{v:Value}(hx:XR E w σ.bx x v):Rel E (σ.put dst x) (a.put dst v) w:=by
 cases dst with
 |none=>exact h
 |some d=>exact⟨h.NO,by simpa[St.put,Act.put]using Cb.set h.tm hx,h.bx⟩
theorem Cb.APv{E:Env}{w:World}{vw:List Bx}{l:List XV}{m:Array Value}(h:Cb (XR E w vw) l m.toList)(t:Nat):XR E w vw (l.getD t (.c .undef)) (m.getD t undef):=by
 by_cases ht:t<l.length
 ·have e:l[t]? =some l[t]:=ALR ht
  obtain⟨b,hb,hr⟩:=h.get e;simp_all
 ·have e:l[t]? =none:=by simp_all
  simp only[List.getD_eq_getElem?_getD,e,Option.getD_none]
  trivial
theorem rW{E:Env}{w:World}{vw:List Bx}(v:Value):VR E w vw (oB v) v:=by
 unfold oB;split<;>first
  |trivial
  |exact⟨rfl,by simp[Rd]⟩
  |rfl
theorem lC{E:Env}{w:World}{vw:List Bx}:∀(l:List Value),gi E w vw (l.map oB) l
 |[]=>trivial
 |a::l=>⟨rW a,lC l⟩
theorem xh{E:Env}{w:World}{vw:List Bx}(v:Value):XR E w vw (ofValue v) v:=by
 unfold ofValue;split
 ·rename_i cs
  exact⟨cs,rfl,lC cs.toList⟩
 ·exact rW v
theorem Rel.ev{E:Env}{σ:St}{a:Act}{w:World}(h:Rel E σ a w)(x:Operand):XR E w σ.bx (σ.ev x) (a.eval x):=by
 cases x with
 |tmp t=>exact Cb.APv h.tm t
 |const v=>exact xh v
 |global g=>trivial
 |func f=>exact⟨by simp,rfl⟩
theorem Ub{b:Nat}:∀{Fs:List ABI} {F:ABI},Fs[b]? =some F→Fs.flatten.Perm (F++(Fs.set b []).flatten):=by
 induction b with
 |zero=>
  intro Fs F h;cases Fs with
  |nil=>simp at h
  |cons A l=>simp_all
 |succ b ih=>
  intro Fs F h;cases Fs with
  |nil=>simp at h
  |cons A l=>
   grind
theorem Sep.perm{E:Env}{w:World}{F F':ABI}(h:Sep E w F)(p:F.Perm F'):Sep E w F':=
 ⟨p.nodup_iff.1 h.nodup,fun c hc=>h.free c (p.mem_iff.2 hc),fun c hc=>h.lt c (p.mem_iff.2 hc),h.st,h.cA⟩
theorem Sep.sub{E:Env}{w:World}{F F':ABI}(h:Sep E w (F++F')):Sep E w F:=
 ⟨(AMx.1 h.nodup).1,fun c hc=>h.free c (by simp[hc]),fun c hc=>h.lt c (by simp[hc]),h.st,h.cA⟩
theorem C_.perm{E:Env}{w:World}{vw bx:List Bx}{G G':ABI}(h:C_ E w vw bx G)(p:G.Perm G'):C_ E w vw bx G':=
 let⟨Fs,h1,h2⟩:=h
 ⟨Fs,h1,h2.perm (AVz _ p)⟩
theorem C_.drop{E:Env}{w:World}{vw bx:List Bx}{G G':ABI}(h:C_ E w vw bx (G++G')):C_ E w vw bx G:=
 let⟨Fs,h1,h2⟩:=h
 ⟨Fs,h1,by rw[←AM4]at h2;exact h2.sub⟩
theorem C_.st{E:Env}{w:World}{vw bx:List Bx}{G:ABI}(h:C_ E w vw bx G):∀c,E.S c→E.T c:=let⟨_,_,h⟩:=h;h.st
theorem C_.cA{E:Env}{w:World}{vw bx:List Bx}{G:ABI}(h:C_ E w vw bx G):∀c,E.T c→c<w.heap.size:=let⟨_,_,h⟩:=h;h.cA
theorem C_.AEg{E:Env}{w:World}{vw bx:List Bx}{G:ABI}(h:C_ E w vw bx G):∀c∈G,¬E.T c:=let⟨_,_,h⟩:=h;fun c hc=>h.free c (by simp[hc])
theorem C_.take{E:Env}{w:World}{vw bx:List Bx}{G:ABI}(h:C_ E w vw bx G){b:Nat}{B:Bx}(hb:bx[b]? =some B):
  ∃F,pR E w vw b B F∧C_ E w vw (bx.set b .dead) (F++G):=by
 obtain⟨Fs,⟨hl,h1⟩,h2⟩:=h;have Jq:=(ALf.1 hb).1;have hF:Fs[b]? =some (Fs[b]'(by omega)):=ALR _;refine⟨_,h1 b B _ hb hF,Fs.set b [],⟨by simp_all,fun k C F hk hkF=> ?_⟩,h2.perm ?_⟩
 ·by_cases e:k=b
  ·subst e
   rw[ASx (by omega)]at hk hkF;cases hk;cases hkF;rfl
  grind
 grind[List.Perm.append_right,Ub,List.append_assoc,List.perm_append_comm,trans,List.Perm.append_left]
theorem C_.put{E:Env}{w:World}{vw bx:List Bx}{F G:ABI}(h:C_ E w vw bx (F++G)){b:Nat}{B:Bx}(hb:bx[b]? =some .dead)(hB:pR E w vw b B F):
  C_ E w vw (bx.set b B) G:=by
 obtain⟨Fs,⟨hl,h1⟩,h2⟩:=h;have Jq:=(ALf.1 hb).1;have hF:Fs[b]? =some (Fs[b]'(by omega)):=ALR _;have e0:Fs[b]'(by omega)=[]:=h1 b _ _ hb hF;refine⟨Fs.set b F,⟨by simp_all,fun k C F' hk hkF=> ?_⟩,h2.perm ?_⟩
 ·grind
 ·have p:(Fs.set b F).flatten.Perm (F++Fs.flatten):=by
   have p1:=Ub (Fs:=Fs.set b F) (b:=b) (F:=F) (ASx (by omega));rw[AXB]at p1;have p2:=Ub hF;grind
  grind
theorem C_.push{E:Env}{w:World}{vw bx:List Bx}{F G:ABI}(h:C_ E w vw bx (F++G)){B:Bx}(hB:pR E w vw bx.length B F):
  C_ E w vw (bx++[B]) G:=by
 obtain⟨Fs,⟨hl,h1⟩,h2⟩:=h;refine⟨Fs++[F],⟨by simp[hl],fun k C F' hk hkF=> ?_⟩,h2.perm (by simp)⟩;grind
theorem C_.turn{E E':Env}{w w':World}{vw vw' bx:List Bx}{G:ABI}(h:C_ E w vw bx G)(k:∀x v,VR E w vw x v→VR E' w' vw' x v)
  (hS:∀c,E.S c→E'.S c) (AE_:∀b,b<bx.length→E'.Ht b=E.Ht b) (mY:∀b,b<bx.length→E'.Hu b=E.Hu b)
  (hw:∀c,(E.S c∨(¬E.T c∧c∉G))→c<w.heap.size→w'.heap[c]? =w.heap[c]?)
  (AE8:∀F,Sep E w (F++G)→Sep E' w' (F++G)):C_ E' w' vw' bx G:=by
 obtain⟨Fs,⟨hl,h1⟩,h2⟩:=h;refine⟨Fs,⟨hl,fun n B F hn hF=> ?_⟩,AE8 _ h2⟩;have Jq:=(ALf.1 hn).1;have h3:=h1 n B F hn hF;have AOi:∀c∈F,c∈Fs.flatten:=fun c hc=>ARg.2 ⟨F,ANO hF,hc⟩
 have hFw:∀c∈F,w'.heap[c]? =w.heap[c]?:=fun c hc=>hw c (.inr ⟨h2.free c (by simp_all),fun hg=>by
  have:=(AMx.1 h2.nodup).2.2 c (AOi c hc) c hg;omega⟩) (h2.lt c (by simp_all))
 have sb:∀c,E.S c→w'.heap[c]? =w.heap[c]?:=fun c hc=>hw c (.inl hc) (h2.cA c (h2.st c hc))
 cases B with
 |mem cs=>
  obtain⟨rfl,arr,ty,fr,ha,hu,hv⟩:=h3;refine⟨by simp_all,arr,ty,fr,?_,hu,hv.imp k⟩;simp_all
 |sl d r rows=>
  obtain⟨hd,ho⟩:=h3;refine⟨hd,?_⟩;grind[ES]
 |dead=>exact h3
end Go.Fw
end
section
namespace Go.Fw
theorem H3{β:Ty→Type}{a b:Ty}{x:β a}{y:β b}(h:QR a b x=some y):∃e:a=b,e▸x=y:=by
 grind[QR]
def FI(bk vw:List Bx):Prop:= ∀(b:Nat) (B:Bx),bk[b]? =some B→B= .dead∨vw[b]? =some B
theorem FI.refl(bx:List Bx):FI bx bx:=fun _ _ h=> .inr h
theorem Addr.add_eq(b o n:Nat):(⟨b,o,none⟩:Addr).add n=⟨b,o+n,none⟩:=by grind[Addr.add]
theorem xc{w:World}{B:Nat→Prop}{r:Ty}{a:Option Addr}{len cap:Nat}{ys:List r.D}(h:Rd w B (.sl r) [.slice a len cap] ys){off n:Nat}(hn:off+n≤ys.length):
  Rd w B (.sl r) [Uo r.n off n a cap] ((ys.drop off).take n):=by
 simp only[Rd]at h⊢;obtain⟨a',cap',e,hc,h⟩:=h;simp only[AQN,Value.slice.injEq,ASn]at e;obtain⟨rfl,rfl,rfl⟩:=e;have hl:((ys.drop off).take n).length=n:=by grind
 refine⟨_,_,by unfold Uo;rw[hl],by omega,?_⟩;rw[hl];by_cases h0:n=0
 ·omega
 ·rcases h with h|⟨b,o,rfl,hb,h⟩
  ·omega
  ·refine .inr ⟨b,o+off*r.n,?_,hb,fun i y hy=> ?_⟩
   ·rw[ALT (by omega)]
    simp[Addr.add_eq]
   grind
def oq(E:Env)(Fs:List ABI)(c:Nat):Prop:=E.T c∨c∈Fs.flatten
section
variable{E:Env} {w:World} {vw bk:List Bx} {Fs:List ABI}
theorem NC.get(h:NC E w vw bk Fs){b:Nat}{B:Bx}(e:bk[b]? =some B):∃F,pR E w vw b B F∧ ∀c∈F,c∈Fs.flatten:=by
 have Jq:=(ALf.1 e).1;have hF:Fs[b]? =some (Fs[b]'(by rw[h.1];omega)):=ALR _;exact⟨_,h.2 b B _ e hF,fun c hc=>ARg.2 ⟨_,ANO hF,hc⟩⟩
theorem cP(hs:FI bk vw)(h:NC E w vw bk Fs)(st:∀c,E.S c→E.T c){b d:Nat}{r:Ty}{rows:List r.D}(e:bk[b]? =some (.sl d r rows))
  {p:List V_} (hp:DE r rows p) {q:Ty} {ys:List q.D} (hg:G5 r rows p=some ⟨q,ys⟩) {v:Value} (hh:Ir w (E.Hu b) p=some v):
  Rd w (oq E Fs) (.sl q) [v] ys:=by
 obtain⟨F,⟨_,ho⟩,hF⟩:=h.get e;obtain⟨h',k,hr⟩:=nD (XJ ho) hp hg;have:=k w (fun _ _=>rfl);rw[hh]at this;cases this;exact Fl (fun c hc=>hc.elim (fun hc=> .inl (st c hc)) (fun hc=> .inr (hF c hc))) (fun _ _=>rfl) hr
theorem X7(hs:FI bk vw){b d:Nat}{r:Ty}{rows:List r.D}(e:bk[b]? =some (.sl d r rows)):vw[b]? =some (.sl d r rows):=by
 rcases hs b _ e with h|h
 all_goals simp_all
theorem ZP(hs:FI bk vw)(h:NC E w vw bk Fs)(st:∀c,E.S c→E.T c){x:AV}{v:Value}(hv:VR E w vw x v){q:Ty}{ys:List q.D}(e:NA bk x=some ⟨q,ys⟩):
  Rd w (oq E Fs) (.sl q) [v] ys:=by
 cases x with
 |sl s r x=>
  simp only[NA,ALW,AMn]at e;obtain⟨rfl,e⟩:=e;obtain rfl:=AQ3 e;simp only[VR]at hv;refine Fl (fun c hc=> ?_) (fun _ _=>rfl) hv;cases s
  ·exact .inl (by simp_all)
  ·exact .inl (st c (by simp_all))
 |ref b p=>
  grind[NA,VR,X7,cP]
 |win b p off n=>
  simp only[NA]at e;split at e
  ·rename_i d r rows hb
   simp only[VR,X7 hs hb]at hv;obtain⟨_,hp,q',ui,a,len,cap,hg,hl,hh,rfl⟩:=hv;rw[hg]at e;simp only[AUI,ALW,AMn]at e;obtain⟨rfl,e⟩:=e;obtain rfl:=AQ3 e;grind[xc,cP]
  simp_all
 |_=>simp[NA]at e
theorem T_(hs:FI bk vw)(h:NC E w vw bk Fs)(st:∀c,E.S c→E.T c){t:Ty}{x:AV}{v:Value}(hv:VR E w vw x v){y:t.D}(e:Ma bk t x=some y):
  Rd w (oq E Fs) t [v] y:=by
 have sl:∀(r:Ty) (x:AV) (v:Value) (y:List r.D),VR E w vw x v→((NA bk x).bind fun q=>QR (β:=fun r=>List r.D) q.1 r q.2)=some y→Rd w (oq E Fs) (.sl r) [v] y:=by
  grind[Option.bind_eq_some_iff,H3,ZP]
 cases x with
 |v u z=>
  simp only[Ma]at e;obtain⟨e1,e2⟩:=H3 e;subst e1;subst e2;exact Fl (fun _ hc=>hc.elim) (fun _ hc=>hc.elim) hv.2
 |nil=>
  cases t with
  |sl r=>
   simp only[Ma,ALW]at e;subst e;simp only[VR]at hv;subst hv;simp only[Rd];simp_all
  |_=>simp[Ma]at e
 |_=>
  cases t with
  |sl r=>exact sl r _ _ y hv (by simpa only[Ma]using e)
  |_=>simp[Ma]at e
theorem fc(hs:FI bk vw)(h:NC E w vw bk Fs)(st:∀c,E.S c→E.T c):∀{r:Ty} {l:List AV} {vs:List Value} {x:r.D},gi E w vw l vs→H9 bk r l=some x→
  Rd w (oq E Fs) r vs x
 | .unit,[],[],x,_,_=>by rfl
 | .cons c r,a::l,v::vs,x,hv,e=>by
  simp only[H9,ALt,ALe]at e;obtain⟨y,e1,z,e2,rfl⟩:=e;simp only[Rd];exact⟨v,vs,rfl,T_ hs h st hv.1 e1,fc hs h st hv.2 e2⟩
 | .unit,_::_,_,_,_,e=>by simp[H9]at e
 | .unit,[],_::_,_,hv,_=>hv.elim
 | .cons _ _,[],_,_,_,e=>by simp[H9]at e
 | .cons _ _,_::_,[],_,hv,_=>hv.elim
 | .int _,_,_,_,_,e=>by simp[H9]at e
 | .bool,_,_,_,_,e=>by simp[H9]at e
 | .str,_,_,_,_,e=>by simp[H9]at e
 | .sl _,_,_,_,_,e=>by simp[H9]at e
theorem jK{E1:Env}{xL:List Bx}(hs:FI bk vw)(h:NC E w vw bk Fs)(st:∀c,E.S c→E.T c)(hT:∀c,oq E Fs c→E1.T c):
  ∀{r:Ty} {l:List AV} {vs:List Value} {x:r.D},gi E w vw l vs→H9 bk r l=some x→gi E1 w xL (pY r x) vs
 | .unit,[],[],x,_,_=>trivial
 | .cons c r,a::l,v::vs,x,hv,e=>by
  simp only[H9,ALt,ALe]at e;obtain⟨y,e1,z,e2,rfl⟩:=e;have Yv:=T_ hs h st hv.1 e1;have tl:gi E1 w xL _ _:=jK hs h st hT hv.2 e2;cases c with
  |sl q=>
   refine⟨?_,tl⟩;simp only[VR];exact Fl hT (fun _ _=>rfl) (by omega)
  |int k=>exact⟨⟨rfl,by grind[Rd]⟩,tl⟩
  |bool=>exact⟨⟨rfl,by grind[Rd]⟩,tl⟩
  |str=>exact⟨⟨rfl,by grind[Rd]⟩,tl⟩
  |unit=>
   grind[Rd]
  |cons c' r' =>
   exfalso
   cases a with
   |v u z=>
    simp only[Ma]at e1;obtain⟨e3,_⟩:=H3 e1;subst e3;exact absurd hv.1.1 (by simp[Ty.scalar])
   |_=>simp[Ma]at e1
 | .unit,_::_,_,_,_,e=>by simp[H9]at e
 | .unit,[],_::_,_,hv,_=>hv.elim
 | .cons _ _,[],_,_,_,e=>by simp[H9]at e
 | .cons _ _,_::_,[],_,hv,_=>hv.elim
 | .int _,_,_,_,_,e=>by simp[H9]at e
 | .bool,_,_,_,_,e=>by simp[H9]at e
 | .str,_,_,_,_,e=>by simp[H9]at e
 | .sl _,_,_,_,_,e=>by simp[H9]at e
end
end Go.Fw
end
section
namespace Go.Fw
def Ext(m m':PD):Prop:=m'.length=m.length∧ ∀(i b:Nat),m[i]? =some (some b)→m'[i]? =some (some b)
theorem Ext.refl(m:PD):Ext m m:=⟨rfl,fun _ _ h=>h⟩
theorem Ext.trans{m m' m'':PD}(h:Ext m m')(k:Ext m' m''):Ext m m'':=⟨k.1.trans h.1,fun i b e=>k.2 i b (h.2 i b e)⟩
def oL(m:PD):Prop:= ∀(i j b:Nat),m[i]? =some (some b)→m[j]? =some (some b)→i=j
theorem dM{m m':PD}{i b:Nat}(e:m.put i b=some m'):Ext m m'∧m'[i]? =some (some b)∧(oL m→oL m'):=by
 unfold PD.put at e;split at e
 ·rename_i h
  split at e
  ·cases e
  ·rename_i hc
   cases e;have Jq:=(ALf.1 h).1;have ATL:∀(k:Nat),m[k]?≠some (some b):=fun k hk=>hc (by
    grind)
   refine⟨⟨by simp,fun k c hk=> ?_⟩,by simp[Jq],fun hi j k c hj hk=> ?_⟩
   ·grind
   ·by_cases e1:j=i<;>by_cases e2:k=i
    ·omega
    ·grind
    ·grind
    ·rw[AR8 (by omega)]at hj hk
     exact hi j k c hj hk
 all_goals grind[Ext.refl]
def Re(m:PD):List Nat→List Nat→Prop
 |[],[]=>True
 |i::is,b::bs=>m[i]? =some (some b)∧Re m is bs
 |_,_=>False
theorem Re.ext{m m':PD}(h:Ext m m'):∀{is bs},Re m is bs→Re m' is bs
 |[],[],_=>trivial
 |_::_,_::_,k=>⟨h.2 _ _ k.1,Re.ext h k.2⟩
theorem iz:∀{is bs:ABI} {m m':PD},aL m is bs=some m'→Ext m m'∧Re m' is bs∧(oL m→oL m')
 |[],[],m,m',e=>by simp only[aL,ALW]at e;subst e;exact⟨Ext.refl _,trivial,fun h=>h⟩
 |i::is,b::bs,m,m',e=>by
  simp only[aL,ALt]at e;obtain⟨m1,e1,e2⟩:=e;obtain⟨a1,a2,a3⟩:=dM e1;obtain⟨b1,b2,b3⟩:=iz e2;exact⟨a1.trans b1,⟨b1.2 _ _ a2,b2⟩,fun h=>b3 (a3 h)⟩
 |[],_::_,_,_,e=>by simp[aL]at e
 |_::_,[],_,_,e=>by simp[aL]at e
def RX(N:Nat)(m:PD):AP→AV→Prop
 | .ref i,x=> ∃b,(x= .ref b []∨(x= .nil∧b=N+i))∧m[i]? =some (some b)
 | .ptr i j,x=> ∃b,x= .IG b j∧m[i]? =some (some b)
 | .fn f KM,x=> ∃bs,x= .fn f bs∧Re m KM bs
 | .nil,x=>x= .nil
 | .jb i sz,x=> ∃b k j,x= .ref b [⟨k,sz,j⟩]∧m[i]? =some (some b)
 |_,_=>True
theorem RX.ext{N:Nat}{m m':PD}(h:Ext m m'){p:AP}{x:AV}(k:RX N m p x):RX N m' p x:=by
 cases p with
 |ref i=>obtain⟨b,hx,k⟩:=k;exact⟨b,hx,h.2 _ _ k⟩
 |ptr i j=>obtain⟨b,rfl,k⟩:=k;exact⟨b,rfl,h.2 _ _ k⟩
 |fn f KM=>obtain⟨bs,rfl,k⟩:=k;exact⟨bs,rfl,k.ext h⟩
 |nil=>exact k
 |jb i sz=>obtain⟨b,q,j,rfl,k⟩:=k;exact⟨b,q,j,rfl,h.2 _ _ k⟩
 |_=>trivial
theorem cQ{N:Nat}{m m':PD}{p:AP}{x:AV}(e:p.Na N m x=some m'):Ext m m'∧RX N m' p x∧(oL m→oL m'):=by
 cases p with
 |ref i=>
  cases x with
  |ref b q=>
   cases q with
   |nil=>
    obtain⟨a,b,c⟩:=dM (by simpa only[AP.Na]using e);exact⟨a,⟨_,.inl rfl,b⟩,c⟩
   |cons _ _=>simp[AP.Na]at e
  |nil=>
   obtain⟨a,b,c⟩:=dM (by simpa only[AP.Na]using e);exact⟨a,⟨_,.inr ⟨rfl,rfl⟩,b⟩,c⟩
  |_=>simp[AP.Na]at e
 |ptr i j=>
  cases x with
  |IG b j' =>
   simp only[AP.Na]at e;split at e
   ·rename_i hj
    subst hj;obtain⟨a,b,c⟩:=dM e;exact⟨a,⟨_,rfl,b⟩,c⟩
   simp_all
  |_=>simp[AP.Na]at e
 |fn f KM=>
  cases x with
  |fn g bs=>
   simp only[AP.Na]at e;split at e
   ·rename_i hf
    subst hf;obtain⟨a,b,c⟩:=iz e;exact⟨a,⟨_,rfl,b⟩,c⟩
   simp_all
  |_=>simp[AP.Na]at e
 |nil=>
  cases x with
  |nil=>simp only[AP.Na,ALW]at e;subst e;exact⟨Ext.refl _,rfl,fun h=>h⟩
  |_=>simp[AP.Na]at e
 |jb i sz=>
  cases x with
  |ref b q=>
   cases q with
   |nil=>simp[AP.Na]at e
   |cons s q=>
    cases q with
    |nil=>
     simp only[AP.Na]at e;split at e
     ·rename_i hs
      obtain⟨a,b,c⟩:=dM e;obtain⟨k,z,y⟩:=s;dsimp only at hs;subst hs;exact⟨a,⟨_,k,y,rfl,b⟩,c⟩
     simp_all
    |cons _ _=>simp[AP.Na]at e
  |_=>simp[AP.Na]at e
 |_=>
  have:m=m':=by grind[AP.Na]
  subst this;exact⟨Ext.refl _,trivial,fun h=>h⟩
theorem Vq{N:Nat}:∀{l:List AP} {xs:List AV} {m m':PD},XW.Na N m l xs=some m'→Ext m m'∧Cb (RX N m') l xs∧(oL m→oL m')
 |[],[],m,m',e=>by simp only[XW.Na,ALW]at e;subst e;exact⟨Ext.refl _,trivial,fun h=>h⟩
 |p::l,x::xs,m,m',e=>by
  simp only[XW.Na,ALt]at e;obtain⟨m1,e1,e2⟩:=e;obtain⟨a1,a2,a3⟩:=cQ e1;obtain⟨b1,b2,b3⟩:=Vq e2;exact⟨a1.trans b1,⟨a2.ext b1,b2⟩,fun h=>b3 (a3 h)⟩
 |[],_::_,_,_,e=>by simp[XW.Na]at e
 |_::_,[],_,_,e=>by simp[XW.Na]at e
def fS(N:Nat)(m:PD):AP ⊕ List AP→AV ⊕ List AV→Prop
 | .inl p,.inl x=>RX N m p x
 | .inr p,.inr x=>Cb (RX N m) p x
 |_,_=>False
theorem fS.ext{N:Nat}{m m':PD}(h:Ext m m'):∀{p:AP ⊕ List AP} {x:AV ⊕ List AV},fS N m p x→fS N m' p x
 | .inl _,.inl _,k=>RX.ext h k
 | .inr _,.inr _,k=>Cb.imp (fun _ _ k=>RX.ext h k) k
theorem aj{N:Nat}:∀{l:List (AP ⊕ List AP)} {xs:List (AV ⊕ List AV)} {m m':PD},Xq.Na N m l xs=some m'→Ext m m'∧Cb (fS N m') l xs∧(oL m→oL m')
 |[],[],m,m',e=>by simp only[Xq.Na,ALW]at e;subst e;exact⟨Ext.refl _,trivial,fun h=>h⟩
 | .inl p::l,.inl x::xs,m,m',e=>by
  simp only[Xq.Na,ALt]at e;obtain⟨m1,e1,e2⟩:=e;obtain⟨a1,a2,a3⟩:=cQ e1;obtain⟨b1,b2,b3⟩:=aj e2;exact⟨a1.trans b1,⟨RX.ext b1 a2,b2⟩,fun h=>b3 (a3 h)⟩
 | .inr p::l,.inr x::xs,m,m',e=>by
  simp only[Xq.Na,ALt]at e;obtain⟨m1,e1,e2⟩:=e;obtain⟨a1,a2,a3⟩:=Vq e1;obtain⟨b1,b2,b3⟩:=aj e2;exact⟨a1.trans b1,⟨Cb.imp (fun _ _ k=>RX.ext b1 k) a2,b2⟩,fun h=>b3 (a3 h)⟩
 |[],_::_,_,_,e=>by simp[Xq.Na]at e
 | .inl _::_,[],_,_,e=>by simp[Xq.Na]at e
 | .inr _::_,[],_,_,e=>by simp[Xq.Na]at e
 | .inl _::_,.inr _::_,_,_,e=>by simp[Xq.Na]at e
 | .inr _::_,.inl _::_,_,_,e=>by simp[Xq.Na]at e
def aG(N:Nat)(m:PD):XP→XV→Prop
 | .c p,.c x=>RX N m p x
 | .agg l,.agg xs=>Cb (RX N m) l xs
 | .row _,.agg _=>True
 | .Mh l,.Mh xs=>Cb (fS N m) l xs
 |_,_=>False
theorem aG.ext{N:Nat}{m m':PD}(h:Ext m m'):∀{p:XP} {x:XV},aG N m p x→aG N m' p x
 | .c _,.c _,k=>RX.ext h k
 | .agg _,.agg _,k=>Cb.imp (fun _ _ k=>RX.ext h k) k
 | .row _,.agg _,_=>trivial
 | .Mh _,.Mh _,k=>Cb.imp (fun _ _ k=>fS.ext h k) k
theorem xE{N:Nat}{m m':PD}:∀{p:XP} {x:XV},p.Na N m x=some m'→Ext m m'∧aG N m' p x∧(oL m→oL m')
 | .c p,.c x,e=>cQ (by grind[XP.Na])
 | .agg l,.agg xs,e=>Vq (by grind[XP.Na])
 | .row r,.agg xs,e=>by simp only[XP.Na,ALW]at e;subst e;exact⟨Ext.refl _,trivial,fun h=>h⟩
 | .Mh l,.Mh xs,e=>aj (by grind[XP.Na])
 | .c _,.agg _,e=>by simp[XP.Na]at e
 | .c _,.Mh _,e=>by simp[XP.Na]at e
 | .agg _,.c _,e=>by simp[XP.Na]at e
 | .agg _,.Mh _,e=>by simp[XP.Na]at e
 | .row _,.c _,e=>by simp[XP.Na]at e
 | .row _,.Mh _,e=>by simp[XP.Na]at e
 | .Mh _,.c _,e=>by simp[XP.Na]at e
 | .Mh _,.agg _,e=>by simp[XP.Na]at e
theorem ct{N:Nat}{tm:List XV}:∀{l:List (Nat×XP)} {m m':PD},Gx.Na N tm m l=some m'→
  Ext m m'∧(∀q∈l,∃x,tm[q.1]? =some x∧aG N m' q.2 x)∧(oL m→oL m')
 |[],m,m',e=>by grind[Gx.Na,Option.some.injEq,Ext.refl]
 |(i,p)::l,m,m',e=>by
  simp only[Gx.Na]at e;split at e
  ·rename_i x hx
   simp only[ALt]at e;obtain⟨m1,e1,e2⟩:=e;obtain⟨a1,a2,a3⟩:=xE e1;obtain⟨b1,b2,b3⟩:=ct e2;refine⟨a1.trans b1,?_,fun h=>b3 (a3 h)⟩;intro q hq;rcases AO3.1 hq with rfl|hq
   all_goals grind[aG.ext]
  simp_all
theorem Vc{N:Nat}{bx:List Bx}:∀{l:List BP} {i:Nat} {m m':PD},Jj.Na N bx i m l=some m'→
  Ext m m'∧(∀(k:Nat) q,l[k]? =some (.mem q)→ ∃b cs,m'[i+k]? =some (some b)∧bx[b]? =some (.mem cs)∧Cb (RX N m') q cs)∧
   (∀(k:Nat) d r,l[k]? =some (.sl d r)→ ∃b,m'[i+k]? =some (some b))∧(oL m→oL m')
 |[],i,m,m',e=>by grind[Jj.Na,Option.some.injEq,Ext.refl]
 | .mem q::l,i,m,m',e=>by
  simp only[Jj.Na]at e;split at e
  ·rename_i b hb
   split at e
   ·rename_i cs vB
    simp only[ALt]at e;obtain⟨m1,e1,e2⟩:=e;obtain⟨a1,a2,a3⟩:=Vq e1;obtain⟨b1,b2,b4,b3⟩:=Vc e2;refine⟨a1.trans b1,?_,?_,fun h=>b3 (a3 h)⟩
    ·intro k q' hk
     cases k with
     |zero=>cases hk;exact⟨b,cs,b1.2 _ _ (a1.2 _ _ hb),vB,Cb.imp (fun _ _ k=>RX.ext b1 k) a2⟩
     |succ k=>
      grind
    grind
   simp_all
  simp_all
 | .sl d r::l,i,m,m',e=>by
  simp only[Jj.Na]at e;split at e
  ·rename_i b hb
   obtain⟨b1,b2,b4,b3⟩:=Vc e;refine⟨b1,?_,?_,b3⟩
   ·grind
   ·intro k d r hk
    cases k with
    |zero=>exact⟨b,b1.2 _ _ hb⟩
    |succ k=>
     grind
  simp_all
 | .gone::l,i,m,m',e=>by
  simp only[Jj.Na]at e;obtain⟨b1,b2,b4,b3⟩:=Vc e;grind
theorem SN{bx bk:List Bx}{I_:Nat→Nat}:∀{l:List BP} {m:PD} {x:Jj.V l},Jj.get bx bk m l=some x→(Jj.mk I_ l x).length=l.length∧
  ∀(k:Nat) p,l[k]? =some p→ ∃y:p.V,(Jj.mk I_ l x)[k]? =some (p.mk I_ y)∧
   match p,y with
   | .mem q,y=> ∃b cs,m[k]? =some (some b)∧bx[b]? =some (.mem cs)∧XW.get bk q cs=some y
   | .sl d r,y=> ∃b d',m[k]? =some (some b)∧bx[b]? =some (.sl d' r y)∧1≤d∧d≤d'
   | .gone,_=>True
 |[],m,x,e=>⟨rfl,by simp⟩
 | .mem q::l,some b::m,x,e=>by
  simp only[Jj.get]at e;split at e
  ·rename_i cs vB
   simp only[ALt,ALe]at e;obtain⟨a,e1,c,e2,rfl⟩:=e;obtain⟨h1,h2⟩:=SN (I_:=I_) e2;refine⟨by simp[Jj.mk,h1],fun k p hk=> ?_⟩;cases k with
   |zero=>cases hk;exact⟨a,rfl,b,cs,rfl,vB,e1⟩
   |succ k=>
    grind[Jj.mk]
  simp_all
 | .sl d r::l,some b::m,x,e=>by
  simp only[Jj.get]at e;split at e
  ·rename_i d' q rows hb
   split at e
   ·rename_i hd
    simp only[ALt,ALe]at e;obtain⟨a,e1,c,e2,rfl⟩:=e;obtain⟨e3,e4⟩:=H3 e1;subst e3;subst e4;obtain⟨h1,h2⟩:=SN (I_:=I_) e2;refine⟨by simp[Jj.mk,h1],fun k p hk=> ?_⟩;cases k with
    |zero=>cases hk;exact⟨rows,rfl,b,d',rfl,hb,hd.1,hd.2⟩
    |succ k=>
     grind[Jj.mk]
   simp_all
  simp_all
 | .gone::l,o::m,x,e=>by
  have e':(Jj.get bx bk m l).map (fun c=>((),c))=some x:=by grind[Jj.get]
  simp only[ALe]at e';obtain⟨c,e2,rfl⟩:=e';obtain⟨h1,h2⟩:=SN (I_:=I_) e2;refine⟨by simp[Jj.mk,h1],fun k p hk=> ?_⟩;cases k with
  |zero=>cases hk;exact⟨(),rfl,trivial⟩
  |succ k=>
   grind[Jj.mk]
 | .mem q::l,none::m,x,e=>by simp[Jj.get]at e
 | .sl d r::l,none::m,x,e=>by simp[Jj.get]at e
 | .mem _::_,[],x,e=>by simp[Jj.get]at e
 | .sl _ _::_,[],x,e=>by simp[Jj.get]at e
 | .gone::_,[],x,e=>by simp[Jj.get]at e
theorem KJ:∀{m:PD} {bx:List Bx},(Cz bx m).length=bx.length
 |[],_=>rfl
 |some b::m,bx=>by simp[Cz,KJ]
 |none::m,bx=>by simp[Cz,KJ]
theorem R0:∀{m:PD} {bx vw:List Bx},FI bx vw→FI (Cz bx m) vw
 |[],_,_,h=>h
 |none::m,bx,vw,h=>by simp only[Cz];exact R0 h
 |some b::m,bx,vw,h=>by
  simp only[Cz];refine R0 fun k B hk=> ?_
  by_cases e:k=b
  ·grind
  ·rw[AR8 (by omega)]at hk
   exact h k B hk
theorem V0:∀{m:PD} {bx:List Bx} {b:Nat} {B:Bx},some b∈m→(Cz bx m)[b]? =some B→B= .dead
 |some c::m,bx,b,B,h,e=>by
  simp only[Cz]at e;by_cases hm:some b∈m
  ·exact V0 hm e
  ·have:c=b:=by
    simp_all
   subst this;have:∀{m:PD} {bx:List Bx},bx[c]? =some .dead→some c∉m→(Cz bx m)[c]? =some .dead:=by
    intro m
    induction m with
    |nil=>intro bx h _;exact h
    |cons o m ih=>
     intro bx h hn;cases o with
     |none=>grind[Cz,List.mem_cons_of_mem]
     |some d=>
      grind[Cz,List.mem_cons_of_mem,List.getElem?_set_ne]
   grind[List.getElem?_eq_some_iff,KJ]
 |none::m,bx,b,B,h,e=>by
  simp only[Cz]at e;exact V0 (by simp_all) e
theorem mw{E:Env}{w:World}{vw:List Bx}:∀{m:PD} {bx:List Bx} {G:ABI},oL m→C_ E w vw bx G→
  ∃Gs:List ABI,Gs.length=m.length∧(∀(k b:Nat) B F,m[k]? =some (some b)→bx[b]? =some B→Gs[k]? =some F→pR E w vw b B F)∧
   C_ E w vw (Cz bx m) (Gs.flatten++G)
 |[],bx,G,_,h=>⟨[],rfl,by simp,h⟩
 |none::m,bx,G,hi,h=>by
  obtain⟨Gs,h1,h2,h3⟩:=mw (m:=m) (fun i j b De hj=>by
   have:=hi (i+1) (j+1) b (by simp_all) (by simp_all);omega) h
  refine⟨[]::Gs,by simp[h1],fun k b B F hk hB hF=> ?_,by grind[Cz]⟩;grind
 |some b::m,bx,G,hi,h=>by
  have AKD:oL m:=fun i j b De hj=>by
   have:=hi (i+1) (j+1) b (by simp_all) (by simp_all);omega
  cases e:bx[b]? with
  |none=>
   have Wb:bx.set b .dead=bx:=List.set_eq_of_length_le (by simp_all);obtain⟨Gs,h1,h2,h3⟩:=mw (m:=m) AKD h;refine⟨[]::Gs,by simp[h1],fun k b' B F hk hB hF=> ?_,by grind[Cz]⟩;grind
  |some B0=>
   obtain⟨F0,k1,k2⟩:=h.take e;obtain⟨Gs,h1,h2,h3⟩:=mw (m:=m) AKD k2;refine⟨F0::Gs,by simp[h1],fun k b' B F hk hB hF=> ?_,?_⟩
   ·cases k with
    |zero=>
     simp_all
    |succ k=>
     have bM:b'≠b:=fun hh=>by
      have:=hi 0 (k+1) b (by simp) (by simp_all);omega
     grind
   ·simp only[Cz]
    refine h3.perm ?_
    grind
end Go.Fw
end
section
namespace Go.Fw
theorem o0{R:Nat→List Nat→List Nat→List Nat→Prop}:∀(Gs:List ABI) (o:Nat),(∀(k:Nat) G,Gs[k]? =some G→ ∃F W,G.Perm (F++W)∧R (o+k) G F W)→
  ∃Fs Ws:List ABI,Fs.length=Gs.length∧Ws.length=Gs.length∧Gs.flatten.Perm (Fs.flatten++Ws.flatten)∧
   ∀(k:Nat) G F W,Gs[k]? =some G→Fs[k]? =some F→Ws[k]? =some W→R (o+k) G F W
 |[],o,_=>⟨[],[],rfl,rfl,by simp,by simp⟩
 |G::Gs,o,h=>by
  obtain⟨F,W,hp,hr⟩:=h 0 G rfl;obtain⟨Fs,Ws,h1,h2,h3,h4⟩:=o0 Gs (o+1) (fun k G hk=>by
   have:=h (k+1) G (by simp_all)
   rwa [show o+1+k=o+(k+1)by omega])
  refine⟨F::Fs,W::Ws,by simp[h1],by simp[h2],?_,fun k G' F' W' hG hF hW=> ?_⟩
  all_goals grind
def N7(E:Env)(w:World)(vw:List Bx)(I_:Nat→Nat):(l:List (Nat×XP))→Gx.V l→List Value→Prop
 |[],_,_=>True
 |(i,p)::l,x,vals=>(∃v,vals[i]? =some v∧XR E w vw (p.mk I_ x.1) v)∧N7 E w vw I_ l x.2 vals
section
variable{E E1:Env} {w:World} {bx bk xL:List Bx} {Fk:List ABI} {m:PD}
theorem Re.map{f:Nat→Nat}(h:∀(i b:Nat),m[i]? =some (some b)→E1.Ht i=E.Ht b):∀{is bs:ABI},Re m is bs→
  (is.map fun b=>Value.pointer (some ⟨E1.Ht b,0,none⟩))=bs.map fun b=>Value.pointer (some ⟨E.Ht b,0,none⟩)
 |[],[],_=>rfl
 |i::is,b::bs,k=>by simp[h i b k.1,Re.map (f:=f) h k.2]
theorem Re.lt:∀{is bs:ABI},Re m is bs→ ∀i∈is,i<m.length
 |[],[],_,_,h=>by simp at h
 |i::is,b::bs,k,j,h=>by
  rcases AO3.1 h with rfl|h
  ·exact(ALf.1 k.1).1
  ·exact Re.lt k.2 j h
structure ADa (N:Nat) (E:Env) (w:World) (bx bk:List Bx) (Fk:List ABI) (m:PD) (E1:Env) (xL:List Bx):Prop where
 within:FI bk bx
 boxes:NC E w bx bk Fk
 st:∀c,E.S c→E.T c
 T:∀c,oq E Fk c→E1.T c
 S:∀c,E.S c→E1.S c
 ids:∀(i b:Nat),m[i]? =some (some b)→E1.Ht i=E.Ht b∧E1.Hu i=E.Hu b
 len:m.length≤xL.length
 nil:∀(i:Nat) d r rows,xL[i]? =some (.sl d r rows)→E.Hu (N+i)= .slice none 0 0
 sl:∀(i:Nat) d r rows,i<m.length→xL[i]? =some (.sl d r rows)→ ∃b d',m[i]? =some (some b)∧bx[b]? =some (.sl d' r rows)
variable{N:Nat} (k:ADa N E w bx bk Fk m E1 xL)
include k
theorem yF{p:AP}{x:AV}{v:Value}(hv:VR E w bx x v)(ha:RX N m p x){y:p.V}(e:p.get bk x=some y):VR E1 w xL (p.mk id y) v:=by
 cases p with
 |v t=>
  simp only[AP.get]at e;split at e
  ·rename_i hs
   have hr:=T_ k.within k.boxes k.st hv e;refine⟨hs,?_⟩;cases t with
   |int _=>grind[Rd]
   |bool=>grind[Rd]
   |str=>grind[Rd]
   |_=>simp[Ty.scalar]at hs
  simp_all
 |sl s r=>
  cases s with
  |false=>
   simp only[AP.get]at e;have hr:=T_ k.within k.boxes k.st hv e;simp only[AP.mk,VR];exact Fl k.T (fun _ _=>rfl) (by omega)
  |true=>
   simp only[AP.get]at e;split at e
   ·rename_i q z
    obtain⟨e1,e2⟩:=H3 e;subst e1;subst e2;simp only[AP.mk,VR]at hv⊢;exact Fl k.S (fun _ _=>rfl) (by simp_all)
   ·cases e
    simp only[AP.mk,VR]at hv⊢;subst hv;simp only[Rd];simp_all
   simp_all
 |nil=>
  obtain rfl:=ha;exact hv
 |ref i=>
  obtain⟨b,hx,hm⟩:=ha;have hi:=(ALf.1 hm).1;simp only[AP.mk,id,VR];rcases hx with rfl|⟨rfl,rfl⟩
  ·have zb:=hv.1
   refine⟨zb,?_⟩;cases e1:xL[i]? with
   |none=>simp at e1;have:=k.len;omega
   |some B=>
    cases B with
    |sl d r rows=>
     obtain⟨b',d',h1,h2⟩:=k.sl i d r rows hi e1;rw[hm]at h1;cases h1;simp only[VR,h2]at hv
     replace hv:=hv.2
     refine⟨by simp[DE],⟨_,rfl⟩,?_⟩;rw[(k.ids i b hm).2];simp_all
    |_=>trivial
  ·have Xi:v= .slice none 0 0:=hv
   subst Xi;refine⟨rfl,?_⟩;cases e1:xL[i]? with
   |none=>simp at e1;have:=k.len;omega
   |some B=>
    cases B with
    |sl d r rows=>
     refine⟨by simp[DE],⟨_,rfl⟩,?_⟩;rw[(k.ids i _ hm).2,k.nil i d r rows e1,DB]
    |_=>trivial
 |ptr i j=>
  obtain⟨b,rfl,hm⟩:=ha;have hi:=(ALf.1 hm).1;exact⟨ASh hi k.len,by rw[hv.2,id,(k.ids i b hm).1]⟩
 |mb r=>
  simp only[AP.get]at e;split at e
  ·rename_i s q z
   obtain⟨e1,e2⟩:=H3 e;subst e1;subst e2;simp only[AP.mk,VR]at hv⊢;obtain⟨bb,o,cs,h1,h2,h3,h4,h5⟩:=hv;have AB4:∀c,(if s=true then E.S else E.T) c→E1.T c:=by
    intro c hc;cases s
    ·exact k.T c (.inl (by simp_all))
    ·exact k.T c (.inl (k.st c (by simp_all)))
   exact⟨bb,o,cs,h1,by simp_all,h3,h4,by simpa using Fl AB4 (fun _ _=>rfl) h5⟩
  ·rename_i b
   split at e
   ·rename_i cs hb
    obtain⟨F,⟨hF,arr,ty,fr,ha,hu,VI⟩,O9⟩:=k.boxes.get hb;have Yv:=fc k.within k.boxes k.st VI e;simp only[AP.mk,VR];refine⟨E.Ht b,0,arr.toList,by simpa using hv.2,?_,kU Yv,?_,by simpa using Fl k.T (fun _ _=>rfl) Yv⟩
    ·simp only[ALr,AOV]
     exact k.T _ (.inr (O9 _ (by simp_all)))
    ·intro j u hj
     simp only[ASz,World.cell?,ha,ASr,ALr,AOV];simp_all
   simp_all
  ·rename_i b p i sz
   split at e
   ·rename_i d q rows hb
    simp only[ALt]at e;obtain⟨⟨q',ys⟩,e1,e2⟩:=e;split at e2
    case isFalse=>cases e2
    rename_i O_;obtain⟨e3,e4⟩:=H3 e2;dsimp only at e3;subst e3;subst e4;simp only[VR,X7 k.within hb]at hv;obtain⟨_,hp,q1,ys1,bb,o,len,cap,hg,hi,hh,rfl⟩:=hv;rw[hg]at e1;simp only[ALW,AMn]at e1;obtain⟨e5,e6⟩:=e1;subst e5;obtain rfl:=AQ3 e6;have Yv:=cP k.within k.boxes k.st hb hp hg hh;simp only[Rd]at Yv;obtain⟨a',cap',ee,_,Yv⟩:=Yv;simp only[AQN,Value.slice.injEq,ASn]at ee;obtain⟨rfl,rfl,rfl⟩:=ee;rcases Yv with Yv|⟨b1,o1,e7,hb1,Yv⟩
    ·omega
    ·cases e7
     obtain⟨cs,c1,c2,c3⟩:=Yv i _ (Q3 hi);simp only[AP.mk,VR];refine⟨bb,o+i*q1.n,cs,by rw[O_],by simpa using k.T _ hb1,c1,c2,by simpa using Fl k.T (fun _ _=>rfl) c3⟩
   simp_all
  simp_all
 |fn f KM=>
  obtain⟨bs,rfl,hc⟩:=ha;refine⟨fun i hi=>ASh (hc.lt i (by simp_all)) k.len,?_⟩;rw[hv.2];simp only[AP.mk,List.map_id];rw[Re.map (f:=id) (fun i b h=>(k.ids i b h).1) hc]
 |qP f rs=>
  simp only[AP.get]at e;split at e
  ·rename_i g rows
   split at e
   case isFalse=>cases e
   rename_i hfg;subst hfg;obtain⟨ps,bV,Zv⟩:=hv;refine⟨ps,bV,?_⟩;clear ha bV
   induction rs generalizing rows ps with
   |nil=>
    cases rows with
    |nil=>
     cases ps with
     |nil=>trivial
     |cons _ _=>exact Zv.elim
    |cons _ _=>simp[Yz.nf]at e
   |cons r rs ih=>
    cases rows with
    |nil=>simp[Yz.nf]at e
    |cons q rows=>
     cases ps with
     |nil=>exact Zv.elim
     |cons p ps=>
      simp only[Yz.nf,ALt,ALe]at e;obtain⟨x1,e1,x2,e2,rfl⟩:=e;obtain⟨q1,q2⟩:=q;obtain⟨e3,e4⟩:=H3 e1;dsimp only at e3;subst e3;subst e4;obtain⟨⟨bb,o,cs,h1,h2,h3,h4,h5⟩,Zv⟩:=Zv;exact⟨⟨bb,o,cs,h1,k.T bb (.inl h2),h3,h4,Fl (fun b hb=>k.T b (.inl hb)) (fun _ _=>rfl) h5⟩,ih rows e2 ps Zv⟩
  ·rename_i g bs
   split at e
   case isFalse=>cases e
   rename_i hfg;subst hfg;obtain⟨bV,Zv⟩:=hv;refine⟨bs.map fun b=>Value.pointer (some ⟨E.Ht b,0,none⟩),Zv,?_⟩;clear ha bV Zv
   induction rs generalizing bs with
   |nil=>
    cases bs with
    |nil=>trivial
    |cons _ _=>simp[Yz.p8]at e
   |cons r rs ih=>
    cases bs with
    |nil=>simp[Yz.p8]at e
    |cons b bs=>
     simp only[Yz.p8,ALt,ALe]at e;obtain⟨x1,e1,x2,e2,rfl⟩:=e;split at e1
     case h_2=>cases e1
     rename_i cs hb;obtain⟨F,⟨hF,arr,ty,fr,ha,hu,VI⟩,O9⟩:=k.boxes.get hb;have Yv:=fc k.within k.boxes k.st VI e1;refine⟨⟨E.Ht b,0,arr.toList,rfl,k.T _ (.inr (O9 _ (by simp_all))),kU Yv,?_,Fl k.T (fun _ _=>rfl) Yv⟩,ih bs e2⟩;intro j u hj;simp only[ASz,World.cell?,ha,ASr,ALr,AOV];simp_all
  simp_all
 |any=>trivial
 |jb i sz=>
  obtain⟨b,q,j,rfl,hm⟩:=ha;have hi:=(ALf.1 hm).1;simp only[AP.get,ALW]at e;subst e;simp only[AP.mk,id,VR];have zb:=hv.1;refine⟨zb,?_⟩;cases e1:xL[i]? with
  |none=>simp at e1;have:=k.len;omega
  |some B=>
   cases B with
   |sl d r rows=>
    obtain⟨b',d',h1,h2⟩:=k.sl i d r rows hi e1;rw[hm]at h1;cases h1;simp only[VR,h2]at hv
    replace hv:=hv.2
    refine⟨hv.1,hv.2.1,?_⟩;rw[(k.ids i b hm).2];simp_all
   |_=>trivial
theorem nA:∀{l:List AP} {xs:List AV} {vs:List Value},gi E w bx xs vs→Cb (RX N m) l xs→ ∀{y:XW.V l},XW.get bk l xs=some y→gi E1 w xL (XW.mk id l y) vs
 |[],[],[],_,_,_,_=>trivial
 |p::l,x::xs,v::vs,hv,ha,y,e=>by
  simp only[XW.get,ALt,ALe]at e;obtain⟨a,e1,b,e2,rfl⟩:=e;exact⟨yF k hv.1 ha.1 e1,nA hv.2 ha.2 e2⟩
 |[],[],_::_,hv,_,_,_=>hv.elim
 |_::_,_::_,[],hv,_,_,_=>hv.elim
 |[],_::_,_,_,ha,_,_=>ha.elim
 |_::_,[],_,_,ha,_,_=>ha.elim
theorem uH:∀{l:List (AP ⊕ List AP)} {xs:List (AV ⊕ List AV)} {vs:List Value},Cb (TR E w bx) xs vs→Cb (fS N m) l xs→ ∀{y:Xq.V l},Xq.get bk l xs=some y→
  Cb (TR E1 w xL) (Xq.mk id l y) vs
 |[],[],[],_,_,_,_=>trivial
 | .inl p::l,.inl x::xs,v::vs,hv,ha,y,e=>by
  simp only[Xq.get,ALt,ALe]at e;obtain⟨a,e1,b,e2,rfl⟩:=e;exact⟨yF k hv.1 ha.1 e1,uH hv.2 ha.2 e2⟩
 | .inr p::l,.inr x::xs,v::vs,hv,ha,y,e=>by
  simp only[Xq.get,ALt,ALe]at e;obtain⟨a,e1,b,e2,rfl⟩:=e;obtain⟨⟨us,hu,hus⟩,h2⟩:=hv;exact⟨⟨us,hu,nA k hus ha.1 e1⟩,uH h2 ha.2 e2⟩
 | .inl _::_,.inr _::_,_,_,ha,_,_=>ha.1.elim
 | .inr _::_,.inl _::_,_,_,ha,_,_=>ha.1.elim
 |[],[],_::_,hv,_,_,_=>hv.elim
 |_::_,_::_,[],hv,_,_,_=>hv.elim
 |[],_::_,_,_,ha,_,_=>ha.elim
 |_::_,[],_,_,ha,_,_=>ha.elim
theorem ASQ{p:XP}{x:XV}{v:Value}(hv:XR E w bx x v)(ha:aG N m p x){y:p.V}(e:p.get bk x=some y):XR E1 w xL (p.mk id y) v:=by
 cases p with
 |c p=>cases x with
  |c x=>exact yF k hv ha (by grind[XP.get])
  |_=>exact ha.elim
 |agg l=>cases x with
  |agg xs=>
   obtain⟨vs,rfl,VI⟩:=hv;exact⟨vs,rfl,nA k VI ha (by grind[XP.get])⟩
  |_=>exact ha.elim
 |row r=>cases x with
  |agg xs=>
   obtain⟨vs,rfl,VI⟩:=hv;exact⟨vs,rfl,jK k.within k.boxes k.st k.T VI (by grind[XP.get])⟩
  |_=>exact ha.elim
 |Mh l=>cases x with
  |Mh xs=>
   obtain⟨vs,rfl,VI⟩:=hv;exact⟨vs,rfl,uH k VI ha (by grind[XP.get])⟩
  |_=>exact ha.elim
theorem sS{tm:List XV}{vals:List Value}(htm:Cb (XR E w bx) tm vals):∀{l:List (Nat×XP)},(∀q∈l,∃x,tm[q.1]? =some x∧aG N m q.2 x)→ ∀{y:Gx.V l},Gx.get bk tm l=some y→
  N7 E1 w xL id l y vals
 |[],_,_,_=>trivial
 |(i,p)::l,ha,y,e=>by
  obtain⟨x,hx,hax⟩:=ha (i,p) (by simp);simp only[Gx.get,hx,ALt,ALe]at e;obtain⟨a,e1,b,e2,rfl⟩:=e;obtain⟨v,hv,hr⟩:=htm.get hx;exact⟨⟨v,hv,ASQ k hr hax e1⟩,sS htm (fun q hq=>ha q (by simp[hq])) e2⟩
end
structure tX (E:Env) (w:World) (bx:List Bx) (m:PD) (s:BX) (x:s.V) (vals:List Value) (E1:Env):Prop where
 boxes:C_ E1 w (Jj.mk id s.Gu x.2) (Jj.mk id s.Gu x.2) []
 Dz:N7 E1 w (Jj.mk id s.Gu x.2) id s.Dz x.1 vals
 ids:∀(i b:Nat),m[i]? =some (some b)→E1.Ht i=E.Ht b∧E1.Hu i=E.Hu b
 inj:oL m
 len:m.length=s.Gu.length
 S:∀c,E.S c→E1.S c
 zq:∀c,E1.S c→E.S c∨ ¬E.T c
 T:∀c,E.T c→E1.T c
 rest:∃Fk,NC E w bx (Cz bx m) Fk∧Fk.flatten.Nodup∧(∀c∈Fk.flatten,¬E.T c∧ ¬E1.S c∧c<w.heap.size∧E1.T c)∧(∀c,E1.T c→E.T c∨E1.S c∨c∈Fk.flatten)
theorem kq{E:Env}{w:World}{bx:List Bx}{tm:List XV}{vals:List Value}(hB:C_ E w bx bx [])(htm:Cb (XR E w bx) tm vals){s:BX}{m0 m:PD}{x:s.V}
  {N:Nat} (th:∀(i:Nat) d r,s.Gu[i]? =some (.sl d r)→E.Hu (N+i)= .slice none 0 0) (hlen:m0.length=s.Gu.length) (AKD:oL m0) (e:s.fit N m0 tm bx=some (x,m)):Ext m0 m∧ ∃E1,tX E w bx m s x vals E1:=by
 simp only[BX.fit,ALt,ALe]at e;obtain⟨m1,e1,m2,e2,a,e3,c,e4,e5⟩:=e;cases e5;obtain⟨a1,a2,a3⟩:=ct e1;obtain⟨b1,b2,b4,b3⟩:=Vc e2;have hi:oL m:=b3 (a3 AKD);have uk:m.length=s.Gu.length:=by rw[b1.1,a1.1,hlen]
 refine⟨a1.trans b1,?_⟩;obtain⟨Gs,g1,g2,g3⟩:=mw hi hB;obtain⟨q1,q2⟩:=SN (I_:=id) e4;have st:=hB.st
 let R:Nat→List Nat→List Nat→List Nat→Prop:=fun k G F W=>
  match s.Gu[k]? with
  |some (.sl d r)=> ∀(b d':Nat) (rows:List r.D),m[k]? =some (some b)→bx[b]? =some (.sl d' r rows)→Ow w (fun c=>E.S c∨c∈W) d (.sl r) [E.Hu b] rows F
  |some (.mem q)=>F=G∧W=[]
  |_=>F=[]∧W=G
 have AQo:∀(k:Nat) G,Gs[k]? =some G→ ∃F W,G.Perm (F++W)∧R (0+k) G F W:=by
  intro k G hG;rw[ASz];have hk:k<s.Gu.length:=by
   grind
  have hp:s.Gu[k]? =some s.Gu[k]:=ALR hk;cases hb:s.Gu[k]with
  |mem q=>exact⟨G,[],by simp,by grind⟩
  |gone=>exact⟨[],G,by simp,by grind⟩
  |sl d r=>
   obtain⟨y,y1,b,d',y2,y3,y4,y5⟩:=q2 k _ (hp.trans (by rw[hb]));obtain⟨_,ho⟩:=g2 k b _ G y2 y3 hG;grind[J4]
 obtain⟨Fs,Ws,f1,f2,f3,f4⟩:=o0 Gs 0 AQo;obtain⟨Fk,k1,k2⟩:=g3;simp only[AMa]at k2;have ZZ:Sep E w (Fk.flatten++(Fs.flatten++Ws.flatten)):=k2.perm (AVz _ f3)
 let E1:Env:={
   Ht:=fun i=>match m[i]? with|some (some b)=>E.Ht b|_=>0
   Hu:=fun i=>match m[i]? with|some (some b)=>E.Hu b|_=> .nilFunc
   S:=fun c=>E.S c∨c∈Ws.flatten
   T:=fun c=>E.T c∨c∈Ws.flatten∨c∈Fk.flatten }
 have AFE:∀(i b:Nat),m[i]? =some (some b)→E1.Ht i=E.Ht b∧E1.Hu i=E.Hu b:=fun i b h=>by grind
 have fe:ADa N E w bx (Cz bx m) Fk m E1 (Jj.mk id s.Gu c):={
  within:=R0 (FI.refl bx)
  boxes:=k1
  st:=st
  T:=fun d hd=>hd.elim .inl fun h=> .inr (.inr h)
  S:=fun d hd=> .inl hd
  ids:=AFE
  len:=by omega
  nil:=fun i d r rows e=>by
   have hk:i<s.Gu.length:=by
    grind
   obtain⟨y,y1,_⟩:=q2 i _ (ALR hk);have hp:=ALR hk;rw[e]at y1
   generalize s.Gu[i]=P at y y1 hp
   cases P with
   |mem q=>cases y1
   |gone=>cases y1
   |sl d0 r0=>grind
  sl:=fun i d r rows hi e=>by
   have hk:i<s.Gu.length:=by omega
   obtain⟨y,y1,y2⟩:=q2 i _ (ALR hk);rw[e]at y1
   generalize s.Gu[i]=P at y y1 y2
   cases P with
   |mem q=>cases y1
   |gone=>cases y1
   |sl d0 r0=>
    simp only[BP.mk,ALW,Bx.sl.injEq]at y1;grind }
 have nd:=ZZ.nodup;have AE8:∀c∈Fs.flatten,¬E1.T c:=by
  intro d hd h;rcases h with h|h|h
  ·exact ZZ.free d (by simp[hd]) h
  all_goals grind
 have ARm:N7 E1 w (Jj.mk id s.Gu c) id s.Dz a vals:=sS fe htm (fun q hq=>let⟨x,h1,h2⟩:=a2 q hq;⟨x,h1,aG.ext b1 h2⟩) e3;refine⟨E1,tX.mk ?_ ARm AFE hi uk (fun d hd=> .inl hd) ?_ (fun d hd=> .inl hd) ⟨Fk,k1,(AMx.1 nd).1,fun d hd=>⟨ZZ.free d (by simp[hd]),?_,ZZ.lt d (by simp[hd]),.inr (.inr hd)⟩,?_⟩⟩
 ·refine⟨Fs,⟨by simp_all,fun k B F hk hF=> ?_⟩,?_⟩
  ·have hkl:k<s.Gu.length:=by
    grind
   have hp:s.Gu[k]? =some s.Gu[k]:=ALR hkl;obtain⟨y,y1,y2⟩:=q2 k _ hp;rw[hk]at y1;cases y1;have hG:Gs[k]? =some (Gs[k]'(by omega)):=ALR _;have hW:Ws[k]? =some (Ws[k]'(by omega)):=ALR _;have hr:=f4 k _ F _ hG hF hW;rw[ASz]at hr;have AUl:∀d∈Ws[k]'(by omega),d∈Ws.flatten:=fun d hd=>ARg.2 ⟨_,ANO hW,hd⟩
   generalize Adn:s.Gu[k]=P at y y2 hp
   have AUA:=fun q=>b2 k q
   simp only[R,hp]at hr;cases P with
   |mem q=>
    obtain⟨b,cs,z1,z2,z3⟩:=y2;obtain⟨rfl,hW0⟩:=hr;obtain⟨hFe,arr,ty,fr,h1,h2,h3⟩:=g2 k b _ _ z1 z2 hG;obtain⟨b',cx,t1,t2,t3⟩:=AUA q hp;rw[ASz,z1]at t1;cases t1;rw[z2]at t2;cases t2;refine⟨by simp_all,arr,ty,fr,by simp_all,h2,nA fe h3 t3 z3⟩
   |sl d r=>
    obtain⟨b,d',z1,z2,z3,z4⟩:=y2;have:=hr b d' y z1 z2;refine⟨z3,?_⟩;rw[(AFE k b z1).2];exact ES (fun d hd=>hd.elim .inl fun h=> .inr (AUl d h)) (fun _ _=>rfl) (fun _ _=>rfl) this
   |gone=>exact hr.1
  ·simp only[AMa]
   refine⟨(AMx.1 (AMx.1 nd).2.1).1,AE8,fun d hd=>ZZ.lt d (by simp[hd]),fun d hd=>hd.elim (fun h=> .inl (st d h)) (fun h=> .inr (.inl h)),fun d hd=> ?_⟩;rcases hd with hd|hd|hd
   ·exact ZZ.cA d hd
   ·exact ZZ.lt d (by simp[hd])
   ·exact ZZ.lt d (by simp[hd])
 ·intro d hd
  exact hd.elim .inl fun h=> .inr (ZZ.free d (by simp[h]))
 ·intro h
  rcases h with h|h
  ·exact ZZ.free d (by simp[hd]) (st d h)
  grind
 grind
end Go.Fw
end
section
namespace Go.Fw
def zv:Ty→Value
 | .int k=> .int k 0
 | .bool=> .bool false
 | .str=> .string ⟨#[]⟩
 |_=> .slice none 0 0
def Eh:Ty→List Value
 | .cons c r=>zv c::Eh r
 | .unit=>[]
 |t=>[zv t]
def Ty.cell:Ty→Bool
 | .unit| .cons _ _=>false
 |_=>true
def Ty.uY:Ty→Bool
 | .cons c r=>c.cell&&r.uY
 |_=>true
def eqZ:Value→Value→Bool
 | .int k n,.int k' n' =>decide (k=k')&&decide (n=n')
 | .bool a,.bool b=>decide (a=b)
 | .string a,.string b=>decide (a.data.toList=[])&&decide (b.data.toList=[])
 | .slice none a b,.slice none c d=>decide (a=c)&&decide (b=d)
 |_,_=>false
theorem APZ{a b:Value}(h:eqZ a b=true):a=b:=by
 unfold eqZ at h;split at h
 ·simp_all
 ·simp_all
 ·rename_i a b
  simp at h;obtain⟨h1,h2⟩:=h;cases a;cases b;simp_all
 all_goals simp_all
def ABn:List Value→List Value→Bool
 |[],[]=>true
 |a::l,b::m=>eqZ a b&&ABn l m
 |_,_=>false
theorem AAM:∀{l m:List Value},ABn l m=true→l=m
 |[],[],_=>rfl
 |a::l,b::m,h=>by
  simp only[ABn,ALp]at h;rw[APZ h.1,AAM h.2]
 |[],_::_,h=>by simp[ABn]at h
 |_::_,[],h=>by simp[ABn]at h
def fU(P:Program)(t:Nat):TD→Prop
 | .int k=>P.underlying t=some (.int k)
 | .bool=>P.underlying t=some .bool
 | .str=>P.underlying t=some .string
 | .sl e=>P.underlying t=some (.slice e)
 | .ptr e=>P.underlying t=some (.pointer e)
 | .st fs=> ∃fields,P.underlying t=some (.struct fields)∧fields.toList.map (fun f=>(f.offset,f.type))=fs∧(∀f∈fields.toList,f.name≠ "_" ∧ ∃i,P.info? f.type=some i∧i.size≠0)∧
  P.stoodInHeld t=false∧P.eqGuardType P.depth t=false
 | .other=> ∃d,P.underlying t=some d∧d.isRow=false
structure ATD (P:Program) (T:Jg) (t:Nat) (ti:TI):Prop where
 info:∃i,P.info? t=some i∧i.size=ti.size∧i.bytes=ti.bytes∧(∀r,ti.row=some r→r.uY=true∧ ∃z,i.zero=some z∧z.cells.toList=Eh r)
 und:fU P t ti.desc
def Ef(P:Program)(T:Jg):Prop:= ∀t ti,T.get t=some ti→ATD P T t ti
def s8(P:Program)(T:Jg)(t:Nat)(ti:TI):Bool:=
 (match P.info? t with
  |some i=>decide (i.size=ti.size)&&decide (i.bytes=ti.bytes)&&(match ti.row with
   |some r=>r.uY&&(match i.zero with
    |some z=>ABn z.cells.toList (Eh r)
    |none=>false)
   |none=>true)
  |none=>false)&&
 (match ti.desc,P.underlying t with
  | .int k,some (.int k')=>decide (k=k')
  | .bool,some .bool=>true
  | .str,some .string=>true
  | .sl e,some (.slice e')=>decide (e=e')
  | .ptr e,some (.pointer e')=>decide (e=e')
  | .st fs,some (.struct fields)=>decide (fields.toList.map (fun f=>(f.offset,f.type))=fs)&&
    fields.toList.all (fun f=>decide (f.name≠ "_")&&(match P.info? f.type with|some i=>decide (i.size≠0)|none=>false))&&
    !P.stoodInHeld t&& !P.eqGuardType P.depth t
  | .other,some d=> !d.isRow
  |_,_=>false)
theorem uL{P:Program}{T:Jg}{t:Nat}{ti:TI}(h:s8 P T t ti=true):ATD P T t ti:=by
 unfold s8 at h;rw[ALp]at h;obtain⟨h1,h2⟩:=h;constructor
 ·split at h1
  ·rename_i i hi
   simp only[ALp,AMC]at h1;refine⟨i,hi,h1.1.1,h1.1.2,fun r hr=> ?_⟩;obtain⟨_,h3⟩:=h1;rw[hr]at h3;dsimp only at h3;rw[ALp]at h3;grind[AAM]
  simp_all
 ·split at h2
  ·grind[fU]
  ·grind[fU]
  ·grind[fU]
  ·grind[fU]
  ·grind[fU]
  ·rename_i fs fields hd hu
   simp only[hd,fU];grind
  all_goals grind[fU]
def AC1(P:Program)(T:Jg):Bool:=T.all fun q=>s8 P T q.1 q.2
theorem Jg.get_mem:∀{T:Jg} {t:Nat} {ti:TI},T.get t=some ti→(t,ti)∈T
 |(u,i)::l,t,ti,h=>by
  simp only[Jg.get]at h;split at h
  ·rename_i e;cases h;subst e;simp
  ·exact AW6 _ (Jg.get_mem h)
 |[],_,_,h=>by simp[Jg.get]at h
theorem pT{P:Program}{T:Jg}(h:AC1 P T=true):Ef P T:=fun t ti e=>
 uL (by simpa using AS0.1 h (t,ti) (Jg.get_mem e))
section
variable{P:Program} {T:Jg} (hT:Ef P T)
include hT
theorem Ef.size{t:Nat}{ti:TI}(e:T.get t=some ti):(P.info? t).map (·.size)=some ti.size:=by
 obtain⟨i,h1,h2,_⟩:=(hT t ti e).info;simp_all
theorem Ef.sizeOf{t:Nat}{ti:TI}(e:T.get t=some ti)(w:World):(Go.sizeOf t).run P w= .ok ti.size w:=by
 obtain⟨i,h1,h2,_⟩:=(hT t ti e).info;simp[Go.sizeOf,typeInfo,h1,h2]
omit hT in
theorem BZ{t:Nat}{d:TypeDesc}(h:P.underlying t=some d)(w:World):(Go.underlying t).run P w= .ok d w:=by
 simp[Go.underlying,h]
theorem Ef.isAgg{t:Nat}{ti:TI}(e:T.get t=some ti)(w:World):(Go.isAgg t).run P w= .ok ti.desc.agg w:=by
 have hu:=(hT t ti e).und;unfold Go.isAgg;cases hd:ti.desc<;>rw[hd]at hu<;>simp only[fU]at hu
 case st fs=>
  obtain⟨fields,hu,_⟩:=hu;simp[BZ hu,TD.agg]
 case other=>
  obtain⟨d,hu,hd⟩:=hu;rw[Sem.run_bind,BZ hu];cases d<;>simp_all[TypeDesc.isRow,TD.agg]
 all_goals simp[BZ hu,TD.agg]
end
end Go.Fw
end
section
namespace Go.Fw
def K4{Y:Type}(P:Program)(o:Oper)(E:Env)(σ:St)(a:Act)(w:World)(k:K Y)(y:Y):Prop:=
 ∃v w' E' x σ',((execOp a.eval o).run P w= .ok (.value v) w'∨((execOp a.eval o).run P w= .ok .skip w'∧v=undef))∧Rel E' σ' a w'∧XR E' w' σ'.bx x v∧Q6 (KD (fun _=>none) σ o.op) E σ.bx w E' σ'.bx w'∧
  σ'.tm.length=σ.tm.length∧k x σ' =some y
section
variable{Y:Type} {P:Program} {T:Jg} {o:Oper} {E:Env} {σ:St} {a:Act} {w:World} {k:K Y} {y:Y}
theorem K4.same(h:Rel E σ a w){v:Value}{x:XV}(hr:(execOp a.eval o).run P w= .ok (.value v) w)(hx:XR E w σ.bx x v)(hk:k x σ=some y):K4 P o E σ a w k y:=
 ⟨v,w,E,x,σ,.inl hr,h,hx,Q6.refl _ E σ.bx w,rfl,hk⟩
theorem av{vw:List Bx}{κ:IntKind}{n:Int}{v:Value}(h:VR E w vw (.v (.int κ) n) v):v= .int κ n:=by
 have:=h.2;grind[Rd]
theorem RJ{vw:List Bx}{b:Bool}{v:Value}(h:VR E w vw (.v .bool b) v):v= .bool b:=by
 have:=h.2;grind[Rd]
theorem XL{vw:List Bx}{s:ABs}{v:Value}(h:VR E w vw (.v .str s) v):v= .string ⟨s.toArray⟩:=by
 have:=h.2;grind[Rd]
theorem VR.int{vw:List Bx}(κ:IntKind)(n:Int):VR E w vw (.v (.int κ) n) (.int κ n):=⟨rfl,by rfl⟩
theorem VR.bool{vw:List Bx}(b:Bool):VR E w vw (.v .bool b) (.bool b):=⟨rfl,by rfl⟩
theorem VR.str{vw:List Bx}(s:ABs):VR E w vw (.v .str s) (.string ⟨s.toArray⟩):=⟨rfl,by rfl⟩
theorem Vt(s:ABs):ByteArray.toList ⟨s.toArray⟩=s:=by
 simp_all
theorem uA(a b:ABs):(⟨a.toArray⟩:ByteArray)++⟨b.toArray⟩=⟨(a++b).toArray⟩:=by
 rfl
theorem wv(op:BinOp)(t:TypeId)(x y:Operand)(u v:Value)(hu:∀l,u≠ .agg l)(hn:u≠ .nilIface)(w:World):(eqGuard op t x y u v).run P w= .ok () w:=by
 unfold eqGuard;simp_all
theorem wa{op:BinOp}{κ:IntKind}{m n:Int}{k:AV→Option Y}{y:Y}(e:eP op κ m n k=some y)(t:TypeId)(w:World):
  ∃z v,k z=some y∧(binOp op t (.int κ m) (.int κ n)).run P w= .ok v w∧ ∀E vw,VR E w vw z v:=by
 cases op with
 |add=>exact⟨_,.int κ (κ.wrap (m+n)),e,by simp[binOp,Op.intArith],fun _ _=>VR.int _ _⟩
 |sub=>exact⟨_,.int κ (κ.wrap (m-n)),e,by simp[binOp,Op.intArith],fun _ _=>VR.int _ _⟩
 |mul=>exact⟨_,.int κ (κ.wrap (m*n)),e,by simp[binOp,Op.intArith],fun _ _=>VR.int _ _⟩
 |and=>exact⟨_,.int κ (κ.wrap (BitVec.ofInt κ.bits m &&& BitVec.ofInt κ.bits n).toNat),e,by simp[binOp,Op.intBits],fun _ _=>VR.int _ _⟩
 |or=>exact⟨_,.int κ (κ.wrap (BitVec.ofInt κ.bits m ||| BitVec.ofInt κ.bits n).toNat),e,by simp[binOp,Op.intBits],fun _ _=>VR.int _ _⟩
 |xor=>exact⟨_,.int κ (κ.wrap (BitVec.ofInt κ.bits m ^^^ BitVec.ofInt κ.bits n).toNat),e,by simp[binOp,Op.intBits],fun _ _=>VR.int _ _⟩
 |andNot=>exact⟨_,.int κ (κ.wrap (BitVec.ofInt κ.bits m &&& ~~~BitVec.ofInt κ.bits n).toNat),e,by simp[binOp,Op.intBits],fun _ _=>VR.int _ _⟩
 |eql=>exact⟨_,.bool (m==n),e,by simp[binOp,Op.intCmp],fun _ _=>VR.bool _⟩
 |neq=>exact⟨_,.bool (m !=n),e,by simp[binOp,Op.intCmp],fun _ _=>VR.bool _⟩
 |lss=>exact⟨_,.bool (decide (m<n)),e,by simp[binOp,Op.intCmp],fun _ _=>VR.bool _⟩
 |leq=>exact⟨_,.bool (decide (m≤n)),e,by simp[binOp,Op.intCmp],fun _ _=>VR.bool _⟩
 |gtr=>exact⟨_,.bool (decide (m>n)),e,by simp[binOp,Op.intCmp],fun _ _=>VR.bool _⟩
 |geq=>exact⟨_,.bool (decide (m≥n)),e,by simp[binOp,Op.intCmp],fun _ _=>VR.bool _⟩
 |quo=>
  simp only[eP]at e;split at e
  ·cases e
  ·rename_i hz
   exact⟨_,.int κ (κ.wrap (m.tdiv n)),e,by simp[binOp,Op.intDiv,hz],fun _ _=>VR.int _ _⟩
 |rem=>
  simp only[eP]at e;split at e
  ·cases e
  ·rename_i hz
   exact⟨_,.int κ (m.tmod n),e,by simp[binOp,Op.intDiv,hz],fun _ _=>VR.int _ _⟩
 |_=>simp[eP]at e
theorem ei{op:BinOp}{κ κ':IntKind}{m n:Int}{k:AV→Option Y}{y:Y}(e:X0 op κ m n k=some y)(t:TypeId)(w:World):
  ∃z v,k z=some y∧(binOp op t (.int κ m) (.int κ' n)).run P w= .ok v w∧ ∀E vw,VR E w vw z v:=by
 unfold X0 at e;split at e
 ·cases e
 ·rename_i hn
  cases op with
  |shl=>exact⟨_,.int κ (κ.wrap (m*2^min n.toNat κ.bits)),e,by simp[binOp,Op.shift,hn],fun _ _=>VR.int _ _⟩
  |shr=>exact⟨_,.int κ (m.fdiv (2^min n.toNat κ.bits)),e,by simp[binOp,Op.shift,hn],fun _ _=>VR.int _ _⟩
  |_=>simp at e
theorem wm{op:BinOp}{s u:ABs}{k:AV→Option Y}{y:Y}(e:gw op s u k=some y)(t:TypeId)(w:World):
  ∃z v,k z=some y∧(binOp op t (.string ⟨s.toArray⟩) (.string ⟨u.toArray⟩)).run P w= .ok v w∧ ∀E vw,VR E w vw z v:=by
 have h1:=Vt s;have h2:=Vt u;cases op with
 |eql=>exact⟨_,.bool (s==u),e,by simp[binOp,Op.stringOp,h1,h2],fun _ _=>VR.bool _⟩
 |neq=>exact⟨_,.bool (!(s==u)),e,by simp[binOp,Op.stringOp,h1,h2],fun _ _=>VR.bool _⟩
 |lss=>exact⟨_,.bool (Op.bytesLess s u),e,by simp[binOp,Op.stringOp,h1,h2],fun _ _=>VR.bool _⟩
 |leq=>exact⟨_,.bool (Op.bytesLess s u||s==u),e,by simp[binOp,Op.stringOp,h1,h2],fun _ _=>VR.bool _⟩
 |gtr=>exact⟨_,.bool (!(Op.bytesLess s u||s==u)),e,by simp[binOp,Op.stringOp,h1,h2],fun _ _=>VR.bool _⟩
 |geq=>exact⟨_,.bool (!Op.bytesLess s u),e,by simp[binOp,Op.stringOp,h1,h2],fun _ _=>VR.bool _⟩
 |add=>
  simp only[gw]at e;split at e
  ·rename_i hl
   refine⟨_,.string ⟨(s++u).toArray⟩,e,?_,fun _ _=>VR.str _⟩;have hs:(⟨s.toArray⟩:ByteArray).size=s.length:=by rfl
   have hu:(⟨u.toArray⟩:ByteArray).size=u.length:=by rfl
   have Vx: ¬(((⟨s.toArray⟩:ByteArray).size+(⟨u.toArray⟩:ByteArray).size:Nat):Int)>IntKind.i64.max:=by
    grind[Ds,IntKind.max,IntKind.signed,IntKind.bits]
   simp only[binOp,Op.stringOp,Sem.run_ite,ALT Vx,uA];rfl
  simp_all
 |_=>simp[gw]at e
theorem sv{d:TD}{x z:AV}{p:Bool}(e:nT d x z=some p){E:Env}{w:World}{vw:List Bx}{v u:Value}(hx:VR E w vw x v)(hz:VR E w vw z u){t:TypeId}
  (hu:fU P t d) (n:Nat):(Op.equalIn (n+1) t v u).run P w= .ok p w∧d.agg=false:=by
 unfold nT at e;split at e
 ·rename_i κ j a k b
  split at e
  ·rename_i hj
   subst hj;cases e;rw[av hx,av hz];exact⟨run_equalIn_int (P:=P) w n t j κ a b hu,rfl⟩
  simp_all
 ·cases e
  rw[RJ hx,RJ hz];exact⟨run_equalIn_bool' (P:=P) w n t _ _ hu,rfl⟩
 ·cases e
  rename_i a b;rw[XL hx,XL hz];have q:=run_equalIn_string (P:=P) w n t ⟨a.toArray⟩ ⟨b.toArray⟩ hu;rw[Vt,Vt]at q;exact⟨q,rfl⟩
 simp_all
theorem eX{T:Jg}(hT:Ef P T){E:Env}{w:World}{vw:List Bx}{xs ys:Array Value}:∀{fields:List Field} {i:Nat} {l m:List AV} {vs us:List Value} {r:Bool},
  (∀f∈fields,f.name≠ "_")→gi E w vw l vs→gi E w vw m us→K0 T i (fields.map fun f=>(f.offset,f.type)) l m=some r→
  (∀(j:Nat) v,vs[j]? =some v→xs[i+j]? =some v)→(∀(j:Nat) v,us[j]? =some v→ys[i+j]? =some v)→(Op.eqFields 9999 xs ys fields).run P w= .ok r w
 |[],i,[],[],_,_,r,_,_,_,e,_,_=>by
  simp only[AWs,K0,ALW]at e;subst e;rfl
 |f::fs,i,x::l,z::m,v::vs,u::us,r,hn,hx,hz,e,h1,h2=>by
  simp only[ATb,K0]at e;split at e
  case isFalse=>cases e
  rename_i ho;have hv:=h1 0 v rfl;have hu:=h2 0 u rfl;simp only[ATU]at hv hu;have AVN:=hn f (by simp);split at e
  case h_2=>cases e
  rename_i ti T4;split at e
  case h_2=>cases e
  rename_i p hp;simp only[ALe]at e;obtain⟨r',e',rfl⟩:=e;have Aae:=eX hT (fields:=fs) (i:=i+1) (l:=l) (m:=m) (vs:=vs) (us:=us) (r:=r') (fun f hf=>hn f (by simp[hf])) hx.2 hz.2 e'
   (fun j v' hj=>by have:=h1 (j+1) v' (by simp_all);rwa [show i+(j+1)=i+1+j by omega]at this)
   (fun j v' hj=>by have:=h2 (j+1) v' (by simp_all);rwa [show i+(j+1)=i+1+j by omega]at this)
  have iX:=(hT f.type ti T4).und;obtain⟨q,na⟩:=sv (P:=P) hp hx.1 hz.1 (t:=f.type) iX 9998;have ik:=Ef.isAgg hT T4 w;rw[na]at ik;have p1:(part f.type xs f.offset).run P w= .ok v w:=by simp[part,ik,ho,hv]
  have p2:(part f.type ys f.offset).run P w= .ok u w:=by simp[part,ik,ho,hu]
  simp only[Op.eqFields,AVN,ne_eq,not_false_eq_true,ASe,Sem.run_bind,p1,p2,Result.andThen_ok,q,Aae,Sem.run_ite,Sem.run_pure];grind
 |[],_,_::_,_,_,_,_,_,_,_,e,_,_=>by simp[K0]at e
 |[],_,[],_::_,_,_,_,_,_,_,e,_,_=>by simp[K0]at e
 |_::_,_,[],_,_,_,_,_,_,_,e,_,_=>by simp[K0]at e
 |_::_,_,x::_,[],_,_,_,_,_,_,e,_,_=>by simp[K0]at e
 |_::_,_,_::_,_::_,[],_,_,_,hx,_,_,_,_=>hx.elim
 |_::_,_,_::_,_::_,_::_,[],_,_,_,hz,_,_,_=>hz.elim
theorem oG(op:BinOp)(t:TypeId)(p q:Bool)(hu:P.underlying t=some .bool)(w:World):(op= .eql→(binOp op t (.bool p) (.bool q)).run P w= .ok (.bool (p==q)) w)∧
  (op= .neq→(binOp op t (.bool p) (.bool q)).run P w= .ok (.bool (!(p==q))) w):=by
 have h:=run_equalIn_bool' (P:=P) w 9999 t p q hu;constructor
 ·rintro rfl
  grind[binOp,Op.equal,Op.maxDepth,Sem.run_bind,Result.andThen_ok,Sem.run_pure]
 ·rintro rfl
  grind[binOp,Op.equal,Op.maxDepth,Sem.run_bind,Result.andThen_ok,Sem.run_pure]
theorem fx{T:Jg}(hT:Ef P T){t:Nat}{op:BinOp}{x z:XV}{k:AV→Option Y}{y:Y}(e:vZ T t op x z k=some y){E:Env}{w:World}{vw:List Bx}{v u:Value}
  (hx:XR E w vw x v) (hz:XR E w vw z u) (ox oz:Operand):
  ∃r val,k r=some y∧(do eqGuard op t ox oz v u;binOp op t v u:Sem Value).run P w= .ok val w∧VR E w vw r val:=by
 have guard:∀(v u:Value),(∀l,v≠ .agg l)→v≠ .nilIface→ ∀val,(binOp op t v u).run P w= .ok val w→(do eqGuard op t ox oz v u;binOp op t v u:Sem Value).run P w= .ok val w:=by
  grind[Sem.run_bind,wv,Result.andThen_ok]
 unfold vZ at e;split at e
 ·rename_i j m j' n
  have hv:=av (E:=E) (vw:=vw) hx;have hu:=av (E:=E) (vw:=vw) hz;subst hv hu;have done:∀(q:∃r val,k r=some y∧(binOp op t (.int j m) (.int j' n)).run P w= .ok val w∧ ∀E vw,VR E w vw r val),∃r val,k r=some y∧(do eqGuard op t ox oz (.int j m) (.int j' n);binOp op t (.int j m) (.int j' n):Sem Value).run P w= .ok val w∧VR E w vw r val:=by
   grind
  split at e
  ·exact done (ei e t w)
  ·exact done (ei e t w)
  ·split at e
   ·rename_i hj
    subst hj;exact done (wa e t w)
   simp_all
 ·rename_i s s'
  have hv:=XL (E:=E) (vw:=vw) hx;have hu:=XL (E:=E) (vw:=vw) hz;subst hv hu;obtain⟨r,val,h1,h2,h3⟩:=wm (P:=P) e t w;grind
 ·rename_i p q
  have hv:=RJ (E:=E) (vw:=vw) hx;have hu:=RJ (E:=E) (vw:=vw) hz;subst hv hu;split at e
  ·rename_i ti T4
   have iX:=(hT t ti T4).und;split at e
   ·rename_i hd
    rw[hd]at iX;split at e
    ·exact⟨_,_,e,guard _ _ (by simp) (by simp) _ ((oG _ t p q iX w).1 rfl),VR.bool _⟩
    ·exact⟨_,_,e,guard _ _ (by simp) (by simp) _ ((oG _ t p q iX w).2 rfl),VR.bool _⟩
    simp_all
   simp_all
  simp_all
 ·rename_i l m
  obtain⟨vs,rfl,VI⟩:=hx;obtain⟨us,rfl,hus⟩:=hz;have key:∀r,((T.fields t).bind fun fs=>K0 T 0 fs l m)=some r→(Op.equalIn 10000 t (.agg vs) (.agg us)).run P w= .ok r w∧P.eqGuardType P.depth t=false:=by
   intro r hr;simp only[ALt]at hr;obtain⟨fs,hf,hr⟩:=hr;unfold Jg.fields at hf;split at hf
   ·rename_i fs' hd
    cases hf;simp only[ALe]at hd;obtain⟨ti,T4,hd⟩:=hd;have iX:=(hT t ti T4).und;rw[hd]at iX;obtain⟨fields,hu,hfs,rb,cz,hg⟩:=iX;grind[Program.fieldsOf,run_equalIn_agg,eX]
   simp_all
  split at e
  ·rename_i r hr
   obtain⟨q,hg⟩:=key r hr;refine⟨_,_,e,?_,VR.bool r⟩;grind[Sem.run_bind,run_eqGuard_agg,Result.andThen_ok,run_eql_struct]
  ·rename_i r hr
   obtain⟨q,hg⟩:=key r hr;refine⟨_,_,e,?_,VR.bool (!r)⟩;grind[Sem.run_bind,run_eqGuard_agg,Result.andThen_ok,run_neq_struct]
  simp_all
 simp_all
end
end Go.Fw
end
section
namespace Go.Fw
section
variable{Y:Type} {P:Program} {T:Jg} (hT:Ef P T) {E:Env} {w:World} {vw:List Bx}
include hT
theorem AJf{t:Nat}{s b:Nat}{fs:List ACf}{rw:Option Ty}(e:T.get t=some ⟨s,b,.st fs,rw⟩):∃fields,P.underlying t=some (.struct fields)∧fields.toList.map (fun f=>(f.offset,f.type))=fs∧
  ∀f∈fields.toList,∃i,P.info? f.type=some i∧i.size≠0:=by
 obtain⟨fields,h1,h2,h3,_⟩:=(hT t _ e).und;simp_all
omit hT in
theorem nh{a:Addr}{f:Field}(h:∃i,P.info? f.type=some i∧i.size≠0):(fieldPlace a f).run P w= .ok (a.add f.offset) w:=by
 obtain⟨i,h1,h2⟩:=h;simp[fieldPlace,Go.sizeOf,typeInfo,h1,h2]
theorem UC{t:Nat}{s b:Nat}{fs:List ACf}{rw:Option Ty}(e:T.get t=some ⟨s,b,.st fs,rw⟩){f o u:Nat}(hf:fs[f]? =some (o,u)){a:Addr}:
  (Instr.fieldAt t (.pointer (some a)) f).run P w= .ok (.pointer (some (a.add o))) w:=by
 obtain⟨fields,h1,h2,h3⟩:=AJf hT e;subst h2;simp only[ARB,ALe]at hf;obtain⟨fld,xO,he⟩:=hf;have hm:=ANO xO;have hfa:fields[f]? =some fld:=by simp_all
 simp only[APo]at he;simp[Instr.fieldAt,BZ h1,hfa,Instr.sureAddr,nh (h3 fld hm),he.1]
theorem iN{t:Nat}{x z:XV}{f:Nat}(e:tf T t x f=some z){v:Value}(hx:XR E w vw x v):∃u,(Instr.fieldAt t v f).run P w= .ok u w∧XR E w vw z u:=by
 unfold tf at e;split at e
 case h_2=>cases e
 rename_i s b fs _ T4;split at e
 case h_2=>cases e
 rename_i o u hf;split at e
 ·rename_i b' j
  cases e;obtain⟨h1,rfl⟩:=hx;exact⟨_,UC hT T4 hf,h1,by rw[Addr.add_eq]⟩
 ·rename_i b' p i sz j
  cases e;obtain⟨h0,h1⟩:=hx;cases v with
  |pointer oa=>
   cases oa with
   |none=>simp[bR]at h0
   |some a=>
    obtain⟨ab,ao,sp⟩:=a;cases sp with
    |some _=>simp[bR]at h0
    |none=>
     refine⟨_,UC hT T4 hf,by rw[Addr.add_eq];rfl,?_⟩;revert h1;split
     ·rintro⟨hp,q,ys,bb,o',len,cap,g1,g2,g3,g4⟩
      refine⟨hp,q,ys,bb,o',len,cap,g1,g2,g3,?_⟩;simp only[Value.pointer.injEq,ALW,Addr.mk.injEq,ASn]at g4;grind[Addr.add_eq,Nat.add_assoc]
     all_goals simp_all
  |_=>simp[bR]at h0
 ·rename_i s r y j
  cases e;obtain⟨bb,o',cs,rfl,h2,h3,h4,h5⟩:=hx;refine⟨_,UC hT T4 hf,bb,o',cs,?_,h2,h3,h4,h5⟩;rw[Addr.add_eq,AS9]
 simp_all
theorem lA{t:Nat}{x z:XV}{f:Nat}(e:AFP T t x f=some z){v:Value}(hx:XR E w vw x v):∃u,(Instr.field t v f).run P w= .ok u w∧XR E w vw z u:=by
 unfold AFP at e;split at e
 case h_2=>cases e
 rename_i s b fs _ l T4;obtain⟨vs,rfl,VI⟩:=hx;split at e
 case h_2=>cases e
 rename_i o u hf;split at e
 case h_2=>cases e
 rename_i ti htu;obtain⟨fields,h1,h2,h3⟩:=AJf hT T4;subst h2;simp only[ARB,ALe]at hf;obtain⟨fld,xO,he⟩:=hf;have hfa:fields[f]? =some fld:=by simp_all
 simp only[APo]at he;obtain⟨rfl,rfl⟩:=he;have ik:=Ef.isAgg hT htu w;have O_:=Ef.sizeOf hT htu w;split at e
 ·rename_i ha
  cases e;rw[ha]at ik;refine⟨.agg (vs.extract fld.offset (fld.offset+ti.size)),?_,_,rfl,?_⟩
  ·simp[Instr.field,BZ h1,hfa,asAgg,part,ik,O_]
  ·have:(vs.extract fld.offset (fld.offset+ti.size)).toList=(vs.toList.drop fld.offset).take ti.size:=by
    simp_all
   rw[this];exact Cb.take _ (Cb.drop _ VI)
 ·rename_i ha
  simp only[AO4]at ha;rw[ha]at ik;simp only[ALe]at e;obtain⟨y,hy,rfl⟩:=e;obtain⟨v,hv,hr⟩:=Cb.get VI hy;refine⟨v,?_,hr⟩;have:vs[fld.offset]? =some v:=by simp_all
  simp[Instr.field,BZ h1,hfa,asAgg,part,ik,this]
theorem KZ{t:Nat}{r:Ty}(h:T.M9 t r=true):∃e ti,P.underlying t=some (.slice e)∧T.get e=some ti∧ti.size=r.n∧ti.bytes≤512∧ti.row=some r:=by
 unfold Jg.M9 at h;split at h
 ·rename_i ti T4
  simp only[ALp,AMC]at h;unfold Jg.elem at T4;split at T4
  ·rename_i e hd
   simp only[ALe]at hd;obtain⟨tj,h1,h2⟩:=hd;have:=(hT t tj h1).und;rw[h2]at this;exact⟨e,ti,this,T4,h.1.1,h.1.2,h.2⟩
  simp_all
 simp_all
theorem Wg{t:Nat}(h:T.isStr t=true):P.underlying t=some .string:=by
 unfold Jg.isStr at h;split at h
 ·rename_i hd
  simp only[ALe]at hd;obtain⟨tj,h1,h2⟩:=hd;have:=(hT t tj h1).und;rw[h2]at this;exact this
 simp_all
theorem k_{t:Nat}(h:T.AIM t=true):∃e,P.underlying t=some (.slice e):=by
 unfold Jg.AIM at h;split at h
 ·rename_i e hd
  simp only[ALe]at hd;obtain⟨tj,h1,h2⟩:=hd;have:=(hT t tj h1).und;rw[h2]at this;exact⟨e,this⟩
 simp_all
omit hT in
theorem IQ{x:XV}{n:Int}(e:dA x=some n){v:Value}(hx:XR E w vw x v):∃κ,v= .int κ n:=by
 unfold dA at e;split at e
 ·cases e;exact⟨_,av (E:=E) (w:=w) (vw:=vw) hx⟩
 ·cases e
theorem dS{t:Nat}{r:Ty}(h:T.M9 t r=true){κ:IntKind}{i:Int}{a:Addr}{len cap:Nat}(h0:0≤i)(h1:i<(len:Int)):
  (Instr.indexAt t (.slice (some a) len cap) (.int κ i)).run P w= .ok (.pointer (some (a.add (i.toNat*r.n)))) w:=by
 obtain⟨e,ti,hu,T4,hs,_⟩:=KZ hT h;have O_:=Ef.sizeOf hT T4 w;simp[Instr.indexAt,asIntOf,BZ hu,h0,h1,O_,hs]
omit hT in
theorem zI{bx:List Bx}{Fs:List ABI}(hB:NC E w bx bx Fs)(st:∀c,E.S c→E.T c){x:AV}{v:Value}(hv:VR E w bx x v){q:Ty}{ys:List q.D}(e:NA bx x=some ⟨q,ys⟩):
  ∃a cap,v= .slice a ys.length cap∧ys.length≤cap∧(ys.length=0∨ ∃b o,a=some ⟨b,o,none⟩):=by
 have:=ZP (FI.refl bx) hB st hv e;simp only[Rd]at this;obtain⟨a,cap,h1,h2,h3⟩:=this;simp only[AQN,ASn]at h1;exact⟨a,cap,h1,h2,h3.imp id fun⟨b,o,h,_⟩=>⟨b,o,h⟩⟩
theorem iO{σ:St}{Fs:List ABI}(hB:NC E w σ.bx σ.bx Fs)(st:∀c,E.S c→E.T c){t:Nat}{x i:XV}{k:K Y}{y:Y}(e:kK σ T t x i k=some y){v u:Value}
  (hx:XR E w σ.bx x v) (hi:XR E w σ.bx i u):∃z val,k z σ=some y∧(Instr.indexAt t v u).run P w= .ok val w∧XR E w σ.bx z val:=by
 unfold kK at e;split at e
 ·rename_i s r rows n hn
  obtain⟨κ,rfl⟩:=IQ hn hi;split at e
  case isFalse=>cases e
  rename_i UJ;split at e
  case isFalse=>cases e
  rename_i hb;obtain⟨h0,h1⟩:=hb;simp only[XR,VR,Rd]at hx;obtain⟨a,cap,hv,hl,hx⟩:=hx;simp only[AQN,ASn]at hv;subst hv;rcases hx with hx|⟨b,o,rfl,hb,hx⟩
  ·omega
  ·have Jq:n.toNat<rows.length:=by omega
   obtain⟨cs,c1,c2,c3⟩:=hx n.toNat _ (Q3 Jq);refine⟨_,_,e,dS hT UJ h0 h1,b,o+n.toNat*r.n,cs,?_,by omega,c1,c2,by omega⟩;rw[Addr.add_eq];rfl
 ·rename_i b p n hn
  obtain⟨κ,rfl⟩:=IQ hn hi;split at e
  case h_2=>cases e
  rename_i q hq;split at e
  case isFalse=>cases e
  rename_i UJ;split at e
  case isFalse=>cases e
  rename_i hb;obtain⟨h0,h1⟩:=hb
  change VR E w σ.bx (.ref b p) v at hx
  obtain⟨a,cap,rfl,hl,ha⟩:=zI hB st hx hq;rcases ha with ha|⟨b',o,rfl⟩
  ·omega
  ·refine⟨_,_,e,dS hT UJ h0 h1,by rw[Addr.add_eq];rfl,?_⟩
   simp only[NA]at hq;obtain⟨_,hx⟩:=hx;grind[Addr.add_eq]
 ·rename_i b p off n' n hn
  obtain⟨κ,rfl⟩:=IQ hn hi;split at e
  case h_2=>cases e
  rename_i q hq;split at e
  case isFalse=>cases e
  rename_i UJ;split at e
  case isFalse=>cases e
  rename_i hb;obtain⟨h0,h1⟩:=hb;simp only[NA]at hq;obtain⟨h00,hx⟩:=hx;revert hx;split
  ·rename_i d r rows ug
   rw[ug]at hq;dsimp only at hq
   rintro⟨hp,q',ys,a,len,cap,g1,g2,g3,rfl⟩
   have Yv:=cP (FI.refl _) hB st ug hp g1 g3;simp only[Rd]at Yv;obtain⟨a',cap',ee,hle,Yv⟩:=Yv;simp only[AQN,Value.slice.injEq,ASn]at ee;obtain⟨rfl,rfl,rfl⟩:=ee;rcases Yv with Yv|⟨b',o,rfl,_,_⟩
   ·omega
   ·unfold Uo
    rw[ALT (by omega)];have hq1:q.1=q':=by
     grind
    refine⟨_,_,e,dS hT UJ h0 h1,by simp only[Option.map];rw[Addr.add_eq,Addr.add_eq];rfl,?_⟩;grind[Addr.add_eq,Nat.add_assoc,Nat.add_mul]
  all_goals simp_all
 simp_all
theorem bo{σ:St}{t:Nat}{x i:XV}{k:K Y}{y:Y}(e:V9 T t σ x i k=some y){v u:Value}(hx:XR E w vw x v)(hi:XR E w vw i u):
  ∃z val,k z σ=some y∧(Instr.index t v u).run P w= .ok val w∧XR E w vw z val:=by
 unfold V9 at e;split at e
 ·rename_i s n hn
  obtain⟨κ,rfl⟩:=IQ hn hi;have hv:=XL (E:=E) (w:=w) (vw:=vw) hx;subst hv;split at e
  case isFalse=>cases e
  rename_i cz;split at e
  case isFalse=>cases e
  rename_i hb;obtain⟨h0,h1⟩:=hb;refine⟨_,.int .u8 ((s.getD n.toNat 0).toNat:Int),e,?_,VR.int (E:=E) (vw:=vw) _ _⟩;have Jq:n.toNat<s.length:=by omega
  have:(⟨s.toArray⟩:ByteArray)[n.toNat]? =some s[n.toNat]:=by
   rw[getElem?_pos _ _ (by grind[ByteArray.size])];rfl
  simp[Instr.index,asIntOf,BZ (Wg hT cz),h0,this,Jq]
 simp_all
omit hT in
theorem dQ{x z:XV}{i:Nat}(e:pj x i=some z){v:Value}(hx:XR E w vw x v):∃u,(Instr.extract v i).run P w= .ok u w∧XR E w vw z u:=by
 unfold pj at e;split at e
 case h_2=>cases e
 rename_i l;obtain⟨vs,rfl,VI⟩:=hx;split at e
 ·rename_i x hx
  cases e;obtain⟨v,hv,hr⟩:=VI.get hx;have:vs[i]? =some v:=by simpa using hv
  exact⟨v,by simp[Instr.extract,this],hr⟩
 ·rename_i q hx
  cases e;obtain⟨v,hv,ws,rfl,hr⟩:=VI.get hx;have:vs[i]? =some (.agg ws):=by simpa using hv
  exact⟨.agg ws,by simp[Instr.extract,this],ws,rfl,hr⟩
 ·cases e
omit hT in
theorem lJ{bx:List Bx}{Fs:List ABI}(hB:NC E w bx bx Fs)(st:∀c,E.S c→E.T c){x:AV}{n:Nat}(e:lenOf bx x=some n){v:Value}(hx:VR E w bx x v):
  ∃a cap,v= .slice a n cap:=by
 cases x with
 |nil=>simp only[lenOf,ALW]at e;subst e;exact⟨_,_,hx⟩
 |sl s r x=>
  simp only[lenOf,ALW]at e;subst e;simp only[VR,Rd]at hx;obtain⟨a,cap,h,_⟩:=hx;simp only[AQN,ASn]at h;exact⟨a,cap,h⟩
 |ref b p=>
  simp only[lenOf]at e;split at e
  ·rename_i d r rows hb
   simp only[ALe]at e;obtain⟨q,hq,rfl⟩:=e;obtain⟨a,cap,h,_⟩:=zI hB st hx (q:=q.1) (ys:=q.2) (by simp only[NA,hb];exact hq);exact⟨a,cap,h⟩
  ·cases e
 |win b p off m=>
  simp only[lenOf]at e;split at e
  ·rename_i d r rows hb
   cases e;simp only[VR,hb]at hx;obtain⟨_,_,q,ys,a,len,cap,_,_,_,rfl⟩:=hx;exact⟨_,_,rfl⟩
  ·cases e
 |_=>simp[lenOf]at e
omit hT in
theorem TU{big:Bool}{x z:XV}{k:AV→Option Y}{y:Y}(e:tM big x z k=some y){v u:Value}(hx:XR E w vw x v)(hz:XR E w vw z u)(t s:Array TypeId)(tt:TypeId):
  ∃r val,k r=some y∧(if big then Builtin.max_ t tt #[v,u]else Builtin.min_ t tt #[v,u]).run P w= .ok val w∧VR E w vw r val:=by
 unfold tM at e;split at e
 ·rename_i j m j' n
  have hv:=av (E:=E) (w:=w) (vw:=vw) hx;have hu:=av (E:=E) (w:=w) (vw:=vw) hz;subst hv hu;split at e
  case isFalse=>cases e
  rename_i hj;subst hj;cases big with
  |true=>exact⟨_,.int j (if n>m then n else m),e,by simp[Builtin.max_,Builtin.max2],VR.int _ _⟩
  |false=>exact⟨_,.int j (if n<m then n else m),e,by simp[Builtin.min_,Builtin.min2],VR.int _ _⟩
 ·cases e
omit hT in
theorem js{op:UnOp}{x:XV}{k:AV→Option Y}{y:Y}(e:unX op x k=some y){v:Value}(hx:XR E w vw x v):
  ∃r val,k r=some y∧(Op.unary op v).run P w= .ok val w∧VR E w vw r val:=by
 unfold unX at e;split at e
 ·have hv:=RJ (E:=E) (w:=w) (vw:=vw) hx
  subst hv;exact⟨_,_,e,by simp[Op.unary],VR.bool _⟩
 ·rename_i j n
  have hv:=av (E:=E) (w:=w) (vw:=vw) hx;subst hv;exact⟨_,.int j (j.wrap (0-n)),e,by simp[Op.unary,Op.intArith],VR.int _ _⟩
 ·cases e
end
end Go.Fw
end
section
namespace Go.Fw
theorem Qy{a:Ty}(x:a.D):pQ rfl x=x:=rfl
theorem dh{w:World}{S:Nat→Prop}:∀{r:Ty} {d j:Nat} {cs:List Value} {x:r.D} {F:ABI} {t:Ty} {y:t.D},Ow w S d r cs x F→BL r j x=some ⟨t,y⟩→
  ∃v F1 F2,cs[j]? =some v∧Ow w S d t [v] y F1∧F.Perm (F1++F2)∧
   ∀(w':World) (S':Nat→Prop) (v':Value) (y':t.D) (nB:ABI) (x':r.D),(∀b,S b→S' b)→(∀b,S b→w'.heap[b]? =w.heap[b]?)→(∀b∈F2,w'.heap[b]? =w.heap[b]?)→
    Ow w' S' d t [v'] y' nB→D5 r j x t y' =some x'→ ∃F',F'.Perm (nB++F2)∧Ow w' S' d r (cs.set j v') x' F'
 | .cons c r,d,0,cs,x,F,t,y,h,e=>by
  simp only[Ow]at h;obtain⟨v,l,A,B,rfl,rfl,h1,h2⟩:=h;simp only[BL,ALW,AMn]at e;obtain⟨rfl,e⟩:=e;obtain rfl:=AQ3 e;refine⟨v,A,B,rfl,h1,AXD _,fun w' S' v' y' nB x' hS sb hF ho hx=> ?_⟩;simp only[D5,AW2,Qy,ALW]at hx;subst hx;refine⟨nB++B,AXD _,?_⟩;simp only[Ow,AWt];exact⟨v',l,nB,B,rfl,rfl,ho,ES hS sb hF h2⟩
 | .cons c r,d,j+1,cs,x,F,t,y,h,e=>by
  simp only[Ow]at h;obtain⟨v,l,A,B,rfl,rfl,h1,h2⟩:=h;simp only[BL]at e;obtain⟨u,F1,F2,k1,k2,k3,k4⟩:=dh h2 e;refine⟨u,F1,A++F2,by simp_all,k2,?_,fun w' S' v' y' nB x' hS sb hF ho hx=> ?_⟩
  ·grind
  ·simp only[D5,ALe]at hx
   obtain⟨z,hz,rfl⟩:=hx;obtain⟨F',p1,p2⟩:=k4 w' S' v' y' nB z hS sb (fun b hb=>hF b (by simp[hb])) ho hz;refine⟨A++F',?_,?_⟩
   ·grind
   ·simp only[Ow,List.set_cons_succ]
    exact⟨v,_,A,F',rfl,rfl,ES hS sb (fun b hb=>hF b (by simp[hb])) h1,p2⟩
 | .int k,d,0,cs,x,F,t,y,h,e=>by
  simp only[BL,ALW,AMn]at e;obtain⟨rfl,e⟩:=e;obtain rfl:=AQ3 e;have hc:=We h;obtain⟨v,rfl⟩:∃v,cs=[v]:=by
   cases cs with
   |nil=>simp[Ty.n]at hc
   |cons a l=>cases l with
    |nil=>simp_all
    |cons _ _=>simp[Ty.n]at hc
  refine⟨v,F,[],rfl,h,by simp,fun w' S' v' y' nB x' hS sb hF ho hx=>⟨nB,by simp,?_⟩⟩;simp only[D5,AW2,Qy,ALW]at hx;simp_all
 | .bool,d,0,cs,x,F,t,y,h,e=>by
  simp only[BL,ALW,AMn]at e;obtain⟨rfl,e⟩:=e;obtain rfl:=AQ3 e;have hc:=We h;obtain⟨v,rfl⟩:∃v,cs=[v]:=by
   cases cs with
   |nil=>simp[Ty.n]at hc
   |cons a l=>cases l with
    |nil=>simp_all
    |cons _ _=>simp[Ty.n]at hc
  refine⟨v,F,[],rfl,h,by simp,fun w' S' v' y' nB x' hS sb hF ho hx=>⟨nB,by simp,?_⟩⟩;simp only[D5,AW2,Qy,ALW]at hx;simp_all
 | .str,d,0,cs,x,F,t,y,h,e=>by
  simp only[BL,ALW,AMn]at e;obtain⟨rfl,e⟩:=e;obtain rfl:=AQ3 e;have hc:=We h;obtain⟨v,rfl⟩:∃v,cs=[v]:=by
   cases cs with
   |nil=>simp[Ty.n]at hc
   |cons a l=>cases l with
    |nil=>simp_all
    |cons _ _=>simp[Ty.n]at hc
  refine⟨v,F,[],rfl,h,by simp,fun w' S' v' y' nB x' hS sb hF ho hx=>⟨nB,by simp,?_⟩⟩;simp only[D5,AW2,Qy,ALW]at hx;simp_all
 | .sl r,d,0,cs,x,F,t,y,h,e=>by
  simp only[BL,ALW,AMn]at e;obtain⟨rfl,e⟩:=e;obtain rfl:=AQ3 e;have hc:=We h;obtain⟨v,rfl⟩:∃v,cs=[v]:=by
   cases cs with
   |nil=>simp[Ty.n]at hc
   |cons a l=>cases l with
    |nil=>simp_all
    |cons _ _=>simp[Ty.n]at hc
  refine⟨v,F,[],rfl,h,by simp,fun w' S' v' y' nB x' hS sb hF ho hx=>⟨nB,by simp,?_⟩⟩;simp only[D5,AW2,Qy,ALW]at hx;simp_all
 | .unit,_,_,_,_,_,_,_,_,e=>by simp[BL]at e
 | .int _,_,_+1,_,_,_,_,_,_,e=>by simp[BL]at e
 | .bool,_,_+1,_,_,_,_,_,_,e=>by simp[BL]at e
 | .str,_,_+1,_,_,_,_,_,_,e=>by simp[BL]at e
 | .sl _,_,_+1,_,_,_,_,_,_,e=>by simp[BL]at e
theorem jc{Fs:List ABI}{i:Nat}{G G':ABI}(h:Fs[i]? =some G):(Fs.set i G').flatten.Perm (G'++(Fs.set i []).flatten):=by
 have Jq:=(ALf.1 h).1;have p1:=Ub (Fs:=Fs.set i G') (b:=i) (F:=G') (ASx (by omega));simp_all
theorem uI{w:World}{S:Nat→Prop}{d:Nat}{q:Ty}{a:Option Addr}{len cap:Nat}{ys:List q.D}{F:ABI}(h:Ow w S (d+1) (.sl q) [.slice a len cap] ys F){i:Nat}(hi:i<ys.length):
  ∃b o arr ty fr cs G R,a=some ⟨b,o,none⟩∧w.heap[b]? =some (.cells arr ty fr)∧vx fr arr.size∧o+i*q.n+q.n≤arr.size∧cs.length=q.n∧Bb w b (o+i*q.n) cs∧
   Ow w S d q cs (rowAt q ys i) G∧F.Perm (G++(b::R))∧
   ∀(w':World) (S':Nat→Prop) (KX:Array Value) (cx:List Value) (Zd:q.D) (G':ABI),(∀c,S c→S' c)→(∀c,S c→w'.heap[c]? =w.heap[c]?)→(∀c∈R,w'.heap[c]? =w.heap[c]?)→
    w'.heap[b]? =some (.cells KX ty fr)→KX.size=arr.size→(∀k,(k<o+i*q.n∨o+i*q.n+q.n≤k)→KX[k]? =arr[k]?)→cx.length=q.n→Bb w' b (o+i*q.n) cx→
    Ow w' S' d q cx Zd G'→ ∃F',F'.Perm (G'++(b::R))∧Ow w' S' (d+1) (.sl q) [.slice a len cap] (ys.set i Zd) F':=by
 simp only[Ow]at h;obtain⟨a',cap',e,hle,h⟩:=h;simp only[AQN,Value.slice.injEq,ASn]at e;obtain⟨rfl,rfl,rfl⟩:=e;rcases h with⟨h1,_⟩|⟨b,o,arr,ty,fr,Fs,rfl,hb,O_,hu,rfl,hFl,bQ⟩
 ·omega
 ·have hG:Fs[i]? =some (Fs[i]'(by omega)):=ALR _
  generalize Fs[i]'(by omega)=G at hG
  obtain⟨cs,c1,c2,c3⟩:=bQ i _ G (Q3 hi) hG;have hbound:o+i*q.n+q.n≤arr.size:=by
   have:(i+1)*q.n≤cap*q.n:=AOk _ (by omega);grind
  refine⟨b,o,arr,ty,fr,cs,G,(Fs.set i []).flatten,rfl,hb,fun i hi=>hu i (by omega),hbound,c1,c2,c3,?_,?_⟩
  ·refine(List.Perm.cons b (Ub hG)).trans ?_
   exact List.perm_middle.symm
  ·intro w' S' KX cx Zd G' hS sb hR z6 uz hk cu hca ho
   refine⟨b::(Fs.set i G').flatten,?_,?_⟩
   ·grind[List.Perm.cons,jc,trans]
   ·simp only[Ow]
    refine⟨_,cap,by simp,by simp_all,.inr ⟨b,o,KX,ty,fr,Fs.set i G',rfl,z6,by omega,by simp_all,rfl,by simp_all,fun k y H hy hH=> ?_⟩⟩;by_cases e:k=i
    ·grind
    ·rw[AR8 (by omega)]at hy
     rw[AR8 (by omega)]at hH;obtain⟨ds,d1,d2,d3⟩:=bQ k y H hy hH;refine⟨ds,d1,fun j v hj=> ?_,ES hS sb (fun c hc=>hR c (ARg.2 ⟨H,ANO (by grind:(Fs.set i [])[k]? =some H),hc⟩)) d3⟩;have qN:=(ALf.1 hj).1;have hold:=d2 j v hj;simp only[World.cell?,hb,ASr,ALr,AOV]at hold;simp only[World.cell?,z6,ASr,ALr,AOV];rw[hk,hold];rcases Nat.lt_or_gt_of_ne e with e|e
     ·left
      have:(k+1)*q.n≤i*q.n:=AOk _ e;grind
     ·right
      have:(i+1)*q.n≤k*q.n:=AOk _ e;grind
theorem oW{w:World}{S:Nat→Prop}:∀{p:List V_} {d:Nat} {r:Ty} {h:Value} {rows:List r.D} {F:ABI} {q:Ty} {ys:List q.D},Ow w S d (.sl r) [h] rows F→DE r rows p→
  G5 r rows p=some ⟨q,ys⟩→p.length<d→ ∃h' F1 F2,Ir w h p=some h'∧Ow w S (d-p.length) (.sl q) [h'] ys F1∧F.Perm (F1++F2)∧
   ∀(w':World) (S':Nat→Prop) (ui:List q.D) (nB:ABI) (C1:List r.D),(∀c,S c→S' c)→(∀c,S c→w'.heap[c]? =w.heap[c]?)→(∀c∈F2,w'.heap[c]? =w.heap[c]?)→
    Ow w' S' (d-p.length) (.sl q) [h'] ui nB→nv r rows p q ui=some C1→ ∃F',F'.Perm (nB++F2)∧Ow w' S' d (.sl r) [h] C1 F'
 |[],d,r,h,rows,F,q,ys,ho,_,hg,_=>by
  simp only[G5,ALW,AMn]at hg;obtain⟨rfl,e⟩:=hg;obtain rfl:=AQ3 e;refine⟨h,F,[],DB,ho,by simp,fun w' S' ui nB C1 _ _ _ we hs=>⟨nB,by simp,?_⟩⟩;simp only[nv,AW2,Qy,ALW]at hs;simp_all
 |s::p,d,r,h,rows,F,q,ys,ho,hp,hg,hd=>by
  obtain⟨d,rfl⟩:∃n,d=n+1:=⟨d-1,by omega⟩;simp only[DE]at hp;obtain⟨hi,O_,hp⟩:=hp;simp only[G5]at hg;obtain⟨a,len,cap,rfl⟩:∃a len cap,h= .slice a len cap:=by
   have:=ho;simp only[Ow]at this;grind
  split at hg
  case h_2=>cases hg
  rename_i q' x' gV;rw[gV]at hp;obtain⟨b,o,arr,ty,fr,cs,G,R,rfl,hb,hu,hbd,c1,c2,c3,pc,hback⟩:=uI ho hi;obtain⟨v,A1,A2,k1,k2,k3,k4⟩:=dh c3 gV;obtain⟨h',F1,F2,m1,m2,m3,m4⟩:=oW k2 hp hg (by simp_all);have AB4:d+1-(s::p).length=d-p.length:=by simp
  refine⟨h',F1,F2++A2++(b::R),?_,by simp_all,?_,?_⟩
  ·simp only[Ir]
   rw[O_,c2 _ _ k1];omega
  ·grind
  ·intro w' S' ui nB C1 hS sb hF2 we Wb
   rw[AB4]at we;simp only[nv,gV]at Wb;simp only[ALt,ALe]at Wb;obtain⟨x2,hx2,Zd,hrow,rfl⟩:=Wb;obtain⟨B1,p1,p2⟩:=m4 w' S' ui nB x2 hS sb (fun c hc=>hF2 c (by simp[hc])) we hx2;obtain⟨B2,p3,p4⟩:=k4 w' S' v x2 B1 Zd hS sb (fun c hc=>hF2 c (by simp[hc])) p2 hrow;have AH4:cs.set s.j v=cs:=by
    apply AUx;grind
   rw[AH4]at p4;have hbb:=hF2 b (by simp);obtain⟨F',p5,p6⟩:=hback w' S' arr cs Zd B2 hS sb (fun c hc=>hF2 c (by simp[hc])) (hbb.trans hb) rfl (fun _ _=>rfl) c1 (c2.of_block hbb) p4;grind
end Go.Fw
end
section
namespace Go.Fw
def OR(E:Env)(w:World)(vw:List Bx):Option XV→Option Value→Prop
 |none,none=>True
 |some x,some v=>XR E w vw x v
 |_,_=>False
section
variable{Y:Type} {P:Program} {T:Jg} (hT:Ef P T) {E:Env} {w:World} {vw:List Bx}
theorem run_sliceBound{κ:IntKind}{i:Int}{y:Nat}{code:BoundsCode}(h0:0≤i)(h1:i≤(y:Int)):(Instr.sliceBound (.int κ i) y code).run P w= .ok i.toNat w:=by
 simp[Instr.sliceBound,asIntOf,h0,h1]
theorem S4{len cap:Nat}(hc:len≤cap){lo hi:Option XV}{k:Nat→Nat→Option Y}{y:Y}(e:Nv len lo hi k=some y){lv hv:Option Value}
  (hl:OR E w vw lo lv) (hh:OR E w vw hi hv) (b:Bool):∃l h,k l h=some y∧l≤h∧h≤len∧(Instr.sliceBounds b len cap lv hv none).run P w= .ok (l,h,cap) w:=by
 unfold Nv at e;dsimp only at e;split at e
 case h_2=>cases e
 rename_i l h el eh;split at e
 case isFalse=>cases e
 rename_i hb;obtain⟨b1,b2,b3⟩:=hb;refine⟨l.toNat,h.toNat,e,by omega,by omega,?_⟩;cases hi with
 |none=>cases hv with
  |some _=>exact hh.elim
  |none=>
   simp only[ALW]at eh;subst eh;cases lo with
   |none=>cases lv with
    |some _=>exact hl.elim
    |none=>
     simp only[ALW]at el;subst el;rfl
   |some x=>cases lv with
    |none=>exact hl.elim
    |some v=>
     obtain⟨κ,rfl⟩:=IQ (E:=E) (w:=w) (vw:=vw) el hl;simp[Instr.sliceBounds,run_sliceBound (P:=P) (w:=w) (κ:=κ) (i:=l) (y:=len) b1 (by omega)]
 |some x=>cases hv with
  |none=>exact hh.elim
  |some v=>
   obtain⟨κ,rfl⟩:=IQ (E:=E) (w:=w) (vw:=vw) eh hh;have e1:=fun code=>run_sliceBound (P:=P) (w:=w) (κ:=κ) (i:=h) (y:=cap) (code:=code) (by omega) (by omega)
   cases lo with
   |none=>cases lv with
    |some _=>exact hl.elim
    |none=>
     simp only[ALW]at el;subst el;simp[Instr.sliceBounds,e1]
   |some x=>cases lv with
    |none=>exact hl.elim
    |some v=>
     obtain⟨κ',rfl⟩:=IQ (E:=E) (w:=w) (vw:=vw) el hl;have e2:=fun code=>run_sliceBound (P:=P) (w:=w) (κ:=κ') (i:=l) (y:=h.toNat) (code:=code) b1 (by omega)
     simp[Instr.sliceBounds,e1,e2]
theorem ql(s:ABs)(l h:Nat):(⟨s.toArray⟩:ByteArray).extract l h=⟨((s.drop l).take (h-l)).toArray⟩:=by
 apply ByteArray.ext;simp[List.extract_eq_take_drop]
include hT
theorem ir{σ:St}{Fs:List ABI}(hB:NC E w σ.bx σ.bx Fs)(st:∀c,E.S c→E.T c){t:Nat}{x:XV}{lo hi:Option XV}{k:K Y}{y:Y}(e:kO T t σ x lo hi k=some y)
  {v:Value} {lv hv:Option Value} (hx:XR E w σ.bx x v) (hl:OR E w σ.bx lo lv) (hh:OR E w σ.bx hi hv):
  ∃z val,k z σ=some y∧(Instr.sliceAt t v lv hv none).run P w= .ok val w∧XR E w σ.bx z val:=by
 unfold kO at e;split at e
 ·rename_i s
  split at e
  case isFalse=>cases e
  rename_i cz;have hu:=Wg hT cz;have Xi:=XL (E:=E) (w:=w) (vw:=σ.bx) hx;subst Xi;obtain⟨l,h,ek,h1,h2,hr⟩:=S4 (P:=P) (cap:=s.length) (APz _) e hl hh false;refine⟨_,.string ⟨((s.drop l).take (h-l)).toArray⟩,ek,?_,VR.str (E:=E) (vw:=σ.bx) _⟩;have hs:(⟨s.toArray⟩:ByteArray).size=s.length:=by rfl
  simp[Instr.sliceAt,BZ hu,Instr.slice,hs,hr,ql]
 ·rename_i s r rows
  split at e
  case isFalse=>cases e
  rename_i UJ;obtain⟨el,ti,hu,T4,hs,_⟩:=KZ hT UJ;have O_:=Ef.sizeOf hT T4 w
  change VR E w σ.bx (.sl s r rows) v at hx
  have y_:=hx;simp only[VR,Rd]at y_;obtain⟨a,cap,Xi,hle,_⟩:=y_;simp only[AQN,ASn]at Xi;subst Xi;obtain⟨l,h,ek,h1,h2,hr⟩:=S4 (P:=P) hle e hl hh true;refine⟨_,Uo r.n l (h-l) a cap,ek,?_,?_⟩
  ·simp[Instr.sliceAt,BZ hu,Instr.slice,hr,O_,hs,Uo]
  grind[XR,VR,xc]
 ·rename_i b p
  split at e
  case h_2=>cases e
  rename_i q hq;split at e
  case isFalse=>cases e
  rename_i UJ;obtain⟨el,ti,hu,T4,hs,_⟩:=KZ hT UJ;have O_:=Ef.sizeOf hT T4 w
  change VR E w σ.bx (.ref b p) v at hx
  obtain⟨a,cap,rfl,hle,_⟩:=zI hB st hx hq;obtain⟨l,h,ek,h1,h2,hr⟩:=S4 (P:=P) hle e hl hh true;refine⟨_,Uo q.1.n l (h-l) a cap,ek,?_,?_⟩
  ·simp[Instr.sliceAt,BZ hu,Instr.slice,hr,O_,hs,Uo]
  ·simp only[NA]at hq
   obtain⟨_,hx⟩:=hx;refine⟨by rfl,?_⟩;grind
 simp_all
omit hT in
theorem bF{f:Nat→Option AV}:∀{n j:Nat} {l:List AV},cY f j n=some l→l.length=n∧ ∀(i:Nat) x,l[i]? =some x→f (j+i)=some x
 |0,j,l,e=>by simp only[cY,ALW]at e;subst e;simp
 |n+1,j,l,e=>by
  simp only[cY,ALt,ALe]at e;obtain⟨x,hx,l',hl,rfl⟩:=e;obtain⟨h1,h2⟩:=bF hl;refine⟨by simp[h1],fun i z hz=> ?_⟩;cases i with
  |zero=>simp at hz;subst hz;exact hx
  |succ i=>
   have:=h2 i z (by simpa using hz)
   rwa [show j+1+i=j+(i+1)by omega]at this
omit hT in
theorem V8{B:Nat→Prop}{t:Ty}{x:t.D}{v:Value}(h:Rd w B t [v] x)(hs:t.scalar=true):VR E w vw (.v t x) v:=by
 refine⟨hs,?_⟩;cases t<;>first
  |(simpa only[Rd]using h)
  |(simp[Ty.scalar]at hs)
omit hT in
theorem ACc{s:Bool}{t:Ty}{x:t.D}{v:Value}(h:Rd w (if s then E.S else E.T) t [v] x):VR E w vw (zL s ⟨t,x⟩) v:=by
 cases t with
 |sl r=>simp only[zL,VR];exact h
 |int k=>exact V8 h rfl
 |bool=>exact V8 h rfl
 |str=>exact V8 h rfl
 |unit=>trivial
 |cons c r=>trivial
omit hT in
theorem lr{s:V_}:∀{p:List V_} {r:Ty} {rows:List r.D} {q:Ty} {ys:List q.D} {t:Ty} {x:List t.D},DE r rows p→G5 r rows p=some ⟨q,ys⟩→s.i<ys.length→s.sz=q.n→
  BL q s.j (rowAt q ys s.i)=some ⟨.sl t,x⟩→DE r rows (p++[s])∧G5 r rows (p++[s])=some ⟨t,x⟩
 |[],r,rows,q,ys,t,x,_,hg,hi,hs,hc=>by
  simp only[G5,ALW,AMn]at hg;obtain⟨rfl,e⟩:=hg;obtain rfl:=AQ3 e;refine⟨?_,?_⟩
  ·simp only[ASg,DE,hc]
   exact⟨hi,hs,trivial⟩
  ·simp only[ASg,G5,hc]
 |s'::p,r,rows,q,ys,t,x,hp,hg,hi,hs,hc=>by
  simp only[DE]at hp;obtain⟨h1,h2,hp⟩:=hp;simp only[G5]at hg;split at hg
  ·rename_i q' x' gV
   rw[gV]at hp;obtain⟨a,b⟩:=lr hp hg hi hs hc;refine⟨?_,?_⟩
   ·simp only[AVH,DE,gV]
    exact⟨h1,h2,a⟩
   ·simp only[AVH,G5,gV]
    exact b
  ·cases hg
omit hT in
theorem nZ{s:V_}:∀{p:List V_} {h:Value} {b o len cap:Nat} {v:Value},Ir w h p=some (.slice (some ⟨b,o,none⟩) len cap)→w.cell? ⟨b,o+s.i*s.sz+s.j,none⟩=some v→
  Ir w h (p++[s])=some v
 |[],h,b,o,len,cap,v,e,hc=>by
  rw[DB]at e;cases e;simp[Ir,hc,DB]
 |s'::p,h,b,o,len,cap,v,e,hc=>by
  cases h with
  |slice a l c=>
   cases a with
   |none=>simp[Ir]at e
   |some a=>
    simp only[Ir]at e;split at e
    ·rename_i h' hh
     simp only[AVH,Ir,hh];exact nZ e hc
    ·cases e
  |_=>simp[Ir]at e
omit hT in
theorem K5{bx:List Bx}{Fs:List ABI}(hB:NC E w bx bx Fs)(st:∀c,E.S c→E.T c){x z:AV}{i:Nat}(e:JB bx x i=some z){v:Value}(hx:VR E w bx x v):
  ∃b o u,v= .pointer (some ⟨b,o,none⟩)∧w.cell? ⟨b,o+i,none⟩=some u∧VR E w bx z u:=by
 cases x with
 |IG b j=>
  simp only[JB]at e;split at e
  ·rename_i cs hb
   obtain⟨F,⟨_,arr,ty,fr,ha,hu,hv⟩,_⟩:=hB.get hb;obtain⟨u,h1,h2⟩:=Cb.get hv e;refine⟨_,_,u,hx.2,?_,h2⟩;simp only[World.cell?,ha,ASr,ALr,AOV];simpa using h1
  ·cases e
 |JX b p r sz j=>
  simp only[JB]at e;split at e
  ·rename_i d q rows hb
   split at e
   case isFalse=>cases e
   rename_i hd;simp only[ALt]at e;obtain⟨⟨q',ui⟩,hg,e⟩:=e;split at e
   case isFalse=>cases e
   rename_i O_;simp only[ALe]at e;obtain⟨⟨t,y⟩,hc,rfl⟩:=e;simp only[VR,hb]at hx;obtain⟨_,hp,q1,ys,bb,o,len,cap,g1,g2,g3,rfl⟩:=hx;rw[hg]at g1;simp only[ALW,AMn]at g1;obtain⟨rfl,g1⟩:=g1;obtain rfl:=AQ3 g1;dsimp only at O_ hc;obtain⟨F,⟨hd1,ho⟩,hF⟩:=hB.get hb;have Yv:=cP (FI.refl bx) hB st hb hp hg g3;have AdR:=Yv;simp only[Rd]at Yv;obtain⟨a',cap',ee,hle,Yv⟩:=Yv;simp only[AQN,Value.slice.injEq,ASn]at ee;obtain⟨rfl,rfl,rfl⟩:=ee;rcases Yv with Yv|⟨b1,o1,e7,_,Yv⟩
   ·omega
   ·cases e7
    obtain⟨cs,c1,c2,c3⟩:=Yv r _ (Q3 g2);obtain⟨u,hu,hur⟩:=dv c3 hc;have Z1:=c2 _ _ hu;rw[←O_]at Z1;refine⟨_,_,u,rfl,by rw[AS9];exact Z1,?_⟩;cases t with
    |sl t' =>
     simp only[AAi];split
     ·rename_i hdd
      obtain⟨h',F1,F2,m1,m2,_,_⟩:=oW ho hp hg hd;rw[g3]at m1;cases m1;rw[show d-p.length=0+1 by omega]at m2;obtain⟨b2,o2,arr,ty,fr,cs2,G,R,e2,_,_,_,_,k2,k3,_,_⟩:=uI m2 g2;cases e2;obtain⟨v2,A1,A2,z1,z2,_,_⟩:=dh k3 hc;have AD2:=k2 _ _ z1;rw[←O_,Z1]at AD2;cases AD2;simp only[Ow]at z2;simp only[VR];exact z2.1
     ·simp only[VR,hb]
      have:=lr (s:=⟨r,sz,j+i⟩) hp hg g2 O_ hc;simp only[Rd]at hur;obtain⟨a2,cap2,e2,_⟩:=hur;simp only[AQN,ASn]at e2;refine⟨by rw[e2];rfl,this.1,⟨_,this.2⟩,nZ g3 Z1⟩
    |int k=>exact V8 hur rfl
    |bool=>exact V8 hur rfl
    |str=>exact V8 hur rfl
    |unit=>trivial
    |cons c r=>trivial
  ·cases e
 |PB s r y j=>
  simp only[JB,ALe]at e;obtain⟨⟨t,y'⟩,hc,rfl⟩:=e;obtain⟨bb,o,cs,rfl,h2,h3,h4,h5⟩:=hx;obtain⟨u,hu,hur⟩:=dv h5 hc;refine⟨_,_,u,rfl,by rw[AS9];exact h4 _ _ hu,ACc hur⟩
 |_=>simp[JB]at e
omit hT in
theorem cW{bx:List Bx}{Fs:List ABI}(hB:NC E w bx bx Fs)(st:∀c,E.S c→E.T c){x:AV}{v:Value}(hx:VR E w bx x v){b o:Nat}(hv:v= .pointer (some ⟨b,o,none⟩)):
  ∀{l:List AV} {j:Nat},(∀(i:Nat) z,l[i]? =some z→JB bx x (j+i)=some z)→ ∃cs:List Value,cs.length=l.length∧Bb w b (o+j) cs∧gi E w bx l cs
 |[],_,_=>⟨[],rfl,fun _ _ h=>by simp at h,trivial⟩
 |z::l,j,h=>by
  obtain⟨b',o',u,e1,e2,e3⟩:=K5 hB st (h 0 z rfl) hx;subst hv;simp only[Value.pointer.injEq,ALW,Addr.mk.injEq,ASn]at e1;obtain⟨rfl,rfl⟩:=e1;obtain⟨cs,c1,c2,c3⟩:=cW hB st hx rfl (l:=l) (j:=j+1) (fun i y hy=>by
   have:=h (i+1) y (by simpa using hy)
   rwa [show j+1+i=j+(i+1)by omega])
  refine⟨u::cs,by simp[c1],fun i y hy=> ?_,e3,c3⟩;cases i with
  |zero=>simp at hy;subst hy;exact e2
  |succ i=>
   have:=c2 i y (by simpa using hy)
   rwa [show o+(j+1)+i=o+j+(i+1)by omega]at this
theorem um{σ:St}{Fs:List ABI}(hB:NC E w σ.bx σ.bx Fs)(st:∀c,E.S c→E.T c){t:Nat}{x z:XV}(e:lW T t σ x=some z){v:Value}(hx:XR E w σ.bx x v):
  ∃u,(Instr.loadAt t v).run P w= .ok u w∧XR E w σ.bx z u:=by
 unfold lW at e;split at e
 case h_2=>cases e
 rename_i x ti T4;split at e
 case isTrue=>cases e
 rename_i O_;have ik:=Ef.isAgg hT T4 w;split at e
 ·rename_i ha
  rw[ha]at ik;simp only[ALe]at e;obtain⟨l,hl,rfl⟩:=e;obtain⟨h1,h2⟩:=bF hl;have h0:0<l.length:=by omega
  obtain⟨b,o,u,hv,_,_⟩:=K5 hB st (h2 0 _ (ALR h0)) hx;obtain⟨cs,c1,c2,c3⟩:=cW hB st hx hv (l:=l) (j:=0) (fun i y hy=>by simp_all);subst hv;have iX:=(hT t ti T4).und;cases hd:ti.desc with
  |st fs=>
   rw[hd]at iX;obtain⟨fields,hu,_⟩:=iX;refine⟨.agg cs.toArray,run_loadAt_mid w b o t cs _ (by grind[Bb,World.rangeAt]) hu rfl ?_,cs.toArray,rfl,by omega⟩;grind[Ef.size]
  |_=>grind[TD.agg]
 ·rename_i ha
  simp only[AO4]at ha;rw[ha]at ik;simp only[ALe]at e;obtain⟨y,hy,rfl⟩:=e;obtain⟨b,o,u,hv,hc,hr⟩:=K5 hB st hy hx;subst hv;refine⟨u,?_,hr⟩;simp only[ATU]at hc;simp[Instr.loadAt,Instr.sureAddr,loadVar,ik,hc]
end
end Go.Fw
end
section
namespace Go.Fw
theorem pn{w:World}{S:Nat→Prop}{d:Nat}{q:Ty}:Ow w S d (.sl q) [.slice none 0 0] [] []:=by
 cases d with
 |zero=>simp only[Ow,Rd];simp_all
 |succ d=>simp only[Ow];simp_all
theorem AC_{w:World}{S:Nat→Prop}{d:Nat}{r:Ty}{a:Option Addr}{len cap:Nat}{ys:List r.D}{F:ABI}(h:Ow w S (d+1) (.sl r) [.slice a len cap] ys F){off n:Nat}(hn:off+n≤ys.length):
  ∃F1 F2,F.Perm (F1++F2)∧Ow w S (d+1) (.sl r) [Uo r.n off n a cap] ((ys.drop off).take n) F1:=by
 simp only[Ow]at h⊢;obtain⟨a',cap',e,hc,h⟩:=h;simp only[AQN,Value.slice.injEq,ASn]at e;obtain⟨rfl,rfl,rfl⟩:=e;have hl:((ys.drop off).take n).length=n:=by grind
 by_cases h0:cap=off
 ·subst h0
  refine⟨[],F,by simp,a,0,by simp[Uo,hl],by omega,.inl ⟨rfl,rfl⟩⟩
 ·rcases h with⟨h,rfl⟩|⟨b,o,arr,ty,fr,Fs,rfl,hb,O_,hu,rfl,hFl,hr⟩
  ·omega
  ·have p:Fs.flatten.Perm (((Fs.drop off).take n).flatten++((Fs.take off).flatten++(Fs.drop (off+n)).flatten)):=by
    grind[List.drop_drop,List.take_append_drop,List.flatten_append,List.append_assoc,List.Perm.append_right,List.perm_append_comm]
   refine⟨b::((Fs.drop off).take n).flatten,(Fs.take off).flatten++(Fs.drop (off+n)).flatten,List.Perm.cons b p,some ⟨b,o+off*r.n,none⟩,cap-off,?_,by omega,.inr ⟨b,o+off*r.n,arr,ty,fr,_,rfl,hb,?_,hu,rfl,?_,?_⟩⟩
   ·grind[Uo,Addr.add_eq]
   ·have:off*r.n+(cap-off)*r.n=cap*r.n:=by rw[←AS5];grind
    omega
   all_goals grind
theorem Le.keep{E E':Env}(h:Le E E'){w:World}{vw:List Bx}(st:∀c,E.S c→E.T c):SR E w vw E' w vw:=
 ⟨APz _,fun b _=>by rw[h.Ht],h.T,h.S,st,fun _ _=>rfl,fun b d r rows _ e=>⟨d,rows,e,fun p hp q ys hg=>⟨hp,⟨ys,hg,rfl⟩,fun h' hh=>by rw[h.Hu];omega⟩⟩⟩
theorem C_.share{E:Env}{w:World}{vw bx:List Bx}{F W G:ABI}(h:C_ E w vw bx (F++W++G)):
  let E':Env:={ E with S:=fun c=>E.S c∨c∈W,T:=fun c=>E.T c∨c∈W }
  Le E E'∧C_ E' w vw bx (F++G):=by
 intro E';have st:=h.st;have hle:Le E E':=⟨rfl,rfl,fun c hc=> .inl hc,fun c hc=> .inl hc,fun c hc=>hc.elim .inl fun h' => .inr (.inr h'),fun c hc=>hc.elim .inl fun h' => .inr (h.AEg c (by simp[h']))⟩;refine⟨hle,?_⟩;obtain⟨Fs,⟨h1,h2⟩,h3⟩:=h;refine⟨Fs,⟨h1,fun k B F' hk hF=> ?_⟩,?_⟩
 ·have:=h2 k B F' hk hF
  cases B with
  |mem cs=>
   obtain⟨rfl,arr,ty,fr,a1,a2,a3⟩:=this;exact⟨rfl,arr,ty,fr,a1,a2,a3.imp fun _ _ hv=>GK (hle.keep st) hv⟩
  |sl d r rows=>exact⟨this.1,ES hle.S (fun _ _=>rfl) (fun _ _=>rfl) this.2⟩
  |dead=>exact this
 ·have h4:Sep E w (W++(Fs.flatten++(F++G))):=h3.perm (by
   grind)
  refine⟨(AMx.1 h4.nodup).2.1,fun c hc ht=> ?_,fun c hc=>h4.lt c (by simp_all),fun c hc=>hc.imp (st c) id,fun c hc=>hc.elim (h4.cA c) fun h' =>h4.lt c (by simp[h'])⟩;rcases ht with ht|ht
  ·exact h4.free c (AOs.2 (.inr hc)) ht
  ·exact(AMx.1 h4.nodup).2.2 c ht c hc rfl
structure HA (E:Env) (w:World) (vw bx:List Bx) (G:ABI) (E':Env) (QX:List Bx) (F:ABI):Prop where
 le:Le E E'
 len:QX.length=bx.length
 within:∀(b:Nat) (B:Bx),QX[b]? =some B→B= .dead∨bx[b]? =some B
 boxes:C_ E' w vw QX (F++G)
theorem HA.refl{E:Env}{w:World}{vw bx:List Bx}{G:ABI}(h:C_ E w vw bx G):HA E w vw bx G E bx []:=
 ⟨Le.refl E,rfl,fun _ _ h=> .inr h,h⟩
theorem FI.nP{E E':Env}{w:World}{vw bx QX:List Bx}{G F:ABI}(h:FI bx vw)(k:HA E w vw bx G E' QX F):FI QX vw:=fun b B e=>
 (k.within b B e).elim .inl (h b B)
theorem bD{E:Env}{w:World}{vw bx:List Bx}{G:ABI}(h:C_ E w vw bx G)(hw:FI bx vw){d:Nat}(hd:1≤d){t:Ty}{x:AV}{v:Value}(hv:VR E w vw x v){y:t.D}{QX:List Bx}{d':Nat}
  (e:cC d t x bx=some (y,QX,d')):1≤d'∧d'≤d∧ ∃E' F,HA E w vw bx G E' QX F∧Ow w E'.S (d'-1) t [v] y F:=by
 unfold cC at e;split at e
 ·rename_i u z
  simp only[ALe,APo]at e;obtain⟨z',e1,rfl,rfl,rfl⟩:=e;obtain⟨e2,e3⟩:=H3 e1;subst e2;subst e3;refine⟨hd,APz _,E,[],HA.refl h,?_⟩;obtain⟨hs,hr⟩:=hv;cases u<;>simp_all[Ty.scalar,Ow,Rd]
 ·split at e
  ·simp only[ALW,APo]at e
   obtain⟨rfl,rfl,rfl⟩:=e;simp only[VR]at hv;subst hv;exact⟨hd,APz _,E,[],HA.refl h,pn⟩
  simp_all
 ·rename_i r z
  split at e
  ·rename_i q
   simp only[ALe,APo]at e;obtain⟨z',e1,rfl,rfl,rfl⟩:=e;obtain⟨e2,e3⟩:=H3 e1;subst e2;subst e3;refine⟨APz _,hd,E,[],HA.refl h,?_⟩;simp only[VR]at hv;simp only[AXC,Ow];simp_all
  simp_all
 ·rename_i b
  split at e
  case h_2=>cases e
  rename_i q;split at e
  case h_2=>cases e
  rename_i db r z hb;simp only[ALe,APo]at e;obtain⟨z',e1,rfl,rfl,rfl⟩:=e;obtain⟨e2,e3⟩:=H3 e1;subst e2;subst e3;obtain⟨F0,⟨hd1,ho⟩,hB⟩:=h.take hb;have hvv:v=E.Hu b:=by
   grind[VR,X7,DB]
  subst hvv;obtain⟨F1,W,hp,we⟩:=J4 (d:=min d (db+1)-1) (by omega) ho;have TF:=hB.perm (AUd G hp);obtain⟨hle,XU⟩:=TF.share;refine⟨by omega,Nat.min_le_left _ _,_,F1,⟨hle,by simp,fun k B hk=> ?_,XU⟩,we⟩;grind
 ·rename_i b off n
  split at e
  case h_2=>cases e
  rename_i q;split at e
  case h_2=>cases e
  rename_i db r z hb;simp only[ALe,APo]at e;obtain⟨z',e1,rfl,rfl,rfl⟩:=e;obtain⟨e2,e3⟩:=H3 e1;subst e2;subst e3;obtain⟨F0,⟨hd1,ho⟩,hB⟩:=h.take hb;simp only[VR,X7 hw hb,DB]at hv;obtain⟨_,_,q',ys,a,len,cap,hg,hn,hh,rfl⟩:=hv;simp only[G5,ALW,AMn]at hg;obtain⟨rfl,hg⟩:=hg;obtain rfl:=AQ3 hg;simp only[ALW]at hh;rw[hh]at ho;obtain⟨db,rfl⟩:∃m,db=m+1:=⟨db-1,by omega⟩;obtain⟨A1,A2,hp0,ho0⟩:=AC_ ho hn;obtain⟨F1,W,hp,we⟩:=J4 (d:=min d (db+1+1)-1) (by omega) ho0;have hB1:C_ E w vw (bx.set b .dead) (A1++G):=by
   refine C_.drop (G':=A2) (hB.perm ?_);grind
  have TF:=hB1.perm (AUd G hp);obtain⟨hle,XU⟩:=TF.share;refine⟨by omega,Nat.min_le_left _ _,_,F1,⟨hle,by simp,fun k B hk=> ?_,XU⟩,we⟩;grind
 simp_all
theorem ZG{w:World}{vw:List Bx}:∀{r:Ty} {E:Env} {bx:List Bx} {G:ABI} {d:Nat} {l:List AV} {vs:List Value} {y:r.D} {QX:List Bx} {d':Nat},C_ E w vw bx G→FI bx vw→1≤d→
  gi E w vw l vs→cellsIn d r l bx=some (y,QX,d')→1≤d'∧d'≤d∧ ∃E' F,HA E w vw bx G E' QX F∧Ow w E'.S (d'-1) r vs y F
 | .unit,E,bx,G,d,[],[],y,QX,d',h,hw,hd,_,e=>by
  simp only[cellsIn,ALW,APo]at e;obtain⟨_,rfl,rfl⟩:=e;exact⟨hd,APz _,E,[],HA.refl h,by simp only[Ow];simp_all⟩
 | .cons c r,E,bx,G,d,x::l,v::vs,y,QX,d',h,hw,hd,hv,e=>by
  simp only[cellsIn,ALt,ALe,APo]at e;obtain⟨⟨y1,jN,d1⟩,e1,⟨y2,aA,d2⟩,e2,rfl,rfl,rfl⟩:=e;dsimp only at e2⊢;obtain⟨a1,a2,E1,F1,k1,o1⟩:=bD h hw hd hv.1 e1;have wS:=k1.le.keep (w:=w) (vw:=vw) h.st;obtain⟨b1,b2,E2,F2,k2,o2⟩:=ZG (G:=F1++G) k1.boxes (hw.nP k1) a1 (hv.2.imp fun _ _ h=>GK wS h) e2;obtain⟨A,W,hp,o1'⟩:=J4 (d:=d'-1) (by omega) o1;have hB:=k2.boxes.perm (G':=(F2++A)++W++G) (by
   grind)
  obtain⟨hle,XU⟩:=hB.share;refine⟨b1,ARE b2 a2,_,A++F2,⟨(k1.le.trans k2.le).trans hle,k2.len.trans k1.len,fun b B hb=>(k2.within b B hb).elim .inl (k1.within b B),XU.perm (AUd _ List.perm_append_comm)⟩,?_⟩;simp only[Ow];refine⟨v,vs,A,F2,rfl,rfl,?_,?_⟩
  ·refine ES (S:=fun b=>E1.S b∨b∈W) ?_ (fun _ _=>rfl) (fun _ _=>rfl) o1'
   intro c hc;exact hc.elim (fun h=> .inl (k2.le.S c h)) .inr
  ·refine ES (S:=E2.S) ?_ (fun _ _=>rfl) (fun _ _=>rfl) o2
   simp_all
 | .unit,_,_,_,_,_::_,_,_,_,_,_,_,_,_,e=>by simp[cellsIn]at e
 | .unit,_,_,_,_,[],_::_,_,_,_,_,_,_,hv,_=>hv.elim
 | .cons _ _,_,_,_,_,[],_,_,_,_,_,_,_,_,e=>by simp[cellsIn]at e
 | .cons _ _,_,_,_,_,_::_,[],_,_,_,_,_,_,hv,_=>hv.elim
 | .int _,_,_,_,_,_,_,_,_,_,_,_,_,_,e=>by simp[cellsIn]at e
 | .bool,_,_,_,_,_,_,_,_,_,_,_,_,_,e=>by simp[cellsIn]at e
 | .str,_,_,_,_,_,_,_,_,_,_,_,_,_,e=>by simp[cellsIn]at e
 | .sl _,_,_,_,_,_,_,_,_,_,_,_,_,_,e=>by simp[cellsIn]at e
theorem sw{E:Env}{w:World}{vw:List Bx}{x:AV}{v:Value}(h:VR E w vw x v)(hk:x.known=true):v.oneCell' =true∧v.cells= #[v]:=by
 have aux:∀{v:Value},isSlice v=true→v.oneCell' =true∧v.cells= #[v]:=by intro v h;cases v<;>simp_all[isSlice,Value.oneCell',Value.cells]
 have AYq:∀{v:Value},bR v=true→v.oneCell' =true∧v.cells= #[v]:=by intro v h;cases v<;>simp_all[bR,Value.oneCell',Value.cells]
 cases x with
 |v t y=>
  obtain⟨hs,hr⟩:=h;cases t<;>simp[Ty.scalar]at hs<;>simp only[Rd,AQN,ASn]at hr<;>subst hr<;>exact⟨rfl,rfl⟩
 |sl s r y=>
  simp only[VR,Rd]at h;obtain⟨a,cap,h,_⟩:=h;simp only[AQN,ASn]at h;subst h;exact⟨rfl,rfl⟩
 |nil=>simp only[VR]at h;subst h;exact⟨rfl,rfl⟩
 |ref b p=>exact aux h.1
 |win b p off n=>exact aux h.1
 |IG b j=>rw[h.2];exact⟨rfl,rfl⟩
 |JX b p i sz j=>exact AYq h.1
 |PB s r y j=>obtain⟨bb,o,cs,rfl,_⟩:=h;exact⟨rfl,rfl⟩
 |fn f KM=>rw[h.2];exact⟨rfl,rfl⟩
 |qP f rows=>obtain⟨ps,rfl,_⟩:=h;exact⟨rfl,rfl⟩
 |xj=>simp only[VR]at h;subst h;exact⟨rfl,rfl⟩
 |undef=>simp[AV.known]at hk
theorem zr{E:Env}{w:World}{vw:List Bx}:∀{l:List AV} {vs:List Value},gi E w vw l vs→l.all AV.known=true→ ∀v∈vs,v.oneCell' =true
 |[],[],_,_=>by simp
 |x::l,v::vs,h,hk=>by
  simp only[AS3,ALp]at hk;intro u hu;rcases AO3.1 hu with rfl|hu
  ·exact(sw h.1 hk.1).1
  ·exact zr h.2 hk.2 u hu
theorem ni{E:Env}{w:World}{vw:List Bx}{x:XV}{v:Value}(h:XR E w vw x v)(hk:x.cells.all AV.known=true)(hn:x.cells≠[]):gi E w vw x.cells v.cells.toList∧ ∀u∈v.cells.toList,u.oneCell' =true:=by
 cases x with
 |c x=>
  have h':VR E w vw x v:=h;obtain⟨h1,h2⟩:=sw h' (by grind[XV.cells]);rw[h2];exact⟨⟨h',trivial⟩,by simp_all⟩
 |agg l=>
  obtain⟨vs,rfl,VI⟩:=h;exact⟨VI,zr VI hk⟩
 |Mh l=>simp[XV.cells]at hn
theorem vM{w:World}{vw:List Bx}{r:Ty}{E:Env}{bx:List Bx}{G:ABI}{d:Nat}{x:XV}{v:Value}{y:r.D}{QX:List Bx}{d':Nat}(h:C_ E w vw bx G)(hw:FI bx vw)(hd:1≤d)
  (hv:XR E w vw x v) (e:ADS d r x bx=some (y,QX,d')):1≤d'∧d'≤d∧ ∃E' F,HA E w vw bx G E' QX F∧Ow w E'.S (d'-1) r v.cells.toList y F:=by
 unfold ADS at e;split at e
 ·rename_i l
  obtain⟨vs,rfl,VI⟩:=hv;exact ZG h hw hd VI e
 ·rename_i x
  have Xi:VR E w vw x v:=hv;have hk:x.known=true:=by grind[AV.known,cC]
  rw[(sw Xi hk).2];exact bD h hw hd Xi e
 simp_all
end Go.Fw
end
section
namespace Go.Fw
def Env.ay(E:Env)(n:Nat)(h:Value):Env:={ E with Hu:=fun k=>if k=n then h else E.Hu k }
def Env.di(E:Env)(n b:Nat):Env:={ E with Ht:=fun k=>if k=n then b else E.Ht k }
theorem gX{E E1 E':Env}{w w':World}{vw jN QX:List Bx}{F:ABI}(k:HA E w vw vw [] E1 jN F)(st:∀c,E.S c→E.T c)(hlen:vw.length≤QX.length)
  (ug:∀b B,b<vw.length→QX[b]? =some B→jN[b]? =some B) (AE_:∀b,b<vw.length→E'.Ht b=E1.Ht b) (mY:∀b,b<vw.length→E'.Hu b=E1.Hu b) (hT:E'.T=E1.T) (hS:E'.S=E1.S)
  (hw:∀c,c<w.heap.size→c∉F→w'.heap[c]? =w.heap[c]?):SR E w vw E' w' QX:=by
 have hB:=k.boxes;obtain⟨Fs,⟨h1,h2⟩,h3⟩:=hB;simp only[AMa]at h3;have xM:∀c,E1.T c→w'.heap[c]? =w.heap[c]?:=fun c hc=>hw c (h3.cA c hc) fun hf=>h3.free c (by simp[hf]) hc
 refine⟨hlen,fun b hb=>by rw[AE_ b hb,k.le.Ht],fun c hc=>by rw[hT];exact k.le.T c hc,fun c hc=>by rw[hS];exact k.le.S c hc,st,fun c hc=>xM c (k.le.T c hc),fun b d r rows hb e=> ?_⟩;have e1:=ug b _ hb e;rcases k.within b _ e1 with e2|e2
 ·cases e2
 ·refine⟨d,rows,e2,fun p hp q ys hg=>⟨hp,⟨ys,hg,rfl⟩,fun h' hh=> ?_⟩⟩
  have hF:Fs[b]? =some (Fs[b]'(by grind)):=ALR _;obtain⟨hd,ho⟩:=h2 b _ _ e1 hF;rw[mY b hb];rw[←k.le.Hu]at hh;refine tZ ho (fun c hc=>xM c (h3.st c hc)) (fun c hc=> ?_) hp hg hh;have O9:c∈Fs.flatten:=ARg.2 ⟨_,ANO hF,hc⟩;exact hw c (h3.lt c (by simp[O9])) fun hf=>(AMx.1 h3.nodup).2.2 c O9 c hf rfl
structure Grown (w w':World):Prop where
 os:w'.os=w.os
 tape:w'.tape=w.tape
 output:w'.output=w.output
 size:w.heap.size≤w'.heap.size
theorem S9{E E1:Env}{σ:St}{a:Act}{w w':World}{jN:List Bx}{F F':ABI}(h:Rel E σ a w)(k:HA E w σ.bx σ.bx [] E1 jN F){v:Value}{d:Nat}{r:Ty}{rows:List r.D}(hd:1≤d)
  (ho:Ow w' E1.S d (.sl r) [v] rows F') (hF':∀c∈F',c∈F∨w.heap.size≤c) (nd:F'.Nodup) (Jq:∀c∈F',c<w'.heap.size) (hw:∀c,c<w.heap.size→c∉F→w'.heap[c]? =w.heap[c]?) (g:Grown w w'):
  let E':=E1.ay jN.length v
  Rel E' { σ with bx:=jN++[.sl d r rows] } a w'∧Q6 [] E σ.bx w E' (jN++[.sl d r rows]) w'∧XR E' w' (jN++[.sl d r rows]) (.c (.ref jN.length [])) v:=by
 intro E';have st:=h.bx.st;have hn:=k.len;have keep:SR E w σ.bx E' w' (jN++[.sl d r rows]):=gX k st (by simp[hn]) (fun b B hb e=>by
   grind) (fun b _=>rfl) (fun b hb=>by grind[Env.ay]) rfl rfl hw
 have wS:SR E1 w σ.bx E' w' (jN++[.sl d r rows]):=by
  have k':HA E1 w σ.bx σ.bx [] E1 jN F:=⟨Le.refl _,k.len,k.within,k.boxes⟩;exact gX k' k.boxes.st (by simp[hn]) (fun b B hb e=>by
   grind) (fun b _=>rfl) (fun b hb=>by grind[Env.ay]) rfl rfl hw
 obtain⟨Fs,⟨h1,h2⟩,h3⟩:=k.boxes;simp only[AMa]at h3;have xM:∀c,E1.T c→w'.heap[c]? =w.heap[c]?:=fun c hc=>hw c (h3.cA c hc) fun hf=>h3.free c (by simp[hf]) hc
 have hF0:∀c∈Fs.flatten,w'.heap[c]? =w.heap[c]?:=fun c hc=>hw c (h3.lt c (by simp[hc])) fun hf=>(AMx.1 h3.nodup).2.2 c hc c hf rfl
 refine⟨⟨h.NO,h.tm.imp fun _ _ hx=>O1 keep hx,?_⟩,?_,?_⟩
 ·refine⟨Fs++[F'],⟨by simp[h1],fun n B G hB hG=> ?_⟩,?_⟩
  ·by_cases vm:n<jN.length
   ·rw[ANA vm]at hB
    rw[ANA (by omega)]at hG;have:=h2 n B G hB hG;have hGw:∀c∈G,w'.heap[c]? =w.heap[c]?:=fun c hc=>hF0 c (ARg.2 ⟨G,ANO hG,hc⟩)
    cases B with
    |mem cs=>
     obtain⟨rfl,arr,ty,fr,a1,a2,a3⟩:=this;exact⟨rfl,arr,ty,fr,(hGw (E1.Ht n) (by simp)).trans a1,a2,a3.imp fun _ _ hv=>GK wS hv⟩
    |sl d0 r0 SB=>
     refine⟨this.1,?_⟩;have e0:E'.Hu n=E1.Hu n:=by grind[Env.ay]
     rw[e0];exact ES (fun _ hc=>hc) (fun c hc=>xM c (h3.st c hc)) hGw this.2
    |dead=>exact this
   ·have ya:=(ALf.1 hB).1
    simp at ya;obtain rfl:n=jN.length:=by omega
    rw[AOU (by omega)]at hB hG;simp[h1]at hB hG;subst hB hG;refine⟨hd,?_⟩;grind[Env.ay]
  ·simp only[AS6,ATB,AVM,AMa]
   have nd0:=AMx.1 h3.nodup;refine⟨AMx.2 ⟨nd0.1,nd,fun x hx y hy e=> ?_⟩,fun c hc ht=> ?_,fun c hc=> ?_,h3.st,fun c hc=>ASh (h3.cA c hc) g.size⟩
   ·grind
   ·rcases AOs.1 hc with hc|hc
    ·exact h3.free c (by simp[hc]) ht
    ·rcases hF' c hc with h|h
     ·exact h3.free c (by simp[h]) ht
     ·have:=h3.cA c ht;omega
   ·rcases AOs.1 hc with hc|hc
    ·exact ASh (h3.lt c (by simp[hc])) g.size
    simp_all
 ·refine⟨⟨k.le.T,k.le.S,k.le.Tof,k.le.zq,fun c hc=>xM c (k.le.T c hc),g.os,g.tape,g.output,g.size⟩,by simp[hn],fun b hb=>⟨by show E1.Ht b=_;rw[k.le.Ht],?_⟩,fun b hb=> ?_,fun n B B' _ hB TF qO=> ?_⟩
  ·have:E'.Hu b=E1.Hu b:=by grind[Env.ay]
   rw[this,k.le.Hu]
  ·have hbl:=(ALf.1 hb).1
   rw[ANA (by omega)];obtain⟨B,hB⟩:∃B,jN[b]? =some B:=⟨_,ALR (by omega)⟩;rcases k.within b B hB with e|e
   all_goals simp_all
  ·have vm:=(ALf.1 hB).1
   rw[ANA (by omega)]at TF;rcases k.within n B' TF with e|e
   ·simp_all
   rw[hB]at e;cases e;refine⟨U1.refl qO,fun c hc=> ?_⟩;have hF:Fs[n]? =some (Fs[n]'(by omega)):=ALR _;have hR:=h2 n B _ TF hF;have ZL:xH E1 w n B c:=by
    cases B with
    |mem cs=>simp only[xH]at hc⊢;rw[k.le.Ht];omega
    |sl d r rows=>simp only[xH]at hc⊢;rw[k.le.Hu];omega
    |dead=>exact hc
   rcases dU hR ZL with hs|hs
   ·exact xM c (h3.st c hs)
   grind[List.mem_flatten,List.mem_of_getElem?]
 ·have e0:E'.Hu jN.length=v:=by simp[E',Env.ay]
  refine⟨?_,?_⟩
  ·have:=XJ ho
   simp only[Rd]at this;obtain⟨_,_,e,_⟩:=this;simp only[AQN,ASn]at e;rw[e];rfl
  ·have:(jN++[Bx.sl d r rows])[jN.length]? =some (.sl d r rows):=by simp
   rw[this];exact⟨by simp[DE],⟨_,rfl⟩,by rw[e0,DB]⟩
theorem oU{E:Env}{σ:St}{a:Act}{w:World}(h:Rel E σ a w){cs:List AV}{arr:Array Value}(ty:TypeId)(hv:gi E w σ.bx cs arr.toList):
  let E':=E.di σ.bx.length w.heap.size
  let w':=w.alloc (.cells arr ty)
  Rel E' (σ.new (.mem cs)) a w'∧Q6 [] E σ.bx w E' (σ.new (.mem cs)).bx w'∧XR E' w' (σ.new (.mem cs)).bx (.c (.IG σ.bx.length 0)) (.pointer (some ⟨w.heap.size,0,none⟩)):=by
 intro E' w';have st:=h.bx.st;have hw:∀c,c<w.heap.size→c∉([]:ABI)→w'.heap[c]? =w.heap[c]?:=fun c hc _=>by
  show(w.heap.push (.cells arr ty))[c]? =_
  grind
 have hB0:=h.bx;have keep:SR E w σ.bx E' w' (σ.bx++[.mem cs]):=gX (HA.refl hB0) st (by simp) (fun b B hb e=>by
   grind) (fun b hb=>by grind[Env.di]) (fun b _=>rfl) rfl rfl hw
 obtain⟨Fs,⟨h1,h2⟩,h3⟩:=h.bx;simp only[AMa]at h3;have new:w'.heap[w.heap.size]? =some (.cells arr ty):=by
  show(w.heap.push (.cells arr ty))[w.heap.size]? =_
  simp
 refine⟨⟨h.NO,h.tm.imp fun _ _ hx=>O1 keep hx,?_⟩,?_,?_⟩
 ·refine⟨Fs++[[w.heap.size]],⟨by simp[St.new,h1],fun n B G hB hG=> ?_⟩,?_⟩
  ·simp only[St.new]at hB
   by_cases vm:n<σ.bx.length
   ·rw[ANA vm]at hB
    rw[ANA (by omega)]at hG;have:=h2 n B G hB hG;have hGw:∀c∈G,w'.heap[c]? =w.heap[c]?:=fun c hc=>hw c (h3.lt c (by simp;grind)) (by simp)
    have eb:E'.Ht n=E.Ht n:=by grind[Env.di]
    cases B with
    |mem cs0=>
     obtain⟨rfl,arr0,ty0,fr,a1,a2,a3⟩:=this;refine⟨by rw[eb],arr0,ty0,fr,?_,a2,a3.imp fun _ _ hv=>GK keep hv⟩;simp_all
    |sl d0 r0 SB=>exact⟨this.1,ES (fun _ hc=>hc) (fun c hc=>hw c (h3.cA c (st c hc)) (by simp)) hGw this.2⟩
    |dead=>exact this
   ·have ya:=(ALf.1 hB).1
    simp at ya;obtain rfl:n=σ.bx.length:=by omega
    rw[AOU (by omega)]at hB hG;simp[h1]at hB hG;subst hB hG;have eb:E'.Ht σ.bx.length=w.heap.size:=by simp[E',Env.di]
    refine⟨by rw[eb],arr,ty,(0,0),by simp_all,fun i _ h=>by omega,hv.imp fun _ _ hv=>GK keep hv⟩
  ·simp only[AS6,ATB,AVM,AMa]
   refine⟨AMx.2 ⟨h3.nodup,by simp,fun x hx y hy e=> ?_⟩,fun c hc ht=> ?_,fun c hc=> ?_,h3.st,fun c hc=> ?_⟩
   ·subst e
    simp at hy;have:=h3.lt x hx;omega
   ·rcases AOs.1 hc with hc|hc
    ·exact h3.free c hc ht
    ·simp at hc;have:=h3.cA c ht;omega
   ·rcases AOs.1 hc with hc|hc
    ·have:=h3.lt c hc;grind
    grind
   ·have:=h3.cA c hc;grind
 ·refine⟨⟨fun _ h=>h,fun _ h=>h,fun _ h=> .inl h,fun _ h=> .inl h,fun c hc=>hw c (h3.cA c hc) (by simp),rfl,rfl,rfl,by simp[w']⟩,by simp[St.new],fun b hb=>⟨?_,rfl⟩,fun b hb=> ?_,fun n B B' _ hB TF qO=> ?_⟩
  ·grind[Env.di]
  ·grind[List.getElem?_eq_some_iff,St.new,List.getElem?_append_left]
  ·have vm:=(ALf.1 hB).1
   simp only[St.new]at TF;rw[ANA vm,hB]at TF;cases TF;refine⟨U1.refl qO,fun c hc=> ?_⟩;have hF:Fs[n]? =some (Fs[n]'(by omega)):=ALR _;rcases dU (h2 n B _ hB hF) hc with hs|hs
   ·exact hw c (h3.cA c (st c hs)) (by simp)
   ·exact hw c (h3.lt c (ARg.2 ⟨_,ANO hF,hs⟩)) (by simp)
 ·refine⟨by simp[St.new],?_⟩
  simp[E',Env.di]
end Go.Fw
end
section
namespace Go.Fw
theorem Gp:∀r:Ty,(Eh r).length=r.n
 | .cons c r=>by simp[Eh,Ty.n,Gp r]
 | .unit=>rfl
 | .int _=>rfl
 | .bool=>rfl
 | .str=>rfl
 | .sl _=>rfl
theorem ZW{E:Env}{w:World}{vw:List Bx}(t:Ty):VR E w vw (yf t) (zv t):=by
 cases t<;>first
  |exact VR.int _ _
  |exact VR.bool _
  |exact VR.str _
  |rfl
  |trivial
theorem Xy{E:Env}{w:World}{vw:List Bx}:∀r:Ty,gi E w vw (bE r) (Eh r)
 | .cons c r=>⟨ZW c,Xy r⟩
 | .unit=>trivial
 | .int k=>⟨ZW (.int k),trivial⟩
 | .bool=>⟨ZW .bool,trivial⟩
 | .str=>⟨ZW .str,trivial⟩
 | .sl r=>⟨ZW (.sl r),trivial⟩
theorem dw{w:World}{S:Nat→Prop}{d:Nat}:∀{r:Ty},r.uY=true→Ow w S d r (Eh r) r.z []
 | .cons c r,h=>by
  simp only[Ty.uY,ALp]at h;simp only[Ow,Eh];refine⟨_,_,[],[],rfl,rfl,?_,dw h.2⟩;cases c with
  |sl q=>exact pn
  |int k=>simp[Ow,zv,Ty.z]
  |bool=>simp[Ow,zv,Ty.z]
  |str=>simp[Ow,zv,Ty.z]
  |unit=>simp[Ty.cell]at h
  |cons _ _=>simp[Ty.cell]at h
 | .unit,_=>by simp[Ow,Eh]
 | .int k,_=>by simp[Ow,Eh,zv,Ty.z]
 | .bool,_=>by simp[Ow,Eh,zv,Ty.z]
 | .str,_=>by simp[Ow,Eh,zv,Ty.z]
 | .sl q,_=>pn
theorem YT{n:Nat}:∀{css:List (List Value)} {ex:List Value} {i j:Nat} {cs:List Value},(∀c∈css,c.length=n)→css[i]? =some cs→j<n→(css.flatten++ex)[i*n+j]? =cs[j]?
 |[],_,_,_,_,_,h,_=>by simp at h
 |c::css,ex,0,j,cs,hl,h,hj=>by
  grind
 |c::css,ex,i+1,j,cs,hl,h,hj=>by
  have hc:=hl c (by simp);have ih:=YT (css:=css) (ex:=ex) (i:=i) (j:=j) (cs:=cs) (fun c' ZL=>hl c' (AW6 _ ZL)) (by simp_all) hj;simp only[ATB,AM4];rw[AOU (by grind),←ih];congr 1;grind
theorem mV{w:World}{b:Nat}{arr:Array Value}{ty:TypeId}{fr:ACf}(hb:w.heap[b]? =some (.cells arr ty fr)){n:Nat}{css:List (List Value)}{ex:List Value}(ha:arr.toList=css.flatten++ex)
  (hl:∀c∈css,c.length=n) {i:Nat} {cs:List Value} (h:css[i]? =some cs):Bb w b (i*n) cs:=by
 intro j v hj;have hjn:j<n:=by
  grind
 simp only[World.cell?,hb,ASr,ALr,AOV];rw[←Array.getElem?_toList,ha,YT hl h hjn,hj]
theorem dC{w:World}{S:Nat→Prop}{d b cap:Nat}{r:Ty}{rows:List r.D}{arr:Array Value}{ty:TypeId}{fr:ACf}(hb:w.heap[b]? =some (.cells arr ty fr)){css:List (List Value)}{ex:List Value}
  (ha:arr.toList=css.flatten++ex) (hc:css.length=rows.length) (yK:rows.length≤cap) (O_:cap*r.n≤arr.size) (hu:vx fr (arr.size+mk r)) {Fs:List ABI} (hF:Fs.length=rows.length)
  (bQ:∀(i:Nat) cs y G,css[i]? =some cs→rows[i]? =some y→Fs[i]? =some G→Ow w S d r cs y G):
  Ow w S (d+1) (.sl r) [.slice (some ⟨b,0,none⟩) rows.length cap] rows (b::Fs.flatten):=by
 have hl:∀c∈css,c.length=r.n:=by
  intro c ZL;obtain⟨i,hi,rfl⟩:=AQU ZL;exact We (bQ i _ _ _ (ALR hi) (ALR (by omega)) (ALR (by omega)))
 simp only[Ow];refine⟨_,cap,rfl,yK,.inr ⟨b,0,arr,ty,fr,Fs,rfl,hb,by omega,hu,rfl,hF,fun i y G hy hG=> ?_⟩⟩;have hi:i<css.length:=by
  grind
 refine⟨css[i],hl _ (AL5 hi),?_,bQ i _ y G (ALR hi) hy hG⟩;rw[ASz];grind[mV,List.getElem?_eq_getElem]
theorem WB(n:Nat):vx (0,0) n:=fun i _ h=>by omega
theorem Im{w:World}{o:Obj}{c:Nat}(h:c<w.heap.size):(w.heap.push o)[c]? =w.heap[c]?:=by
 grind
section
variable{Y:Type} {P:Program} {T:Jg} (hT:Ef P T) {o:Oper} {E:Env} {σ:St} {a:Act} {w:World} {k:K Y} {y:Y}
theorem ACu(h:Rel E σ a w){t:TypeId}{x:Operand}(ho:o.op= .box t x)(hk:(σ.ev x).cells.all AV.known=true)(hn:(σ.ev x).cells≠[])(e:k (.c (.IG σ.bx.length 0)) (σ.new (.mem (σ.ev x).cells))=some y):
  K4 P o E σ a w k y:=by
 obtain⟨h1,h2⟩:=ni (h.ev x) hk hn;obtain⟨r1,r2,r3⟩:=oU h t h1;refine⟨_,_,_,_,_,.inl ?_,r1,r3,r2.any,rfl,e⟩;simp only[execOp,ho,Instr.box,newVar,newRow,Sem.run_bind,run_newObj,Result.andThen_ok,Sem.run_pure];rfl
include hT
theorem row_zero{t:Nat}{r:Ty}(e:T.gx t=some r):∃i z,P.info? t=some i∧i.zero=some z∧z.cells.toList=Eh r∧r.uY=true:=by
 unfold Jg.gx at e;split at e
 ·rename_i ti T4
  obtain⟨i,h1,_,_,h2⟩:=(hT t ti T4).info;simp_all
 simp_all
theorem y8(h:Rel E σ a w){t:TypeId}(ho:o.op= .alloc t){r:Ty}(hr:T.gx t=some r)(e:k (.c (.IG σ.bx.length 0)) (σ.new (.mem (bE r)))=some y):K4 P o E σ a w k y:=by
 obtain⟨i,z,h1,h2,h3,_⟩:=row_zero hT hr;obtain⟨r1,r2,r3⟩:=oU (arr:=z.cells) h t (by rw[h3];exact Xy r);refine⟨_,_,_,_,_,.inl ?_,r1,r3,r2.any,rfl,e⟩;simp only[execOp,ho,Instr.alloc,zeroValue,typeInfo,newVar,newRow,Sem.run_bind,run_program,Result.andThen_ok,h1,h2,run_newObj,Sem.run_pure];rfl
end
end Go.Fw
end
section
namespace Go.Fw
def FG(arr:Array Value):Nat→List Value→Array Value
 |_,[]=>arr
 |o,c::l=>FG (arr.setIfInBounds o c) (o+1) l
theorem Fe:∀(l:List Value) (o:Nat) (arr:Array Value),(FG arr o l).size=arr.size
 |[],_,_=>rfl
 |c::l,o,arr=>by simp[FG,Fe l]
theorem oE(off:Nat):∀(l:List Value) (k:Nat) (arr:Array Value),(l.zipIdx k).foldl (fun cs (q:Value×Nat)=>cs.setIfInBounds (off+q.2) q.1) arr=FG arr (off+k) l
 |[],_,_=>rfl
 |c::l,k,arr=>by
  simp only[List.zipIdx_cons,List.foldl_cons,FG];rw[oE off l (k+1)];rfl
theorem Wv{E:Env}{w:World}{vw:List Bx}:∀{xs:List AV} {vs:List Value} {cs cx:List AV} {arr:Array Value} {o:Nat},gi E w vw cs arr.toList→gi E w vw xs vs→Wa cs o xs=some cx→
  gi E w vw cx (FG arr o vs).toList∧o+xs.length≤cs.length∨(xs=[]∧cx=cs)
 |[],[],cs,cx,arr,o,h,_,e=>by simp only[Wa,ALW]at e;simp_all
 |x::xs,v::vs,cs,cx,arr,o,h,hx,e=>by
  simp only[Wa]at e;split at e
  case isFalse=>cases e
  rename_i ho;have h1:gi E w vw (cs.set o x) (arr.setIfInBounds o v).toList:=by
   rw[Array.toList_setIfInBounds];exact Cb.set h hx.1
  rcases Wv h1 hx.2 e with⟨h2,h3⟩|⟨rfl,rfl⟩
  ·refine .inl ⟨h2,?_⟩
   grind
  ·cases vs with
   |nil=>exact .inl ⟨h1,by grind⟩
   |cons _ _=>exact hx.2.elim
 |[],_::_,_,_,_,_,_,hx,_=>hx.elim
 |_::_,[],_,_,_,_,_,hx,_=>hx.elim
section
variable{Y:Type} {P:Program} {T:Jg} (hT:Ef P T) {o:Oper} {E:Env} {σ:St} {a:Act} {w:World} {k:K Y} {y:Y}
def yk(E:Env)(w:World)(vw:List Bx)(l:List (Nat×XV))(m:List (Nat×Value)):Prop:=Cb (fun x v=>x.1=v.1∧XR E w vw x.2 v.2) l m
theorem nq(h:Rel E σ a w)(ps:Array (Nat×Operand)):yk E w σ.bx (ps.toList.map fun q=>(q.1,σ.ev q.2)) (ps.map fun(i,x)=>(i,a.eval x)).toList:=by
 rw[Array.toList_map]
 generalize ps.toList=l
 induction l with
 |nil=>trivial
 |cons q l ih=>exact⟨⟨rfl,h.ev q.2⟩,ih⟩
theorem r9{place:Nat→Option ACf}{i off size:Nat}(hp:place i=some (off,size)){cells:Array Value}{v:Value}{rest:List (Nat×Value)}(h1:v.cells.size=size)(h2:off+v.cells.size≤cells.size):
  Instr.fill place cells ((i,v)::rest)=Instr.fill place (FG cells off v.cells.toList) rest:=by
 have e:v.cells.zipIdx.foldl (fun cs (q:Value×Nat)=>cs.setIfInBounds (off+q.2) q.1) cells=FG cells off v.cells.toList:=by
  rw[←Array.foldl_toList];have:(v.cells.zipIdx).toList=v.cells.toList.zipIdx:=by simp
  rw[this];exact oE off v.cells.toList 0 cells
 conv=>lhs;unfold Instr.fill
 grind
theorem pU{α β:Type}{f:α→Option β}{g:α→β}:∀{l:List α},(∀x∈l,f x=some (g x))→l.mapM f=some (l.map g)
 |[],_=>rfl
 |x::l,h=>by
  simp only[AXE,h x (by simp),pU (l:=l) (g:=g) (fun y hy=>h y (by simp[hy]))];rfl
include hT
theorem bA{fs:List ACf}{vw:List Bx}:∀{parts:List (Nat×XV)} {vals:List (Nat×Value)} {cs cx:List AV} {arr:Array Value},yk E w vw parts vals→gi E w vw cs arr.toList→fT T fs cs parts=some cx→
  ∃KX:Array Value,Instr.fill (fun i=>(fs[i]?).bind fun q=>((P.info? q.2).map fun i=>(q.1,i.size))) arr vals=some KX∧gi E w vw cx KX.toList
 |[],[],cs,cx,arr,_,h,e=>by
  simp only[fT,ALW]at e;subst e;exact⟨arr,rfl,h⟩
 |(i,x)::ps,(j,v)::vs,cs,cx,arr,hp,h,e=>by
  obtain⟨⟨hij,hx⟩,hp⟩:=hp;simp only at hij hx;subst hij;simp only[fT]at e;split at e
  case h_2=>cases e
  rename_i off u hf;split at e
  case h_2=>cases e
  rename_i ti T4;split at e
  case isFalse=>cases e
  rename_i hc;obtain⟨c1,c2,c3⟩:=hc;simp only[ALt]at e;obtain⟨cs1,e1,e2⟩:=e;have bM:x.cells≠[]:=by grind
  obtain⟨x1,x2⟩:=ni hx c3 bM;rcases Wv h x1 e1 with⟨s1,s2⟩|⟨s1,_⟩
  ·have O_:v.cells.size=ti.size:=by
    have:=x1.len;simp_all
   have hlen:=h.len;obtain⟨KX,f1,f2⟩:=bA hp s1 e2;refine⟨KX,?_,f2⟩;have AXj:(fun i=>(fs[i]?).bind fun q=>((P.info? q.2).map fun i=>(q.1,i.size))) i=some (off,ti.size):=by
    have:=Ef.size hT T4;simp_all
   grind[r9]
  simp_all
 |[],_::_,_,_,_,hp,_,_=>hp.elim
 |_::_,[],_,_,_,hp,_,_=>hp.elim
theorem yI(h:Rel E σ a w){t:TypeId}{ps:Array (Nat×Operand)}(ho:o.op= .build t ps){s b:Nat}{fs:List ACf}{rw:Option Ty}(T4:T.get t=some ⟨s,b,.st fs,rw⟩){r:Ty}(hr:T.gx t=some r)
  {cs:List AV} (hb:fT T fs (bE r) (ps.toList.map fun q=>(q.1,σ.ev q.2))=some cs) (e:k (.agg cs) σ=some y):K4 P o E σ a w k y:=by
 obtain⟨i,z,h1,h2,h3,_⟩:=row_zero hT hr;obtain⟨fields,hu,hfs,O_⟩:=AJf hT T4;obtain⟨KX,f1,f2⟩:=bA hT (nq h ps) (arr:=z.cells) (by grind[Xy]) hb;refine K4.same h (v:= .agg KX) (x:= .agg cs) ?_ ⟨KX,rfl,f2⟩ e
 have hb:P.built t (ps.map fun(i,x)=>(i,a.eval x)).toList=some KX:=by
  unfold Program.built;simp only[h1,hu,h2];have hm:fields.toList.mapM (fun f=>(P.info? f.type).map fun i=>(f.offset,i.size))=some (fields.toList.map fun f=>(f.offset,((P.info? f.type).map (·.size)).getD 0)):=by
   grind[pU]
  simp only[hm];rw[←f1];congr 1;funext n;subst hfs;simp only[List.getElem?_toArray,ARB];cases hn:fields.toList[n]? with
  |none=>simp
  |some f=>
   obtain⟨i',De,_⟩:=O_ f (ANO hn);simp[De]
 grind[run_build,execOp,Sem.run_bind,Result.andThen_ok,Sem.run_pure]
end
end Go.Fw
end
section
namespace Go.Fw
theorem wrap_small{n:Int}(h0:0≤n)(h1:n≤(Ds:Int)):IntKind.i64.wrap n=n:=by
 simp only[Ds]at h1;unfold IntKind.wrap;simp only[IntKind.bits,IntKind.signed];grind
theorem G_{m:Nat}{zl:List Value}:((List.replicate m zl).flatten).length=m*zl.length:=by
 simp_all
theorem ND{zl:List Value}:∀{m i:Nat},i<m*zl.length→((List.replicate m zl).flatten)[i]? =zl[i%zl.length]?
 |0,i,h=>by omega
 |m+1,i,h=>by
  simp only[List.replicate_succ,ATB];by_cases hi:i<zl.length
  ·rw[ANA hi,Nat.mod_eq_of_lt hi]
  ·have De:zl.length≤i:=by omega
   rw[AOU De,ND (by grind),←Nat.mod_eq_sub_mod De]
theorem VY{zero:Array Value}{zl:List Value}(hz:zero.toList=zl)(m:Nat)(h0:zl≠[]):((Array.range (m*zl.length)).map (fun i=>zero[i%zero.size]!)).toList=(List.replicate m zl).flatten:=by
 have hs:zero.size=zl.length:=by grind
 have AG5:0<zl.length:=AW8.2 h0;apply AUx;intro i;by_cases hi:i<m*zl.length
 ·grind[ND,Nat.mod_lt,Array.toList_map,Array.toList_range,List.getElem?_range,List.getElem?_eq_getElem]
 simp_all
section
variable{Y:Type} {P:Program} {T:Jg} (hT:Ef P T) {o:Oper} {E:Env} {σ:St} {a:Act} {w:World} {k:K Y} {y:Y}
include hT
theorem V6{e:Nat}{ti:TI}{r:Ty}(he:T.get e=some ti)(hr:ti.row=some r):∃i z,P.info? e=some i∧i.size=ti.size∧i.bytes=ti.bytes∧i.zero=some z∧z.cells.toList=Eh r∧r.uY=true:=by
 obtain⟨i,h1,h2,h3,h4⟩:=(hT e ti he).info;simp_all
theorem ABP(h:Rel E σ a w){t:TypeId}{l c:Operand}(ho:o.op= .makeSlice t l c)(e:rR T t σ (σ.ev l) (σ.ev c) k=some y):K4 P o E σ a w k y:=by
 unfold rR at e;split at e
 case h_2=>cases e
 rename_i el n m hd hl hc;split at e
 case h_2=>cases e
 rename_i r hr;split at e
 case isFalse=>cases e
 rename_i UJ;split at e
 case isFalse=>cases e
 rename_i hb;obtain⟨b0,b1,b2⟩:=hb;obtain⟨el',ti,hu,T4,hs,hby,hrow⟩:=KZ hT UJ;obtain⟨i,z,i1,i2,i3,i4,i5,hg⟩:=V6 hT T4 hrow;obtain⟨κ1,e1⟩:=IQ hl (h.ev l);obtain⟨κ2,e2⟩:=IQ hc (h.ev c);have w1:=wrap_small b0 (by omega);have w2:=wrap_small (n:=m) (by omega) b2
 let arr:Array Value:=(Array.range (m.toNat*r.n)).map (fun j=>(if m.toNat*r.n=0 then #[]else z.cells)[j%(if m.toNat*r.n=0 then(#[]:Array Value)else z.cells).size]!)
 have bu:arr.toList=(List.replicate n.toNat (Eh r)).flatten++(List.replicate (m.toNat-n.toNat) (Eh r)).flatten:=by
  have hz:=Gp r;have split:(List.replicate n.toNat (Eh r)).flatten++(List.replicate (m.toNat-n.toNat) (Eh r)).flatten=(List.replicate m.toNat (Eh r)).flatten:=by
   grind[List.flatten_append,List.replicate_append_replicate]
  rw[split];by_cases h0:m.toNat*r.n=0
  ·grind[List.length_eq_zero_iff,G_]
  ·have bM:Eh r≠[]:=by
    grind
   have:=VY i5 m.toNat bM;grind
 let w':=w.alloc (.cells arr el')
 have new:w'.heap[w.heap.size]? =some (.cells arr el'):=by
  show(w.heap.push (.cells arr el'))[w.heap.size]? =_
  simp
 have AMb:arr.size=m.toNat*r.n:=by simp[arr]
 have how:Ow w' E.S (8+1) (.sl r) [.slice (some ⟨w.heap.size,0,none⟩) (List.replicate n.toNat r.z).length m.toNat] (List.replicate n.toNat r.z) (w.heap.size::(List.replicate n.toNat ([]:ABI)).flatten):=by
  refine dC new bu (by simp) (by grind) (by omega) (WB _) (by simp) fun i cs y G h1 h2 h3=> ?_
  simp only[List.getElem?_replicate]at h1 h2 h3;split at h1
  ·rename_i hi
   rw[ALI hi]at h2 h3;grind[dw]
  simp_all
 have hF:(List.replicate n.toNat ([]:ABI)).flatten=[]:=by simp
 rw[hF]at how;simp only[AV4]at how;obtain⟨r1,r2,r3⟩:=S9 h (HA.refl h.bx) (w':=w') (d:=9) (by omega) how (by simp) (by simp) (by simp[w']) (fun c hc _=>Im hc) ⟨rfl,rfl,rfl,by simp[w']⟩;refine⟨_,_,_,_,_,.inl ?_,r1,r3,r2.any,rfl,e⟩;have AaC:(i.bytes:Int)*m≤2^48:=by
  have h1:(i.bytes:Int)≤512:=by omega
  have h2:(i.bytes:Int)*m≤512*m:=Int.mul_le_mul_of_nonneg_right h1 (by omega);grind[Ds]
 simp only[execOp,ho,Instr.makeSlice,e1,e2,Sem.run_bind,BZ hu,Result.andThen_ok,asInt,asIntOf,Sem.run_pure,typeInfo,run_program,i1,w1,w2];rw[ALT (by grind)];by_cases h0:m.toNat*r.n=0
 ·have e3:arr=(Array.range (m.toNat*r.n)).map (fun j=>(#[]:Array Value)[j%(#[]:Array Value).size]!):=by simp_all
  simp only[Sem.run_bind,run_askRoom,Result.andThen_ok,sizeOf,typeInfo,run_program,i1,Sem.run_pure,i2,hs,h0,ASe,newRow,run_newObj];simp only[w',e3,h0];rfl
 ·have e3:arr=(Array.range (m.toNat*r.n)).map (fun j=>z.cells[j%z.cells.size]!):=by grind
  simp only[Sem.run_bind,run_askRoom,Result.andThen_ok,sizeOf,typeInfo,run_program,i1,Sem.run_pure,i2,hs,h0,AOV,newRow,run_newObj,zeroValue,i4];simp only[w',e3];rfl
end
end Go.Fw
end
section
namespace Go.Fw
theorem iT{w:World}{B S:Nat→Prop}{d:Nat}:∀{r:Ty} {cs:List Value} {x:r.D},r.flat=true→Rd w B r cs x→Ow w S d r cs x []
 | .cons c r,cs,x,h,hr=>by
  simp only[Ty.flat,ALp]at h;simp only[Rd]at hr;obtain⟨v,l,rfl,h1,h2⟩:=hr;simp only[Ow];exact⟨v,l,[],[],rfl,rfl,iT h.1 h1,iT h.2 h2⟩
 | .unit,_,_,_,hr=>by grind[Rd,Ow]
 | .int k,_,_,_,hr=>by grind[Rd,Ow]
 | .bool,_,_,_,hr=>by grind[Rd,Ow]
 | .str,_,_,_,hr=>by grind[Rd,Ow]
 | .sl q,_,_,h,_=>by simp[Ty.flat]at h
theorem Lk{P:Program}{w:World}{b o:Nat}{cs:List Value}(h:Bb w b o cs):(loadCells ⟨b,o,none⟩ cs.length).run P w= .ok cs.toArray w:=
 run_loadCells_list (P:=P) w ⟨b,o,none⟩ cs fun j v hv=>by rw[Addr.add_eq];exact h j v hv
theorem WO{l:List Value}:(l.map fun v=>[v]).flatten=l:=by
 induction l with
 |nil=>rfl
 |cons a l ih=>simp[ih]
theorem nO{w:World}{B:Nat→Prop}{r:Ty}{b o:Nat}{ys:List r.D}(h:∀(i:Nat) (y:r.D),ys[i]? =some y→ ∃cs,cs.length=r.n∧Bb w b (o+i*r.n) cs∧Rd w B r cs y):
  ∃css:List (List Value),css.length=ys.length∧(∀c∈css,c.length=r.n)∧Bb w b o css.flatten∧ ∀(i:Nat) cs y,css[i]? =some cs→ys[i]? =some y→Rd w B r cs y:=by
 induction ys generalizing o with
 |nil=>exact⟨[],rfl,by simp,fun _ _ h=>by simp at h,fun i cs y h=>by simp at h⟩
 |cons y ys ih=>
  obtain⟨cs,c1,c2,c3⟩:=h 0 y rfl;obtain⟨css,d1,d2,d3,d4⟩:=ih (o:=o+r.n) (fun i z hz=>by
   obtain⟨cs,e1,e2,e3⟩:=h (i+1) z (by simp_all);grind)
  refine⟨cs::css,by simp[d1],by simp_all,?_,?_⟩
  ·intro j v hj
   simp only[ATB]at hj;by_cases qN:j<cs.length
   ·rw[ANA qN]at hj
    have:=c2 j v hj;simp_all
   ·rw[AOU (by omega)]at hj
    have:=d3 _ v hj;grind
  grind
theorem Bb.append{w:World}{b o:Nat}{l m:List Value}(h:Bb w b o l)(k:Bb w b (o+l.length) m):Bb w b o (l++m):=by
 intro j v hj;by_cases qN:j<l.length
 ·rw[ANA qN]at hj
  exact h j v hj
 ·rw[AOU (by omega)]at hj
  have:=k _ v hj;grind
section
variable{Y:Type} {P:Program} {T:Jg} (hT:Ef P T) {o:Oper} {E:Env} {σ:St} {a:Act} {w:World} {k:K Y} {y:Y}
theorem Ik(hT:Ef P T){t:Nat}{d:TD}(e:(T.get t).map TI.desc=some d):fU P t d:=by
 simp only[ALe]at e;obtain⟨ti,h1,rfl⟩:=e;exact(hT t ti h1).und
theorem ng{src dst e:Nat}(hs:P.underlying src=some (.slice e))(he:P.underlying e=some (.int .u8))(hd:P.underlying dst=some .string){x:Value}{l:AAH}{B:Nat→Prop}
  (h:Rd w B (.sl (.int .u8)) [x] l):(convert src dst x).run P w= .ok (.string ⟨(l.map fun n:Int=>UInt8.ofNat n.toNat).toArray⟩) w:=by
 simp only[Rd]at h;obtain⟨a,cap,hx,hle,h⟩:=h;simp only[AQN,ASn]at hx;subst hx;rcases h with h|⟨b,o,rfl,_,h⟩
 ·obtain rfl:=APc h
  cases a with
  |none=>exact run_convert_bytes_nil w src e hs he _ _ dst hd
  |some a=>
   rw[run_convert_bytes_string w src dst e _ _ cap hs he hd];rfl
 ·refine run_convert_bytes_arg w src e hs he b o _ cap l rfl (fun i hi=> ?_) dst hd
  obtain⟨cs,c1,c2,c3⟩:=h i _ (ALR hi);subst c3;have:=c2 0 _ rfl;grind
include hT in
theorem AA6(h:Rel E σ a w){src dst:Nat}{x:Operand}(ho:o.op= .convert src dst x)(e:rL T src dst σ (σ.ev x) k=some y):K4 P o E σ a w k y:=by
 have hx:=h.ev x;unfold rL at e;split at e
 ·rename_i κ0 κ j n hs hd hv
  have h1:=Ik hT hs;have h2:=Ik hT hd;rw[hv]at hx;have Xi:=av (E:=E) (w:=w) (vw:=σ.bx) hx;refine K4.same h (v:= .int κ (κ.wrap n)) (x:= .c (.v (.int κ) (κ.wrap n))) ?_ (VR.int (E:=E) (vw:=σ.bx) _ _) e
  simp only[fU]at h1 h2;simp only[execOp,ho,Xi,convert,Sem.run_bind,BZ h1,BZ h2,Result.andThen_ok,Conv.intToInt,Sem.run_pure]
 ·rename_i s hs hd hv
  have h1:=Ik hT hs;have h2:=Ik hT hd;rw[hv]at hx;have Xi:=XL (E:=E) (w:=w) (vw:=σ.bx) hx;refine K4.same h (v:= .string ⟨s.toArray⟩) (x:= .c (.v .str s)) ?_ (VR.str (E:=E) (vw:=σ.bx) _) e
  simp only[fU]at h1 h2;simp only[execOp,ho,Xi,convert,Sem.run_bind,BZ h1,BZ h2,Result.andThen_ok,Sem.run_pure]
 ·rename_i el s hs hd hv
  have h1:=Ik hT hs;have h2:=Ik hT hd;rw[hv]at hx;have Xi:=XL (E:=E) (w:=w) (vw:=σ.bx) hx;split at e
  case h_2=>cases e
  rename_i UJ;have h3:=Ik hT UJ;split at e
  case isFalse=>cases e
  rename_i Vx;simp only[fU]at h1 h2 h3
  let S0:ByteArray:=⟨s.toArray⟩
  have O_:S0.size=s.length:=by simp[S0,ByteArray.size]
  have jQ:=Lib.run_convert_string_bytes (P:=P) w src dst el S0 h1 h2 h3;have yK:s.length≤grownCap w S0.size 0 el:=by rw[O_];exact grownCap_ge _ _ _ _
  have new:=Lib.bytesWorld_at_new w el S0;have bu:(Lib.bytesCells w el S0).toList=(s.map fun c=>[Value.int .u8 (c.toNat:Int)]).flatten++List.replicate (grownCap w S0.size 0 el-S0.size) (.int .u8 0):=by
   have:(s.map fun c=>[Value.int .u8 (c.toNat:Int)]).flatten=s.map fun c=>Value.int .u8 (c.toNat:Int):=by
    have:=WO (l:=s.map fun c=>Value.int .u8 (c.toNat:Int));simpa[ATj,Function.comp_def]using this
   rw[this];simp[Lib.bytesCells,S0]
  have AMb:(Lib.bytesCells w el S0).size=grownCap w S0.size 0 el:=by
   rw[←AU0,bu];have:((s.map fun c=>[Value.int .u8 (c.toNat:Int)]).flatten).length=s.length:=by
    have:=WO (l:=s.map fun c=>Value.int .u8 (c.toNat:Int));rw[ATj]at this;have e2:(s.map fun c=>[Value.int .u8 (c.toNat:Int)])=s.map ((fun v=>[v])∘fun c=>Value.int .u8 (c.toNat:Int)):=rfl;rw[e2,this];simp
   rw[APV,this,AV4];omega
  have how:Ow (Lib.bytesWorld w el S0) E.S (8+1) (.sl (.int .u8)) [.slice (some ⟨w.heap.size,0,none⟩) (s.map fun c=>(c.toNat:Int)).length (grownCap w S0.size 0 el)] (s.map fun c=>(c.toNat:Int))
    (w.heap.size::(List.replicate s.length ([]:ABI)).flatten):=by
   refine dC (css:=s.map fun c=>[Value.int .u8 (c.toNat:Int)]) new bu (by simp) (by simpa using yK) (by simp[Ty.n];omega) (fun i hi hh=>by simp only[mk]at hi;omega) (by simp) fun i cs y G q1 q2 q3=> ?_
   simp only[ARB,ALe]at q1 q2;obtain⟨c1,z1,rfl⟩:=q1;obtain⟨c2,z2,rfl⟩:=q2;rw[z1]at z2;cases z2;have:G=[]:=AS7 (ANO q3);subst this;simp[Ow]
  have hF:(List.replicate s.length ([]:ABI)).flatten=[]:=by simp
  rw[hF]at how;obtain⟨r1,r2,r3⟩:=S9 h (HA.refl h.bx) (w':=Lib.bytesWorld w el S0) (d:=9) (by omega) how (by simp) (by simp) (by simp[Lib.bytesWorld_size]) (fun c hc _=>Lib.bytesWorld_at_old w el S0 c hc)
   ⟨by simp[Lib.bytesWorld,World.freeze]<;>rfl,by simp[Lib.bytesWorld,World.freeze]<;>rfl,by simp[Lib.bytesWorld,World.freeze]<;>rfl,by rw[Lib.bytesWorld_size];omega⟩
  refine⟨_,_,_,_,_,.inl ?_,r1,r3,r2.any,rfl,e⟩;simp only[execOp,ho,Xi,Sem.run_bind];have e5:=jQ;simp only[S0]at e5;rw[e5];simp only[Result.andThen_ok,Sem.run_pure,AWu];rfl
 ·rename_i el z hs hd hv
  have h1:=Ik hT hs;have h2:=Ik hT hd;rw[hv]at hx;split at e
  case h_2=>cases e
  rename_i l UJ hl;have h3:=Ik hT UJ;simp only[fU]at h1 h2 h3;obtain⟨Fs,hB,hS⟩:=h.bx;have Yv:=T_ (FI.refl σ.bx) hB hS.st hx hl;have hr:=ng (P:=P) h1 h3 h2 Yv;refine K4.same h (v:= .string ⟨(l.map fun n:Int=>UInt8.ofNat n.toNat).toArray⟩) (x:= .c (.v .str (l.map fun n:Int=>UInt8.ofNat n.toNat))) ?_ (VR.str (E:=E) (vw:=σ.bx) _) e
  simp only[execOp,ho,Sem.run_bind,hr,Result.andThen_ok,Sem.run_pure]
 ·cases e
end
end Go.Fw
end
section
namespace Go.Fw
theorem bP:∀(l:List Value) (o:Nat) (arr:Array Value) (p q:List Value),p.length=o→(∃m:List Value,m.length=l.length∧arr.toList=p++m++q)→(FG arr o l).toList=p++l++q
 |[],o,arr,p,q,hp,⟨m,hm,h⟩=>by
  grind[List.eq_nil_of_length_eq_zero,FG]
 |c::l,o,arr,p,q,hp,⟨m,hm,h⟩=>by
  cases m with
  |nil=>simp_all
  |cons b m=>
   simp only[FG];have:=bP l (o+1) (arr.setIfInBounds o c) (p++[c]) q (by simp[hp]) ⟨m,by simp_all,by
    simp_all⟩
   simp_all
theorem HA.more{E E1 E2:Env}{w:World}{vw bx jN aA:List Bx}{G F1 F2 A W:ABI}(k1:HA E w vw bx G E1 jN F1)(k2:HA E1 w vw jN (F1++G) E2 aA F2)(hp:F1.Perm (A++W)):
  let E3:Env:={ E2 with S:=fun c=>E2.S c∨c∈W,T:=fun c=>E2.T c∨c∈W }
  HA E w vw bx G E3 aA (A++F2):=by
 intro E3;have hB:=k2.boxes.perm (G':=(F2++A)++W++G) (by
  grind)
 obtain⟨hle,XU⟩:=hB.share;exact⟨(k1.le.trans k2.le).trans hle,k2.len.trans k1.len,fun b B hb=>(k2.within b B hb).elim .inl (k1.within b B),XU.perm (AUd _ List.perm_append_comm)⟩
theorem Yw{w:World}{vw:List Bx}{r:Ty}(hg:r.uY=true):∀{n i:Nat} {parts:List (Nat×XV)} {vals:List (Nat×Value)} {E:Env} {bx:List Bx} {G:ABI} {d:Nat} {rows:List r.D} {QX:List Bx} {d':Nat},
  C_ E w vw bx G→FI bx vw→1≤d→yk E w vw parts vals→Xx r i n parts bx d=some (rows,QX,d')→1≤d'∧d'≤d∧rows.length=n∧ ∃(E':Env) (Fs:List ABI) (css:List (List Value)),
   HA E w vw bx G E' QX Fs.flatten∧css.length=n∧Fs.length=n∧(∀(k:Nat) cs y G,css[k]? =some cs→rows[k]? =some y→Fs[k]? =some G→Ow w E'.S (d'-1) r cs y G)∧
   ∀(pre:List (List Value)) (arr:Array Value),pre.length=i→(∀c∈pre,c.length=r.n)→arr.toList=pre.flatten++(List.replicate n (Eh r)).flatten→
    ∃KX,Instr.fill (fun i=>some (i*r.n,r.n)) arr vals=some KX∧KX.toList=pre.flatten++css.flatten
 |0,i,[],[],E,bx,G,d,rows,QX,d',h,hw,hd,hp,e=>by
  simp only[Xx,ALW,APo]at e;obtain⟨rfl,rfl,rfl⟩:=e;refine⟨hd,APz _,rfl,E,[],[],HA.refl h,rfl,rfl,by simp,fun pre arr _ _ ha=>⟨arr,rfl,by simp_all⟩⟩
 |n+1,i,(j,x)::l,(j',v)::m,E,bx,G,d,rows,QX,d',h,hw,hd,hp,e=>by
  obtain⟨⟨hj,hx⟩,hp⟩:=hp;simp only at hj hx;subst hj;simp only[Xx]at e;split at e
  case isFalse=>cases e
  rename_i hij;subst hij;simp only[ALt,ALe,APo]at e;obtain⟨⟨y1,jN,d1⟩,e1,⟨y2,aA,d2⟩,e2,rfl,rfl,rfl⟩:=e;dsimp only at e2⊢;obtain⟨a1,a2,E1,F1,k1,o1⟩:=vM h hw hd hx e1;have wS:=k1.le.keep (w:=w) (vw:=vw) h.st;obtain⟨b1,b2,b3,E2,Fs,css,k2,c1,c2,c3,c4⟩:=Yw hg (G:=F1++G) k1.boxes (hw.nP k1) a1 (hp.imp fun _ _ q=>⟨q.1,O1 wS q.2⟩) e2;obtain⟨A,W,pc,o1'⟩:=J4 (d:=d'-1) (by omega) o1;refine⟨b1,ARE b2 a2,by simp[b3],_,A::Fs,v.cells.toList::css,HA.more k1 k2 pc,by simp[c1],by simp[c2],fun k cs y G' q1 q2 q3=> ?_,fun pre arr j5 hpn ha=> ?_⟩
  ·cases k with
   |zero=>
    simp at q1 q2 q3;subst q1 q2 q3;refine ES (S:=fun b=>E1.S b∨b∈W) ?_ (fun _ _=>rfl) (fun _ _=>rfl) o1'
    intro c hc;exact hc.elim (fun h=> .inl (k2.le.S c h)) .inr
   |succ k=>
    refine ES (S:=E2.S) ?_ (fun _ _=>rfl) (fun _ _=>rfl) (c3 k cs y G' (by simp_all) (by simp_all) (by simp_all))
    simp_all
  ·have hlen:v.cells.toList.length=r.n:=We o1
   have hpf:pre.flatten.length=i*r.n:=by
    clear ha c4
    subst j5;clear e1 e2
    induction pre with
    |nil=>simp
    |cons c pre ih=>grind
   have Wb:(FG arr (i*r.n) v.cells.toList).toList=pre.flatten++v.cells.toList++(List.replicate n (Eh r)).flatten:=
    bP _ _ _ _ _ hpf ⟨Eh r,by rw[Gp,hlen],by grind⟩
   obtain⟨KX,f1,f2⟩:=c4 (pre++[v.cells.toList]) (FG arr (i*r.n) v.cells.toList) (by simp[j5]) (by
    grind) (by simp_all)
   refine⟨KX,?_,by simp_all⟩;rw[r9 (i:=i) (off:=i*r.n) (size:=r.n) rfl (by omega) ?_]
   all_goals grind[List.length_append,G_,Gp,Nat.succ_mul]
 |n+1,i,[],[],E,bx,G,d,rows,QX,d',h,hw,hd,hp,e=>by
  simp only[Xx,ALe,APo]at e;obtain⟨⟨y2,aA,d2⟩,e2,rfl,rfl,rfl⟩:=e;obtain⟨b1,b2,b3,E2,Fs,css,k2,c1,c2,c3,c4⟩:=Yw hg (G:=G) h hw hd (parts:=[]) (vals:=[]) trivial e2;refine⟨b1,b2,by simp[b3],E2,[]::Fs,Eh r::css,by simp_all,by simp[c1],by simp[c2],fun k cs y G' q1 q2 q3=> ?_,fun pre arr j5 hpn ha=> ?_⟩
  ·grind[dw]
  ·obtain⟨KX,f1,f2⟩:=c4 (pre++[Eh r]) arr (by simp[j5]) (by
    grind[Gp]) (by grind)
   simp_all
 |0,_,_::_,_,_,_,_,_,_,_,_,_,_,_,_,e=>by simp[Xx]at e
 |0,_,[],_::_,_,_,_,_,_,_,_,_,_,_,hp,_=>hp.elim
 |_+1,_,[],_::_,_,_,_,_,_,_,_,_,_,_,hp,_=>hp.elim
 |_+1,_,_::_,[],_,_,_,_,_,_,_,_,_,_,hp,_=>hp.elim
section
variable{Y:Type} {P:Program} {T:Jg} (hT:Ef P T) {o:Oper} {E:Env} {σ:St} {a:Act} {w:World} {k:K Y} {y:Y}
include hT
theorem mu(h:Rel E σ a w){t n:Nat}{ps:Array (Nat×Operand)}(ho:o.op= .buildSlice t n ps)(e:Qx T t n (ps.toList.map fun q=>(q.1,σ.ev q.2)) σ k=some y):K4 P o E σ a w k y:=by
 unfold Qx at e;split at e
 case h_2=>cases e
 rename_i el hd;split at e
 case h_2=>cases e
 rename_i r hr;split at e
 case isFalse=>cases e
 rename_i hc;simp only[ALp,AMC]at hc;obtain⟨⟨UJ,hn⟩,hrn⟩:=hc;simp only[ALt]at e;obtain⟨⟨rows,QX,d'⟩,e1,e⟩:=e;dsimp only at e;obtain⟨el',ti,hu,T4,hs,hby,hrow⟩:=KZ hT UJ;obtain⟨i,z,i1,i2,i3,i4,i5,hg⟩:=V6 hT T4 hrow;have ANv:=nq h ps;obtain⟨b1,b2,b3,E',Fs,css,k2,c1,c2,c3,c4⟩:=Yw hg h.bx (FI.refl _) (by omega) ANv e1
 let zero:Array Value:=if n*r.n=0 then #[]else z.cells
 have hz:((Array.range (n*r.n)).map (fun j=>zero[j%zero.size]!)).toList=(List.replicate n (Eh r)).flatten:=by
  by_cases h0:n*r.n=0
  ·have h1:(List.replicate n (Eh r)).flatten=[]:=by
    rw[←AWv,G_,Gp,h0]
   rw[h1];simp[h0]
  ·have bM:Eh r≠[]:=by
    intro he;have:=Gp r;rw[he]at this;simp at this;rw[←this]at h0;simp at h0
   have:=VY i5 n bM;rw[Gp]at this;simp only[zero,ALT h0];exact this
 obtain⟨KX,f1,f2⟩:=c4 [] _ rfl (by simp) (by rw[hz];simp);simp only[AVM,ASg]at f2
 let w':=w.alloc (.cells KX el')
 have new:w'.heap[w.heap.size]? =some (.cells KX el'):=by
  show(w.heap.push (.cells KX el'))[w.heap.size]? =_
  simp
 obtain⟨d,rfl⟩:∃m,d' =m+1:=⟨d'-1,by omega⟩;have hl:∀c∈css,c.length=r.n:=by
  intro c hc;obtain⟨j,hj,rfl⟩:=AQU hc;exact We (c3 j _ _ _ (ALR hj) (ALR (by omega)) (ALR (by omega)))
 have xO:css.flatten.length=n*r.n:=by
  rw[←c1];clear f2 c3 c4 c1
  induction css with
  |nil=>simp
  |cons c l ih=>simp[hl c (by simp),ih (fun c hc=>hl c (by simp[hc])),Nat.succ_mul];omega
 have AMb:KX.size=n*r.n:=by rw[←AU0,f2,xO]
 obtain⟨Fs0,hB1,XU⟩:=k2.boxes;simp only[AMa]at XU;have how:Ow w' E'.S (d+1) (.sl r) [.slice (some ⟨w.heap.size,0,none⟩) rows.length n] rows (w.heap.size::Fs.flatten):=by
  refine dC (css:=css) (ex:=[]) new (by simpa using f2) (by omega) (by omega) (by omega) (WB _) (by omega) fun k cs y G q1 q2 q3=> ?_
  have O9:∀c∈G,c∈Fs.flatten:=fun c hc=>ARg.2 ⟨G,ANO q3,hc⟩
  exact ES (fun _ h=>h) (fun c hc=>Im (XU.cA c (XU.st c hc))) (fun c hc=>Im (XU.lt c (by simp only[AOs];exact .inr (O9 c hc)))) (by simpa using c3 k cs y G q1 q2 q3)
 rw[b3]at how;obtain⟨r1,r2,r3⟩:=S9 h k2 (w':=w') (d:=d+1) (by omega) how (by
   intro c hc;rcases AO3.1 hc with rfl|hc
   ·exact .inr (APz _)
   ·exact .inl hc) (by
   refine AWI.2 ⟨fun hc=> ?_,(AMx.1 XU.nodup).2.1⟩;have:=XU.lt w.heap.size (by simp only[AOs];exact .inr hc);omega) (by
   intro c hc;rcases AO3.1 hc with rfl|hc
   ·simp[w']
   ·have:=XU.lt c (by simp only[AOs];exact .inr hc)
    simp[w'];omega) (fun c hc _=>Im hc) ⟨rfl,rfl,rfl,by simp[w']⟩
 refine⟨_,_,_,_,_,.inl ?_,r1,r3,r2.any,rfl,e⟩;have Vx: ¬(n*r.n>2^24):=by
  have:n*r.n≤1024*1024:=Nat.mul_le_mul hn hrn;omega
 simp only[execOp,ho,Instr.buildSlice,Sem.run_bind,BZ hu,Result.andThen_ok,sizeOf,typeInfo,run_program,i1,Sem.run_pure,i2,hs,Vx,AOV];by_cases h0:n*r.n=0
 ·have hz0:zero= #[]:=by simp only[zero,ALI h0]
  rw[hz0]at f1;simp only[h0,ASe,Sem.run_bind,Sem.run_pure,Result.andThen_ok];rw[h0]at f1;simp only[f1,newRow,Sem.run_bind,run_newObj,Result.andThen_ok,Sem.run_pure];rfl
 ·have hz0:zero=z.cells:=by simp only[zero,ALT h0]
  rw[hz0]at f1;simp only[h0,AOV,Sem.run_bind,zeroValue,typeInfo,run_program,Result.andThen_ok,i1,Sem.run_pure,i4];simp only[f1,newRow,Sem.run_bind,run_newObj,Result.andThen_ok,Sem.run_pure];rfl
end
end Go.Fw
end
section
namespace Go.Fw
theorem af(w:World)(b o:Nat)(v:Value):(w.setCell ⟨b,o,none⟩ v).heap=w.heap.modify b fun
 | .cells c elem frozen=> .cells (c.setIfInBounds o v) elem frozen
 |o=>o:=rfl
theorem FY:∀(vs:List Value) (o:Nat) (w:World) (b:Nat) (arr:Array Value) (ty:TypeId) (fr:ACf),w.heap[b]? =some (.cells arr ty fr)→
  (w.setCells b o vs).heap[b]? =some (.cells (FG arr o vs) ty fr)
 |[],_,_,_,_,_,_,h=>h
 |v::l,o,w,b,arr,ty,fr,h=>by
  simp only[World.setCells,FG];refine FY l (o+1) _ b _ ty fr ?_
  rw[af,Array.getElem?_modify,ALI rfl,h];rfl
theorem DY:∀(vs:List Value) (o:Nat) (w:World) (b:Nat),(w.setCells b o vs).heap.size=w.heap.size
 |[],_,_,_=>rfl
 |v::l,o,w,b=>by
  simp only[World.setCells];rw[DY l,af,Array.size_modify]
theorem DT:∀(vs:List Value) (o:Nat) (w:World) (b c:Nat),c≠b→(w.setCells b o vs).heap[c]? =w.heap[c]?
 |[],_,_,_,_,_=>rfl
 |v::l,o,w,b,c,h=>by
  simp only[World.setCells];rw[DT l _ _ _ _ h,af,Array.getElem?_modify,ALT (fun e=>h e.symm)]
theorem CC:∀(vs:List Value) (o:Nat) (w:World) (b:Nat),Grown w (w.setCells b o vs)
 |[],_,_,_=>⟨rfl,rfl,rfl,APz _⟩
 |v::l,o,w,b=>by
  have:=CC l (o+1) (w.setCell ⟨b,o,none⟩ v) b;refine⟨this.os,this.tape,this.output,?_⟩;rw[DY];omega
theorem Vh{arr:Array Value}:∀{l:List Value} {o j:Nat},o+l.length≤arr.size→(FG arr o l)[j]? =if o≤j∧j<o+l.length then l[j-o]? else arr[j]?:=by
 intro l
 induction l generalizing arr with
 |nil=>intro o j _;rw[ALT (fun hh=>by grind)];rfl
 |cons c l ih=>
  intro o j h;simp only[ANW]at h;simp only[FG];grind
theorem Ka{w:World}{b o:Nat}{arr:Array Value}{ty:TypeId}{fr:ACf}(h:w.heap[b]? =some (.cells arr ty fr)):w.cell? ⟨b,o,none⟩=arr[o]?:=by
 simp[World.cell?,h]
theorem ON{w:World}{b o:Nat}{vs:List Value}{arr:Array Value}{ty:TypeId}{fr:ACf}(h:w.heap[b]? =some (.cells arr ty fr))(hs:o+vs.length≤arr.size):Bb (w.setCells b o vs) b o vs:=by
 intro j v hj;have hl:=(ALf.1 hj).1;rw[Ka (FY vs o w b arr ty fr h),Vh hs,ALI (by omega),show o+j-o=j by omega,hj]
theorem TX{w:World}{b b' o o':Nat}{vs cs:List Value}{arr:Array Value}{ty:TypeId}{fr:ACf}(hc:Bb w b' o' cs)(h:w.heap[b]? =some (.cells arr ty fr))(hs:o+vs.length≤arr.size)
  (ha:b'≠b∨o'+cs.length≤o∨o+vs.length≤o'):Bb (w.setCells b o vs) b' o' cs:=by
 intro j v hj;have hl:=(ALf.1 hj).1;by_cases hb:b' =b
 ·subst hb
  have:=hc j v hj;rw[Ka h]at this;rw[Ka (FY vs o w b' arr ty fr h),Vh hs,ALT (by omega),this]
 ·rw[World.cell?_of_block (a:=⟨b',o'+j,none⟩) (DT vs o w b b' hb)]
  exact hc j v hj
theorem T8{w:World}{b o n k:Nat}{arr:Array Value}{ty:TypeId}{fr:ACf}(h:w.heap[b]? =some (.cells arr ty fr))(hs:o+n≤arr.size)(hu:vx fr (arr.size+k)):w.there b o n:=by
 intro j hj;refine⟨?_,?_⟩
 ·rw[Ka h]
  grind
 ·have:=hu (o+j) (by omega)
  grind[World.frozen?]
theorem j8{w:World}{S:Nat→Prop}:∀{r:Ty} {d:Nat} {cs:List Value} {y:r.D} {F:ABI},Ow w S d r cs y F→ ∀v∈cs,v.oneCell' =true
 | .int _,_,_,_,_,h,v,hv=>by simp only[Ow]at h;rw[h.1]at hv;simp at hv;subst hv;rfl
 | .bool,_,_,_,_,h,v,hv=>by simp only[Ow]at h;rw[h.1]at hv;simp at hv;subst hv;rfl
 | .str,_,_,_,_,h,v,hv=>by simp only[Ow]at h;rw[h.1]at hv;simp at hv;subst hv;rfl
 | .unit,_,_,_,_,h,v,hv=>by grind[Ow]
 | .sl _,0,_,_,_,h,v,hv=>by
  simp only[Ow,Rd]at h;obtain⟨⟨_,_,rfl,_⟩,_⟩:=h;simp at hv;subst hv;rfl
 | .sl _,_+1,_,_,_,h,v,hv=>by
  simp only[Ow]at h;obtain⟨_,_,rfl,_⟩:=h;simp at hv;subst hv;rfl
 | .cons _ _,_,_,_,_,h,v,hv=>by
  simp only[Ow]at h;obtain⟨u,l,F1,F2,rfl,_,h1,h2⟩:=h;rcases AO3.1 hv with rfl|hv
  ·exact j8 h1 _ (by simp)
  ·exact j8 h2 _ hv
section
variable{P:Program} {w:World}
structure ku (P:Program) (w:World) (size n:Nat) (x:Value) (news:List Value):Prop where
 len:∀w',(Builtin.lenOf x).run P w' = .ok n w'
 cells:∀w',w'.heap=w.heap→(Builtin.firstCells size n x).run P w' = .ok news.toArray w'
theorem eQ{ts:Array TypeId}{t u ty e:TypeId}(v7:ts[0]? =some t)(xB:ts[1]? =some u){i:TypeInfo}{size:Nat}(ht:P.underlying t=some (.slice e))(hu:(∃e,P.underlying u=some (.slice e))∨P.underlying u=some .string)(hi:P.info? e=some i)(O_:i.size=size)
  {b o Us iZ n:Nat} {x:Value} {news:List Value} (hn:ku P w size n x news) (Sg:Us+n≤iZ) (qB:w.there b (o+Us*size) news.length) (h1:∀v∈news,v.oneCell' =true):
  (Builtin.append_ ts ty #[.slice (some ⟨b,o,none⟩) Us iZ,x]).run P w= .ok (.slice (some ⟨b,o,none⟩) (Us+n) iZ) (w.setCells b (o+Us*size) news):=by
 subst O_;have cz:=run_storeCells_cells (P:=P) b (o+Us*i.size) news 0 w (fun j hj=>by simpa using(qB j hj).1) (fun j hj=>by simpa using(qB j hj).2) h1;simp only[ATU]at cz;have hl:=hn.len w;have hf:=hn.cells w rfl;rcases hu with⟨e',hu⟩|hu
 ·simp[Builtin.append_,v7,xB,run_underlying ht,run_underlying hu,sizeOf,typeInfo,hi,hl,Sg,hf,Addr.add_eq,cz]
 ·simp[Builtin.append_,v7,xB,run_underlying ht,run_underlying hu,sizeOf,typeInfo,hi,hl,Sg,hf,Addr.add_eq,cz]
theorem mC{ts:Array TypeId}{t u ty e:TypeId}(v7:ts[0]? =some t)(xB:ts[1]? =some u){i:TypeInfo}{size:Nat}(ht:P.underlying t=some (.slice e))(hu:(∃e,P.underlying u=some (.slice e))∨P.underlying u=some .string)(hi:P.info? e=some i)(O_:i.size=size)
  {a:Option Addr} {x:Value} (hn:ku P w size 0 x []):
  (Builtin.append_ ts ty #[.slice a 0 0,x]).run P w= .ok (.slice a 0 0) w:=by
 subst O_;have hl:=hn.len w;have hf:=hn.cells w rfl;cases a with
 |none=>
  rcases hu with⟨e',hu⟩|hu
  ·simp[Builtin.append_,v7,xB,run_underlying ht,run_underlying hu,sizeOf,typeInfo,hi,hl,hf]
  ·simp[Builtin.append_,v7,xB,run_underlying ht,run_underlying hu,sizeOf,typeInfo,hi,hl,hf]
 |some a=>
  have cz:(storeCells (a.add (0*i.size)) [] 0).run P w= .ok () w:=rfl;rcases hu with⟨e',hu⟩|hu
  ·simp[Builtin.append_,v7,xB,run_underlying ht,run_underlying hu,sizeOf,typeInfo,hi,hl,hf,storeCells]
  ·simp[Builtin.append_,v7,xB,run_underlying ht,run_underlying hu,sizeOf,typeInfo,hi,hl,hf,storeCells]
theorem bW{ts:Array TypeId}{t u ty e:TypeId}(v7:ts[0]? =some t)(xB:ts[1]? =some u){i:TypeInfo}{z:Value}{size:Nat}(ht:P.underlying t=some (.slice e))(hu:(∃e,P.underlying u=some (.slice e))∨P.underlying u=some .string)(hi:P.info? e=some i)(hz:i.zero=some z)(O_:i.size=size)
  {a:Option Addr} {Us iZ n:Nat} {x:Value} {ATz news:List Value} (ho:∀w',w'.heap=w.heap→(Builtin.firstCells size Us (.slice a Us iZ)).run P w' = .ok ATz.toArray w')
  (hn:ku P w size n x news) (AVJ:iZ<Us+n) (h63:Us+n≤Ds) (hby:i.bytes≤512):
  (Builtin.append_ ts ty #[.slice a Us iZ,x]).run P w= .ok (.slice (some ⟨w.heap.size,0,none⟩) (Us+n) (grownCap w (Us+n) iZ e))
   (w.drew.alloc (.cells (ATz.toArray++news.toArray++Builtin.zeroCells z.cells (grownCap w (Us+n) iZ e-(Us+n))) e)):=by
 subst O_;have hl:=hn.len w;have hf:=hn.cells w.drew rfl;have hfo:=ho w.drew rfl;have hno: ¬(Us+n≤iZ):=by omega
 have hb:(Us+n)*i.bytes≤140737488355328:=by
  have:(Us+n)*i.bytes≤Ds*512:=Nat.mul_le_mul h63 hby;grind[Ds]
 have h48:=growslice_fits AVJ hb;have AT0: ¬(281474976710656<Builtin.nextslicecap (Us+n) iZ*i.bytes):=by omega
 have ATV: ¬(9223372036854775807<((Us:Int)+(n:Int))):=by grind[Ds]
 rcases hu with⟨e',hu⟩|hu
 ·simp[Builtin.append_,v7,xB,run_underlying ht,run_underlying hu,sizeOf,typeInfo,zeroValue,hi,hz,hl,hno,ATV,AT0,Question.forced,hf,hfo,newRow,grownCap]
  grind
 ·simp[Builtin.append_,v7,xB,run_underlying ht,run_underlying hu,sizeOf,typeInfo,zeroValue,hi,hz,hl,hno,ATV,AT0,Question.forced,hf,hfo,newRow,grownCap]
  grind
end
end Go.Fw
end
section
namespace Go.Fw
def FL(w:World)(S:Nat→Prop)(d:Nat)(r:Ty)(css:List (List Value))(rows:List r.D)(Fs:List ABI):Prop:=
 css.length=rows.length∧Fs.length=rows.length∧(∀c∈css,c.length=r.n)∧ ∀(i:Nat) cs y G,css[i]? =some cs→rows[i]? =some y→Fs[i]? =some G→Ow w S d r cs y G
theorem FL.mono{w w':World}{S S':Nat→Prop}{d:Nat}{r:Ty}{css:List (List Value)}{rows:List r.D}{Fs:List ABI}(h:FL w S d r css rows Fs)(hS:∀c,S c→S' c)(hw:∀c,S c→w'.heap[c]? =w.heap[c]?)
  (hF:∀c∈Fs.flatten,w'.heap[c]? =w.heap[c]?):FL w' S' d r css rows Fs:=
 ⟨h.1,h.2.1,h.2.2.1,fun i cs y G a b c=>ES hS hw (fun x hx=>hF x (ARg.2 ⟨G,ANO c,hx⟩)) (h.2.2.2 i cs y G a b c)⟩
theorem FL.append{w:World}{S:Nat→Prop}{d:Nat}{r:Ty}{css AUc:List (List Value)}{rows C1:List r.D}{Fs Fs':List ABI}(h:FL w S d r css rows Fs)(k:FL w S d r AUc C1 Fs'):
  FL w S d r (css++AUc) (rows++C1) (Fs++Fs'):=by
 refine⟨by simp[h.1,k.1],by simp[h.2.1,k.2.1],fun c hc=>(AOs.1 hc).elim (h.2.2.1 c) (k.2.2.1 c),fun i cs y G a b c=> ?_⟩;by_cases hi:i<rows.length
 ·rw[ANA (by rw[h.1];omega)]at a
  rw[ANA hi]at b;rw[ANA (by rw[h.2.1];omega)]at c;exact h.2.2.2 i cs y G a b c
 ·rw[AOU (by rw[h.1];omega)]at a
  rw[AOU (by omega)]at b;rw[AOU (by rw[h.2.1];omega)]at c;rw[h.1]at a;rw[h.2.1]at c;exact k.2.2.2 _ cs y G a b c
theorem FL.weaken{w:World}{S:Nat→Prop}{d d':Nat}{r:Ty}{css:List (List Value)}{rows:List r.D}{Fs:List ABI}(h:FL w S d r css rows Fs)(hd:d'≤d):
  ∃(Gs:List ABI) (W:ABI),Fs.flatten.Perm (Gs.flatten++W)∧FL w (fun c=>S c∨c∈W) d' r css rows Gs:=by
 obtain⟨Gs,Ws,h1,h2,h3,h4⟩:=o0 (R:=fun i G F W=> ∀cs y,css[i]? =some cs→rows[i]? =some y→Ow w (fun c=>S c∨c∈W) d' r cs y F) Fs 0 (fun i G hG=>by
  rw[ASz];have hi:=(ALf.1 hG).1;have h1:=h.1;have h2:=h.2.1;obtain⟨F,W,hp,ho⟩:=J4 hd (h.2.2.2 i _ _ G (ALR (by omega)) (ALR (by omega)) hG);grind)
 refine⟨Gs,Ws.flatten,h3,h.1,h1.trans h.2.1,h.2.2.1,fun i cs y G a b c=> ?_⟩;have hi:=(ALf.1 c).1;have hw:Ws[i]? =some (Ws[i]'(by omega)):=ALR _;have hf:Fs[i]? =some (Fs[i]'(by omega)):=ALR _;have:=h4 i _ _ _ hf c hw cs y (by simp_all) (by simp_all);exact ES (fun x hx=>hx.imp id fun hx=>ARg.2 ⟨_,ANO hw,hx⟩) (fun _ _=>rfl) (fun _ _=>rfl) this
theorem Hn{n:Nat}:∀{css:List (List Value)},(∀c∈css,c.length=n)→css.flatten.length=css.length*n
 |[],_=>by simp
 |c::l,h=>by simp[h c (by simp),Hn (css:=l) (fun c hc=>h c (by simp[hc])),Nat.succ_mul];omega
theorem FL.one{w:World}{S:Nat→Prop}{d:Nat}{r:Ty}{css:List (List Value)}{rows:List r.D}{Fs:List ABI}(h:FL w S d r css rows Fs):∀v∈css.flatten,v.oneCell' =true:=by
 intro v hv;obtain⟨c,hc,hv⟩:=ARg.1 hv;obtain⟨i,hi,rfl⟩:=AQU hc;have h1:=h.1;have h2:=h.2.1;exact j8 (h.2.2.2 i _ _ _ (ALR hi) (ALR (by omega)) (ALR (by omega))) v hv
theorem FL.flat{w:World}{B S:Nat→Prop}{d:Nat}{r:Ty}(hf:r.flat=true){css:List (List Value)}{rows:List r.D}(h1:css.length=rows.length)(h2:∀c∈css,c.length=r.n)
  (h3:∀(i:Nat) cs y,css[i]? =some cs→rows[i]? =some y→Rd w B r cs y):FL w S d r css rows (List.replicate rows.length []):=by
 refine⟨h1,by simp,h2,fun i cs y G a b c=> ?_⟩;grind[List.mem_of_getElem?,iT]
theorem Bb.heap{w w':World}{b o:Nat}{cs:List Value}(h:Bb w b o cs)(e:w'.heap=w.heap):Bb w' b o cs:=h.of_block (by rw[e])
theorem QW{P:Program}{w:World}{a:Option Addr}{n cap size:Nat}{css:List (List Value)}(hl:css.length=n)(hc:∀c∈css,c.length=size)
  (h:n=0∨ ∃b o,a=some ⟨b,o,none⟩∧Bb w b o css.flatten):ku P w size n (.slice a n cap) css.flatten:=by
 refine⟨fun w' =>rfl,fun w' e=> ?_⟩;have hlen:css.flatten.length=n*size:=by rw[Hn hc,hl]
 rcases h with rfl|⟨b,o,rfl,h⟩
 ·have:css=[]:=APc hl
  subst this;cases a with
  |none=>rfl
  |some a=>
   simp only[Builtin.firstCells,Nat.zero_mul,AVM];rfl
 ·simp only[Builtin.firstCells]
  rw[←hlen];exact Lk (h.heap e)
theorem AFN{P:Program}{w:World}{s:ABs}:ku P w 1 s.length (.string ⟨s.toArray⟩) (s.map fun c=>[Value.int .u8 (c.toNat:Int)]).flatten:=by
 refine⟨fun w' =>rfl,fun w' _=> ?_⟩;have O_:(⟨s.toArray⟩:ByteArray).size=s.length:=by rfl
 have e1:(⟨s.toArray⟩:ByteArray).extract 0 s.length=⟨s.toArray⟩:=by
  rw[←O_];apply ByteArray.ext;simp
 simp only[Builtin.firstCells,e1,Sem.run_pure];have:(s.map fun c=>[Value.int .u8 (c.toNat:Int)]).flatten=s.map fun c=>Value.int .u8 (c.toNat:Int):=by
  have:=WO (l:=s.map fun c=>Value.int .u8 (c.toNat:Int));grind[List.map_map,Function.comp_def]
 simp_all
theorem nI{w:World}{S:Nat→Prop}{d:Nat}{r:Ty}{v:Value}{rows:List r.D}{F:ABI}(h:Ow w S (d+1) (.sl r) [v] rows F):
  ∃a cap css Fs R,v= .slice a rows.length cap∧rows.length≤cap∧FL w S d r css rows Fs∧F.Perm (Fs.flatten++R)∧
   ((cap=0∧F=[])∨ ∃b o arr ty fr,a=some ⟨b,o,none⟩∧w.heap[b]? =some (.cells arr ty fr)∧o+cap*r.n≤arr.size∧vx fr (arr.size+mk r)∧F=b::Fs.flatten∧Bb w b o css.flatten):=by
 simp only[Ow]at h;obtain⟨a,cap,e,hle,h⟩:=h;simp only[AQN,ASn]at e;subst e;rcases h with⟨h,rfl⟩|⟨b,o,arr,ty,fr,Fs,rfl,hb,O_,hu,rfl,hFl,hr⟩
 ·have:rows=[]:=APc (by omega)
  subst this;exact⟨a,cap,[],[],[],rfl,hle,⟨rfl,rfl,by simp,fun i cs y G h=>by simp at h⟩,by simp,.inl ⟨h,rfl⟩⟩
 ·
  have key:∀(n o:Nat) (ys:List r.D) (Fs:List ABI),ys.length=n→Fs.length=n→(∀(i:Nat) (y:r.D) (G:ABI),ys[i]? =some y→Fs[i]? =some G→ ∃cs,cs.length=r.n∧Bb w b (o+i*r.n) cs∧Ow w S d r cs y G)→
    ∃css,FL w S d r css ys Fs∧Bb w b o css.flatten:=by
   intro n
   induction n with
   |zero=>
    intro o ys Fs h1 h2 _;obtain rfl:=APc h1;obtain rfl:=APc h2;exact⟨[],⟨rfl,rfl,by simp,fun i cs y G h=>by simp at h⟩,fun _ _ h=>by simp at h⟩
   |succ n ih=>
    intro o ys Fs h1 h2 hh;obtain⟨y,ys,rfl⟩:=AWn h1;obtain⟨G,Fs,rfl⟩:=AWn h2;obtain⟨cs,c1,c2,c3⟩:=hh 0 y G rfl rfl;obtain⟨css,d1,d2⟩:=ih (o+r.n) ys Fs (by simp_all) (by simp_all) (fun i z G hz hG=>by
     obtain⟨cs,e1,e2,e3⟩:=hh (i+1) z G (by simp_all) (by simp_all);grind)
    refine⟨cs::css,⟨by simp[d1.1],by omega,fun c hc=> ?_,fun i cx y' G' a b c=> ?_⟩,?_⟩
    ·rcases AO3.1 hc with rfl|hc
     ·omega
     ·exact d1.2.2.1 c hc
    ·cases i with
     |zero=>simp_all
     |succ i=>exact d1.2.2.2 i cx y' G' (by simp_all) (by simp_all) (by simp_all)
    grind[List.flatten_cons,Bb.append]
  obtain⟨css,k1,k2⟩:=key rows.length o rows Fs rfl hFl hr;refine⟨_,cap,css,Fs,[b],rfl,hle,k1,?_,.inr ⟨b,o,arr,ty,fr,rfl,hb,O_,hu,rfl,k2⟩⟩;grind
theorem kf{w:World}{S:Nat→Prop}:∀{r:Ty} {cs:List Value} {x:r.D},Rd w S r cs x→Ow w S 0 r cs x []
 | .cons c r,cs,x,hr=>by
  simp only[Rd]at hr;obtain⟨v,l,rfl,h1,h2⟩:=hr;simp only[Ow];exact⟨v,l,[],[],rfl,rfl,kf h1,kf h2⟩
 | .unit,_,_,hr=>by grind[Rd,Ow]
 | .int k,_,_,hr=>by grind[Rd,Ow]
 | .bool,_,_,hr=>by grind[Rd,Ow]
 | .str,_,_,hr=>by grind[Rd,Ow]
 | .sl q,_,_,hr=>by simp only[Ow];simp_all
theorem ed{P:Program}{E:Env}{w:World}{vw bx:List Bx}{G:ABI}(h:C_ E w vw bx G)(hw:FI bx vw){x:AV}{v:Value}(hv:VR E w vw x v){r:Ty}{rows:List r.D}{QX:List Bx}{d:Nat}
  (e:nJ bx x=some ⟨r,rows,QX,d⟩):1≤d∧ ∃E' F css Fs R,HA E w vw bx G E' QX F∧F.Perm (List.flatten Fs++R)∧FL w E'.S (d-1) r css rows Fs∧ku P w r.n rows.length v css.flatten:=by
 have plain:∀{B:Nat→Prop} {ys:List r.D},r.flat=true→Rd w B (.sl r) [v] ys→ ∀S:Nat→Prop,∃css,FL w S 8 r css ys (List.replicate ys.length [])∧ku P w r.n ys.length v css.flatten:=by
  intro B ys hf hr S;simp only[Rd]at hr;obtain⟨a,cap,e1,hle,hr⟩:=hr;simp only[AQN,ASn]at e1;subst e1;rcases hr with hr|⟨b,o,rfl,_,hr⟩
  ·have:ys=[]:=APc hr
   subst this;exact⟨[],⟨rfl,rfl,by simp,fun i cs y G h=>by simp at h⟩,QW (css:=[]) rfl (by simp) (.inl rfl)⟩
  ·obtain⟨css,c1,c2,c3,c4⟩:=nO hr
   exact⟨css,FL.flat hf c1 c2 c4,QW c1 c2 (.inr ⟨b,o,rfl,c3⟩)⟩
 have done:∀{B:Nat→Prop} {ys:List r.D},r.flat=true→Rd w B (.sl r) [v] ys→rows=ys→QX=bx→d=9→
   1≤d∧ ∃E' F css Fs R,HA E w vw bx G E' QX F∧F.Perm (List.flatten Fs++R)∧FL w E'.S (d-1) r css rows Fs∧ku P w r.n rows.length v css.flatten:=by
  intro B ys hf hr e1 e2 e3;subst e1 e2 e3;obtain⟨css,k1,k2⟩:=plain hf hr E.S;exact⟨by omega,E,[],css,_,[],HA.refl h,by simp,k1,k2⟩
 unfold nJ at e;split at e
 ·rename_i s
  simp only[ALW,AMn]at e;obtain⟨rfl,e⟩:=e;have e:=AQ3 e;simp only[APo]at e;obtain⟨rfl,rfl,rfl⟩:=e;have Xi:=XL hv;subst Xi;refine⟨by omega,E,[],s.map fun c=>[Value.int .u8 (c.toNat:Int)],_,[],HA.refl h,?_,FL.flat (B:=fun _=>False) rfl (by simp) (by simp[Ty.n]) (fun i cs y a b=> ?_),?_⟩
  ·simp
  ·simp only[ARB,ALe]at a b
   obtain⟨c1,z1,rfl⟩:=a;obtain⟨c2,z2,rfl⟩:=b;grind[Rd]
  grind[AFN,Ty.n]
 ·rename_i s q ys
  split at e
  ·rename_i hf
   simp only[ALW,AMn]at e;obtain⟨rfl,e⟩:=e;have e:=AQ3 e;simp only[APo]at e;obtain⟨rfl,rfl,rfl⟩:=e;exact done hf hv rfl rfl rfl
  ·split at e
   case isFalse=>cases e
   rename_i hs;simp only[ALW,AMn]at e;obtain⟨rfl,e⟩:=e;have e:=AQ3 e;simp only[APo]at e;obtain⟨rfl,rfl,rfl⟩:=e;subst hs;simp only[VR,ASe]at hv;simp only[Rd]at hv;obtain⟨a,cap,e1,hle,hr⟩:=hv;simp only[AQN,ASn]at e1;subst e1;have key:∃css:List (List Value),List.length css=ys.length∧(∀c∈css,c.length=q.n)∧(∀(i:Nat) cs y,css[i]? =some cs→ys[i]? =some y→Rd w E.S q cs y)∧ku P w q.n ys.length (.slice a ys.length cap) css.flatten:=by
    rcases hr with hr|⟨b,o,rfl,_,hr⟩
    ·have:ys=[]:=APc hr
     subst this;exact⟨[],rfl,by simp,fun i cs y h=>by simp at h,QW (css:=[]) rfl (by simp) (.inl rfl)⟩
    ·obtain⟨css,c1,c2,c3,c4⟩:=nO hr
     exact⟨css,c1,c2,c4,QW c1 c2 (.inr ⟨b,o,rfl,c3⟩)⟩
   obtain⟨css,c1,c2,c3,c4⟩:=key;refine⟨APz _,E,[],css,List.replicate ys.length [],[],HA.refl h,by simp,⟨c1,by simp,c2,fun i cs y G a b c=> ?_⟩,c4⟩;grind[List.mem_of_getElem?,kf]
 ·rename_i b
  split at e
  case h_2=>cases e
  rename_i d0 q ys hb;split at e
  ·rename_i hf
   simp only[ALW,AMn]at e;obtain⟨rfl,e⟩:=e;have e:=AQ3 e;simp only[APo]at e;obtain⟨rfl,rfl,rfl⟩:=e;obtain⟨Fs,hB,hS⟩:=h;exact done hf (ZP hw hB hS.st hv (q:=q) (ys:=ys) (by simp[NA,hb,G5])) rfl rfl rfl
  ·simp only[ALW,AMn]at e
   obtain⟨rfl,e⟩:=e;have e:=AQ3 e;simp only[APo]at e;obtain⟨rfl,rfl,rfl⟩:=e;obtain⟨F,⟨hd,ho⟩,hB⟩:=h.take hb;have hvw:=X7 hw hb;simp only[VR,hvw,DB,ALW]at hv;obtain⟨_,_,_,rfl⟩:=hv;obtain⟨m,rfl⟩:∃m,d0=m+1:=⟨d0-1,by omega⟩;obtain⟨a,cap,css,Fs,R,e1,hle,bQ,hp,hcase⟩:=nI ho;refine⟨hd,E,F,css,Fs,R,⟨Le.refl _,by simp,fun n B hn=> ?_,hB⟩,hp,bQ,?_⟩
   ·grind
   ·rw[e1]
    refine QW bQ.1 bQ.2.2.1 ?_
    grind
 ·rename_i b p _
  split at e
  case h_2=>cases e
  rename_i d0 q ys hb;simp only[ALt]at e;obtain⟨⟨q',zs⟩,e1,e⟩:=e;dsimp only at e;split at e
  case isFalse=>cases e
  rename_i hf;simp only[ALW,AMn]at e;obtain⟨rfl,e⟩:=e;have e:=AQ3 e;simp only[APo]at e;obtain⟨rfl,rfl,rfl⟩:=e;obtain⟨Fs,hB,hS⟩:=h;exact done hf (ZP hw hB hS.st hv (q:=q') (ys:=zs) (by simp[NA,hb,e1])) rfl rfl rfl
 ·rename_i b p off n
  split at e
  case h_2=>cases e
  rename_i d0 q ys hb;simp only[ALt]at e;obtain⟨⟨q',zs⟩,e1,e⟩:=e;dsimp only at e;split at e
  case isFalse=>cases e
  rename_i hf;simp only[ALW,AMn]at e;obtain⟨rfl,e⟩:=e;have e:=AQ3 e;simp only[APo]at e;obtain⟨rfl,rfl,rfl⟩:=e;obtain⟨Fs,hB,hS⟩:=h;exact done hf (ZP hw hB hS.st hv (q:=q') (ys:=(zs.drop off).take n) (by simp[NA,hb,e1])) rfl rfl rfl
 simp_all
theorem eZ{E:Env}{w:World}{vw bx:List Bx}{G:ABI}(h:C_ E w vw bx G)(hw:FI bx vw){x:AV}{v:Value}(hv:VR E w vw x v){r:Ty}{rows:List r.D}{QX:List Bx}{d:Nat}
  (e:nF bx x=some ⟨r,rows,QX,d⟩):1≤d∧ ∃F1 F2,HA E w vw bx G E QX (F1++F2)∧Ow w E.S d (.sl r) [v] rows F1:=by
 have tk:∀{b d0:Nat} {q:Ty} {ys:List q.D},bx[b]? =some (.sl d0 q ys)→ ∃F,1≤d0∧Ow w E.S d0 (.sl q) [E.Hu b] ys F∧HA E w vw bx G E (bx.set b .dead) F:=by
  intro b d0 q ys hb;obtain⟨F,⟨hd,ho⟩,hB⟩:=h.take hb;refine⟨F,hd,ho,⟨Le.refl _,by simp,fun n B hn=> ?_,hB⟩⟩;grind
 unfold nF at e;split at e
 ·rename_i b
  split at e
  case h_2=>cases e
  rename_i d0 q ys hb;simp only[ALW,AMn]at e;obtain⟨rfl,e⟩:=e;have e:=AQ3 e;simp only[APo]at e;obtain⟨rfl,rfl,rfl⟩:=e;obtain⟨F,hd,ho,hT⟩:=tk hb;have hvw:=X7 hw hb;simp only[VR,hvw,DB,ALW]at hv;obtain⟨_,_,_,rfl⟩:=hv;exact⟨hd,F,[],by simp_all,ho⟩
 ·rename_i b off n
  split at e
  case h_2=>cases e
  rename_i d0 q ys hb;simp only[ALW,AMn]at e;obtain⟨rfl,e⟩:=e;have e:=AQ3 e;simp only[APo]at e;obtain⟨rfl,rfl,rfl⟩:=e;obtain⟨F,hd,ho,hT⟩:=tk hb;have hvw:=X7 hw hb;simp only[VR,hvw,DB,ALW]at hv;obtain⟨_,_,q',zs,a,len,cap,h1,h2,h3,rfl⟩:=hv;simp only[G5,ALW,AMn]at h1;obtain⟨rfl,h1⟩:=h1;obtain rfl:=AQ3 h1;rw[h3]at ho;obtain⟨m,rfl⟩:∃m,d0=m+1:=⟨d0-1,by omega⟩;obtain⟨F1,F2,hp,we⟩:=AC_ ho h2;exact⟨hd,F1,F2,⟨hT.le,hT.len,hT.within,hT.boxes.perm (AUd _ hp)⟩,we⟩
 simp_all
end Go.Fw
end
section
namespace Go.Fw
theorem eo{P:Program}{w:World}{a:Option Addr}{n cap size:Nat}{css:List (List Value)}(hl:css.length=n)(hc:∀c∈css,c.length=size)
  (h:n=0∨ ∃b o,a=some ⟨b,o,none⟩∧Bb w b o css.flatten):∀w',w'.heap=w.heap→(Builtin.firstCells size n (.slice a n cap)).run P w' = .ok css.flatten.toArray w':=
 (QW (P:=P) (cap:=cap) hl hc h).cells
theorem ZJ{z:Array Value}{n:Nat}:(Builtin.zeroCells z n).size=n*z.size:=size_zeroCells z n
section
variable{Y:Type} {P:Program} {T:Jg} (hT:Ef P T) {o:Oper} {E:Env} {σ:St} {a:Act} {w:World} {k:K Y} {y:Y}
include hT
theorem lZ(h:Rel E σ a w){E2:Env}{aA:List Bx}{F Fd R:ABI}{t u ty:TypeId}{ts:Array TypeId}(v7:ts[0]? =some t)(xB:ts[1]? =some u)
  (hu:(∃e,P.underlying u=some (.slice e))∨P.underlying u=some .string) {m:Nat} {r:Ty} (UJ:T.M9 t r=true)
  (kT:HA E w σ.bx σ.bx [] E2 aA F) {v1 v2:Value} {drows RM:List r.D} {css:List (List Value)} {Fs:List ABI}
  (ho:Ow w E2.S (m+1) (.sl r) [v1] drows Fd) (hs:FL w E2.S m r css RM Fs) (hn:ku P w r.n RM.length v2 css.flatten) (hp:F.Perm (Fd++Fs.flatten++R)) (Vx:drows.length+RM.length≤Ds):
  ∃v w' E',(Builtin.append_ ts ty #[v1,v2]).run P w= .ok v w'∧Rel E' { σ with bx:=aA++[.sl (m+1) r (drows++RM)] } a w'∧Q6 [] E σ.bx w E' (aA++[.sl (m+1) r (drows++RM)]) w'∧
   XR E' w' (aA++[.sl (m+1) r (drows++RM)]) (.c (.ref aA.length [])) v:=by
 obtain⟨e,ti,hut,T4,hs1,hby,hrow⟩:=KZ hT UJ;obtain⟨i,z,i1,i2,i3,i4,i5,hg⟩:=V6 hT T4 hrow;rw[hs1]at i2;obtain⟨Fs0,hB1,XU⟩:=kT.boxes;simp only[AMa]at XU;have hdF:∀c∈Fd,c∈F:=fun c hc=>hp.mem_iff.2 (by simp[hc])
 have hsF:∀c∈Fs.flatten,c∈F:=fun c hc=>hp.mem_iff.2 (by simp_all)
 have ndF:=(AMx.1 (hp.nodup_iff.1 (AMx.1 XU.nodup).2.1)).1;have ltF:∀c∈F,c<w.heap.size:=fun c hc=>XU.lt c (by simp_all)
 have Abx:∀c∈F,¬E2.S c:=fun c hc hS=>XU.free c (by simp_all) (XU.st c hS)
 have ho0:=ho;obtain⟨ad,cap,dcss,Fs1,R1,rfl,hle,hd,hp1,hcase⟩:=nI ho;have cu:css.flatten.length=RM.length*r.n:=by rw[Hn hs.2.2.1,hs.1]
 have hdl:dcss.flatten.length=drows.length*r.n:=by rw[Hn hd.2.2.1,hd.1]
 by_cases Sg:drows.length+RM.length≤cap
 ·rcases hcase with⟨h0,hF0⟩|⟨b,of,arr,ty0,fr,rfl,hb,O_,hunf,rfl,hc⟩
  ·
   have hd0:drows=[]:=APc (by omega);have hs0:RM=[]:=APc (by omega);subst hd0 hs0;have hc0:css=[]:=APc hs.1;subst hc0 h0;have jQ:=mC (P:=P) (w:=w) (ty:=ty) v7 xB hut hu i1 i2 (a:=ad) (x:=v2) (by simp_all);obtain⟨r1,r2,r3⟩:=S9 h kT (w':=w) (d:=m+1) (by omega) ho0 (fun c hc=> .inl (hdF c hc)) (AMx.1 ndF).1 (fun c hc=>ltF c (hdF c hc)) (fun _ _ _=>rfl) ⟨rfl,rfl,rfl,APz _⟩;grind
  ·
   have cq:of+drows.length*r.n+css.flatten.length≤arr.size:=by
    have:(drows.length+RM.length)*r.n≤cap*r.n:=AOk _ Sg;grind
   have jQ:=eQ (P:=P) (w:=w) (ty:=ty) v7 xB hut hu i1 i2 (b:=b) (o:=of) hn Sg (T8 hb cq hunf) hs.one;have hbF:b∈F:=hdF b (by simp);have bM:∀c,c∈Fs1.flatten∨c∈Fs.flatten∨E2.S c→c≠b:=by
    grind
   have dX:∀c,c≠b→(w.setCells b (of+drows.length*r.n) css.flatten).heap[c]? =w.heap[c]?:=fun c hc=>DT _ _ _ _ _ hc
   have xA:=hd.mono (w':=w.setCells b (of+drows.length*r.n) css.flatten) (S':=E2.S) (fun _ h=>h) (fun c hc=>dX c (bM c (.inr (.inr hc)))) (fun c hc=>dX c (bM c (.inl hc)));have uz:=hs.mono (w':=w.setCells b (of+drows.length*r.n) css.flatten) (S':=E2.S) (fun _ h=>h) (fun c hc=>dX c (bM c (.inr (.inr hc)))) (fun c hc=>dX c (bM c (.inr (.inl hc))));have gC:=xA.append uz;have AE1:Bb (w.setCells b (of+drows.length*r.n) css.flatten) b of (dcss++css).flatten:=by
    grind[List.flatten_append,Bb.append,TX,ON]
   have how:Ow (w.setCells b (of+drows.length*r.n) css.flatten) E2.S (m+1) (.sl r) [.slice (some ⟨b,of,none⟩) (drows.length+RM.length) cap] (drows++RM) (b::(Fs1++Fs).flatten):=by
    simp only[Ow];refine⟨_,cap,by rw[APV],by simp_all,.inr ⟨b,of,_,ty0,fr,Fs1++Fs,rfl,FY _ _ _ _ _ _ _ hb,by rw[Fe];omega,by rw[Fe];omega,rfl,gC.2.1,fun j q G hq hG=> ?_⟩⟩;have hj:=(ALf.1 hq).1;have h1:=gC.1;have qN:j<(dcss++css).length:=by omega
    refine⟨(dcss++css)[j],gC.2.2.1 _ (AL5 _),fun x u hx=> ?_,gC.2.2.2 j _ _ _ (ALR qN) hq hG⟩;have hxl:=(ALf.1 hx).1;rw[gC.2.2.1 _ (AL5 _)]at hxl;have:=YT (n:=r.n) (css:=dcss++css) (ex:=[]) (i:=j) gC.2.2.1 (ALR qN) hxl;rw[AMa,hx]at this;have:=AE1 _ _ this;grind
   have pc:(b::(Fs1++Fs).flatten)=(b::Fs1.flatten)++Fs.flatten:=by simp
   rw[pc]at how;obtain⟨r1,r2,r3⟩:=S9 h kT (w':=w.setCells b (of+drows.length*r.n) css.flatten) (d:=m+1) (by omega) how (fun c hc=> .inl ((AOs.1 hc).elim (hdF c) (hsF c))) ndF
    (fun c hc=>by grind[DY]) (fun c hc hcF=>dX c (fun e=>hcF (e▸hbF))) (CC _ _ _ _)
   grind
 ·
  have hold:drows.length=0∨ ∃b o,ad=some ⟨b,o,none⟩∧Bb w b o dcss.flatten:=by
   grind
  have jQ:=bW (P:=P) (w:=w) (ty:=ty) v7 xB hut hu i1 i4 i2 (eo (P:=P) (cap:=cap) hd.1 hd.2.2.1 hold) hn (by omega) Vx (by omega);have hge:=grownCap_ge w (drows.length+RM.length) cap e
  generalize hgc:grownCap w (drows.length+RM.length) cap e=gc at jQ hge
  let arr:Array Value:=dcss.flatten.toArray++css.flatten.toArray++Builtin.zeroCells z.cells (gc-(drows.length+RM.length))
  have bu:arr.toList=(dcss++css).flatten++(Builtin.zeroCells z.cells (gc-(drows.length+RM.length))).toList:=by simp[arr]
  have hzl:z.cells.size=r.n:=by rw[←AU0,i5,Gp]
  have AZd:arr.size=gc*r.n:=by
   simp only[arr,AWz,AW0,ZJ,hzl,cu,hdl,←AS5];simp_all
  let w':=w.drew.alloc (.cells arr e)
  have new:w'.heap[w.heap.size]? =some (.cells arr e):=by
   show(w.heap.push (.cells arr e))[w.heap.size]? =_
   simp
  have AEe:∀c,c<w.heap.size→w'.heap[c]? =w.heap[c]?:=fun c hc=>Im (w:=w) (o:= .cells arr e) hc
  have hR1:∀c∈Fs1.flatten,c∈Fd:=fun c hc=>hp1.mem_iff.2 (by simp_all)
  have xA:=hd.mono (w':=w') (S':=E2.S) (fun _ h=>h) (fun c hc=>AEe c (XU.cA c (XU.st c hc))) (fun c hc=>AEe c (ltF c (hdF c (hR1 c hc))));have uz:=hs.mono (w':=w') (S':=E2.S) (fun _ h=>h) (fun c hc=>AEe c (XU.cA c (XU.st c hc))) (fun c hc=>AEe c (ltF c (hsF c hc)));have gC:=xA.append uz;have how:Ow w' E2.S (m+1) (.sl r) [.slice (some ⟨w.heap.size,0,none⟩) (drows++RM).length gc] (drows++RM) (w.heap.size::(Fs1++Fs).flatten):=
   dC new bu gC.1 (by simp_all) (by omega) (WB _) gC.2.1 gC.2.2.2
  rw[APV]at how;have O9:∀c∈(Fs1++Fs).flatten,c∈Fd++Fs.flatten:=by
   grind
  have nd1:(Fs1++Fs).flatten.Nodup:=by
   grind
  have AdX:∀c∈(Fs1++Fs).flatten,c∈F:=fun c hc=>(AOs.1 (O9 c hc)).elim (hdF c) (hsF c)
  obtain⟨r1,r2,r3⟩:=S9 h kT (w':=w') (d:=m+1) (by omega) how (by
    simp_all) (by
    grind) (by
    grind) (fun c hc _=>AEe c hc) ⟨rfl,rfl,rfl,by simp[w']⟩
  grind
end
end Go.Fw
end
section
namespace Go.Fw
theorem Wh{α β:Type}{args:Array α}{f:α→β}{x y:β}(h:args.toList.map f=[x,y]):∃a b,args= #[a,b]∧f a=x∧f b=y:=by
 obtain⟨l⟩:=args
 match l,h with
 |[a,b],h=>grind
theorem W7{α β:Type}{args:Array α}{f:α→β}{x:β}(h:args.toList.map f=[x]):∃a,args= #[a]∧f a=x:=by
 obtain⟨l⟩:=args;simp_all
section
variable{Y:Type} {P:Program} {T:Jg} (hT:Ef P T) {o:Oper} {E:Env} {σ:St} {a:Act} {w:World} {k:K Y} {y:Y}
include hT
theorem v_(h:Rel E σ a w){c:Call}{x1 x2:XV}(ho:o.op= .call c)(hc:c.callee= .builtin .append)(II:c.args.toList.map σ.ev=[x1,x2])(e:dj T c.argTypes σ x1 x2 k=some y):K4 P o E σ a w k y:=by
 obtain⟨o1,o2,hargs',rfl,rfl⟩:=Wh II;have bV:=h.ev o1;have Zv:=h.ev o2;have exec:∀{v w'},(Builtin.append_ c.argTypes o.type #[a.eval o1,a.eval o2]).run P w= .ok v w'→(execOp a.eval o).run P w= .ok (.value v) w':=by
  intro v w' hr;simp only[execOp,ho,resolve,hc,hargs',invoke,builtin,Sem.run_bind,Sem.run_pure,Result.andThen_ok,List.map_toArray,ATb,AWs,hr]
 unfold dj at e;split at e
 case h_2=>cases e
 rename_i t u v7 xB;split at e
 case isFalse=>cases e
 rename_i hu;have hu':(∃e,P.underlying u=some (.slice e))∨P.underlying u=some .string:=by
  rw[AR9]at hu;grind[k_,Wg]
 split at e
 ·
  rename_i z hz1 hz2;rw[hz1]at bV;rw[hz2]at Zv;simp only[ALt]at e;obtain⟨⟨r,rows,QX,d⟩,e1,e⟩:=e;dsimp only at e;split at e
  case isFalse=>cases e
  rename_i UJ;split at e
  case isFalse=>cases e
  rename_i Vx;obtain⟨hd,E',F,css,Fs,R,kT,hp,hs,hn⟩:=ed (P:=P) h.bx (FI.refl _) Zv e1;obtain⟨m,rfl⟩:∃m,d=m+1:=⟨d-1,by omega⟩;have AaU:a.eval o1= .slice none 0 0:=bV;obtain⟨v,w',E3,hr,r1,r2,r3⟩:=lZ hT h (ty:=o.type) v7 xB hu' UJ kT (v1:= .slice none 0 0) (Fd:=[]) (drows:=[]) pn hs hn (R:=R) (by simp_all) (by simp_all);rw[←AaU]at hr;simp only[ASg]at r1 r3;exact⟨_,_,_,_,_,.inl (exec hr),r1,r3,r2.any,rfl,e⟩
 ·rename_i z1 z2 ya hz1 hz2
  rw[hz1]at bV;rw[hz2]at Zv;simp only[ALt]at e;obtain⟨⟨r,rows,jN,d⟩,e1,e⟩:=e;dsimp only at e;split at e
  case isFalse=>cases e
  rename_i UJ;simp only[ALt]at e;obtain⟨⟨q,srows0,aA,ds⟩,e2,RM,e3,e⟩:=e;dsimp only at e e3;obtain⟨hqr,e4⟩:=H3 e3;subst hqr;subst e4;dsimp only at e;split at e
  case isFalse=>cases e
  rename_i Vx;obtain⟨hd,F1,F2,k1,ho1⟩:=eZ h.bx (FI.refl _) bV e1;obtain⟨hds,E',F3,css,Fs,R,k2,hp,hs,hn⟩:=ed (P:=P) k1.boxes ((FI.refl _).nP k1) Zv e2;obtain⟨m,hm⟩:∃m,min d ds=m+1:=⟨min d ds-1,by omega⟩;rw[hm]at e;obtain⟨A,W1,p1,ho1'⟩:=J4 (d:=m+1) (by omega) ho1;obtain⟨Gs,W2,p2,uz⟩:=hs.weaken (d':=m) (by omega);have hB:=k2.boxes.perm (G':=(A++Gs.flatten++(R++F2))++(W1++W2)++[]) (by
   grind)
  obtain⟨hle,XU⟩:=hB.share;have kT:HA E w σ.bx σ.bx [] _ aA (A++Gs.flatten++(R++F2)):=⟨(k1.le.trans k2.le).trans hle,k2.len.trans k1.len,fun b B hb=>(k2.within b B hb).elim .inl (k1.within b B),XU⟩;have ho2:Ow w (fun c=>E'.S c∨c∈W1++W2) (m+1) (.sl q) [a.eval o1] rows A:=
   ES (fun c hc=>hc.imp (k2.le.S c) (by simp_all)) (fun _ _=>rfl) (fun _ _=>rfl) ho1'
  have hs2:FL w (fun c=>E'.S c∨c∈W1++W2) m q css srows0 Gs:=uz.mono (fun c hc=>hc.imp id (by simp_all)) (fun _ _=>rfl) (fun _ _=>rfl);obtain⟨v,w',E3,hr,r1,r2,r3⟩:=lZ hT h (ty:=o.type) v7 xB hu' UJ kT ho2 hs2 hn (AXD _) Vx;exact⟨_,_,_,_,_,.inl (exec hr),r1,r3,r2.any,rfl,e⟩
 simp_all
end
end Go.Fw
end
section
namespace Go.Fw
theorem mg{P:Program}{w:World}{b o:Nat}{ty:TypeId}{v:Value}(ht:w.there b o v.cells.toList.length)(hi:(P.info? ty).map (·.size)=some v.cells.toList.length)(h1:∀u∈v.cells.toList,u.oneCell' =true):
  (Instr.storeAt ty (.pointer (some ⟨b,o,none⟩)) v).run P w= .ok () (w.setCells b o v.cells.toList):=by
 have:=run_storeCells_cells (P:=P) b o v.cells.toList 0 w (fun j hj=>by simpa using(ht j hj).1) (fun j hj=>by simpa using(ht j hj).2) h1;cases hq:P.info? ty with
 |none=>simp_all
 |some i=>
  have hs:v.cells.size=i.size:=by simp_all
  simp only[ATU]at this;simp[Instr.storeAt,Instr.sureAddr,storeVar,sizeOf,typeInfo,hq,hs,this]
theorem aw{E E1 E':Env}{w w':World}{vw jN QX:List Bx}{F:ABI}(b0:Nat)(k:HA E w vw vw [] E1 jN F)(st:∀c,E.S c→E.T c)(hlen:vw.length≤QX.length)
  (ug:∀b d r rows,b≠b0→b<vw.length→QX[b]? =some (.sl d r rows)→jN[b]? =some (.sl d r rows)) (AE_:∀b,b<vw.length→E'.Ht b=E1.Ht b) (mY:∀b,b<vw.length→E'.Hu b=E1.Hu b) (hT:E'.T=E1.T) (hS:E'.S=E1.S)
  (hw:∀c,c<w.heap.size→c∉F→w'.heap[c]? =w.heap[c]?)
  (h0:∀d r rows,QX[b0]? =some (.sl d r rows)→ ∃d0 SB,vw[b0]? =some (.sl d0 r SB)∧
   ∀p,DE r SB p→ ∀q ys,G5 r SB p=some ⟨q,ys⟩→DE r rows p∧(∃ui,G5 r rows p=some ⟨q,ui⟩∧List.length ui=List.length ys)∧
    ∀h,Ir w (E.Hu b0) p=some h→Ir w' (E'.Hu b0) p=some h):SR E w vw E' w' QX:=by
 have hB:=k.boxes;obtain⟨Fs,⟨h1,h2⟩,h3⟩:=hB;simp only[AMa]at h3;have xM:∀c,E1.T c→w'.heap[c]? =w.heap[c]?:=fun c hc=>hw c (h3.cA c hc) fun hf=>h3.free c (by simp[hf]) hc
 refine⟨hlen,fun b hb=>by rw[AE_ b hb,k.le.Ht],fun c hc=>by rw[hT];exact k.le.T c hc,fun c hc=>by rw[hS];exact k.le.S c hc,st,fun c hc=>xM c (k.le.T c hc),fun b d r rows hb e=> ?_⟩;by_cases hb0:b=b0
 ·simp_all
 have e1:=ug b _ _ _ hb0 hb e;rcases k.within b _ e1 with e2|e2
 ·cases e2
 ·refine⟨d,rows,e2,fun p hp q ys hg=>⟨hp,⟨ys,hg,rfl⟩,fun h' hh=> ?_⟩⟩
  have hF:Fs[b]? =some (Fs[b]'(by grind)):=ALR _;obtain⟨hd,ho⟩:=h2 b _ _ e1 hF;rw[mY b hb];rw[←k.le.Hu]at hh;refine tZ ho (fun c hc=>xM c (h3.st c hc)) (fun c hc=> ?_) hp hg hh;have O9:c∈Fs.flatten:=ARg.2 ⟨_,ANO hF,hc⟩;exact hw c (h3.lt c (by simp[O9])) fun hf=>(AMx.1 h3.nodup).2.2 c O9 c hf rfl
def Bx.map(f:AV→AV):Bx→Bx
 | .mem cs=> .mem (cs.map f)
 |B=>B
theorem C_.AT2{E E':Env}{w w':World}{vw vw' bx:List Bx}{G:ABI}(f:AV→AV)(h:C_ E w vw bx G)(k:∀x v,VR E w vw x v→VR E' w' vw' (f x) v)
  (hS:∀c,E.S c→E'.S c) (AE_:∀b,b<bx.length→E'.Ht b=E.Ht b) (mY:∀b,b<bx.length→E'.Hu b=E.Hu b)
  (hw:∀c,(E.S c∨(¬E.T c∧c∉G))→c<w.heap.size→w'.heap[c]? =w.heap[c]?)
  (AE8:∀F,Sep E w (F++G)→Sep E' w' (F++G)):C_ E' w' vw' (bx.map (Bx.map f)) G:=by
 obtain⟨Fs,⟨hl,h1⟩,h2⟩:=h;refine⟨Fs,⟨by simp_all,fun n B F hn hF=> ?_⟩,AE8 _ h2⟩;rw[ARB,ALe]at hn;obtain⟨B,hn,rfl⟩:=hn;have Jq:=(ALf.1 hn).1;have h3:=h1 n B F hn hF;have AOi:∀c∈F,c∈Fs.flatten:=fun c hc=>ARg.2 ⟨F,ANO hF,hc⟩
 have hFw:∀c∈F,w'.heap[c]? =w.heap[c]?:=fun c hc=>hw c (.inr ⟨h2.free c (by simp_all),fun hg=>by
  have:=(AMx.1 h2.nodup).2.2 c (AOi c hc) c hg;omega⟩) (h2.lt c (by simp_all))
 have sb:∀c,E.S c→w'.heap[c]? =w.heap[c]?:=fun c hc=>hw c (.inl hc) (h2.cA c (h2.st c hc))
 cases B with
 |mem cs=>
  obtain⟨rfl,arr,ty,fr,ha,hu,hv⟩:=h3;refine⟨by simp_all,arr,ty,fr,?_,hu,Cb.Ld f k hv⟩;simp_all
 |sl d r rows=>
  obtain⟨hd,ho⟩:=h3;refine⟨hd,?_⟩;grind[ES]
 |dead=>exact h3
theorem Bx.map_id:∀B:Bx,Bx.map id B=B
 | .mem cs=>by simp[Bx.map]
 | .sl _ _ _=>rfl
 | .dead=>rfl
theorem Zk(bx:List Bx):bx.map (Bx.map id)=bx:=by
 induction bx with
 |nil=>rfl
 |cons B l ih=>simp[ih,Bx.map_id]
theorem lS(b:Nat)(bx:List Bx):bx.map (AAR b)=bx.map (Bx.map (Jh b)):=by
 rfl
theorem ACF{E:Env}{σ:St}{a:Act}{w:World}(h:Rel E σ a w){b j:Nat}{cs cx:List AV}(hb:σ.bx[b]? =some (.mem cs)){xs:List AV}{vs:List Value}(hx:gi E w σ.bx xs vs)(bM:xs≠[])
  (e:Wa cs j xs=some cx):
  w.there (E.Ht b) j vs.length∧Rel E { σ with bx:=σ.bx.set b (.mem cx) } a (w.setCells (E.Ht b) j vs)∧Q6 [b] E σ.bx w E (σ.bx.set b (.mem cx)) (w.setCells (E.Ht b) j vs):=by
 have st:=h.bx.st;obtain⟨F,⟨rfl,arr,ty,fr,ha,hu,hv⟩,hB⟩:=h.bx.take hb;simp only[AMa]at hB;have Jq:=(ALf.1 hb).1;rcases Wv hv hx e with⟨h1,h2⟩|⟨h1,_⟩
 case inr=>simp_all
 have cq:j+vs.length≤arr.size:=by
  have l1:=Cb.len hv;have l2:=Cb.len hx;simp_all
 have bd: ¬E.T (E.Ht b):=hB.AEg _ (by simp);have hB0:=hB;have dX:∀c,c≠E.Ht b→(w.setCells (E.Ht b) j vs).heap[c]? =w.heap[c]?:=fun c hc=>DT _ _ _ _ _ hc
 have hw:∀c,c<w.heap.size→c∉[E.Ht b]→(w.setCells (E.Ht b) j vs).heap[c]? =w.heap[c]?:=fun c _ hc=>dX c (by simp_all)
 have kT:HA E w σ.bx σ.bx [] E (σ.bx.set b .dead) [E.Ht b]:=⟨Le.refl _,by simp,fun n B hn=>by
  grind,by simp_all⟩
 have keep:SR E w σ.bx E (w.setCells (E.Ht b) j vs) (σ.bx.set b (.mem cx)):=aw b kT st (by simp) (fun n d r rows hn _ hq=>by
   grind) (fun _ _=>rfl) (fun _ _=>rfl) rfl rfl hw (fun d r rows hq=>by
   simp_all)
 refine⟨T8 ha cq hu,⟨h.NO,h.tm.imp fun _ _ hq=>O1 keep hq,?_⟩,⟨⟨fun _ h=>h,fun _ h=>h,fun _ h=> .inl h,fun _ h=> .inl h,fun c hc=>dX c (fun e=>bd (e▸hc)),(CC _ _ _ _).os,(CC _ _ _ _).tape,(CC _ _ _ _).output,(CC _ _ _ _).size⟩,by simp,fun _ _=>⟨rfl,rfl⟩,fun n hn=>by
  grind,fun n B B' qQ hB TF qO=>by
  simp at qQ;rw[AR8 (fun e=>qQ e.symm),hB]at TF;cases TF;refine⟨U1.refl qO,fun c hc=>dX c (fun e=> ?_)⟩;obtain⟨Fs,⟨f1,f2⟩,f3⟩:=hB0;have XU:(σ.bx.set b .dead)[n]? =some B:=by grind
  have hF:Fs[n]? =some (Fs[n]'(by grind)):=ALR _;rcases dU (f2 n B _ XU hF) hc with hs|hs
  ·simp_all
  ·exact(AMx.1 f3.nodup).2.2 c (ARg.2 ⟨_,ANO hF,hs⟩) (E.Ht b) (by simp) e⟩⟩
 have hT:=hB.turn (E':=E) (w':=w.setCells (E.Ht b) j vs) (vw':=σ.bx.set b (.mem cx)) (fun x v hq=>GK keep hq) (fun _ h=>h) (fun _ _=>rfl) (fun _ _=>rfl) (fun c hc _=>dX c (fun e=>by
   simp_all)) (fun F hF=>⟨hF.nodup,hF.free,fun c hc=>by rw[DY];exact hF.lt c hc,hF.st,fun c hc=>by rw[DY];exact hF.cA c hc⟩)
 have:=C_.put (b:=b) (B:= .mem cx) (F:=[E.Ht b]) (G:=[]) (by simpa using hT) (by simp_all) ⟨rfl,FG arr j vs,ty,fr,FY _ _ _ _ _ _ _ ha,by rw[Fe];omega,h1.imp fun _ _ hq=>GK keep hq⟩;simp_all
theorem XH:∀{r:Ty} {j j':Nat} {x:r.D} {t:Ty} {y:t.D} {x':r.D},D5 r j x t y=some x'→j'≠j→BL r j' x' =BL r j' x
 | .cons c r,0,j',x,t,y,x',e,hj=>by
  simp only[D5]at e;split at e
  ·rename_i h
   subst h;simp only[ALW]at e;subst e;cases j' with
   |zero=>omega
   |succ j' =>rfl
  simp_all
 | .cons c r,j+1,j',x,t,y,x',e,hj=>by
  simp only[D5,ALe]at e;obtain⟨z,e1,rfl⟩:=e;cases j' with
  |zero=>rfl
  |succ j' =>
   simp only[BL];exact XH e1 (by omega)
 | .unit,_,_,_,_,_,_,e,_=>by rfl
 | .int k,0,j',x,t,y,x',e,hj=>by cases j' with
  |zero=>omega
  |succ j' =>rfl
 | .bool,0,j',x,t,y,x',e,hj=>by cases j' with
  |zero=>omega
  |succ j' =>rfl
 | .str,0,j',x,t,y,x',e,hj=>by cases j' with
  |zero=>omega
  |succ j' =>rfl
 | .sl _,0,j',x,t,y,x',e,hj=>by cases j' with
  |zero=>omega
  |succ j' =>rfl
 | .int _,_+1,_,_,_,_,_,e,_=>by simp[D5]at e
 | .bool,_+1,_,_,_,_,_,e,_=>by simp[D5]at e
 | .str,_+1,_,_,_,_,_,e,_=>by simp[D5]at e
 | .sl _,_+1,_,_,_,_,_,e,_=>by simp[D5]at e
theorem T6:∀{r:Ty} {j:Nat} {x:r.D} {t:Ty} {y:t.D} {x':r.D},D5 r j x t y=some x'→BL r j x' =some ⟨t,y⟩∧ ∃y0:t.D,BL r j x=some ⟨t,y0⟩
 | .cons c r,0,x,t,y,x',e=>by
  simp only[D5]at e;split at e
  ·rename_i h
   subst h;simp only[ALW]at e;subst e;exact⟨rfl,_,rfl⟩
  simp_all
 | .cons c r,j+1,x,t,y,x',e=>by
  simp only[D5,ALe]at e;obtain⟨z,e1,rfl⟩:=e;simp only[BL];exact T6 e1
 | .unit,_,_,_,_,_,e=>by simp[D5]at e
 | .int k,0,x,t,y,x',e=>by
  simp only[D5]at e;split at e
  ·rename_i h;subst h;cases e;exact⟨rfl,_,rfl⟩
  simp_all
 | .bool,0,x,t,y,x',e=>by
  simp only[D5]at e;split at e
  ·rename_i h;subst h;cases e;exact⟨rfl,_,rfl⟩
  simp_all
 | .str,0,x,t,y,x',e=>by
  simp only[D5]at e;split at e
  ·rename_i h;subst h;cases e;exact⟨rfl,_,rfl⟩
  simp_all
 | .sl _,0,x,t,y,x',e=>by
  simp only[D5]at e;split at e
  ·rename_i h;subst h;cases e;exact⟨rfl,_,rfl⟩
  simp_all
 | .int _,_+1,_,_,_,_,e=>by simp[D5]at e
 | .bool,_+1,_,_,_,_,e=>by simp[D5]at e
 | .str,_+1,_,_,_,_,e=>by simp[D5]at e
 | .sl _,_+1,_,_,_,_,e=>by simp[D5]at e
theorem k9{r:Ty}{rows:List r.D}{i k:Nat}{x:r.D}(hi:i<rows.length):rowAt r (rows.set i x) k=if k=i then x else rowAt r rows k:=by
 unfold rowAt;grind
theorem qA:∀{p:List V_} {r:Ty} {rows C1:List r.D} {q:Ty} {ys ui:List q.D},G5 r rows p=some ⟨q,ys⟩→ui.length=ys.length→nv r rows p q ui=some C1→C1.length=rows.length
 |[],r,rows,C1,q,ys,ui,h1,h2,h3=>by
  simp only[G5,ALW,AMn]at h1;obtain⟨rfl,h1⟩:=h1;obtain rfl:=AQ3 h1;simp only[nv,AW2,Qy,ALW]at h3;simp_all
 |s::p,r,rows,C1,q,ys,ui,h1,h2,h3=>by
  simp only[nv]at h3;split at h3
  ·simp only[ALt,ALe]at h3
   grind
  simp_all
theorem lx{t:Ty}(ht:t.scalar=true){y:t.D}{q:Ty}{i j:Nat}:∀{p':List V_} {r:Ty} {rows C1:List r.D} {p:List V_} {ys:List q.D} {Zd:q.D},DE r rows p→G5 r rows p=some ⟨q,ys⟩→i<ys.length→
  D5 q j (rowAt q ys i) t y=some Zd→nv r rows p q (ys.set i Zd)=some C1→DE r rows p'→ ∀q' zs,G5 r rows p' =some ⟨q',zs⟩→
   DE r C1 p'∧ ∃zs',G5 r C1 p' =some ⟨q',zs'⟩∧List.length zs' =List.length zs
 |[],r,rows,C1,p,ys,Zd,_,hg,hi,hc,hs,_,q',zs,vt=>by
  simp only[G5,ALW,AMn]at vt;obtain⟨rfl,vt⟩:=vt;obtain rfl:=AQ3 vt;exact⟨by simp[DE],C1,by rfl,qA hg (by simp) hs⟩
 |s'::p',r,rows,C1,p,ys,Zd,hp,hg,hi,hc,hs,hp',q',zs,vt=>by
  have hlen:=qA hg (by simp) hs;simp only[DE]at hp'⊢;obtain⟨g1,g2,g3⟩:=hp';simp only[G5]at vt⊢;split at vt
  case h_2=>cases vt
  rename_i q0 x0 gV;rw[gV]at g3;dsimp only at g3;have key:∃x1,BL r s'.j (rowAt r C1 s'.i)=some ⟨.sl q0,x1⟩∧DE q0 x1 p'∧ ∃zs',G5 q0 x1 p' =some ⟨q',zs'⟩∧List.length zs' =List.length zs:=by
   have same:BL r s'.j (rowAt r C1 s'.i)=some ⟨.sl q0,x0⟩→ ∃x1,BL r s'.j (rowAt r C1 s'.i)=some ⟨.sl q0,x1⟩∧DE q0 x1 p'∧ ∃zs',G5 q0 x1 p' =some ⟨q',zs'⟩∧List.length zs' =List.length zs:=
    fun h=>⟨x0,h,g3,zs,vt,rfl⟩
   cases p with
   |nil=>
    simp only[G5,ALW,AMn]at hg;obtain⟨rfl,hg⟩:=hg;obtain rfl:=AQ3 hg;simp only[nv,AW2,Qy,ALW]at hs;subst hs;apply same;rw[k9 hi];split
    ·rename_i e
     subst e;by_cases ej:s'.j=j
     ·obtain⟨_,y0,h0⟩:=T6 hc
      rw[ej,h0]at gV;simp only[ALW,AMn]at gV;obtain⟨rfl,_⟩:=gV;simp[Ty.scalar]at ht
     grind[XH]
    omega
   |cons s p=>
    simp only[DE]at hp;obtain⟨k1,k2,k3⟩:=hp;simp only[G5]at hg;split at hg
    case h_2=>cases hg
    rename_i r' x hcx;rw[hcx]at k3;dsimp only at k3;simp only[nv,hcx,ALt,ALe]at hs;obtain⟨x',hs1,row2,hs2,rfl⟩:=hs;rw[k9 k1];rw[k9 k1]at same;split
    ·rename_i e
     rw[ALI e]at same;rw[e]at gV;by_cases ej:s'.j=s.j
     ·rw[ej]at gV⊢
      rw[hcx]at gV;simp only[ALW,AMn,Ty.sl.injEq]at gV;obtain⟨rfl,gV⟩:=gV;obtain rfl:=AQ3 gV;obtain⟨m1,m2⟩:=lx ht k3 hg hi hc hs1 g3 q' zs vt;grind[T6]
     grind[XH]
    simp_all
  grind
theorem rK{w w':World}{B:Nat→Prop}(Z1:∀A,w'.cell? A=w.cell? A∨ ∃v,w'.cell? A=some v∧isSlice v=false):∀{p:List V_} {r:Ty} {h:Value} {rows:List r.D} {hh:Value},
  Rd w' B (.sl r) [h] rows→DE r rows p→Ir w h p=some hh→Ir w' h p=some hh
 |[],_,h,_,hh,_,_,e=>by grind[DB]
 |s::p,r,h,rows,hh,hr,hp,e=>by
  simp only[DE]at hp;obtain⟨hi,O_,hp⟩:=hp;simp only[Rd]at hr;obtain⟨a,cap,e1,_,hr⟩:=hr;obtain rfl:=(List.cons.inj e1).1;rcases hr with hr|⟨b,o,rfl,hb,hr⟩
  ·omega
  obtain⟨cs,hl,hc,hrow⟩:=hr s.i _ (Q3 hi);split at hp
  case h_2=>exact hp.elim
  rename_i q x gV;obtain⟨v,hv,hrv⟩:=dv hrow gV;have hcv:=hc _ _ hv;rw[←O_]at hcv;simp only[Ir]at e⊢;split at e
  case h_2=>cases e
  rename_i v0 hv0;rcases Z1 ⟨b,o+s.i*s.sz+s.j,none⟩with h1|⟨u,h1,h2⟩
  ·rw[h1,hv0]
   rw[h1,hv0]at hcv;cases hcv;exact rK Z1 hrv hp e
  ·rw[hcv]at h1
   cases h1;simp only[Rd]at hrv;obtain⟨_,_,e2,_⟩:=hrv;simp only[AQN,ASn]at e2;grind[isSlice]
theorem ACz{E E':Env}{w w':World}{vw vw':List Bx}{b d d':Nat}{r:Ty}{rows C1:List r.D}(k:SR E w vw E' w' (vw'.set b .dead))(hb:vw[b]? =some (.sl d r rows))(z6:vw'[b]? =some (.sl d' r C1))(hl:C1.length=rows.length)
  (hh:E'.Hu b=E.Hu b) {x:AV} {v:Value} (h:VR E w vw x v):VR E' w' vw' (Jh b x) v:=by
 have h1:=GK k h;have dX:∀{b'},b'≠b→(vw'.set b .dead)[b']? =vw'[b']?:=fun e=>AR8 (fun h=>e h.symm)
 cases x with
 |v t x=>exact h1
 |sl s r x=>exact h1
 |nil=>exact h1
 |IG c j=>exact⟨by simpa using h1.1,h1.2⟩
 |PB s r x j=>exact h1
 |fn f KM=>exact⟨fun c hc=>by simpa using h1.1 c hc,h1.2⟩
 |qP f rows=>exact h1
 |xj=>exact h1
 |undef=>trivial
 |ref c p=>
  cases p with
  |nil=>
   simp only[Jh];by_cases e:c=b
   ·subst e
    simp only[VR,hb,z6]at h⊢;refine⟨h.1,by simp[DE],⟨_,rfl⟩,?_⟩;grind[DB]
   grind[VR]
  |cons s p=>
   grind[Jh,VR]
 |win c p off n=>
  cases p with
  |nil=>
   simp only[Jh];by_cases e:c=b
   ·subst e
    simp only[VR,hb,z6]at h⊢;obtain⟨h0,_,q,ys,a,len,cap,e1,e2,e3,e4⟩:=h;simp only[G5,ALW,AMn]at e1;obtain⟨rfl,e1⟩:=e1;obtain rfl:=AQ3 e1;refine⟨h0,by simp[DE],r,C1,a,len,cap,rfl,by omega,?_,e4⟩;grind[DB]
   grind[VR]
  |cons s p=>
   grind[Jh,VR]
 |JX c p i sz j=>
  cases p with
  |nil=>
   simp only[Jh];by_cases e:c=b
   ·subst e
    simp only[VR,hb,z6]at h⊢;obtain⟨h0,_,q,ys,bb,o,len,cap,e1,e2,e3,e4⟩:=h;simp only[G5,ALW,AMn]at e1;obtain⟨rfl,e1⟩:=e1;obtain rfl:=AQ3 e1;refine⟨h0,by simp[DE],r,C1,bb,o,len,cap,rfl,by omega,?_,e4⟩;grind[DB]
   grind[VR]
  |cons s p=>
   grind[Jh,VR]
theorem AEE{E E':Env}{w w':World}{vw vw':List Bx}{b:Nat}(k:∀x v,VR E w vw x v→VR E' w' vw' (Jh b x) v){x:XV}{v:Value}(h:XR E w vw x v):XR E' w' vw' (sn b x) v:=by
 cases x with
 |c x=>exact k x v h
 |agg l=>
  obtain⟨vs,rfl,VI⟩:=h;exact⟨vs,rfl,Cb.Ld _ k VI⟩
 |Mh l=>
  obtain⟨vs,rfl,VI⟩:=h;refine⟨vs,rfl,Cb.Ld _ (fun x v hx=> ?_) VI⟩;cases x with
  |inl x=>exact k x v hx
  |inr q=>
   obtain⟨us,rfl,hus⟩:=hx;exact⟨us,rfl,Cb.Ld _ k hus⟩
end Go.Fw
end
section
namespace Go.Fw
theorem oD{w:World}{vw:List Bx}{E:Env}{bx:List Bx}{G:ABI}(h:C_ E w vw bx G)(hw:FI bx vw){d:Nat}(hd:1≤d){q:Ty}{old:q.D}{j:Nat}{x:XV}{v:Value}(hv:XR E w vw x v){Zd:q.D}{QX:List Bx}{d':Nat}
  (e:pL d q old j x bx=some (Zd,QX,d')):1≤d'∧d'≤d∧ ∃E' F,HA E w vw bx G E' QX F∧
   ((j=0∧x.plain=false∧Ow w E'.S (d'-1) q v.cells.toList Zd F)∨(∃t y,v.cells.toList=[v]∧Ow w E'.S (d'-1) t [v] y F∧D5 q j old t y=some Zd∧(x.plain=true→t.scalar=true∧isSlice v=false))):=by
 unfold pL at e;split at e
 ·rename_i l
  split at e
  case isFalse=>cases e
  rename_i hj;obtain⟨vs,rfl,VI⟩:=hv;obtain⟨h1,h2,E',F,h3,h4⟩:=ZG h hw hd VI e;exact⟨h1,h2,E',F,h3,.inl ⟨hj,rfl,h4⟩⟩
 ·rename_i x
  split at e
  case h_2=>cases e
  rename_i t y0 hc;simp only[ALt,ALe,APo]at e;obtain⟨⟨y,jN,d1⟩,e1,row,e2,rfl,rfl,rfl⟩:=e;dsimp only at e2;have Xi:VR E w vw x v:=hv;have hk:x.known=true:=by grind[AV.known,cC]
  obtain⟨h1,h2,E',F,h3,h4⟩:=bD h hw hd Xi e1;refine⟨h1,h2,E',F,h3,.inr ⟨t,y,by rw[(sw Xi hk).2],h4,e2,fun hp=> ?_⟩⟩;cases x with
  |v u z=>
   simp only[cC,ALe,APo]at e1;obtain⟨z',e3,_⟩:=e1;obtain⟨rfl,_⟩:=H3 e3;obtain⟨hs,hr⟩:=Xi;refine⟨hs,?_⟩;cases u<;>simp_all[Ty.scalar,Rd]<;>rfl
  |_=>simp[XV.plain]at hp
 simp_all
theorem oM{f:AV→AV}{bx:List Bx}{b d:Nat}{r:Ty}{rows:List r.D}:(bx.set b (.sl d r rows)).map (Bx.map f)=(bx.map (Bx.map f)).set b (.sl d r rows):=by
 rw[List.map_set];rfl
theorem AEm{f:AV→AV}{bx:List Bx}{n d:Nat}{r:Ty}{rows:List r.D}(h:(bx.map (Bx.map f))[n]? =some (.sl d r rows)):bx[n]? =some (.sl d r rows):=by
 rw[ARB,ALe]at h;obtain⟨B,h1,h2⟩:=h;cases B with
 |mem cs=>simp[Bx.map]at h2
 |sl d' r' C1=>rw[h1];exact congrArg some h2
 |dead=>simp[Bx.map]at h2
theorem rT{E:Env}{σ:St}{a:Act}{w:World}(h:Rel E σ a w){b i sz j:Nat}{p:List V_}{va v:Value}(hva:VR E w σ.bx (.JX b p i sz j) va){x:XV}(hv:XR E w σ.bx x v)(h1c:∀u∈v.cells.toList,u.oneCell' =true)
  {σ':St} (e:fy σ (.c (.JX b p i sz j)) x=some σ'):
  ∃bb oo E',va= .pointer (some ⟨bb,oo,none⟩)∧w.there bb oo v.cells.toList.length∧Rel E' σ' a (w.setCells bb oo v.cells.toList)∧Q6 [b] E σ.bx w E' σ'.bx (w.setCells bb oo v.cells.toList)∧σ'.tm.length=σ.tm.length:=by
 simp only[fy]at e;split at e
 case h_2=>cases e
 rename_i d r rows hb;split at e
 case isFalse=>cases e
 rename_i j5;simp only[ALt]at e;obtain⟨⟨q,ys⟩,hg,e⟩:=e;dsimp only at e;split at e
 case isFalse=>cases e
 rename_i O_;simp only[ALt,ALe]at e;obtain⟨⟨Zd,aA,d2⟩,e1,C1,e2,e3⟩:=e;dsimp only at e1 e2 e3;have st:=h.bx.st;simp only[VR,hb]at hva;obtain⟨_,hp,q1,ys1,bb,o,len,cap,g1,hi,g3,rfl⟩:=hva;rw[hg]at g1;simp only[ALW,AMn]at g1;obtain⟨rfl,g1⟩:=g1;obtain rfl:=AQ3 g1;have Jq:=(ALf.1 hb).1;obtain⟨Gb,⟨hd1,ho⟩,hB⟩:=h.bx.take hb;have Tw:FI (σ.bx.set b .dead) σ.bx:=fun n B hn=>by
  grind
 obtain⟨hd2,hd3,E1,Fx,k1,hrow⟩:=oD hB Tw (by omega) hv e1;obtain⟨A,W,pG,ho2⟩:=J4 (d:=d2+p.length) (by omega) ho;have XU:=k1.boxes.perm (G':=(Fx++A)++W++[]) (by
  grind)
 obtain⟨hle,hB3⟩:=XU.share;simp only[AMa]at hB3
 generalize hE3:({ E1 with S:=fun c=>E1.S c∨c∈W,T:=fun c=>E1.T c∨c∈W }:Env)=E3 at hle hB3
 have ny:Le E E3:=k1.le.trans hle;have ho3:Ow w E3.S (d2+p.length) (.sl r) [E.Hu b] rows A:=ES (fun c hc=>by
  subst hE3;exact hc.imp (k1.le.S c) id) (fun _ _=>rfl) (fun _ _=>rfl) ho2
 obtain⟨h',F1,F2,m1,m2,m3,m4⟩:=oW ho3 hp hg (by omega);rw[g3]at m1;cases m1;obtain⟨m,rfl⟩:∃m,d2=m+1:=⟨d2-1,by omega⟩;rw[show m+1+p.length-p.length=m+1 by omega]at m2 m4;simp only[Nat.add_sub_cancel]at hrow;obtain⟨b1,o1,arr,ty,fr,cs,G,R,n1,n2,n3,n4,n5,n6,n7,n8,n9⟩:=uI m2 hi;simp only[ALW,Addr.mk.injEq,ASn]at n1;obtain⟨rfl,rfl⟩:=n1;subst O_;have hAp:A.Perm (G++(bb::R)++F2):=m3.trans (n8.append_right F2);obtain⟨Fs,hFs1,hFs2⟩:=hB3;have hbA:bb∈A:=hAp.mem_iff.2 (by simp);have bd: ¬E3.T bb:=hFs2.free bb (by simp[hbA]);have yX: ¬E3.S bb:=fun hc=>bd (hFs2.st bb hc)
 have nd:(Fx++(G++(bb::R)++F2)).Nodup:=(AVz Fx hAp).nodup_iff.1 (AMx.1 hFs2.nodup).2.1;have hnx:bb∉Fx:=fun hc=>(AMx.1 nd).2.2 bb hc bb (by simp) rfl
 have hnG:bb∉G:=fun hc=>(AMx.1 (AMx.1 (AMx.1 nd).2.1).1).2.2 bb hc bb (by simp) rfl
 have hnR:bb∉R:=(AWI.1 (AMx.1 (AMx.1 (AMx.1 nd).2.1).1).2.1).1;have hn2:bb∉F2:=fun hc=>(AMx.1 (AMx.1 nd).2.1).2.2 bb (by simp) bb hc rfl
 have cu:j+v.cells.toList.length≤q.n:=by
  rcases hrow with⟨rfl,_,ho4⟩|⟨t,y,hc1,ho4,Wb,_⟩
  ·rw[We ho4];omega
  ·rw[hc1]
   obtain⟨_,y0,hc0⟩:=T6 Wb;grind[dh,List.getElem?_eq_some_iff]
 have cq:o+i*q.n+j+v.cells.toList.length≤arr.size:=by omega
 let w':=w.setCells bb (o+i*q.n+j) v.cells.toList
 have dX:∀c,c≠bb→w'.heap[c]? =w.heap[c]?:=fun c hc=>DT _ _ _ _ _ hc
 have sb:∀c,E3.S c→w'.heap[c]? =w.heap[c]?:=fun c hc=>dX c (fun e=>yX (e▸hc))
 have z6:=FY v.cells.toList (o+i*q.n+j) w bb arr ty fr n2;have Z1:∃cx G' D0,cx.length=q.n∧Bb w' bb (o+i*q.n) cx∧Ow w' E3.S m q cx Zd G'∧(Fx++G).Perm (G'++D0):=by
  rcases hrow with⟨rfl,_,ho4⟩|⟨t,y,hc1,ho4,Wb,_⟩
  ·refine⟨v.cells.toList,Fx,G,We ho4,ON n2 cq,ES (fun c hc=>hle.S c hc) (fun c hc=>dX c (fun e=>yX (e▸hle.S c hc))) (fun c hc=>dX c (fun e=>hnx (e▸hc))) ho4,AXD _⟩
  ·obtain⟨_,y0,hc0⟩:=T6 Wb
   obtain⟨u,K1,K2,z1,z2,z3,z4⟩:=dh n7 hc0;have AaY:bb∉K2:=fun hc=>hnG (z3.mem_iff.2 (by simp[hc]))
   obtain⟨F',f1,f2⟩:=z4 w' E3.S v y Fx Zd (fun _ hc=>hc) sb (fun c hc=>dX c (fun e=>AaY (e▸hc)))
    (ES (fun c hc=>hle.S c hc) (fun c hc=>dX c (fun e=>yX (e▸hle.S c hc))) (fun c hc=>dX c (fun e=>hnx (e▸hc))) ho4) Wb
   refine⟨cs.set j v,F',K1,by simp_all,fun x u' hx=> ?_,f2,?_⟩
   ·rw[List.getElem?_set]at hx
    split at hx
    ·rename_i ejx
     subst ejx;split at hx
     ·cases hx
      have:=ON (w:=w) (b:=bb) (o:=o+i*q.n+j) (vs:=v.cells.toList) n2 cq 0 v (by simp_all);omega
     simp_all
    ·rename_i ejx
     have hold:=n6 x u' hx;rw[Ka n2]at hold;rw[Ka z6,Vh cq,ALT (fun hh=>by grind),hold]
   grind
 obtain⟨cx,G',D0,c1,c2,c3,c4⟩:=Z1;obtain⟨nB,f1,f2⟩:=n9 w' E3.S (FG arr (o+i*q.n+j) v.cells.toList) cx Zd G' (fun _ hc=>hc) sb (fun c hc=>dX c (fun e=>hnR (e▸hc))) z6 (Fe _ _ _) (fun k hk=>by
  rw[Vh cq,ALT (by omega)]) c1 c2 c3
 obtain⟨F',f3,f4⟩:=m4 w' E3.S (ys.set i Zd) nB C1 (fun _ hc=>hc) sb (fun c hc=>dX c (fun e=>hn2 (e▸hc))) f2 e2;have pc:(Fx++A).Perm (F'++D0):=by
  have p1:F'.Perm (G'++(bb::R)++F2):=f3.trans (f1.append_right F2);refine(AVz Fx hAp).trans (List.Perm.trans ?_ (p1.symm.append_right D0));grind
 have Adb:bb∈F':=(f3.trans (f1.append_right F2)).mem_iff.2 (by simp);have hB4:C_ E3 w σ.bx aA F':=by
  have:C_ E3 w σ.bx aA (F'++D0):=C_.perm (G:=Fx++A) ⟨Fs,hFs1,hFs2⟩ pc;exact this.drop
 have oY:aA.length=σ.bx.length:=by rw[k1.len];simp
 have AVU:aA[b]? =some .dead:=by
  obtain⟨B,hB⟩:∃B,aA[b]? =some B:=⟨_,ALR (by omega)⟩;rcases k1.within b B hB with e|e
  all_goals simp_all
 have hrl:C1.length=rows.length:=qA hg (by simp) e2;have kT:∀E0,Le E0 E3→HA E0 w σ.bx σ.bx [] E3 aA (Fx++A):=fun E0 hl=>⟨hl,oY,fun n B hn=>by
  rcases k1.within n B hn with e|e
  all_goals grind,⟨Fs,hFs1,by simp_all⟩⟩
 have mY:∀n,E3.Hu n=E.Hu n:=fun n=>by rw[ny.Hu]
 have hww:∀c,c<w.heap.size→c∉Fx++A→w'.heap[c]? =w.heap[c]?:=fun c _ hc=>dX c (fun e=>hc (by simp_all))
 have base:cw E w E3 w':=⟨ny.T,ny.S,ny.Tof,ny.zq,fun c hc=>dX c (fun e=>bd (e▸ny.T c hc)),(CC _ _ _ _).os,(CC _ _ _ _).tape,(CC _ _ _ _).output,(CC _ _ _ _).size⟩;have finish:∀(f:AV→AV) (g:XV→XV),(∀E0,Le E0 E3→(∀c,E0.S c→E0.T c)→ ∀x v,VR E0 w σ.bx x v→VR E3 w' ((aA.map (Bx.map f)).set b (.sl (m+1+p.length) r C1)) (f x) v)→
   (∀x v,XR E w σ.bx x v→XR E3 w' ((aA.map (Bx.map f)).set b (.sl (m+1+p.length) r C1)) (g x) v)→
   Rel E3 { tm:=σ.tm.map g,bx:=(aA.map (Bx.map f)).set b (.sl (m+1+p.length) r C1) } a w':=by
  intro f g hf hg;refine⟨h.NO,Cb.Ld _ hg h.tm,?_⟩;have hT:=hB4.AT2 (E':=E3) (w':=w') (vw':=(aA.map (Bx.map f)).set b (.sl (m+1+p.length) r C1)) f (hf E3 (Le.refl _) hFs2.st) (fun _ h=>h) (fun _ _=>rfl) (fun _ _=>rfl) (fun c hc _=>dX c (fun e=>by
    simp_all)) (fun F hF=>⟨hF.nodup,hF.free,fun c hc=>by rw[DY];exact hF.lt c hc,hF.st,fun c hc=>by rw[DY];exact hF.cA c hc⟩)
  refine C_.put (F:=F') (G:=[]) (by simp_all) (by rw[ARB,AVU];rfl) ⟨by omega,?_⟩;simp_all
 have ATy:∀f:AV→AV,Q6 [b] E σ.bx w E3 ((aA.map (Bx.map f)).set b (.sl (m+1+p.length) r C1)) w':=fun f=>⟨base,by simp[oY],fun n _=>⟨by rw[ny.Ht],mY n⟩,fun n hn=>by
  have qQ:n≠b:=fun e=>by simp_all
  have vm:=(ALf.1 hn).1;rw[AR8 (fun e=>qQ e.symm),ARB];obtain⟨B,hB⟩:∃B,aA[n]? =some B:=⟨_,ALR (by omega)⟩;have hBd:B= .dead:=by
   rcases(kT E ny).within n B hB with e|e
   all_goals simp_all
  rw[hB,hBd];rfl,fun n B B' qQ hB TF qO=>by
  simp at qQ;have vm:=(ALf.1 hB).1;rw[AR8 (fun e=>qQ e.symm),ARB]at TF;obtain⟨B2,XU⟩:∃B2,aA[n]? =some B2:=⟨_,ALR (by omega)⟩;rw[XU]at TF;have TF:Bx.map f B2=B':=by simp_all
  have hBB:B2=B:=by
   rcases(kT E ny).within n B2 XU with e|e
   ·subst e;exact absurd TF.symm qO
   simp_all
  subst hBB;refine⟨?_,fun c hc=>dX c (fun e=> ?_)⟩
  ·subst TF
   cases B2 with
   |mem cs=>trivial
   |sl d r rows=>rfl
   |dead=>exact absurd rfl qO
  ·have hF:Fs[n]? =some (Fs[n]'(by have:=(ALf.1 XU).1;rw[hFs1.1];omega)):=ALR _
   have ZL:xH E3 w n B2 c:=by
    cases B2 with
    |mem cs=>simp only[xH]at hc⊢;rw[ny.Ht];omega
    |sl d r rows=>grind[xH]
    |dead=>exact hc
   rcases dU (hFs1.2 n B2 _ XU hF) ZL with hs|hs
   ·simp_all
   ·exact(AMx.1 hFs2.nodup).2.2 c (ARg.2 ⟨_,ANO hF,hs⟩) bb (by simp[hbA]) e⟩
 refine⟨bb,o+i*q.n+j,E3,rfl,T8 (k:=0) n2 cq n3,?_,?_,?_⟩
 ·split at e3
  ·rename_i Aa3
   have h0:∀E0,Le E0 E3→(∀c,E0.S c→E0.T c)→SR E0 w σ.bx E3 w' (aA.set b (.sl (m+1+p.length) r C1)):=by
    intro E0 hl st0;refine aw b (kT E0 hl) st0 (by simp[oY]) (fun n d r rows hn _ hq=>by
      grind) (fun _ _=>rfl) (fun _ _=>rfl) rfl rfl hww (fun d0 r0 SB hq=> ?_)
    rw[ASx (by omega)]at hq;simp only[ALW,Bx.sl.injEq]at hq;obtain⟨rfl,rfl,hq⟩:=hq;obtain rfl:=AQ3 hq;refine⟨d,rows,hb,fun p' hp' q' zs vt=> ?_⟩;rcases hrow with⟨_,hpf,_⟩|⟨t,y,hc1,ho4,Wb,hsc⟩
    ·simp_all
    obtain⟨hs1,hs2⟩:=hsc Aa3;have hk:=lx hs1 hp hg hi Wb e2 hp' q' zs vt;refine⟨hk.1,hk.2,fun hh hhe=> ?_⟩;rw[mY];rw[←hl.Hu,mY]at hhe;refine rK (fun Ad=> ?_) (XJ f4) hk.1 hhe;by_cases eA:Ad.block=bb∧Ad.spot=none∧Ad.off=o+i*q.n+j
    ·right
     obtain⟨ab,ao,asp⟩:=Ad;simp only at eA;rw[eA.1,eA.2.1,eA.2.2];refine⟨v,?_,hs2⟩;have:=ON (w:=w) (b:=bb) (o:=o+i*q.n+j) (vs:=v.cells.toList) n2 cq 0 v (by simp_all);omega
    grind[World.cell?_setCells_out,List.length_cons,List.length_nil]
   have:=finish id id (fun E0 hl st0 x v hx=>by rw[Zk];grind[GK]) (fun x v hx=>by rw[Zk];grind[O1]);grind[Zk,List.map_id]
  ·have h0:∀E0,Le E0 E3→(∀c,E0.S c→E0.T c)→ ∀x v,VR E0 w σ.bx x v→VR E3 w' ((aA.map (Bx.map (Jh b))).set b (.sl (m+1+p.length) r C1)) (Jh b x) v:=by
    intro E0 hl st0 x v hx;have keep:SR E0 w σ.bx E3 w' (((aA.map (Bx.map (Jh b))).set b (.sl (m+1+p.length) r C1)).set b .dead):=by
     refine aw b (kT E0 hl) st0 (by simp[oY]) (fun n d r rows hn _ hq=>by
      grind[List.getElem?_set_ne,AEm]) (fun _ _=>rfl) (fun _ _=>rfl) rfl rfl hww (fun d0 r0 SB hq=> ?_)
     simp_all
    exact ACz keep hb (by rw[ASx (by simp_all)]) hrl (by rw[hl.Hu]) hx
   have:=finish (Jh b) (sn b) h0 (fun x v hx=>AEE (h0 E ny st) hx);grind[St.zc,lS,oM]
 ·rw[←e3]
  split
  all_goals grind[id,Zk,St.zc,lS,oM]
 grind[St.zc]
end Go.Fw
end
section
namespace Go.Fw
theorem dY{w w':World}{B B':Nat→Prop}:∀{r:Ty} {cs:List Value} {x:r.D},r.flat=true→Rd w B r cs x→Rd w' B' r cs x
 | .cons c r,cs,x,h,hr=>by
  simp only[Ty.flat,ALp]at h;simp only[Rd]at hr⊢;obtain⟨v,l,rfl,h1,h2⟩:=hr;exact⟨v,l,rfl,dY h.1 h1,dY h.2 h2⟩
 | .unit,_,_,_,hr=>by grind[Rd]
 | .int k,_,_,_,hr=>by grind[Rd]
 | .bool,_,_,_,hr=>by grind[Rd]
 | .str,_,_,_,hr=>by grind[Rd]
 | .sl q,_,_,h,_=>by simp[Ty.flat]at h
theorem dB{w:World}{S:Nat→Prop}{d:Nat}:∀{r:Ty} {cs:List Value} {y:r.D} {F:ABI},r.flat=true→Ow w S d r cs y F→F=[]
 | .int k,_,_,_,_,h=>by grind[Ow]
 | .bool,_,_,_,_,h=>by grind[Ow]
 | .str,_,_,_,_,h=>by grind[Ow]
 | .unit,_,_,_,_,h=>by grind[Ow]
 | .cons c r,_,_,_,hf,h=>by
  simp only[Ty.flat,ALp]at hf;simp only[Ow]at h;obtain⟨v,l,F1,F2,_,rfl,h1,h2⟩:=h;rw[dB hf.1 h1,dB hf.2 h2];rfl
 | .sl q,_,_,_,hf,_=>by simp[Ty.flat]at hf
theorem uy{w w':World}{S S':Nat→Prop}{d d':Nat}{r:Ty}(hr:r.flat=true){cs:List Value}{y:r.D}{F:ABI}(h:Ow w S d r cs y F):F=[]∧cs.length=r.n∧Ow w' S' d' r cs y []:=
 ⟨dB hr h,We h,iT hr (dY (B':=fun _=>False) hr (XJ h))⟩
theorem ig:∀{r:Ty} {j:Nat} {x:r.D} {t:Ty} {y:t.D},r.flat=true→BL r j x=some ⟨t,y⟩→t.flat=true
 | .cons c r,0,x,t,y,h,e=>by
  simp only[Ty.flat,ALp]at h;simp only[BL,ALW,AMn]at e;simp_all
 | .cons c r,j+1,x,t,y,h,e=>by
  simp only[Ty.flat,ALp]at h;simp only[BL]at e;exact ig h.2 e
 | .unit,_,_,_,_,_,e=>by simp[BL]at e
 | .int k,0,x,t,y,_,e=>by simp only[BL,ALW,AMn]at e;simp_all
 | .bool,0,x,t,y,_,e=>by simp only[BL,ALW,AMn]at e;simp_all
 | .str,0,x,t,y,_,e=>by simp only[BL,ALW,AMn]at e;simp_all
 | .sl _,_,_,_,_,h,_=>by simp[Ty.flat]at h
 | .int _,_+1,_,_,_,_,e=>by simp[BL]at e
 | .bool,_+1,_,_,_,_,e=>by simp[BL]at e
 | .str,_+1,_,_,_,_,e=>by simp[BL]at e
theorem ABR{r:Ty}(hr:r.flat=true){rows:List r.D}:∀{p:List V_},DE r rows p→p=[]
 |[],_=>rfl
 |s::p,h=>by
  simp only[DE]at h;obtain⟨_,_,h⟩:=h;exfalso;cases hc:BL r s.j (rowAt r rows s.i)with
  |none=>simp_all
  |some tx=>
   obtain⟨t,x⟩:=tx;have hf:=ig hr hc;grind[Ty.flat]
theorem flatten_nil{l:List ABI}(h:∀x∈l,x=[]):l.flatten=[]:=by
 simp_all;omega
theorem ABU{E:Env}{σ:St}{a:Act}{w:World}(h:Rel E σ a w){b d off n:Nat}{r:Ty}{rows:List r.D}(hb:σ.bx[b]? =some (.sl d r rows))(hr:r.flat=true)(hgd:r.uY=true)(hk:0<r.n)(hl:off+n≤rows.length)(hn:0<n):
  ∃bb o cap,E.Hu b= .slice (some ⟨bb,o,none⟩) rows.length cap∧rows.length≤cap∧w.there bb (o+off*r.n) (n*r.n)∧
   Rel E { σ with bx:=σ.bx.set b (.sl d r ((rows.take off++List.replicate n r.z)++rows.drop (off+n))) } a (w.setCells bb (o+off*r.n) (List.replicate n (Eh r)).flatten)∧
   Q6 [b] E σ.bx w E (σ.bx.set b (.sl d r ((rows.take off++List.replicate n r.z)++rows.drop (off+n)))) (w.setCells bb (o+off*r.n) (List.replicate n (Eh r)).flatten):=by
 have st:=h.bx.st;obtain⟨F,⟨hd,ho⟩,hB⟩:=h.bx.take hb;simp only[AMa]at hB;have Jq:=(ALf.1 hb).1;obtain⟨d',rfl⟩:∃m,d=m+1:=⟨d-1,by omega⟩;simp only[Ow]at ho;obtain⟨ad,cap,hh,yK,ho⟩:=ho;simp only[AQN,ASn]at hh;rcases ho with⟨rfl,_⟩|⟨bb,o,arr,ty,fr,Fs,rfl,ha,O_,hu,rfl,hFl,bQ⟩
 ·omega
 have hFn:List.flatten Fs=[]:=flatten_nil fun x hx=>by
  obtain⟨i,hi,hxi⟩:=AQU hx;obtain⟨cs,_,_,h3⟩:=bQ i (rows[i]'(by omega)) x (ALR _) (by grind);exact(uy (w':=w) (S':=E.S) (d':=0) hr h3).1
 rw[hFn]at hB;have hzl:(Eh r).length=r.n:=Gp r;have hvl:((List.replicate n (Eh r)).flatten).length=n*r.n:=by simp_all
 have hm1:(off+n)*r.n≤cap*r.n:=AOk _ (by omega);have hm2:(off+n)*r.n=off*r.n+n*r.n:=AS5 ..;have cq:o+off*r.n+((List.replicate n (Eh r)).flatten).length≤arr.size:=by omega
 generalize VI:(List.replicate n (Eh r)).flatten=vs at hvl cq
 refine⟨bb,o,cap,hh,yK,T8 ha (by omega) hu,?_⟩;have bd: ¬E.T bb:=hB.AEg _ (by simp);have hB0:=hB;have dX:∀c,c≠bb→(w.setCells bb (o+off*r.n) vs).heap[c]? =w.heap[c]?:=fun c hc=>DT _ _ _ _ _ hc
 have hw:∀c,c<w.heap.size→c∉[bb]→(w.setCells bb (o+off*r.n) vs).heap[c]? =w.heap[c]?:=fun c _ hc=>dX c (by simp_all)
 have kT:HA E w σ.bx σ.bx [] E (σ.bx.set b .dead) [bb]:=⟨Le.refl _,by simp,fun n B hn=>by
  grind,by simp_all⟩
 generalize APT:(rows.take off++List.replicate n r.z)++rows.drop (off+n)=C1
 have AVs:C1.length=rows.length:=by
  grind
 have keep:SR E w σ.bx E (w.setCells bb (o+off*r.n) vs) (σ.bx.set b (.sl (d'+1) r C1)):=aw b kT st (by simp) (fun n d r rows hn _ hq=>by
   grind) (fun _ _=>rfl) (fun _ _=>rfl) rfl rfl hw (fun d1 r1 AMS hq=>by
   rw[ASx Jq]at hq;simp only[ALW,Bx.sl.injEq]at hq;obtain⟨rfl,rfl,hq⟩:=hq;obtain rfl:=AQ3 hq;refine⟨d'+1,rows,hb,fun p hp q ys hg=> ?_⟩;obtain rfl:=ABR hr hp;simp only[G5,ALW,AMn]at hg;obtain⟨rfl,hg⟩:=hg;obtain rfl:=AQ3 hg;exact⟨by simp[DE],⟨C1,by rfl,AVs⟩,fun h' hh' =>hh'⟩)
 refine⟨⟨h.NO,h.tm.imp fun _ _ hq=>O1 keep hq,?_⟩,⟨⟨fun _ h=>h,fun _ h=>h,fun _ h=> .inl h,fun _ h=> .inl h,fun c hc=>dX c (fun e=>bd (e▸hc)),(CC _ _ _ _).os,(CC _ _ _ _).tape,(CC _ _ _ _).output,(CC _ _ _ _).size⟩,by simp,fun _ _=>⟨rfl,rfl⟩,fun n hn=>by
  grind,fun n B B' qQ hB TF qO=>by
  simp at qQ;rw[AR8 (fun e=>qQ e.symm),hB]at TF;cases TF;refine⟨U1.refl qO,fun c hc=>dX c (fun e=> ?_)⟩;obtain⟨Fs,⟨f1,f2⟩,f3⟩:=hB0;have XU:(σ.bx.set b .dead)[n]? =some B:=by grind
  have hF:Fs[n]? =some (Fs[n]'(by grind)):=ALR _;rcases dU (f2 n B _ XU hF) hc with hs|hs
  ·simp_all
  ·exact(AMx.1 f3.nodup).2.2 c (ARg.2 ⟨_,ANO hF,hs⟩) bb (by simp) e⟩⟩
 have hT:=hB.turn (E':=E) (w':=w.setCells bb (o+off*r.n) vs) (vw':=σ.bx.set b (.sl (d'+1) r C1)) (fun x v hq=>GK keep hq) (fun _ h=>h) (fun _ _=>rfl) (fun _ _=>rfl) (fun c hc _=>dX c (fun e=>by
   simp_all)) (fun F hF=>⟨hF.nodup,hF.free,fun c hc=>by rw[DY];exact hF.lt c hc,hF.st,fun c hc=>by rw[DY];exact hF.cA c hc⟩)
 have AFG:pR E (w.setCells bb (o+off*r.n) vs) (σ.bx.set b (.sl (d'+1) r C1)) b (.sl (d'+1) r C1) [bb]:=by
  refine⟨hd,?_⟩;simp only[Ow];refine⟨_,cap,by simp_all,by omega,.inr ⟨bb,o,FG arr (o+off*r.n) vs,ty,fr,List.replicate C1.length [],rfl,FY _ _ _ _ _ _ _ ha,by rw[Fe];omega,by rw[Fe];omega,by simp,by simp,fun i y G hy hG=> ?_⟩⟩;have hG':G=[]:=AS7 (ANO hG);subst hG';have hil:i<rows.length:=by grind
  by_cases O9:off≤i∧i<off+n
  ·have hyz:y=r.z:=by
    grind
   subst hyz;refine⟨Eh r,hzl,fun j v hj=> ?_,dw hgd⟩;have qN:j<r.n:=by grind
   have e1:(i-off)*r.n=i*r.n-off*r.n:=AU2 ..;have e2:off*r.n≤i*r.n:=AOk _ O9.1;have e3:(i-off+1)*r.n≤n*r.n:=AOk _ (by omega);rw[AS5,Nat.one_mul]at e3;have:=ON ha cq ((i-off)*r.n+j) v (by
    grind[ND,Nat.mul_comm,Nat.mul_add_mod,Nat.mod_eq_of_lt])
   grind
  ·have hyo:rows[i]? =some y:=by
    rw[←APT]at hy;by_cases h1:i<off
    ·grind
    grind[List.getElem?_append_right]
   obtain⟨cs,c1,c2,c3⟩:=bQ i y (Fs[i]'(by omega)) hyo (ALR _);obtain⟨_,c4,c5⟩:=uy (w':=w.setCells bb (o+off*r.n) vs) (S':=E.S) (d':=d') hr c3;refine⟨cs,c4,TX c2 ha cq (.inr ?_),c5⟩;by_cases h1:i<off
   ·have:(i+1)*r.n≤off*r.n:=AOk _ h1
    grind
   grind
 have:=C_.put (b:=b) (B:= .sl (d'+1) r C1) (F:=[bb]) (G:=[]) (by simpa using hT) (by simp_all) AFG;simp_all
section
variable{Y:Type} {P:Program} {T:Jg} (hT:Ef P T) {o:Oper} {E:Env} {σ:St} {a:Act} {w:World} {k:K Y} {y:Y}
include hT
theorem xk(h:Rel E σ a w){c:Call}{x:XV}(ho:o.op= .call c)(hc:c.callee= .builtin .clear)(II:c.args.toList.map σ.ev=[x])(e:ko T c.argTypes σ x k=some y)
  (Aat:∀b p off n,x= .c (.win b p off n)→KD (fun _=>none) σ o.op=[b]):∃v w' E' xv σ',((execOp a.eval o).run P w= .ok (.value v) w'∨((execOp a.eval o).run P w= .ok .skip w'∧v=undef))∧Rel E' σ' a w'∧XR E' w' σ'.bx xv v∧
   Q6 (KD (fun _=>none) σ o.op) E σ.bx w E' σ'.bx w'∧σ'.tm.length=σ.tm.length∧k xv σ' =some y:=by
 obtain⟨o1,hargs',rfl⟩:=W7 II;have bV:=h.ev o1;unfold ko at e;split at e
 case h_2=>cases e
 rename_i t b off n ht hx;rw[hx]at bV;rw[Aat b [] off n hx];split at e
 case h_2=>cases e
 rename_i d r rows hb;split at e
 case isFalse=>cases e
 rename_i UJ;rw[ALp]at UJ;obtain⟨UJ,hr⟩:=UJ;rw[ALp,AMC]at hr;obtain⟨hr,hk⟩:=hr;obtain⟨el,ti,hu,T4,hs,hby,hrow⟩:=KZ hT UJ;obtain⟨i,z,i1,i2,i3,i4,i5,hg⟩:=V6 hT T4 hrow;have Zv:VR E w σ.bx (.win b [] off n) (a.eval o1):=bV;simp only[VR,hb]at Zv;obtain⟨_,_,q,ys,ad,len,cap,hgp,hl,hh,hv⟩:=Zv;simp only[G5,ALW,AMn]at hgp;obtain⟨rfl,hgp⟩:=hgp;obtain rfl:=AQ3 hgp;simp only[Ir,ALW]at hh;by_cases hn:n=0
 ·subst hn
  have AV8:(rows.take off++List.replicate 0 r.z)++rows.drop (off+0)=rows:=by simp
  rw[AV8]at e;have Wb:σ.bx.set b (.sl d r rows)=σ.bx:=by
   apply AUx;grind
  rw[Wb]at e;refine⟨.tuple #[],w,E,.c .undef,σ,.inl ?_,h,trivial,Q6.refl _ _ _ _,rfl,e⟩;have hz:∃a' c',a.eval o1= .slice a' 0 c':=⟨_,_,by rw[hv];rfl⟩;obtain⟨a',c',hz⟩:=hz;simp only[execOp,ho,resolve,hc,hargs',invoke,builtin,Sem.run_bind,Sem.run_pure,Result.andThen_ok,List.map_toArray,ATb,AWs,Builtin.clear_,ht,hz];cases a'<;>simp[BZ hu]
 ·obtain⟨bb,oo,cap',g1,g2,g3,g4,g5⟩:=ABU h (d:=d) hb hr hg hk hl (by omega)
  rw[g1]at hh;simp only[Value.slice.injEq]at hh;obtain⟨rfl,rfl,rfl⟩:=hh;have Xi:a.eval o1= .slice (some ⟨bb,oo+off*r.n,none⟩) n (cap'-off):=by
   rw[hv];unfold Uo;rw[ALT (by omega)];simp[Addr.add]
  refine⟨.tuple #[],_,E,.c .undef,_,.inl ?_,g4,trivial,g5,rfl,e⟩;have hz:(Builtin.zeroCells z.cells n).toList=(List.replicate n (Eh r)).flatten:=by
   grind[Builtin.zeroCells,Eh,VY,Gp]
  have h1:∀v∈(List.replicate n (Eh r)).flatten,v.oneCell' =true:=fun v hv=>by
   obtain⟨l,hl1,xQ⟩:=ARg.1 hv;rw[AS7 hl1]at xQ;exact j8 (w:=w) (S:=E.S) (d:=0) (dw hg) v xQ
  have hvl:((List.replicate n (Eh r)).flatten).length=n*r.n:=by rw[G_,Gp]
  have cz:=run_storeCells_cells (P:=P) bb (oo+off*r.n) (List.replicate n (Eh r)).flatten 0 w (fun j hj=>by simpa using(g3 j (by omega)).1) (fun j hj=>by simpa using(g3 j (by omega)).2) h1;rw[ATU]at cz;obtain⟨n',rfl⟩:∃n',n=n'+1:=⟨n-1,by omega⟩;simp only[execOp,ho,resolve,hc,hargs',invoke,builtin,Sem.run_bind,Sem.run_pure,Result.andThen_ok,List.map_toArray,ATb,AWs,Builtin.clear_,ht,Xi];simp[BZ hu,zeroValue,typeInfo,i1,i4,hz,cz]
end
end Go.Fw
end
section
namespace Go.Fw
theorem nz{E:Env}{w:World}{vw:List Bx}:∀{l:List XV} {bs:ABI} {vs:List Value},wF l=some bs→Cb (XR E w vw) l vs→(∀b∈bs,b<vw.length)∧vs=bs.map fun b=>Value.pointer (some ⟨E.Ht b,0,none⟩)
 |[],bs,vs,e,h=>by
  simp only[wF,ALW]at e;subst e;cases vs with
  |nil=>simp_all
  |cons _ _=>exact h.elim
 |x::l,bs,vs,e,h=>by
  unfold wF at e;split at e
  ·simp_all
  ·rename_i b l' heq
   cases heq;simp only[ALe]at e;obtain⟨r,e1,rfl⟩:=e;cases vs with
   |nil=>exact h.elim
   |cons v vs=>
    obtain⟨h1,h2⟩:=h;obtain⟨k1,k2⟩:=nz e1 h2;obtain⟨h3,h4⟩:b<vw.length∧v= .pointer (some ⟨E.Ht b,0,none⟩):=h1;simp_all
  simp_all
theorem evs{E:Env}{σ:St}{a:Act}{w:World}(h:Rel E σ a w):∀l:List Operand,Cb (XR E w σ.bx) (l.map σ.ev) (l.map a.eval)
 |[]=>trivial
 |x::l=>⟨h.ev x,evs h l⟩
theorem zN{E:Env}{σ:St}{a:Act}{w:World}(h:Rel E σ a w):∀o:Option Operand,OR E w σ.bx (o.map σ.ev) (o.map a.eval)
 |none=>trivial
 |some x=>h.ev x
theorem wN{w:World}{S:Nat→Prop}:∀{p:List V_} {d:Nat} {r:Ty} {h:Value} {rows:List r.D} {F:ABI} {q:Ty} {ys:List q.D} {v:Value},Ow w S d (.sl r) [h] rows F→DE r rows p→
  G5 r rows p=some ⟨q,ys⟩→d≤p.length→Ir w h p=some v→Rd w S (.sl q) [v] ys
 |p,0,r,h,rows,F,q,ys,v,ho,hp,hg,_,hv=>by
  simp only[Ow]at ho;obtain⟨h',k,hr⟩:=nD ho.1 hp hg;simp_all
 |[],d+1,r,h,rows,F,q,ys,v,ho,hp,hg,hd,hv=>by simp_all
 |s::p,d+1,r,h,rows,F,q,ys,v,ho,hp,hg,hd,hv=>by
  simp only[DE]at hp;obtain⟨hi,O_,hp⟩:=hp;simp only[G5]at hg;obtain⟨a,len,cap,rfl⟩:∃a len cap,h= .slice a len cap:=by
   have:=ho;simp only[Ow]at this;grind
  split at hg
  case h_2=>cases hg
  rename_i q' x' gV;rw[gV]at hp;obtain⟨b,o,arr,ty,fr,cs,G,R,rfl,hb,hu,hbd,c1,c2,c3,pc,hback⟩:=uI ho hi;obtain⟨u,A1,A2,k1,k2,k3,k4⟩:=dh c3 gV;simp only[Ir]at hv;rw[O_,c2 _ _ k1]at hv;exact wN k2 hp hg (by simp_all) hv
theorem yS{E:Env}{σ:St}{a:Act}{w:World}(h:Rel E σ a w){b i sz j:Nat}{p:List V_}{va v:Value}(hva:VR E w σ.bx (.JX b p i sz j) va){x:XV}(hv:XR E w σ.bx x v)(h1c:∀u∈v.cells.toList,u.oneCell' =true)
  {σ':St} (e:K_ σ (.c (.JX b p i sz j)) x=some σ'):
  ∃bb oo E',va= .pointer (some ⟨bb,oo,none⟩)∧w.there bb oo v.cells.toList.length∧Rel E' σ' a (w.setCells bb oo v.cells.toList)∧Q6 [b] E σ.bx w E' σ'.bx (w.setCells bb oo v.cells.toList)∧σ'.tm.length=σ.tm.length:=by
 unfold K_ ZQ at e;split at e
 ·rename_i b0 _ _ _ _ b' s p' off n heq
  cases heq;split at e
  case isFalse=>cases e
  rename_i hbb;subst hbb;split at e
  case h_2=>cases e
  rename_i d r rows hb;simp only[ALt,ALe]at e;obtain⟨q,⟨⟨q0,ys⟩,hg,rfl⟩,e⟩:=e;dsimp only at e;have Jq:=(ALf.1 hb).1;obtain⟨F,⟨hd1,ho⟩,hB⟩:=h.bx.take hb;obtain⟨A,W,pF,ho2⟩:=J4 (d:=min d (p'.length+1)) (by omega) ho;have XU:=hB.perm (G':=A++W++[]) (by simp_all);obtain⟨hle,hB3⟩:=XU.share
  generalize hE1:({ E with S:=fun c=>E.S c∨c∈W,T:=fun c=>E.T c∨c∈W }:Env)=E1 at hle hB3
  have ho3:Ow w E1.S (min d (p'.length+1)) (.sl r) [E1.Hu b'] rows A:=by
   rw[hle.Hu];grind
  have hB4:=hB3.put (b:=b') (B:= .sl (min d (p'.length+1)) r rows) (by simp_all) ⟨by omega,ho3⟩;rw[AXB]at hB4;have hk:SR E w σ.bx E1 w (σ.bx.set b' (.sl (min d (p'.length+1)) r rows)):=by
   refine⟨by simp,fun _ _=>by rw[hle.Ht],hle.T,hle.S,h.bx.st,fun _ _=>rfl,fun c d' r' C1 hc e=> ?_⟩;by_cases hcb:b' =c
   ·subst hcb
    rw[ASx Jq]at e;simp only[ALW,Bx.sl.injEq]at e;obtain⟨rfl,rfl,e⟩:=e;obtain rfl:=AQ3 e;exact⟨d,rows,hb,fun p hp q ys hg=>⟨hp,⟨ys,hg,rfl⟩,fun h' hh=>by rw[hle.Hu];omega⟩⟩
   ·rw[AR8 hcb]at e
    exact⟨d',C1,e,fun p hp q ys hg=>⟨hp,⟨ys,hg,rfl⟩,fun h' hh=>by rw[hle.Hu];omega⟩⟩
  have bV:VR E w σ.bx (.win b' (s::p') off n) v:=hv;have Zv:XR E1 w (σ.bx.set b' (.sl (min d (p'.length+1)) r rows)) (.c (.sl true q0 ((ys.drop off).take n))) v:=by
   simp only[VR,hb]at bV;obtain⟨_,hp,q1,ys1,a1,len,cap,g1,g2,g3,rfl⟩:=bV;rw[hg]at g1;simp only[ALW,AMn]at g1;obtain⟨rfl,g1⟩:=g1;obtain rfl:=AQ3 g1;have:=wN ho3 hp hg (by grind) (by rw[hle.Hu];omega);exact xc this g2
  have hr:Rel E1 { σ with bx:=σ.bx.set b' (.sl (min d (p'.length+1)) r rows) } a w:=
   ⟨h.NO,h.tm.imp fun _ _ hx=>O1 hk hx,hB4.turn (E':=E1) (w':=w) (fun _ _ hv=>GK ⟨by simp,fun _ _=>rfl,fun _ h=>h,fun _ h=>h,hB3.st,fun _ _=>rfl,fun c d' r' C1 hc e=>by
    grind⟩ hv) (fun _ h=>h) (fun _ _=>rfl) (fun _ _=>rfl) (fun _ _ _=>rfl) fun F hF=>hF⟩
  obtain⟨bb,oo,E',q1,q2,q3,q4,q5⟩:=rT hr (GK hk hva) Zv h1c e;refine⟨bb,oo,E',q1,q2,q3,⟨(hle.base w).trans q4.base,by simpa using q4.len,fun c hc=> ?_,fun c hc=> ?_,fun c B B' hct hB TF hd=> ?_⟩,q5⟩
  ·have:=q4.ids c (by simp_all)
   exact⟨this.1.trans (by rw[hle.Ht]),this.2.trans (by rw[hle.Hu])⟩
  ·refine q4.dead c ?_
   grind
  ·have hcb:b'≠c:=fun e=>hct (by simp[e])
   obtain⟨f1,f2⟩:=q4.frame c B B' hct (by simp_all) TF hd;refine⟨f1,fun c' ZL=>f2 c' ?_⟩;cases B with
   |mem cs=>exact ZL.trans (by rw[hle.Ht])
   |sl d0 r0 SB=>simp only[xH]at ZL⊢;rw[hle.Hu];omega
   |dead=>exact ZL
 grind[rT]
def pK:Op→Bool
 | .call { callee:= .value _,.. }=>true
 |_=>false
section
variable{Y:Type} {P:Program} {T:Jg} (hT:Ef P T) {o:Oper} {E:Env} {σ:St} {a:Act} {w:World} {k:K Y} {y:Y}
include hT
theorem yZ(h:Rel E σ a w){t:TypeId}{oa ox:Operand}(ho:o.op= .store t oa ox){ti:TI}(T4:T.get t=some ti)
  (hc:(σ.ev ox).cells.length=ti.size∧ti.size≠0∧(σ.ev ox).cells.all AV.known=true) {σ':St} (hs:K_ σ (σ.ev oa) (σ.ev ox)=some σ') (e:k (.c .undef) σ' =some y):K4 P o E σ a w k y:=by
 obtain⟨c1,c2,c3⟩:=hc;have bM:(σ.ev ox).cells≠[]:=fun hh=>by simp_all
 obtain⟨VI,h1c⟩:=ni (h.ev ox) c3 bM;have hlen:(a.eval ox).cells.toList.length=ti.size:=by rw[←Cb.len VI];omega
 have hi:(P.info? t).map (·.size)=some (a.eval ox).cells.toList.length:=by grind[Ef.size]
 have hva:=h.ev oa;have fin:∀{bb oo:Nat} {E':Env},a.eval oa= .pointer (some ⟨bb,oo,none⟩)→w.there bb oo (a.eval ox).cells.toList.length→Rel E' σ' a (w.setCells bb oo (a.eval ox).cells.toList)→
   Q6 (KD (fun _=>none) σ o.op) E σ.bx w E' σ'.bx (w.setCells bb oo (a.eval ox).cells.toList)→σ'.tm.length=σ.tm.length→K4 P o E σ a w k y:=by
  intro bb oo E' e1 e2 e3 e4 e5;have hr:=mg (P:=P) e2 hi h1c;refine⟨undef,_,E',.c .undef,σ',.inr ⟨?_,rfl⟩,e3,trivial,e4,e5,e⟩;grind[execOp,Sem.run_bind,Result.andThen_ok,Sem.run_pure]
 generalize hxa:σ.ev oa=xa at hs hva
 cases xa with
 |agg l=>simp[K_,ZQ,fy]at hs
 |Mh l=>simp[K_,ZQ,fy]at hs
 |c x=>
  cases x with
  |IG b j=>
   simp only[K_,ZQ,AMM,fy]at hs;split at hs
   case h_2=>cases hs
   rename_i cs hb;simp only[ALe]at hs;obtain⟨cx,hs,rfl⟩:=hs;have Aav:b<σ.bx.length∧a.eval oa= .pointer (some ⟨E.Ht b,j,none⟩):=hva;obtain⟨q1,q2,q3⟩:=ACF h hb VI bM hs;exact fin Aav.2 q1 q2 (by grind[KD]) rfl
  |JX b p i sz j=>
   obtain⟨bb,oo,E',q1,q2,q3,q4,q5⟩:=yS h hva (h.ev ox) h1c hs;grind[KD]
  |_=>simp[K_,ZQ,fy]at hs
omit hT in
theorem vf(h:Rel E σ a w){x:Operand}(ho:o.op= .assign x)(e:aq σ (σ.ev x) k=some y):K4 P o E σ a w k y:=by
 have hr:(execOp a.eval o).run P w= .ok (.value (a.eval x)) w:=by simp only[execOp,ho,Sem.run_pure]
 have hv:=h.ev x;unfold aq at e;split at e
 ·rename_i b off n hx
  rw[hx]at hv;simp only[ALt]at e;obtain⟨⟨r,rows,bx,d⟩,e1,e⟩:=e;dsimp only at e;have Xi:VR E w σ.bx (.win b [] off n) (a.eval x):=hv;obtain⟨hd,F1,F2,k1,ho1⟩:=eZ h.bx (FI.refl _) Xi e1;obtain⟨Fs0,hB1,XU⟩:=k1.boxes;simp only[AMa]at XU;have nd:=(AMx.1 (AMx.1 XU.nodup).2.1).1;obtain⟨r1,r2,r3⟩:=S9 h k1 (w':=w) hd ho1 (fun c hc=> .inl (AOs.2 (.inl hc))) nd (fun c hc=>XU.lt c (by simp[hc])) (fun _ _ _=>rfl) ⟨rfl,rfl,rfl,APz _⟩;exact⟨_,_,_,_,_,.inl hr,r1,r3,r2.any,rfl,e⟩
 ·exact K4.same h hr hv e
theorem AAm{Γ:Nat→Option QP}(h:Rel E σ a w)(e:WM T Γ o σ k=some y)(rf:pK o.op=false):K4 P o E σ a w k y:=by
 have same:∀{v:Value} {x:XV},(execOp a.eval o).run P w= .ok (.value v) w→XR E w σ.bx x v→k x σ=some y→K4 P o E σ a w k y:=fun h1 h2 h3=>K4.same h h1 h2 h3
 obtain⟨Fs,hB,hS⟩:=h.bx;have st:=hS.st;unfold WM at e;split at e
 ·rename_i x ho
  exact same (v:=a.eval x) (by grind[execOp,Sem.run_pure]) (h.ev x) e
 ·grind[vf]
 ·rename_i c xa xb ho
  split at e
  case h_2=>cases e
  rename_i p hp;have hc:=h.ev c;rw[hp]at hc;have ZL:=RJ (E:=E) (w:=w) (vw:=σ.bx) hc;refine same (v:=if p then a.eval xa else a.eval xb) (x:=if p then σ.ev xa else σ.ev xb) (by simp[execOp,ho,ZL,asBool]) (by cases p<;>simp[h.ev]) ?_
  grind[AC4]
 ·grind[y8]
 ·grind[ACu]
 ·grind[yI]
 ·grind[mu]
 ·rename_i t x ho
  split at e
  case h_2=>cases e
  rename_i z hz;obtain⟨u,h1,h2⟩:=um hT hB st hz (h.ev x);grind[execOp,Sem.run_bind,Result.andThen_ok,Sem.run_pure]
 ·grind[yZ]
 ·rename_i x ho
  have hx:=h.ev x;split at e
  ·rename_i b j hp
   rw[hp]at hx;have y_:b<σ.bx.length∧a.eval x= .pointer (some ⟨E.Ht b,j,none⟩):=hx;grind[execOp,Sem.run_pure]
  ·rename_i b p i sz j hp
   rw[hp]at hx;have hpt:bR (a.eval x)=true:=hx.1;grind[bR,execOp,Sem.run_pure]
  ·rename_i s r z j hp
   rw[hp]at hx;obtain⟨bb,oo,cs,hv,hrest⟩:=hx;exact same (v:=a.eval x) (x:= .c (.PB s r z j)) (by grind[execOp,Sem.run_pure]) ⟨bb,oo,cs,hv,hrest⟩ e
  ·rename_i f KM hp
   rw[hp]at hx;have y_:(∀b∈KM,b<σ.bx.length)∧a.eval x= .func (.func f) #[] (KM.map fun b=>Value.pointer (some ⟨E.Ht b,0,none⟩)).toArray:=hx;grind[execOp,Sem.run_pure]
  simp_all
 ·rename_i op t x z s ho
  obtain⟨r,val,h1,h2,h3⟩:=fx hT e (h.ev x) (h.ev z) x z;exact same (v:=val) (x:= .c r) (by
   simp only[execOp,ho,Sem.run_bind];simp_all) h3 h1
 ·rename_i op t x ho
  obtain⟨r,val,h1,h2,h3⟩:=js (P:=P) e (h.ev x);exact same (v:=val) (x:= .c r) (by grind[execOp,Sem.run_bind,Result.andThen_ok,Sem.run_pure]) h3 h1
 ·grind[AA6]
 ·rename_i f first KM ho
  split at e
  case isFalse=>cases e
  rename_i hf;split at e
  case h_2=>cases e
  rename_i bs hbs;obtain⟨q1,q2⟩:=nz hbs (evs h KM.toList);have AZe:first.map a.eval= #[]:=by
   simp_all
  have AcI:KM.map a.eval=(bs.map fun b=>Value.pointer (some ⟨E.Ht b,0,none⟩)).toArray:=by
   grind
  refine same (v:= .func (.func f) #[] (bs.map fun b=>Value.pointer (some ⟨E.Ht b,0,none⟩)).toArray) ?_ (x:= .c (.fn f bs)) ⟨q1,rfl⟩ e
  grind[execOp,Instr.makeFunc,Sem.run_bind,Sem.run_pure,Result.andThen_ok]
 ·grind[ABP]
 ·rename_i t x lo hi ho
  obtain⟨z,val,h1,h2,h3⟩:=ir hT hB st e (h.ev x) (zN h lo) (zN h hi);grind[execOp,Sem.run_bind,Result.andThen_ok,Sem.run_pure]
 ·rename_i t x f ho
  split at e
  case h_2=>cases e
  rename_i z hz;obtain⟨u,h1,h2⟩:=iN hT hz (h.ev x);grind[execOp,Sem.run_bind,Result.andThen_ok,Sem.run_pure]
 ·rename_i t x f ho
  split at e
  case h_2=>cases e
  rename_i z hz;obtain⟨u,h1,h2⟩:=lA hT hz (h.ev x);grind[execOp,Sem.run_bind,Result.andThen_ok,Sem.run_pure]
 ·rename_i t x i ho
  obtain⟨z,val,h1,h2,h3⟩:=iO hT hB st e (h.ev x) (h.ev i);grind[execOp,Sem.run_bind,Result.andThen_ok,Sem.run_pure]
 ·rename_i t x i ho
  obtain⟨z,val,h1,h2,h3⟩:=bo hT e (h.ev x) (h.ev i);grind[execOp,Sem.run_bind,Result.andThen_ok,Sem.run_pure]
 ·rename_i x i ho
  split at e
  case h_2=>cases e
  rename_i z hz;obtain⟨u,h1,h2⟩:=dQ (P:=P) hz (h.ev x);grind[execOp,Sem.run_bind,Result.andThen_ok,Sem.run_pure]
 ·rename_i f args qS ho
  rw[ho]at rf;cases rf
 ·rename_i args qS ho
  split at e
  ·rename_i s t II hts
   obtain⟨x,rfl,hx⟩:=W7 II;have hv:=h.ev x;rw[hx]at hv;have Xi:=XL (E:=E) (w:=w) (vw:=σ.bx) hv;split at e
   case isFalse=>cases e
   rename_i hs;have hu:=Wg hT hs;refine same (v:= .int .i64 (s.length:Int)) (x:= .c (.v (.int .i64) (s.length:Int))) ?_ (VR.int (E:=E) (vw:=σ.bx) _ _) e
   have O_:(⟨s.toArray⟩:ByteArray).size=s.length:=by rfl
   simp[execOp,ho,resolve,invoke,builtin,Builtin.len_,hts,Xi,BZ hu,goInt,O_]
  ·rename_i z t _ II hts
   obtain⟨x,rfl,hx⟩:=W7 II;have hv:=h.ev x;rw[hx]at hv;split at e
   case isFalse=>cases e
   rename_i hs;split at e
   case h_2=>cases e
   rename_i n hn;obtain⟨el,hu⟩:=k_ hT hs;obtain⟨ad,cap,Xi⟩:=lJ hB st hn hv;refine same (v:= .int .i64 (n:Int)) (x:= .c (.v (.int .i64) (n:Int))) ?_ (VR.int (E:=E) (vw:=σ.bx) _ _) e
   simp[execOp,ho,resolve,invoke,builtin,Builtin.len_,hts,Xi,BZ hu,goInt]
  simp_all
 ·rename_i args qS ho
  split at e
  case h_2=>cases e
  rename_i x1 x2 II;exact v_ hT h ho rfl II e
 ·rename_i args qS ho
  split at e
  case h_2=>cases e
  rename_i x II;exact xk hT h ho rfl II e (fun b p off n hx=>by grind[KD])
 ·rename_i args qS ho
  split at e
  case h_2=>cases e
  rename_i x1 x2 II;obtain⟨o1,o2,rfl,hx1,hx2⟩:=Wh II;have bV:=h.ev o1;have Zv:=h.ev o2;rw[hx1]at bV;rw[hx2]at Zv;obtain⟨r,val,h1,h2,h3⟩:=TU (P:=P) (big:=true) e bV Zv qS #[] o.type;simp only[ASe]at h2;exact same (v:=val) (x:= .c r) (by simp[execOp,ho,resolve,invoke,builtin,h2]) h3 h1
 ·rename_i args qS ho
  split at e
  case h_2=>cases e
  rename_i x1 x2 II;obtain⟨o1,o2,rfl,hx1,hx2⟩:=Wh II;have bV:=h.ev o1;have Zv:=h.ev o2;rw[hx1]at bV;rw[hx2]at Zv;obtain⟨r,val,h1,h2,h3⟩:=TU (P:=P) (big:=false) e bV Zv qS #[] o.type;simp only[ALr,AOV]at h2;exact same (v:=val) (x:= .c r) (by simp[execOp,ho,resolve,invoke,builtin,h2]) h3 h1
 simp_all
end
end Go.Fw
end
