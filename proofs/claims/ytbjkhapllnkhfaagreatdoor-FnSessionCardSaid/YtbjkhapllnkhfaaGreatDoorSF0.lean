/- The framework, part 1: a checked interpreter of the model's code over abstract states; no claim is made here. -/
import Derived.Lib.LaidTab
import Derived.Lib.ItoaNum
import Derived.Calls
import Derived.Still
import Derived.Laws.World
import Derived.Laws.AppendOwn
import Derived.RowKit3
import Derived.Deep.MidRow
import Derived.Laws.StructEq
import Derived.Lib.ConvBytes
import Derived.Laws.BytesArg
import Derived.Tactics
import Derived.OrdersHeld
import Derived.ChangeArms
import Derived.ChangeOld
import Derived.DataReads
import Derived.Below
import Derived.Shelf.Spec.SlicesInsertGrow
import Derived.Shelf.Slices.Delete
import Derived.Lib.AtoiAll
import Derived.Lib.IndexMore
import Derived.Lib.Strings
import Derived.Lib.SlicesS
import Derived.Shelf.Strconv.Itoa3
import Derived.Shelf.Strings.Cut
import Derived.Shelf.Strings.Search3
import Derived.Shelf.Strings.Prefix
import Derived.Shelf.Slices.Turned
import Derived.Lib.Split
import Derived.Shelf.Strings.Split
import Derived.Handed
import Derived.Stop.LaidErr
import Derived.MakeChecks
import Derived.LaidLaws
set_option linter.unusedVariables false
set_option linter.unusedSimpArgs false
set_option linter.unusedSectionVars false
abbrev AEe:Type:=Int × Int × Bool × List UInt8 × Unit
abbrev AJC:Type:=List UInt8 × List Int × Bool × Unit
abbrev AFL:Type:=Int × Int × List UInt8 × Unit
abbrev AHW:Type:=List Int × Bool × Int × Unit
abbrev AHy:Type:=Int × List UInt8 × Bool × Unit
abbrev AFd:Type:=Unit × Int × Unit × Unit × Unit × Int × Unit × Unit × Unit × Unit × Bool × Unit
abbrev AAA:Type:=List Int
abbrev AJG:Type:=Int × Bool × Int × Int × Bool × List UInt8 × Unit
abbrev ABz:Type:=Bool × Unit
abbrev AB2:Type:=Int × Unit
abbrev AFe:Type:=List Int × Int × Int × Unit
abbrev ABx:Type:=List Int × Int × Unit
abbrev AJE:Type:=Int × Int × Unit × Unit × Bool × Unit × Unit
abbrev ABF:Type:=List UInt8
abbrev ACL:Type:=Unit × Unit
abbrev AJD:Type:=Unit × Unit × Int × Unit
abbrev ADH:Type:=List Int × Unit
abbrev ADJ:Type:=Int × Int × Int × Int × List UInt8 × Unit
abbrev ABy:Type:=List Nat
abbrev AEg:Type:=List UInt8 × Unit
abbrev AHd:Type:=Unit × Int × Unit
abbrev AH6:Type:=Int × Int × Unit × Unit
abbrev AH4:Type:=Int × Unit × Unit
abbrev AJF:Type:=Int × Bool × Unit
abbrev AJB:Type:=List UInt8 × Bool × Unit
abbrev AEG:Type:=Nat × Nat
abbrev AHi:Type:=Unit × List Int × Unit
abbrev AHG:Type:=Nat × List Nat
abbrev AI_:Type:=List UInt8 × Int × Unit
abbrev AB1:Type:=Int × Int × List Int × List AEe × Bool × List AAA × Unit
abbrev ADA:Type:=List AEe × List AEe × Int × Unit
abbrev ADU:Type:=Int × Int × List AFL × Unit
abbrev AB5:Type:=Int × List AJC × Unit
abbrev ABd:Type:=List AEe
abbrev AAf:Type:=List AHW
abbrev AA8:Type:=List AHy
abbrev AB4:Type:=List AHW × Int × Unit
abbrev AJH:Type:=AFd × Int × Unit
abbrev AJI:Type:=AJD × Bool × Unit
abbrev AB3:Type:=List AJC
abbrev AJJ:Type:=AJE × Bool × Unit
abbrev ADY:Type:=List AFL
abbrev AFK:Type:=AFe × Unit
abbrev AFf:Type:=AJF × Unit
abbrev AJZ:Type:=AH4 × Bool × Unit
abbrev AJT:Type:=AHd × Bool × Unit
abbrev AJO:Type:=AEe × Bool × Unit
abbrev AHJ:Type:=AFe × List Int × Unit
abbrev AD_:Type:=List AJG
abbrev AF_:Type:=AJB × Unit
abbrev AF8:Type:=AHd × Unit
abbrev AGA:Type:=ADJ × Unit
abbrev AGB:Type:=AH6 × Unit
abbrev AGC:Type:=AJE × Unit
abbrev AEn:Type:=AB2 × Unit
abbrev AIa:Type:=AH4 × Int × Bool × Unit
abbrev AIX:Type:=AHd × Int × Bool × Unit
abbrev AI9:Type:=AFd × List UInt8 × Unit
abbrev AHm:Type:=AH4 × Unit
abbrev AHj:Type:=AJD × Unit
abbrev AHr:Type:=AFd × Unit
abbrev AI8:Type:=ADJ × Bool × Unit
abbrev AIH:Type:=AFd × Bool × Unit
abbrev AIK:Type:=AH6 × Int × Unit
abbrev AJA:Type:=List ABF × Unit
abbrev AB0:Type:=List Int × Int × List ADA × List Int × List AHW × Int × List AB5 × List AB1 × List ADU × List AHy × Bool × Unit
abbrev AAd:Type:=List ADA
abbrev AAs:Type:=List ADU
abbrev ABE:Type:=List AB5
abbrev ABI:Type:=List AB1
abbrev AFA:Type:=List Int × ABd × List AAA × Unit
abbrev AEz:Type:=ABd × ABd × Unit
abbrev AEq:Type:=AJH × Unit
abbrev AFH:Type:=AJI × Unit
abbrev AFl:Type:=AJJ × Unit
abbrev AFk:Type:=AB3 × Unit
abbrev AFi:Type:=AAf × Unit
abbrev AF1:Type:=ADY × Unit
abbrev AF9:Type:=ABd × Unit
abbrev AGD:Type:=AJO × Unit
abbrev AG3:Type:=AJT × Unit
abbrev AGV:Type:=AJZ × Unit
abbrev AH2:Type:=Unit × ABd × Unit
abbrev AII:Type:=AH6 × Unit × ADY × Unit
abbrev AEw:Type:=List Int × AAd × List Int × AAf × ABE × ABI × AAs × AA8 × Unit
abbrev AFO:Type:=AFd × List Int × AAd × List Int × AAf × ABE × ABI × AAs × AA8 × Unit
abbrev AI7:Type:=AFd × List Int × AAd × Unit × AAf × ABE × ABI × AAs × AA8 × List Int × Unit
abbrev AIi:Type:=List Int × AAd × Unit × AAf × ABE × ABI × AAs × AA8 × List Int × Unit
abbrev AIm:Type:=AAd × ABd × ABd × Unit
abbrev AJd:=@Bool.eq_false_or_eq_true
abbrev AJe:=@if_pos
abbrev AJk:=@if_neg
abbrev AKT:=@List.getElem?_eq_getElem
abbrev AKX:=@Option.some.injEq
abbrev AKm:=@Option.map_eq_some_iff
abbrev AKp:=@cond_false
abbrev AK1:=@List.getElem?_eq_some_iff
abbrev ALJ:=@Bool.and_eq_true
abbrev ALN:=@Int.toNat_natCast
abbrev ALR:=@Bool.not_true
abbrev ALU:=@Option.bind_eq_some_iff
abbrev ALY:=@Bool.false_eq_true
abbrev ALg:=@cond_true
abbrev ALh:=@decide_eq_true_eq
abbrev ALi:=@Option.bind_some
abbrev ALk:=@List.getElem_mem
abbrev ALl:=@Bool.true_and
abbrev ALm:=@List.drop_eq_nil_of_le
abbrev ALr:=@beq_eq_false_iff_ne
abbrev ALu:=@List.append_nil
abbrev AL1:=@Sigma.mk.injEq
abbrev AL3:=@List.append_assoc
abbrev AL8:=@List.nodup_append
abbrev AMB:=@List.getElem?_append_left
abbrev AME:=@Nat.mul_le_mul_right
abbrev AMK:=@List.length_cons
abbrev AMM:=@List.getElem?_append_right
abbrev AMN:=@Nat.le_refl
abbrev AMU:=@List.mem_of_getElem?
abbrev AMf:=@List.length_append
abbrev AMt:=@List.mem_append
abbrev AMv:=@Bool.not_eq_true
abbrev AM0:=@Bool.not_eq_false'
abbrev AM_:=@decide_eq_true
abbrev ANC:=@List.mem_cons
abbrev ANN:=@List.cons.injEq
abbrev ANT:=@List.eq_nil_of_length_eq_zero
abbrev ANX:=@if_false
abbrev AOK:=@List.getElem?_set_ne
abbrev AOP:=@Bool.not_false
abbrev AOR:=@List.getElem?_map
abbrev AOe:=@List.take_of_length_le
abbrev AOs:=@eq_of_heq
abbrev APF:=@Prod.mk.injEq
abbrev APM:=@Bool.false_or
abbrev APb:=@List.length_nil
abbrev APd:=@List.pairwise_cons
abbrev APp:=@Nat.le_trans
abbrev APz:=@List.mem_flatten
abbrev AP5:=@List.length_filter_le
abbrev AP7:=@List.drop_zero
abbrev AQA:=@List.getElem_of_mem
abbrev AQH:=@List.nil_append
abbrev AQK:=@decide_eq_false
abbrev AQQ:=@Nat.lt_of_lt_of_le
abbrev AQY:=@if_true
abbrev AQd:=@Bool.or_eq_true
abbrev AQ5:=@Bool.and_true
abbrev AQ6:=@and_true
abbrev AQ7:=@Option.isSome_some
abbrev AQ8:=@List.getElem?_set_self
abbrev AQ9:=@List.filter_cons
abbrev AQ_:=@Option.getD_some
abbrev ARA:=@Bool.false_and
abbrev ARB:=@List.take_succ_eq_append_getElem
abbrev ARC:=@beq_self_eq_true
abbrev ARD:=@List.eq_of_mem_replicate
abbrev ARE:=@Option.isSome_none
abbrev ARF:=@List.map_congr_left
abbrev ARG:=@List.mem_map
abbrev ARH:=@List.cons.inj
abbrev ARI:=@Bool.not_eq_true'
abbrev ARJ:=@Bool.eq_false_iff
abbrev ARK:=@Nat.add_mul
abbrev ARL:=@beq_iff_eq
abbrev ARM:=@List.all_eq_true
abbrev ARN:=@List.all_cons
abbrev ARO:=@List.drop_length
abbrev ARP:=@List.flatten_append
abbrev ARQ:=@Nat.zero_add
abbrev ARR:=@List.singleton_append
abbrev ARS:=@Nat.add_assoc
abbrev ART:=@Nat.add_zero
abbrev ARU:=@List.cons_append
abbrev ARV:=@List.flatten_cons
abbrev ARW:=@List.mem_or_eq_of_mem_set
abbrev ARX:=@List.drop_eq_getElem_cons
abbrev ARY:=@List.contains_iff_mem
abbrev ARZ:=@List.map_cons
abbrev ARa:=@decide_eq_false_iff_not
abbrev ARb:=@Option.bind_assoc
abbrev ARf:=@List.length_map
abbrev ARg:=@List.length_set
abbrev ARp:=@List.Perm.append_right
abbrev ARy:=@List.getElem_cons_zero
abbrev AR5:=@List.map_map
abbrev AR8:=@List.getElem?_take
abbrev ASJ:=@List.getElem?_drop
abbrev ASP:=@List.mem_singleton
abbrev ASU:=@List.getElem?_eq_none
abbrev ASp:=@List.mem_of_mem_drop
abbrev ASt:=@Option.map_some
abbrev ASy:=@List.ext_getElem?
abbrev AS_:=@Nat.le_of_lt
abbrev ATJ:=@Array.length_toList
abbrev ATV:=@Nat.sub_mul
abbrev ATw:=@Int.eq_ofNat_of_zero_le
abbrev AT3:=@List.flatten_nil
abbrev AT_:=@List.length_take
abbrev AUM:=@List.Perm.append_left
abbrev AUS:=@List.length_replicate
abbrev AUT:=@List.nodup_cons
abbrev AUZ:=@Array.getD_eq_getD_getElem?
abbrev AUl:=@List.mem_filter
abbrev AUm:=@Decidable.not_not
abbrev AU_:=@List.pairwise_map
abbrev AVC:=@List.exists_cons_of_length_eq_add_one
abbrev AVM:=@List.mem_of_mem_take
abbrev AVT:=@List.mem_of_find?_eq_some
abbrev AVV:=@List.pairwise_iff_getElem
abbrev AVW:=@Bool.and_false
abbrev AVX:=@List.length_drop
abbrev AVY:=@List.length_pos_iff
abbrev AVZ:=@List.map_nil
abbrev AVa:=@List.set_cons_zero
abbrev AVb:=@List.length_eq_zero_iff
abbrev AVc:=@List.getElem?_cons_succ
abbrev AVd:=@Option.some.inj
abbrev AVe:=@List.find?_cons
abbrev AVf:=@Nat.eq_zero_or_pos
abbrev AVg:=@Array.size_append
abbrev AVh:=@List.size_toArray
abbrev AVi:=@Nat.zero_le
abbrev AVj:=@List.set_set
abbrev AVk:=@dite_true
abbrev AVl:=@List.perm_append_comm
abbrev AVm:=@List.take_append_drop
abbrev AVn:=@List.set_append_right
abbrev AVo:=@Bool.true_or
abbrev AVp:=@List.getElem_set_self
abbrev AVq:=@List.mem_cons_of_mem
abbrev AVr:=@Bool.or_false
abbrev AVs:=@List.replicate_succ
abbrev AVt:=@List.filter_nil
abbrev AVu:=@List.drop_set_of_lt
abbrev AVv:=@List.take_set_of_le
abbrev AVw:=@Bool.eq_iff_iff
abbrev AVx:=@Nat.sub_self
abbrev AVy:=@List.Perm.refl
abbrev AVz:=@List.mapM_cons
abbrev AV0:=@Nat.mul_le_mul
abbrev AV1:=@List.take_zero
abbrev AV2:=@not_or
section
namespace Go.Fw
open Go
def AFb:Nat:=3
def AJx:Nat:=0
def gE1:Nat:=4
def gE2:Nat:=5
def gr(w:World)(g:Nat):Prop:= ∃ev,w.cell? ⟨g,0,none⟩=some ev/\(ev= .nilIface\/ ∃te pe,ev= .iface te pe)
def GI(w:World):Prop:=(∃t fr,w.heap[AFb]? =some (.cells (Go.Lib.pow10Tab.map fun z=>Value.int .u64 z).toArray t fr))/\(∃m,w.cell? ⟨AJx,0,none⟩=some (.int .i64 m))/\gr w gE1/\gr w gE2
theorem GI.tab{P:Program}{w:World}(h:GI w)(hg:P.globalNamed "internal/strconv.uint64pow10" =some AFb):Go.Lib.TabIs P w "internal/strconv.uint64pow10" .u64 Go.Lib.pow10Tab:=by
 obtain⟨⟨t,fr,h1⟩,_⟩:=h;unfold Go.Lib.TabIs World.var?;rw[hg];simp only[ALi,h1]
theorem GI.of{P:Program}{w w':World}(hg:P.globalNamed "internal/strconv.uint64pow10" =some AFb)(ht:Go.Lib.TabIs P w "internal/strconv.uint64pow10" .u64 Go.Lib.pow10Tab)(hm:∃m,w.cell? ⟨AJx,0,none⟩=some (.int .i64 m))(h1:gr w gE1)(h2:gr w gE2)
  (hw:∀c,c<w.heap.size->w'.heap[c]? =w.heap[c]?):GI w':=by
 have lt:∀b o,w.heap[b]? =some o->b<w.heap.size:=fun b o h=>by
  by_cases hb:b<w.heap.size
  ·exact hb
  ·rw[Array.getElem?_eq_none (by omega)]at h;cases h
 unfold Go.Lib.TabIs World.var? at ht;rw[hg]at ht;simp only[ALi]at ht;have same:∀g v,w.cell? ⟨g,0,none⟩=some v->w'.cell? ⟨g,0,none⟩=some v:=fun g v h=>by
  have hb:w'.heap[g]? =w.heap[g]?:=by
   cases ho:w.heap[g]? with
   |none=>simp[World.cell?,ho]at h
   |some o=>rw[hw _ (lt _ _ ho),ho]
  rw[<-h];simp only[World.cell?,hb]
 refine⟨?_,hm.imp fun m h=>same _ _ h,h1.imp fun v h=>⟨same _ _ h.1,h.2⟩,h2.imp fun v h=>⟨same _ _ h.1,h.2⟩⟩
 ·cases ho:w.heap[AFb]? with
  |none=>rw[ho]at ht;cases ht
  |some o=>
   rw[ho]at ht;cases o with
   |cells cs t fr=>
    simp only[AKX]at ht;exact⟨t,fr,by rw[hw _ (lt _ _ ho),ho,ht]⟩
   |_=>cases ht
end Go.Fw
end
section
namespace Go.Fw
inductive Ty where
 |int (k:IntKind)|bool|str|sl (r:Ty)|unit|cons (c r:Ty)
 deriving DecidableEq
@[reducible] def Ty.D:Ty->Type
 | .int _=>Int
 | .bool=>Bool
 | .str=>List UInt8
 | .sl r=>List r.D
 | .unit=>Unit
 | .cons c r=>c.D×r.D
def Ty.n:Ty->Nat
 | .unit=>0
 | .cons _ r=>r.n+1
 |_=>1
def Ty.z:(t:Ty)->t.D
 | .int _=>(0:Int)
 | .bool=>false
 | .str=>[]
 | .sl _=>[]
 | .unit=>()
 | .cons c r=>(c.z,r.z)
def Ty.flat:Ty->Bool
 | .sl _=>false
 | .cons c r=>c.flat&&r.flat
 |_=>true
def Ty.scalar:Ty->Bool
 | .int _| .bool| .str=>true
 |_=>false
structure Yu where
 i:Nat
 sz:Nat
 j:Nat
inductive AV where
 |v (t:Ty) (x:t.D)
 |sl (s:Bool) (r:Ty) (x:List r.D)
 |nil
 |ref (b:Nat) (p:List Yu)
 |win (b:Nat) (p:List Yu) (off n:Nat)
 |Ir (b j:Nat)
 |J5 (b:Nat) (p:List Yu) (i sz j:Nat)
 |Qf (s:Bool) (r:Ty) (x:r.D) (j:Nat)
 |fn (f:Nat) (K4:ABy)
 |vZ (f:Nat) (rows:List ((r:Ty)×r.D))
 |ACj
 |undef
def AV.known:AV->Bool
 | .undef=>false
 |_=>true
inductive XV where
 |c (x:AV)
 |agg (l:List AV)
 |L8 (l:List (AV ⊕ List AV))
inductive Bx where
 |mem (cs:List AV)
 |sl (d:Nat) (r:Ty) (rows:List r.D)
 |dead
structure St where
 tm:List XV
 bx:List Bx
def BV:(r:Ty)->(j:Nat)->r.D->Option ((t:Ty)×t.D)
 | .cons c _,0,x=>some ⟨c,x.1⟩
 | .cons _ r,j+1,x=>BV r j x.2
 | .unit,_,_=>none
 | .int k,0,x=>some ⟨.int k,x⟩
 | .bool,0,x=>some ⟨.bool,x⟩
 | .str,0,x=>some ⟨.str,x⟩
 | .sl r,0,x=>some ⟨.sl r,x⟩
 |_,_+1,_=>none
def tL{a b:Ty}(h:a=b)(x:a.D):b.D:=h▸x
def D6:(r:Ty)->(j:Nat)->r.D->(t:Ty)->t.D->Option r.D
 | .cons c _,0,x,t,y=>if h:t=c then some (tL h y,x.2)else none
 | .cons _ r,j+1,x,t,y=>(D6 r j x.2 t y).map fun z=>(x.1,z)
 | .unit,_,_,_,_=>none
 | .int k,0,_,t,y=>if h:t= .int k then some (tL h y)else none
 | .bool,0,_,t,y=>if h:t= .bool then some (tL h y)else none
 | .str,0,_,t,y=>if h:t= .str then some (tL h y)else none
 | .sl r,0,_,t,y=>if h:t= .sl r then some (tL h y)else none
 |_,_+1,_,_,_=>none
def rowAt(r:Ty)(rows:List r.D)(i:Nat):r.D:=rows.getD i r.z
def G8:(r:Ty)->List r.D->List Yu->Option ((q:Ty)×List q.D)
 |r,rows,[]=>some ⟨r,rows⟩
 |r,rows,s::p=>
  match BV r s.j (rowAt r rows s.i)with
  |some ⟨.sl q,x⟩=>G8 q x p
  |_=>none
def uD:(r:Ty)->List r.D->List Yu->(q:Ty)->List q.D->Option (List r.D)
 |r,_,[],q,y=>if h:q=r then some (tL (congrArg Ty.sl h) y)else none
 |r,rows,s::p,q,y=>
  match BV r s.j (rowAt r rows s.i)with
  |some ⟨.sl r',x⟩=>(uD r' x p q y).bind fun x' =>(D6 r s.j (rowAt r rows s.i) (.sl r') x').map fun row=>rows.set s.i row
  |_=>none
inductive TD where
 |int (k:IntKind)|bool|str|sl (e:Nat)|st (fs:List AEG)|ptr (e:Nat)|other
structure TI where
 size:Nat
 bytes:Nat
 desc:TD
 row:Option Ty
abbrev Jr:=List (Nat×TI)
def Jr.get:Jr->Nat->Option TI
 |[],_=>none
 |(u,i)::l,t=>if u=t then some i else Jr.get l t
def TD.agg:TD->Bool
 | .st _=>true
 |_=>false
def Jr.mJ(T:Jr)(t:Nat):Option Ty:=
 match T.get t with
 |some ti=>ti.row
 |none=>none
def ACy:Ty->AV
 | .int k=> .v (.int k) (0:Int)
 | .bool=> .v .bool false
 | .str=> .v .str []
 | .sl _=> .nil
 |_=> .undef
def eL:Ty->List AV
 | .cons c r=>ACy c::eL r
 | .unit=>[]
 |t=>[ACy t]
def sr:Value->AV
 | .int k n=> .v (.int k) n
 | .bool b=> .v .bool b
 | .string s=> .v .str s.data.toList
 | .slice none 0 0=> .nil
 | .pointer none=> .ACj
 |_=> .undef
def ofValue:Value->XV
 | .agg cs=> .agg (cs.toList.map sr)
 |v=> .c (sr v)
def St.ev(σ:St):Operand->XV
 | .tmp t=>σ.tm.getD t (.c .undef)
 | .const v=>ofValue v
 | .global _=> .c .undef
 | .func f=> .c (.fn f [])
def St.put(σ:St)(dst:Option Tmp)(x:XV):St:=
 match dst with
 |some d=>{ σ with tm:=σ.tm.set d x }
 |none=>σ
def XV.cells:XV->List AV
 | .c x=>[x]
 | .agg l=>l
 | .L8 _=>[]
def SL{β:Ty->Type}(a b:Ty)(x:β a):Option (β b):=if h:a=b then some (h▸x)else none
def N6(bx:List Bx):AV->Option ((r:Ty)×List r.D)
 | .sl _ r x=>some ⟨r,x⟩
 | .ref b p=>
  match bx[b]? with
  |some (.sl _ r rows)=>G8 r rows p
  |_=>none
 | .win b p off n=>
  match bx[b]? with
  |some (.sl _ r rows)=>(G8 r rows p).map fun q=>⟨q.1,(q.2.drop off).take n⟩
  |_=>none
 |_=>none
def Ng(bx:List Bx)(t:Ty)(x:AV):Option t.D:=
 match x with
 | .v u y=>SL (β:=Ty.D) u t y
 | .nil=>match t with
  | .sl _=>some []
  |_=>none
 |x=>match t with
  | .sl r=>(N6 bx x).bind fun q=>SL (β:=fun r=>List r.D) q.1 r q.2
  |_=>none
def IM(bx:List Bx):(r:Ty)->List AV->Option r.D
 | .unit,[]=>some ()
 | .cons c r,x::l=>(Ng bx c x).bind fun a=>(IM bx r l).map fun b=>(a,b)
 |_,_=>none
def lenOf(bx:List Bx):AV->Option Nat
 | .nil=>some 0
 | .sl _ _ x=>some x.length
 | .ref b p=>
  match bx[b]? with
  |some (.sl _ r rows)=>(G8 r rows p).map fun q=>q.2.length
  |_=>none
 | .win b _ _ n=>
  match bx[b]? with
  |some (.sl _ _ _)=>some n
  |_=>none
 |_=>none
inductive AP where
 |v (t:Ty)
 |sl (s:Bool) (r:Ty)
 |nil
 |ref (i:Nat)
 |ptr (i j:Nat)
 |rA (r:Ty)
 |fn (f:Nat) (K4:ABy)
 |vZ (f:Nat) (rs:List Ty)
 |any
 |oX (i sz:Nat)
inductive XP where
 |c (p:AP)
 |agg (l:List AP)
 |row (r:Ty)
 |L8 (l:List (AP ⊕ List AP))
inductive BP where
 |mem (l:List AP)
 |sl (d:Nat) (r:Ty)
 |gone
structure Bb where
 D1:List (Nat×XP)
 GV:List BP
@[reducible] def bu:List Ty->Type
 |[]=>Unit
 |r::l=>r.D×bu l
def bu.mk:(l:List Ty)->bu l->List ((r:Ty)×r.D)
 |[],_=>[]
 |r::l,x=>⟨r,x.1⟩::bu.mk l x.2
@[reducible] def AP.V:AP->Type
 | .vZ _ rs=>bu rs
 | .v t=>t.D
 | .sl _ r=>List r.D
 | .rA r=>r.D
 | .oX _ _=>Nat×Nat
 |_=>Unit
@[reducible] def aM.V:List AP->Type
 |[]=>Unit
 |p::l=>p.V×aM.V l
@[reducible] def bq.V:List (AP ⊕ List AP)->Type
 |[]=>Unit
 | .inl p::l=>p.V×bq.V l
 | .inr q::l=>aM.V q×bq.V l
@[reducible] def XP.V:XP->Type
 | .c p=>p.V
 | .agg l=>aM.V l
 | .row r=>r.D
 | .L8 l=>bq.V l
@[reducible] def BP.V:BP->Type
 | .mem l=>aM.V l
 | .sl _ r=>List r.D
 | .gone=>Unit
@[reducible] def GU.V:List (Nat×XP)->Type
 |[]=>Unit
 |(_,p)::l=>p.V×GU.V l
@[reducible] def Jg.V:List BP->Type
 |[]=>Unit
 |p::l=>p.V×Jg.V l
@[reducible] def Bb.V (s:Bb):Type:=GU.V s.D1×Jg.V s.GV
def AP.mk(m:Nat->Nat):(p:AP)->p.V->AV
 | .v t,x=> .v t x
 | .sl s r,x=> .sl s r x
 | .nil,_=> .nil
 | .ref i,_=> .ref (m i) []
 | .ptr i j,_=> .Ir (m i) j
 | .rA r,x=> .Qf false r x 0
 | .fn f K4,_=> .fn f (K4.map m)
 | .vZ f rs,x=> .vZ f (bu.mk rs x)
 | .any,_=> .undef
 | .oX i sz,k=> .ref (m i) [⟨k.1,sz,k.2⟩]
def aM.mk(m:Nat->Nat):(l:List AP)->aM.V l->List AV
 |[],_=>[]
 |p::l,x=>p.mk m x.1::aM.mk m l x.2
def tC:(r:Ty)->r.D->List AV
 | .unit,_=>[]
 | .cons c r,x=>(match c,x.1 with
  | .sl q,y=>AV.sl false q y
  |c,y=> .v c y)::tC r x.2
 | .sl q,x=>[.sl false q x]
 | .int k,x=>[.v (.int k) x]
 | .bool,x=>[.v .bool x]
 | .str,x=>[.v .str x]
def bq.mk(m:Nat->Nat):(l:List (AP ⊕ List AP))->bq.V l->List (AV ⊕ List AV)
 |[],_=>[]
 | .inl p::l,x=> .inl (p.mk m x.1)::bq.mk m l x.2
 | .inr q::l,x=> .inr (aM.mk m q x.1)::bq.mk m l x.2
def XP.mk(m:Nat->Nat):(p:XP)->p.V->XV
 | .c p,x=> .c (p.mk m x)
 | .agg l,x=> .agg (aM.mk m l x)
 | .row r,x=> .agg (tC r x)
 | .L8 l,x=> .L8 (bq.mk m l x)
def BP.mk(m:Nat->Nat):(p:BP)->p.V->Bx
 | .mem l,x=> .mem (aM.mk m l x)
 | .sl d r,x=> .sl d r x
 | .gone,_=> .dead
def GU.mk(m:Nat->Nat):(l:List (Nat×XP))->GU.V l->List XV->List XV
 |[],_,tm=>tm
 |(i,p)::l,x,tm=>GU.mk m l x.2 (tm.set i (p.mk m x.1))
def Jg.mk(m:Nat->Nat):(l:List BP)->Jg.V l->List Bx
 |[],_=>[]
 |p::l,x=>p.mk m x.1::Jg.mk m l x.2
def Bb.st(s:Bb)(n:Nat)(x:s.V):St:=
 { tm:=GU.mk id s.D1 x.1 (List.replicate n (.c .undef)),bx:=Jg.mk id s.GV x.2 }
abbrev Qr:=List (Option Nat)
def Qr.put(m:Qr)(i b:Nat):Option Qr:=
 match m[i]? with
 |some none=>if m.contains (some b)then none else some (m.set i (some b))
 |some (some b')=>if b' =b then some m else none
 |none=>none
def fL:Qr->List Nat->List Nat->Option Qr
 |m,[],[]=>some m
 |m,i::is,b::bs=>(m.put i b).bind fun m=>fL m is bs
 |_,_,_=>none
def AP.Ou(N:Nat)(m:Qr):AP->AV->Option Qr
 | .ref i,.ref b []=>m.put i b
 | .ref i,.nil=>m.put i (N+i)
 | .ref _,_=>none
 | .oX i sz,.ref b [s]=>if s.sz=sz then m.put i b else none
 | .oX _ _,_=>none
 | .ptr i j,.Ir b j' =>if j=j' then m.put i b else none
 | .ptr _ _,_=>none
 | .fn f K4,.fn g bs=>if f=g then fL m K4 bs else none
 | .fn _ _,_=>none
 | .nil,.nil=>some m
 | .nil,_=>none
 |_,_=>some m
def aM.Ou(N:Nat):Qr->List AP->List AV->Option Qr
 |m,[],[]=>some m
 |m,p::l,x::xs=>(p.Ou N m x).bind fun m=>aM.Ou N m l xs
 |_,_,_=>none
def bq.Ou(N:Nat):Qr->List (AP ⊕ List AP)->List (AV ⊕ List AV)->Option Qr
 |m,[],[]=>some m
 |m,.inl p::l,.inl x::xs=>(p.Ou N m x).bind fun m=>bq.Ou N m l xs
 |m,.inr p::l,.inr x::xs=>(aM.Ou N m p x).bind fun m=>bq.Ou N m l xs
 |_,_,_=>none
def XP.Ou(N:Nat)(m:Qr):XP->XV->Option Qr
 | .c p,.c x=>p.Ou N m x
 | .agg l,.agg xs=>aM.Ou N m l xs
 | .row _,.agg _=>some m
 | .L8 l,.L8 xs=>bq.Ou N m l xs
 |_,_=>none
def GU.Ou(N:Nat)(tm:List XV):Qr->List (Nat×XP)->Option Qr
 |m,[]=>some m
 |m,(i,p)::l=>
  match tm[i]? with
  |some x=>(p.Ou N m x).bind fun m=>GU.Ou N tm m l
  |none=>none
def Jg.Ou(N:Nat)(bx:List Bx):Nat->Qr->List BP->Option Qr
 |_,m,[]=>some m
 |i,m,.mem l::ps=>
  match m[i]? with
  |some (some b)=>
   match bx[b]? with
   |some (.mem cs)=>(aM.Ou N m l cs).bind fun m=>Jg.Ou N bx (i+1) m ps
   |_=>none
  |_=>none
 |i,m,.sl _ _::ps=>
  match m[i]? with
  |some (some _)=>Jg.Ou N bx (i+1) m ps
  |_=>none
 |i,m,.gone::ps=>Jg.Ou N bx (i+1) m ps
def Cy(bx:List Bx):Qr->List Bx
 |[]=>bx
 |some b::m=>Cy (bx.set b .dead) m
 |none::m=>Cy bx m
def bu.s_:(l:List Ty)->List ((r:Ty)×r.D)->Option (bu l)
 |[],[]=>some ()
 |r::l,q::qs=>(SL (β:=Ty.D) q.1 r q.2).bind fun a=>(bu.s_ l qs).map fun b=>(a,b)
 |_,_=>none
def bu.sR(bx:List Bx):(l:List Ty)->List Nat->Option (bu l)
 |[],[]=>some ()
 |r::l,b::bs=>(match bx[b]? with
  |some (.mem cs)=>IM bx r cs
  |_=>none).bind fun a=>(bu.sR bx l bs).map fun c=>(a,c)
 |_,_=>none
def AP.get(bx:List Bx):(p:AP)->AV->Option p.V
 | .vZ f rs,x=>match x with
  | .vZ g rows=>if f=g then bu.s_ rs rows else none
  | .fn g bs=>if f=g then bu.sR bx rs bs else none
  |_=>none
 | .v t,x=>if t.scalar then Ng bx t x else none
 | .sl false r,x=>Ng bx (.sl r) x
 | .sl true r,x=>match x with
  | .sl true q y=>SL (β:=fun r=>List r.D) q r y
  | .nil=>some []
  |_=>none
 | .rA r,x=>match x with
  | .Qf _ q y 0=>SL (β:=Ty.D) q r y
  | .Ir b 0=>match bx[b]? with
   |some (.mem cs)=>IM bx r cs
   |_=>none
  | .J5 b p i sz 0=>match bx[b]? with
   |some (.sl _ q rows)=>(G8 q rows p).bind fun s=>if sz=s.1.n then SL (β:=Ty.D) s.1 r (rowAt s.1 s.2 i)else none
   |_=>none
  |_=>none
 | .nil,_=>some ()
 | .ref _,_=>some ()
 | .ptr _ _,_=>some ()
 | .fn _ _,_=>some ()
 | .any,_=>some ()
 | .oX _ _,x=>match x with
  | .ref _ [s]=>some (s.i,s.j)
  |_=>none
def aM.get(bx:List Bx):(l:List AP)->List AV->Option (aM.V l)
 |[],[]=>some ()
 |p::l,x::xs=>(p.get bx x).bind fun a=>(aM.get bx l xs).map fun b=>(a,b)
 |_,_=>none
def bq.get(bx:List Bx):(l:List (AP ⊕ List AP))->List (AV ⊕ List AV)->Option (bq.V l)
 |[],[]=>some ()
 | .inl p::l,.inl x::xs=>(p.get bx x).bind fun a=>(bq.get bx l xs).map fun b=>(a,b)
 | .inr p::l,.inr x::xs=>(aM.get bx p x).bind fun a=>(bq.get bx l xs).map fun b=>(a,b)
 |_,_=>none
def XP.get(bx:List Bx):(p:XP)->XV->Option p.V
 | .c p,.c x=>p.get bx x
 | .agg l,.agg xs=>aM.get bx l xs
 | .row r,.agg xs=>IM bx r xs
 | .L8 l,.L8 xs=>bq.get bx l xs
 |_,_=>none
def GU.get(bx:List Bx)(tm:List XV):(l:List (Nat×XP))->Option (GU.V l)
 |[]=>some ()
 |(i,p)::l=>
  match tm[i]? with
  |some x=>(p.get bx x).bind fun a=>(GU.get bx tm l).map fun b=>(a,b)
  |none=>none
def Jg.get(bx bk:List Bx):(m:Qr)->(l:List BP)->Option (Jg.V l)
 |_,[]=>some ()
 |some b::m,.mem l::ps=>
  match bx[b]? with
  |some (.mem cs)=>(aM.get bk l cs).bind fun a=>(Jg.get bx bk m ps).map fun c=>(a,c)
  |_=>none
 |some b::m,.sl d r::ps=>
  match bx[b]? with
  |some (.sl d' q rows)=>if 1<=d/\d<=d' then(SL (β:=fun r=>List r.D) q r rows).bind fun a=>(Jg.get bx bk m ps).map fun c=>(a,c)else none
  |_=>none
 |_::m,.gone::ps=>(Jg.get bx bk m ps).map fun c=>((),c)
 |_,_=>none
def Bb.fit(s:Bb)(N:Nat)(m0:Qr)(tm:List XV)(bx:List Bx):Option (s.V×Qr):=
 (GU.Ou N tm m0 s.D1).bind fun m=>(Jg.Ou N bx 0 m s.GV).bind fun m=>
  let bk:=Cy bx m
  (GU.get bk tm s.D1).bind fun a=>(Jg.get bx bk m s.GV).map fun c=>((a,c),m)
def BP.opened:BP->Bx
 | .sl d r=> .sl (d+1) r []
 |_=> .dead
def Bb.opens(s:Bb)(bx:List Bx):List Bx:=bx++s.GV.map BP.opened
def Bb.m0(s:Bb):Qr:=List.replicate s.GV.length none
structure RU where
 ins:Bb
 outs:Bb
 g:ins.V->Option outs.V
def bN(m:Qr)(n:Nat)(i:Nat):Nat:=
 match m[i]? with
 |some (some b)=>b
 |_=>n+(i-m.length)
def dm(J6:Nat->Nat):Nat->(l:List BP)->Jg.V l->List Bx->List Bx
 |_,[],_,bx=>bx
 |i,p::l,x,bx=>dm J6 (i+1) l x.2 (if J6 i<bx.length then bx.set (J6 i) (p.mk J6 x.1)else bx++[p.mk J6 x.1])
def im:(l:List (Nat×XP))->GU.V l->(Nat->Nat)->XV
 |(_,p)::_,x,J6=>p.mk J6 x.1
 |[],_,_=> .c .undef
def CN:Nat:=2^36
section ops
variable{Y:Type}
abbrev K(Y:Type):=XV->St->Option Y
def St.new(σ:St)(b:Bx):St:={ σ with bx:=σ.bx++[b] }
def AGG(x:Bool)(a b:XV)(σ:St)(k:K Y):Option Y:=cond x (k a σ) (k b σ)
def jl(op:BinOp)(κ:IntKind)(a b:Int)(k:AV->Option Y):Option Y:=
 match op with
 | .add=>k (.v (.int κ) (κ.wrap (a+b)))
 | .sub=>k (.v (.int κ) (κ.wrap (a-b)))
 | .mul=>k (.v (.int κ) (κ.wrap (a*b)))
 | .quo=>if b=0 then none else k (.v (.int κ) (κ.wrap (a.tdiv b)))
 | .rem=>if b=0 then none else k (.v (.int κ) (a.tmod b))
 | .and=>k (.v (.int κ) (κ.wrap (BitVec.ofInt κ.bits a &&& BitVec.ofInt κ.bits b).toNat))
 | .or=>k (.v (.int κ) (κ.wrap (BitVec.ofInt κ.bits a ||| BitVec.ofInt κ.bits b).toNat))
 | .xor=>k (.v (.int κ) (κ.wrap (BitVec.ofInt κ.bits a ^^^ BitVec.ofInt κ.bits b).toNat))
 | .andNot=>k (.v (.int κ) (κ.wrap (BitVec.ofInt κ.bits a &&& ~~~BitVec.ofInt κ.bits b).toNat))
 | .eql=>k (.v .bool (a==b))
 | .neq=>k (.v .bool (a !=b))
 | .lss=>k (.v .bool (decide (a<b)))
 | .leq=>k (.v .bool (decide (a<=b)))
 | .gtr=>k (.v .bool (decide (a>b)))
 | .geq=>k (.v .bool (decide (a>=b)))
 |_=>none
def bj(op:BinOp)(κ:IntKind)(a b:Int)(k:AV->Option Y):Option Y:=
 if b<0 then none else
 match op with
 | .shl=>k (.v (.int κ) (κ.wrap (a*2^min b.toNat κ.bits)))
 | .shr=>k (.v (.int κ) (a.fdiv (2^min b.toNat κ.bits)))
 |_=>none
def mj(op:BinOp)(a b:ABF)(k:AV->Option Y):Option Y:=
 match op with
 | .add=>if a.length+b.length<=CN then k (.v .str (a++b))else none
 | .eql=>k (.v .bool (a==b))
 | .neq=>k (.v .bool (!(a==b)))
 | .lss=>k (.v .bool (Op.bytesLess a b))
 | .leq=>k (.v .bool (Op.bytesLess a b||a==b))
 | .gtr=>k (.v .bool (!(Op.bytesLess a b||a==b)))
 | .geq=>k (.v .bool (!Op.bytesLess a b))
 |_=>none
def uw:TD->AV->AV->Option Bool
 | .int _,.v (.int j) a,.v (.int k) b=>if j=k then some (a==b)else none
 | .bool,.v .bool a,.v .bool b=>some (a==b)
 | .str,.v .str a,.v .str b=>some (a==b)
 |_,_,_=>none
def Lc(T:Jr):Nat->List AEG->List AV->List AV->Option Bool
 |_,[],[],[]=>some true
 |i,(o,t)::fs,x::l,z::m=>
  if o=i then
   match T.get t with
   |some ti=>match uw ti.desc x z with
    |some p=>(Lc T (i+1) fs l m).map fun r=>p&&r
    |none=>none
   |none=>none
  else none
 |_,_,_,_=>none
def Jr.fields(T:Jr)(t:Nat):Option (List AEG):=
 match(T.get t).map TI.desc with
 |some (.st fs)=>some fs
 |_=>none
def ABM(T:Jr)(t:Nat)(op:BinOp)(a b:XV)(k:AV->Option Y):Option Y:=
 match a,b with
 | .c (.v (.int j) x),.c (.v (.int j') y)=>
  match op with
  | .shl| .shr=>bj op j x y k
  |_=>if j=j' then jl op j x y k else none
 | .c (.v .str x),.c (.v .str y)=>mj op x y k
 | .c (.v .bool x),.c (.v .bool y)=>
  match T.get t with
  |some ti=>match ti.desc with
   | .bool=>match op with
    | .eql=>k (.v .bool (x==y))
    | .neq=>k (.v .bool (!(x==y)))
    |_=>none
   |_=>none
  |none=>none
 | .agg l,.agg m=>
  match op,(T.fields t).bind fun fs=>Lc T 0 fs l m with
  | .eql,some r=>k (.v .bool r)
  | .neq,some r=>k (.v .bool (!r))
  |_,_=>none
 |_,_=>none
def unX(op:UnOp)(a:XV)(k:AV->Option Y):Option Y:=
 match op,a with
 | .not,.c (.v .bool x)=>k (.v .bool (!x))
 | .neg,.c (.v (.int j) x)=>k (.v (.int j) (j.wrap (0-x)))
 |_,_=>none
def AD2(d b:Nat)(p:List Yu)(s:Yu):((t:Ty)×t.D)->AV
 |⟨.sl r,x⟩=>if d<=1 then .sl true r x else .ref b (p++[s])
 |⟨t,x⟩=>if t.scalar then .v t x else .undef
def AC_(s:Bool):((t:Ty)×t.D)->AV
 |⟨.sl r,x⟩=> .sl s r x
 |⟨t,x⟩=>if t.scalar then .v t x else .undef
def ig(f:Nat->Option AV):Nat->Nat->Option (List AV)
 |_,0=>some []
 |j,n+1=>(f j).bind fun x=>(ig f (j+1) n).map fun l=>x::l
def Ju(bx:List Bx):AV->Nat->Option AV
 | .Ir b j,i=>
  match bx[b]? with
  |some (.mem cs)=>cs[j+i]?
  |_=>none
 | .J5 b p r sz j,i=>
  match bx[b]? with
  |some (.sl d q rows)=>if p.length<d then(G8 q rows p).bind fun s=>if sz=s.1.n then(BV s.1 (j+i) (rowAt s.1 s.2 r)).map (AD2 (d-p.length) b p ⟨r,sz,j+i⟩)else none else none
  |_=>none
 | .Qf s r x j,i=>(BV r (j+i) x).map (AC_ s)
 |_,_=>none
def pv(T:Jr)(t:Nat)(σ:St)(a:XV):Option XV:=
 match a,T.get t with
 | .c a,some ti=>if ti.size=0 then none else if ti.desc.agg then(ig (Ju σ.bx a) 0 ti.size).map .agg else(Ju σ.bx a 0).map .c
 |_,_=>none
def ga(d:Nat)(t:Ty)(x:AV)(bx:List Bx):Option (t.D×List Bx×Nat):=
 match x with
 | .v u y=>(SL (β:=Ty.D) u t y).map fun y=>(y,bx,d)
 | .nil=>match t with
  | .sl _=>some ([],bx,d)
  |_=>none
 | .sl true r y=>match t with
  | .sl q=>(SL (β:=fun r=>List r.D) r q y).map fun y=>(y,bx,1)
  |_=>none
 | .ref b []=>match t with
  | .sl q=>
   match bx[b]? with
   |some (.sl d' r y)=>(SL (β:=fun r=>List r.D) r q y).map fun y=>(y,bx.set b .dead,min d (d'+1))
   |_=>none
  |_=>none
 | .win b [] off n=>match t with
  | .sl q=>
   match bx[b]? with
   |some (.sl d' r y)=>(SL (β:=fun r=>List r.D) r q ((y.drop off).take n)).map fun y=>(y,bx.set b .dead,min d (d'+1))
   |_=>none
  |_=>none
 |_=>none
def cellsIn(d:Nat):(r:Ty)->List AV->List Bx->Option (r.D×List Bx×Nat)
 | .unit,[],bx=>some ((),bx,d)
 | .cons c r,x::l,bx=>(ga d c x bx).bind fun a=>(cellsIn a.2.2 r l a.2.1).map fun b=>((a.1,b.1),b.2)
 |_,_,_=>none
def AHs(d:Nat)(r:Ty)(x:XV)(bx:List Bx):Option (r.D×List Bx×Nat):=
 match x with
 | .agg l=>cellsIn d r l bx
 | .c x=>ga d r x bx
 |_=>none
def KI(b:Nat):AV->AV
 | .ref b' (s::p)=>if b' =b then .undef else .ref b' (s::p)
 | .win b' (s::p) i n=>if b' =b then .undef else .win b' (s::p) i n
 | .J5 b' (s::p) i sz j=>if b' =b then .undef else .J5 b' (s::p) i sz j
 |x=>x
def yo(b:Nat):XV->XV
 | .c x=> .c (KI b x)
 | .agg l=> .agg (l.map (KI b))
 | .L8 l=> .L8 (l.map fun| .inl x=> .inl (KI b x)| .inr q=> .inr (q.map (KI b)))
def AEX(b:Nat):Bx->Bx
 | .mem cs=> .mem (cs.map (KI b))
 |x=>x
def St.AEC(b:Nat)(σ:St):St:={ tm:=σ.tm.map (yo b),bx:=σ.bx.map (AEX b) }
def Zb(cs:List AV):Nat->List AV->Option (List AV)
 |_,[]=>some cs
 |j,x::l=>if j<cs.length then Zb (cs.set j x) (j+1) l else none
def uO(d:Nat)(r:Ty)(old:r.D)(j:Nat)(x:XV)(bx:List Bx):Option (r.D×List Bx×Nat):=
 match x with
 | .agg l=>if j=0 then cellsIn d r l bx else none
 | .c x=>
  match BV r j old with
  |some ⟨t,_⟩=>(ga d t x bx).bind fun a=>(D6 r j old t a.1).map fun row=>(row,a.2)
  |none=>none
 |_=>none
def XV.plain:XV->Bool
 | .c (.v _ _)=>true
 |_=>false
def kF(σ:St)(a:XV)(x:XV):Option St:=
 match a with
 | .c (.Ir b j)=>
  match σ.bx[b]? with
  |some (.mem cs)=>(Zb cs j x.cells).map fun cs=>{ σ with bx:=σ.bx.set b (.mem cs) }
  |_=>none
 | .c (.J5 b p i sz j)=>
  match σ.bx[b]? with
  |some (.sl d r rows)=>if p.length<d then
   (G8 r rows p).bind fun s=>if sz=s.1.n then(uO (d-p.length) s.1 (rowAt s.1 s.2 i) j x (σ.bx.set b .dead)).bind fun w=>
    (uD r rows p s.1 (s.2.set i w.1)).map fun rows=>
     let σ':St:={ σ with bx:=w.2.1.set b (.sl (w.2.2+p.length) r rows) }
     if x.plain then σ' else σ'.AEC b
    else none
   else none
  |_=>none
 |_=>none
def dj(σ:St)(a x:XV):Option (St×XV):=
 match a,x with
 | .c (.J5 b _ _ _ _),.c (.win b' (s::p') off n)=>
  if b' =b then
   match σ.bx[b]? with
   |some (.sl d r rows)=>(G8 r rows (s::p')).map fun q=>({ σ with bx:=σ.bx.set b (.sl (min d (p'.length+1)) r rows) },.c (.sl true q.1 ((q.2.drop off).take n)))
   |_=>none
  else none
 |_,_=>some (σ,x)
def MQ(σ:St)(a x:XV):Option St:=(dj σ a x).bind fun q=>kF q.1 a q.2
def r8(bx:List Bx)(x:AV):Option ((r:Ty)×(List r.D×List Bx×Nat)):=
 match x with
 | .v .str s=>some ⟨.int .u8,s.map (fun c=>(c.toNat:Int)),bx,9⟩
 | .sl s r rows=>if r.flat then some ⟨r,rows,bx,9⟩else if s then some ⟨r,rows,bx,1⟩else none
 | .ref b []=>
  match bx[b]? with
  |some (.sl d r rows)=>if r.flat then some ⟨r,rows,bx,9⟩else some ⟨r,rows,bx.set b .dead,d⟩
  |_=>none
 | .ref b p=>
  match bx[b]? with
  |some (.sl _ r rows)=>(G8 r rows p).bind fun q=>if q.1.flat then some ⟨q.1,q.2,bx,9⟩else none
  |_=>none
 | .win b p off n=>
  match bx[b]? with
  |some (.sl _ r rows)=>(G8 r rows p).bind fun q=>if q.1.flat then some ⟨q.1,(q.2.drop off).take n,bx,9⟩else none
  |_=>none
 |_=>none
def r9(bx:List Bx)(x:AV):Option ((r:Ty)×(List r.D×List Bx×Nat)):=
 match x with
 | .ref b []=>
  match bx[b]? with
  |some (.sl d r rows)=>some ⟨r,rows,bx.set b .dead,d⟩
  |_=>none
 | .win b [] off n=>
  match bx[b]? with
  |some (.sl d r rows)=>some ⟨r,(rows.drop off).take n,bx.set b .dead,d⟩
  |_=>none
 |_=>none
def Jr.elem(T:Jr)(t:Nat):Option TI:=
 match(T.get t).map TI.desc with
 |some (.sl e)=>T.get e
 |_=>none
def Jr.N5(T:Jr)(t:Nat)(r:Ty):Bool:=
 match T.elem t with
 |some ti=>decide (ti.size=r.n)&&decide (ti.bytes<=512)&&decide (ti.row=some r)
 |none=>false
def Jr.isStr(T:Jr)(t:Nat):Bool:=
 match(T.get t).map TI.desc with
 |some .str=>true
 |_=>false
def Jr.AKv(T:Jr)(t:Nat):Bool:=
 match(T.get t).map TI.desc with
 |some (.sl _)=>true
 |_=>false
def iy(T:Jr)(ts:Array TypeId)(σ:St)(a x:XV)(k:K Y):Option Y:=
 match ts[0]?,ts[1]? with
 |some t,some u=>
  if T.AKv u||T.isStr u then
   match a,x with
   | .c .nil,.c y=>
    (r8 σ.bx y).bind fun s=>if T.N5 t s.1 then
     if s.2.1.length<=CN then k (.c (.ref s.2.2.1.length [])) { σ with bx:=s.2.2.1++[.sl s.2.2.2 s.1 s.2.1] }else none
     else none
   | .c a,.c y=>
    (r9 σ.bx a).bind fun d=>if T.N5 t d.1 then(r8 d.2.2.1 y).bind fun s=>
     (SL (β:=fun r=>List r.D) s.1 d.1 s.2.1).bind fun rows=>
      if d.2.1.length+rows.length<=CN then
       k (.c (.ref s.2.2.1.length [])) { σ with bx:=s.2.2.1++[.sl (min d.2.2.2 s.2.2.2) d.1 (d.2.1++rows)] }
      else none
     else none
   |_,_=>none
  else none
 |_,_=>none
def nv(T:Jr)(ts:Array TypeId)(σ:St)(x:XV)(k:K Y):Option Y:=
 match ts[0]?,x with
 |some t,.c (.win b [] off n)=>
  match σ.bx[b]? with
  |some (.sl d r rows)=>if T.N5 t r&&(r.flat&&decide (0<r.n))then k (.c .undef) { σ with bx:=σ.bx.set b (.sl d r ((rows.take off++List.replicate n r.z)++rows.drop (off+n))) }else none
  |_=>none
 |_,_=>none
def gj:XV->Option Int
 | .c (.v (.int _) n)=>some n
 |_=>none
def Pj(len:Nat)(lo hi:Option XV)(k:Nat->Nat->Option Y):Option Y:=
 let h:Option Int:=match hi with
  |none=>some (len:Int)
  |some x=>gj x
 let l:Option Int:=match lo with
  |none=>some 0
  |some x=>gj x
 match l,h with
 |some l,some h=>if 0<=l/\l<=h/\h<=(len:Int)then k l.toNat h.toNat else none
 |_,_=>none
def nV(T:Jr)(t:Nat)(σ:St)(x:XV)(lo hi:Option XV)(k:K Y):Option Y:=
 match x with
 | .c (.v .str s)=>if T.isStr t then Pj s.length lo hi fun l h=>k (.c (.v .str ((s.drop l).take (h-l)))) σ else none
 | .c (.sl s r rows)=>if T.N5 t r then Pj rows.length lo hi fun l h=>k (.c (.sl s r ((rows.drop l).take (h-l)))) σ else none
 | .c (.ref b p)=>
  match N6 σ.bx (.ref b p)with
  |some q=>if T.N5 t q.1 then Pj q.2.length lo hi fun l h=>k (.c (.win b p l (h-l))) σ else none
  |none=>none
 |_=>none
def oN(σ:St)(T:Jr)(t:Nat)(x i:XV)(k:K Y):Option Y:=
 match x,gj i with
 | .c (.sl s r rows),some i=>if T.N5 t r then(if 0<=i/\i<(rows.length:Int)then k (.c (.Qf s r (rowAt r rows i.toNat) 0)) σ else none)else none
 | .c (.ref b p),some i=>
  match N6 σ.bx (.ref b p)with
  |some q=>if T.N5 t q.1 then(if 0<=i/\i<(q.2.length:Int)then k (.c (.J5 b p i.toNat q.1.n 0)) σ else none)else none
  |none=>none
 | .c (.win b p off n),some i=>
  match N6 σ.bx (.ref b p)with
  |some q=>if T.N5 t q.1 then(if 0<=i/\i<(n:Int)then k (.c (.J5 b p (off+i.toNat) q.1.n 0)) σ else none)else none
  |none=>none
 |_,_=>none
def yB(T:Jr)(t:Nat)(x:XV)(f:Nat):Option XV:=
 match T.get t with
 |some ⟨_,_,.st fs,_⟩=>
  match fs[f]? with
  |some (o,_)=>match x with
   | .c (.Ir b j)=>some (.c (.Ir b (j+o)))
   | .c (.J5 b p i sz j)=>some (.c (.J5 b p i sz (j+o)))
   | .c (.Qf s r y j)=>some (.c (.Qf s r y (j+o)))
   |_=>none
  |none=>none
 |_=>none
def AIr(T:Jr)(t:Nat)(x:XV)(f:Nat):Option XV:=
 match T.get t,x with
 |some ⟨_,_,.st fs,_⟩,.agg l=>
  match fs[f]? with
  |some (o,u)=>
   match T.get u with
   |some ti=>if ti.desc.agg then some (.agg ((l.drop o).take ti.size))else(l[o]?).map .c
   |none=>none
  |none=>none
 |_,_=>none
def xr(T:Jr)(src dst:Nat)(σ:St)(x:XV)(k:K Y):Option Y:=
 match(T.get src).map TI.desc,(T.get dst).map TI.desc,x with
 |some (.int _),some (.int κ),.c (.v (.int _) n)=>k (.c (.v (.int κ) (κ.wrap n))) σ
 |some .str,some .str,.c (.v .str s)=>k (.c (.v .str s)) σ
 |some .str,some (.sl e),.c (.v .str s)=>
  match(T.get e).map TI.desc with
  |some (.int .u8)=>if s.length<=CN then k (.c (.ref σ.bx.length [])) (σ.new (.sl 9 (.int .u8) (s.map fun c=>(c.toNat:Int))))else none
  |_=>none
 |some (.sl e),some .str,.c x=>
  match(T.get e).map TI.desc,Ng σ.bx (.sl (.int .u8)) x with
  |some (.int .u8),some l=>k (.c (.v .str (l.map fun n:Int=>UInt8.ofNat n.toNat))) σ
  |_,_=>none
 |_,_,_=>none
def xU(T:Jr)(t:Nat)(σ:St)(l c:XV)(k:K Y):Option Y:=
 match(T.get t).map TI.desc,gj l,gj c with
 |some (.sl e),some n,some m=>
  match Jr.mJ T e with
  |some r=>if T.N5 t r then(if 0<=n/\n<=m/\m<=(CN:Int)then k (.c (.ref σ.bx.length [])) (σ.new (.sl 9 r (List.replicate n.toNat r.z)))else none)else none
  |none=>none
 |_,_,_=>none
def kN(T:Jr)(fs:List AEG):List AV->List (Nat×XV)->Option (List AV)
 |cs,[]=>some cs
 |cs,(i,x)::l=>
  match fs[i]? with
  |some (o,u)=>
   match T.get u with
   |some ti=>if x.cells.length=ti.size/\ti.size≠0/\x.cells.all AV.known=true then(Zb cs o x.cells).bind fun cs=>kN T fs cs l else none
   |none=>none
  |none=>none
def bM(r:Ty):Nat->Nat->List (Nat×XV)->List Bx->Nat->Option (List r.D×List Bx×Nat)
 |_,0,[],bx,d=>some ([],bx,d)
 |i,n+1,(j,x)::l,bx,d=>
  if i=j then(AHs d r x bx).bind fun a=>(bM r (i+1) n l a.2.1 a.2.2).map fun b=>(a.1::b.1,b.2)else none
 |i,n+1,[],bx,d=>(bM r (i+1) n [] bx d).map fun b=>(r.z::b.1,b.2)
 |_,0,_::_,_,_=>none
def Sr(T:Jr)(t n:Nat)(parts:List (Nat×XV))(σ:St)(k:K Y):Option Y:=
 match(T.get t).map TI.desc with
 |some (.sl e)=>
  match Jr.mJ T e with
  |some r=>if T.N5 t r&&decide (n<=1024)&&decide (r.n<=1024)then(bM r 0 n parts σ.bx 9).bind fun a=>k (.c (.ref a.2.1.length [])) { σ with bx:=a.2.1++[.sl a.2.2 r a.1] }else none
  |none=>none
 |_=>none
def Yv(T:Jr)(t:Nat)(σ:St)(x i:XV)(k:K Y):Option Y:=
 match x,gj i with
 | .c (.v .str s),some i=>if T.isStr t then if 0<=i/\i<(s.length:Int)then k (.c (.v (.int .u8) ((s.getD i.toNat 0).toNat:Int))) σ else none else none
 |_,_=>none
def t_(x:XV)(i:Nat):Option XV:=
 match x with
 | .L8 l=>match l[i]? with
  |some (.inl a)=>some (.c a)
  |some (.inr q)=>some (.agg q)
  |none=>none
 |_=>none
def Gp(m:Qr):AV->AV
 | .ref b (s::p)=>if m.contains (some b)then .undef else .ref b (s::p)
 | .win b (s::p) i n=>if m.contains (some b)then .undef else .win b (s::p) i n
 | .J5 b (s::p) i sz j=>if m.contains (some b)then .undef else .J5 b (s::p) i sz j
 |x=>x
def WV(m:Qr):XV->XV
 | .c x=> .c (Gp m x)
 | .agg l=> .agg (l.map (Gp m))
 | .L8 l=> .L8 (l.map fun| .inl x=> .inl (Gp m x)| .inr q=> .inr (q.map (Gp m)))
def AHN(m:Qr):Bx->Bx
 | .mem cs=> .mem (cs.map (Gp m))
 |x=>x
def St.cY(m:Qr)(σ:St):St:=
 match m with
 |[]=>σ
 |_::_=>{ tm:=σ.tm.map (WV m),bx:=σ.bx.map (AHN m) }
def ph(c:RU)(args:List XV)(σ:St)(k:K Y):Option Y:=
 if args.length=c.ins.D1.length then
  match c.ins.fit σ.bx.length c.ins.m0 args (c.ins.opens σ.bx)with
  |some (v,m)=>(c.g v).bind fun u=>
   let J6:=bN m (c.ins.opens σ.bx).length
   let σ1:=({ σ with bx:=c.ins.opens σ.bx }:St).cY m
   k (im c.outs.D1 u.1 J6) { σ1 with bx:=dm J6 0 c.outs.GV u.2 (Cy σ1.bx m) }
  |none=>none
 else none
def eU(σ:St)(x:XV)(k:K Y):Option Y:=
 match x with
 | .c (.win b [] off n)=>
  (r9 σ.bx (.win b [] off n)).bind fun s=>k (.c (.ref s.2.2.1.length [])) { σ with bx:=s.2.2.1++[.sl s.2.2.2 s.1 s.2.1] }
 |x=>k x σ
def zo(l:List XV):Option ABy:=
 match l with
 |[]=>some []
 | .c (.Ir b 0)::l=>(zo l).map fun r=>b::r
 |_=>none
def zH(big:Bool)(a b:XV)(k:AV->Option Y):Option Y:=
 match a,b with
 | .c (.v (.int j) x),.c (.v (.int j') y)=>
  if j=j' then(if big then k (.v (.int j) (if y>x then y else x))else k (.v (.int j) (if y<x then y else x)))else none
 |_,_=>none
def Z6(T:Jr)(Γ:Nat->Option RU)(o:Oper)(σ:St)(k:K Y):Option Y:=
 match o.op with
 | .move x=>k (σ.ev x) σ
 | .assign x=>eU σ (σ.ev x) k
 | .pick c a b=>match σ.ev c with
  | .c (.v .bool x)=>AGG x (σ.ev a) (σ.ev b) σ k
  |_=>none
 | .alloc t=>match Jr.mJ T t with
  |some r=>k (.c (.Ir σ.bx.length 0)) (σ.new (.mem (eL r)))
  |none=>none
 | .box t x=>match T.get t with
  |some ti=>if(σ.ev x).cells.length=ti.size/\ti.size≠0/\(σ.ev x).cells.all AV.known=true then k (.c (.Ir σ.bx.length 0)) (σ.new (.mem (σ.ev x).cells))else none
  |none=>none
 | .build t parts=>match T.get t,Jr.mJ T t with
  |some ⟨_,_,.st fs,_⟩,some r=>match kN T fs (eL r) (parts.toList.map fun q=>(q.1,σ.ev q.2))with
   |some cs=>k (.agg cs) σ
   |none=>none
  |_,_=>none
 | .buildSlice t n parts=>Sr T t n (parts.toList.map fun q=>(q.1,σ.ev q.2)) σ k
 | .load t a=>match pv T t σ (σ.ev a)with
  |some x=>k x σ
  |none=>none
 | .store t a x=>match T.get t with
  |some ti=>if(σ.ev x).cells.length=ti.size/\ti.size≠0/\(σ.ev x).cells.all AV.known=true then(match MQ σ (σ.ev a) (σ.ev x)with
   |some σ=>k (.c .undef) σ
   |none=>none)else none
  |none=>none
 | .nilCheck x=>match σ.ev x with
  | .c (.Ir b j)=>k (.c (.Ir b j)) σ
  | .c (.J5 b p i sz j)=>k (.c (.J5 b p i sz j)) σ
  | .c (.Qf s r y j)=>k (.c (.Qf s r y j)) σ
  | .c (.fn f K4)=>k (.c (.fn f K4)) σ
  |_=>none
 | .binOp op t x y _=>ABM T t op (σ.ev x) (σ.ev y) fun a=>k (.c a) σ
 | .unOp op _ x=>unX op (σ.ev x) fun a=>k (.c a) σ
 | .convert s d x=>xr T s d σ (σ.ev x) k
 | .makeFunc (.func f) first K4=>if first.size=0 then(match zo (K4.toList.map σ.ev)with
  |some bs=>k (.c (.fn f bs)) σ
  |none=>none)else none
 | .makeSlice t l c=>xU T t σ (σ.ev l) (σ.ev c) k
 | .slice t x lo hi none=>nV T t σ (σ.ev x) (lo.map σ.ev) (hi.map σ.ev) k
 | .fieldAddr t x f=>match yB T t (σ.ev x) f with
  |some y=>k y σ
  |none=>none
 | .field t x f=>match AIr T t (σ.ev x) f with
  |some y=>k y σ
  |none=>none
 | .indexAddr t x i=>oN σ T t (σ.ev x) (σ.ev i) k
 | .index t x i=>Yv T t σ (σ.ev x) (σ.ev i) k
 | .extract x i=>match t_ (σ.ev x) i with
  |some y=>k y σ
  |none=>none
 | .call { callee:= .value f,args,.. }=>match σ.ev f with
  | .c (.fn f K4)=>match Γ f with
   |some c=>ph c (args.toList.map σ.ev++K4.map fun b=> .c (.Ir b 0)) σ k
   |none=>none
  | .c (.vZ f rows)=>match Γ f with
   |some c=>ph c (args.toList.map σ.ev++rows.map fun q=> .c (.Qf false q.1 q.2 0)) σ k
   |none=>none
  |_=>none
 | .call { callee:= .builtin .len,args,argTypes }=>match args.toList.map σ.ev,argTypes[0]? with
  |[.c (.v .str s)],some t=>if T.isStr t then k (.c (.v (.int .i64) (s.length:Int))) σ else none
  |[.c x],some t=>if T.AKv t then(match lenOf σ.bx x with
   |some n=>k (.c (.v (.int .i64) (n:Int))) σ
   |none=>none)else none
  |_,_=>none
 | .call { callee:= .builtin .append,args,argTypes }=>match args.toList.map σ.ev with
  |[a,x]=>iy T argTypes σ a x k
  |_=>none
 | .call { callee:= .builtin .clear,args,argTypes }=>match args.toList.map σ.ev with
  |[x]=>nv T argTypes σ x k
  |_=>none
 | .call { callee:= .builtin .max,args,.. }=>match args.toList.map σ.ev with
  |[a,x]=>zH true a x fun a=>k (.c a) σ
  |_=>none
 | .call { callee:= .builtin .min,args,.. }=>match args.toList.map σ.ev with
  |[a,x]=>zH false a x fun a=>k (.c a) σ
  |_=>none
 |_=>none
end ops
end Go.Fw
end
section
namespace Go.Fw
section
variable{Y:Type}
structure eD where
 T:Jr
 Γ:Nat->Option RU
 hint:Nat->List Nat
def ki(hint:ABy):XV->Bool
 | .c (.Ir b _)=>hint.contains b
 | .c (.J5 b _ _ _ _)=>hint.contains b
 | .c (.Qf _ _ _ _)=>true
 |_=>false
def ld(hint:ABy)(σ:St):Op->Bool
 | .assign x=>match σ.ev x with
  | .c (.win _ [] _ _)=>false
  |_=>true
 | .move _| .pick .. | .nilCheck _| .binOp .. | .unOp .. | .fieldAddr .. | .field .. | .indexAddr .. | .index .. | .extract .. | .build .. =>true
 | .slice _ _ _ _ none=>true
 | .load _ a=>ki hint (σ.ev a)
 | .call { callee:= .builtin .len,.. }=>true
 | .call { callee:= .builtin .max,.. }=>true
 | .call { callee:= .builtin .min,.. }=>true
 |_=>false
def Kz(Γ:Nat->Option RU)(σ:St):Op->List Nat
 | .store _ a _=>match σ.ev a with
  | .c (.Ir b _)=>[b]
  | .c (.J5 b _ _ _ _)=>[b]
  |_=>[]
 | .call { callee:= .value f,args,.. }=>match σ.ev f with
  | .c (.fn f K4)=>match Γ f with
   |some c=>match c.ins.fit σ.bx.length c.ins.m0 (args.toList.map σ.ev++K4.map fun b=> .c (.Ir b 0)) (c.ins.opens σ.bx)with
    |some (_,m)=>m.filterMap id
    |none=>[]
   |none=>[]
  | .c (.vZ f rows)=>match Γ f with
   |some c=>match c.ins.fit σ.bx.length c.ins.m0 (args.toList.map σ.ev++rows.map fun q=> .c (.Qf false q.1 q.2 0)) (c.ins.opens σ.bx)with
    |some (_,m)=>m.filterMap id
    |none=>[]
   |none=>[]
  |_=>[]
 | .call { callee:= .builtin .clear,args,.. }=>match args.toList.map σ.ev with
  |[.c (.win b _ _ _)]=>[b]
  |_=>[]
 |_=>[]
def tt:XV:= .c (.v .bool true)
def ff:XV:= .c (.v .bool false)
def AEP(C:eD)(ops:Array Oper)(o:Oper)(kn:St->Option Y)(σ:St):Option Y:=
 match o.guard with
 |none=>Z6 C.T C.Γ o σ fun x σ' =>kn (σ'.put o.dst x)
 |some (j,want)=>
  match(ops[j]?).bind (·.dst)with
  |some t=>
   match σ.tm[t]? with
   |some (.c (.v .bool b))=>
    let yes (σ:St):Option Y:=Z6 C.T C.Γ o σ fun x σ' =>kn (σ'.put o.dst x)
    let no (σ:St):Option Y:=kn (σ.put o.dst (.L8 []))
    cond b ((if want then yes else no) (σ.put (some t) tt)) ((if want then no else yes) (σ.put (some t) ff))
   |some (.L8 [])=>kn (σ.put o.dst (.L8 []))
   |_=>none
  |none=>none
def y7(C:eD)(all:Array Oper):List Oper->(St->Option Y)->St->Option Y
 |[],kn,σ=>kn σ
 |o::rest,kn,σ=>AEP C all o (fun σ' =>y7 C all rest kn σ') σ
def AEa(C:eD)(ops:Array Oper)(i:Nat)(kn:St->Option Y)(σ:St):Option Y:=
 match ops[i]? with
 |none=>none
 |some o=>AEP C ops o kn σ
def oC(bx:List Bx)(b:Nat):Bool:=
 match bx[b]? with
 |some .dead=>true
 |some _=>false
 |none=>true
def idle(ops:Array Oper)(σ:St)(o:Oper):Bool:=
 match o.guard with
 |none=>false
 |some (j,want)=>
  match(ops[j]?).bind (·.dst)with
  |some t=>
   match σ.tm[t]? with
   |some (.c (.v .bool b))=>b !=want
   |some (.L8 [])=>true
   |_=>false
  |none=>false
def uq(hint:ABy)(ops:Array Oper)(listed:Array Bool)(σ:St)(i:Nat):Bool:=
 match ops[i]? with
 |some o=>(ld hint σ o.op||idle ops σ o)&&Region.free .any ops listed i
 |none=>false
def yP(f:Nat->List Bool->Option Y):List Nat->List Bool->Option Y
 |[],_=>none
 |[i],ω=>f i ω
 |i::_::_,[]=>f i []
 |i::_::_,true::ω=>f i ω
 |_::j::r,false::ω=>yP f (j::r) ω
def WI(C:eD)(hint:ABy)(ops:Array Oper)(kn:List Bool->St->Option Y):Nat->Array Bool->List Bool->St->Option Y
 |fuel,listed,ω,σ=>
  if hint.all (fun b=> !oC σ.bx b)then
   match Region.ready .any ops listed with
   |[]=>kn ω σ
   |rs=>
    match fuel with
    |0=>none
    |fuel+1=>
     match rs.find? (uq hint ops listed σ)with
     |some i=>AEa C ops i (fun σ' =>WI C hint ops kn fuel (listed.setIfInBounds i true) ω σ') σ
     |none=>yP (fun i ω=>
      match ops[i]? with
      |some o=>if(Kz C.Γ σ o.op).all (fun b=> !hint.contains b)then AEa C ops i (fun σ' =>WI C hint ops kn fuel (listed.setIfInBounds i true) ω σ') σ else none
      |none=>none) rs ω
  else none
def first:Code->Nat
 | .region id _ _=>id
 | .seq a _=>first a
 | .cond _ a _=>first a
 | .block _ a=>first a
 | .loop a=>first a
 | .scope a=>first a
 |_=>0
abbrev KN(Y:Type):=List Bool->St->Option Y
def run(C:eD)(J:Nat->St->Option Y):Code->KN Y->(Nat->KN Y)->KN Y->KN Y
 | .skip,kn,_,_,ω,σ=>kn ω σ
 | .region id ops draw,kn,_,_,ω,σ=>
  if draw then(if Region.noSelect ops then WI C (C.hint id) ops kn ops.size (Array.replicate ops.size false) ω σ else none)else y7 C ops ops.toList (kn ω) σ
 | .seq a b,kn,kx,kr,ω,σ=>run C J a (fun ω σ=>run C J b kn kx kr ω σ) kx kr ω σ
 | .cond (.tmp t) a b,kn,kx,kr,ω,σ=>
  match σ.tm[t]? with
  |some (.c (.v .bool x))=>cond x (run C J a kn kx kr ω (σ.put (some t) tt)) (run C J b kn kx kr ω (σ.put (some t) ff))
  |_=>none
 | .block id body,kn,kx,kr,ω,σ=>run C J body kn (fun j ω σ=>if j=id then kn ω σ else kx j ω σ) kr ω σ
 | .loop body,_,_,_,_,σ=>J (first body) σ
 | .exit id,_,kx,_,ω,σ=>kx id ω σ
 | .ret,_,_,kr,ω,σ=>kr ω σ
 |_,_,_,_,_,_=>none
def find(C:eD)(J:Nat->St->Option Y)(ℓ :Nat):Code->KN Y->(Nat->KN Y)->KN Y->Option (KN Y)
 | .seq a b,kn,kx,kr=>
  match find C J ℓ a (fun ω σ=>run C J b kn kx kr ω σ) kx kr with
  |some f=>some f
  |none=>find C J ℓ b kn kx kr
 | .cond _ a b,kn,kx,kr=>
  match find C J ℓ a kn kx kr with
  |some f=>some f
  |none=>find C J ℓ b kn kx kr
 | .block id body,kn,kx,kr=>find C J ℓ body kn (fun j ω σ=>if j=id then kn ω σ else kx j ω σ) kr
 | .loop body,_,kx,kr=>
  if first body= ℓ then some (fun ω σ=>run C J body (fun _ σ=>J ℓ σ) kx kr ω σ)else find C J ℓ body (fun _ σ=>J (first body) σ) kx kr
 |_,_,_,_=>none
def AIk(T:Jr)(σ:St):ResultVar->Option XV
 | .tmp t=>σ.tm[t]?
 | .cell a t=>match σ.tm[a]? with
  |some x=>pv T t σ x
  |none=>none
def ABg:List XV->Option (List (AV ⊕ List AV))
 |[]=>some []
 | .c x::l=>(ABg l).map fun r=> .inl x::r
 | .agg q::l=>(ABg l).map fun r=> .inr q::r
 |_=>none
def mI(T:Jr)(σ:St)(rs:List ResultVar):Option XV:=
 match rs.mapM (AIk T σ)with
 |some [x]=>some x
 |some l=>(ABg l).map .L8
 |none=>none
def Vj:Nat->Nat->List BP->Qr
 |_,_,[]=>[]
 |i,n,p::l=>(match p with| .gone=>none|_=>if i<n then some i else none)::Vj (i+1) n l
def AV.vR(b:Nat)(r:Ty)(rows:List r.D):AV->AV
 | .ref k []=>if k=b then .sl true r rows else .ref k []
 |x=>x
def XV.vR(b:Nat)(r:Ty)(rows:List r.D):XV->XV
 | .c x=> .c (x.vR b r rows)
 |x=>x
def Bx.vR(b:Nat)(r:Ty)(rows:List r.D):Bx->Bx
 | .mem cs=> .mem (cs.map (AV.vR b r rows))
 |x=>x
def St.vR(b:Nat)(σ:St):St:=
 match σ.bx[b]? with
 |some (.sl _ r rows)=>{ tm:=σ.tm.map (XV.vR b r rows),bx:=(σ.bx.set b .dead).map (Bx.vR b r rows) }
 |_=>σ
def HN:List AP->List AV->St->St
 | .sl true _::l,.ref b []::xs,σ=>HN l xs (σ.vR b)
 |_::l,_::xs,σ=>HN l xs σ
 |_,_,σ=>σ
def fC:List (AP ⊕ List AP)->List (AV ⊕ List AV)->St->St
 | .inl p::l,.inl x::xs,σ=>fC l xs (HN [p] [x] σ)
 | .inr p::l,.inr x::xs,σ=>fC l xs (HN p x σ)
 |_::l,_::xs,σ=>fC l xs σ
 |_,_,σ=>σ
def AT1:XP->XV->St->St
 | .c p,.c x,σ=>HN [p] [x] σ
 | .agg l,.agg xs,σ=>HN l xs σ
 | .L8 l,.L8 xs,σ=>fC l xs σ
 |_,_,σ=>σ
def o3(l:List (Nat×XP))(x:XV)(σ:St):St:=
 match l with
 |(_,p)::_=>AT1 p x σ
 |[]=>σ
def wV(T:Jr)(c:RU)(rs:List ResultVar)(σ:St):Option c.outs.V:=
 (mI T σ rs).bind fun x=>
  let σ:=o3 c.outs.D1 x σ
  (mI T σ rs).bind fun x=>(c.outs.fit σ.bx.length (Vj 0 c.ins.GV.length c.outs.GV) [x] (c.outs.opens σ.bx)).map fun q=>q.1
def DO(C:eD)(c:RU)(fn:Func)(J:Nat->St->Option c.outs.V)(ω:List Bool)(v:c.ins.V):Option c.outs.V:=
 match fn.body with
 |some code=>run C J code (fun _=>wV C.T c fn.results.toList) (fun _ _ _=>none) (fun _=>wV C.T c fn.results.toList) ω (c.ins.st fn.ntmps v)
 |none=>none
def LM(C:eD)(c:RU)(fn:Func)(J:Nat->St->Option c.outs.V)(ℓ :Nat)(ω:List Bool)(σ:St):Option c.outs.V:=
 match fn.body with
 |some code=>
  match find C J ℓ code (fun _=>wV C.T c fn.results.toList) (fun _ _ _=>none) (fun _=>wV C.T c fn.results.toList)with
  |some f=>f ω σ
  |none=>none
 |none=>none
def Qz(bs:List BP):List (Nat×XP)->St->St
 |[],σ=>σ
 |(i,.c (.sl true r))::l,σ=>
  match σ.tm[i]? with
  |some (.c x)=>Qz bs l (HN [.sl true r] [x] σ)
  |_=>Qz bs l σ
 |(i,.c (.ptr k _))::l,σ=>
  match bs[k]?,σ.tm[i]? with
  |some (.mem ps),some (.c (.Ir b _))=>
   match σ.bx[b]? with
   |some (.mem cs)=>Qz bs l (HN ps cs σ)
   |_=>Qz bs l σ
  |_,_=>Qz bs l σ
 |_::l,σ=>Qz bs l σ
def AV.wu:AV->Bool
 | .ref _ _| .win _ _ _ _| .sl _ _ _| .nil=>true
 |_=>false
def St.forget(b j:Nat)(σ:St):St:=
 match σ.bx[b]? with
 |some (.mem cs)=>
  match cs[j]? with
  |some x=>if x.wu then{ σ with bx:=σ.bx.set b (.mem (cs.set j (.ref σ.bx.length [])))++[.dead] }else σ
  |none=>σ
 |_=>σ
def Zq(bs:List BP)(b:Nat):Nat->List AP->St->St
 |_,[],σ=>σ
 |j,p::l,σ=>Zq bs b (j+1) l (match p with
  | .ref q=>match bs[q]? with
   |some .gone=>σ.forget b j
   |_=>σ
  |_=>σ)
def ia(bs:List BP):List (Nat×XP)->St->St
 |[],σ=>σ
 |(i,p)::l,σ=>ia bs l (match p with
  | .c (.ptr k _)=>match bs[k]?,σ.tm[i]? with
   |some (.mem ps),some (.c (.Ir b _))=>Zq bs b 0 ps σ
   |_,_=>σ
  |_=>σ)
def jump(nb:Nat)(s:Bb)(f:s.V->Option Y)(σ:St):Option Y:=
 if nb<=s.GV.length then
  let σ:=ia s.GV s.D1 (Qz s.GV s.D1 σ)
  (s.fit σ.bx.length (Vj 0 nb s.GV) σ.tm (s.opens σ.bx)).bind fun q=>f q.1
 else none
end
end Go.Fw
end
section
namespace Go.Fw
def Bg(w:World)(b o:Nat)(cs:List Value):Prop:= ∀j v,cs[j]? =some v->w.cell? ⟨b,o+j,none⟩=some v
def Rd(w:World)(B:Nat->Prop):(t:Ty)->List Value->t.D->Prop
 | .int k,vs,x=>vs=[.int k x]
 | .bool,vs,x=>vs=[.bool x]
 | .str,vs,x=>vs=[.string ⟨x.toArray⟩]
 | .sl r,vs,x=> ∃a cap,vs=[.slice a (List.length x) cap]/\List.length x<=cap/\(List.length x=0\/ ∃b o,a=some ⟨b,o,none⟩/\B b/\
  ∀(i:Nat) (y:r.D),x[i]? =some y-> ∃cs,cs.length=r.n/\Bg w b (o+i*r.n) cs/\Rd w B r cs y)
 | .unit,vs,_=>vs=[]
 | .cons c r,vs,x=> ∃v l,vs=v::l/\Rd w B c [v] x.1/\Rd w B r l x.2
def AAX(fr:AEG)(n:Nat):Prop:= ∀i,i<n-> ¬(fr.1<=i/\i<fr.2)
def mk:Ty->Nat
 | .int .u8=>0
 |_=>1
def Ow(w:World)(S:Nat->Prop):(d:Nat)->(t:Ty)->List Value->t.D->List Nat->Prop
 |0,.sl r,vs,x,F=>Rd w S (.sl r) vs x/\F=[]
 |d+1,.sl r,vs,x,F=> ∃a cap,vs=[.slice a (List.length x) cap]/\List.length x<=cap/\
  ((
   cap=0/\F=[])\/ ∃b o arr ty fr Fs,a=some ⟨b,o,none⟩/\w.heap[b]? =some (.cells arr ty fr)/\o+cap*r.n<=arr.size/\AAX fr (arr.size+mk r)/\
   F=b::List.flatten Fs/\Fs.length=List.length x/\
   ∀(i:Nat) (y:r.D) (G:ABy),x[i]? =some y->Fs[i]? =some G-> ∃cs,cs.length=r.n/\Bg w b (o+i*r.n) cs/\Ow w S d r cs y G)
 |d,.cons c r,vs,x,F=> ∃v l F1 F2,vs=v::l/\F=F1++F2/\Ow w S d c [v] x.1 F1/\Ow w S d r l x.2 F2
 |_,.unit,vs,_,F=>vs=[]/\F=[]
 |_,.int k,vs,x,F=>vs=[.int k x]/\F=[]
 |_,.bool,vs,x,F=>vs=[.bool x]/\F=[]
 |_,.str,vs,x,F=>vs=[.string ⟨x.toArray⟩]/\F=[]
theorem oD{w B}:∀{t:Ty} {vs x},Rd w B t vs x->vs.length=t.n
 | .int _,_,_,h=>by simp only[Rd]at h;subst h;rfl
 | .bool,_,_,h=>by simp only[Rd]at h;subst h;rfl
 | .str,_,_,h=>by simp only[Rd]at h;subst h;rfl
 | .sl _,_,_,h=>by simp only[Rd]at h;obtain⟨_,_,h,_⟩:=h;subst h;rfl
 | .unit,_,_,h=>by simp only[Rd]at h;subst h;rfl
 | .cons _ _,_,_,h=>by
  simp only[Rd]at h;obtain⟨_,_,rfl,_,h⟩:=h;simp[Ty.n,oD h]
theorem ZB{w S}:∀{d} {t:Ty} {vs x F},Ow w S d t vs x F->vs.length=t.n
 |_,.int _,_,_,_,h=>by simp only[Ow]at h;rw[h.1];rfl
 |_,.bool,_,_,_,h=>by simp only[Ow]at h;rw[h.1];rfl
 |_,.str,_,_,_,h=>by simp only[Ow]at h;rw[h.1];rfl
 |0,.sl _,_,_,_,h=>by grind[Ow,oD]
 |_+1,.sl _,_,_,_,h=>by simp only[Ow]at h;obtain⟨_,_,h,_⟩:=h;subst h;rfl
 |_,.unit,_,_,_,h=>by simp only[Ow]at h;rw[h.1];rfl
 |_,.cons _ _,_,_,_,h=>by
  simp only[Ow]at h;obtain⟨_,_,_,_,rfl,_,_,h⟩:=h;simp[Ty.n,ZB h]
theorem Bg.of_block{w w':World}{b o:Nat}{cs:List Value}(h:Bg w b o cs)(hb:w'.heap[b]? =w.heap[b]?):Bg w' b o cs:=
 fun j v hj=>(World.cell?_of_block (a:=⟨b,o+j,none⟩) hb).trans (h j v hj)
theorem Fz{w w':World}{B B':Nat->Prop}(hB:∀b,B b->B' b)(hw:∀b,B b->w'.heap[b]? =w.heap[b]?):∀{t:Ty} {vs x},Rd w B t vs x->Rd w' B' t vs x
 | .int _,_,_,h=>by grind[Rd]
 | .bool,_,_,h=>by grind[Rd]
 | .str,_,_,h=>by grind[Rd]
 | .unit,_,_,h=>by grind[Rd]
 | .sl r,_,_,h=>by
  simp only[Rd]at h|-;obtain⟨a,cap,h1,h2,h3⟩:=h;refine⟨a,cap,h1,h2,h3.imp id ?_⟩
  rintro⟨b,o,ha,hb,h⟩
  refine⟨b,o,ha,hB b hb,fun i y hy=> ?_⟩;obtain⟨cs,hl,hc,hr⟩:=h i y hy;exact⟨cs,hl,hc.of_block (hw b hb),Fz hB hw hr⟩
 | .cons _ _,_,_,h=>by
  simp only[Rd]at h|-;obtain⟨v,l,h1,h2,h3⟩:=h;exact⟨v,l,h1,Fz hB hw h2,Fz hB hw h3⟩
theorem EV{w w':World}{S S':Nat->Prop}(hS:∀b,S b->S' b)(hw:∀b,S b->w'.heap[b]? =w.heap[b]?):
  ∀{d} {t:Ty} {vs x F},(∀b∈F,w'.heap[b]? =w.heap[b]?)->Ow w S d t vs x F->Ow w' S' d t vs x F
 |_,.int _,_,_,_,_,h=>by grind[Ow]
 |_,.bool,_,_,_,_,h=>by grind[Ow]
 |_,.str,_,_,_,_,h=>by grind[Ow]
 |_,.unit,_,_,_,_,h=>by grind[Ow]
 |0,.sl r,_,_,_,_,h=>by
  grind[Ow,Fz]
 |d+1,.sl r,_,x,F,hF,h=>by
  simp only[Ow]at h|-;obtain⟨a,cap,h1,h2,h3⟩:=h;refine⟨a,cap,h1,h2,h3.imp id ?_⟩
  rintro⟨b,o,arr,ty,fr,Fs,ha,hb,h4,h5,h6,h7,h⟩
  subst h6;have hbb:=hF b (by simp);refine⟨b,o,arr,ty,fr,Fs,ha,hbb.trans hb,h4,h5,rfl,h7,fun i y G hy hG=> ?_⟩;obtain⟨cs,hl,hc,hr⟩:=h i y G hy hG;refine⟨cs,hl,hc.of_block hbb,EV hS hw (fun c hc=>hF c ?_) hr⟩;grind[List.mem_cons_of_mem,List.mem_flatten,List.mem_of_getElem?]
 |_,.cons _ _,_,_,_,hF,h=>by
  simp only[Ow]at h|-;obtain⟨v,l,F1,F2,h1,h2,h3,h4⟩:=h;subst h2;exact⟨v,l,F1,F2,h1,rfl,EV hS hw (fun c hc=>hF c (by simp[hc])) h3,EV hS hw (fun c hc=>hF c (by simp[hc])) h4⟩
theorem ZY{w:World}{S:Nat->Prop}:∀{d} {t:Ty} {vs x F},Ow w S d t vs x F->Rd w (fun b=>S b\/b∈F) t vs x
 |_,.int _,_,_,_,h=>by grind[Ow,Rd]
 |_,.bool,_,_,_,h=>by grind[Ow,Rd]
 |_,.str,_,_,_,h=>by grind[Ow,Rd]
 |_,.unit,_,_,_,h=>by grind[Ow,Rd]
 |0,.sl r,_,_,_,h=>by
  simp only[Ow]at h;simp_all
 |d+1,.sl r,_,x,F,h=>by
  simp only[Ow]at h;simp only[Rd];obtain⟨a,cap,h1,h2,h3⟩:=h;refine⟨a,cap,h1,h2,?_⟩;rcases h3 with⟨hc,_⟩|⟨b,o,arr,ty,fr,Fs,ha,hb,h4,h5,h6,h7,h⟩
  ·omega
  ·refine .inr ⟨b,o,ha,.inr (by simp[h6]),fun i y hy=> ?_⟩
   have hi:i<Fs.length:=by
    grind
   obtain⟨cs,hl,hc,hr⟩:=h i y Fs[i] hy (AKT hi);refine⟨cs,hl,hc,Fz ?_ (fun _ _=>rfl) (ZY hr)⟩;grind[List.mem_cons_of_mem,List.mem_flatten,List.getElem_mem]
 |_,.cons _ _,_,_,_,h=>by
  simp only[Ow]at h;simp only[Rd];obtain⟨v,l,F1,F2,h1,h2,h3,h4⟩:=h;subst h2;refine⟨v,l,h1,Fz ?_ (fun _ _=>rfl) (ZY h3),Fz ?_ (fun _ _=>rfl) (ZY h4)⟩
  all_goals grind
theorem Kf{w:World}{S:Nat->Prop}:∀{d d'} {t:Ty} {vs x F},d<=d'->Ow w S d' t vs x F->
  ∃F1 F2,F.Perm (F1++F2)/\Ow w (fun b=>S b\/b∈F2) d t vs x F1
 |_,_,.int _,_,_,_,_,h=>by simp only[Ow]at h|-;simp_all
 |_,_,.bool,_,_,_,_,h=>by simp only[Ow]at h|-;simp_all
 |_,_,.str,_,_,_,_,h=>by simp only[Ow]at h|-;simp_all
 |_,_,.unit,_,_,_,_,h=>by simp only[Ow]at h|-;simp_all
 |0,d',.sl r,_,x,F,_,h=>by
  refine⟨[],F,by simp,?_⟩;simp only[Ow];exact⟨ZY h,trivial⟩
 |d+1,0,.sl r,_,x,F,hd,h=>by omega
 |d+1,d'+1,.sl r,_,x,F,hd,h=>by
  simp only[Ow]at h|-;obtain⟨a,cap,h1,h2,h3⟩:=h;rcases h3 with⟨hc,hF⟩|⟨b,o,arr,ty,fr,Fs,ha,hb,h4,h5,h6,h7,h⟩
  ·simp_all
  ·have key:∀(n:Nat) (Fs:List ABy) (y:List r.D),Fs.length=n->y.length=n->(∀(i:Nat) (z:r.D) (G:ABy),y[i]? =some z->Fs[i]? =some G-> ∃cs,cs.length=r.n/\Bg w b (o+i*r.n) cs/\Ow w S d' r cs z G)->
     ∃(Gs:List ABy) (F2:ABy),Fs.flatten.Perm (Gs.flatten++F2)/\Gs.length=n/\ ∀(i:Nat) (z:r.D) (G:ABy),y[i]? =some z->Gs[i]? =some G-> ∃cs,cs.length=r.n/\Bg w b (o+i*r.n) cs/\Ow w (fun b=>S b\/b∈F2) d r cs z G:=by
    intro n
    induction n with
    |zero=>
     simp_all
    |succ n ih=>
     intro Fs y hF hy hh;obtain⟨Fs',G0,rfl⟩:∃l a,Fs=l++[a]:=⟨Fs.dropLast,Fs.getLast (by grind),(List.dropLast_concat_getLast _).symm⟩;obtain⟨y',z0,rfl⟩:∃l a,y=l++[a]:=⟨y.dropLast,y.getLast (by grind),(List.dropLast_concat_getLast _).symm⟩;simp only[AMf,AMK,APb]at hF hy;obtain⟨Gs,F2,hp,hl,hg⟩:=ih Fs' y' (by omega) (by omega) (fun i z G hz hG=>hh i z G
      (by grind) (by grind))
     obtain⟨cs,qN,hc,ho⟩:=hh n z0 G0 (by simp_all) (by simp_all);obtain⟨H1,H2,hhp,hho⟩:=Kf (d:=d) (d':=d') (by omega) ho;refine⟨Gs++[H1],F2++H2,?_,by simp[hl],?_⟩
     ·grind
     ·intro i z G hz hG
      by_cases hi:i<n
      ·rw[AMB (by omega)]at hz hG
       obtain⟨cs,e1,e2,e3⟩:=hg i z G hz hG;exact⟨cs,e1,e2,EV (by grind) (fun _ _=>rfl) (fun _ _=>rfl) e3⟩
      ·have:i=n:=by
        grind
       subst this;rw[AMM (by omega)]at hz hG;simp[show i-y'.length=0 by omega,show i-Gs.length=0 by omega]at hz hG;subst hz hG;exact⟨cs,qN,hc,EV (by grind) (fun _ _=>rfl) (fun _ _=>rfl) hho⟩
   obtain⟨Gs,F2,hp,hl,hg⟩:=key _ Fs x h7 rfl h;refine⟨b::Gs.flatten,F2,?_,a,cap,h1,h2,.inr ⟨b,o,arr,ty,fr,Gs,ha,hb,h4,h5,rfl,hl,hg⟩⟩;simp_all
 |d,d',.cons _ _,_,_,_,hd,h=>by
  simp only[Ow]at h|-;obtain⟨v,l,F1,F2,h1,h2,h3,h4⟩:=h;obtain⟨A1,A2,pa,oa⟩:=Kf hd h3;obtain⟨B1,B2,pb,ob⟩:=Kf hd h4;refine⟨A1++B1,A2++B2,?_,v,l,A1,B1,h1,rfl,EV (by grind) (fun _ _=>rfl) (fun _ _=>rfl) oa,EV (by grind) (fun _ _=>rfl) (fun _ _=>rfl) ob⟩;grind
def RB(w:World):(t:Ty)->List Value->t.D->Nat->Prop
 | .sl r,vs,x,c=> ∃b o len cap,vs=[.slice (some ⟨b,o,none⟩) len cap]/\0<List.length x/\
  (c=b\/ ∃(i:Nat) (y:r.D) (cs:List Value),x[i]? =some y/\cs.length=r.n/\Bg w b (o+i*r.n) cs/\RB w r cs y c)
 | .cons c r,vs,x,d=> ∃v l,vs=v::l/\(RB w c [v] x.1 d\/RB w r l x.2 d)
 |_,_,_,_=>False
theorem Bg.unique{w:World}{b o:Nat}{cs ds:List Value}(h:Bg w b o cs)(k:Bg w b o ds)(hl:cs.length=ds.length):cs=ds:=by
 apply List.ext_getElem hl;intro i h1 h2;have e1:=h i _ (AKT h1);have e2:=k i _ (AKT h2);simp_all
theorem zV{w:World}{B:Nat->Prop}{c:Nat}:∀{t:Ty} {vs x},Rd w B t vs x->RB w t vs x c->B c
 | .int _,_,_,_,h=>by simp[RB]at h
 | .bool,_,_,_,h=>by simp[RB]at h
 | .str,_,_,_,h=>by simp[RB]at h
 | .unit,_,_,_,h=>by simp[RB]at h
 | .sl r,_,x,h,k=>by
  simp only[Rd]at h;simp only[RB]at k;obtain⟨a,cap,rfl,_,h⟩:=h;obtain⟨b,o,len,cap',e,hl,k⟩:=k;simp only[ANN,Value.slice.injEq,AQ6]at e;obtain⟨rfl,rfl,rfl⟩:=e;rcases h with h|⟨b',o',e,hb,h⟩
  ·omega
  simp only[AKX,Addr.mk.injEq,AQ6]at e;obtain⟨rfl,rfl⟩:=e;rcases k with rfl|⟨i,y,cs,hy,qN,hca,k⟩
  ·omega
  ·obtain⟨ds,d1,d2,d3⟩:=h i y hy
   have:=hca.unique d2 (by omega);subst this;exact zV d3 k
 | .cons _ _,_,_,h,k=>by
  simp only[Rd]at h;simp only[RB]at k;obtain⟨v,l,rfl,h1,h2⟩:=h;obtain⟨v',l',e,k⟩:=k;cases e;exact k.elim (zV h1) (zV h2)
theorem sF{w w':World}{c:Nat}:∀{t:Ty} {vs x},(∀d,RB w t vs x d->w'.heap[d]? =w.heap[d]?)->RB w t vs x c->RB w' t vs x c
 | .int _,_,_,_,h=>by simp[RB]at h
 | .bool,_,_,_,h=>by simp[RB]at h
 | .str,_,_,_,h=>by simp[RB]at h
 | .unit,_,_,_,h=>by simp[RB]at h
 | .sl r,_,x,h,k=>by
  simp only[RB]at h k|-;obtain⟨b,o,len,cap,e,hl,k⟩:=k;refine⟨b,o,len,cap,e,hl,?_⟩;rcases k with rfl|⟨i,y,cs,hy,qN,hca,k⟩
  ·omega
  ·have hb:=h b ⟨b,o,len,cap,e,hl,.inl rfl⟩
   exact .inr ⟨i,y,cs,hy,qN,hca.of_block hb,sF (fun d hd=>h d ⟨b,o,len,cap,e,hl,.inr ⟨i,y,cs,hy,qN,hca,hd⟩⟩) k⟩
 | .cons _ _,_,_,h,k=>by
  simp only[RB]at h k|-;obtain⟨v,l,e,k⟩:=k;refine⟨v,l,e,k.elim (fun k=> .inl (sF (fun d hd=>h d ⟨v,l,e,.inl hd⟩) k)) (fun k=> .inr (sF (fun d hd=>h d ⟨v,l,e,.inr hd⟩) k))⟩
end Go.Fw
end
section
namespace Go.Fw
def Cc{α β:Type}(R:α->β->Prop):List α->List β->Prop
 |[],[]=>True
 |a::l,b::m=>R a b/\Cc R l m
 |_,_=>False
theorem Cc.len{α β:Type}{R:α->β->Prop}:∀{l:List α} {m:List β},Cc R l m->l.length=m.length
 |[],[],_=>rfl
 |_::_,_::_,h=>by simp[Cc.len h.2]
theorem Cc.get{α β:Type}{R:α->β->Prop}:∀{l:List α} {m:List β} {i:Nat} {a:α},Cc R l m->l[i]? =some a-> ∃b,m[i]? =some b/\R a b
 |_::_,_::_,0,a,h,e=>by simp at e;subst e;exact⟨_,rfl,h.1⟩
 |_::_,_::_,i+1,a,h,e=>by
  obtain⟨b,hb,hr⟩:=Cc.get (i:=i) h.2 (by simpa using e);simp_all
 |[],[],_,_,_,e=>by simp at e
theorem Cc.imp{α β:Type}{R S:α->β->Prop}(h:∀a b,R a b->S a b):∀{l:List α} {m:List β},Cc R l m->Cc S l m
 |[],[],_=>trivial
 |_::_,_::_,k=>⟨h _ _ k.1,Cc.imp h k.2⟩
structure Env where
 IG:Nat->Nat
 IF:Nat->Value
 T:Nat->Prop
 S:Nat->Prop
def JC(w:World):Value->List Yu->Option Value
 |h,[]=>some h
 | .slice (some a) _ _,s::p=>
  match w.cell? ⟨a.block,a.off+s.i*s.sz+s.j,none⟩with
  |some h=>JC w h p
  |none=>none
 |_,_::_=>none
def DC:(r:Ty)->List r.D->List Yu->Prop
 |_,_,[]=>True
 |r,rows,s::p=>s.i<rows.length/\s.sz=r.n/\
  match BV r s.j (rowAt r rows s.i)with
  |some ⟨.sl q,x⟩=>DC q x p
  |_=>False
def Xb(sz off n:Nat)(a:Option Addr)(cap:Nat):Value:=
 .slice (if cap=off then a else a.map (·.add (off*sz))) n (cap-off)
def isSlice:Value->Bool
 | .slice .. =>true
 |_=>false
def fz:Value->Bool
 | .pointer (some ⟨_,_,none⟩)=>true
 |_=>false
def RA(E:Env)(w:World)(q:(r:Ty)×r.D)(p:Value):Prop:= ∃bb o cs,p= .pointer (some ⟨bb,o,none⟩)/\E.T bb/\cs.length=q.1.n/\Bg w bb o cs/\Rd w E.T q.1 cs q.2
def VR(E:Env)(w:World)(vw:List Bx):AV->Value->Prop
 | .v t x,v=>t.scalar=true/\Rd w (fun _=>False) t [v] x
 | .sl s r x,v=>Rd w (if s then E.S else E.T) (.sl r) [v] x
 | .nil,v=>v= .slice none 0 0
 | .ref b p,v=>isSlice v=true/\match vw[b]? with
  |some (.sl _ r rows)=>DC r rows p/\(∃q,G8 r rows p=some q)/\JC w (E.IF b) p=some v
  |some _=>True
  |none=>False
 | .win b p off n,v=>isSlice v=true/\match vw[b]? with
  |some (.sl _ r rows)=>DC r rows p/\ ∃q ys a len cap,G8 r rows p=some ⟨q,ys⟩/\off+n<=List.length ys/\JC w (E.IF b) p=some (.slice a len cap)/\v=Xb q.n off n a cap
  |some _=>True
  |none=>False
 | .Ir b j,v=>b<vw.length/\v= .pointer (some ⟨E.IG b,j,none⟩)
 | .J5 b p i sz j,v=>fz v=true/\match vw[b]? with
  |some (.sl _ r rows)=>DC r rows p/\ ∃q ys bb o len cap,G8 r rows p=some ⟨q,ys⟩/\i<List.length ys/\JC w (E.IF b) p=some (.slice (some ⟨bb,o,none⟩) len cap)/\v= .pointer (some ⟨bb,o+i*sz+j,none⟩)
  |some _=>True
  |none=>False
 | .Qf s r x j,v=> ∃bb o cs,v= .pointer (some ⟨bb,o+j,none⟩)/\(if s then E.S else E.T) bb/\cs.length=r.n/\Bg w bb o cs/\Rd w (if s then E.S else E.T) r cs x
 | .fn f K4,v=>(∀b∈K4,b<vw.length)/\v= .func (.func f) #[] (K4.map fun b=>Value.pointer (some ⟨E.IG b,0,none⟩)).toArray
 | .vZ f rows,v=> ∃ps:List Value,v= .func (.func f) #[] ps.toArray/\Cc (RA E w) rows ps
 | .ACj,v=>v= .pointer none
 | .undef,_=>True
def mo(E:Env)(w:World)(vw:List Bx)(l:List AV)(vs:List Value):Prop:=Cc (VR E w vw) l vs
def TR(E:Env)(w:World)(vw:List Bx):AV ⊕ List AV->Value->Prop
 | .inl x,v=>VR E w vw x v
 | .inr q,v=> ∃vs,v= .agg vs/\mo E w vw q vs.toList
def XR(E:Env)(w:World)(vw:List Bx):XV->Value->Prop
 | .c x,v=>VR E w vw x v
 | .agg l,v=> ∃vs,v= .agg vs/\mo E w vw l vs.toList
 | .L8 l,v=> ∃vs,v= .tuple vs/\Cc (TR E w vw) l vs.toList
def vF(E:Env)(w:World)(vw:List Bx)(k:Nat):Bx->List Nat->Prop
 | .mem cs,F=>F=[E.IG k]/\ ∃arr ty fr,w.heap[E.IG k]? =some (.cells arr ty fr)/\AAX fr (arr.size+1)/\mo E w vw cs arr.toList
 | .sl d r rows,F=>1<=d/\Ow w E.S d (.sl r) [E.IF k] rows F
 | .dead,F=>F=[]
def Gok(E:Env)(w:World):Prop:= ∀w':World,(∀c,E.T c->w'.heap[c]? =w.heap[c]?)->GI w'
theorem Gok.mono{E E':Env}{w w':World}(h:Gok E w)(hT:∀c,E.T c->E'.T c)(hw:∀c,E.T c->w'.heap[c]? =w.heap[c]?):Gok E' w':=
 fun v hv=>h v fun c hc=>(hv c (hT c hc)).trans (hw c hc)
structure Sep (E:Env) (w:World) (F:ABy):Prop where
 nodup:F.Nodup
 free:∀c∈F,¬E.T c
 lt:∀c∈F,c<w.heap.size
 st:∀c,E.S c->E.T c
 eG:∀c,E.T c->c<w.heap.size
 vz:Gok E w
def OD(E:Env)(w:World)(vw bx:List Bx)(Fs:List ABy):Prop:=
 Fs.length=bx.length/\ ∀k B F,bx[k]? =some B->Fs[k]? =some F->vF E w vw k B F
def C2(E:Env)(w:World)(vw bx:List Bx)(G:ABy):Prop:=
 ∃Fs,OD E w vw bx Fs/\Sep E w (Fs.flatten++G)
structure Le (E E':Env):Prop where
 IG:E'.IG=E.IG
 IF:E'.IF=E.IF
 T:∀c,E.T c->E'.T c
 S:∀c,E.S c->E'.S c
 Tof:∀c,E'.T c->E.T c\/E'.S c
 Sof:∀c,E'.S c->E.S c\/ ¬E.T c
theorem Le.refl(E:Env):Le E E:=⟨rfl,rfl,fun _ h=>h,fun _ h=>h,fun _ h=> .inl h,fun _ h=> .inl h⟩
theorem Le.trans{E E' E'':Env}(h:Le E E')(k:Le E' E''):Le E E'':=
 ⟨k.IG.trans h.IG,k.IF.trans h.IF,fun c hc=>k.T c (h.T c hc),fun c hc=>k.S c (h.S c hc),
  fun c hc=>(k.Tof c hc).elim (fun h' =>(h.Tof c h').imp id (k.S c)) .inr,
  fun c hc=>(k.Sof c hc).elim (h.Sof c) (fun h' => .inr fun ht=>h' (h.T c ht))⟩
theorem iu{w B}:∀{r:Ty} {cs x j t y},Rd w B r cs x->BV r j x=some ⟨t,y⟩-> ∃v,cs[j]? =some v/\Rd w B t [v] y
 | .cons c r,cs,x,0,t,y,h,e=>by
  simp only[Rd]at h;obtain⟨v,l,rfl,h1,h2⟩:=h;simp only[BV,AKX,AL1]at e;grind
 | .cons c r,cs,x,j+1,t,y,h,e=>by
  simp only[Rd]at h;obtain⟨v,l,rfl,h1,h2⟩:=h;simp only[BV]at e;obtain⟨u,hu,hr⟩:=iu h2 e;simp_all
 | .int k,cs,x,0,t,y,h,e=>by
  simp only[BV,AKX,AL1]at e;obtain⟨rfl,e⟩:=e;obtain rfl:=AOs e;simp only[Rd]at h;subst h;exact⟨_,rfl,by rfl⟩
 | .bool,cs,x,0,t,y,h,e=>by
  simp only[BV,AKX,AL1]at e;obtain⟨rfl,e⟩:=e;obtain rfl:=AOs e;simp only[Rd]at h;subst h;exact⟨_,rfl,by rfl⟩
 | .str,cs,x,0,t,y,h,e=>by
  simp only[BV,AKX,AL1]at e;obtain⟨rfl,e⟩:=e;obtain rfl:=AOs e;simp only[Rd]at h;subst h;exact⟨_,rfl,by rfl⟩
 | .sl r,cs,x,0,t,y,h,e=>by
  simp only[BV,AKX,AL1]at e;obtain⟨rfl,e⟩:=e;obtain rfl:=AOs e;have h':=h;simp only[Rd]at h;grind
 | .unit,_,_,_,_,_,_,e=>by simp[BV]at e
 | .int _,_,_,_+1,_,_,_,e=>by simp[BV]at e
 | .bool,_,_,_+1,_,_,_,e=>by simp[BV]at e
 | .str,_,_,_+1,_,_,_,e=>by simp[BV]at e
 | .sl _,_,_,_+1,_,_,_,e=>by simp[BV]at e
theorem Si{r:Ty}{rows:List r.D}{i:Nat}(h:i<rows.length):rows[i]? =some (rowAt r rows i):=by
 simp[rowAt,h]
theorem sH{w:World}{B:Nat->Prop}:∀{p:List Yu} {r:Ty} {h:Value} {rows:List r.D} {q:Ty} {ys:List q.D},
  Rd w B (.sl r) [h] rows->DC r rows p->G8 r rows p=some ⟨q,ys⟩->
  ∃h',(∀w':World,(∀b,B b->w'.heap[b]? =w.heap[b]?)->JC w' h p=some h')/\Rd w B (.sl q) [h'] ys
 |[],r,h,rows,q,ys,hr,_,hg=>by
  simp only[G8,AKX,AL1]at hg;obtain⟨rfl,e⟩:=hg;obtain rfl:=AOs e;exact⟨h,fun w' _=>by rfl,hr⟩
 |s::p,r,h,rows,q,ys,hr,hp,hg=>by
  simp only[DC]at hp;obtain⟨hi,LP,hp⟩:=hp;simp only[G8]at hg;simp only[Rd]at hr;obtain⟨a,cap,hh,_,hr⟩:=hr;obtain rfl:=(ARH hh).1;rcases hr with hr|⟨b,o,rfl,hb,hr⟩
  ·omega
  obtain⟨cs,hl,hc,hrow⟩:=hr s.i _ (Si hi);split at hg
  ·rename_i q' x' kf
   rw[kf]at hp;obtain⟨v,hv,hrv⟩:=iu hrow kf;obtain⟨h',hh',aU⟩:=sH hrv hp hg;refine⟨h',fun w' pt=> ?_,aU⟩;simp only[JC];have du:w'.cell? ⟨b,o+s.i*s.sz+s.j,none⟩=some v:=by
    rw[LP];exact(World.cell?_of_block (a:=⟨b,_,none⟩) (pt b hb)).trans (hc _ _ hv)
   simp_all
  simp_all
theorem C1{w:World}{h:Value}:JC w h []=some h:=by rfl
structure Um (E:Env) (w:World) (vw:List Bx) (E':Env) (w':World) (vw':List Bx):Prop where
 len:vw.length<=vw'.length
 IG:∀b,b<vw.length->E'.IG b=E.IG b
 T:∀b,E.T b->E'.T b
 S:∀b,E.S b->E'.S b
 st:∀b,E.S b->E.T b
 heap:∀b,E.T b->w'.heap[b]? =w.heap[b]?
 box:∀b d r rows,b<vw.length->vw'[b]? =some (.sl d r rows)-> ∃d0 TH,vw[b]? =some (.sl d0 r TH)/\
  ∀p,DC r TH p-> ∀q ys,G8 r TH p=some ⟨q,ys⟩->DC r rows p/\(∃zi,G8 r rows p=some ⟨q,zi⟩/\List.length zi=List.length ys)/\
   ∀h,JC w (E.IF b) p=some h->JC w' (E'.IF b) p=some h
theorem Qv{α:Type}{l l':List α}{b:Nat}{x:α}(h:l.length<=l'.length)(e:l[b]? =some x):∃y,l'[b]? =some y:=
 ⟨l'[b]'(AQQ (AK1.1 e).1 h),AKT _⟩
theorem GQ{E E':Env}{w w':World}{vw vw':List Bx}(k:Um E w vw E' w' vw'):∀{x:AV} {v:Value},VR E w vw x v->VR E' w' vw' x v:=by
 intro x v h;cases x with
 |v t x=>exact⟨h.1,Fz (fun _ h=>h) (fun _ h=>h.elim) h.2⟩
 |sl s r x=>
  simp only[VR]at h|-;cases s with
  |false=>exact Fz k.T k.heap (by simp_all)
  |true=>exact Fz k.S (fun b hb=>k.heap b (k.st b hb)) (by simp_all)
 |nil=>exact h
 |ref b p=>
  simp only[VR]at h|-;obtain⟨h0,h⟩:=h;refine⟨h0,?_⟩;cases e:vw[b]? with
  |none=>simp_all
  |some B=>
   rw[e]at h;have Ix:=(AK1.1 e).1;obtain⟨B',e'⟩:=Qv k.len e;rw[e'];cases B' with
   |mem cs=>trivial
   |dead=>trivial
   |sl d r rows=>
    obtain⟨d0,TH,e0,hk⟩:=k.box b d r rows Ix e';grind
 |win b p off n=>
  simp only[VR]at h|-;obtain⟨h0,h⟩:=h;refine⟨h0,?_⟩;cases e:vw[b]? with
  |none=>simp_all
  |some B=>
   rw[e]at h;have Ix:=(AK1.1 e).1;obtain⟨B',e'⟩:=Qv k.len e;rw[e'];cases B' with
   |mem cs=>trivial
   |dead=>trivial
   |sl d r rows=>
    obtain⟨d0,TH,e0,hk⟩:=k.box b d r rows Ix e';grind
 |Ir b j=>exact⟨AQQ h.1 k.len,by rw[h.2,k.IG b h.1]⟩
 |J5 b p i sz j=>
  simp only[VR]at h|-;obtain⟨h0,h⟩:=h;refine⟨h0,?_⟩;cases e:vw[b]? with
  |none=>simp_all
  |some B=>
   rw[e]at h;have Ix:=(AK1.1 e).1;obtain⟨B',e'⟩:=Qv k.len e;rw[e'];cases B' with
   |mem cs=>trivial
   |dead=>trivial
   |sl d r rows=>
    obtain⟨d0,TH,e0,hk⟩:=k.box b d r rows Ix e';grind
 |Qf s r x j=>
  simp only[VR]at h|-;obtain⟨bb,o,cs,hv,hb,hl,hc,hr⟩:=h;cases s with
  |false=>exact⟨bb,o,cs,hv,k.T bb (by simp_all),hl,hc.of_block (k.heap bb (by simp_all)),Fz k.T k.heap (by simp_all)⟩
  |true=>exact⟨bb,o,cs,hv,k.S bb (by simp_all),hl,hc.of_block (k.heap bb (k.st bb (by simp_all))),Fz k.S (fun b hb=>k.heap b (k.st b hb)) (by simp_all)⟩
 |fn f K4=>
  refine⟨fun b hb=>AQQ (h.1 b hb) k.len,?_⟩;rw[h.2];congr 2;exact ARF fun b hb=>by rw[k.IG b (h.1 b hb)]
 |vZ f rows=>
  obtain⟨ps,hv,h⟩:=h;exact⟨ps,hv,h.imp fun q p ⟨bb,o,cs,h1,h2,h3,h4,h5⟩=>⟨bb,o,cs,h1,k.T bb h2,h3,h4.of_block (k.heap bb h2),Fz k.T k.heap h5⟩⟩
 |ACj=>exact h
 |undef=>trivial
theorem QR{E E':Env}{w w':World}{vw vw':List Bx}(k:Um E w vw E' w' vw'):∀{x:XV} {v:Value},XR E w vw x v->XR E' w' vw' x v
 | .c _,_,h=>GQ k h
 | .agg _,_,⟨vs,hv,h⟩=>⟨vs,hv,h.imp fun _ _ h=>GQ k h⟩
 | .L8 l,_,⟨vs,hv,h⟩=>⟨vs,hv,h.imp fun
  | .inl _,_,h=>GQ k h
  | .inr _,_,⟨ws,hw,h⟩=>⟨ws,hw,h.imp fun _ _ h=>GQ k h⟩⟩
theorem Um.refl{E:Env}{w:World}{vw:List Bx}(st:∀b,E.S b->E.T b):Um E w vw E w vw:=
 ⟨AMN _,fun _ _=>rfl,fun _ h=>h,fun _ h=>h,st,fun _ _=>rfl,fun b d r rows _ h=>⟨d,rows,h,fun p hp q ys hg=>⟨hp,⟨ys,hg,rfl⟩,fun _ h=>h⟩⟩⟩
theorem Um.trans{E E' E'':Env}{w w' w'':World}{vw vw' ASF:List Bx}(k:Um E w vw E' w' vw')(k':Um E' w' vw' E'' w'' ASF):Um E w vw E'' w'' ASF where
 len:=APp k.len k'.len
 IG:=fun b hb=>(k'.IG b (AQQ hb k.len)).trans (k.IG b hb)
 T:=fun b h=>k'.T b (k.T b h)
 S:=fun b h=>k'.S b (k.S b h)
 st:=k.st
 heap:=fun b h=>(k'.heap b (k.T b h)).trans (k.heap b h)
 box:=fun b d r rows hb h=>by
  obtain⟨d1,ALs,h1,k1⟩:=k'.box b d r rows (AQQ hb k.len) h;obtain⟨d0,TH,h0,k0⟩:=k.box b d1 r ALs hb h1;grind
theorem zX{w w':World}{S:Nat->Prop}{d:Nat}{r:Ty}{h:Value}{rows:List r.D}{F:ABy}(ho:Ow w S d (.sl r) [h] rows F)
  (hS:∀b,S b->w'.heap[b]? =w.heap[b]?) (hF:∀b∈F,w'.heap[b]? =w.heap[b]?) {p:List Yu} (hp:DC r rows p) {q:Ty} {ys:List q.D} (hg:G8 r rows p=some ⟨q,ys⟩)
  {h':Value} (hh:JC w h p=some h'):JC w' h p=some h':=by
 obtain⟨h1,k,_⟩:=sH (ZY ho) hp hg;grind
end Go.Fw
end
section
namespace Go.Fw
theorem Cc.set{α β:Type}{R:α->β->Prop}:∀{l:List α} {m:List β} {i:Nat} {a:α} {b:β},Cc R l m->R a b->Cc R (l.set i a) (m.set i b)
 |[],[],_,_,_,_,_=>trivial
 |_::_,_::_,0,_,_,h,r=>⟨r,h.2⟩
 |_::_,_::_,i+1,_,_,h,r=>⟨h.1,Cc.set h.2 r⟩
theorem Cc.append{α β:Type}{R:α->β->Prop}:∀{l:List α} {m:List β} {l':List α} {m':List β},Cc R l m->Cc R l' m'->Cc R (l++l') (m++m')
 |[],[],_,_,_,h=>h
 |_::_,_::_,_,_,h,k=>⟨h.1,Cc.append h.2 k⟩
theorem Cc.MX{α β γ:Type}{R:α->β->Prop}{S:γ->β->Prop}(f:α->γ)(h:∀a b,R a b->S (f a) b):∀{l:List α} {m:List β},Cc R l m->Cc S (l.map f) m
 |[],[],_=>trivial
 |_::_,_::_,k=>⟨h _ _ k.1,Cc.MX f h k.2⟩
theorem Cc.drop{α β:Type}{R:α->β->Prop}:∀{l:List α} {m:List β} (n:Nat),Cc R l m->Cc R (l.drop n) (m.drop n)
 |_,_,0,h=>h
 |[],[],_+1,_=>trivial
 |_::_,_::_,n+1,h=>Cc.drop n h.2
theorem Cc.take{α β:Type}{R:α->β->Prop}:∀{l:List α} {m:List β} (n:Nat),Cc R l m->Cc R (l.take n) (m.take n)
 |[],[],0,_=>trivial
 |_::_,_::_,0,_=>trivial
 |[],[],_+1,_=>trivial
 |_::_,_::_,n+1,h=>⟨h.1,Cc.take n h.2⟩
structure gb (E0:Env) (w0:World) (E:Env) (w:World):Prop where
 T:∀c,E0.T c->E.T c
 S:∀c,E0.S c->E.S c
 Tof:∀c,E.T c->E0.T c\/E.S c
 Sof:∀c,E.S c->E0.S c\/ ¬E0.T c
 heap:∀c,E0.T c->w.heap[c]? =w0.heap[c]?
 os:w.os=w0.os
 tape:w.tape=w0.tape
 output:w.output=w0.output
 size:w0.heap.size<=w.heap.size
theorem gb.refl(E:Env)(w:World):gb E w E w:=⟨fun _ h=>h,fun _ h=>h,fun _ h=> .inl h,fun _ h=> .inl h,fun _ _=>rfl,rfl,rfl,rfl,AMN _⟩
theorem gb.trans{E E' E'':Env}{w w' w'':World}(h:gb E w E' w')(k:gb E' w' E'' w''):gb E w E'' w'':=
 ⟨fun c hc=>k.T c (h.T c hc),fun c hc=>k.S c (h.S c hc),fun c hc=>(k.Tof c hc).elim (fun h' =>(h.Tof c h').imp id (k.S c)) .inr,
  fun c hc=>(k.Sof c hc).elim (h.Sof c) (fun h' => .inr fun ht=>h' (h.T c ht)),fun c hc=>(k.heap c (h.T c hc)).trans (h.heap c hc),
  k.os.trans h.os,k.tape.trans h.tape,k.output.trans h.output,APp h.size k.size⟩
theorem Le.base{E E':Env}(h:Le E E')(w:World):gb E w E' w:=⟨h.T,h.S,h.Tof,h.Sof,fun _ _=>rfl,rfl,rfl,rfl,AMN _⟩
def BRB(E:Env)(w:World)(k:Nat):Bx->Nat->Prop
 | .mem _,c=>c=E.IG k
 | .sl _ r rows,c=>RB w (.sl r) [E.IF k] rows c
 | .dead,_=>False
def XZ:Bx->Bx->Prop
 | .mem _,.mem _=>True
 | .sl _ r x,.sl _ q y=>(⟨r,x⟩:(r:Ty)×List r.D)=⟨q,y⟩
 |_,_=>False
structure S5 (t:ABy) (E0:Env) (bx0:List Bx) (w0:World) (E:Env) (bx:List Bx) (w:World):Prop where
 base:gb E0 w0 E w
 len:bx0.length<=bx.length
 ids:∀b,b<bx0.length->E.IG b=E0.IG b/\E.IF b=E0.IF b
 dead:∀b:Nat,bx0[b]? =some Bx.dead->bx[b]? =some Bx.dead
 frame:∀(n:Nat) B B',n∉t->bx0[n]? =some B->bx[n]? =some B'->B'≠ .dead->XZ B B'/\ ∀c,BRB E0 w0 n B c->w.heap[c]? =w0.heap[c]?
theorem S5.any{E E':Env}{bx R0:List Bx}{w w':World}(h:S5 [] E bx w E' R0 w'){t:ABy}:S5 t E bx w E' R0 w':=
 ⟨h.base,h.len,h.ids,h.dead,fun n B B' _=>h.frame n B B' (by simp)⟩
theorem XZ.refl{B:Bx}(h:B≠ .dead):XZ B B:=by cases B<;>simp_all[XZ]
theorem S5.refl(t:ABy)(E:Env)(bx:List Bx)(w:World):S5 t E bx w E bx w:=⟨gb.refl E w,AMN _,fun _ _=>⟨rfl,rfl⟩,fun _ h=>h,fun n B B' _ h h' hd=>by
 rw[h]at h';cases h';exact⟨XZ.refl hd,fun _ _=>rfl⟩⟩
theorem jF{E:Env}{w:World}{vw:List Bx}{k:Nat}{B:Bx}{F:ABy}{c:Nat}(h:vF E w vw k B F)(hc:BRB E w k B c):E.S c\/c∈F:=by
 cases B with
 |mem cs=>obtain⟨rfl,_⟩:=h;grind[BRB]
 |sl d r rows=>exact zV (ZY h.2) hc
 |dead=>exact hc.elim
structure Rel (E:Env) (σ:St) (a:Act) (w:World):Prop where
 OS:a.defers=[]
 tm:Cc (XR E w σ.bx) σ.tm a.tmps.toList
 bx:C2 E w σ.bx σ.bx []
theorem Rel.put{E:Env}{σ:St}{a:Act}{w:World}(h:Rel E σ a w)(dst:Option Tmp){x:XV}{v:Value}(hx:XR E w σ.bx x v):Rel E (σ.put dst x) (a.put dst v) w:=by
 cases dst with
 |none=>exact h
 |some d=>exact⟨h.OS,by simpa[St.put,Act.put]using Cc.set h.tm hx,h.bx⟩
theorem Cc.APe{E:Env}{w:World}{vw:List Bx}{l:List XV}{m:Array Value}(h:Cc (XR E w vw) l m.toList)(t:Nat):XR E w vw (l.getD t (.c .undef)) (m.getD t undef):=by
 by_cases ht:t<l.length
 ·have e:l[t]? =some l[t]:=AKT ht
  obtain⟨b,hb,hr⟩:=h.get e;simp_all
 ·have e:l[t]? =none:=by simp_all
  simp only[List.getD_eq_getElem?_getD,e,Option.getD_none]
  trivial
theorem xT{E:Env}{w:World}{vw:List Bx}(v:Value):VR E w vw (sr v) v:=by
 unfold sr;split<;>first
  |trivial
  |exact⟨rfl,by simp[Rd]⟩
  |rfl
theorem qO{E:Env}{w:World}{vw:List Bx}:∀(l:List Value),mo E w vw (l.map sr) l
 |[]=>trivial
 |a::l=>⟨xT a,qO l⟩
theorem ACb{E:Env}{w:World}{vw:List Bx}(v:Value):XR E w vw (ofValue v) v:=by
 unfold ofValue;split
 ·rename_i cs
  exact⟨cs,rfl,qO cs.toList⟩
 ·exact xT v
theorem Rel.ev{E:Env}{σ:St}{a:Act}{w:World}(h:Rel E σ a w)(x:Operand):XR E w σ.bx (σ.ev x) (a.eval x):=by
 cases x with
 |tmp t=>exact Cc.APe h.tm t
 |const v=>exact ACb v
 |global g=>trivial
 |func f=>exact⟨by simp,rfl⟩
theorem Wb{b:Nat}:∀{Fs:List ABy} {F:ABy},Fs[b]? =some F->Fs.flatten.Perm (F++(Fs.set b []).flatten):=by
 induction b with
 |zero=>
  intro Fs F h;cases Fs with
  |nil=>simp at h
  |cons A l=>simp_all
 |succ b ih=>
  intro Fs F h;cases Fs with
  |nil=>simp at h
  |cons A l=>
   grind
theorem Sep.perm{E:Env}{w:World}{F F':ABy}(h:Sep E w F)(p:F.Perm F'):Sep E w F':=
 ⟨p.nodup_iff.1 h.nodup,fun c hc=>h.free c (p.mem_iff.2 hc),fun c hc=>h.lt c (p.mem_iff.2 hc),h.st,h.eG,h.vz⟩
theorem Sep.sub{E:Env}{w:World}{F F':ABy}(h:Sep E w (F++F')):Sep E w F:=
 ⟨(AL8.1 h.nodup).1,fun c hc=>h.free c (by simp[hc]),fun c hc=>h.lt c (by simp[hc]),h.st,h.eG,h.vz⟩
theorem C2.perm{E:Env}{w:World}{vw bx:List Bx}{G G':ABy}(h:C2 E w vw bx G)(p:G.Perm G'):C2 E w vw bx G':=
 let⟨Fs,h1,h2⟩:=h
 ⟨Fs,h1,h2.perm (AUM _ p)⟩
theorem C2.drop{E:Env}{w:World}{vw bx:List Bx}{G G':ABy}(h:C2 E w vw bx (G++G')):C2 E w vw bx G:=
 let⟨Fs,h1,h2⟩:=h
 ⟨Fs,h1,by rw[<-AL3]at h2;exact h2.sub⟩
theorem C2.st{E:Env}{w:World}{vw bx:List Bx}{G:ABy}(h:C2 E w vw bx G):∀c,E.S c->E.T c:=let⟨_,_,h⟩:=h;h.st
theorem C2.eG{E:Env}{w:World}{vw bx:List Bx}{G:ABy}(h:C2 E w vw bx G):∀c,E.T c->c<w.heap.size:=let⟨_,_,h⟩:=h;h.eG
theorem C2.vz{E:Env}{w:World}{vw bx:List Bx}{G:ABy}(h:C2 E w vw bx G):Gok E w:=let⟨_,_,h⟩:=h;h.vz
theorem C2.AGc{E:Env}{w:World}{vw bx:List Bx}{G:ABy}(h:C2 E w vw bx G):∀c∈G,¬E.T c:=let⟨_,_,h⟩:=h;fun c hc=>h.free c (by simp[hc])
theorem C2.take{E:Env}{w:World}{vw bx:List Bx}{G:ABy}(h:C2 E w vw bx G){b:Nat}{B:Bx}(hb:bx[b]? =some B):
  ∃F,vF E w vw b B F/\C2 E w vw (bx.set b .dead) (F++G):=by
 obtain⟨Fs,⟨hl,h1⟩,h2⟩:=h;have Ix:=(AK1.1 hb).1;have hF:Fs[b]? =some (Fs[b]'(by omega)):=AKT _;refine⟨_,h1 b B _ hb hF,Fs.set b [],⟨by simp_all,fun k C F hk hkF=> ?_⟩,h2.perm ?_⟩
 ·by_cases e:k=b
  ·subst e
   rw[AQ8 (by omega)]at hk hkF;cases hk;cases hkF;rfl
  grind
 grind[List.Perm.append_right,Wb,List.append_assoc,List.perm_append_comm,trans,List.Perm.append_left]
theorem C2.put{E:Env}{w:World}{vw bx:List Bx}{F G:ABy}(h:C2 E w vw bx (F++G)){b:Nat}{B:Bx}(hb:bx[b]? =some .dead)(hB:vF E w vw b B F):
  C2 E w vw (bx.set b B) G:=by
 obtain⟨Fs,⟨hl,h1⟩,h2⟩:=h;have Ix:=(AK1.1 hb).1;have hF:Fs[b]? =some (Fs[b]'(by omega)):=AKT _;have e0:Fs[b]'(by omega)=[]:=h1 b _ _ hb hF;refine⟨Fs.set b F,⟨by simp_all,fun k C F' hk hkF=> ?_⟩,h2.perm ?_⟩
 ·grind
 ·have p:(Fs.set b F).flatten.Perm (F++Fs.flatten):=by
   have p1:=Wb (Fs:=Fs.set b F) (b:=b) (F:=F) (AQ8 (by omega));rw[AVj]at p1;have p2:=Wb hF;grind
  grind
theorem C2.push{E:Env}{w:World}{vw bx:List Bx}{F G:ABy}(h:C2 E w vw bx (F++G)){B:Bx}(hB:vF E w vw bx.length B F):
  C2 E w vw (bx++[B]) G:=by
 obtain⟨Fs,⟨hl,h1⟩,h2⟩:=h;refine⟨Fs++[F],⟨by simp[hl],fun k C F' hk hkF=> ?_⟩,h2.perm (by simp)⟩;grind
theorem C2.turn{E E':Env}{w w':World}{vw vw' bx:List Bx}{G:ABy}(h:C2 E w vw bx G)(k:∀x v,VR E w vw x v->VR E' w' vw' x v)
  (hS:∀c,E.S c->E'.S c) (AHq:∀b,b<bx.length->E'.IG b=E.IG b) (re:∀b,b<bx.length->E'.IF b=E.IF b)
  (hw:∀c,(E.S c\/(¬E.T c/\c∉G))->c<w.heap.size->w'.heap[c]? =w.heap[c]?)
  (AHf:∀F,Sep E w (F++G)->Sep E' w' (F++G)):C2 E' w' vw' bx G:=by
 obtain⟨Fs,⟨hl,h1⟩,h2⟩:=h;refine⟨Fs,⟨hl,fun n B F hn hF=> ?_⟩,AHf _ h2⟩;have Ix:=(AK1.1 hn).1;have h3:=h1 n B F hn hF;have AMx:∀c∈F,c∈Fs.flatten:=fun c hc=>APz.2 ⟨F,AMU hF,hc⟩
 have hFw:∀c∈F,w'.heap[c]? =w.heap[c]?:=fun c hc=>hw c (.inr ⟨h2.free c (by simp_all),fun hg=>by
  have:=(AL8.1 h2.nodup).2.2 c (AMx c hc) c hg;omega⟩) (h2.lt c (by simp_all))
 have xJ:∀c,E.S c->w'.heap[c]? =w.heap[c]?:=fun c hc=>hw c (.inl hc) (h2.eG c (h2.st c hc))
 cases B with
 |mem cs=>
  obtain⟨rfl,arr,ty,fr,ha,hu,hv⟩:=h3;refine⟨by simp_all,arr,ty,fr,?_,hu,hv.imp k⟩;simp_all
 |sl d r rows=>
  obtain⟨hd,ho⟩:=h3;refine⟨hd,?_⟩;grind[EV]
 |dead=>exact h3
end Go.Fw
end
section
namespace Go.Fw
theorem IJ{β:Ty->Type}{a b:Ty}{x:β a}{y:β b}(h:SL a b x=some y):∃e:a=b,e▸x=y:=by
 grind[SL]
def FO(bk vw:List Bx):Prop:= ∀(b:Nat) (B:Bx),bk[b]? =some B->B= .dead\/vw[b]? =some B
theorem FO.refl(bx:List Bx):FO bx bx:=fun _ _ h=> .inr h
theorem Addr.add_eq(b o n:Nat):(⟨b,o,none⟩:Addr).add n=⟨b,o+n,none⟩:=by grind[Addr.add]
theorem ACk{w:World}{B:Nat->Prop}{r:Ty}{a:Option Addr}{len cap:Nat}{ys:List r.D}(h:Rd w B (.sl r) [.slice a len cap] ys){off n:Nat}(hn:off+n<=ys.length):
  Rd w B (.sl r) [Xb r.n off n a cap] ((ys.drop off).take n):=by
 simp only[Rd]at h|-;obtain⟨a',cap',e,hc,h⟩:=h;simp only[ANN,Value.slice.injEq,AQ6]at e;obtain⟨rfl,rfl,rfl⟩:=e;have hl:((ys.drop off).take n).length=n:=by grind
 refine⟨_,_,by unfold Xb;rw[hl],by omega,?_⟩;rw[hl];by_cases h0:n=0
 ·omega
 ·rcases h with h|⟨b,o,rfl,hb,h⟩
  ·omega
  ·refine .inr ⟨b,o+off*r.n,?_,hb,fun i y hy=> ?_⟩
   ·rw[AJk (by omega)]
    simp[Addr.add_eq]
   grind
def sa(E:Env)(Fs:List ABy)(c:Nat):Prop:=E.T c\/c∈Fs.flatten
section
variable{E:Env} {w:World} {vw bk:List Bx} {Fs:List ABy}
theorem OD.get(h:OD E w vw bk Fs){b:Nat}{B:Bx}(e:bk[b]? =some B):∃F,vF E w vw b B F/\ ∀c∈F,c∈Fs.flatten:=by
 have Ix:=(AK1.1 e).1;have hF:Fs[b]? =some (Fs[b]'(by rw[h.1];omega)):=AKT _;exact⟨_,h.2 b B _ e hF,fun c hc=>APz.2 ⟨_,AMU hF,hc⟩⟩
theorem iT(hs:FO bk vw)(h:OD E w vw bk Fs)(st:∀c,E.S c->E.T c){b d:Nat}{r:Ty}{rows:List r.D}(e:bk[b]? =some (.sl d r rows))
  {p:List Yu} (hp:DC r rows p) {q:Ty} {ys:List q.D} (hg:G8 r rows p=some ⟨q,ys⟩) {v:Value} (hh:JC w (E.IF b) p=some v):
  Rd w (sa E Fs) (.sl q) [v] ys:=by
 obtain⟨F,⟨_,ho⟩,hF⟩:=h.get e;obtain⟨h',k,hr⟩:=sH (ZY ho) hp hg;have:=k w (fun _ _=>rfl);rw[hh]at this;cases this;exact Fz (fun c hc=>hc.elim (fun hc=> .inl (st c hc)) (fun hc=> .inr (hF c hc))) (fun _ _=>rfl) hr
theorem bf(hs:FO bk vw){b d:Nat}{r:Ty}{rows:List r.D}(e:bk[b]? =some (.sl d r rows)):vw[b]? =some (.sl d r rows):=by
 rcases hs b _ e with h|h
 all_goals simp_all
theorem dd(hs:FO bk vw)(h:OD E w vw bk Fs)(st:∀c,E.S c->E.T c){x:AV}{v:Value}(hv:VR E w vw x v){q:Ty}{ys:List q.D}(e:N6 bk x=some ⟨q,ys⟩):
  Rd w (sa E Fs) (.sl q) [v] ys:=by
 cases x with
 |sl s r x=>
  simp only[N6,AKX,AL1]at e;obtain⟨rfl,e⟩:=e;obtain rfl:=AOs e;simp only[VR]at hv;refine Fz (fun c hc=> ?_) (fun _ _=>rfl) hv;cases s
  ·exact .inl (by simp_all)
  ·exact .inl (st c (by simp_all))
 |ref b p=>
  grind[N6,VR,bf,iT]
 |win b p off n=>
  simp only[N6]at e;split at e
  ·rename_i d r rows hb
   simp only[VR,bf hs hb]at hv;obtain⟨_,hp,q',zi,a,len,cap,hg,hl,hh,rfl⟩:=hv;rw[hg]at e;simp only[ASt,AKX,AL1]at e;obtain⟨rfl,e⟩:=e;obtain rfl:=AOs e;grind[ACk,iT]
  simp_all
 |_=>simp[N6]at e
theorem XA(hs:FO bk vw)(h:OD E w vw bk Fs)(st:∀c,E.S c->E.T c){t:Ty}{x:AV}{v:Value}(hv:VR E w vw x v){y:t.D}(e:Ng bk t x=some y):
  Rd w (sa E Fs) t [v] y:=by
 have sl:∀(r:Ty) (x:AV) (v:Value) (y:List r.D),VR E w vw x v->((N6 bk x).bind fun q=>SL (β:=fun r=>List r.D) q.1 r q.2)=some y->Rd w (sa E Fs) (.sl r) [v] y:=by
  grind[Option.bind_eq_some_iff,IJ,dd]
 cases x with
 |v u z=>
  simp only[Ng]at e;obtain⟨e1,e2⟩:=IJ e;subst e1;subst e2;exact Fz (fun _ hc=>hc.elim) (fun _ hc=>hc.elim) hv.2
 |nil=>
  cases t with
  |sl r=>
   simp only[Ng,AKX]at e;subst e;simp only[VR]at hv;subst hv;simp only[Rd];simp_all
  |_=>simp[Ng]at e
 |_=>
  cases t with
  |sl r=>exact sl r _ _ y hv (by simpa only[Ng]using e)
  |_=>simp[Ng]at e
theorem ku(hs:FO bk vw)(h:OD E w vw bk Fs)(st:∀c,E.S c->E.T c):∀{r:Ty} {l:List AV} {vs:List Value} {x:r.D},mo E w vw l vs->IM bk r l=some x->
  Rd w (sa E Fs) r vs x
 | .unit,[],[],x,_,_=>by rfl
 | .cons c r,a::l,v::vs,x,hv,e=>by
  simp only[IM,ALU,AKm]at e;obtain⟨y,e1,z,e2,rfl⟩:=e;simp only[Rd];exact⟨v,vs,rfl,XA hs h st hv.1 e1,ku hs h st hv.2 e2⟩
 | .unit,_::_,_,_,_,e=>by simp[IM]at e
 | .unit,[],_::_,_,hv,_=>hv.elim
 | .cons _ _,[],_,_,_,e=>by simp[IM]at e
 | .cons _ _,_::_,[],_,hv,_=>hv.elim
 | .int _,_,_,_,_,e=>by simp[IM]at e
 | .bool,_,_,_,_,e=>by simp[IM]at e
 | .str,_,_,_,_,e=>by simp[IM]at e
 | .sl _,_,_,_,_,e=>by simp[IM]at e
theorem lh{E1:Env}{vw1:List Bx}(hs:FO bk vw)(h:OD E w vw bk Fs)(st:∀c,E.S c->E.T c)(hT:∀c,sa E Fs c->E1.T c):
  ∀{r:Ty} {l:List AV} {vs:List Value} {x:r.D},mo E w vw l vs->IM bk r l=some x->mo E1 w vw1 (tC r x) vs
 | .unit,[],[],x,_,_=>trivial
 | .cons c r,a::l,v::vs,x,hv,e=>by
  simp only[IM,ALU,AKm]at e;obtain⟨y,e1,z,e2,rfl⟩:=e;have aU:=XA hs h st hv.1 e1;have tl:mo E1 w vw1 _ _:=lh hs h st hT hv.2 e2;cases c with
  |sl q=>
   refine⟨?_,tl⟩;simp only[VR];exact Fz hT (fun _ _=>rfl) (by omega)
  |int k=>exact⟨⟨rfl,by grind[Rd]⟩,tl⟩
  |bool=>exact⟨⟨rfl,by grind[Rd]⟩,tl⟩
  |str=>exact⟨⟨rfl,by grind[Rd]⟩,tl⟩
  |unit=>
   grind[Rd]
  |cons c' r' =>
   exfalso
   cases a with
   |v u z=>
    simp only[Ng]at e1;obtain⟨e3,_⟩:=IJ e1;subst e3;exact absurd hv.1.1 (by simp[Ty.scalar])
   |_=>simp[Ng]at e1
 | .unit,_::_,_,_,_,e=>by simp[IM]at e
 | .unit,[],_::_,_,hv,_=>hv.elim
 | .cons _ _,[],_,_,_,e=>by simp[IM]at e
 | .cons _ _,_::_,[],_,hv,_=>hv.elim
 | .int _,_,_,_,_,e=>by simp[IM]at e
 | .bool,_,_,_,_,e=>by simp[IM]at e
 | .str,_,_,_,_,e=>by simp[IM]at e
 | .sl _,_,_,_,_,e=>by simp[IM]at e
end
end Go.Fw
end
section
namespace Go.Fw
def Ext(m m':Qr):Prop:=m'.length=m.length/\ ∀(i b:Nat),m[i]? =some (some b)->m'[i]? =some (some b)
theorem Ext.refl(m:Qr):Ext m m:=⟨rfl,fun _ _ h=>h⟩
theorem Ext.trans{m m' m'':Qr}(h:Ext m m')(k:Ext m' m''):Ext m m'':=⟨k.1.trans h.1,fun i b e=>k.2 i b (h.2 i b e)⟩
def ue(m:Qr):Prop:= ∀(i j b:Nat),m[i]? =some (some b)->m[j]? =some (some b)->i=j
theorem iX{m m':Qr}{i b:Nat}(e:m.put i b=some m'):Ext m m'/\m'[i]? =some (some b)/\(ue m->ue m'):=by
 unfold Qr.put at e;split at e
 ·rename_i h
  split at e
  ·cases e
  ·rename_i hc
   cases e;have Ix:=(AK1.1 h).1;have AR0:∀(k:Nat),m[k]?≠some (some b):=fun k hk=>hc (by
    grind)
   refine⟨⟨by simp,fun k c hk=> ?_⟩,by simp[Ix],fun hi j k c hj hk=> ?_⟩
   ·grind
   ·by_cases e1:j=i<;>by_cases e2:k=i
    ·omega
    ·grind
    ·grind
    ·rw[AOK (by omega)]at hj hk
     exact hi j k c hj hk
 all_goals grind[Ext.refl]
def UC(m:Qr):List Nat->List Nat->Prop
 |[],[]=>True
 |i::is,b::bs=>m[i]? =some (some b)/\UC m is bs
 |_,_=>False
theorem UC.ext{m m':Qr}(h:Ext m m'):∀{is bs},UC m is bs->UC m' is bs
 |[],[],_=>trivial
 |_::_,_::_,k=>⟨h.2 _ _ k.1,UC.ext h k.2⟩
theorem mU:∀{is bs:ABy} {m m':Qr},fL m is bs=some m'->Ext m m'/\UC m' is bs/\(ue m->ue m')
 |[],[],m,m',e=>by simp only[fL,AKX]at e;subst e;exact⟨Ext.refl _,trivial,fun h=>h⟩
 |i::is,b::bs,m,m',e=>by
  simp only[fL,ALU]at e;obtain⟨m1,e1,e2⟩:=e;obtain⟨a1,a2,a3⟩:=iX e1;obtain⟨b1,b2,b3⟩:=mU e2;exact⟨a1.trans b1,⟨b1.2 _ _ a2,b2⟩,fun h=>b3 (a3 h)⟩
 |[],_::_,_,_,e=>by simp[fL]at e
 |_::_,[],_,_,e=>by simp[fL]at e
def TP(N:Nat)(m:Qr):AP->AV->Prop
 | .ref i,x=> ∃b,(x= .ref b []\/(x= .nil/\b=N+i))/\m[i]? =some (some b)
 | .ptr i j,x=> ∃b,x= .Ir b j/\m[i]? =some (some b)
 | .fn f K4,x=> ∃bs,x= .fn f bs/\UC m K4 bs
 | .nil,x=>x= .nil
 | .oX i sz,x=> ∃b k j,x= .ref b [⟨k,sz,j⟩]/\m[i]? =some (some b)
 |_,_=>True
theorem TP.ext{N:Nat}{m m':Qr}(h:Ext m m'){p:AP}{x:AV}(k:TP N m p x):TP N m' p x:=by
 cases p with
 |ref i=>obtain⟨b,hx,k⟩:=k;exact⟨b,hx,h.2 _ _ k⟩
 |ptr i j=>obtain⟨b,rfl,k⟩:=k;exact⟨b,rfl,h.2 _ _ k⟩
 |fn f K4=>obtain⟨bs,rfl,k⟩:=k;exact⟨bs,rfl,k.ext h⟩
 |nil=>exact k
 |oX i sz=>obtain⟨b,q,j,rfl,k⟩:=k;exact⟨b,q,j,rfl,h.2 _ _ k⟩
 |_=>trivial
theorem iJ{N:Nat}{m m':Qr}{p:AP}{x:AV}(e:p.Ou N m x=some m'):Ext m m'/\TP N m' p x/\(ue m->ue m'):=by
 cases p with
 |ref i=>
  cases x with
  |ref b q=>
   cases q with
   |nil=>
    obtain⟨a,b,c⟩:=iX (by simpa only[AP.Ou]using e);exact⟨a,⟨_,.inl rfl,b⟩,c⟩
   |cons _ _=>simp[AP.Ou]at e
  |nil=>
   obtain⟨a,b,c⟩:=iX (by simpa only[AP.Ou]using e);exact⟨a,⟨_,.inr ⟨rfl,rfl⟩,b⟩,c⟩
  |_=>simp[AP.Ou]at e
 |ptr i j=>
  cases x with
  |Ir b j' =>
   simp only[AP.Ou]at e;split at e
   ·rename_i hj
    subst hj;obtain⟨a,b,c⟩:=iX e;exact⟨a,⟨_,rfl,b⟩,c⟩
   simp_all
  |_=>simp[AP.Ou]at e
 |fn f K4=>
  cases x with
  |fn g bs=>
   simp only[AP.Ou]at e;split at e
   ·rename_i hf
    subst hf;obtain⟨a,b,c⟩:=mU e;exact⟨a,⟨_,rfl,b⟩,c⟩
   simp_all
  |_=>simp[AP.Ou]at e
 |nil=>
  cases x with
  |nil=>simp only[AP.Ou,AKX]at e;subst e;exact⟨Ext.refl _,rfl,fun h=>h⟩
  |_=>simp[AP.Ou]at e
 |oX i sz=>
  cases x with
  |ref b q=>
   cases q with
   |nil=>simp[AP.Ou]at e
   |cons s q=>
    cases q with
    |nil=>
     simp only[AP.Ou]at e;split at e
     ·rename_i hs
      obtain⟨a,b,c⟩:=iX e;obtain⟨k,z,y⟩:=s;dsimp only at hs;subst hs;exact⟨a,⟨_,k,y,rfl,b⟩,c⟩
     simp_all
    |cons _ _=>simp[AP.Ou]at e
  |_=>simp[AP.Ou]at e
 |_=>
  have:m=m':=by grind[AP.Ou]
  subst this;exact⟨Ext.refl _,trivial,fun h=>h⟩
theorem YX{N:Nat}:∀{l:List AP} {xs:List AV} {m m':Qr},aM.Ou N m l xs=some m'->Ext m m'/\Cc (TP N m') l xs/\(ue m->ue m')
 |[],[],m,m',e=>by simp only[aM.Ou,AKX]at e;subst e;exact⟨Ext.refl _,trivial,fun h=>h⟩
 |p::l,x::xs,m,m',e=>by
  simp only[aM.Ou,ALU]at e;obtain⟨m1,e1,e2⟩:=e;obtain⟨a1,a2,a3⟩:=iJ e1;obtain⟨b1,b2,b3⟩:=YX e2;exact⟨a1.trans b1,⟨a2.ext b1,b2⟩,fun h=>b3 (a3 h)⟩
 |[],_::_,_,_,e=>by simp[aM.Ou]at e
 |_::_,[],_,_,e=>by simp[aM.Ou]at e
def kD(N:Nat)(m:Qr):AP ⊕ List AP->AV ⊕ List AV->Prop
 | .inl p,.inl x=>TP N m p x
 | .inr p,.inr x=>Cc (TP N m) p x
 |_,_=>False
theorem kD.ext{N:Nat}{m m':Qr}(h:Ext m m'):∀{p:AP ⊕ List AP} {x:AV ⊕ List AV},kD N m p x->kD N m' p x
 | .inl _,.inl _,k=>TP.ext h k
 | .inr _,.inr _,k=>Cc.imp (fun _ _ k=>TP.ext h k) k
theorem ef{N:Nat}:∀{l:List (AP ⊕ List AP)} {xs:List (AV ⊕ List AV)} {m m':Qr},bq.Ou N m l xs=some m'->Ext m m'/\Cc (kD N m') l xs/\(ue m->ue m')
 |[],[],m,m',e=>by simp only[bq.Ou,AKX]at e;subst e;exact⟨Ext.refl _,trivial,fun h=>h⟩
 | .inl p::l,.inl x::xs,m,m',e=>by
  simp only[bq.Ou,ALU]at e;obtain⟨m1,e1,e2⟩:=e;obtain⟨a1,a2,a3⟩:=iJ e1;obtain⟨b1,b2,b3⟩:=ef e2;exact⟨a1.trans b1,⟨TP.ext b1 a2,b2⟩,fun h=>b3 (a3 h)⟩
 | .inr p::l,.inr x::xs,m,m',e=>by
  simp only[bq.Ou,ALU]at e;obtain⟨m1,e1,e2⟩:=e;obtain⟨a1,a2,a3⟩:=YX e1;obtain⟨b1,b2,b3⟩:=ef e2;exact⟨a1.trans b1,⟨Cc.imp (fun _ _ k=>TP.ext b1 k) a2,b2⟩,fun h=>b3 (a3 h)⟩
 |[],_::_,_,_,e=>by simp[bq.Ou]at e
 | .inl _::_,[],_,_,e=>by simp[bq.Ou]at e
 | .inr _::_,[],_,_,e=>by simp[bq.Ou]at e
 | .inl _::_,.inr _::_,_,_,e=>by simp[bq.Ou]at e
 | .inr _::_,.inl _::_,_,_,e=>by simp[bq.Ou]at e
def eJ(N:Nat)(m:Qr):XP->XV->Prop
 | .c p,.c x=>TP N m p x
 | .agg l,.agg xs=>Cc (TP N m) l xs
 | .row _,.agg _=>True
 | .L8 l,.L8 xs=>Cc (kD N m) l xs
 |_,_=>False
theorem eJ.ext{N:Nat}{m m':Qr}(h:Ext m m'):∀{p:XP} {x:XV},eJ N m p x->eJ N m' p x
 | .c _,.c _,k=>TP.ext h k
 | .agg _,.agg _,k=>Cc.imp (fun _ _ k=>TP.ext h k) k
 | .row _,.agg _,_=>trivial
 | .L8 _,.L8 _,k=>Cc.imp (fun _ _ k=>kD.ext h k) k
theorem AA1{N:Nat}{m m':Qr}:∀{p:XP} {x:XV},p.Ou N m x=some m'->Ext m m'/\eJ N m' p x/\(ue m->ue m')
 | .c p,.c x,e=>iJ (by grind[XP.Ou])
 | .agg l,.agg xs,e=>YX (by grind[XP.Ou])
 | .row r,.agg xs,e=>by simp only[XP.Ou,AKX]at e;subst e;exact⟨Ext.refl _,trivial,fun h=>h⟩
 | .L8 l,.L8 xs,e=>ef (by grind[XP.Ou])
 | .c _,.agg _,e=>by simp[XP.Ou]at e
 | .c _,.L8 _,e=>by simp[XP.Ou]at e
 | .agg _,.c _,e=>by simp[XP.Ou]at e
 | .agg _,.L8 _,e=>by simp[XP.Ou]at e
 | .row _,.c _,e=>by simp[XP.Ou]at e
 | .row _,.L8 _,e=>by simp[XP.Ou]at e
 | .L8 _,.c _,e=>by simp[XP.Ou]at e
 | .L8 _,.agg _,e=>by simp[XP.Ou]at e
theorem iN{N:Nat}{tm:List XV}:∀{l:List (Nat×XP)} {m m':Qr},GU.Ou N tm m l=some m'->
  Ext m m'/\(∀q∈l,∃x,tm[q.1]? =some x/\eJ N m' q.2 x)/\(ue m->ue m')
 |[],m,m',e=>by grind[GU.Ou,Option.some.injEq,Ext.refl]
 |(i,p)::l,m,m',e=>by
  simp only[GU.Ou]at e;split at e
  ·rename_i x hx
   simp only[ALU]at e;obtain⟨m1,e1,e2⟩:=e;obtain⟨a1,a2,a3⟩:=AA1 e1;obtain⟨b1,b2,b3⟩:=iN e2;refine⟨a1.trans b1,?_,fun h=>b3 (a3 h)⟩;intro q hq;rcases ANC.1 hq with rfl|hq
   all_goals grind[eJ.ext]
  simp_all
theorem Ye{N:Nat}{bx:List Bx}:∀{l:List BP} {i:Nat} {m m':Qr},Jg.Ou N bx i m l=some m'->
  Ext m m'/\(∀(k:Nat) q,l[k]? =some (.mem q)-> ∃b cs,m'[i+k]? =some (some b)/\bx[b]? =some (.mem cs)/\Cc (TP N m') q cs)/\
   (∀(k:Nat) d r,l[k]? =some (.sl d r)-> ∃b,m'[i+k]? =some (some b))/\(ue m->ue m')
 |[],i,m,m',e=>by grind[Jg.Ou,Option.some.injEq,Ext.refl]
 | .mem q::l,i,m,m',e=>by
  simp only[Jg.Ou]at e;split at e
  ·rename_i b hb
   split at e
   ·rename_i cs zr
    simp only[ALU]at e;obtain⟨m1,e1,e2⟩:=e;obtain⟨a1,a2,a3⟩:=YX e1;obtain⟨b1,b2,b4,b3⟩:=Ye e2;refine⟨a1.trans b1,?_,?_,fun h=>b3 (a3 h)⟩
    ·intro k q' hk
     cases k with
     |zero=>cases hk;exact⟨b,cs,b1.2 _ _ (a1.2 _ _ hb),zr,Cc.imp (fun _ _ k=>TP.ext b1 k) a2⟩
     |succ k=>
      grind
    grind
   simp_all
  simp_all
 | .sl d r::l,i,m,m',e=>by
  simp only[Jg.Ou]at e;split at e
  ·rename_i b hb
   obtain⟨b1,b2,b4,b3⟩:=Ye e;refine⟨b1,?_,?_,b3⟩
   ·grind
   ·intro k d r hk
    cases k with
    |zero=>exact⟨b,b1.2 _ _ hb⟩
    |succ k=>
     grind
  simp_all
 | .gone::l,i,m,m',e=>by
  simp only[Jg.Ou]at e;obtain⟨b1,b2,b4,b3⟩:=Ye e;grind
theorem T1{bx bk:List Bx}{J6:Nat->Nat}:∀{l:List BP} {m:Qr} {x:Jg.V l},Jg.get bx bk m l=some x->(Jg.mk J6 l x).length=l.length/\
  ∀(k:Nat) p,l[k]? =some p-> ∃y:p.V,(Jg.mk J6 l x)[k]? =some (p.mk J6 y)/\
   match p,y with
   | .mem q,y=> ∃b cs,m[k]? =some (some b)/\bx[b]? =some (.mem cs)/\aM.get bk q cs=some y
   | .sl d r,y=> ∃b d',m[k]? =some (some b)/\bx[b]? =some (.sl d' r y)/\1<=d/\d<=d'
   | .gone,_=>True
 |[],m,x,e=>⟨rfl,by simp⟩
 | .mem q::l,some b::m,x,e=>by
  simp only[Jg.get]at e;split at e
  ·rename_i cs zr
   simp only[ALU,AKm]at e;obtain⟨a,e1,c,e2,rfl⟩:=e;obtain⟨h1,h2⟩:=T1 (J6:=J6) e2;refine⟨by simp[Jg.mk,h1],fun k p hk=> ?_⟩;cases k with
   |zero=>cases hk;exact⟨a,rfl,b,cs,rfl,zr,e1⟩
   |succ k=>
    grind[Jg.mk]
  simp_all
 | .sl d r::l,some b::m,x,e=>by
  simp only[Jg.get]at e;split at e
  ·rename_i d' q rows hb
   split at e
   ·rename_i hd
    simp only[ALU,AKm]at e;obtain⟨a,e1,c,e2,rfl⟩:=e;obtain⟨e3,e4⟩:=IJ e1;subst e3;subst e4;obtain⟨h1,h2⟩:=T1 (J6:=J6) e2;refine⟨by simp[Jg.mk,h1],fun k p hk=> ?_⟩;cases k with
    |zero=>cases hk;exact⟨rows,rfl,b,d',rfl,hb,hd.1,hd.2⟩
    |succ k=>
     grind[Jg.mk]
   simp_all
  simp_all
 | .gone::l,o::m,x,e=>by
  have e':(Jg.get bx bk m l).map (fun c=>((),c))=some x:=by grind[Jg.get]
  simp only[AKm]at e';obtain⟨c,e2,rfl⟩:=e';obtain⟨h1,h2⟩:=T1 (J6:=J6) e2;refine⟨by simp[Jg.mk,h1],fun k p hk=> ?_⟩;cases k with
  |zero=>cases hk;exact⟨(),rfl,trivial⟩
  |succ k=>
   grind[Jg.mk]
 | .mem q::l,none::m,x,e=>by simp[Jg.get]at e
 | .sl d r::l,none::m,x,e=>by simp[Jg.get]at e
 | .mem _::_,[],x,e=>by simp[Jg.get]at e
 | .sl _ _::_,[],x,e=>by simp[Jg.get]at e
 | .gone::_,[],x,e=>by simp[Jg.get]at e
theorem Kx:∀{m:Qr} {bx:List Bx},(Cy bx m).length=bx.length
 |[],_=>rfl
 |some b::m,bx=>by simp[Cy,Kx]
 |none::m,bx=>by simp[Cy,Kx]
theorem TS:∀{m:Qr} {bx vw:List Bx},FO bx vw->FO (Cy bx m) vw
 |[],_,_,h=>h
 |none::m,bx,vw,h=>by simp only[Cy];exact TS h
 |some b::m,bx,vw,h=>by
  simp only[Cy];refine TS fun k B hk=> ?_
  by_cases e:k=b
  ·grind
  ·rw[AOK (by omega)]at hk
   exact h k B hk
theorem Yc:∀{m:Qr} {bx:List Bx} {b:Nat} {B:Bx},some b∈m->(Cy bx m)[b]? =some B->B= .dead
 |some c::m,bx,b,B,h,e=>by
  simp only[Cy]at e;by_cases hm:some b∈m
  ·exact Yc hm e
  ·have:c=b:=by
    simp_all
   subst this;have:∀{m:Qr} {bx:List Bx},bx[c]? =some .dead->some c∉m->(Cy bx m)[c]? =some .dead:=by
    intro m
    induction m with
    |nil=>intro bx h _;exact h
    |cons o m ih=>
     intro bx h hn;cases o with
     |none=>grind[Cy,List.mem_cons_of_mem]
     |some d=>
      grind[Cy,List.mem_cons_of_mem,List.getElem?_set_ne]
   grind[List.getElem?_eq_some_iff,Kx]
 |none::m,bx,b,B,h,e=>by
  simp only[Cy]at e;exact Yc (by simp_all) e
theorem r_{E:Env}{w:World}{vw:List Bx}:∀{m:Qr} {bx:List Bx} {G:ABy},ue m->C2 E w vw bx G->
  ∃Gs:List ABy,Gs.length=m.length/\(∀(k b:Nat) B F,m[k]? =some (some b)->bx[b]? =some B->Gs[k]? =some F->vF E w vw b B F)/\
   C2 E w vw (Cy bx m) (Gs.flatten++G)
 |[],bx,G,_,h=>⟨[],rfl,by simp,h⟩
 |none::m,bx,G,hi,h=>by
  obtain⟨Gs,h1,h2,h3⟩:=r_ (m:=m) (fun i j b Dc hj=>by
   have:=hi (i+1) (j+1) b (by simp_all) (by simp_all);omega) h
  refine⟨[]::Gs,by simp[h1],fun k b B F hk hB hF=> ?_,by grind[Cy]⟩;grind
 |some b::m,bx,G,hi,h=>by
  have AKe:ue m:=fun i j b Dc hj=>by
   have:=hi (i+1) (j+1) b (by simp_all) (by simp_all);omega
  cases e:bx[b]? with
  |none=>
   have aV:bx.set b .dead=bx:=List.set_eq_of_length_le (by simp_all);obtain⟨Gs,h1,h2,h3⟩:=r_ (m:=m) AKe h;refine⟨[]::Gs,by simp[h1],fun k b' B F hk hB hF=> ?_,by grind[Cy]⟩;grind
  |some B0=>
   obtain⟨F0,k1,k2⟩:=h.take e;obtain⟨Gs,h1,h2,h3⟩:=r_ (m:=m) AKe k2;refine⟨F0::Gs,by simp[h1],fun k b' B F hk hB hF=> ?_,?_⟩
   ·cases k with
    |zero=>
     simp_all
    |succ k=>
     have aO:b'≠b:=fun hh=>by
      have:=hi 0 (k+1) b (by simp) (by simp_all);omega
     grind
   ·simp only[Cy]
    refine h3.perm ?_
    grind
end Go.Fw
end
section
namespace Go.Fw
theorem sO{R:Nat->List Nat->List Nat->List Nat->Prop}:∀(Gs:List ABy) (o:Nat),(∀(k:Nat) G,Gs[k]? =some G-> ∃F W,G.Perm (F++W)/\R (o+k) G F W)->
  ∃Fs Ws:List ABy,Fs.length=Gs.length/\Ws.length=Gs.length/\Gs.flatten.Perm (Fs.flatten++Ws.flatten)/\
   ∀(k:Nat) G F W,Gs[k]? =some G->Fs[k]? =some F->Ws[k]? =some W->R (o+k) G F W
 |[],o,_=>⟨[],[],rfl,rfl,by simp,by simp⟩
 |G::Gs,o,h=>by
  obtain⟨F,W,hp,hr⟩:=h 0 G rfl;obtain⟨Fs,Ws,h1,h2,h3,h4⟩:=sO Gs (o+1) (fun k G hk=>by
   have:=h (k+1) G (by simp_all)
   rwa [show o+1+k=o+(k+1)by omega])
  refine⟨F::Fs,W::Ws,by simp[h1],by simp[h2],?_,fun k G' F' W' hG hF hW=> ?_⟩
  all_goals grind
def NK(E:Env)(w:World)(vw:List Bx)(J6:Nat->Nat):(l:List (Nat×XP))->GU.V l->List Value->Prop
 |[],_,_=>True
 |(i,p)::l,x,vals=>(∃v,vals[i]? =some v/\XR E w vw (p.mk J6 x.1) v)/\NK E w vw J6 l x.2 vals
section
variable{E E1:Env} {w:World} {bx bk vw1:List Bx} {Fk:List ABy} {m:Qr}
theorem UC.map{f:Nat->Nat}(h:∀(i b:Nat),m[i]? =some (some b)->E1.IG i=E.IG b):∀{is bs:ABy},UC m is bs->
  (is.map fun b=>Value.pointer (some ⟨E1.IG b,0,none⟩))=bs.map fun b=>Value.pointer (some ⟨E.IG b,0,none⟩)
 |[],[],_=>rfl
 |i::is,b::bs,k=>by simp[h i b k.1,UC.map (f:=f) h k.2]
theorem UC.lt:∀{is bs:ABy},UC m is bs-> ∀i∈is,i<m.length
 |[],[],_,_,h=>by simp at h
 |i::is,b::bs,k,j,h=>by
  rcases ANC.1 h with rfl|h
  ·exact(AK1.1 k.1).1
  ·exact UC.lt k.2 j h
structure AH0 (N:Nat) (E:Env) (w:World) (bx bk:List Bx) (Fk:List ABy) (m:Qr) (E1:Env) (vw1:List Bx):Prop where
 within:FO bk bx
 boxes:OD E w bx bk Fk
 st:∀c,E.S c->E.T c
 T:∀c,sa E Fk c->E1.T c
 S:∀c,E.S c->E1.S c
 ids:∀(i b:Nat),m[i]? =some (some b)->E1.IG i=E.IG b/\E1.IF i=E.IF b
 len:m.length<=vw1.length
 nil:∀(i:Nat) d r rows,vw1[i]? =some (.sl d r rows)->E.IF (N+i)= .slice none 0 0
 sl:∀(i:Nat) d r rows,i<m.length->vw1[i]? =some (.sl d r rows)-> ∃b d',m[i]? =some (some b)/\bx[b]? =some (.sl d' r rows)
variable{N:Nat} (k:AH0 N E w bx bk Fk m E1 vw1)
include k
theorem ADP{p:AP}{x:AV}{v:Value}(hv:VR E w bx x v)(ha:TP N m p x){y:p.V}(e:p.get bk x=some y):VR E1 w vw1 (p.mk id y) v:=by
 cases p with
 |v t=>
  simp only[AP.get]at e;split at e
  ·rename_i hs
   have hr:=XA k.within k.boxes k.st hv e;refine⟨hs,?_⟩;cases t with
   |int _=>grind[Rd]
   |bool=>grind[Rd]
   |str=>grind[Rd]
   |_=>simp[Ty.scalar]at hs
  simp_all
 |sl s r=>
  cases s with
  |false=>
   simp only[AP.get]at e;have hr:=XA k.within k.boxes k.st hv e;simp only[AP.mk,VR];exact Fz k.T (fun _ _=>rfl) (by omega)
  |true=>
   simp only[AP.get]at e;split at e
   ·rename_i q z
    obtain⟨e1,e2⟩:=IJ e;subst e1;subst e2;simp only[AP.mk,VR]at hv|-;exact Fz k.S (fun _ _=>rfl) (by simp_all)
   all_goals grind[AP.mk,VR,Rd]
 |nil=>
  obtain rfl:=ha;exact hv
 |ref i=>
  obtain⟨b,hx,hm⟩:=ha;have hi:=(AK1.1 hm).1;simp only[AP.mk,id,VR];rcases hx with rfl|⟨rfl,rfl⟩
  ·have hsl:=hv.1
   refine⟨hsl,?_⟩;cases e1:vw1[i]? with
   |none=>simp at e1;have:=k.len;omega
   |some B=>
    cases B with
    |sl d r rows=>
     obtain⟨b',d',h1,h2⟩:=k.sl i d r rows hi e1;rw[hm]at h1;cases h1;simp only[VR,h2]at hv
     replace hv:=hv.2
     refine⟨by simp[DC],⟨_,rfl⟩,?_⟩;rw[(k.ids i b hm).2];simp_all
    |_=>trivial
  ·have aj:v= .slice none 0 0:=hv
   subst aj;refine⟨rfl,?_⟩;cases e1:vw1[i]? with
   |none=>simp at e1;have:=k.len;omega
   |some B=>
    cases B with
    |sl d r rows=>
     refine⟨by simp[DC],⟨_,rfl⟩,?_⟩;rw[(k.ids i _ hm).2,k.nil i d r rows e1,C1]
    |_=>trivial
 |ptr i j=>
  obtain⟨b,rfl,hm⟩:=ha;have hi:=(AK1.1 hm).1;exact⟨AQQ hi k.len,by rw[hv.2,id,(k.ids i b hm).1]⟩
 |rA r=>
  simp only[AP.get]at e;split at e
  ·rename_i s q z
   obtain⟨e1,e2⟩:=IJ e;subst e1;subst e2;simp only[AP.mk,VR]at hv|-;obtain⟨bb,o,cs,h1,h2,h3,h4,h5⟩:=hv;have APu:∀c,(if s=true then E.S else E.T) c->E1.T c:=by
    intro c hc;cases s
    ·exact k.T c (.inl (by simp_all))
    ·exact k.T c (.inl (k.st c (by simp_all)))
   exact⟨bb,o,cs,h1,by simp_all,h3,h4,by simpa using Fz APu (fun _ _=>rfl) h5⟩
  ·rename_i b
   split at e
   ·rename_i cs hb
    obtain⟨F,⟨hF,arr,ty,fr,ha,hu,Xe⟩,Qt⟩:=k.boxes.get hb;have aU:=ku k.within k.boxes k.st Xe e;simp only[AP.mk,VR];refine⟨E.IG b,0,arr.toList,by simpa using hv.2,?_,oD aU,?_,by simpa using Fz k.T (fun _ _=>rfl) aU⟩
    ·simp only[ALY,ANX]
     exact k.T _ (.inr (Qt _ (by simp_all)))
    ·intro j u hj
     simp only[ARQ,World.cell?,ha,ARE,ALY,ANX];simp_all
   simp_all
  ·rename_i b p i sz
   split at e
   ·rename_i d q rows hb
    simp only[ALU]at e;obtain⟨⟨q',ys⟩,e1,e2⟩:=e;split at e2
    case isFalse=>cases e2
    rename_i LP;obtain⟨e3,e4⟩:=IJ e2;dsimp only at e3;subst e3;subst e4;simp only[VR,bf k.within hb]at hv;obtain⟨_,hp,q1,ys1,bb,o,len,cap,hg,hi,hh,rfl⟩:=hv;rw[hg]at e1;simp only[AKX,AL1]at e1;obtain⟨e5,e6⟩:=e1;subst e5;obtain rfl:=AOs e6;have aU:=iT k.within k.boxes k.st hb hp hg hh;simp only[Rd]at aU;obtain⟨a',cap',ee,_,aU⟩:=aU;simp only[ANN,Value.slice.injEq,AQ6]at ee;obtain⟨rfl,rfl,rfl⟩:=ee;rcases aU with aU|⟨b1,o1,e7,hb1,aU⟩
    ·omega
    ·cases e7
     obtain⟨cs,c1,c2,c3⟩:=aU i _ (Si hi);simp only[AP.mk,VR];refine⟨bb,o+i*q1.n,cs,by rw[LP],by simpa using k.T _ hb1,c1,c2,by simpa using Fz k.T (fun _ _=>rfl) c3⟩
   simp_all
  simp_all
 |fn f K4=>
  obtain⟨bs,rfl,hc⟩:=ha;refine⟨fun i hi=>AQQ (hc.lt i (by simp_all)) k.len,?_⟩;rw[hv.2];simp only[AP.mk,List.map_id];rw[UC.map (f:=id) (fun i b h=>(k.ids i b h).1) hc]
 |vZ f rs=>
  simp only[AP.get]at e;split at e
  ·rename_i g rows
   split at e
   case isFalse=>cases e
   rename_i hfg;subst hfg;obtain⟨ps,gH,dR⟩:=hv;refine⟨ps,gH,?_⟩;clear ha gH
   induction rs generalizing rows ps with
   |nil=>
    cases rows with
    |nil=>
     cases ps with
     |nil=>trivial
     |cons _ _=>exact dR.elim
    |cons _ _=>simp[bu.s_]at e
   |cons r rs ih=>
    cases rows with
    |nil=>simp[bu.s_]at e
    |cons q rows=>
     cases ps with
     |nil=>exact dR.elim
     |cons p ps=>
      simp only[bu.s_,ALU,AKm]at e;obtain⟨x1,e1,x2,e2,rfl⟩:=e;obtain⟨q1,q2⟩:=q;obtain⟨e3,e4⟩:=IJ e1;dsimp only at e3;subst e3;subst e4;obtain⟨⟨bb,o,cs,h1,h2,h3,h4,h5⟩,dR⟩:=dR;exact⟨⟨bb,o,cs,h1,k.T bb (.inl h2),h3,h4,Fz (fun b hb=>k.T b (.inl hb)) (fun _ _=>rfl) h5⟩,ih rows e2 ps dR⟩
  ·rename_i g bs
   split at e
   case isFalse=>cases e
   rename_i hfg;subst hfg;obtain⟨gH,dR⟩:=hv;refine⟨bs.map fun b=>Value.pointer (some ⟨E.IG b,0,none⟩),dR,?_⟩;clear ha gH dR
   induction rs generalizing bs with
   |nil=>
    cases bs with
    |nil=>trivial
    |cons _ _=>simp[bu.sR]at e
   |cons r rs ih=>
    cases bs with
    |nil=>simp[bu.sR]at e
    |cons b bs=>
     simp only[bu.sR,ALU,AKm]at e;obtain⟨x1,e1,x2,e2,rfl⟩:=e;split at e1
     case h_2=>cases e1
     rename_i cs hb;obtain⟨F,⟨hF,arr,ty,fr,ha,hu,Xe⟩,Qt⟩:=k.boxes.get hb;have aU:=ku k.within k.boxes k.st Xe e1;refine⟨⟨E.IG b,0,arr.toList,rfl,k.T _ (.inr (Qt _ (by simp_all))),oD aU,?_,Fz k.T (fun _ _=>rfl) aU⟩,ih bs e2⟩;intro j u hj;simp only[ARQ,World.cell?,ha,ARE,ALY,ANX];simp_all
  simp_all
 |any=>trivial
 |oX i sz=>
  obtain⟨b,q,j,rfl,hm⟩:=ha;have hi:=(AK1.1 hm).1;simp only[AP.get,AKX]at e;subst e;simp only[AP.mk,id,VR];have hsl:=hv.1;refine⟨hsl,?_⟩;cases e1:vw1[i]? with
  |none=>simp at e1;have:=k.len;omega
  |some B=>
   cases B with
   |sl d r rows=>
    obtain⟨b',d',h1,h2⟩:=k.sl i d r rows hi e1;rw[hm]at h1;cases h1;simp only[VR,h2]at hv
    replace hv:=hv.2
    refine⟨hv.1,hv.2.1,?_⟩;rw[(k.ids i b hm).2];simp_all
   |_=>trivial
theorem sA:∀{l:List AP} {xs:List AV} {vs:List Value},mo E w bx xs vs->Cc (TP N m) l xs-> ∀{y:aM.V l},aM.get bk l xs=some y->mo E1 w vw1 (aM.mk id l y) vs
 |[],[],[],_,_,_,_=>trivial
 |p::l,x::xs,v::vs,hv,ha,y,e=>by
  simp only[aM.get,ALU,AKm]at e;obtain⟨a,e1,b,e2,rfl⟩:=e;exact⟨ADP k hv.1 ha.1 e1,sA hv.2 ha.2 e2⟩
 |[],[],_::_,hv,_,_,_=>hv.elim
 |_::_,_::_,[],hv,_,_,_=>hv.elim
 |[],_::_,_,_,ha,_,_=>ha.elim
 |_::_,[],_,_,ha,_,_=>ha.elim
theorem yh:∀{l:List (AP ⊕ List AP)} {xs:List (AV ⊕ List AV)} {vs:List Value},Cc (TR E w bx) xs vs->Cc (kD N m) l xs-> ∀{y:bq.V l},bq.get bk l xs=some y->
  Cc (TR E1 w vw1) (bq.mk id l y) vs
 |[],[],[],_,_,_,_=>trivial
 | .inl p::l,.inl x::xs,v::vs,hv,ha,y,e=>by
  simp only[bq.get,ALU,AKm]at e;obtain⟨a,e1,b,e2,rfl⟩:=e;exact⟨ADP k hv.1 ha.1 e1,yh hv.2 ha.2 e2⟩
 | .inr p::l,.inr x::xs,v::vs,hv,ha,y,e=>by
  simp only[bq.get,ALU,AKm]at e;obtain⟨a,e1,b,e2,rfl⟩:=e;obtain⟨⟨us,hu,hus⟩,h2⟩:=hv;exact⟨⟨us,hu,sA k hus ha.1 e1⟩,yh h2 ha.2 e2⟩
 | .inl _::_,.inr _::_,_,_,ha,_,_=>ha.1.elim
 | .inr _::_,.inl _::_,_,_,ha,_,_=>ha.1.elim
 |[],[],_::_,hv,_,_,_=>hv.elim
 |_::_,_::_,[],hv,_,_,_=>hv.elim
 |[],_::_,_,_,ha,_,_=>ha.elim
 |_::_,[],_,_,ha,_,_=>ha.elim
theorem APy{p:XP}{x:XV}{v:Value}(hv:XR E w bx x v)(ha:eJ N m p x){y:p.V}(e:p.get bk x=some y):XR E1 w vw1 (p.mk id y) v:=by
 cases p with
 |c p=>cases x with
  |c x=>exact ADP k hv ha (by grind[XP.get])
  |_=>exact ha.elim
 |agg l=>cases x with
  |agg xs=>
   obtain⟨vs,rfl,Xe⟩:=hv;exact⟨vs,rfl,sA k Xe ha (by grind[XP.get])⟩
  |_=>exact ha.elim
 |row r=>cases x with
  |agg xs=>
   obtain⟨vs,rfl,Xe⟩:=hv;exact⟨vs,rfl,lh k.within k.boxes k.st k.T Xe (by grind[XP.get])⟩
  |_=>exact ha.elim
 |L8 l=>cases x with
  |L8 xs=>
   obtain⟨vs,rfl,Xe⟩:=hv;exact⟨vs,rfl,yh k Xe ha (by grind[XP.get])⟩
  |_=>exact ha.elim
theorem xm{tm:List XV}{vals:List Value}(htm:Cc (XR E w bx) tm vals):∀{l:List (Nat×XP)},(∀q∈l,∃x,tm[q.1]? =some x/\eJ N m q.2 x)-> ∀{y:GU.V l},GU.get bk tm l=some y->
  NK E1 w vw1 id l y vals
 |[],_,_,_=>trivial
 |(i,p)::l,ha,y,e=>by
  obtain⟨x,hx,hax⟩:=ha (i,p) (by simp);simp only[GU.get,hx,ALU,AKm]at e;obtain⟨a,e1,b,e2,rfl⟩:=e;obtain⟨v,hv,hr⟩:=htm.get hx;exact⟨⟨v,hv,APy k hr hax e1⟩,xm htm (fun q hq=>ha q (by simp[hq])) e2⟩
end
structure zc (E:Env) (w:World) (bx:List Bx) (m:Qr) (s:Bb) (x:s.V) (vals:List Value) (E1:Env):Prop where
 boxes:C2 E1 w (Jg.mk id s.GV x.2) (Jg.mk id s.GV x.2) []
 D1:NK E1 w (Jg.mk id s.GV x.2) id s.D1 x.1 vals
 ids:∀(i b:Nat),m[i]? =some (some b)->E1.IG i=E.IG b/\E1.IF i=E.IF b
 inj:ue m
 len:m.length=s.GV.length
 S:∀c,E.S c->E1.S c
 Sof:∀c,E1.S c->E.S c\/ ¬E.T c
 T:∀c,E.T c->E1.T c
 rest:∃Fk,OD E w bx (Cy bx m) Fk/\Fk.flatten.Nodup/\(∀c∈Fk.flatten,¬E.T c/\ ¬E1.S c/\c<w.heap.size/\E1.T c)/\(∀c,E1.T c->E.T c\/E1.S c\/c∈Fk.flatten)
theorem og{E:Env}{w:World}{bx:List Bx}{tm:List XV}{vals:List Value}(hB:C2 E w bx bx [])(htm:Cc (XR E w bx) tm vals){s:Bb}{m0 m:Qr}{x:s.V}
  {N:Nat} (ADT:∀(i:Nat) d r,s.GV[i]? =some (.sl d r)->E.IF (N+i)= .slice none 0 0) (hlen:m0.length=s.GV.length) (AKe:ue m0) (e:s.fit N m0 tm bx=some (x,m)):Ext m0 m/\ ∃E1,zc E w bx m s x vals E1:=by
 simp only[Bb.fit,ALU,AKm]at e;obtain⟨m1,e1,m2,e2,a,e3,c,e4,e5⟩:=e;cases e5;obtain⟨a1,a2,a3⟩:=iN e1;obtain⟨b1,b2,b4,b3⟩:=Ye e2;have hi:ue m:=b3 (a3 AKe);have w_:m.length=s.GV.length:=by rw[b1.1,a1.1,hlen]
 refine⟨a1.trans b1,?_⟩;obtain⟨Gs,g1,g2,g3⟩:=r_ hi hB;obtain⟨q1,q2⟩:=T1 (J6:=id) e4;have st:=hB.st
 let R:Nat->List Nat->List Nat->List Nat->Prop:=fun k G F W=>
  match s.GV[k]? with
  |some (.sl d r)=> ∀(b d':Nat) (rows:List r.D),m[k]? =some (some b)->bx[b]? =some (.sl d' r rows)->Ow w (fun c=>E.S c\/c∈W) d (.sl r) [E.IF b] rows F
  |some (.mem q)=>F=G/\W=[]
  |_=>F=[]/\W=G
 have so:∀(k:Nat) G,Gs[k]? =some G-> ∃F W,G.Perm (F++W)/\R (0+k) G F W:=by
  intro k G hG;rw[ARQ];have hk:k<s.GV.length:=by
   grind
  have hp:s.GV[k]? =some s.GV[k]:=AKT hk;cases hb:s.GV[k]with
  |mem q=>exact⟨G,[],by simp,by grind⟩
  |gone=>exact⟨[],G,by simp,by grind⟩
  |sl d r=>
   obtain⟨y,y1,b,d',y2,y3,y4,y5⟩:=q2 k _ (hp.trans (by rw[hb]));obtain⟨_,ho⟩:=g2 k b _ G y2 y3 hG;grind[Kf]
 obtain⟨Fs,Ws,f1,f2,f3,f4⟩:=sO Gs 0 so;obtain⟨Fk,k1,k2⟩:=g3;simp only[ALu]at k2;have eH:Sep E w (Fk.flatten++(Fs.flatten++Ws.flatten)):=k2.perm (AUM _ f3)
 let E1:Env:={
   IG:=fun i=>match m[i]? with|some (some b)=>E.IG b|_=>0
   IF:=fun i=>match m[i]? with|some (some b)=>E.IF b|_=> .nilFunc
   S:=fun c=>E.S c\/c∈Ws.flatten
   T:=fun c=>E.T c\/c∈Ws.flatten\/c∈Fk.flatten }
 have AG_:∀(i b:Nat),m[i]? =some (some b)->E1.IG i=E.IG b/\E1.IF i=E.IF b:=fun i b h=>by grind
 have fe:AH0 N E w bx (Cy bx m) Fk m E1 (Jg.mk id s.GV c):={
  within:=TS (FO.refl bx)
  boxes:=k1
  st:=st
  T:=fun d hd=>hd.elim .inl fun h=> .inr (.inr h)
  S:=fun d hd=> .inl hd
  ids:=AG_
  len:=by omega
  nil:=fun i d r rows e=>by
   have hk:i<s.GV.length:=by
    grind
   obtain⟨y,y1,_⟩:=q2 i _ (AKT hk);have hp:=AKT hk;rw[e]at y1
   generalize s.GV[i]=P at y y1 hp
   cases P with
   |mem q=>cases y1
   |gone=>cases y1
   |sl d0 r0=>grind
  sl:=fun i d r rows hi e=>by
   have hk:i<s.GV.length:=by omega
   obtain⟨y,y1,y2⟩:=q2 i _ (AKT hk);rw[e]at y1
   generalize s.GV[i]=P at y y1 y2
   cases P with
   |mem q=>cases y1
   |gone=>cases y1
   |sl d0 r0=>
    simp only[BP.mk,AKX,Bx.sl.injEq]at y1;grind }
 have nd:=eH.nodup;have AHf:∀c∈Fs.flatten,¬E1.T c:=by
  intro d hd h;rcases h with h|h|h
  ·exact eH.free d (by simp[hd]) h
  all_goals grind
 have AOh:NK E1 w (Jg.mk id s.GV c) id s.D1 a vals:=xm fe htm (fun q hq=>let⟨x,h1,h2⟩:=a2 q hq;⟨x,h1,eJ.ext b1 h2⟩) e3;refine⟨E1,zc.mk ?_ AOh AG_ hi w_ (fun d hd=> .inl hd) ?_ (fun d hd=> .inl hd) ⟨Fk,k1,(AL8.1 nd).1,fun d hd=>⟨eH.free d (by simp[hd]),?_,eH.lt d (by simp[hd]),.inr (.inr hd)⟩,?_⟩⟩
 ·refine⟨Fs,⟨by simp_all,fun k B F hk hF=> ?_⟩,?_⟩
  ·have hkl:k<s.GV.length:=by
    grind
   have hp:s.GV[k]? =some s.GV[k]:=AKT hkl;obtain⟨y,y1,y2⟩:=q2 k _ hp;rw[hk]at y1;cases y1;have hG:Gs[k]? =some (Gs[k]'(by omega)):=AKT _;have hW:Ws[k]? =some (Ws[k]'(by omega)):=AKT _;have hr:=f4 k _ F _ hG hF hW;rw[ARQ]at hr;have AU8:∀d∈Ws[k]'(by omega),d∈Ws.flatten:=fun d hd=>APz.2 ⟨_,AMU hW,hd⟩
   generalize Ado:s.GV[k]=P at y y2 hp
   have AS9:=fun q=>b2 k q
   simp only[R,hp]at hr;cases P with
   |mem q=>
    obtain⟨b,cs,z1,z2,z3⟩:=y2;obtain⟨rfl,hW0⟩:=hr;obtain⟨hFe,arr,ty,fr,h1,h2,h3⟩:=g2 k b _ _ z1 z2 hG;obtain⟨b',iO,t1,t2,t3⟩:=AS9 q hp;rw[ARQ,z1]at t1;cases t1;rw[z2]at t2;cases t2;refine⟨by simp_all,arr,ty,fr,by simp_all,h2,sA fe h3 t3 z3⟩
   |sl d r=>
    obtain⟨b,d',z1,z2,z3,z4⟩:=y2;have:=hr b d' y z1 z2;refine⟨z3,?_⟩;rw[(AG_ k b z1).2];exact EV (fun d hd=>hd.elim .inl fun h=> .inr (AU8 d h)) (fun _ _=>rfl) (fun _ _=>rfl) this
   |gone=>exact hr.1
  ·simp only[ALu]
   refine⟨(AL8.1 (AL8.1 nd).2.1).1,AHf,fun d hd=>eH.lt d (by simp[hd]),fun d hd=>hd.elim (fun h=> .inl (st d h)) (fun h=> .inr (.inl h)),fun d hd=> ?_,eH.vz.mono (fun _ h=> .inl h) (fun _ _=>rfl)⟩;rcases hd with hd|hd|hd
   ·exact eH.eG d hd
   ·exact eH.lt d (by simp[hd])
   ·exact eH.lt d (by simp[hd])
 ·intro d hd
  exact hd.elim .inl fun h=> .inr (eH.free d (by simp[h]))
 ·intro h
  rcases h with h|h
  ·exact eH.free d (by simp[hd]) (st d h)
  grind
 grind
end Go.Fw
end
section
namespace Go.Fw
def zv:Ty->Value
 | .int k=> .int k 0
 | .bool=> .bool false
 | .str=> .string ⟨#[]⟩
 |_=> .slice none 0 0
def Eu:Ty->List Value
 | .cons c r=>zv c::Eu r
 | .unit=>[]
 |t=>[zv t]
def Ty.cell:Ty->Bool
 | .unit| .cons _ _=>false
 |_=>true
def Ty.rF:Ty->Bool
 | .cons c r=>c.cell&&r.rF
 |_=>true
def eqZ:Value->Value->Bool
 | .int k n,.int k' n' =>decide (k=k')&&decide (n=n')
 | .bool a,.bool b=>decide (a=b)
 | .string a,.string b=>decide (a.data.toList=[])&&decide (b.data.toList=[])
 | .slice none a b,.slice none c d=>decide (a=c)&&decide (b=d)
 |_,_=>false
theorem AOc{a b:Value}(h:eqZ a b=true):a=b:=by
 unfold eqZ at h;split at h
 ·simp_all
 ·simp_all
 ·rename_i a b
  simp at h;obtain⟨h1,h2⟩:=h;cases a;cases b;simp_all
 all_goals simp_all
def AFq:List Value->List Value->Bool
 |[],[]=>true
 |a::l,b::m=>eqZ a b&&AFq l m
 |_,_=>false
theorem ADn:∀{l m:List Value},AFq l m=true->l=m
 |[],[],_=>rfl
 |a::l,b::m,h=>by
  simp only[AFq,ALJ]at h;rw[AOc h.1,ADn h.2]
 |[],_::_,h=>by simp[AFq]at h
 |_::_,[],h=>by simp[AFq]at h
def zK(P:Program)(t:Nat):TD->Prop
 | .int k=>P.underlying t=some (.int k)
 | .bool=>P.underlying t=some .bool
 | .str=>P.underlying t=some .string
 | .sl e=>P.underlying t=some (.slice e)
 | .ptr e=>P.underlying t=some (.pointer e)
 | .st fs=> ∃fields,P.underlying t=some (.struct fields)/\fields.toList.map (fun f=>(f.offset,f.type))=fs/\(∀f∈fields.toList,f.name≠ "_" /\ ∃i,P.info? f.type=some i/\i.size≠0)/\
  P.stoodInHeld t=false/\P.eqGuardType P.depth t=false
 | .other=> ∃d,P.underlying t=some d/\d.isRow=false
structure AS3 (P:Program) (T:Jr) (t:Nat) (ti:TI):Prop where
 info:∃i,P.info? t=some i/\i.size=ti.size/\i.bytes=ti.bytes/\(∀r,ti.row=some r->r.rF=true/\ ∃z,i.zero=some z/\z.cells.toList=Eu r)
 und:zK P t ti.desc
def Eb(P:Program)(T:Jr):Prop:= ∀t ti,T.get t=some ti->AS3 P T t ti
def yL(P:Program)(T:Jr)(t:Nat)(ti:TI):Bool:=
 (match P.info? t with
  |some i=>decide (i.size=ti.size)&&decide (i.bytes=ti.bytes)&&(match ti.row with
   |some r=>r.rF&&(match i.zero with
    |some z=>AFq z.cells.toList (Eu r)
    |none=>false)
   |none=>true)
  |none=>false)&&
 (match ti.desc,P.underlying t with
  | .int k,some (.int k')=>decide (k=k')
  | .bool,some .bool=>true
  | .str,some .string=>true
  | .sl e,some (.slice e')=>decide (e=e')
  | .ptr e,some (.pointer e')=>decide (e=e')
  | .st fs,some (.struct fields)=>decide (fields.toList.map (fun f=>(f.offset,f.type))=fs)&&
    fields.toList.all (fun f=>decide (f.name≠ "_")&&(match P.info? f.type with|some i=>decide (i.size≠0)|none=>false))&&
    !P.stoodInHeld t&& !P.eqGuardType P.depth t
  | .other,some d=> !d.isRow
  |_,_=>false)
theorem yF{P:Program}{T:Jr}{t:Nat}{ti:TI}(h:yL P T t ti=true):AS3 P T t ti:=by
 unfold yL at h;rw[ALJ]at h;obtain⟨h1,h2⟩:=h;constructor
 ·split at h1
  ·rename_i i hi
   simp only[ALJ,ALh]at h1;refine⟨i,hi,h1.1.1,h1.1.2,fun r hr=> ?_⟩;obtain⟨_,h3⟩:=h1;rw[hr]at h3;dsimp only at h3;rw[ALJ]at h3;grind[ADn]
  simp_all
 grind[zK]
def AIg(P:Program)(T:Jr):Bool:=T.all fun q=>yL P T q.1 q.2
theorem Jr.get_mem:∀{T:Jr} {t:Nat} {ti:TI},T.get t=some ti->(t,ti)∈T
 |(u,i)::l,t,ti,h=>by
  simp only[Jr.get]at h;split at h
  ·rename_i e;cases h;subst e;simp
  ·exact AVq _ (Jr.get_mem h)
 |[],_,_,h=>by simp[Jr.get]at h
theorem vL{P:Program}{T:Jr}(h:AIg P T=true):Eb P T:=fun t ti e=>
 yF (by simpa using ARM.1 h (t,ti) (Jr.get_mem e))
section
variable{P:Program} {T:Jr} (hT:Eb P T)
include hT
theorem Eb.size{t:Nat}{ti:TI}(e:T.get t=some ti):(P.info? t).map (·.size)=some ti.size:=by
 obtain⟨i,h1,h2,_⟩:=(hT t ti e).info;simp_all
theorem Eb.sizeOf{t:Nat}{ti:TI}(e:T.get t=some ti)(w:World):(Go.sizeOf t).run P w= .ok ti.size w:=by
 obtain⟨i,h1,h2,_⟩:=(hT t ti e).info;simp[Go.sizeOf,typeInfo,h1,h2]
omit hT in
theorem Be{t:Nat}{d:TypeDesc}(h:P.underlying t=some d)(w:World):(Go.underlying t).run P w= .ok d w:=by
 simp[Go.underlying,h]
theorem Eb.isAgg{t:Nat}{ti:TI}(e:T.get t=some ti)(w:World):(Go.isAgg t).run P w= .ok ti.desc.agg w:=by
 have hu:=(hT t ti e).und;unfold Go.isAgg;cases hd:ti.desc<;>rw[hd]at hu<;>simp only[zK]at hu
 case st fs=>
  obtain⟨fields,hu,_⟩:=hu;simp[Be hu,TD.agg]
 case other=>
  obtain⟨d,hu,hd⟩:=hu;rw[Sem.run_bind,Be hu];cases d<;>simp_all[TypeDesc.isRow,TD.agg]
 all_goals simp[Be hu,TD.agg]
end
end Go.Fw
end
section
namespace Go.Fw
def Lr{Y:Type}(P:Program)(o:Oper)(E:Env)(σ:St)(a:Act)(w:World)(k:K Y)(y:Y):Prop:=
 ∃v w' E' x σ',((execOp a.eval o).run P w= .ok (.value v) w'\/((execOp a.eval o).run P w= .ok .skip w'/\v=undef))/\Rel E' σ' a w'/\XR E' w' σ'.bx x v/\S5 (Kz (fun _=>none) σ o.op) E σ.bx w E' σ'.bx w'/\
  σ'.tm.length=σ.tm.length/\k x σ' =some y
section
variable{Y:Type} {P:Program} {T:Jr} {o:Oper} {E:Env} {σ:St} {a:Act} {w:World} {k:K Y} {y:Y}
theorem Lr.same(h:Rel E σ a w){v:Value}{x:XV}(hr:(execOp a.eval o).run P w= .ok (.value v) w)(hx:XR E w σ.bx x v)(hk:k x σ=some y):Lr P o E σ a w k y:=
 ⟨v,w,E,x,σ,.inl hr,h,hx,S5.refl _ E σ.bx w,rfl,hk⟩
theorem eO{vw:List Bx}{κ:IntKind}{n:Int}{v:Value}(h:VR E w vw (.v (.int κ) n) v):v= .int κ n:=by
 have:=h.2;grind[Rd]
theorem UO{vw:List Bx}{b:Bool}{v:Value}(h:VR E w vw (.v .bool b) v):v= .bool b:=by
 have:=h.2;grind[Rd]
theorem Y_{vw:List Bx}{s:ABF}{v:Value}(h:VR E w vw (.v .str s) v):v= .string ⟨s.toArray⟩:=by
 have:=h.2;grind[Rd]
theorem VR.int{vw:List Bx}(κ:IntKind)(n:Int):VR E w vw (.v (.int κ) n) (.int κ n):=⟨rfl,by rfl⟩
theorem VR.bool{vw:List Bx}(b:Bool):VR E w vw (.v .bool b) (.bool b):=⟨rfl,by rfl⟩
theorem VR.str{vw:List Bx}(s:ABF):VR E w vw (.v .str s) (.string ⟨s.toArray⟩):=⟨rfl,by rfl⟩
theorem YK(s:ABF):ByteArray.toList ⟨s.toArray⟩=s:=by
 simp_all
theorem zT(a b:ABF):(⟨a.toArray⟩:ByteArray)++⟨b.toArray⟩=⟨(a++b).toArray⟩:=by
 rfl
theorem ABv(op:BinOp)(t:TypeId)(x y:Operand)(u v:Value)(hu:∀l,u≠ .agg l)(hn:u≠ .nilIface)(w:World):(eqGuard op t x y u v).run P w= .ok () w:=by
 unfold eqGuard;simp_all
theorem ABf{op:BinOp}{κ:IntKind}{m n:Int}{k:AV->Option Y}{y:Y}(e:jl op κ m n k=some y)(t:TypeId)(w:World):
  ∃z v,k z=some y/\(binOp op t (.int κ m) (.int κ n)).run P w= .ok v w/\ ∀E vw,VR E w vw z v:=by
 cases op with
 |add=>exact⟨_,.int κ (κ.wrap (m+n)),e,by simp[binOp,Op.intArith],fun _ _=>VR.int _ _⟩
 |sub=>exact⟨_,.int κ (κ.wrap (m-n)),e,by simp[binOp,Op.intArith],fun _ _=>VR.int _ _⟩
 |mul=>exact⟨_,.int κ (κ.wrap (m*n)),e,by simp[binOp,Op.intArith],fun _ _=>VR.int _ _⟩
 |and=>exact⟨_,.int κ (κ.wrap (BitVec.ofInt κ.bits m &&& BitVec.ofInt κ.bits n).toNat),e,by simp[binOp,Op.intBits],fun _ _=>VR.int _ _⟩
 |or=>exact⟨_,.int κ (κ.wrap (BitVec.ofInt κ.bits m ||| BitVec.ofInt κ.bits n).toNat),e,by simp[binOp,Op.intBits],fun _ _=>VR.int _ _⟩
 |xor=>exact⟨_,.int κ (κ.wrap (BitVec.ofInt κ.bits m ^^^ BitVec.ofInt κ.bits n).toNat),e,by simp[binOp,Op.intBits],fun _ _=>VR.int _ _⟩
 |andNot=>exact⟨_,.int κ (κ.wrap (BitVec.ofInt κ.bits m &&& ~~~BitVec.ofInt κ.bits n).toNat),e,by simp[binOp,Op.intBits],fun _ _=>VR.int _ _⟩
 |eql=>exact⟨_,.bool (m==n),e,by simp[binOp,Op.intCmp],fun _ _=>VR.bool _⟩
 |neq=>exact⟨_,.bool (m !=n),e,by simp[binOp,Op.intCmp],fun _ _=>VR.bool _⟩
 |lss=>exact⟨_,.bool (decide (m<n)),e,by simp[binOp,Op.intCmp],fun _ _=>VR.bool _⟩
 |leq=>exact⟨_,.bool (decide (m<=n)),e,by simp[binOp,Op.intCmp],fun _ _=>VR.bool _⟩
 |gtr=>exact⟨_,.bool (decide (m>n)),e,by simp[binOp,Op.intCmp],fun _ _=>VR.bool _⟩
 |geq=>exact⟨_,.bool (decide (m>=n)),e,by simp[binOp,Op.intCmp],fun _ _=>VR.bool _⟩
 |quo=>
  simp only[jl]at e;split at e
  ·cases e
  ·rename_i hz
   exact⟨_,.int κ (κ.wrap (m.tdiv n)),e,by simp[binOp,Op.intDiv,hz],fun _ _=>VR.int _ _⟩
 |rem=>
  simp only[jl]at e;split at e
  ·cases e
  ·rename_i hz
   exact⟨_,.int κ (m.tmod n),e,by simp[binOp,Op.intDiv,hz],fun _ _=>VR.int _ _⟩
 |_=>simp[jl]at e
theorem jc{op:BinOp}{κ κ':IntKind}{m n:Int}{k:AV->Option Y}{y:Y}(e:bj op κ m n k=some y)(t:TypeId)(w:World):
  ∃z v,k z=some y/\(binOp op t (.int κ m) (.int κ' n)).run P w= .ok v w/\ ∀E vw,VR E w vw z v:=by
 unfold bj at e;split at e
 ·cases e
 ·rename_i hn
  cases op with
  |shl=>exact⟨_,.int κ (κ.wrap (m*2^min n.toNat κ.bits)),e,by simp[binOp,Op.shift,hn],fun _ _=>VR.int _ _⟩
  |shr=>exact⟨_,.int κ (m.fdiv (2^min n.toNat κ.bits)),e,by simp[binOp,Op.shift,hn],fun _ _=>VR.int _ _⟩
  |_=>simp at e
theorem zy{op:BinOp}{s u:ABF}{k:AV->Option Y}{y:Y}(e:mj op s u k=some y)(t:TypeId)(w:World):
  ∃z v,k z=some y/\(binOp op t (.string ⟨s.toArray⟩) (.string ⟨u.toArray⟩)).run P w= .ok v w/\ ∀E vw,VR E w vw z v:=by
 have h1:=YK s;have h2:=YK u;cases op with
 |eql=>exact⟨_,.bool (s==u),e,by simp[binOp,Op.stringOp,h1,h2],fun _ _=>VR.bool _⟩
 |neq=>exact⟨_,.bool (!(s==u)),e,by simp[binOp,Op.stringOp,h1,h2],fun _ _=>VR.bool _⟩
 |lss=>exact⟨_,.bool (Op.bytesLess s u),e,by simp[binOp,Op.stringOp,h1,h2],fun _ _=>VR.bool _⟩
 |leq=>exact⟨_,.bool (Op.bytesLess s u||s==u),e,by simp[binOp,Op.stringOp,h1,h2],fun _ _=>VR.bool _⟩
 |gtr=>exact⟨_,.bool (!(Op.bytesLess s u||s==u)),e,by simp[binOp,Op.stringOp,h1,h2],fun _ _=>VR.bool _⟩
 |geq=>exact⟨_,.bool (!Op.bytesLess s u),e,by simp[binOp,Op.stringOp,h1,h2],fun _ _=>VR.bool _⟩
 |add=>
  simp only[mj]at e;split at e
  ·rename_i hl
   refine⟨_,.string ⟨(s++u).toArray⟩,e,?_,fun _ _=>VR.str _⟩;have hs:(⟨s.toArray⟩:ByteArray).size=s.length:=by rfl
   have hu:(⟨u.toArray⟩:ByteArray).size=u.length:=by rfl
   have aQ: ¬(((⟨s.toArray⟩:ByteArray).size+(⟨u.toArray⟩:ByteArray).size:Nat):Int)>IntKind.i64.max:=by
    grind[CN,IntKind.max,IntKind.signed,IntKind.bits]
   simp only[binOp,Op.stringOp,Sem.run_ite,AJk aQ,zT];rfl
  simp_all
 |_=>simp[mj]at e
theorem yt{d:TD}{x z:AV}{p:Bool}(e:uw d x z=some p){E:Env}{w:World}{vw:List Bx}{v u:Value}(hx:VR E w vw x v)(hz:VR E w vw z u){t:TypeId}
  (hu:zK P t d) (n:Nat):(Op.equalIn (n+1) t v u).run P w= .ok p w/\d.agg=false:=by
 unfold uw at e;split at e
 ·rename_i κ j a k b
  split at e
  ·rename_i hj
   subst hj;cases e;rw[eO hx,eO hz];exact⟨run_equalIn_int (P:=P) w n t j κ a b hu,rfl⟩
  simp_all
 ·cases e
  rw[UO hx,UO hz];exact⟨run_equalIn_bool' (P:=P) w n t _ _ hu,rfl⟩
 ·cases e
  rename_i a b;rw[Y_ hx,Y_ hz];have q:=run_equalIn_string (P:=P) w n t ⟨a.toArray⟩ ⟨b.toArray⟩ hu;rw[YK,YK]at q;exact⟨q,rfl⟩
 simp_all
theorem jt{T:Jr}(hT:Eb P T){E:Env}{w:World}{vw:List Bx}{xs ys:Array Value}:∀{fields:List Field} {i:Nat} {l m:List AV} {vs us:List Value} {r:Bool},
  (∀f∈fields,f.name≠ "_")->mo E w vw l vs->mo E w vw m us->Lc T i (fields.map fun f=>(f.offset,f.type)) l m=some r->
  (∀(j:Nat) v,vs[j]? =some v->xs[i+j]? =some v)->(∀(j:Nat) v,us[j]? =some v->ys[i+j]? =some v)->(Op.eqFields 9999 xs ys fields).run P w= .ok r w
 |[],i,[],[],_,_,r,_,_,_,e,_,_=>by
  simp only[AVZ,Lc,AKX]at e;subst e;rfl
 |f::fs,i,x::l,z::m,v::vs,u::us,r,hn,hx,hz,e,h1,h2=>by
  simp only[ARZ,Lc]at e;split at e
  case isFalse=>cases e
  rename_i ho;have hv:=h1 0 v rfl;have hu:=h2 0 u rfl;simp only[ART]at hv hu;have ARh:=hn f (by simp);split at e
  case h_2=>cases e
  rename_i ti Wq;split at e
  case h_2=>cases e
  rename_i p hp;simp only[AKm]at e;obtain⟨r',e',rfl⟩:=e;have AZC:=jt hT (fields:=fs) (i:=i+1) (l:=l) (m:=m) (vs:=vs) (us:=us) (r:=r') (fun f hf=>hn f (by simp[hf])) hx.2 hz.2 e'
   (fun j v' hj=>by have:=h1 (j+1) v' (by simp_all);rwa [show i+(j+1)=i+1+j by omega]at this)
   (fun j v' hj=>by have:=h2 (j+1) v' (by simp_all);rwa [show i+(j+1)=i+1+j by omega]at this)
  have lx:=(hT f.type ti Wq).und;obtain⟨q,na⟩:=yt (P:=P) hp hx.1 hz.1 (t:=f.type) lx 9998;have mn:=Eb.isAgg hT Wq w;rw[na]at mn;have p1:(part f.type xs f.offset).run P w= .ok v w:=by simp[part,mn,ho,hv]
  have p2:(part f.type ys f.offset).run P w= .ok u w:=by simp[part,mn,ho,hu]
  simp only[Op.eqFields,ARh,ne_eq,not_false_eq_true,AQY,Sem.run_bind,p1,p2,Result.andThen_ok,q,AZC,Sem.run_ite,Sem.run_pure];grind
 |[],_,_::_,_,_,_,_,_,_,_,e,_,_=>by simp[Lc]at e
 |[],_,[],_::_,_,_,_,_,_,_,e,_,_=>by simp[Lc]at e
 |_::_,_,[],_,_,_,_,_,_,_,e,_,_=>by simp[Lc]at e
 |_::_,_,x::_,[],_,_,_,_,_,_,e,_,_=>by simp[Lc]at e
 |_::_,_,_::_,_::_,[],_,_,_,hx,_,_,_,_=>hx.elim
 |_::_,_,_::_,_::_,_::_,[],_,_,_,hz,_,_,_=>hz.elim
theorem tF(op:BinOp)(t:TypeId)(p q:Bool)(hu:P.underlying t=some .bool)(w:World):(op= .eql->(binOp op t (.bool p) (.bool q)).run P w= .ok (.bool (p==q)) w)/\
  (op= .neq->(binOp op t (.bool p) (.bool q)).run P w= .ok (.bool (!(p==q))) w):=by
 have h:=run_equalIn_bool' (P:=P) w 9999 t p q hu;constructor
 ·rintro rfl
  grind[binOp,Op.equal,Op.maxDepth,Sem.run_bind,Result.andThen_ok,Sem.run_pure]
 ·rintro rfl
  grind[binOp,Op.equal,Op.maxDepth,Sem.run_bind,Result.andThen_ok,Sem.run_pure]
theorem jx{T:Jr}(hT:Eb P T){t:Nat}{op:BinOp}{x z:XV}{k:AV->Option Y}{y:Y}(e:ABM T t op x z k=some y){E:Env}{w:World}{vw:List Bx}{v u:Value}
  (hx:XR E w vw x v) (hz:XR E w vw z u) (ox oz:Operand):
  ∃r val,k r=some y/\(do eqGuard op t ox oz v u;binOp op t v u:Sem Value).run P w= .ok val w/\VR E w vw r val:=by
 have guard:∀(v u:Value),(∀l,v≠ .agg l)->v≠ .nilIface-> ∀val,(binOp op t v u).run P w= .ok val w->(do eqGuard op t ox oz v u;binOp op t v u:Sem Value).run P w= .ok val w:=by
  grind[Sem.run_bind,ABv,Result.andThen_ok]
 unfold ABM at e;split at e
 ·rename_i j m j' n
  have hv:=eO (E:=E) (vw:=vw) hx;have hu:=eO (E:=E) (vw:=vw) hz;subst hv hu;have done:∀(q:∃r val,k r=some y/\(binOp op t (.int j m) (.int j' n)).run P w= .ok val w/\ ∀E vw,VR E w vw r val),∃r val,k r=some y/\(do eqGuard op t ox oz (.int j m) (.int j' n);binOp op t (.int j m) (.int j' n):Sem Value).run P w= .ok val w/\VR E w vw r val:=by
   grind
  split at e
  ·exact done (jc e t w)
  ·exact done (jc e t w)
  ·split at e
   ·rename_i hj
    subst hj;exact done (ABf e t w)
   simp_all
 ·rename_i s s'
  have hv:=Y_ (E:=E) (vw:=vw) hx;have hu:=Y_ (E:=E) (vw:=vw) hz;subst hv hu;obtain⟨r,val,h1,h2,h3⟩:=zy (P:=P) e t w;grind
 ·rename_i p q
  have hv:=UO (E:=E) (vw:=vw) hx;have hu:=UO (E:=E) (vw:=vw) hz;subst hv hu;split at e
  ·rename_i ti Wq
   have lx:=(hT t ti Wq).und;split at e
   ·rename_i hd
    rw[hd]at lx;split at e
    ·exact⟨_,_,e,guard _ _ (by simp) (by simp) _ ((tF _ t p q lx w).1 rfl),VR.bool _⟩
    ·exact⟨_,_,e,guard _ _ (by simp) (by simp) _ ((tF _ t p q lx w).2 rfl),VR.bool _⟩
    simp_all
   simp_all
  simp_all
 ·rename_i l m
  obtain⟨vs,rfl,Xe⟩:=hx;obtain⟨us,rfl,hus⟩:=hz;have key:∀r,((T.fields t).bind fun fs=>Lc T 0 fs l m)=some r->(Op.equalIn 10000 t (.agg vs) (.agg us)).run P w= .ok r w/\P.eqGuardType P.depth t=false:=by
   intro r hr;simp only[ALU]at hr;obtain⟨fs,hf,hr⟩:=hr;unfold Jr.fields at hf;split at hf
   ·rename_i fs' hd
    cases hf;simp only[AKm]at hd;obtain⟨ti,Wq,hd⟩:=hd;have lx:=(hT t ti Wq).und;rw[hd]at lx;obtain⟨fields,hu,hfs,hnm,vX,hg⟩:=lx;grind[Program.fieldsOf,run_equalIn_agg,jt]
   simp_all
  split at e
  ·rename_i r hr
   obtain⟨q,hg⟩:=key r hr;refine⟨_,_,e,?_,VR.bool r⟩;grind[Sem.run_bind,run_eqGuard_agg,Result.andThen_ok,run_eql_struct]
  ·rename_i r hr
   obtain⟨q,hg⟩:=key r hr;refine⟨_,_,e,?_,VR.bool (!r)⟩;grind[Sem.run_bind,run_eqGuard_agg,Result.andThen_ok,run_neq_struct]
  simp_all
 simp_all
end
end Go.Fw
end
section
namespace Go.Fw
section
variable{Y:Type} {P:Program} {T:Jr} (hT:Eb P T) {E:Env} {w:World} {vw:List Bx}
include hT
theorem AJn{t:Nat}{s b:Nat}{fs:List AEG}{rw:Option Ty}(e:T.get t=some ⟨s,b,.st fs,rw⟩):∃fields,P.underlying t=some (.struct fields)/\fields.toList.map (fun f=>(f.offset,f.type))=fs/\
  ∀f∈fields.toList,∃i,P.info? f.type=some i/\i.size≠0:=by
 obtain⟨fields,h1,h2,h3,_⟩:=(hT t _ e).und;simp_all
omit hT in
theorem vN{a:Addr}{f:Field}(h:∃i,P.info? f.type=some i/\i.size≠0):(fieldPlace a f).run P w= .ok (a.add f.offset) w:=by
 obtain⟨i,h1,h2⟩:=h;simp[fieldPlace,Go.sizeOf,typeInfo,h1,h2]
theorem XI{t:Nat}{s b:Nat}{fs:List AEG}{rw:Option Ty}(e:T.get t=some ⟨s,b,.st fs,rw⟩){f o u:Nat}(hf:fs[f]? =some (o,u)){a:Addr}:
  (Instr.fieldAt t (.pointer (some a)) f).run P w= .ok (.pointer (some (a.add o))) w:=by
 obtain⟨fields,h1,h2,h3⟩:=AJn hT e;subst h2;simp only[AOR,AKm]at hf;obtain⟨fld,hfl,he⟩:=hf;have hm:=AMU hfl;have hfa:fields[f]? =some fld:=by simp_all
 simp only[APF]at he;simp[Instr.fieldAt,Be h1,hfa,Instr.sureAddr,vN (h3 fld hm),he.1]
theorem mi{t:Nat}{x z:XV}{f:Nat}(e:yB T t x f=some z){v:Value}(hx:XR E w vw x v):∃u,(Instr.fieldAt t v f).run P w= .ok u w/\XR E w vw z u:=by
 unfold yB at e;split at e
 case h_2=>cases e
 rename_i s b fs _ Wq;split at e
 case h_2=>cases e
 rename_i o u hf;split at e
 ·rename_i b' j
  cases e;obtain⟨h1,rfl⟩:=hx;exact⟨_,XI hT Wq hf,h1,by rw[Addr.add_eq]⟩
 ·rename_i b' p i sz j
  cases e;obtain⟨h0,h1⟩:=hx;cases v with
  |pointer oa=>
   cases oa with
   |none=>simp[fz]at h0
   |some a=>
    obtain⟨ab,ao,sp⟩:=a;cases sp with
    |some _=>simp[fz]at h0
    |none=>
     refine⟨_,XI hT Wq hf,by rw[Addr.add_eq];rfl,?_⟩;revert h1;split
     ·rintro⟨hp,q,ys,bb,o',len,cap,g1,g2,g3,g4⟩
      refine⟨hp,q,ys,bb,o',len,cap,g1,g2,g3,?_⟩;simp only[Value.pointer.injEq,AKX,Addr.mk.injEq,AQ6]at g4;grind[Addr.add_eq,Nat.add_assoc]
     all_goals simp_all
  |_=>simp[fz]at h0
 ·rename_i s r y j
  cases e;obtain⟨bb,o',cs,rfl,h2,h3,h4,h5⟩:=hx;refine⟨_,XI hT Wq hf,bb,o',cs,?_,h2,h3,h4,h5⟩;rw[Addr.add_eq,ARS]
 simp_all
theorem qD{t:Nat}{x z:XV}{f:Nat}(e:AIr T t x f=some z){v:Value}(hx:XR E w vw x v):∃u,(Instr.field t v f).run P w= .ok u w/\XR E w vw z u:=by
 unfold AIr at e;split at e
 case h_2=>cases e
 rename_i s b fs _ l Wq;obtain⟨vs,rfl,Xe⟩:=hx;split at e
 case h_2=>cases e
 rename_i o u hf;split at e
 case h_2=>cases e
 rename_i ti htu;obtain⟨fields,h1,h2,h3⟩:=AJn hT Wq;subst h2;simp only[AOR,AKm]at hf;obtain⟨fld,hfl,he⟩:=hf;have hfa:fields[f]? =some fld:=by simp_all
 simp only[APF]at he;obtain⟨rfl,rfl⟩:=he;have mn:=Eb.isAgg hT htu w;have LP:=Eb.sizeOf hT htu w;split at e
 ·rename_i ha
  cases e;rw[ha]at mn;refine⟨.agg (vs.extract fld.offset (fld.offset+ti.size)),?_,_,rfl,?_⟩
  ·simp[Instr.field,Be h1,hfa,asAgg,part,mn,LP]
  ·have:(vs.extract fld.offset (fld.offset+ti.size)).toList=(vs.toList.drop fld.offset).take ti.size:=by
    simp_all
   rw[this];exact Cc.take _ (Cc.drop _ Xe)
 ·rename_i ha
  simp only[AMv]at ha;rw[ha]at mn;simp only[AKm]at e;obtain⟨y,hy,rfl⟩:=e;obtain⟨v,hv,hr⟩:=Cc.get Xe hy;refine⟨v,?_,hr⟩;have:vs[fld.offset]? =some v:=by simp_all
  simp[Instr.field,Be h1,hfa,asAgg,part,mn,this]
theorem Kv{t:Nat}{r:Ty}(h:T.N5 t r=true):∃e ti,P.underlying t=some (.slice e)/\T.get e=some ti/\ti.size=r.n/\ti.bytes<=512/\ti.row=some r:=by
 unfold Jr.N5 at h;split at h
 ·rename_i ti Wq
  simp only[ALJ,ALh]at h;unfold Jr.elem at Wq;split at Wq
  ·rename_i e hd
   simp only[AKm]at hd;obtain⟨tj,h1,h2⟩:=hd;have:=(hT t tj h1).und;rw[h2]at this;exact⟨e,ti,this,Wq,h.1.1,h.1.2,h.2⟩
  simp_all
 simp_all
theorem ZS{t:Nat}(h:T.isStr t=true):P.underlying t=some .string:=by
 unfold Jr.isStr at h;split at h
 ·rename_i hd
  simp only[AKm]at hd;obtain⟨tj,h1,h2⟩:=hd;have:=(hT t tj h1).und;rw[h2]at this;exact this
 simp_all
theorem pV{t:Nat}(h:T.AKv t=true):∃e,P.underlying t=some (.slice e):=by
 unfold Jr.AKv at h;split at h
 ·rename_i e hd
  simp only[AKm]at hd;obtain⟨tj,h1,h2⟩:=hd;have:=(hT t tj h1).und;rw[h2]at this;exact⟨e,this⟩
 simp_all
omit hT in
theorem I9{x:XV}{n:Int}(e:gj x=some n){v:Value}(hx:XR E w vw x v):∃κ,v= .int κ n:=by
 unfold gj at e;split at e
 ·cases e;exact⟨_,eO (E:=E) (w:=w) (vw:=vw) hx⟩
 ·cases e
theorem iE{t:Nat}{r:Ty}(h:T.N5 t r=true){κ:IntKind}{i:Int}{a:Addr}{len cap:Nat}(h0:0<=i)(h1:i<(len:Int)):
  (Instr.indexAt t (.slice (some a) len cap) (.int κ i)).run P w= .ok (.pointer (some (a.add (i.toNat*r.n)))) w:=by
 obtain⟨e,ti,hu,Wq,hs,_⟩:=Kv hT h;have LP:=Eb.sizeOf hT Wq w;simp[Instr.indexAt,asIntOf,Be hu,h0,h1,LP,hs]
omit hT in
theorem AC7{bx:List Bx}{Fs:List ABy}(hB:OD E w bx bx Fs)(st:∀c,E.S c->E.T c){x:AV}{v:Value}(hv:VR E w bx x v){q:Ty}{ys:List q.D}(e:N6 bx x=some ⟨q,ys⟩):
  ∃a cap,v= .slice a ys.length cap/\ys.length<=cap/\(ys.length=0\/ ∃b o,a=some ⟨b,o,none⟩):=by
 have:=dd (FO.refl bx) hB st hv e;simp only[Rd]at this;obtain⟨a,cap,h1,h2,h3⟩:=this;simp only[ANN,AQ6]at h1;exact⟨a,cap,h1,h2,h3.imp id fun⟨b,o,h,_⟩=>⟨b,o,h⟩⟩
theorem mA{σ:St}{Fs:List ABy}(hB:OD E w σ.bx σ.bx Fs)(st:∀c,E.S c->E.T c){t:Nat}{x i:XV}{k:K Y}{y:Y}(e:oN σ T t x i k=some y){v u:Value}
  (hx:XR E w σ.bx x v) (hi:XR E w σ.bx i u):∃z val,k z σ=some y/\(Instr.indexAt t v u).run P w= .ok val w/\XR E w σ.bx z val:=by
 unfold oN at e;split at e
 ·rename_i s r rows n hn
  obtain⟨κ,rfl⟩:=I9 hn hi;split at e
  case isFalse=>cases e
  rename_i WG;split at e
  case isFalse=>cases e
  rename_i hb;obtain⟨h0,h1⟩:=hb;simp only[XR,VR,Rd]at hx;obtain⟨a,cap,hv,hl,hx⟩:=hx;simp only[ANN,AQ6]at hv;subst hv;rcases hx with hx|⟨b,o,rfl,hb,hx⟩
  ·omega
  ·have Ix:n.toNat<rows.length:=by omega
   obtain⟨cs,c1,c2,c3⟩:=hx n.toNat _ (Si Ix);refine⟨_,_,e,iE hT WG h0 h1,b,o+n.toNat*r.n,cs,?_,by omega,c1,c2,by omega⟩;rw[Addr.add_eq];rfl
 ·rename_i b p n hn
  obtain⟨κ,rfl⟩:=I9 hn hi;split at e
  case h_2=>cases e
  rename_i q hq;split at e
  case isFalse=>cases e
  rename_i WG;split at e
  case isFalse=>cases e
  rename_i hb;obtain⟨h0,h1⟩:=hb
  change VR E w σ.bx (.ref b p) v at hx
  obtain⟨a,cap,rfl,hl,ha⟩:=AC7 hB st hx hq;rcases ha with ha|⟨b',o,rfl⟩
  ·omega
  ·refine⟨_,_,e,iE hT WG h0 h1,by rw[Addr.add_eq];rfl,?_⟩
   simp only[N6]at hq;obtain⟨_,hx⟩:=hx;grind[Addr.add_eq]
 ·rename_i b p off n' n hn
  obtain⟨κ,rfl⟩:=I9 hn hi;split at e
  case h_2=>cases e
  rename_i q hq;split at e
  case isFalse=>cases e
  rename_i WG;split at e
  case isFalse=>cases e
  rename_i hb;obtain⟨h0,h1⟩:=hb;simp only[N6]at hq;obtain⟨h00,hx⟩:=hx;revert hx;split
  ·rename_i d r rows zk
   rw[zk]at hq;dsimp only at hq
   rintro⟨hp,q',ys,a,len,cap,g1,g2,g3,rfl⟩
   have aU:=iT (FO.refl _) hB st zk hp g1 g3;simp only[Rd]at aU;obtain⟨a',cap',ee,hle,aU⟩:=aU;simp only[ANN,Value.slice.injEq,AQ6]at ee;obtain⟨rfl,rfl,rfl⟩:=ee;rcases aU with aU|⟨b',o,rfl,_,_⟩
   ·omega
   ·unfold Xb
    rw[AJk (by omega)];have hq1:q.1=q':=by
     grind
    refine⟨_,_,e,iE hT WG h0 h1,by simp only[Option.map];rw[Addr.add_eq,Addr.add_eq];rfl,?_⟩;grind[Addr.add_eq,Nat.add_assoc,Nat.add_mul]
  all_goals simp_all
 simp_all
theorem fk{σ:St}{t:Nat}{x i:XV}{k:K Y}{y:Y}(e:Yv T t σ x i k=some y){v u:Value}(hx:XR E w vw x v)(hi:XR E w vw i u):
  ∃z val,k z σ=some y/\(Instr.index t v u).run P w= .ok val w/\XR E w vw z val:=by
 unfold Yv at e;split at e
 ·rename_i s n hn
  obtain⟨κ,rfl⟩:=I9 hn hi;have hv:=Y_ (E:=E) (w:=w) (vw:=vw) hx;subst hv;split at e
  case isFalse=>cases e
  rename_i vX;split at e
  case isFalse=>cases e
  rename_i hb;obtain⟨h0,h1⟩:=hb;refine⟨_,.int .u8 ((s.getD n.toNat 0).toNat:Int),e,?_,VR.int (E:=E) (vw:=vw) _ _⟩;have Ix:n.toNat<s.length:=by omega
  have:(⟨s.toArray⟩:ByteArray)[n.toNat]? =some s[n.toNat]:=by
   rw[getElem?_pos _ _ (by grind[ByteArray.size])];rfl
  simp[Instr.index,asIntOf,Be (ZS hT vX),h0,this,Ix]
 simp_all
omit hT in
theorem gX{x z:XV}{i:Nat}(e:t_ x i=some z){v:Value}(hx:XR E w vw x v):∃u,(Instr.extract v i).run P w= .ok u w/\XR E w vw z u:=by
 unfold t_ at e;split at e
 case h_2=>cases e
 rename_i l;obtain⟨vs,rfl,Xe⟩:=hx;split at e
 ·rename_i x hx
  cases e;obtain⟨v,hv,hr⟩:=Xe.get hx;have:vs[i]? =some v:=by simpa using hv
  exact⟨v,by simp[Instr.extract,this],hr⟩
 ·rename_i q hx
  cases e;obtain⟨v,hv,ws,rfl,hr⟩:=Xe.get hx;have:vs[i]? =some (.agg ws):=by simpa using hv
  exact⟨.agg ws,by simp[Instr.extract,this],ws,rfl,hr⟩
 ·cases e
omit hT in
theorem qF{bx:List Bx}{Fs:List ABy}(hB:OD E w bx bx Fs)(st:∀c,E.S c->E.T c){x:AV}{n:Nat}(e:lenOf bx x=some n){v:Value}(hx:VR E w bx x v):
  ∃a cap,v= .slice a n cap:=by
 cases x with
 |nil=>simp only[lenOf,AKX]at e;subst e;exact⟨_,_,hx⟩
 |sl s r x=>
  simp only[lenOf,AKX]at e;subst e;simp only[VR,Rd]at hx;obtain⟨a,cap,h,_⟩:=hx;simp only[ANN,AQ6]at h;exact⟨a,cap,h⟩
 |ref b p=>
  simp only[lenOf]at e;split at e
  ·rename_i d r rows hb
   simp only[AKm]at e;obtain⟨q,hq,rfl⟩:=e;obtain⟨a,cap,h,_⟩:=AC7 hB st hx (q:=q.1) (ys:=q.2) (by simp only[N6,hb];exact hq);exact⟨a,cap,h⟩
  ·cases e
 |win b p off m=>
  simp only[lenOf]at e;split at e
  ·rename_i d r rows hb
   cases e;simp only[VR,hb]at hx;obtain⟨_,_,q,ys,a,len,cap,_,_,_,rfl⟩:=hx;exact⟨_,_,rfl⟩
  ·cases e
 |_=>simp[lenOf]at e
omit hT in
theorem VQ{big:Bool}{x z:XV}{k:AV->Option Y}{y:Y}(e:zH big x z k=some y){v u:Value}(hx:XR E w vw x v)(hz:XR E w vw z u)(t s:Array TypeId)(tt:TypeId):
  ∃r val,k r=some y/\(if big then Builtin.max_ t tt #[v,u]else Builtin.min_ t tt #[v,u]).run P w= .ok val w/\VR E w vw r val:=by
 unfold zH at e;split at e
 ·rename_i j m j' n
  have hv:=eO (E:=E) (w:=w) (vw:=vw) hx;have hu:=eO (E:=E) (w:=w) (vw:=vw) hz;subst hv hu;split at e
  case isFalse=>cases e
  rename_i hj;subst hj;cases big with
  |true=>exact⟨_,.int j (if n>m then n else m),e,by simp[Builtin.max_,Builtin.max2],VR.int _ _⟩
  |false=>exact⟨_,.int j (if n<m then n else m),e,by simp[Builtin.min_,Builtin.min2],VR.int _ _⟩
 ·cases e
omit hT in
theorem o6{op:UnOp}{x:XV}{k:AV->Option Y}{y:Y}(e:unX op x k=some y){v:Value}(hx:XR E w vw x v):
  ∃r val,k r=some y/\(Op.unary op v).run P w= .ok val w/\VR E w vw r val:=by
 unfold unX at e;split at e
 ·have hv:=UO (E:=E) (w:=w) (vw:=vw) hx
  subst hv;exact⟨_,_,e,by simp[Op.unary],VR.bool _⟩
 ·rename_i j n
  have hv:=eO (E:=E) (w:=w) (vw:=vw) hx;subst hv;exact⟨_,.int j (j.wrap (0-n)),e,by simp[Op.unary,Op.intArith],VR.int _ _⟩
 ·cases e
end
end Go.Fw
end
section
namespace Go.Fw
theorem Ss{a:Ty}(x:a.D):tL rfl x=x:=rfl
theorem i6{w:World}{S:Nat->Prop}:∀{r:Ty} {d j:Nat} {cs:List Value} {x:r.D} {F:ABy} {t:Ty} {y:t.D},Ow w S d r cs x F->BV r j x=some ⟨t,y⟩->
  ∃v F1 F2,cs[j]? =some v/\Ow w S d t [v] y F1/\F.Perm (F1++F2)/\
   ∀(w':World) (S':Nat->Prop) (v':Value) (y':t.D) (rz:ABy) (x':r.D),(∀b,S b->S' b)->(∀b,S b->w'.heap[b]? =w.heap[b]?)->(∀b∈F2,w'.heap[b]? =w.heap[b]?)->
    Ow w' S' d t [v'] y' rz->D6 r j x t y' =some x'-> ∃F',F'.Perm (rz++F2)/\Ow w' S' d r (cs.set j v') x' F'
 | .cons c r,d,0,cs,x,F,t,y,h,e=>by
  simp only[Ow]at h;obtain⟨v,l,A,B,rfl,rfl,h1,h2⟩:=h;simp only[BV,AKX,AL1]at e;obtain⟨rfl,e⟩:=e;obtain rfl:=AOs e;refine⟨v,A,B,rfl,h1,AVy _,fun w' S' v' y' rz x' hS xJ hF ho hx=> ?_⟩;simp only[D6,AVk,Ss,AKX]at hx;subst hx;refine⟨rz++B,AVy _,?_⟩;simp only[Ow,AVa];exact⟨v',l,rz,B,rfl,rfl,ho,EV hS xJ hF h2⟩
 | .cons c r,d,j+1,cs,x,F,t,y,h,e=>by
  simp only[Ow]at h;obtain⟨v,l,A,B,rfl,rfl,h1,h2⟩:=h;simp only[BV]at e;obtain⟨u,F1,F2,k1,k2,k3,k4⟩:=i6 h2 e;refine⟨u,F1,A++F2,by simp_all,k2,?_,fun w' S' v' y' rz x' hS xJ hF ho hx=> ?_⟩
  ·grind
  ·simp only[D6,AKm]at hx
   obtain⟨z,hz,rfl⟩:=hx;obtain⟨F',p1,p2⟩:=k4 w' S' v' y' rz z hS xJ (fun b hb=>hF b (by simp[hb])) ho hz;refine⟨A++F',?_,?_⟩
   ·grind
   ·simp only[Ow,List.set_cons_succ]
    exact⟨v,_,A,F',rfl,rfl,EV hS xJ (fun b hb=>hF b (by simp[hb])) h1,p2⟩
 | .int k,d,0,cs,x,F,t,y,h,e=>by
  simp only[BV,AKX,AL1]at e;obtain⟨rfl,e⟩:=e;obtain rfl:=AOs e;have hc:=ZB h;obtain⟨v,rfl⟩:∃v,cs=[v]:=by
   cases cs with
   |nil=>simp[Ty.n]at hc
   |cons a l=>grind[Ty.n]
  refine⟨v,F,[],rfl,h,by simp,fun w' S' v' y' rz x' hS xJ hF ho hx=>⟨rz,by simp,?_⟩⟩;simp only[D6,AVk,Ss,AKX]at hx;simp_all
 | .bool,d,0,cs,x,F,t,y,h,e=>by
  simp only[BV,AKX,AL1]at e;obtain⟨rfl,e⟩:=e;obtain rfl:=AOs e;have hc:=ZB h;obtain⟨v,rfl⟩:∃v,cs=[v]:=by
   cases cs with
   |nil=>simp[Ty.n]at hc
   |cons a l=>grind[Ty.n]
  refine⟨v,F,[],rfl,h,by simp,fun w' S' v' y' rz x' hS xJ hF ho hx=>⟨rz,by simp,?_⟩⟩;simp only[D6,AVk,Ss,AKX]at hx;simp_all
 | .str,d,0,cs,x,F,t,y,h,e=>by
  simp only[BV,AKX,AL1]at e;obtain⟨rfl,e⟩:=e;obtain rfl:=AOs e;have hc:=ZB h;obtain⟨v,rfl⟩:∃v,cs=[v]:=by
   cases cs with
   |nil=>simp[Ty.n]at hc
   |cons a l=>grind[Ty.n]
  refine⟨v,F,[],rfl,h,by simp,fun w' S' v' y' rz x' hS xJ hF ho hx=>⟨rz,by simp,?_⟩⟩;simp only[D6,AVk,Ss,AKX]at hx;simp_all
 | .sl r,d,0,cs,x,F,t,y,h,e=>by
  simp only[BV,AKX,AL1]at e;obtain⟨rfl,e⟩:=e;obtain rfl:=AOs e;have hc:=ZB h;obtain⟨v,rfl⟩:∃v,cs=[v]:=by
   cases cs with
   |nil=>simp[Ty.n]at hc
   |cons a l=>grind[Ty.n]
  refine⟨v,F,[],rfl,h,by simp,fun w' S' v' y' rz x' hS xJ hF ho hx=>⟨rz,by simp,?_⟩⟩;simp only[D6,AVk,Ss,AKX]at hx;simp_all
 | .unit,_,_,_,_,_,_,_,_,e=>by simp[BV]at e
 | .int _,_,_+1,_,_,_,_,_,_,e=>by simp[BV]at e
 | .bool,_,_+1,_,_,_,_,_,_,e=>by simp[BV]at e
 | .str,_,_+1,_,_,_,_,_,_,e=>by simp[BV]at e
 | .sl _,_,_+1,_,_,_,_,_,_,e=>by simp[BV]at e
theorem pB{Fs:List ABy}{i:Nat}{G G':ABy}(h:Fs[i]? =some G):(Fs.set i G').flatten.Perm (G'++(Fs.set i []).flatten):=by
 have Ix:=(AK1.1 h).1;have p1:=Wb (Fs:=Fs.set i G') (b:=i) (F:=G') (AQ8 (by omega));simp_all
theorem yD{w:World}{S:Nat->Prop}{d:Nat}{q:Ty}{a:Option Addr}{len cap:Nat}{ys:List q.D}{F:ABy}(h:Ow w S (d+1) (.sl q) [.slice a len cap] ys F){i:Nat}(hi:i<ys.length):
  ∃b o arr ty fr cs G R,a=some ⟨b,o,none⟩/\w.heap[b]? =some (.cells arr ty fr)/\AAX fr arr.size/\o+i*q.n+q.n<=arr.size/\cs.length=q.n/\Bg w b (o+i*q.n) cs/\
   Ow w S d q cs (rowAt q ys i) G/\F.Perm (G++(b::R))/\
   ∀(w':World) (S':Nat->Prop) (Ku:Array Value) (iO:List Value) (dU:q.D) (G':ABy),(∀c,S c->S' c)->(∀c,S c->w'.heap[c]? =w.heap[c]?)->(∀c∈R,w'.heap[c]? =w.heap[c]?)->
    w'.heap[b]? =some (.cells Ku ty fr)->Ku.size=arr.size->(∀k,(k<o+i*q.n\/o+i*q.n+q.n<=k)->Ku[k]? =arr[k]?)->iO.length=q.n->Bg w' b (o+i*q.n) iO->
    Ow w' S' d q iO dU G'-> ∃F',F'.Perm (G'++(b::R))/\Ow w' S' (d+1) (.sl q) [.slice a len cap] (ys.set i dU) F':=by
 simp only[Ow]at h;obtain⟨a',cap',e,hle,h⟩:=h;simp only[ANN,Value.slice.injEq,AQ6]at e;obtain⟨rfl,rfl,rfl⟩:=e;rcases h with⟨h1,_⟩|⟨b,o,arr,ty,fr,Fs,rfl,hb,LP,hu,rfl,hFl,cy⟩
 ·omega
 ·have hG:Fs[i]? =some (Fs[i]'(by omega)):=AKT _
  generalize Fs[i]'(by omega)=G at hG
  obtain⟨cs,c1,c2,c3⟩:=cy i _ G (Si hi) hG;have hbound:o+i*q.n+q.n<=arr.size:=by
   have:(i+1)*q.n<=cap*q.n:=AME _ (by omega);grind
  refine⟨b,o,arr,ty,fr,cs,G,(Fs.set i []).flatten,rfl,hb,fun i hi=>hu i (by omega),hbound,c1,c2,c3,?_,?_⟩
  ·refine(List.Perm.cons b (Wb hG)).trans ?_
   exact List.perm_middle.symm
  ·intro w' S' Ku iO dU G' hS xJ hR hb' hs' hk qN hca ho
   refine⟨b::(Fs.set i G').flatten,?_,?_⟩
   ·grind[List.Perm.cons,pB,trans]
   ·simp only[Ow]
    refine⟨_,cap,by simp,by simp_all,.inr ⟨b,o,Ku,ty,fr,Fs.set i G',rfl,hb',by omega,by simp_all,rfl,by simp_all,fun k y H hy hH=> ?_⟩⟩;by_cases e:k=i
    ·grind
    ·rw[AOK (by omega)]at hy
     rw[AOK (by omega)]at hH;obtain⟨ds,d1,d2,d3⟩:=cy k y H hy hH;refine⟨ds,d1,fun j v hj=> ?_,EV hS xJ (fun c hc=>hR c (APz.2 ⟨H,AMU (by grind:(Fs.set i [])[k]? =some H),hc⟩)) d3⟩;have hjl:=(AK1.1 hj).1;have hold:=d2 j v hj;simp only[World.cell?,hb,ARE,ALY,ANX]at hold;simp only[World.cell?,hb',ARE,ALY,ANX];rw[hk,hold];rcases Nat.lt_or_gt_of_ne e with e|e
     ·left
      have:(k+1)*q.n<=i*q.n:=AME _ e;grind
     ·right
      have:(i+1)*q.n<=k*q.n:=AME _ e;grind
theorem vO{w:World}{S:Nat->Prop}:∀{p:List Yu} {d:Nat} {r:Ty} {h:Value} {rows:List r.D} {F:ABy} {q:Ty} {ys:List q.D},Ow w S d (.sl r) [h] rows F->DC r rows p->
  G8 r rows p=some ⟨q,ys⟩->p.length<d-> ∃h' F1 F2,JC w h p=some h'/\Ow w S (d-p.length) (.sl q) [h'] ys F1/\F.Perm (F1++F2)/\
   ∀(w':World) (S':Nat->Prop) (zi:List q.D) (rz:ABy) (rows':List r.D),(∀c,S c->S' c)->(∀c,S c->w'.heap[c]? =w.heap[c]?)->(∀c∈F2,w'.heap[c]? =w.heap[c]?)->
    Ow w' S' (d-p.length) (.sl q) [h'] zi rz->uD r rows p q zi=some rows'-> ∃F',F'.Perm (rz++F2)/\Ow w' S' d (.sl r) [h] rows' F'
 |[],d,r,h,rows,F,q,ys,ho,_,hg,_=>by
  simp only[G8,AKX,AL1]at hg;obtain⟨rfl,e⟩:=hg;obtain rfl:=AOs e;refine⟨h,F,[],C1,ho,by simp,fun w' S' zi rz rows' _ _ _ ho' hs=>⟨rz,by simp,?_⟩⟩;simp only[uD,AVk,Ss,AKX]at hs;simp_all
 |s::p,d,r,h,rows,F,q,ys,ho,hp,hg,hd=>by
  obtain⟨d,rfl⟩:∃n,d=n+1:=⟨d-1,by omega⟩;simp only[DC]at hp;obtain⟨hi,LP,hp⟩:=hp;simp only[G8]at hg;obtain⟨a,len,cap,rfl⟩:∃a len cap,h= .slice a len cap:=by
   grind[Ow]
  split at hg
  case h_2=>cases hg
  rename_i q' x' kf;rw[kf]at hp;obtain⟨b,o,arr,ty,fr,cs,G,R,rfl,hb,hu,hbd,c1,c2,c3,uK,hback⟩:=yD ho hi;obtain⟨v,A1,A2,k1,k2,k3,k4⟩:=i6 c3 kf;obtain⟨h',F1,F2,m1,m2,m3,m4⟩:=vO k2 hp hg (by simp_all);have APu:d+1-(s::p).length=d-p.length:=by simp
  refine⟨h',F1,F2++A2++(b::R),?_,by simp_all,?_,?_⟩
  ·simp only[JC]
   rw[LP,c2 _ _ k1];omega
  ·grind
  ·intro w' S' zi rz rows' hS xJ hF2 ho' aV
   rw[APu]at ho';simp only[uD,kf]at aV;simp only[ALU,AKm]at aV;obtain⟨x2,hx2,dU,hrow,rfl⟩:=aV;obtain⟨B1,p1,p2⟩:=m4 w' S' zi rz x2 hS xJ (fun c hc=>hF2 c (by simp[hc])) ho' hx2;obtain⟨B2,p3,p4⟩:=k4 w' S' v x2 B1 dU hS xJ (fun c hc=>hF2 c (by simp[hc])) p2 hrow;have AKM:cs.set s.j v=cs:=by
    apply ASy;grind
   rw[AKM]at p4;have hbb:=hF2 b (by simp);obtain⟨F',p5,p6⟩:=hback w' S' arr cs dU B2 hS xJ (fun c hc=>hF2 c (by simp[hc])) (hbb.trans hb) rfl (fun _ _=>rfl) c1 (c2.of_block hbb) p4;grind
end Go.Fw
end
section
namespace Go.Fw
def OR(E:Env)(w:World)(vw:List Bx):Option XV->Option Value->Prop
 |none,none=>True
 |some x,some v=>XR E w vw x v
 |_,_=>False
section
variable{Y:Type} {P:Program} {T:Jr} (hT:Eb P T) {E:Env} {w:World} {vw:List Bx}
theorem run_sliceBound{κ:IntKind}{i:Int}{y:Nat}{code:BoundsCode}(h0:0<=i)(h1:i<=(y:Int)):(Instr.sliceBound (.int κ i) y code).run P w= .ok i.toNat w:=by
 simp[Instr.sliceBound,asIntOf,h0,h1]
theorem VK{len cap:Nat}(hc:len<=cap){lo hi:Option XV}{k:Nat->Nat->Option Y}{y:Y}(e:Pj len lo hi k=some y){lv hv:Option Value}
  (hl:OR E w vw lo lv) (hh:OR E w vw hi hv) (b:Bool):∃l h,k l h=some y/\l<=h/\h<=len/\(Instr.sliceBounds b len cap lv hv none).run P w= .ok (l,h,cap) w:=by
 unfold Pj at e;dsimp only at e;split at e
 case h_2=>cases e
 rename_i l h el eh;split at e
 case isFalse=>cases e
 rename_i hb;obtain⟨b1,b2,b3⟩:=hb;refine⟨l.toNat,h.toNat,e,by omega,by omega,?_⟩;cases hi with
 |none=>cases hv with
  |some _=>exact hh.elim
  |none=>
   simp only[AKX]at eh;subst eh;cases lo with
   |none=>cases lv with
    |some _=>exact hl.elim
    |none=>
     simp only[AKX]at el;subst el;rfl
   |some x=>cases lv with
    |none=>exact hl.elim
    |some v=>
     obtain⟨κ,rfl⟩:=I9 (E:=E) (w:=w) (vw:=vw) el hl;simp[Instr.sliceBounds,run_sliceBound (P:=P) (w:=w) (κ:=κ) (i:=l) (y:=len) b1 (by omega)]
 |some x=>cases hv with
  |none=>exact hh.elim
  |some v=>
   obtain⟨κ,rfl⟩:=I9 (E:=E) (w:=w) (vw:=vw) eh hh;have e1:=fun code=>run_sliceBound (P:=P) (w:=w) (κ:=κ) (i:=h) (y:=cap) (code:=code) (by omega) (by omega)
   cases lo with
   |none=>cases lv with
    |some _=>exact hl.elim
    |none=>
     simp only[AKX]at el;subst el;simp[Instr.sliceBounds,e1]
   |some x=>cases lv with
    |none=>exact hl.elim
    |some v=>
     obtain⟨κ',rfl⟩:=I9 (E:=E) (w:=w) (vw:=vw) el hl;have e2:=fun code=>run_sliceBound (P:=P) (w:=w) (κ:=κ') (i:=l) (y:=h.toNat) (code:=code) b1 (by omega)
     simp[Instr.sliceBounds,e1,e2]
theorem wH(s:ABF)(l h:Nat):(⟨s.toArray⟩:ByteArray).extract l h=⟨((s.drop l).take (h-l)).toArray⟩:=by
 apply ByteArray.ext;simp[List.extract_eq_take_drop]
include hT
theorem mT{σ:St}{Fs:List ABy}(hB:OD E w σ.bx σ.bx Fs)(st:∀c,E.S c->E.T c){t:Nat}{x:XV}{lo hi:Option XV}{k:K Y}{y:Y}(e:nV T t σ x lo hi k=some y)
  {v:Value} {lv hv:Option Value} (hx:XR E w σ.bx x v) (hl:OR E w σ.bx lo lv) (hh:OR E w σ.bx hi hv):
  ∃z val,k z σ=some y/\(Instr.sliceAt t v lv hv none).run P w= .ok val w/\XR E w σ.bx z val:=by
 unfold nV at e;split at e
 ·rename_i s
  split at e
  case isFalse=>cases e
  rename_i vX;have hu:=ZS hT vX;have aj:=Y_ (E:=E) (w:=w) (vw:=σ.bx) hx;subst aj;obtain⟨l,h,ek,h1,h2,hr⟩:=VK (P:=P) (cap:=s.length) (AMN _) e hl hh false;refine⟨_,.string ⟨((s.drop l).take (h-l)).toArray⟩,ek,?_,VR.str (E:=E) (vw:=σ.bx) _⟩;have hs:(⟨s.toArray⟩:ByteArray).size=s.length:=by rfl
  simp[Instr.sliceAt,Be hu,Instr.slice,hs,hr,wH]
 ·rename_i s r rows
  split at e
  case isFalse=>cases e
  rename_i WG;obtain⟨el,ti,hu,Wq,hs,_⟩:=Kv hT WG;have LP:=Eb.sizeOf hT Wq w
  change VR E w σ.bx (.sl s r rows) v at hx
  have vW:=hx;simp only[VR,Rd]at vW;obtain⟨a,cap,aj,hle,_⟩:=vW;simp only[ANN,AQ6]at aj;subst aj;obtain⟨l,h,ek,h1,h2,hr⟩:=VK (P:=P) hle e hl hh true;refine⟨_,Xb r.n l (h-l) a cap,ek,?_,?_⟩
  ·simp[Instr.sliceAt,Be hu,Instr.slice,hr,LP,hs,Xb]
  grind[XR,VR,ACk]
 ·rename_i b p
  split at e
  case h_2=>cases e
  rename_i q hq;split at e
  case isFalse=>cases e
  rename_i WG;obtain⟨el,ti,hu,Wq,hs,_⟩:=Kv hT WG;have LP:=Eb.sizeOf hT Wq w
  change VR E w σ.bx (.ref b p) v at hx
  obtain⟨a,cap,rfl,hle,_⟩:=AC7 hB st hx hq;obtain⟨l,h,ek,h1,h2,hr⟩:=VK (P:=P) hle e hl hh true;refine⟨_,Xb q.1.n l (h-l) a cap,ek,?_,?_⟩
  ·simp[Instr.sliceAt,Be hu,Instr.slice,hr,LP,hs,Xb]
  ·simp only[N6]at hq
   obtain⟨_,hx⟩:=hx;refine⟨by rfl,?_⟩;grind
 simp_all
omit hT in
theorem ea{f:Nat->Option AV}:∀{n j:Nat} {l:List AV},ig f j n=some l->l.length=n/\ ∀(i:Nat) x,l[i]? =some x->f (j+i)=some x
 |0,j,l,e=>by simp only[ig,AKX]at e;subst e;simp
 |n+1,j,l,e=>by
  simp only[ig,ALU,AKm]at e;obtain⟨x,hx,l',hl,rfl⟩:=e;obtain⟨h1,h2⟩:=ea hl;refine⟨by simp[h1],fun i z hz=> ?_⟩;cases i with
  |zero=>simp at hz;subst hz;exact hx
  |succ i=>
   have:=h2 i z (by simpa using hz)
   rwa [show j+1+i=j+(i+1)by omega]at this
omit hT in
theorem Yx{B:Nat->Prop}{t:Ty}{x:t.D}{v:Value}(h:Rd w B t [v] x)(hs:t.scalar=true):VR E w vw (.v t x) v:=by
 refine⟨hs,?_⟩;cases t<;>first
  |(simpa only[Rd]using h)
  |(simp[Ty.scalar]at hs)
omit hT in
theorem AE3{s:Bool}{t:Ty}{x:t.D}{v:Value}(h:Rd w (if s then E.S else E.T) t [v] x):VR E w vw (AC_ s ⟨t,x⟩) v:=by
 cases t with
 |sl r=>simp only[AC_,VR];exact h
 |int k=>exact Yx h rfl
 |bool=>exact Yx h rfl
 |str=>exact Yx h rfl
 |unit=>trivial
 |cons c r=>trivial
omit hT in
theorem pf{s:Yu}:∀{p:List Yu} {r:Ty} {rows:List r.D} {q:Ty} {ys:List q.D} {t:Ty} {x:List t.D},DC r rows p->G8 r rows p=some ⟨q,ys⟩->s.i<ys.length->s.sz=q.n->
  BV q s.j (rowAt q ys s.i)=some ⟨.sl t,x⟩->DC r rows (p++[s])/\G8 r rows (p++[s])=some ⟨t,x⟩
 |[],r,rows,q,ys,t,x,_,hg,hi,hs,hc=>by
  simp only[G8,AKX,AL1]at hg;obtain⟨rfl,e⟩:=hg;obtain rfl:=AOs e;refine⟨?_,?_⟩
  ·simp only[AQH,DC,hc]
   exact⟨hi,hs,trivial⟩
  ·simp only[AQH,G8,hc]
 |s'::p,r,rows,q,ys,t,x,hp,hg,hi,hs,hc=>by
  simp only[DC]at hp;obtain⟨h1,h2,hp⟩:=hp;simp only[G8]at hg;split at hg
  ·rename_i q' x' kf
   rw[kf]at hp;obtain⟨a,b⟩:=pf hp hg hi hs hc;refine⟨?_,?_⟩
   ·simp only[ARU,DC,kf]
    exact⟨h1,h2,a⟩
   ·simp only[ARU,G8,kf]
    exact b
  ·cases hg
omit hT in
theorem si{s:Yu}:∀{p:List Yu} {h:Value} {b o len cap:Nat} {v:Value},JC w h p=some (.slice (some ⟨b,o,none⟩) len cap)->w.cell? ⟨b,o+s.i*s.sz+s.j,none⟩=some v->
  JC w h (p++[s])=some v
 |[],h,b,o,len,cap,v,e,hc=>by
  rw[C1]at e;cases e;simp[JC,hc,C1]
 |s'::p,h,b,o,len,cap,v,e,hc=>by
  cases h with
  |slice a l c=>
   cases a with
   |none=>simp[JC]at e
   |some a=>
    simp only[JC]at e;split at e
    ·rename_i h' hh
     simp only[ARU,JC,hh];exact si e hc
    ·cases e
  |_=>simp[JC]at e
omit hT in
theorem MB{bx:List Bx}{Fs:List ABy}(hB:OD E w bx bx Fs)(st:∀c,E.S c->E.T c){x z:AV}{i:Nat}(e:Ju bx x i=some z){v:Value}(hx:VR E w bx x v):
  ∃b o u,v= .pointer (some ⟨b,o,none⟩)/\w.cell? ⟨b,o+i,none⟩=some u/\VR E w bx z u:=by
 cases x with
 |Ir b j=>
  simp only[Ju]at e;split at e
  ·rename_i cs hb
   obtain⟨F,⟨_,arr,ty,fr,ha,hu,hv⟩,_⟩:=hB.get hb;obtain⟨u,h1,h2⟩:=Cc.get hv e;refine⟨_,_,u,hx.2,?_,h2⟩;simp only[World.cell?,ha,ARE,ALY,ANX];simpa using h1
  ·cases e
 |J5 b p r sz j=>
  simp only[Ju]at e;split at e
  ·rename_i d q rows hb
   split at e
   case isFalse=>cases e
   rename_i hd;simp only[ALU]at e;obtain⟨⟨q',zi⟩,hg,e⟩:=e;split at e
   case isFalse=>cases e
   rename_i LP;simp only[AKm]at e;obtain⟨⟨t,y⟩,hc,rfl⟩:=e;simp only[VR,hb]at hx;obtain⟨_,hp,q1,ys,bb,o,len,cap,g1,g2,g3,rfl⟩:=hx;rw[hg]at g1;simp only[AKX,AL1]at g1;obtain⟨rfl,g1⟩:=g1;obtain rfl:=AOs g1;dsimp only at LP hc;obtain⟨F,⟨hd1,ho⟩,hF⟩:=hB.get hb;have aU:=iT (FO.refl bx) hB st hb hp hg g3;have AcZ:=aU;simp only[Rd]at aU;obtain⟨a',cap',ee,hle,aU⟩:=aU;simp only[ANN,Value.slice.injEq,AQ6]at ee;obtain⟨rfl,rfl,rfl⟩:=ee;rcases aU with aU|⟨b1,o1,e7,_,aU⟩
   ·omega
   ·cases e7
    obtain⟨cs,c1,c2,c3⟩:=aU r _ (Si g2);obtain⟨u,hu,hur⟩:=iu c3 hc;have du:=c2 _ _ hu;rw[<-LP]at du;refine⟨_,_,u,rfl,by rw[ARS];exact du,?_⟩;cases t with
    |sl t' =>
     simp only[AD2];split
     ·rename_i hdd
      obtain⟨h',F1,F2,m1,m2,_,_⟩:=vO ho hp hg hd;rw[g3]at m1;cases m1;rw[show d-p.length=0+1 by omega]at m2;obtain⟨b2,o2,arr,ty,fr,cs2,G,R,e2,_,_,_,_,k2,k3,_,_⟩:=yD m2 g2;cases e2;obtain⟨v2,A1,A2,z1,z2,_,_⟩:=i6 k3 hc;have AHg:=k2 _ _ z1;rw[<-LP,du]at AHg;cases AHg;simp only[Ow]at z2;simp only[VR];exact z2.1
     ·simp only[VR,hb]
      have:=pf (s:=⟨r,sz,j+i⟩) hp hg g2 LP hc;simp only[Rd]at hur;obtain⟨a2,cap2,e2,_⟩:=hur;simp only[ANN,AQ6]at e2;refine⟨by rw[e2];rfl,this.1,⟨_,this.2⟩,si g3 du⟩
    |int k=>exact Yx hur rfl
    |bool=>exact Yx hur rfl
    |str=>exact Yx hur rfl
    |unit=>trivial
    |cons c r=>trivial
  ·cases e
 |Qf s r y j=>
  simp only[Ju,AKm]at e;obtain⟨⟨t,y'⟩,hc,rfl⟩:=e;obtain⟨bb,o,cs,rfl,h2,h3,h4,h5⟩:=hx;obtain⟨u,hu,hur⟩:=iu h5 hc;refine⟨_,_,u,rfl,by rw[ARS];exact h4 _ _ hu,AE3 hur⟩
 |_=>simp[Ju]at e
omit hT in
theorem gi{bx:List Bx}{Fs:List ABy}(hB:OD E w bx bx Fs)(st:∀c,E.S c->E.T c){x:AV}{v:Value}(hx:VR E w bx x v){b o:Nat}(hv:v= .pointer (some ⟨b,o,none⟩)):
  ∀{l:List AV} {j:Nat},(∀(i:Nat) z,l[i]? =some z->Ju bx x (j+i)=some z)-> ∃cs:List Value,cs.length=l.length/\Bg w b (o+j) cs/\mo E w bx l cs
 |[],_,_=>⟨[],rfl,fun _ _ h=>by simp at h,trivial⟩
 |z::l,j,h=>by
  obtain⟨b',o',u,e1,e2,e3⟩:=MB hB st (h 0 z rfl) hx;subst hv;simp only[Value.pointer.injEq,AKX,Addr.mk.injEq,AQ6]at e1;obtain⟨rfl,rfl⟩:=e1;obtain⟨cs,c1,c2,c3⟩:=gi hB st hx rfl (l:=l) (j:=j+1) (fun i y hy=>by
   have:=h (i+1) y (by simpa using hy)
   rwa [show j+1+i=j+(i+1)by omega])
  refine⟨u::cs,by simp[c1],fun i y hy=> ?_,e3,c3⟩;cases i with
  |zero=>simp at hy;subst hy;exact e2
  |succ i=>
   have:=c2 i y (by simpa using hy)
   rwa [show o+(j+1)+i=o+j+(i+1)by omega]at this
theorem ABT{σ:St}{Fs:List ABy}(hB:OD E w σ.bx σ.bx Fs)(st:∀c,E.S c->E.T c){t:Nat}{x z:XV}(e:pv T t σ x=some z){v:Value}(hx:XR E w σ.bx x v):
  ∃u,(Instr.loadAt t v).run P w= .ok u w/\XR E w σ.bx z u:=by
 unfold pv at e;split at e
 case h_2=>cases e
 rename_i x ti Wq;split at e
 case isTrue=>cases e
 rename_i LP;have mn:=Eb.isAgg hT Wq w;split at e
 ·rename_i ha
  rw[ha]at mn;simp only[AKm]at e;obtain⟨l,hl,rfl⟩:=e;obtain⟨h1,h2⟩:=ea hl;have h0:0<l.length:=by omega
  obtain⟨b,o,u,hv,_,_⟩:=MB hB st (h2 0 _ (AKT h0)) hx;obtain⟨cs,c1,c2,c3⟩:=gi hB st hx hv (l:=l) (j:=0) (fun i y hy=>by simp_all);subst hv;have lx:=(hT t ti Wq).und;cases hd:ti.desc with
  |st fs=>
   rw[hd]at lx;obtain⟨fields,hu,_⟩:=lx;refine⟨.agg cs.toArray,run_loadAt_mid w b o t cs _ (by grind[Bg,World.rangeAt]) hu rfl ?_,cs.toArray,rfl,by omega⟩;grind[Eb.size]
  |_=>grind[TD.agg]
 ·rename_i ha
  simp only[AMv]at ha;rw[ha]at mn;simp only[AKm]at e;obtain⟨y,hy,rfl⟩:=e;obtain⟨b,o,u,hv,hc,hr⟩:=MB hB st hy hx;subst hv;refine⟨u,?_,hr⟩;simp only[ART]at hc;simp[Instr.loadAt,Instr.sureAddr,loadVar,mn,hc]
end
end Go.Fw
end
section
namespace Go.Fw
theorem um{w:World}{S:Nat->Prop}{d:Nat}{q:Ty}:Ow w S d (.sl q) [.slice none 0 0] [] []:=by
 cases d with
 |zero=>grind[Ow,Rd]
 |succ d=>grind[Ow]
theorem AHL{w:World}{S:Nat->Prop}{d:Nat}{r:Ty}{a:Option Addr}{len cap:Nat}{ys:List r.D}{F:ABy}(h:Ow w S (d+1) (.sl r) [.slice a len cap] ys F){off n:Nat}(hn:off+n<=ys.length):
  ∃F1 F2,F.Perm (F1++F2)/\Ow w S (d+1) (.sl r) [Xb r.n off n a cap] ((ys.drop off).take n) F1:=by
 simp only[Ow]at h|-;obtain⟨a',cap',e,hc,h⟩:=h;simp only[ANN,Value.slice.injEq,AQ6]at e;obtain⟨rfl,rfl,rfl⟩:=e;have hl:((ys.drop off).take n).length=n:=by grind
 by_cases h0:cap=off
 ·subst h0
  refine⟨[],F,by simp,a,0,by simp[Xb,hl],by omega,.inl ⟨rfl,rfl⟩⟩
 ·rcases h with⟨h,rfl⟩|⟨b,o,arr,ty,fr,Fs,rfl,hb,LP,hu,rfl,hFl,hr⟩
  ·omega
  ·have p:Fs.flatten.Perm (((Fs.drop off).take n).flatten++((Fs.take off).flatten++(Fs.drop (off+n)).flatten)):=by
    grind[List.drop_drop,List.take_append_drop,List.flatten_append,List.append_assoc,List.Perm.append_right,List.perm_append_comm]
   refine⟨b::((Fs.drop off).take n).flatten,(Fs.take off).flatten++(Fs.drop (off+n)).flatten,List.Perm.cons b p,some ⟨b,o+off*r.n,none⟩,cap-off,?_,by omega,.inr ⟨b,o+off*r.n,arr,ty,fr,_,rfl,hb,?_,hu,rfl,?_,?_⟩⟩
   ·grind[Xb,Addr.add_eq]
   ·have:off*r.n+(cap-off)*r.n=cap*r.n:=by rw[<-ARK];grind
    omega
   all_goals grind
theorem Le.keep{E E':Env}(h:Le E E'){w:World}{vw:List Bx}(st:∀c,E.S c->E.T c):Um E w vw E' w vw:=
 ⟨AMN _,fun b _=>by rw[h.IG],h.T,h.S,st,fun _ _=>rfl,fun b d r rows _ e=>⟨d,rows,e,fun p hp q ys hg=>⟨hp,⟨ys,hg,rfl⟩,fun h' hh=>by rw[h.IF];omega⟩⟩⟩
theorem C2.share{E:Env}{w:World}{vw bx:List Bx}{F W G:ABy}(h:C2 E w vw bx (F++W++G)):
  let E':Env:={ E with S:=fun c=>E.S c\/c∈W,T:=fun c=>E.T c\/c∈W }
  Le E E'/\C2 E' w vw bx (F++G):=by
 intro E';have st:=h.st;have hle:Le E E':=⟨rfl,rfl,fun c hc=> .inl hc,fun c hc=> .inl hc,fun c hc=>hc.elim .inl fun h' => .inr (.inr h'),fun c hc=>hc.elim .inl fun h' => .inr (h.AGc c (by simp[h']))⟩;refine⟨hle,?_⟩;obtain⟨Fs,⟨h1,h2⟩,h3⟩:=h;refine⟨Fs,⟨h1,fun k B F' hk hF=> ?_⟩,?_⟩
 ·have:=h2 k B F' hk hF
  cases B with
  |mem cs=>
   obtain⟨rfl,arr,ty,fr,a1,a2,a3⟩:=this;exact⟨rfl,arr,ty,fr,a1,a2,a3.imp fun _ _ hv=>GQ (hle.keep st) hv⟩
  |sl d r rows=>exact⟨this.1,EV hle.S (fun _ _=>rfl) (fun _ _=>rfl) this.2⟩
  |dead=>exact this
 ·have h4:Sep E w (W++(Fs.flatten++(F++G))):=h3.perm (by
   grind)
  refine⟨(AL8.1 h4.nodup).2.1,fun c hc ht=> ?_,fun c hc=>h4.lt c (by simp_all),fun c hc=>hc.imp (st c) id,fun c hc=>hc.elim (h4.eG c) fun h' =>h4.lt c (by simp[h']),h4.vz.mono (fun _ h=> .inl h) (fun _ _=>rfl)⟩;rcases ht with ht|ht
  ·exact h4.free c (AMt.2 (.inr hc)) ht
  ·exact(AL8.1 h4.nodup).2.2 c ht c hc rfl
structure HJ (E:Env) (w:World) (vw bx:List Bx) (G:ABy) (E':Env) (R0:List Bx) (F:ABy):Prop where
 le:Le E E'
 len:R0.length=bx.length
 within:∀(b:Nat) (B:Bx),R0[b]? =some B->B= .dead\/bx[b]? =some B
 boxes:C2 E' w vw R0 (F++G)
theorem HJ.refl{E:Env}{w:World}{vw bx:List Bx}{G:ABy}(h:C2 E w vw bx G):HJ E w vw bx G E bx []:=
 ⟨Le.refl E,rfl,fun _ _ h=> .inr h,h⟩
theorem FO.sk{E E':Env}{w:World}{vw bx R0:List Bx}{G F:ABy}(h:FO bx vw)(k:HJ E w vw bx G E' R0 F):FO R0 vw:=fun b B e=>
 (k.within b B e).elim .inl (h b B)
theorem fA{E:Env}{w:World}{vw bx:List Bx}{G:ABy}(h:C2 E w vw bx G)(hw:FO bx vw){d:Nat}(hd:1<=d){t:Ty}{x:AV}{v:Value}(hv:VR E w vw x v){y:t.D}{R0:List Bx}{d':Nat}
  (e:ga d t x bx=some (y,R0,d')):1<=d'/\d'<=d/\ ∃E' F,HJ E w vw bx G E' R0 F/\Ow w E'.S (d'-1) t [v] y F:=by
 unfold ga at e;split at e
 ·rename_i u z
  simp only[AKm,APF]at e;obtain⟨z',e1,rfl,rfl,rfl⟩:=e;obtain⟨e2,e3⟩:=IJ e1;subst e2;subst e3;refine⟨hd,AMN _,E,[],HJ.refl h,?_⟩;obtain⟨hs,hr⟩:=hv;cases u<;>simp_all[Ty.scalar,Ow,Rd]
 ·split at e
  ·simp only[AKX,APF]at e
   obtain⟨rfl,rfl,rfl⟩:=e;simp only[VR]at hv;subst hv;exact⟨hd,AMN _,E,[],HJ.refl h,um⟩
  simp_all
 ·rename_i r z
  split at e
  ·rename_i q
   simp only[AKm,APF]at e;obtain⟨z',e1,rfl,rfl,rfl⟩:=e;obtain⟨e2,e3⟩:=IJ e1;subst e2;subst e3;refine⟨AMN _,hd,E,[],HJ.refl h,?_⟩;simp only[VR]at hv;simp only[AVx,Ow];simp_all
  simp_all
 ·rename_i b
  split at e
  case h_2=>cases e
  rename_i q;split at e
  case h_2=>cases e
  rename_i db r z hb;simp only[AKm,APF]at e;obtain⟨z',e1,rfl,rfl,rfl⟩:=e;obtain⟨e2,e3⟩:=IJ e1;subst e2;subst e3;obtain⟨F0,⟨hd1,ho⟩,hB⟩:=h.take hb;have hvv:v=E.IF b:=by
   grind[VR,bf,C1]
  subst hvv;obtain⟨F1,W,hp,ho'⟩:=Kf (d:=min d (db+1)-1) (by omega) ho;have Vp:=hB.perm (ARp G hp);obtain⟨hle,Z2⟩:=Vp.share;refine⟨by omega,Nat.min_le_left _ _,_,F1,⟨hle,by simp,fun k B hk=> ?_,Z2⟩,ho'⟩;grind
 ·rename_i b off n
  split at e
  case h_2=>cases e
  rename_i q;split at e
  case h_2=>cases e
  rename_i db r z hb;simp only[AKm,APF]at e;obtain⟨z',e1,rfl,rfl,rfl⟩:=e;obtain⟨e2,e3⟩:=IJ e1;subst e2;subst e3;obtain⟨F0,⟨hd1,ho⟩,hB⟩:=h.take hb;simp only[VR,bf hw hb,C1]at hv;obtain⟨_,_,q',ys,a,len,cap,hg,hn,hh,rfl⟩:=hv;simp only[G8,AKX,AL1]at hg;obtain⟨rfl,hg⟩:=hg;obtain rfl:=AOs hg;simp only[AKX]at hh;rw[hh]at ho;obtain⟨db,rfl⟩:∃m,db=m+1:=⟨db-1,by omega⟩;obtain⟨A1,A2,hp0,ho0⟩:=AHL ho hn;obtain⟨F1,W,hp,ho'⟩:=Kf (d:=min d (db+1+1)-1) (by omega) ho0;have hB1:C2 E w vw (bx.set b .dead) (A1++G):=by
   refine C2.drop (G':=A2) (hB.perm ?_);grind
  have Vp:=hB1.perm (ARp G hp);obtain⟨hle,Z2⟩:=Vp.share;refine⟨by omega,Nat.min_le_left _ _,_,F1,⟨hle,by simp,fun k B hk=> ?_,Z2⟩,ho'⟩;grind
 simp_all
theorem cE{w:World}{vw:List Bx}:∀{r:Ty} {E:Env} {bx:List Bx} {G:ABy} {d:Nat} {l:List AV} {vs:List Value} {y:r.D} {R0:List Bx} {d':Nat},C2 E w vw bx G->FO bx vw->1<=d->
  mo E w vw l vs->cellsIn d r l bx=some (y,R0,d')->1<=d'/\d'<=d/\ ∃E' F,HJ E w vw bx G E' R0 F/\Ow w E'.S (d'-1) r vs y F
 | .unit,E,bx,G,d,[],[],y,R0,d',h,hw,hd,_,e=>by
  simp only[cellsIn,AKX,APF]at e;obtain⟨_,rfl,rfl⟩:=e;exact⟨hd,AMN _,E,[],HJ.refl h,by grind[Ow]⟩
 | .cons c r,E,bx,G,d,x::l,v::vs,y,R0,d',h,hw,hd,hv,e=>by
  simp only[cellsIn,ALU,AKm,APF]at e;obtain⟨⟨y1,nF,d1⟩,e1,⟨y2,eF,d2⟩,e2,rfl,rfl,rfl⟩:=e;dsimp only at e2|-;obtain⟨a1,a2,E1,F1,k1,o1⟩:=fA h hw hd hv.1 e1;have ABR:=k1.le.keep (w:=w) (vw:=vw) h.st;obtain⟨b1,b2,E2,F2,k2,o2⟩:=cE (G:=F1++G) k1.boxes (hw.sk k1) a1 (hv.2.imp fun _ _ h=>GQ ABR h) e2;obtain⟨A,W,hp,o1'⟩:=Kf (d:=d'-1) (by omega) o1;have hB:=k2.boxes.perm (G':=(F2++A)++W++G) (by
   grind)
  obtain⟨hle,Z2⟩:=hB.share;refine⟨b1,APp b2 a2,_,A++F2,⟨(k1.le.trans k2.le).trans hle,k2.len.trans k1.len,fun b B hb=>(k2.within b B hb).elim .inl (k1.within b B),Z2.perm (ARp _ AVl)⟩,?_⟩;simp only[Ow];refine⟨v,vs,A,F2,rfl,rfl,?_,?_⟩
  ·refine EV (S:=fun b=>E1.S b\/b∈W) ?_ (fun _ _=>rfl) (fun _ _=>rfl) o1'
   intro c hc;exact hc.elim (fun h=> .inl (k2.le.S c h)) .inr
  ·refine EV (S:=E2.S) ?_ (fun _ _=>rfl) (fun _ _=>rfl) o2
   simp_all
 | .unit,_,_,_,_,_::_,_,_,_,_,_,_,_,_,e=>by simp[cellsIn]at e
 | .unit,_,_,_,_,[],_::_,_,_,_,_,_,_,hv,_=>hv.elim
 | .cons _ _,_,_,_,_,[],_,_,_,_,_,_,_,_,e=>by simp[cellsIn]at e
 | .cons _ _,_,_,_,_,_::_,[],_,_,_,_,_,_,hv,_=>hv.elim
 | .int _,_,_,_,_,_,_,_,_,_,_,_,_,_,e=>by simp[cellsIn]at e
 | .bool,_,_,_,_,_,_,_,_,_,_,_,_,_,e=>by simp[cellsIn]at e
 | .str,_,_,_,_,_,_,_,_,_,_,_,_,_,e=>by simp[cellsIn]at e
 | .sl _,_,_,_,_,_,_,_,_,_,_,_,_,_,e=>by simp[cellsIn]at e
theorem yp{E:Env}{w:World}{vw:List Bx}{x:AV}{v:Value}(h:VR E w vw x v)(hk:x.known=true):v.oneCell' =true/\v.cells= #[v]:=by
 have aux:∀{v:Value},isSlice v=true->v.oneCell' =true/\v.cells= #[v]:=by intro v h;cases v<;>simp_all[isSlice,Value.oneCell',Value.cells]
 have AXn:∀{v:Value},fz v=true->v.oneCell' =true/\v.cells= #[v]:=by intro v h;cases v<;>simp_all[fz,Value.oneCell',Value.cells]
 cases x with
 |v t y=>
  obtain⟨hs,hr⟩:=h;cases t<;>simp[Ty.scalar]at hs<;>simp only[Rd,ANN,AQ6]at hr<;>subst hr<;>exact⟨rfl,rfl⟩
 |sl s r y=>
  simp only[VR,Rd]at h;obtain⟨a,cap,h,_⟩:=h;simp only[ANN,AQ6]at h;subst h;exact⟨rfl,rfl⟩
 |nil=>simp only[VR]at h;subst h;exact⟨rfl,rfl⟩
 |ref b p=>exact aux h.1
 |win b p off n=>exact aux h.1
 |Ir b j=>rw[h.2];exact⟨rfl,rfl⟩
 |J5 b p i sz j=>exact AXn h.1
 |Qf s r y j=>obtain⟨bb,o,cs,rfl,_⟩:=h;exact⟨rfl,rfl⟩
 |fn f K4=>rw[h.2];exact⟨rfl,rfl⟩
 |vZ f rows=>obtain⟨ps,rfl,_⟩:=h;exact⟨rfl,rfl⟩
 |ACj=>simp only[VR]at h;subst h;exact⟨rfl,rfl⟩
 |undef=>simp[AV.known]at hk
theorem ADo{E:Env}{w:World}{vw:List Bx}:∀{l:List AV} {vs:List Value},mo E w vw l vs->l.all AV.known=true-> ∀v∈vs,v.oneCell' =true
 |[],[],_,_=>by simp
 |x::l,v::vs,h,hk=>by
  simp only[ARN,ALJ]at hk;intro u hu;rcases ANC.1 hu with rfl|hu
  ·exact(yp h.1 hk.1).1
  ·exact ADo h.2 hk.2 u hu
theorem uQ{E:Env}{w:World}{vw:List Bx}{x:XV}{v:Value}(h:XR E w vw x v)(hk:x.cells.all AV.known=true)(hn:x.cells≠[]):mo E w vw x.cells v.cells.toList/\ ∀u∈v.cells.toList,u.oneCell' =true:=by
 cases x with
 |c x=>
  have h':VR E w vw x v:=h;obtain⟨h1,h2⟩:=yp h' (by grind[XV.cells]);rw[h2];exact⟨⟨h',trivial⟩,by simp_all⟩
 |agg l=>
  obtain⟨vs,rfl,Xe⟩:=h;exact⟨Xe,ADo Xe hk⟩
 |L8 l=>simp[XV.cells]at hn
theorem ABY{w:World}{vw:List Bx}{r:Ty}{E:Env}{bx:List Bx}{G:ABy}{d:Nat}{x:XV}{v:Value}{y:r.D}{R0:List Bx}{d':Nat}(h:C2 E w vw bx G)(hw:FO bx vw)(hd:1<=d)
  (hv:XR E w vw x v) (e:AHs d r x bx=some (y,R0,d')):1<=d'/\d'<=d/\ ∃E' F,HJ E w vw bx G E' R0 F/\Ow w E'.S (d'-1) r v.cells.toList y F:=by
 unfold AHs at e;split at e
 ·rename_i l
  obtain⟨vs,rfl,Xe⟩:=hv;exact cE h hw hd Xe e
 ·rename_i x
  have aj:VR E w vw x v:=hv;have hk:x.known=true:=by grind[AV.known,ga]
  rw[(yp aj hk).2];exact fA h hw hd aj e
 simp_all
end Go.Fw
end
section
namespace Go.Fw
def Env.eZ(E:Env)(n:Nat)(h:Value):Env:={ E with IF:=fun k=>if k=n then h else E.IF k }
def Env.ik(E:Env)(n b:Nat):Env:={ E with IG:=fun k=>if k=n then b else E.IG k }
theorem ko{E E1 E':Env}{w w':World}{vw nF R0:List Bx}{F:ABy}(k:HJ E w vw vw [] E1 nF F)(st:∀c,E.S c->E.T c)(hlen:vw.length<=R0.length)
  (zk:∀b B,b<vw.length->R0[b]? =some B->nF[b]? =some B) (AHq:∀b,b<vw.length->E'.IG b=E1.IG b) (re:∀b,b<vw.length->E'.IF b=E1.IF b) (hT:E'.T=E1.T) (hS:E'.S=E1.S)
  (hw:∀c,c<w.heap.size->c∉F->w'.heap[c]? =w.heap[c]?):Um E w vw E' w' R0:=by
 have hB:=k.boxes;obtain⟨Fs,⟨h1,h2⟩,h3⟩:=hB;simp only[ALu]at h3;have hT':∀c,E1.T c->w'.heap[c]? =w.heap[c]?:=fun c hc=>hw c (h3.eG c hc) fun hf=>h3.free c (by simp[hf]) hc
 refine⟨hlen,fun b hb=>by rw[AHq b hb,k.le.IG],fun c hc=>by rw[hT];exact k.le.T c hc,fun c hc=>by rw[hS];exact k.le.S c hc,st,fun c hc=>hT' c (k.le.T c hc),fun b d r rows hb e=> ?_⟩;have e1:=zk b _ hb e;rcases k.within b _ e1 with e2|e2
 ·cases e2
 ·refine⟨d,rows,e2,fun p hp q ys hg=>⟨hp,⟨ys,hg,rfl⟩,fun h' hh=> ?_⟩⟩
  have hF:Fs[b]? =some (Fs[b]'(by grind)):=AKT _;obtain⟨hd,ho⟩:=h2 b _ _ e1 hF;rw[re b hb];rw[<-k.le.IF]at hh;refine zX ho (fun c hc=>hT' c (h3.st c hc)) (fun c hc=> ?_) hp hg hh;have Qt:c∈Fs.flatten:=APz.2 ⟨_,AMU hF,hc⟩;exact hw c (h3.lt c (by simp[Qt])) fun hf=>(AL8.1 h3.nodup).2.2 c Qt c hf rfl
structure Grown (w w':World):Prop where
 os:w'.os=w.os
 tape:w'.tape=w.tape
 output:w'.output=w.output
 size:w.heap.size<=w'.heap.size
theorem VO{E E1:Env}{σ:St}{a:Act}{w w':World}{nF:List Bx}{F F':ABy}(h:Rel E σ a w)(k:HJ E w σ.bx σ.bx [] E1 nF F){v:Value}{d:Nat}{r:Ty}{rows:List r.D}(hd:1<=d)
  (ho:Ow w' E1.S d (.sl r) [v] rows F') (hF':∀c∈F',c∈F\/w.heap.size<=c) (nd:F'.Nodup) (Ix:∀c∈F',c<w'.heap.size) (hw:∀c,c<w.heap.size->c∉F->w'.heap[c]? =w.heap[c]?) (g:Grown w w'):
  let E':=E1.eZ nF.length v
  Rel E' { σ with bx:=nF++[.sl d r rows] } a w'/\S5 [] E σ.bx w E' (nF++[.sl d r rows]) w'/\XR E' w' (nF++[.sl d r rows]) (.c (.ref nF.length [])) v:=by
 intro E';have st:=h.bx.st;have hn:=k.len;have keep:Um E w σ.bx E' w' (nF++[.sl d r rows]):=ko k st (by simp[hn]) (fun b B hb e=>by
   grind) (fun b _=>rfl) (fun b hb=>by grind[Env.eZ]) rfl rfl hw
 have ABR:Um E1 w σ.bx E' w' (nF++[.sl d r rows]):=by
  have k':HJ E1 w σ.bx σ.bx [] E1 nF F:=⟨Le.refl _,k.len,k.within,k.boxes⟩;exact ko k' k.boxes.st (by simp[hn]) (fun b B hb e=>by
   grind) (fun b _=>rfl) (fun b hb=>by grind[Env.eZ]) rfl rfl hw
 obtain⟨Fs,⟨h1,h2⟩,h3⟩:=k.boxes;simp only[ALu]at h3;have hT':∀c,E1.T c->w'.heap[c]? =w.heap[c]?:=fun c hc=>hw c (h3.eG c hc) fun hf=>h3.free c (by simp[hf]) hc
 have hF0:∀c∈Fs.flatten,w'.heap[c]? =w.heap[c]?:=fun c hc=>hw c (h3.lt c (by simp[hc])) fun hf=>(AL8.1 h3.nodup).2.2 c hc c hf rfl
 refine⟨⟨h.OS,h.tm.imp fun _ _ hx=>QR keep hx,?_⟩,?_,?_⟩
 ·refine⟨Fs++[F'],⟨by simp[h1],fun n B G hB hG=> ?_⟩,?_⟩
  ·by_cases hnl:n<nF.length
   ·rw[AMB hnl]at hB
    rw[AMB (by omega)]at hG;have:=h2 n B G hB hG;have hGw:∀c∈G,w'.heap[c]? =w.heap[c]?:=fun c hc=>hF0 c (APz.2 ⟨G,AMU hG,hc⟩)
    cases B with
    |mem cs=>
     obtain⟨rfl,arr,ty,fr,a1,a2,a3⟩:=this;exact⟨rfl,arr,ty,fr,(hGw (E1.IG n) (by simp)).trans a1,a2,a3.imp fun _ _ hv=>GQ ABR hv⟩
    |sl d0 r0 TH=>
     refine⟨this.1,?_⟩;have e0:E'.IF n=E1.IF n:=by grind[Env.eZ]
     rw[e0];exact EV (fun _ hc=>hc) (fun c hc=>hT' c (h3.st c hc)) hGw this.2
    |dead=>exact this
   ·have hnn:=(AK1.1 hB).1
    simp at hnn;obtain rfl:n=nF.length:=by omega
    rw[AMM (by omega)]at hB hG;simp[h1]at hB hG;subst hB hG;refine⟨hd,?_⟩;grind[Env.eZ]
  ·simp only[ARP,ARV,AT3,ALu]
   have nd0:=AL8.1 h3.nodup;refine⟨AL8.2 ⟨nd0.1,nd,fun x hx y hy e=> ?_⟩,fun c hc ht=> ?_,fun c hc=> ?_,h3.st,fun c hc=>AQQ (h3.eG c hc) g.size,h3.vz.mono (fun _ h=>h) hT'⟩
   ·grind
   ·rcases AMt.1 hc with hc|hc
    ·exact h3.free c (by simp[hc]) ht
    ·rcases hF' c hc with h|h
     ·exact h3.free c (by simp[h]) ht
     ·have:=h3.eG c ht;omega
   ·rcases AMt.1 hc with hc|hc
    ·exact AQQ (h3.lt c (by simp[hc])) g.size
    simp_all
 ·refine⟨⟨k.le.T,k.le.S,k.le.Tof,k.le.Sof,fun c hc=>hT' c (k.le.T c hc),g.os,g.tape,g.output,g.size⟩,by simp[hn],fun b hb=>⟨by show E1.IG b=_;rw[k.le.IG],?_⟩,fun b hb=> ?_,fun n B B' _ hB Vp hnd=> ?_⟩
  ·have:E'.IF b=E1.IF b:=by grind[Env.eZ]
   rw[this,k.le.IF]
  ·have hbl:=(AK1.1 hb).1
   rw[AMB (by omega)];obtain⟨B,hB⟩:∃B,nF[b]? =some B:=⟨_,AKT (by omega)⟩;rcases k.within b B hB with e|e
   all_goals simp_all
  ·have hnl:=(AK1.1 hB).1
   rw[AMB (by omega)]at Vp;rcases k.within n B' Vp with e|e
   ·simp_all
   rw[hB]at e;cases e;refine⟨XZ.refl hnd,fun c hc=> ?_⟩;have hF:Fs[n]? =some (Fs[n]'(by omega)):=AKT _;have hR:=h2 n B _ Vp hF;have gO:BRB E1 w n B c:=by
    cases B with
    |mem cs=>simp only[BRB]at hc|-;rw[k.le.IG];omega
    |sl d r rows=>simp only[BRB]at hc|-;rw[k.le.IF];omega
    |dead=>exact hc
   rcases jF hR gO with hs|hs
   ·exact hT' c (h3.st c hs)
   grind[List.mem_flatten,List.mem_of_getElem?]
 ·have e0:E'.IF nF.length=v:=by simp[E',Env.eZ]
  refine⟨?_,?_⟩
  ·have:=ZY ho
   simp only[Rd]at this;obtain⟨_,_,e,_⟩:=this;simp only[ANN,AQ6]at e;rw[e];rfl
  ·have:(nF++[Bx.sl d r rows])[nF.length]? =some (.sl d r rows):=by simp
   rw[this];exact⟨by simp[DC],⟨_,rfl⟩,by rw[e0,C1]⟩
theorem tc{E:Env}{σ:St}{a:Act}{w:World}(h:Rel E σ a w){cs:List AV}{arr:Array Value}(ty:TypeId)(hv:mo E w σ.bx cs arr.toList):
  let E':=E.ik σ.bx.length w.heap.size
  let w':=w.alloc (.cells arr ty)
  Rel E' (σ.new (.mem cs)) a w'/\S5 [] E σ.bx w E' (σ.new (.mem cs)).bx w'/\XR E' w' (σ.new (.mem cs)).bx (.c (.Ir σ.bx.length 0)) (.pointer (some ⟨w.heap.size,0,none⟩)):=by
 intro E' w';have st:=h.bx.st;have hw:∀c,c<w.heap.size->c∉([]:ABy)->w'.heap[c]? =w.heap[c]?:=fun c hc _=>by
  show(w.heap.push (.cells arr ty))[c]? =_
  grind
 have hB0:=h.bx;have keep:Um E w σ.bx E' w' (σ.bx++[.mem cs]):=ko (HJ.refl hB0) st (by simp) (fun b B hb e=>by
   grind) (fun b hb=>by grind[Env.ik]) (fun b _=>rfl) rfl rfl hw
 obtain⟨Fs,⟨h1,h2⟩,h3⟩:=h.bx;simp only[ALu]at h3;have new:w'.heap[w.heap.size]? =some (.cells arr ty):=by
  show(w.heap.push (.cells arr ty))[w.heap.size]? =_
  simp
 refine⟨⟨h.OS,h.tm.imp fun _ _ hx=>QR keep hx,?_⟩,?_,?_⟩
 ·refine⟨Fs++[[w.heap.size]],⟨by simp[St.new,h1],fun n B G hB hG=> ?_⟩,?_⟩
  ·simp only[St.new]at hB
   by_cases hnl:n<σ.bx.length
   ·rw[AMB hnl]at hB
    rw[AMB (by omega)]at hG;have:=h2 n B G hB hG;have hGw:∀c∈G,w'.heap[c]? =w.heap[c]?:=fun c hc=>hw c (h3.lt c (by simp;grind)) (by simp)
    have eb:E'.IG n=E.IG n:=by grind[Env.ik]
    cases B with
    |mem cs0=>
     obtain⟨rfl,arr0,ty0,fr,a1,a2,a3⟩:=this;refine⟨by rw[eb],arr0,ty0,fr,?_,a2,a3.imp fun _ _ hv=>GQ keep hv⟩;simp_all
    |sl d0 r0 TH=>exact⟨this.1,EV (fun _ hc=>hc) (fun c hc=>hw c (h3.eG c (st c hc)) (by simp)) hGw this.2⟩
    |dead=>exact this
   ·have hnn:=(AK1.1 hB).1
    simp at hnn;obtain rfl:n=σ.bx.length:=by omega
    rw[AMM (by omega)]at hB hG;simp[h1]at hB hG;subst hB hG;have eb:E'.IG σ.bx.length=w.heap.size:=by simp[E',Env.ik]
    refine⟨by rw[eb],arr,ty,(0,0),by simp_all,fun i _ h=>by omega,hv.imp fun _ _ hv=>GQ keep hv⟩
  ·simp only[ARP,ARV,AT3,ALu]
   refine⟨AL8.2 ⟨h3.nodup,by simp,fun x hx y hy e=> ?_⟩,fun c hc ht=> ?_,fun c hc=> ?_,h3.st,fun c hc=> ?_,h3.vz.mono (fun _ h=>h) (fun c hc=>hw c (h3.eG c hc) (by simp))⟩
   ·subst e
    simp at hy;have:=h3.lt x hx;omega
   ·rcases AMt.1 hc with hc|hc
    ·exact h3.free c hc ht
    ·simp at hc;have:=h3.eG c ht;omega
   ·rcases AMt.1 hc with hc|hc
    ·have:=h3.lt c hc;grind
    grind
   ·have:=h3.eG c hc;grind
 ·refine⟨⟨fun _ h=>h,fun _ h=>h,fun _ h=> .inl h,fun _ h=> .inl h,fun c hc=>hw c (h3.eG c hc) (by simp),rfl,rfl,rfl,by simp[w']⟩,by simp[St.new],fun b hb=>⟨?_,rfl⟩,fun b hb=> ?_,fun n B B' _ hB Vp hnd=> ?_⟩
  ·grind[Env.ik]
  ·grind[List.getElem?_eq_some_iff,St.new,List.getElem?_append_left]
  ·have hnl:=(AK1.1 hB).1
   simp only[St.new]at Vp;rw[AMB hnl,hB]at Vp;cases Vp;refine⟨XZ.refl hnd,fun c hc=> ?_⟩;have hF:Fs[n]? =some (Fs[n]'(by omega)):=AKT _;rcases jF (h2 n B _ hB hF) hc with hs|hs
   ·exact hw c (h3.eG c (st c hs)) (by simp)
   ·exact hw c (h3.lt c (APz.2 ⟨_,AMU hF,hs⟩)) (by simp)
 ·refine⟨by simp[St.new],?_⟩
  simp[E',Env.ik]
end Go.Fw
end
section
namespace Go.Fw
theorem G5:∀r:Ty,(Eu r).length=r.n
 | .cons c r=>by simp[Eu,Ty.n,G5 r]
 | .unit=>rfl
 | .int _=>rfl
 | .bool=>rfl
 | .str=>rfl
 | .sl _=>rfl
theorem d_{E:Env}{w:World}{vw:List Bx}(t:Ty):VR E w vw (ACy t) (zv t):=by
 cases t<;>first
  |exact VR.int _ _
  |exact VR.bool _
  |exact VR.str _
  |rfl
  |trivial
theorem bK{E:Env}{w:World}{vw:List Bx}:∀r:Ty,mo E w vw (eL r) (Eu r)
 | .cons c r=>⟨d_ c,bK r⟩
 | .unit=>trivial
 | .int k=>⟨d_ (.int k),trivial⟩
 | .bool=>⟨d_ .bool,trivial⟩
 | .str=>⟨d_ .str,trivial⟩
 | .sl r=>⟨d_ (.sl r),trivial⟩
theorem jE{w:World}{S:Nat->Prop}{d:Nat}:∀{r:Ty},r.rF=true->Ow w S d r (Eu r) r.z []
 | .cons c r,h=>by
  simp only[Ty.rF,ALJ]at h;simp only[Ow,Eu];refine⟨_,_,[],[],rfl,rfl,?_,jE h.2⟩;cases c with
  |sl q=>exact um
  |int k=>simp[Ow,zv,Ty.z]
  |bool=>simp[Ow,zv,Ty.z]
  |str=>simp[Ow,zv,Ty.z]
  |unit=>simp[Ty.cell]at h
  |cons _ _=>simp[Ty.cell]at h
 | .unit,_=>by simp[Ow,Eu]
 | .int k,_=>by simp[Ow,Eu,zv,Ty.z]
 | .bool,_=>by simp[Ow,Eu,zv,Ty.z]
 | .str,_=>by simp[Ow,Eu,zv,Ty.z]
 | .sl q,_=>um
theorem bT{n:Nat}:∀{css:List (List Value)} {ex:List Value} {i j:Nat} {cs:List Value},(∀c∈css,c.length=n)->css[i]? =some cs->j<n->(css.flatten++ex)[i*n+j]? =cs[j]?
 |[],_,_,_,_,_,h,_=>by simp at h
 |c::css,ex,0,j,cs,hl,h,hj=>by
  grind
 |c::css,ex,i+1,j,cs,hl,h,hj=>by
  have hc:=hl c (by simp);have ih:=bT (css:=css) (ex:=ex) (i:=i) (j:=j) (cs:=cs) (fun c' gO=>hl c' (AVq _ gO)) (by simp_all) hj;simp only[ARV,AL3];rw[AMM (by grind),<-ih];congr 1;grind
theorem ri{w:World}{b:Nat}{arr:Array Value}{ty:TypeId}{fr:AEG}(hb:w.heap[b]? =some (.cells arr ty fr)){n:Nat}{css:List (List Value)}{ex:List Value}(ha:arr.toList=css.flatten++ex)
  (hl:∀c∈css,c.length=n) {i:Nat} {cs:List Value} (h:css[i]? =some cs):Bg w b (i*n) cs:=by
 intro j v hj;have hjn:j<n:=by
  grind
 simp only[World.cell?,hb,ARE,ALY,ANX];rw[<-Array.getElem?_toList,ha,bT hl h hjn,hj]
theorem iL{w:World}{S:Nat->Prop}{d b cap:Nat}{r:Ty}{rows:List r.D}{arr:Array Value}{ty:TypeId}{fr:AEG}(hb:w.heap[b]? =some (.cells arr ty fr)){css:List (List Value)}{ex:List Value}
  (ha:arr.toList=css.flatten++ex) (hc:css.length=rows.length) (ADD:rows.length<=cap) (LP:cap*r.n<=arr.size) (hu:AAX fr (arr.size+mk r)) {Fs:List ABy} (hF:Fs.length=rows.length)
  (cy:∀(i:Nat) cs y G,css[i]? =some cs->rows[i]? =some y->Fs[i]? =some G->Ow w S d r cs y G):
  Ow w S (d+1) (.sl r) [.slice (some ⟨b,0,none⟩) rows.length cap] rows (b::Fs.flatten):=by
 have hl:∀c∈css,c.length=r.n:=by
  intro c gO;obtain⟨i,hi,rfl⟩:=AQA gO;exact ZB (cy i _ _ _ (AKT hi) (AKT (by omega)) (AKT (by omega)))
 simp only[Ow];refine⟨_,cap,rfl,ADD,.inr ⟨b,0,arr,ty,fr,Fs,rfl,hb,by omega,hu,rfl,hF,fun i y G hy hG=> ?_⟩⟩;have hi:i<css.length:=by
  grind
 refine⟨css[i],hl _ (ALk hi),?_,cy i _ y G (AKT hi) hy hG⟩;rw[ARQ];grind[ri,List.getElem?_eq_getElem]
theorem Yt(n:Nat):AAX (0,0) n:=fun i _ h=>by omega
theorem JH{w:World}{o:Obj}{c:Nat}(h:c<w.heap.size):(w.heap.push o)[c]? =w.heap[c]?:=by
 grind
section
variable{Y:Type} {P:Program} {T:Jr} (hT:Eb P T) {o:Oper} {E:Env} {σ:St} {a:Act} {w:World} {k:K Y} {y:Y}
theorem AGy(h:Rel E σ a w){t:TypeId}{x:Operand}(ho:o.op= .box t x)(hk:(σ.ev x).cells.all AV.known=true)(hn:(σ.ev x).cells≠[])(e:k (.c (.Ir σ.bx.length 0)) (σ.new (.mem (σ.ev x).cells))=some y):
  Lr P o E σ a w k y:=by
 obtain⟨h1,h2⟩:=uQ (h.ev x) hk hn;obtain⟨r1,r2,r3⟩:=tc h t h1;refine⟨_,_,_,_,_,.inl ?_,r1,r3,r2.any,rfl,e⟩;simp only[execOp,ho,Instr.box,newVar,newRow,Sem.run_bind,run_newObj,Result.andThen_ok,Sem.run_pure];rfl
include hT
theorem row_zero{t:Nat}{r:Ty}(e:T.mJ t=some r):∃i z,P.info? t=some i/\i.zero=some z/\z.cells.toList=Eu r/\r.rF=true:=by
 unfold Jr.mJ at e;split at e
 ·rename_i ti Wq
  obtain⟨i,h1,_,_,h2⟩:=(hT t ti Wq).info;simp_all
 simp_all
theorem ACC(h:Rel E σ a w){t:TypeId}(ho:o.op= .alloc t){r:Ty}(hr:T.mJ t=some r)(e:k (.c (.Ir σ.bx.length 0)) (σ.new (.mem (eL r)))=some y):Lr P o E σ a w k y:=by
 obtain⟨i,z,h1,h2,h3,_⟩:=row_zero hT hr;obtain⟨r1,r2,r3⟩:=tc (arr:=z.cells) h t (by rw[h3];exact bK r);refine⟨_,_,_,_,_,.inl ?_,r1,r3,r2.any,rfl,e⟩;simp only[execOp,ho,Instr.alloc,zeroValue,typeInfo,newVar,newRow,Sem.run_bind,run_program,Result.andThen_ok,h1,h2,run_newObj,Sem.run_pure];rfl
end
end Go.Fw
end
section
namespace Go.Fw
def FL(arr:Array Value):Nat->List Value->Array Value
 |_,[]=>arr
 |o,c::l=>FL (arr.setIfInBounds o c) (o+1) l
theorem Fh:∀(l:List Value) (o:Nat) (arr:Array Value),(FL arr o l).size=arr.size
 |[],_,_=>rfl
 |c::l,o,arr=>by simp[FL,Fh l]
theorem tf(off:Nat):∀(l:List Value) (k:Nat) (arr:Array Value),(l.zipIdx k).foldl (fun cs (q:Value×Nat)=>cs.setIfInBounds (off+q.2) q.1) arr=FL arr (off+k) l
 |[],_,_=>rfl
 |c::l,k,arr=>by
  simp only[List.zipIdx_cons,List.foldl_cons,FL];rw[tf off l (k+1)];rfl
theorem ZP{E:Env}{w:World}{vw:List Bx}:∀{xs:List AV} {vs:List Value} {cs iO:List AV} {arr:Array Value} {o:Nat},mo E w vw cs arr.toList->mo E w vw xs vs->Zb cs o xs=some iO->
  mo E w vw iO (FL arr o vs).toList/\o+xs.length<=cs.length\/(xs=[]/\iO=cs)
 |[],[],cs,iO,arr,o,h,_,e=>by simp only[Zb,AKX]at e;simp_all
 |x::xs,v::vs,cs,iO,arr,o,h,hx,e=>by
  simp only[Zb]at e;split at e
  case isFalse=>cases e
  rename_i ho;have h1:mo E w vw (cs.set o x) (arr.setIfInBounds o v).toList:=by
   rw[Array.toList_setIfInBounds];exact Cc.set h hx.1
  rcases ZP h1 hx.2 e with⟨h2,h3⟩|⟨rfl,rfl⟩
  ·refine .inl ⟨h2,?_⟩
   grind
  ·cases vs with
   |nil=>exact .inl ⟨h1,by grind⟩
   |cons _ _=>exact hx.2.elim
 |[],_::_,_,_,_,_,_,hx,_=>hx.elim
 |_::_,[],_,_,_,_,_,hx,_=>hx.elim
section
variable{Y:Type} {P:Program} {T:Jr} (hT:Eb P T) {o:Oper} {E:Env} {σ:St} {a:Act} {w:World} {k:K Y} {y:Y}
def ADi(E:Env)(w:World)(vw:List Bx)(l:List (Nat×XV))(m:List (Nat×Value)):Prop:=Cc (fun x v=>x.1=v.1/\XR E w vw x.2 v.2) l m
theorem sn(h:Rel E σ a w)(ps:Array (Nat×Operand)):ADi E w σ.bx (ps.toList.map fun q=>(q.1,σ.ev q.2)) (ps.map fun(i,x)=>(i,a.eval x)).toList:=by
 rw[Array.toList_map]
 generalize ps.toList=l
 induction l with
 |nil=>trivial
 |cons q l ih=>exact⟨⟨rfl,h.ev q.2⟩,ih⟩
theorem xz{place:Nat->Option AEG}{i off size:Nat}(hp:place i=some (off,size)){cells:Array Value}{v:Value}{rest:List (Nat×Value)}(h1:v.cells.size=size)(h2:off+v.cells.size<=cells.size):
  Instr.fill place cells ((i,v)::rest)=Instr.fill place (FL cells off v.cells.toList) rest:=by
 have e:v.cells.zipIdx.foldl (fun cs (q:Value×Nat)=>cs.setIfInBounds (off+q.2) q.1) cells=FL cells off v.cells.toList:=by
  rw[<-Array.foldl_toList];have:(v.cells.zipIdx).toList=v.cells.toList.zipIdx:=by simp
  rw[this];exact tf off v.cells.toList 0 cells
 conv=>lhs;unfold Instr.fill
 grind
theorem uV{α β:Type}{f:α->Option β}{g:α->β}:∀{l:List α},(∀x∈l,f x=some (g x))->l.mapM f=some (l.map g)
 |[],_=>rfl
 |x::l,h=>by
  simp only[AVz,h x (by simp),uV (l:=l) (g:=g) (fun y hy=>h y (by simp[hy]))];rfl
include hT
theorem fJ{fs:List AEG}{vw:List Bx}:∀{parts:List (Nat×XV)} {vals:List (Nat×Value)} {cs iO:List AV} {arr:Array Value},ADi E w vw parts vals->mo E w vw cs arr.toList->kN T fs cs parts=some iO->
  ∃Ku:Array Value,Instr.fill (fun i=>(fs[i]?).bind fun q=>((P.info? q.2).map fun i=>(q.1,i.size))) arr vals=some Ku/\mo E w vw iO Ku.toList
 |[],[],cs,iO,arr,_,h,e=>by
  simp only[kN,AKX]at e;subst e;exact⟨arr,rfl,h⟩
 |(i,x)::ps,(j,v)::vs,cs,iO,arr,hp,h,e=>by
  obtain⟨⟨hij,hx⟩,hp⟩:=hp;simp only at hij hx;subst hij;simp only[kN]at e;split at e
  case h_2=>cases e
  rename_i off u hf;split at e
  case h_2=>cases e
  rename_i ti Wq;split at e
  case isFalse=>cases e
  rename_i hc;obtain⟨c1,c2,c3⟩:=hc;simp only[ALU]at e;obtain⟨cs1,e1,e2⟩:=e;have aO:x.cells≠[]:=by grind
  obtain⟨x1,x2⟩:=uQ hx c3 aO;rcases ZP h x1 e1 with⟨s1,s2⟩|⟨s1,_⟩
  ·have LP:v.cells.size=ti.size:=by
    have:=x1.len;simp_all
   have hlen:=h.len;obtain⟨Ku,f1,f2⟩:=fJ hp s1 e2;refine⟨Ku,?_,f2⟩;have AaB:(fun i=>(fs[i]?).bind fun q=>((P.info? q.2).map fun i=>(q.1,i.size))) i=some (off,ti.size):=by
    have:=Eb.size hT Wq;simp_all
   grind[xz]
  simp_all
 |[],_::_,_,_,_,hp,_,_=>hp.elim
 |_::_,[],_,_,_,hp,_,_=>hp.elim
theorem ADe(h:Rel E σ a w){t:TypeId}{ps:Array (Nat×Operand)}(ho:o.op= .build t ps){s b:Nat}{fs:List AEG}{rw:Option Ty}(Wq:T.get t=some ⟨s,b,.st fs,rw⟩){r:Ty}(hr:T.mJ t=some r)
  {cs:List AV} (hb:kN T fs (eL r) (ps.toList.map fun q=>(q.1,σ.ev q.2))=some cs) (e:k (.agg cs) σ=some y):Lr P o E σ a w k y:=by
 obtain⟨i,z,h1,h2,h3,_⟩:=row_zero hT hr;obtain⟨fields,hu,hfs,LP⟩:=AJn hT Wq;obtain⟨Ku,f1,f2⟩:=fJ hT (sn h ps) (arr:=z.cells) (by grind[bK]) hb;refine Lr.same h (v:= .agg Ku) (x:= .agg cs) ?_ ⟨Ku,rfl,f2⟩ e
 have hb:P.built t (ps.map fun(i,x)=>(i,a.eval x)).toList=some Ku:=by
  unfold Program.built;simp only[h1,hu,h2];have hm:fields.toList.mapM (fun f=>(P.info? f.type).map fun i=>(f.offset,i.size))=some (fields.toList.map fun f=>(f.offset,((P.info? f.type).map (·.size)).getD 0)):=by
   grind[uV]
  simp only[hm];rw[<-f1];congr 1;funext n;subst hfs;simp only[List.getElem?_toArray,AOR];cases hn:fields.toList[n]? with
  |none=>simp
  |some f=>
   obtain⟨i',Dc,_⟩:=LP f (AMU hn);simp[Dc]
 grind[run_build,execOp,Sem.run_bind,Result.andThen_ok,Sem.run_pure]
end
end Go.Fw
end
section
namespace Go.Fw
theorem wrap_small{n:Int}(h0:0<=n)(h1:n<=(CN:Int)):IntKind.i64.wrap n=n:=by
 grind[CN,IntKind.wrap,IntKind.bits,IntKind.signed]
theorem Fb{m:Nat}{zl:List Value}:((List.replicate m zl).flatten).length=m*zl.length:=by
 simp_all
theorem N7{zl:List Value}:∀{m i:Nat},i<m*zl.length->((List.replicate m zl).flatten)[i]? =zl[i%zl.length]?
 |0,i,h=>by omega
 |m+1,i,h=>by
  simp only[AVs,ARV];by_cases hi:i<zl.length
  ·rw[AMB hi,Nat.mod_eq_of_lt hi]
  ·have Dc:zl.length<=i:=by omega
   rw[AMM Dc,N7 (by grind),<-Nat.mod_eq_sub_mod Dc]
theorem Yf{zero:Array Value}{zl:List Value}(hz:zero.toList=zl)(m:Nat)(h0:zl≠[]):((Array.range (m*zl.length)).map (fun i=>zero[i%zero.size]!)).toList=(List.replicate m zl).flatten:=by
 have hs:zero.size=zl.length:=by grind
 have AGJ:0<zl.length:=AVY.2 h0;apply ASy;intro i;by_cases hi:i<m*zl.length
 ·grind[N7,Nat.mod_lt,Array.toList_map,Array.toList_range,List.getElem?_range,List.getElem?_eq_getElem]
 simp_all
section
variable{Y:Type} {P:Program} {T:Jr} (hT:Eb P T) {o:Oper} {E:Env} {σ:St} {a:Act} {w:World} {k:K Y} {y:Y}
include hT
theorem Yw{e:Nat}{ti:TI}{r:Ty}(he:T.get e=some ti)(hr:ti.row=some r):∃i z,P.info? e=some i/\i.size=ti.size/\i.bytes=ti.bytes/\i.zero=some z/\z.cells.toList=Eu r/\r.rF=true:=by
 obtain⟨i,h1,h2,h3,h4⟩:=(hT e ti he).info;simp_all
theorem AF6(h:Rel E σ a w){t:TypeId}{l c:Operand}(ho:o.op= .makeSlice t l c)(e:xU T t σ (σ.ev l) (σ.ev c) k=some y):Lr P o E σ a w k y:=by
 unfold xU at e;split at e
 case h_2=>cases e
 rename_i el n m hd hl hc;split at e
 case h_2=>cases e
 rename_i r hr;split at e
 case isFalse=>cases e
 rename_i WG;split at e
 case isFalse=>cases e
 rename_i hb;obtain⟨b0,b1,b2⟩:=hb;obtain⟨el',ti,hu,Wq,hs,hby,hrow⟩:=Kv hT WG;obtain⟨i,z,i1,i2,i3,i4,i5,hg⟩:=Yw hT Wq hrow;obtain⟨κ1,e1⟩:=I9 hl (h.ev l);obtain⟨κ2,e2⟩:=I9 hc (h.ev c);have w1:=wrap_small b0 (by omega);have w2:=wrap_small (n:=m) (by omega) b2
 let arr:Array Value:=(Array.range (m.toNat*r.n)).map (fun j=>(if m.toNat*r.n=0 then #[]else z.cells)[j%(if m.toNat*r.n=0 then(#[]:Array Value)else z.cells).size]!)
 have gP:arr.toList=(List.replicate n.toNat (Eu r)).flatten++(List.replicate (m.toNat-n.toNat) (Eu r)).flatten:=by
  have hz:=G5 r;have split:(List.replicate n.toNat (Eu r)).flatten++(List.replicate (m.toNat-n.toNat) (Eu r)).flatten=(List.replicate m.toNat (Eu r)).flatten:=by
   grind[List.flatten_append,List.replicate_append_replicate]
  rw[split];by_cases h0:m.toNat*r.n=0
  ·grind[List.length_eq_zero_iff,Fb]
  grind[Eu,Yf]
 let w':=w.alloc (.cells arr el')
 have new:w'.heap[w.heap.size]? =some (.cells arr el'):=by
  show(w.heap.push (.cells arr el'))[w.heap.size]? =_
  simp
 have ALx:arr.size=m.toNat*r.n:=by simp[arr]
 have how:Ow w' E.S (8+1) (.sl r) [.slice (some ⟨w.heap.size,0,none⟩) (List.replicate n.toNat r.z).length m.toNat] (List.replicate n.toNat r.z) (w.heap.size::(List.replicate n.toNat ([]:ABy)).flatten):=by
  refine iL new gP (by simp) (by grind) (by omega) (Yt _) (by simp) fun i cs y G h1 h2 h3=> ?_
  simp only[List.getElem?_replicate]at h1 h2 h3;split at h1
  ·rename_i hi
   rw[AJe hi]at h2 h3;grind[jE]
  simp_all
 have hF:(List.replicate n.toNat ([]:ABy)).flatten=[]:=by simp
 rw[hF]at how;simp only[AUS]at how;obtain⟨r1,r2,r3⟩:=VO h (HJ.refl h.bx) (w':=w') (d:=9) (by omega) how (by simp) (by simp) (by simp[w']) (fun c hc _=>JH hc) ⟨rfl,rfl,rfl,by simp[w']⟩;refine⟨_,_,_,_,_,.inl ?_,r1,r3,r2.any,rfl,e⟩;have AXU:(i.bytes:Int)*m<=2^48:=by
  have h1:(i.bytes:Int)<=512:=by omega
  have h2:(i.bytes:Int)*m<=512*m:=Int.mul_le_mul_of_nonneg_right h1 (by omega);grind[CN]
 simp only[execOp,ho,Instr.makeSlice,e1,e2,Sem.run_bind,Be hu,Result.andThen_ok,asInt,asIntOf,Sem.run_pure,typeInfo,run_program,i1,w1,w2];rw[AJk (by grind)];by_cases h0:m.toNat*r.n=0
 ·have e3:arr=(Array.range (m.toNat*r.n)).map (fun j=>(#[]:Array Value)[j%(#[]:Array Value).size]!):=by simp_all
  simp only[Sem.run_bind,run_askRoom,Result.andThen_ok,sizeOf,typeInfo,run_program,i1,Sem.run_pure,i2,hs,h0,AQY,newRow,run_newObj];simp only[w',e3,h0];rfl
 ·have e3:arr=(Array.range (m.toNat*r.n)).map (fun j=>z.cells[j%z.cells.size]!):=by grind
  simp only[Sem.run_bind,run_askRoom,Result.andThen_ok,sizeOf,typeInfo,run_program,i1,Sem.run_pure,i2,hs,h0,ANX,newRow,run_newObj,zeroValue,i4];simp only[w',e3];rfl
end
end Go.Fw
end
section
namespace Go.Fw
theorem nE{w:World}{B S:Nat->Prop}{d:Nat}:∀{r:Ty} {cs:List Value} {x:r.D},r.flat=true->Rd w B r cs x->Ow w S d r cs x []
 | .cons c r,cs,x,h,hr=>by
  simp only[Ty.flat,ALJ]at h;simp only[Rd]at hr;obtain⟨v,l,rfl,h1,h2⟩:=hr;simp only[Ow];exact⟨v,l,[],[],rfl,rfl,nE h.1 h1,nE h.2 h2⟩
 | .unit,_,_,_,hr=>by grind[Rd,Ow]
 | .int k,_,_,_,hr=>by grind[Rd,Ow]
 | .bool,_,_,_,hr=>by grind[Rd,Ow]
 | .str,_,_,_,hr=>by grind[Rd,Ow]
 | .sl q,_,_,h,_=>by simp[Ty.flat]at h
theorem L_{P:Program}{w:World}{b o:Nat}{cs:List Value}(h:Bg w b o cs):(loadCells ⟨b,o,none⟩ cs.length).run P w= .ok cs.toArray w:=
 run_loadCells_list (P:=P) w ⟨b,o,none⟩ cs fun j v hv=>by rw[Addr.add_eq];exact h j v hv
theorem aG{l:List Value}:(l.map fun v=>[v]).flatten=l:=by
 induction l with
 |nil=>rfl
 |cons a l ih=>simp[ih]
theorem uM{w:World}{B:Nat->Prop}{r:Ty}{b o:Nat}{ys:List r.D}(h:∀(i:Nat) (y:r.D),ys[i]? =some y-> ∃cs,cs.length=r.n/\Bg w b (o+i*r.n) cs/\Rd w B r cs y):
  ∃css:List (List Value),css.length=ys.length/\(∀c∈css,c.length=r.n)/\Bg w b o css.flatten/\ ∀(i:Nat) cs y,css[i]? =some cs->ys[i]? =some y->Rd w B r cs y:=by
 induction ys generalizing o with
 |nil=>exact⟨[],rfl,by simp,fun _ _ h=>by simp at h,fun i cs y h=>by simp at h⟩
 |cons y ys ih=>
  obtain⟨cs,c1,c2,c3⟩:=h 0 y rfl;obtain⟨css,d1,d2,d3,d4⟩:=ih (o:=o+r.n) (fun i z hz=>by
   obtain⟨cs,e1,e2,e3⟩:=h (i+1) z (by simp_all);grind)
  refine⟨cs::css,by simp[d1],by simp_all,?_,?_⟩
  ·intro j v hj
   simp only[ARV]at hj;by_cases hjl:j<cs.length
   ·rw[AMB hjl]at hj
    have:=c2 j v hj;simp_all
   ·rw[AMM (by omega)]at hj
    have:=d3 _ v hj;grind
  grind
theorem Bg.append{w:World}{b o:Nat}{l m:List Value}(h:Bg w b o l)(k:Bg w b (o+l.length) m):Bg w b o (l++m):=by
 intro j v hj;by_cases hjl:j<l.length
 ·rw[AMB hjl]at hj
  exact h j v hj
 ·rw[AMM (by omega)]at hj
  have:=k _ v hj;grind
section
variable{Y:Type} {P:Program} {T:Jr} (hT:Eb P T) {o:Oper} {E:Env} {σ:St} {a:Act} {w:World} {k:K Y} {y:Y}
theorem JL(hT:Eb P T){t:Nat}{d:TD}(e:(T.get t).map TI.desc=some d):zK P t d:=by
 simp only[AKm]at e;obtain⟨ti,h1,rfl⟩:=e;exact(hT t ti h1).und
theorem uu{src dst e:Nat}(hs:P.underlying src=some (.slice e))(he:P.underlying e=some (.int .u8))(hd:P.underlying dst=some .string){x:Value}{l:AAA}{B:Nat->Prop}
  (h:Rd w B (.sl (.int .u8)) [x] l):(convert src dst x).run P w= .ok (.string ⟨(l.map fun n:Int=>UInt8.ofNat n.toNat).toArray⟩) w:=by
 simp only[Rd]at h;obtain⟨a,cap,hx,hle,h⟩:=h;simp only[ANN,AQ6]at hx;subst hx;rcases h with h|⟨b,o,rfl,_,h⟩
 ·obtain rfl:=ANT h
  cases a with
  |none=>exact run_convert_bytes_nil w src e hs he _ _ dst hd
  |some a=>
   rw[run_convert_bytes_string w src dst e _ _ cap hs he hd];rfl
 ·refine run_convert_bytes_arg w src e hs he b o _ cap l rfl (fun i hi=> ?_) dst hd
  obtain⟨cs,c1,c2,c3⟩:=h i _ (AKT hi);subst c3;have:=c2 0 _ rfl;grind
include hT in
theorem AE4(h:Rel E σ a w){src dst:Nat}{x:Operand}(ho:o.op= .convert src dst x)(e:xr T src dst σ (σ.ev x) k=some y):Lr P o E σ a w k y:=by
 have hx:=h.ev x;unfold xr at e;split at e
 ·rename_i κ0 κ j n hs hd hv
  have h1:=JL hT hs;have h2:=JL hT hd;rw[hv]at hx;have aj:=eO (E:=E) (w:=w) (vw:=σ.bx) hx;refine Lr.same h (v:= .int κ (κ.wrap n)) (x:= .c (.v (.int κ) (κ.wrap n))) ?_ (VR.int (E:=E) (vw:=σ.bx) _ _) e
  simp only[zK]at h1 h2;simp only[execOp,ho,aj,convert,Sem.run_bind,Be h1,Be h2,Result.andThen_ok,Conv.intToInt,Sem.run_pure]
 ·rename_i s hs hd hv
  have h1:=JL hT hs;have h2:=JL hT hd;rw[hv]at hx;have aj:=Y_ (E:=E) (w:=w) (vw:=σ.bx) hx;refine Lr.same h (v:= .string ⟨s.toArray⟩) (x:= .c (.v .str s)) ?_ (VR.str (E:=E) (vw:=σ.bx) _) e
  simp only[zK]at h1 h2;simp only[execOp,ho,aj,convert,Sem.run_bind,Be h1,Be h2,Result.andThen_ok,Sem.run_pure]
 ·rename_i el s hs hd hv
  have h1:=JL hT hs;have h2:=JL hT hd;rw[hv]at hx;have aj:=Y_ (E:=E) (w:=w) (vw:=σ.bx) hx;split at e
  case h_2=>cases e
  rename_i WG;have h3:=JL hT WG;split at e
  case isFalse=>cases e
  rename_i aQ;simp only[zK]at h1 h2 h3
  let S0:ByteArray:=⟨s.toArray⟩
  have LP:S0.size=s.length:=by simp[S0,ByteArray.size]
  have pT:=Lib.run_convert_string_bytes (P:=P) w src dst el S0 h1 h2 h3;have ADD:s.length<=grownCap w S0.size 0 el:=by rw[LP];exact grownCap_ge _ _ _ _
  have new:=Lib.bytesWorld_at_new w el S0;have gP:(Lib.bytesCells w el S0).toList=(s.map fun c=>[Value.int .u8 (c.toNat:Int)]).flatten++List.replicate (grownCap w S0.size 0 el-S0.size) (.int .u8 0):=by
   have:(s.map fun c=>[Value.int .u8 (c.toNat:Int)]).flatten=s.map fun c=>Value.int .u8 (c.toNat:Int):=by
    have:=aG (l:=s.map fun c=>Value.int .u8 (c.toNat:Int));simpa[AR5,Function.comp_def]using this
   rw[this];simp[Lib.bytesCells,S0]
  have ALx:(Lib.bytesCells w el S0).size=grownCap w S0.size 0 el:=by
   rw[<-ATJ,gP];have:((s.map fun c=>[Value.int .u8 (c.toNat:Int)]).flatten).length=s.length:=by
    have:=aG (l:=s.map fun c=>Value.int .u8 (c.toNat:Int));rw[AR5]at this;have e2:(s.map fun c=>[Value.int .u8 (c.toNat:Int)])=s.map ((fun v=>[v])∘fun c=>Value.int .u8 (c.toNat:Int)):=rfl;rw[e2,this];simp
   rw[AMf,this,AUS];omega
  have how:Ow (Lib.bytesWorld w el S0) E.S (8+1) (.sl (.int .u8)) [.slice (some ⟨w.heap.size,0,none⟩) (s.map fun c=>(c.toNat:Int)).length (grownCap w S0.size 0 el)] (s.map fun c=>(c.toNat:Int))
    (w.heap.size::(List.replicate s.length ([]:ABy)).flatten):=by
   refine iL (css:=s.map fun c=>[Value.int .u8 (c.toNat:Int)]) new gP (by simp) (by simpa using ADD) (by simp[Ty.n];omega) (fun i hi hh=>by simp only[mk]at hi;omega) (by simp) fun i cs y G q1 q2 q3=> ?_
   simp only[AOR,AKm]at q1 q2;obtain⟨c1,z1,rfl⟩:=q1;obtain⟨c2,z2,rfl⟩:=q2;rw[z1]at z2;cases z2;have:G=[]:=ARD (AMU q3);subst this;simp[Ow]
  have hF:(List.replicate s.length ([]:ABy)).flatten=[]:=by simp
  rw[hF]at how;obtain⟨r1,r2,r3⟩:=VO h (HJ.refl h.bx) (w':=Lib.bytesWorld w el S0) (d:=9) (by omega) how (by simp) (by simp) (by simp[Lib.bytesWorld_size]) (fun c hc _=>Lib.bytesWorld_at_old w el S0 c hc)
   ⟨by simp[Lib.bytesWorld,World.freeze]<;>rfl,by simp[Lib.bytesWorld,World.freeze]<;>rfl,by simp[Lib.bytesWorld,World.freeze]<;>rfl,by rw[Lib.bytesWorld_size];omega⟩
  refine⟨_,_,_,_,_,.inl ?_,r1,r3,r2.any,rfl,e⟩;simp only[execOp,ho,aj,Sem.run_bind];have e5:=pT;simp only[S0]at e5;rw[e5];simp only[Result.andThen_ok,Sem.run_pure,ARf];rfl
 ·rename_i el z hs hd hv
  have h1:=JL hT hs;have h2:=JL hT hd;rw[hv]at hx;split at e
  case h_2=>cases e
  rename_i l WG hl;have h3:=JL hT WG;simp only[zK]at h1 h2 h3;obtain⟨Fs,hB,hS⟩:=h.bx;have aU:=XA (FO.refl σ.bx) hB hS.st hx hl;have hr:=uu (P:=P) h1 h3 h2 aU;refine Lr.same h (v:= .string ⟨(l.map fun n:Int=>UInt8.ofNat n.toNat).toArray⟩) (x:= .c (.v .str (l.map fun n:Int=>UInt8.ofNat n.toNat))) ?_ (VR.str (E:=E) (vw:=σ.bx) _) e
  simp only[execOp,ho,Sem.run_bind,hr,Result.andThen_ok,Sem.run_pure]
 ·cases e
end
end Go.Fw
end
section
namespace Go.Fw
theorem fc:∀(l:List Value) (o:Nat) (arr:Array Value) (p q:List Value),p.length=o->(∃m:List Value,m.length=l.length/\arr.toList=p++m++q)->(FL arr o l).toList=p++l++q
 |[],o,arr,p,q,hp,⟨m,hm,h⟩=>by
  grind[List.eq_nil_of_length_eq_zero,FL]
 |c::l,o,arr,p,q,hp,⟨m,hm,h⟩=>by
  cases m with
  |nil=>simp_all
  |cons b m=>
   simp only[FL];have:=fc l (o+1) (arr.setIfInBounds o c) (p++[c]) q (by simp[hp]) ⟨m,by simp_all,by
    simp_all⟩
   simp_all
theorem HJ.more{E E1 E2:Env}{w:World}{vw bx nF eF:List Bx}{G F1 F2 A W:ABy}(k1:HJ E w vw bx G E1 nF F1)(k2:HJ E1 w vw nF (F1++G) E2 eF F2)(hp:F1.Perm (A++W)):
  let E3:Env:={ E2 with S:=fun c=>E2.S c\/c∈W,T:=fun c=>E2.T c\/c∈W }
  HJ E w vw bx G E3 eF (A++F2):=by
 intro E3;have hB:=k2.boxes.perm (G':=(F2++A)++W++G) (by
  grind)
 obtain⟨hle,Z2⟩:=hB.share;exact⟨(k1.le.trans k2.le).trans hle,k2.len.trans k1.len,fun b B hb=>(k2.within b B hb).elim .inl (k1.within b B),Z2.perm (ARp _ AVl)⟩
theorem cL{w:World}{vw:List Bx}{r:Ty}(hg:r.rF=true):∀{n i:Nat} {parts:List (Nat×XV)} {vals:List (Nat×Value)} {E:Env} {bx:List Bx} {G:ABy} {d:Nat} {rows:List r.D} {R0:List Bx} {d':Nat},
  C2 E w vw bx G->FO bx vw->1<=d->ADi E w vw parts vals->bM r i n parts bx d=some (rows,R0,d')->1<=d'/\d'<=d/\rows.length=n/\ ∃(E':Env) (Fs:List ABy) (css:List (List Value)),
   HJ E w vw bx G E' R0 Fs.flatten/\css.length=n/\Fs.length=n/\(∀(k:Nat) cs y G,css[k]? =some cs->rows[k]? =some y->Fs[k]? =some G->Ow w E'.S (d'-1) r cs y G)/\
   ∀(pre:List (List Value)) (arr:Array Value),pre.length=i->(∀c∈pre,c.length=r.n)->arr.toList=pre.flatten++(List.replicate n (Eu r)).flatten->
    ∃Ku,Instr.fill (fun i=>some (i*r.n,r.n)) arr vals=some Ku/\Ku.toList=pre.flatten++css.flatten
 |0,i,[],[],E,bx,G,d,rows,R0,d',h,hw,hd,hp,e=>by
  simp only[bM,AKX,APF]at e;obtain⟨rfl,rfl,rfl⟩:=e;refine⟨hd,AMN _,rfl,E,[],[],HJ.refl h,rfl,rfl,by simp,fun pre arr _ _ ha=>⟨arr,rfl,by simp_all⟩⟩
 |n+1,i,(j,x)::l,(j',v)::m,E,bx,G,d,rows,R0,d',h,hw,hd,hp,e=>by
  obtain⟨⟨hj,hx⟩,hp⟩:=hp;simp only at hj hx;subst hj;simp only[bM]at e;split at e
  case isFalse=>cases e
  rename_i hij;subst hij;simp only[ALU,AKm,APF]at e;obtain⟨⟨y1,nF,d1⟩,e1,⟨y2,eF,d2⟩,e2,rfl,rfl,rfl⟩:=e;dsimp only at e2|-;obtain⟨a1,a2,E1,F1,k1,o1⟩:=ABY h hw hd hx e1;have ABR:=k1.le.keep (w:=w) (vw:=vw) h.st;obtain⟨b1,b2,b3,E2,Fs,css,k2,c1,c2,c3,c4⟩:=cL hg (G:=F1++G) k1.boxes (hw.sk k1) a1 (hp.imp fun _ _ q=>⟨q.1,QR ABR q.2⟩) e2;obtain⟨A,W,uK,o1'⟩:=Kf (d:=d'-1) (by omega) o1;refine⟨b1,APp b2 a2,by simp[b3],_,A::Fs,v.cells.toList::css,HJ.more k1 k2 uK,by simp[c1],by simp[c2],fun k cs y G' q1 q2 q3=> ?_,fun pre arr zg hpn ha=> ?_⟩
  ·cases k with
   |zero=>
    simp at q1 q2 q3;subst q1 q2 q3;refine EV (S:=fun b=>E1.S b\/b∈W) ?_ (fun _ _=>rfl) (fun _ _=>rfl) o1'
    intro c hc;exact hc.elim (fun h=> .inl (k2.le.S c h)) .inr
   |succ k=>
    refine EV (S:=E2.S) ?_ (fun _ _=>rfl) (fun _ _=>rfl) (c3 k cs y G' (by simp_all) (by simp_all) (by simp_all))
    simp_all
  ·have hlen:v.cells.toList.length=r.n:=ZB o1
   have hpf:pre.flatten.length=i*r.n:=by
    clear ha c4
    subst zg;clear e1 e2
    induction pre with
    |nil=>simp
    |cons c pre ih=>grind
   have aV:(FL arr (i*r.n) v.cells.toList).toList=pre.flatten++v.cells.toList++(List.replicate n (Eu r)).flatten:=
    fc _ _ _ _ _ hpf ⟨Eu r,by rw[G5,hlen],by grind⟩
   obtain⟨Ku,f1,f2⟩:=c4 (pre++[v.cells.toList]) (FL arr (i*r.n) v.cells.toList) (by simp[zg]) (by
    grind) (by simp_all)
   refine⟨Ku,?_,by simp_all⟩;rw[xz (i:=i) (off:=i*r.n) (size:=r.n) rfl (by omega) ?_]
   all_goals grind[List.length_append,Fb,G5,Nat.succ_mul]
 |n+1,i,[],[],E,bx,G,d,rows,R0,d',h,hw,hd,hp,e=>by
  simp only[bM,AKm,APF]at e;obtain⟨⟨y2,eF,d2⟩,e2,rfl,rfl,rfl⟩:=e;obtain⟨b1,b2,b3,E2,Fs,css,k2,c1,c2,c3,c4⟩:=cL hg (G:=G) h hw hd (parts:=[]) (vals:=[]) trivial e2;refine⟨b1,b2,by simp[b3],E2,[]::Fs,Eu r::css,by simp_all,by simp[c1],by simp[c2],fun k cs y G' q1 q2 q3=> ?_,fun pre arr zg hpn ha=> ?_⟩
  ·grind[jE]
  ·obtain⟨Ku,f1,f2⟩:=c4 (pre++[Eu r]) arr (by simp[zg]) (by
    grind[G5]) (by grind)
   simp_all
 |0,_,_::_,_,_,_,_,_,_,_,_,_,_,_,_,e=>by simp[bM]at e
 |0,_,[],_::_,_,_,_,_,_,_,_,_,_,_,hp,_=>hp.elim
 |_+1,_,[],_::_,_,_,_,_,_,_,_,_,_,_,hp,_=>hp.elim
 |_+1,_,_::_,[],_,_,_,_,_,_,_,_,_,_,hp,_=>hp.elim
section
variable{Y:Type} {P:Program} {T:Jr} (hT:Eb P T) {o:Oper} {E:Env} {σ:St} {a:Act} {w:World} {k:K Y} {y:Y}
include hT
theorem qf(h:Rel E σ a w){t n:Nat}{ps:Array (Nat×Operand)}(ho:o.op= .buildSlice t n ps)(e:Sr T t n (ps.toList.map fun q=>(q.1,σ.ev q.2)) σ k=some y):Lr P o E σ a w k y:=by
 unfold Sr at e;split at e
 case h_2=>cases e
 rename_i el hd;split at e
 case h_2=>cases e
 rename_i r hr;split at e
 case isFalse=>cases e
 rename_i hc;simp only[ALJ,ALh]at hc;obtain⟨⟨WG,hn⟩,hrn⟩:=hc;simp only[ALU]at e;obtain⟨⟨rows,R0,d'⟩,e1,e⟩:=e;dsimp only at e;obtain⟨el',ti,hu,Wq,hs,hby,hrow⟩:=Kv hT WG;obtain⟨i,z,i1,i2,i3,i4,i5,hg⟩:=Yw hT Wq hrow;have AOi:=sn h ps;obtain⟨b1,b2,b3,E',Fs,css,k2,c1,c2,c3,c4⟩:=cL hg h.bx (FO.refl _) (by omega) AOi e1
 let zero:Array Value:=if n*r.n=0 then #[]else z.cells
 have hz:((Array.range (n*r.n)).map (fun j=>zero[j%zero.size]!)).toList=(List.replicate n (Eu r)).flatten:=by
  by_cases h0:n*r.n=0
  ·have h1:(List.replicate n (Eu r)).flatten=[]:=by
    rw[<-AVb,Fb,G5,h0]
   rw[h1];simp[h0]
  ·have aO:Eu r≠[]:=by
    intro he;have:=G5 r;rw[he]at this;simp at this;rw[<-this]at h0;simp at h0
   have:=Yf i5 n aO;rw[G5]at this;simp only[zero,AJk h0];exact this
 obtain⟨Ku,f1,f2⟩:=c4 [] _ rfl (by simp) (by rw[hz];simp);simp only[AT3,AQH]at f2
 let w':=w.alloc (.cells Ku el')
 have new:w'.heap[w.heap.size]? =some (.cells Ku el'):=by
  show(w.heap.push (.cells Ku el'))[w.heap.size]? =_
  simp
 obtain⟨d,rfl⟩:∃m,d' =m+1:=⟨d'-1,by omega⟩;have hl:∀c∈css,c.length=r.n:=by
  intro c hc;obtain⟨j,hj,rfl⟩:=AQA hc;exact ZB (c3 j _ _ _ (AKT hj) (AKT (by omega)) (AKT (by omega)))
 have hfl:css.flatten.length=n*r.n:=by
  rw[<-c1];clear f2 c3 c4 c1
  induction css with
  |nil=>simp
  |cons c l ih=>simp[hl c (by simp),ih (fun c hc=>hl c (by simp[hc])),Nat.succ_mul];omega
 have ALx:Ku.size=n*r.n:=by rw[<-ATJ,f2,hfl]
 obtain⟨Fs0,hB1,Z2⟩:=k2.boxes;simp only[ALu]at Z2;have how:Ow w' E'.S (d+1) (.sl r) [.slice (some ⟨w.heap.size,0,none⟩) rows.length n] rows (w.heap.size::Fs.flatten):=by
  refine iL (css:=css) (ex:=[]) new (by simpa using f2) (by omega) (by omega) (by omega) (Yt _) (by omega) fun k cs y G q1 q2 q3=> ?_
  have Qt:∀c∈G,c∈Fs.flatten:=fun c hc=>APz.2 ⟨G,AMU q3,hc⟩
  exact EV (fun _ h=>h) (fun c hc=>JH (Z2.eG c (Z2.st c hc))) (fun c hc=>JH (Z2.lt c (by simp only[AMt];exact .inr (Qt c hc)))) (by simpa using c3 k cs y G q1 q2 q3)
 rw[b3]at how;obtain⟨r1,r2,r3⟩:=VO h k2 (w':=w') (d:=d+1) (by omega) how (by
   intro c hc;rcases ANC.1 hc with rfl|hc
   ·exact .inr (AMN _)
   ·exact .inl hc) (by
   refine AUT.2 ⟨fun hc=> ?_,(AL8.1 Z2.nodup).2.1⟩;have:=Z2.lt w.heap.size (by simp only[AMt];exact .inr hc);omega) (by
   intro c hc;rcases ANC.1 hc with rfl|hc
   ·simp[w']
   ·have:=Z2.lt c (by simp only[AMt];exact .inr hc)
    simp[w'];omega) (fun c hc _=>JH hc) ⟨rfl,rfl,rfl,by simp[w']⟩
 refine⟨_,_,_,_,_,.inl ?_,r1,r3,r2.any,rfl,e⟩;have aQ: ¬(n*r.n>2^24):=by
  have:n*r.n<=1024*1024:=AV0 hn hrn;omega
 simp only[execOp,ho,Instr.buildSlice,Sem.run_bind,Be hu,Result.andThen_ok,sizeOf,typeInfo,run_program,i1,Sem.run_pure,i2,hs,aQ,ANX];by_cases h0:n*r.n=0
 ·have hz0:zero= #[]:=by simp only[zero,AJe h0]
  rw[hz0]at f1;simp only[h0,AQY,Sem.run_bind,Sem.run_pure,Result.andThen_ok];rw[h0]at f1;simp only[f1,newRow,Sem.run_bind,run_newObj,Result.andThen_ok,Sem.run_pure];rfl
 ·have hz0:zero=z.cells:=by simp only[zero,AJk h0]
  rw[hz0]at f1;simp only[h0,ANX,Sem.run_bind,zeroValue,typeInfo,run_program,Result.andThen_ok,i1,Sem.run_pure,i4];simp only[f1,newRow,Sem.run_bind,run_newObj,Result.andThen_ok,Sem.run_pure];rfl
end
end Go.Fw
end
section
namespace Go.Fw
theorem eY(w:World)(b o:Nat)(v:Value):(w.setCell ⟨b,o,none⟩ v).heap=w.heap.modify b fun
 | .cells c elem frozen=> .cells (c.setIfInBounds o v) elem frozen
 |o=>o:=rfl
theorem Fl:∀(vs:List Value) (o:Nat) (w:World) (b:Nat) (arr:Array Value) (ty:TypeId) (fr:AEG),w.heap[b]? =some (.cells arr ty fr)->
  (w.setCells b o vs).heap[b]? =some (.cells (FL arr o vs) ty fr)
 |[],_,_,_,_,_,_,h=>h
 |v::l,o,w,b,arr,ty,fr,h=>by
  simp only[World.setCells,FL];refine Fl l (o+1) _ b _ ty fr ?_
  rw[eY,Array.getElem?_modify,AJe rfl,h];rfl
theorem DY:∀(vs:List Value) (o:Nat) (w:World) (b:Nat),(w.setCells b o vs).heap.size=w.heap.size
 |[],_,_,_=>rfl
 |v::l,o,w,b=>by
  simp only[World.setCells];rw[DY l,eY,Array.size_modify]
theorem DK:∀(vs:List Value) (o:Nat) (w:World) (b c:Nat),c≠b->(w.setCells b o vs).heap[c]? =w.heap[c]?
 |[],_,_,_,_,_=>rfl
 |v::l,o,w,b,c,h=>by
  simp only[World.setCells];rw[DK l _ _ _ _ h,eY,Array.getElem?_modify,AJk (fun e=>h e.symm)]
theorem CG:∀(vs:List Value) (o:Nat) (w:World) (b:Nat),Grown w (w.setCells b o vs)
 |[],_,_,_=>⟨rfl,rfl,rfl,AMN _⟩
 |v::l,o,w,b=>by
  have:=CG l (o+1) (w.setCell ⟨b,o,none⟩ v) b;refine⟨this.os,this.tape,this.output,?_⟩;rw[DY];omega
theorem YU{arr:Array Value}:∀{l:List Value} {o j:Nat},o+l.length<=arr.size->(FL arr o l)[j]? =if o<=j/\j<o+l.length then l[j-o]? else arr[j]?:=by
 intro l
 induction l generalizing arr with
 |nil=>intro o j _;rw[AJk (fun hh=>by grind)];rfl
 |cons c l ih=>
  intro o j h;simp only[AMK]at h;simp only[FL];grind
theorem LD{w:World}{b o:Nat}{arr:Array Value}{ty:TypeId}{fr:AEG}(h:w.heap[b]? =some (.cells arr ty fr)):w.cell? ⟨b,o,none⟩=arr[o]?:=by
 simp[World.cell?,h]
theorem PS{w:World}{b o:Nat}{vs:List Value}{arr:Array Value}{ty:TypeId}{fr:AEG}(h:w.heap[b]? =some (.cells arr ty fr))(hs:o+vs.length<=arr.size):Bg (w.setCells b o vs) b o vs:=by
 intro j v hj;have hl:=(AK1.1 hj).1;rw[LD (Fl vs o w b arr ty fr h),YU hs,AJe (by omega),show o+j-o=j by omega,hj]
theorem WO{w:World}{b b' o o':Nat}{vs cs:List Value}{arr:Array Value}{ty:TypeId}{fr:AEG}(hc:Bg w b' o' cs)(h:w.heap[b]? =some (.cells arr ty fr))(hs:o+vs.length<=arr.size)
  (ha:b'≠b\/o'+cs.length<=o\/o+vs.length<=o'):Bg (w.setCells b o vs) b' o' cs:=by
 intro j v hj;have hl:=(AK1.1 hj).1;by_cases hb:b' =b
 ·subst hb
  have:=hc j v hj;rw[LD h]at this;rw[LD (Fl vs o w b' arr ty fr h),YU hs,AJk (by omega),this]
 ·rw[World.cell?_of_block (a:=⟨b',o'+j,none⟩) (DK vs o w b b' hb)]
  exact hc j v hj
theorem Wh{w:World}{b o n k:Nat}{arr:Array Value}{ty:TypeId}{fr:AEG}(h:w.heap[b]? =some (.cells arr ty fr))(hs:o+n<=arr.size)(hu:AAX fr (arr.size+k)):w.there b o n:=by
 intro j hj;refine⟨?_,?_⟩
 ·rw[LD h]
  grind
 ·have:=hu (o+j) (by omega)
  grind[World.frozen?]
theorem oV{w:World}{S:Nat->Prop}:∀{r:Ty} {d:Nat} {cs:List Value} {y:r.D} {F:ABy},Ow w S d r cs y F-> ∀v∈cs,v.oneCell' =true
 | .int _,_,_,_,_,h,v,hv=>by simp only[Ow]at h;rw[h.1]at hv;simp at hv;subst hv;rfl
 | .bool,_,_,_,_,h,v,hv=>by simp only[Ow]at h;rw[h.1]at hv;simp at hv;subst hv;rfl
 | .str,_,_,_,_,h,v,hv=>by simp only[Ow]at h;rw[h.1]at hv;simp at hv;subst hv;rfl
 | .unit,_,_,_,_,h,v,hv=>by grind[Ow]
 | .sl _,0,_,_,_,h,v,hv=>by
  simp only[Ow,Rd]at h;obtain⟨⟨_,_,rfl,_⟩,_⟩:=h;simp at hv;subst hv;rfl
 | .sl _,_+1,_,_,_,h,v,hv=>by
  simp only[Ow]at h;obtain⟨_,_,rfl,_⟩:=h;simp at hv;subst hv;rfl
 | .cons _ _,_,_,_,_,h,v,hv=>by
  simp only[Ow]at h;obtain⟨u,l,F1,F2,rfl,_,h1,h2⟩:=h;rcases ANC.1 hv with rfl|hv
  ·exact oV h1 _ (by simp)
  ·exact oV h2 _ hv
section
variable{P:Program} {w:World}
structure oP (P:Program) (w:World) (size n:Nat) (x:Value) (news:List Value):Prop where
 len:∀w',(Builtin.lenOf x).run P w' = .ok n w'
 cells:∀w',w'.heap=w.heap->(Builtin.firstCells size n x).run P w' = .ok news.toArray w'
theorem jh{ts:Array TypeId}{t u ty e:TypeId}(yl:ts[0]? =some t)(ht1:ts[1]? =some u){i:TypeInfo}{size:Nat}(ht:P.underlying t=some (.slice e))(hu:(∃e,P.underlying u=some (.slice e))\/P.underlying u=some .string)(hi:P.info? e=some i)(LP:i.size=size)
  {b o Xa l8 n:Nat} {x:Value} {news:List Value} (hn:oP P w size n x news) (U7:Xa+n<=l8) (sY:w.there b (o+Xa*size) news.length) (h1:∀v∈news,v.oneCell' =true):
  (Builtin.append_ ts ty #[.slice (some ⟨b,o,none⟩) Xa l8,x]).run P w= .ok (.slice (some ⟨b,o,none⟩) (Xa+n) l8) (w.setCells b (o+Xa*size) news):=by
 subst LP;have vX:=run_storeCells_cells (P:=P) b (o+Xa*i.size) news 0 w (fun j hj=>by simpa using(sY j hj).1) (fun j hj=>by simpa using(sY j hj).2) h1;simp only[ART]at vX;have hl:=hn.len w;have hf:=hn.cells w rfl;rcases hu with⟨e',hu⟩|hu
 ·simp[Builtin.append_,yl,ht1,run_underlying ht,run_underlying hu,sizeOf,typeInfo,hi,hl,U7,hf,Addr.add_eq,vX]
 ·simp[Builtin.append_,yl,ht1,run_underlying ht,run_underlying hu,sizeOf,typeInfo,hi,hl,U7,hf,Addr.add_eq,vX]
theorem rP{ts:Array TypeId}{t u ty e:TypeId}(yl:ts[0]? =some t)(ht1:ts[1]? =some u){i:TypeInfo}{size:Nat}(ht:P.underlying t=some (.slice e))(hu:(∃e,P.underlying u=some (.slice e))\/P.underlying u=some .string)(hi:P.info? e=some i)(LP:i.size=size)
  {a:Option Addr} {x:Value} (hn:oP P w size 0 x []):
  (Builtin.append_ ts ty #[.slice a 0 0,x]).run P w= .ok (.slice a 0 0) w:=by
 subst LP;have hl:=hn.len w;have hf:=hn.cells w rfl;cases a with
 |none=>
  rcases hu with⟨e',hu⟩|hu
  ·simp[Builtin.append_,yl,ht1,run_underlying ht,run_underlying hu,sizeOf,typeInfo,hi,hl,hf]
  ·simp[Builtin.append_,yl,ht1,run_underlying ht,run_underlying hu,sizeOf,typeInfo,hi,hl,hf]
 |some a=>
  have vX:(storeCells (a.add (0*i.size)) [] 0).run P w= .ok () w:=rfl;rcases hu with⟨e',hu⟩|hu
  ·simp[Builtin.append_,yl,ht1,run_underlying ht,run_underlying hu,sizeOf,typeInfo,hi,hl,hf,storeCells]
  ·simp[Builtin.append_,yl,ht1,run_underlying ht,run_underlying hu,sizeOf,typeInfo,hi,hl,hf,storeCells]
theorem ft{ts:Array TypeId}{t u ty e:TypeId}(yl:ts[0]? =some t)(ht1:ts[1]? =some u){i:TypeInfo}{z:Value}{size:Nat}(ht:P.underlying t=some (.slice e))(hu:(∃e,P.underlying u=some (.slice e))\/P.underlying u=some .string)(hi:P.info? e=some i)(hz:i.zero=some z)(LP:i.size=size)
  {a:Option Addr} {Xa l8 n:Nat} {x:Value} {AS7 news:List Value} (ho:∀w',w'.heap=w.heap->(Builtin.firstCells size Xa (.slice a Xa l8)).run P w' = .ok AS7.toArray w')
  (hn:oP P w size n x news) (AR3:l8<Xa+n) (h63:Xa+n<=CN) (hby:i.bytes<=512):
  (Builtin.append_ ts ty #[.slice a Xa l8,x]).run P w= .ok (.slice (some ⟨w.heap.size,0,none⟩) (Xa+n) (grownCap w (Xa+n) l8 e))
   (w.drew.alloc (.cells (AS7.toArray++news.toArray++Builtin.zeroCells z.cells (grownCap w (Xa+n) l8 e-(Xa+n))) e)):=by
 subst LP;have hl:=hn.len w;have hf:=hn.cells w.drew rfl;have hfo:=ho w.drew rfl;have hno: ¬(Xa+n<=l8):=by omega
 have hb:(Xa+n)*i.bytes<=140737488355328:=by
  have:(Xa+n)*i.bytes<=CN*512:=AV0 h63 hby;grind[CN]
 have h48:=growslice_fits AR3 hb;have ATD: ¬(281474976710656<Builtin.nextslicecap (Xa+n) l8*i.bytes):=by omega
 have AST: ¬(9223372036854775807<((Xa:Int)+(n:Int))):=by grind[CN]
 rcases hu with⟨e',hu⟩|hu
 ·simp[Builtin.append_,yl,ht1,run_underlying ht,run_underlying hu,sizeOf,typeInfo,zeroValue,hi,hz,hl,hno,AST,ATD,Question.forced,hf,hfo,newRow,grownCap]
  grind
 ·simp[Builtin.append_,yl,ht1,run_underlying ht,run_underlying hu,sizeOf,typeInfo,zeroValue,hi,hz,hl,hno,AST,ATD,Question.forced,hf,hfo,newRow,grownCap]
  grind
end
end Go.Fw
end
section
namespace Go.Fw
def FM(w:World)(S:Nat->Prop)(d:Nat)(r:Ty)(css:List (List Value))(rows:List r.D)(Fs:List ABy):Prop:=
 css.length=rows.length/\Fs.length=rows.length/\(∀c∈css,c.length=r.n)/\ ∀(i:Nat) cs y G,css[i]? =some cs->rows[i]? =some y->Fs[i]? =some G->Ow w S d r cs y G
theorem FM.mono{w w':World}{S S':Nat->Prop}{d:Nat}{r:Ty}{css:List (List Value)}{rows:List r.D}{Fs:List ABy}(h:FM w S d r css rows Fs)(hS:∀c,S c->S' c)(hw:∀c,S c->w'.heap[c]? =w.heap[c]?)
  (hF:∀c∈Fs.flatten,w'.heap[c]? =w.heap[c]?):FM w' S' d r css rows Fs:=
 ⟨h.1,h.2.1,h.2.2.1,fun i cs y G a b c=>EV hS hw (fun x hx=>hF x (APz.2 ⟨G,AMU c,hx⟩)) (h.2.2.2 i cs y G a b c)⟩
theorem FM.append{w:World}{S:Nat->Prop}{d:Nat}{r:Ty}{css AUd:List (List Value)}{rows rows':List r.D}{Fs Fs':List ABy}(h:FM w S d r css rows Fs)(k:FM w S d r AUd rows' Fs'):
  FM w S d r (css++AUd) (rows++rows') (Fs++Fs'):=by
 refine⟨by simp[h.1,k.1],by simp[h.2.1,k.2.1],fun c hc=>(AMt.1 hc).elim (h.2.2.1 c) (k.2.2.1 c),fun i cs y G a b c=> ?_⟩;by_cases hi:i<rows.length
 ·rw[AMB (by rw[h.1];omega)]at a
  rw[AMB hi]at b;rw[AMB (by rw[h.2.1];omega)]at c;exact h.2.2.2 i cs y G a b c
 ·rw[AMM (by rw[h.1];omega)]at a
  rw[AMM (by omega)]at b;rw[AMM (by rw[h.2.1];omega)]at c;rw[h.1]at a;rw[h.2.1]at c;exact k.2.2.2 _ cs y G a b c
theorem FM.weaken{w:World}{S:Nat->Prop}{d d':Nat}{r:Ty}{css:List (List Value)}{rows:List r.D}{Fs:List ABy}(h:FM w S d r css rows Fs)(hd:d'<=d):
  ∃(Gs:List ABy) (W:ABy),Fs.flatten.Perm (Gs.flatten++W)/\FM w (fun c=>S c\/c∈W) d' r css rows Gs:=by
 obtain⟨Gs,Ws,h1,h2,h3,h4⟩:=sO (R:=fun i G F W=> ∀cs y,css[i]? =some cs->rows[i]? =some y->Ow w (fun c=>S c\/c∈W) d' r cs y F) Fs 0 (fun i G hG=>by
  rw[ARQ];have hi:=(AK1.1 hG).1;have h1:=h.1;have h2:=h.2.1;obtain⟨F,W,hp,ho⟩:=Kf hd (h.2.2.2 i _ _ G (AKT (by omega)) (AKT (by omega)) hG);grind)
 refine⟨Gs,Ws.flatten,h3,h.1,h1.trans h.2.1,h.2.2.1,fun i cs y G a b c=> ?_⟩;have hi:=(AK1.1 c).1;have hw:Ws[i]? =some (Ws[i]'(by omega)):=AKT _;have hf:Fs[i]? =some (Fs[i]'(by omega)):=AKT _;have:=h4 i _ _ _ hf c hw cs y (by simp_all) (by simp_all);exact EV (fun x hx=>hx.imp id fun hx=>APz.2 ⟨_,AMU hw,hx⟩) (fun _ _=>rfl) (fun _ _=>rfl) this
theorem H5{n:Nat}:∀{css:List (List Value)},(∀c∈css,c.length=n)->css.flatten.length=css.length*n
 |[],_=>by simp
 |c::l,h=>by simp[h c (by simp),H5 (css:=l) (fun c hc=>h c (by simp[hc])),Nat.succ_mul];omega
theorem FM.one{w:World}{S:Nat->Prop}{d:Nat}{r:Ty}{css:List (List Value)}{rows:List r.D}{Fs:List ABy}(h:FM w S d r css rows Fs):∀v∈css.flatten,v.oneCell' =true:=by
 intro v hv;obtain⟨c,hc,hv⟩:=APz.1 hv;obtain⟨i,hi,rfl⟩:=AQA hc;have h1:=h.1;have h2:=h.2.1;exact oV (h.2.2.2 i _ _ _ (AKT hi) (AKT (by omega)) (AKT (by omega))) v hv
theorem FM.flat{w:World}{B S:Nat->Prop}{d:Nat}{r:Ty}(hf:r.flat=true){css:List (List Value)}{rows:List r.D}(h1:css.length=rows.length)(h2:∀c∈css,c.length=r.n)
  (h3:∀(i:Nat) cs y,css[i]? =some cs->rows[i]? =some y->Rd w B r cs y):FM w S d r css rows (List.replicate rows.length []):=by
 refine⟨h1,by simp,h2,fun i cs y G a b c=> ?_⟩;grind[List.mem_of_getElem?,nE]
theorem Bg.heap{w w':World}{b o:Nat}{cs:List Value}(h:Bg w b o cs)(e:w'.heap=w.heap):Bg w' b o cs:=h.of_block (by rw[e])
theorem SI{P:Program}{w:World}{a:Option Addr}{n cap size:Nat}{css:List (List Value)}(hl:css.length=n)(hc:∀c∈css,c.length=size)
  (h:n=0\/ ∃b o,a=some ⟨b,o,none⟩/\Bg w b o css.flatten):oP P w size n (.slice a n cap) css.flatten:=by
 refine⟨fun w' =>rfl,fun w' e=> ?_⟩;have hlen:css.flatten.length=n*size:=by rw[H5 hc,hl]
 rcases h with rfl|⟨b,o,rfl,h⟩
 ·have:css=[]:=ANT hl
  subst this;cases a with
  |none=>rfl
  |some a=>
   simp only[Builtin.firstCells,Nat.zero_mul,AT3];rfl
 ·simp only[Builtin.firstCells]
  rw[<-hlen];exact L_ (h.heap e)
theorem AH_{P:Program}{w:World}{s:ABF}:oP P w 1 s.length (.string ⟨s.toArray⟩) (s.map fun c=>[Value.int .u8 (c.toNat:Int)]).flatten:=by
 refine⟨fun w' =>rfl,fun w' _=> ?_⟩;have LP:(⟨s.toArray⟩:ByteArray).size=s.length:=by rfl
 have e1:(⟨s.toArray⟩:ByteArray).extract 0 s.length=⟨s.toArray⟩:=by
  rw[<-LP];apply ByteArray.ext;simp
 simp only[Builtin.firstCells,e1,Sem.run_pure];have:(s.map fun c=>[Value.int .u8 (c.toNat:Int)]).flatten=s.map fun c=>Value.int .u8 (c.toNat:Int):=by
  have:=aG (l:=s.map fun c=>Value.int .u8 (c.toNat:Int));grind[List.map_map,Function.comp_def]
 simp_all
theorem rv{w:World}{S:Nat->Prop}{d:Nat}{r:Ty}{v:Value}{rows:List r.D}{F:ABy}(h:Ow w S (d+1) (.sl r) [v] rows F):
  ∃a cap css Fs R,v= .slice a rows.length cap/\rows.length<=cap/\FM w S d r css rows Fs/\F.Perm (Fs.flatten++R)/\
   ((cap=0/\F=[])\/ ∃b o arr ty fr,a=some ⟨b,o,none⟩/\w.heap[b]? =some (.cells arr ty fr)/\o+cap*r.n<=arr.size/\AAX fr (arr.size+mk r)/\F=b::Fs.flatten/\Bg w b o css.flatten):=by
 simp only[Ow]at h;obtain⟨a,cap,e,hle,h⟩:=h;simp only[ANN,AQ6]at e;subst e;rcases h with⟨h,rfl⟩|⟨b,o,arr,ty,fr,Fs,rfl,hb,LP,hu,rfl,hFl,hr⟩
 ·have:rows=[]:=ANT (by omega)
  subst this;exact⟨a,cap,[],[],[],rfl,hle,⟨rfl,rfl,by simp,fun i cs y G h=>by simp at h⟩,by simp,.inl ⟨h,rfl⟩⟩
 ·
  have key:∀(n o:Nat) (ys:List r.D) (Fs:List ABy),ys.length=n->Fs.length=n->(∀(i:Nat) (y:r.D) (G:ABy),ys[i]? =some y->Fs[i]? =some G-> ∃cs,cs.length=r.n/\Bg w b (o+i*r.n) cs/\Ow w S d r cs y G)->
    ∃css,FM w S d r css ys Fs/\Bg w b o css.flatten:=by
   intro n
   induction n with
   |zero=>
    intro o ys Fs h1 h2 _;obtain rfl:=ANT h1;obtain rfl:=ANT h2;exact⟨[],⟨rfl,rfl,by simp,fun i cs y G h=>by simp at h⟩,fun _ _ h=>by simp at h⟩
   |succ n ih=>
    intro o ys Fs h1 h2 hh;obtain⟨y,ys,rfl⟩:=AVC h1;obtain⟨G,Fs,rfl⟩:=AVC h2;obtain⟨cs,c1,c2,c3⟩:=hh 0 y G rfl rfl;obtain⟨css,d1,d2⟩:=ih (o+r.n) ys Fs (by simp_all) (by simp_all) (fun i z G hz hG=>by
     obtain⟨cs,e1,e2,e3⟩:=hh (i+1) z G (by simp_all) (by simp_all);grind)
    refine⟨cs::css,⟨by simp[d1.1],by omega,fun c hc=> ?_,fun i iO y' G' a b c=> ?_⟩,?_⟩
    ·rcases ANC.1 hc with rfl|hc
     ·omega
     ·exact d1.2.2.1 c hc
    ·cases i with
     |zero=>simp_all
     |succ i=>exact d1.2.2.2 i iO y' G' (by simp_all) (by simp_all) (by simp_all)
    grind[List.flatten_cons,Bg.append]
  obtain⟨css,k1,k2⟩:=key rows.length o rows Fs rfl hFl hr;refine⟨_,cap,css,Fs,[b],rfl,hle,k1,?_,.inr ⟨b,o,arr,ty,fr,rfl,hb,LP,hu,rfl,k2⟩⟩;grind
theorem pd{w:World}{S:Nat->Prop}:∀{r:Ty} {cs:List Value} {x:r.D},Rd w S r cs x->Ow w S 0 r cs x []
 | .cons c r,cs,x,hr=>by
  simp only[Rd]at hr;obtain⟨v,l,rfl,h1,h2⟩:=hr;simp only[Ow];exact⟨v,l,[],[],rfl,rfl,pd h1,pd h2⟩
 | .unit,_,_,hr=>by grind[Rd,Ow]
 | .int k,_,_,hr=>by grind[Rd,Ow]
 | .bool,_,_,hr=>by grind[Rd,Ow]
 | .str,_,_,hr=>by grind[Rd,Ow]
 | .sl q,_,_,hr=>by simp only[Ow];simp_all
theorem js{P:Program}{E:Env}{w:World}{vw bx:List Bx}{G:ABy}(h:C2 E w vw bx G)(hw:FO bx vw){x:AV}{v:Value}(hv:VR E w vw x v){r:Ty}{rows:List r.D}{R0:List Bx}{d:Nat}
  (e:r8 bx x=some ⟨r,rows,R0,d⟩):1<=d/\ ∃E' F css Fs R,HJ E w vw bx G E' R0 F/\F.Perm (List.flatten Fs++R)/\FM w E'.S (d-1) r css rows Fs/\oP P w r.n rows.length v css.flatten:=by
 have plain:∀{B:Nat->Prop} {ys:List r.D},r.flat=true->Rd w B (.sl r) [v] ys-> ∀S:Nat->Prop,∃css,FM w S 8 r css ys (List.replicate ys.length [])/\oP P w r.n ys.length v css.flatten:=by
  intro B ys hf hr S;simp only[Rd]at hr;obtain⟨a,cap,e1,hle,hr⟩:=hr;simp only[ANN,AQ6]at e1;subst e1;rcases hr with hr|⟨b,o,rfl,_,hr⟩
  ·have:ys=[]:=ANT hr
   subst this;exact⟨[],⟨rfl,rfl,by simp,fun i cs y G h=>by simp at h⟩,SI (css:=[]) rfl (by simp) (.inl rfl)⟩
  ·obtain⟨css,c1,c2,c3,c4⟩:=uM hr
   exact⟨css,FM.flat hf c1 c2 c4,SI c1 c2 (.inr ⟨b,o,rfl,c3⟩)⟩
 have done:∀{B:Nat->Prop} {ys:List r.D},r.flat=true->Rd w B (.sl r) [v] ys->rows=ys->R0=bx->d=9->
   1<=d/\ ∃E' F css Fs R,HJ E w vw bx G E' R0 F/\F.Perm (List.flatten Fs++R)/\FM w E'.S (d-1) r css rows Fs/\oP P w r.n rows.length v css.flatten:=by
  intro B ys hf hr e1 e2 e3;subst e1 e2 e3;obtain⟨css,k1,k2⟩:=plain hf hr E.S;exact⟨by omega,E,[],css,_,[],HJ.refl h,by simp,k1,k2⟩
 unfold r8 at e;split at e
 ·rename_i s
  simp only[AKX,AL1]at e;obtain⟨rfl,e⟩:=e;have e:=AOs e;simp only[APF]at e;obtain⟨rfl,rfl,rfl⟩:=e;have aj:=Y_ hv;subst aj;refine⟨by omega,E,[],s.map fun c=>[Value.int .u8 (c.toNat:Int)],_,[],HJ.refl h,?_,FM.flat (B:=fun _=>False) rfl (by simp) (by simp[Ty.n]) (fun i cs y a b=> ?_),?_⟩
  ·simp
  ·simp only[AOR,AKm]at a b
   obtain⟨c1,z1,rfl⟩:=a;obtain⟨c2,z2,rfl⟩:=b;grind[Rd]
  grind[AH_,Ty.n]
 ·rename_i s q ys
  split at e
  ·rename_i hf
   simp only[AKX,AL1]at e;obtain⟨rfl,e⟩:=e;have e:=AOs e;simp only[APF]at e;obtain⟨rfl,rfl,rfl⟩:=e;exact done hf hv rfl rfl rfl
  ·split at e
   case isFalse=>cases e
   rename_i hs;simp only[AKX,AL1]at e;obtain⟨rfl,e⟩:=e;have e:=AOs e;simp only[APF]at e;obtain⟨rfl,rfl,rfl⟩:=e;subst hs;simp only[VR,AQY]at hv;simp only[Rd]at hv;obtain⟨a,cap,e1,hle,hr⟩:=hv;simp only[ANN,AQ6]at e1;subst e1;have key:∃css:List (List Value),List.length css=ys.length/\(∀c∈css,c.length=q.n)/\(∀(i:Nat) cs y,css[i]? =some cs->ys[i]? =some y->Rd w E.S q cs y)/\oP P w q.n ys.length (.slice a ys.length cap) css.flatten:=by
    rcases hr with hr|⟨b,o,rfl,_,hr⟩
    ·have:ys=[]:=ANT hr
     subst this;exact⟨[],rfl,by simp,fun i cs y h=>by simp at h,SI (css:=[]) rfl (by simp) (.inl rfl)⟩
    ·obtain⟨css,c1,c2,c3,c4⟩:=uM hr
     exact⟨css,c1,c2,c4,SI c1 c2 (.inr ⟨b,o,rfl,c3⟩)⟩
   obtain⟨css,c1,c2,c3,c4⟩:=key;refine⟨AMN _,E,[],css,List.replicate ys.length [],[],HJ.refl h,by simp,⟨c1,by simp,c2,fun i cs y G a b c=> ?_⟩,c4⟩;grind[List.mem_of_getElem?,pd]
 ·rename_i b
  split at e
  case h_2=>cases e
  rename_i d0 q ys hb;split at e
  ·rename_i hf
   simp only[AKX,AL1]at e;obtain⟨rfl,e⟩:=e;have e:=AOs e;simp only[APF]at e;obtain⟨rfl,rfl,rfl⟩:=e;obtain⟨Fs,hB,hS⟩:=h;exact done hf (dd hw hB hS.st hv (q:=q) (ys:=ys) (by simp[N6,hb,G8])) rfl rfl rfl
  ·simp only[AKX,AL1]at e
   obtain⟨rfl,e⟩:=e;have e:=AOs e;simp only[APF]at e;obtain⟨rfl,rfl,rfl⟩:=e;obtain⟨F,⟨hd,ho⟩,hB⟩:=h.take hb;have hvw:=bf hw hb;simp only[VR,hvw,C1,AKX]at hv;obtain⟨_,_,_,rfl⟩:=hv;obtain⟨m,rfl⟩:∃m,d0=m+1:=⟨d0-1,by omega⟩;obtain⟨a,cap,css,Fs,R,e1,hle,cy,hp,hcase⟩:=rv ho;refine⟨hd,E,F,css,Fs,R,⟨Le.refl _,by simp,fun n B hn=> ?_,hB⟩,hp,cy,?_⟩
   ·grind
   ·rw[e1]
    refine SI cy.1 cy.2.2.1 ?_
    grind
 ·rename_i b p _
  split at e
  case h_2=>cases e
  rename_i d0 q ys hb;simp only[ALU]at e;obtain⟨⟨q',zs⟩,e1,e⟩:=e;dsimp only at e;split at e
  case isFalse=>cases e
  rename_i hf;simp only[AKX,AL1]at e;obtain⟨rfl,e⟩:=e;have e:=AOs e;simp only[APF]at e;obtain⟨rfl,rfl,rfl⟩:=e;obtain⟨Fs,hB,hS⟩:=h;exact done hf (dd hw hB hS.st hv (q:=q') (ys:=zs) (by simp[N6,hb,e1])) rfl rfl rfl
 ·rename_i b p off n
  split at e
  case h_2=>cases e
  rename_i d0 q ys hb;simp only[ALU]at e;obtain⟨⟨q',zs⟩,e1,e⟩:=e;dsimp only at e;split at e
  case isFalse=>cases e
  rename_i hf;simp only[AKX,AL1]at e;obtain⟨rfl,e⟩:=e;have e:=AOs e;simp only[APF]at e;obtain⟨rfl,rfl,rfl⟩:=e;obtain⟨Fs,hB,hS⟩:=h;exact done hf (dd hw hB hS.st hv (q:=q') (ys:=(zs.drop off).take n) (by simp[N6,hb,e1])) rfl rfl rfl
 simp_all
theorem jq{E:Env}{w:World}{vw bx:List Bx}{G:ABy}(h:C2 E w vw bx G)(hw:FO bx vw){x:AV}{v:Value}(hv:VR E w vw x v){r:Ty}{rows:List r.D}{R0:List Bx}{d:Nat}
  (e:r9 bx x=some ⟨r,rows,R0,d⟩):1<=d/\ ∃F1 F2,HJ E w vw bx G E R0 (F1++F2)/\Ow w E.S d (.sl r) [v] rows F1:=by
 have tk:∀{b d0:Nat} {q:Ty} {ys:List q.D},bx[b]? =some (.sl d0 q ys)-> ∃F,1<=d0/\Ow w E.S d0 (.sl q) [E.IF b] ys F/\HJ E w vw bx G E (bx.set b .dead) F:=by
  intro b d0 q ys hb;obtain⟨F,⟨hd,ho⟩,hB⟩:=h.take hb;refine⟨F,hd,ho,⟨Le.refl _,by simp,fun n B hn=> ?_,hB⟩⟩;grind
 unfold r9 at e;split at e
 ·rename_i b
  split at e
  case h_2=>cases e
  rename_i d0 q ys hb;simp only[AKX,AL1]at e;obtain⟨rfl,e⟩:=e;have e:=AOs e;simp only[APF]at e;obtain⟨rfl,rfl,rfl⟩:=e;obtain⟨F,hd,ho,hT⟩:=tk hb;have hvw:=bf hw hb;simp only[VR,hvw,C1,AKX]at hv;obtain⟨_,_,_,rfl⟩:=hv;exact⟨hd,F,[],by simp_all,ho⟩
 ·rename_i b off n
  split at e
  case h_2=>cases e
  rename_i d0 q ys hb;simp only[AKX,AL1]at e;obtain⟨rfl,e⟩:=e;have e:=AOs e;simp only[APF]at e;obtain⟨rfl,rfl,rfl⟩:=e;obtain⟨F,hd,ho,hT⟩:=tk hb;have hvw:=bf hw hb;simp only[VR,hvw,C1,AKX]at hv;obtain⟨_,_,q',zs,a,len,cap,h1,h2,h3,rfl⟩:=hv;simp only[G8,AKX,AL1]at h1;obtain⟨rfl,h1⟩:=h1;obtain rfl:=AOs h1;rw[h3]at ho;obtain⟨m,rfl⟩:∃m,d0=m+1:=⟨d0-1,by omega⟩;obtain⟨F1,F2,hp,ho'⟩:=AHL ho h2;exact⟨hd,F1,F2,⟨hT.le,hT.len,hT.within,hT.boxes.perm (ARp _ hp)⟩,ho'⟩
 simp_all
end Go.Fw
end
section
namespace Go.Fw
theorem jj{P:Program}{w:World}{a:Option Addr}{n cap size:Nat}{css:List (List Value)}(hl:css.length=n)(hc:∀c∈css,c.length=size)
  (h:n=0\/ ∃b o,a=some ⟨b,o,none⟩/\Bg w b o css.flatten):∀w',w'.heap=w.heap->(Builtin.firstCells size n (.slice a n cap)).run P w' = .ok css.flatten.toArray w':=
 (SI (P:=P) (cap:=cap) hl hc h).cells
theorem cH{z:Array Value}{n:Nat}:(Builtin.zeroCells z n).size=n*z.size:=size_zeroCells z n
section
variable{Y:Type} {P:Program} {T:Jr} (hT:Eb P T) {o:Oper} {E:Env} {σ:St} {a:Act} {w:World} {k:K Y} {y:Y}
include hT
theorem qH(h:Rel E σ a w){E2:Env}{eF:List Bx}{F Fd R:ABy}{t u ty:TypeId}{ts:Array TypeId}(yl:ts[0]? =some t)(ht1:ts[1]? =some u)
  (hu:(∃e,P.underlying u=some (.slice e))\/P.underlying u=some .string) {m:Nat} {r:Ty} (WG:T.N5 t r=true)
  (kT:HJ E w σ.bx σ.bx [] E2 eF F) {v1 v2:Value} {drows S9:List r.D} {css:List (List Value)} {Fs:List ABy}
  (ho:Ow w E2.S (m+1) (.sl r) [v1] drows Fd) (hs:FM w E2.S m r css S9 Fs) (hn:oP P w r.n S9.length v2 css.flatten) (hp:F.Perm (Fd++Fs.flatten++R)) (aQ:drows.length+S9.length<=CN):
  ∃v w' E',(Builtin.append_ ts ty #[v1,v2]).run P w= .ok v w'/\Rel E' { σ with bx:=eF++[.sl (m+1) r (drows++S9)] } a w'/\S5 [] E σ.bx w E' (eF++[.sl (m+1) r (drows++S9)]) w'/\
   XR E' w' (eF++[.sl (m+1) r (drows++S9)]) (.c (.ref eF.length [])) v:=by
 obtain⟨e,ti,hut,Wq,hs1,hby,hrow⟩:=Kv hT WG;obtain⟨i,z,i1,i2,i3,i4,i5,hg⟩:=Yw hT Wq hrow;rw[hs1]at i2;obtain⟨Fs0,hB1,Z2⟩:=kT.boxes;simp only[ALu]at Z2;have hdF:∀c∈Fd,c∈F:=fun c hc=>hp.mem_iff.2 (by simp[hc])
 have hsF:∀c∈Fs.flatten,c∈F:=fun c hc=>hp.mem_iff.2 (by simp_all)
 have ndF:=(AL8.1 (hp.nodup_iff.1 (AL8.1 Z2.nodup).2.1)).1;have ltF:∀c∈F,c<w.heap.size:=fun c hc=>Z2.lt c (by simp_all)
 have Aae:∀c∈F,¬E2.S c:=fun c hc hS=>Z2.free c (by simp_all) (Z2.st c hS)
 have ho0:=ho;obtain⟨ad,cap,dcss,Fs1,R1,rfl,hle,hd,hp1,hcase⟩:=rv ho;have qN:css.flatten.length=S9.length*r.n:=by rw[H5 hs.2.2.1,hs.1]
 have hdl:dcss.flatten.length=drows.length*r.n:=by rw[H5 hd.2.2.1,hd.1]
 by_cases U7:drows.length+S9.length<=cap
 ·rcases hcase with⟨h0,hF0⟩|⟨b,of,arr,ty0,fr,rfl,hb,LP,hunf,rfl,hc⟩
  ·
   have hd0:drows=[]:=ANT (by omega);have hs0:S9=[]:=ANT (by omega);subst hd0 hs0;have hc0:css=[]:=ANT hs.1;subst hc0 h0;have pT:=rP (P:=P) (w:=w) (ty:=ty) yl ht1 hut hu i1 i2 (a:=ad) (x:=v2) (by simp_all);obtain⟨r1,r2,r3⟩:=VO h kT (w':=w) (d:=m+1) (by omega) ho0 (fun c hc=> .inl (hdF c hc)) (AL8.1 ndF).1 (fun c hc=>ltF c (hdF c hc)) (fun _ _ _=>rfl) ⟨rfl,rfl,rfl,AMN _⟩;grind
  ·
   have gm:of+drows.length*r.n+css.flatten.length<=arr.size:=by
    have:(drows.length+S9.length)*r.n<=cap*r.n:=AME _ U7;grind
   have pT:=jh (P:=P) (w:=w) (ty:=ty) yl ht1 hut hu i1 i2 (b:=b) (o:=of) hn U7 (Wh hb gm hunf) hs.one;have hbF:b∈F:=hdF b (by simp);have aO:∀c,c∈Fs1.flatten\/c∈Fs.flatten\/E2.S c->c≠b:=by
    grind
   have gW:∀c,c≠b->(w.setCells b (of+drows.length*r.n) css.flatten).heap[c]? =w.heap[c]?:=fun c hc=>DK _ _ _ _ _ hc
   have hd':=hd.mono (w':=w.setCells b (of+drows.length*r.n) css.flatten) (S':=E2.S) (fun _ h=>h) (fun c hc=>gW c (aO c (.inr (.inr hc)))) (fun c hc=>gW c (aO c (.inl hc)));have hs':=hs.mono (w':=w.setCells b (of+drows.length*r.n) css.flatten) (S':=E2.S) (fun _ h=>h) (fun c hc=>gW c (aO c (.inr (.inr hc)))) (fun c hc=>gW c (aO c (.inr (.inl hc))));have ZM:=hd'.append hs';have AGo:Bg (w.setCells b (of+drows.length*r.n) css.flatten) b of (dcss++css).flatten:=by
    grind[List.flatten_append,Bg.append,WO,PS]
   have how:Ow (w.setCells b (of+drows.length*r.n) css.flatten) E2.S (m+1) (.sl r) [.slice (some ⟨b,of,none⟩) (drows.length+S9.length) cap] (drows++S9) (b::(Fs1++Fs).flatten):=by
    simp only[Ow];refine⟨_,cap,by rw[AMf],by simp_all,.inr ⟨b,of,_,ty0,fr,Fs1++Fs,rfl,Fl _ _ _ _ _ _ _ hb,by rw[Fh];omega,by rw[Fh];omega,rfl,ZM.2.1,fun j q G hq hG=> ?_⟩⟩;have hj:=(AK1.1 hq).1;have h1:=ZM.1;have hjl:j<(dcss++css).length:=by omega
    refine⟨(dcss++css)[j],ZM.2.2.1 _ (ALk _),fun x u hx=> ?_,ZM.2.2.2 j _ _ _ (AKT hjl) hq hG⟩;have hxl:=(AK1.1 hx).1;rw[ZM.2.2.1 _ (ALk _)]at hxl;have:=bT (n:=r.n) (css:=dcss++css) (ex:=[]) (i:=j) ZM.2.2.1 (AKT hjl) hxl;rw[ALu,hx]at this;have:=AGo _ _ this;grind
   have uK:(b::(Fs1++Fs).flatten)=(b::Fs1.flatten)++Fs.flatten:=by simp
   rw[uK]at how;obtain⟨r1,r2,r3⟩:=VO h kT (w':=w.setCells b (of+drows.length*r.n) css.flatten) (d:=m+1) (by omega) how (fun c hc=> .inl ((AMt.1 hc).elim (hdF c) (hsF c))) ndF
    (fun c hc=>by grind[DY]) (fun c hc hcF=>gW c (fun e=>hcF (e▸hbF))) (CG _ _ _ _)
   grind
 ·
  have hold:drows.length=0\/ ∃b o,ad=some ⟨b,o,none⟩/\Bg w b o dcss.flatten:=by
   grind
  have pT:=ft (P:=P) (w:=w) (ty:=ty) yl ht1 hut hu i1 i4 i2 (jj (P:=P) (cap:=cap) hd.1 hd.2.2.1 hold) hn (by omega) aQ (by omega);have hge:=grownCap_ge w (drows.length+S9.length) cap e
  generalize hgc:grownCap w (drows.length+S9.length) cap e=gc at pT hge
  let arr:Array Value:=dcss.flatten.toArray++css.flatten.toArray++Builtin.zeroCells z.cells (gc-(drows.length+S9.length))
  have gP:arr.toList=(dcss++css).flatten++(Builtin.zeroCells z.cells (gc-(drows.length+S9.length))).toList:=by simp[arr]
  have hzl:z.cells.size=r.n:=by rw[<-ATJ,i5,G5]
  have AXj:arr.size=gc*r.n:=by
   simp only[arr,AVg,AVh,cH,hzl,qN,hdl,<-ARK];simp_all
  let w':=w.drew.alloc (.cells arr e)
  have new:w'.heap[w.heap.size]? =some (.cells arr e):=by
   show(w.heap.push (.cells arr e))[w.heap.size]? =_
   simp
  have AGH:∀c,c<w.heap.size->w'.heap[c]? =w.heap[c]?:=fun c hc=>JH (w:=w) (o:= .cells arr e) hc
  have hR1:∀c∈Fs1.flatten,c∈Fd:=fun c hc=>hp1.mem_iff.2 (by simp_all)
  have hd':=hd.mono (w':=w') (S':=E2.S) (fun _ h=>h) (fun c hc=>AGH c (Z2.eG c (Z2.st c hc))) (fun c hc=>AGH c (ltF c (hdF c (hR1 c hc))));have hs':=hs.mono (w':=w') (S':=E2.S) (fun _ h=>h) (fun c hc=>AGH c (Z2.eG c (Z2.st c hc))) (fun c hc=>AGH c (ltF c (hsF c hc)));have ZM:=hd'.append hs';have how:Ow w' E2.S (m+1) (.sl r) [.slice (some ⟨w.heap.size,0,none⟩) (drows++S9).length gc] (drows++S9) (w.heap.size::(Fs1++Fs).flatten):=
   iL new gP ZM.1 (by simp_all) (by omega) (Yt _) ZM.2.1 ZM.2.2.2
  rw[AMf]at how;have Qt:∀c∈(Fs1++Fs).flatten,c∈Fd++Fs.flatten:=by
   grind
  have nd1:(Fs1++Fs).flatten.Nodup:=by
   grind
  have AdC:∀c∈(Fs1++Fs).flatten,c∈F:=fun c hc=>(AMt.1 (Qt c hc)).elim (hdF c) (hsF c)
  obtain⟨r1,r2,r3⟩:=VO h kT (w':=w') (d:=m+1) (by omega) how (by
    simp_all) (by
    grind) (by
    grind) (fun c hc _=>AGH c hc) ⟨rfl,rfl,rfl,by simp[w']⟩
  grind
end
end Go.Fw
end
section
namespace Go.Fw
theorem ZL{α β:Type}{args:Array α}{f:α->β}{x y:β}(h:args.toList.map f=[x,y]):∃a b,args= #[a,b]/\f a=x/\f b=y:=by
 obtain⟨l⟩:=args
 match l,h with
 |[a,b],h=>grind
theorem ZF{α β:Type}{args:Array α}{f:α->β}{x:β}(h:args.toList.map f=[x]):∃a,args= #[a]/\f a=x:=by
 obtain⟨l⟩:=args;simp_all
section
variable{Y:Type} {P:Program} {T:Jr} (hT:Eb P T) {o:Oper} {E:Env} {σ:St} {a:Act} {w:World} {k:K Y} {y:Y}
include hT
theorem ABn(h:Rel E σ a w){c:Call}{x1 x2:XV}(ho:o.op= .call c)(hc:c.callee= .builtin .append)(Io:c.args.toList.map σ.ev=[x1,x2])(e:iy T c.argTypes σ x1 x2 k=some y):Lr P o E σ a w k y:=by
 obtain⟨o1,o2,hargs',rfl,rfl⟩:=ZL Io;have gH:=h.ev o1;have dR:=h.ev o2;have exec:∀{v w'},(Builtin.append_ c.argTypes o.type #[a.eval o1,a.eval o2]).run P w= .ok v w'->(execOp a.eval o).run P w= .ok (.value v) w':=by
  intro v w' hr;simp only[execOp,ho,resolve,hc,hargs',invoke,builtin,Sem.run_bind,Sem.run_pure,Result.andThen_ok,List.map_toArray,ARZ,AVZ,hr]
 unfold iy at e;split at e
 case h_2=>cases e
 rename_i t u yl ht1;split at e
 case isFalse=>cases e
 rename_i hu;have hu':(∃e,P.underlying u=some (.slice e))\/P.underlying u=some .string:=by
  rw[AQd]at hu;grind[pV,ZS]
 split at e
 ·
  rename_i z hz1 hz2;rw[hz1]at gH;rw[hz2]at dR;simp only[ALU]at e;obtain⟨⟨r,rows,R0,d⟩,e1,e⟩:=e;dsimp only at e;split at e
  case isFalse=>cases e
  rename_i WG;split at e
  case isFalse=>cases e
  rename_i aQ;obtain⟨hd,E',F,css,Fs,R,kT,hp,hs,hn⟩:=js (P:=P) h.bx (FO.refl _) dR e1;obtain⟨m,rfl⟩:∃m,d=m+1:=⟨d-1,by omega⟩;have AXq:a.eval o1= .slice none 0 0:=gH;obtain⟨v,w',E3,hr,r1,r2,r3⟩:=qH hT h (ty:=o.type) yl ht1 hu' WG kT (v1:= .slice none 0 0) (Fd:=[]) (drows:=[]) um hs hn (R:=R) (by simp_all) (by simp_all);rw[<-AXq]at hr;simp only[AQH]at r1 r3;exact⟨_,_,_,_,_,.inl (exec hr),r1,r3,r2.any,rfl,e⟩
 ·rename_i z1 z2 hnn hz1 hz2
  rw[hz1]at gH;rw[hz2]at dR;simp only[ALU]at e;obtain⟨⟨r,rows,nF,d⟩,e1,e⟩:=e;dsimp only at e;split at e
  case isFalse=>cases e
  rename_i WG;simp only[ALU]at e;obtain⟨⟨q,srows0,eF,ds⟩,e2,S9,e3,e⟩:=e;dsimp only at e e3;obtain⟨hqr,e4⟩:=IJ e3;subst hqr;subst e4;dsimp only at e;split at e
  case isFalse=>cases e
  rename_i aQ;obtain⟨hd,F1,F2,k1,ho1⟩:=jq h.bx (FO.refl _) gH e1;obtain⟨hds,E',F3,css,Fs,R,k2,hp,hs,hn⟩:=js (P:=P) k1.boxes ((FO.refl _).sk k1) dR e2;obtain⟨m,hm⟩:∃m,min d ds=m+1:=⟨min d ds-1,by omega⟩;rw[hm]at e;obtain⟨A,W1,p1,ho1'⟩:=Kf (d:=m+1) (by omega) ho1;obtain⟨Gs,W2,p2,hs'⟩:=hs.weaken (d':=m) (by omega);have hB:=k2.boxes.perm (G':=(A++Gs.flatten++(R++F2))++(W1++W2)++[]) (by
   grind)
  obtain⟨hle,Z2⟩:=hB.share;have kT:HJ E w σ.bx σ.bx [] _ eF (A++Gs.flatten++(R++F2)):=⟨(k1.le.trans k2.le).trans hle,k2.len.trans k1.len,fun b B hb=>(k2.within b B hb).elim .inl (k1.within b B),Z2⟩;have ho2:Ow w (fun c=>E'.S c\/c∈W1++W2) (m+1) (.sl q) [a.eval o1] rows A:=
   EV (fun c hc=>hc.imp (k2.le.S c) (by simp_all)) (fun _ _=>rfl) (fun _ _=>rfl) ho1'
  have hs2:FM w (fun c=>E'.S c\/c∈W1++W2) m q css srows0 Gs:=hs'.mono (fun c hc=>hc.imp id (by simp_all)) (fun _ _=>rfl) (fun _ _=>rfl);obtain⟨v,w',E3,hr,r1,r2,r3⟩:=qH hT h (ty:=o.type) yl ht1 hu' WG kT ho2 hs2 hn (AVy _) aQ;exact⟨_,_,_,_,_,.inl (exec hr),r1,r3,r2.any,rfl,e⟩
 simp_all
end
end Go.Fw
end
section
namespace Go.Fw
theorem rN{P:Program}{w:World}{b o:Nat}{ty:TypeId}{v:Value}(ht:w.there b o v.cells.toList.length)(hi:(P.info? ty).map (·.size)=some v.cells.toList.length)(h1:∀u∈v.cells.toList,u.oneCell' =true):
  (Instr.storeAt ty (.pointer (some ⟨b,o,none⟩)) v).run P w= .ok () (w.setCells b o v.cells.toList):=by
 have:=run_storeCells_cells (P:=P) b o v.cells.toList 0 w (fun j hj=>by simpa using(ht j hj).1) (fun j hj=>by simpa using(ht j hj).2) h1;cases hq:P.info? ty with
 |none=>simp_all
 |some i=>
  have hs:v.cells.size=i.size:=by simp_all
  simp only[ART]at this;simp[Instr.storeAt,Instr.sureAddr,storeVar,sizeOf,typeInfo,hq,hs,this]
theorem eV{E E1 E':Env}{w w':World}{vw nF R0:List Bx}{F:ABy}(b0:Nat)(k:HJ E w vw vw [] E1 nF F)(st:∀c,E.S c->E.T c)(hlen:vw.length<=R0.length)
  (zk:∀b d r rows,b≠b0->b<vw.length->R0[b]? =some (.sl d r rows)->nF[b]? =some (.sl d r rows)) (AHq:∀b,b<vw.length->E'.IG b=E1.IG b) (re:∀b,b<vw.length->E'.IF b=E1.IF b) (hT:E'.T=E1.T) (hS:E'.S=E1.S)
  (hw:∀c,c<w.heap.size->c∉F->w'.heap[c]? =w.heap[c]?)
  (h0:∀d r rows,R0[b0]? =some (.sl d r rows)-> ∃d0 TH,vw[b0]? =some (.sl d0 r TH)/\
   ∀p,DC r TH p-> ∀q ys,G8 r TH p=some ⟨q,ys⟩->DC r rows p/\(∃zi,G8 r rows p=some ⟨q,zi⟩/\List.length zi=List.length ys)/\
    ∀h,JC w (E.IF b0) p=some h->JC w' (E'.IF b0) p=some h):Um E w vw E' w' R0:=by
 have hB:=k.boxes;obtain⟨Fs,⟨h1,h2⟩,h3⟩:=hB;simp only[ALu]at h3;have hT':∀c,E1.T c->w'.heap[c]? =w.heap[c]?:=fun c hc=>hw c (h3.eG c hc) fun hf=>h3.free c (by simp[hf]) hc
 refine⟨hlen,fun b hb=>by rw[AHq b hb,k.le.IG],fun c hc=>by rw[hT];exact k.le.T c hc,fun c hc=>by rw[hS];exact k.le.S c hc,st,fun c hc=>hT' c (k.le.T c hc),fun b d r rows hb e=> ?_⟩;by_cases hb0:b=b0
 ·simp_all
 have e1:=zk b _ _ _ hb0 hb e;rcases k.within b _ e1 with e2|e2
 ·cases e2
 ·refine⟨d,rows,e2,fun p hp q ys hg=>⟨hp,⟨ys,hg,rfl⟩,fun h' hh=> ?_⟩⟩
  have hF:Fs[b]? =some (Fs[b]'(by grind)):=AKT _;obtain⟨hd,ho⟩:=h2 b _ _ e1 hF;rw[re b hb];rw[<-k.le.IF]at hh;refine zX ho (fun c hc=>hT' c (h3.st c hc)) (fun c hc=> ?_) hp hg hh;have Qt:c∈Fs.flatten:=APz.2 ⟨_,AMU hF,hc⟩;exact hw c (h3.lt c (by simp[Qt])) fun hf=>(AL8.1 h3.nodup).2.2 c Qt c hf rfl
def Bx.map(f:AV->AV):Bx->Bx
 | .mem cs=> .mem (cs.map f)
 |B=>B
theorem C2.AT9{E E':Env}{w w':World}{vw vw' bx:List Bx}{G:ABy}(f:AV->AV)(h:C2 E w vw bx G)(k:∀x v,VR E w vw x v->VR E' w' vw' (f x) v)
  (hS:∀c,E.S c->E'.S c) (AHq:∀b,b<bx.length->E'.IG b=E.IG b) (re:∀b,b<bx.length->E'.IF b=E.IF b)
  (hw:∀c,(E.S c\/(¬E.T c/\c∉G))->c<w.heap.size->w'.heap[c]? =w.heap[c]?)
  (AHf:∀F,Sep E w (F++G)->Sep E' w' (F++G)):C2 E' w' vw' (bx.map (Bx.map f)) G:=by
 obtain⟨Fs,⟨hl,h1⟩,h2⟩:=h;refine⟨Fs,⟨by simp_all,fun n B F hn hF=> ?_⟩,AHf _ h2⟩;rw[AOR,AKm]at hn;obtain⟨B,hn,rfl⟩:=hn;have Ix:=(AK1.1 hn).1;have h3:=h1 n B F hn hF;have AMx:∀c∈F,c∈Fs.flatten:=fun c hc=>APz.2 ⟨F,AMU hF,hc⟩
 have hFw:∀c∈F,w'.heap[c]? =w.heap[c]?:=fun c hc=>hw c (.inr ⟨h2.free c (by simp_all),fun hg=>by
  have:=(AL8.1 h2.nodup).2.2 c (AMx c hc) c hg;omega⟩) (h2.lt c (by simp_all))
 have xJ:∀c,E.S c->w'.heap[c]? =w.heap[c]?:=fun c hc=>hw c (.inl hc) (h2.eG c (h2.st c hc))
 cases B with
 |mem cs=>
  obtain⟨rfl,arr,ty,fr,ha,hu,hv⟩:=h3;refine⟨by simp_all,arr,ty,fr,?_,hu,Cc.MX f k hv⟩;simp_all
 |sl d r rows=>
  obtain⟨hd,ho⟩:=h3;refine⟨hd,?_⟩;grind[EV]
 |dead=>exact h3
theorem Bx.map_id:∀B:Bx,Bx.map id B=B
 | .mem cs=>by simp[Bx.map]
 | .sl _ _ _=>rfl
 | .dead=>rfl
theorem dF(bx:List Bx):bx.map (Bx.map id)=bx:=by
 induction bx with
 |nil=>rfl
 |cons B l ih=>simp[ih,Bx.map_id]
theorem p_(b:Nat)(bx:List Bx):bx.map (AEX b)=bx.map (Bx.map (KI b)):=by
 rfl
theorem AE6{E:Env}{σ:St}{a:Act}{w:World}(h:Rel E σ a w){b j:Nat}{cs iO:List AV}(hb:σ.bx[b]? =some (.mem cs)){xs:List AV}{vs:List Value}(hx:mo E w σ.bx xs vs)(aO:xs≠[])
  (e:Zb cs j xs=some iO):
  w.there (E.IG b) j vs.length/\Rel E { σ with bx:=σ.bx.set b (.mem iO) } a (w.setCells (E.IG b) j vs)/\S5 [b] E σ.bx w E (σ.bx.set b (.mem iO)) (w.setCells (E.IG b) j vs):=by
 have st:=h.bx.st;obtain⟨F,⟨rfl,arr,ty,fr,ha,hu,hv⟩,hB⟩:=h.bx.take hb;simp only[ALu]at hB;have Ix:=(AK1.1 hb).1;rcases ZP hv hx e with⟨h1,h2⟩|⟨h1,_⟩
 case inr=>simp_all
 have gm:j+vs.length<=arr.size:=by
  have l1:=Cc.len hv;have l2:=Cc.len hx;simp_all
 have Wz: ¬E.T (E.IG b):=hB.AGc _ (by simp);have hB0:=hB;have gW:∀c,c≠E.IG b->(w.setCells (E.IG b) j vs).heap[c]? =w.heap[c]?:=fun c hc=>DK _ _ _ _ _ hc
 have hw:∀c,c<w.heap.size->c∉[E.IG b]->(w.setCells (E.IG b) j vs).heap[c]? =w.heap[c]?:=fun c _ hc=>gW c (by simp_all)
 have kT:HJ E w σ.bx σ.bx [] E (σ.bx.set b .dead) [E.IG b]:=⟨Le.refl _,by simp,fun n B hn=>by
  grind,by simp_all⟩
 have keep:Um E w σ.bx E (w.setCells (E.IG b) j vs) (σ.bx.set b (.mem iO)):=eV b kT st (by simp) (fun n d r rows hn _ hq=>by
   grind) (fun _ _=>rfl) (fun _ _=>rfl) rfl rfl hw (fun d r rows hq=>by
   simp_all)
 refine⟨Wh ha gm hu,⟨h.OS,h.tm.imp fun _ _ hq=>QR keep hq,?_⟩,⟨⟨fun _ h=>h,fun _ h=>h,fun _ h=> .inl h,fun _ h=> .inl h,fun c hc=>gW c (fun e=>Wz (e▸hc)),(CG _ _ _ _).os,(CG _ _ _ _).tape,(CG _ _ _ _).output,(CG _ _ _ _).size⟩,by simp,fun _ _=>⟨rfl,rfl⟩,fun n hn=>by
  grind,fun n B B' sd hB Vp hnd=>by
  simp at sd;rw[AOK (fun e=>sd e.symm),hB]at Vp;cases Vp;refine⟨XZ.refl hnd,fun c hc=>gW c (fun e=> ?_)⟩;obtain⟨Fs,⟨f1,f2⟩,f3⟩:=hB0;have Z2:(σ.bx.set b .dead)[n]? =some B:=by grind
  have hF:Fs[n]? =some (Fs[n]'(by grind)):=AKT _;rcases jF (f2 n B _ Z2 hF) hc with hs|hs
  ·simp_all
  ·exact(AL8.1 f3.nodup).2.2 c (APz.2 ⟨_,AMU hF,hs⟩) (E.IG b) (by simp) e⟩⟩
 have hT:=hB.turn (E':=E) (w':=w.setCells (E.IG b) j vs) (vw':=σ.bx.set b (.mem iO)) (fun x v hq=>GQ keep hq) (fun _ h=>h) (fun _ _=>rfl) (fun _ _=>rfl) (fun c hc _=>gW c (fun e=>by
   simp_all)) (fun F hF=>⟨hF.nodup,hF.free,fun c hc=>by rw[DY];exact hF.lt c hc,hF.st,fun c hc=>by rw[DY];exact hF.eG c hc,hF.vz.mono (fun _ h=>h) (fun c hc=>gW c (fun e=>Wz (e▸hc)))⟩)
 have:=C2.put (b:=b) (B:= .mem iO) (F:=[E.IG b]) (G:=[]) (by simpa using hT) (by simp_all) ⟨rfl,FL arr j vs,ty,fr,Fl _ _ _ _ _ _ _ ha,by rw[Fh];omega,h1.imp fun _ _ hq=>GQ keep hq⟩;simp_all
theorem Zz:∀{r:Ty} {j j':Nat} {x:r.D} {t:Ty} {y:t.D} {x':r.D},D6 r j x t y=some x'->j'≠j->BV r j' x' =BV r j' x
 | .cons c r,0,j',x,t,y,x',e,hj=>by
  simp only[D6]at e;split at e
  ·rename_i h
   subst h;simp only[AKX]at e;subst e;cases j' with
   |zero=>omega
   |succ j' =>rfl
  simp_all
 | .cons c r,j+1,j',x,t,y,x',e,hj=>by
  simp only[D6,AKm]at e;obtain⟨z,e1,rfl⟩:=e;cases j' with
  |zero=>rfl
  |succ j' =>
   simp only[BV];exact Zz e1 (by omega)
 | .unit,_,_,_,_,_,_,e,_=>by rfl
 | .int k,0,j',x,t,y,x',e,hj=>by cases j' with
  |zero=>omega
  |succ j' =>rfl
 | .bool,0,j',x,t,y,x',e,hj=>by cases j' with
  |zero=>omega
  |succ j' =>rfl
 | .str,0,j',x,t,y,x',e,hj=>by cases j' with
  |zero=>omega
  |succ j' =>rfl
 | .sl _,0,j',x,t,y,x',e,hj=>by cases j' with
  |zero=>omega
  |succ j' =>rfl
 | .int _,_+1,_,_,_,_,_,e,_=>by simp[D6]at e
 | .bool,_+1,_,_,_,_,_,e,_=>by simp[D6]at e
 | .str,_+1,_,_,_,_,_,e,_=>by simp[D6]at e
 | .sl _,_+1,_,_,_,_,_,e,_=>by simp[D6]at e
theorem We:∀{r:Ty} {j:Nat} {x:r.D} {t:Ty} {y:t.D} {x':r.D},D6 r j x t y=some x'->BV r j x' =some ⟨t,y⟩/\ ∃y0:t.D,BV r j x=some ⟨t,y0⟩
 | .cons c r,0,x,t,y,x',e=>by
  simp only[D6]at e;split at e
  ·rename_i h
   subst h;simp only[AKX]at e;subst e;exact⟨rfl,_,rfl⟩
  simp_all
 | .cons c r,j+1,x,t,y,x',e=>by
  simp only[D6,AKm]at e;obtain⟨z,e1,rfl⟩:=e;simp only[BV];exact We e1
 | .unit,_,_,_,_,_,e=>by simp[D6]at e
 | .int k,0,x,t,y,x',e=>by
  simp only[D6]at e;split at e
  ·rename_i h;subst h;cases e;exact⟨rfl,_,rfl⟩
  simp_all
 | .bool,0,x,t,y,x',e=>by
  simp only[D6]at e;split at e
  ·rename_i h;subst h;cases e;exact⟨rfl,_,rfl⟩
  simp_all
 | .str,0,x,t,y,x',e=>by
  simp only[D6]at e;split at e
  ·rename_i h;subst h;cases e;exact⟨rfl,_,rfl⟩
  simp_all
 | .sl _,0,x,t,y,x',e=>by
  simp only[D6]at e;split at e
  ·rename_i h;subst h;cases e;exact⟨rfl,_,rfl⟩
  simp_all
 | .int _,_+1,_,_,_,_,e=>by simp[D6]at e
 | .bool,_+1,_,_,_,_,e=>by simp[D6]at e
 | .str,_+1,_,_,_,_,e=>by simp[D6]at e
 | .sl _,_+1,_,_,_,_,e=>by simp[D6]at e
theorem ou{r:Ty}{rows:List r.D}{i k:Nat}{x:r.D}(hi:i<rows.length):rowAt r (rows.set i x) k=if k=i then x else rowAt r rows k:=by
 unfold rowAt;grind
theorem s6:∀{p:List Yu} {r:Ty} {rows rows':List r.D} {q:Ty} {ys zi:List q.D},G8 r rows p=some ⟨q,ys⟩->zi.length=ys.length->uD r rows p q zi=some rows'->rows'.length=rows.length
 |[],r,rows,rows',q,ys,zi,h1,h2,h3=>by
  simp only[G8,AKX,AL1]at h1;obtain⟨rfl,h1⟩:=h1;obtain rfl:=AOs h1;simp only[uD,AVk,Ss,AKX]at h3;simp_all
 |s::p,r,rows,rows',q,ys,zi,h1,h2,h3=>by
  grind[uD,Option.bind_eq_some_iff,Option.map_eq_some_iff]
theorem qE{t:Ty}(ht:t.scalar=true){y:t.D}{q:Ty}{i j:Nat}:∀{p':List Yu} {r:Ty} {rows rows':List r.D} {p:List Yu} {ys:List q.D} {dU:q.D},DC r rows p->G8 r rows p=some ⟨q,ys⟩->i<ys.length->
  D6 q j (rowAt q ys i) t y=some dU->uD r rows p q (ys.set i dU)=some rows'->DC r rows p'-> ∀q' zs,G8 r rows p' =some ⟨q',zs⟩->
   DC r rows' p'/\ ∃zs',G8 r rows' p' =some ⟨q',zs'⟩/\List.length zs' =List.length zs
 |[],r,rows,rows',p,ys,dU,_,hg,hi,hc,hs,_,q',zs,hg' =>by
  simp only[G8,AKX,AL1]at hg';obtain⟨rfl,hg'⟩:=hg';obtain rfl:=AOs hg';exact⟨by simp[DC],rows',by rfl,s6 hg (by simp) hs⟩
 |s'::p',r,rows,rows',p,ys,dU,hp,hg,hi,hc,hs,hp',q',zs,hg' =>by
  have hlen:=s6 hg (by simp) hs;simp only[DC]at hp'|-;obtain⟨g1,g2,g3⟩:=hp';simp only[G8]at hg'|-;split at hg'
  case h_2=>cases hg'
  rename_i q0 x0 kf;rw[kf]at g3;dsimp only at g3;have key:∃x1,BV r s'.j (rowAt r rows' s'.i)=some ⟨.sl q0,x1⟩/\DC q0 x1 p'/\ ∃zs',G8 q0 x1 p' =some ⟨q',zs'⟩/\List.length zs' =List.length zs:=by
   have same:BV r s'.j (rowAt r rows' s'.i)=some ⟨.sl q0,x0⟩-> ∃x1,BV r s'.j (rowAt r rows' s'.i)=some ⟨.sl q0,x1⟩/\DC q0 x1 p'/\ ∃zs',G8 q0 x1 p' =some ⟨q',zs'⟩/\List.length zs' =List.length zs:=
    fun h=>⟨x0,h,g3,zs,hg',rfl⟩
   cases p with
   |nil=>
    simp only[G8,AKX,AL1]at hg;obtain⟨rfl,hg⟩:=hg;obtain rfl:=AOs hg;simp only[uD,AVk,Ss,AKX]at hs;subst hs;apply same;rw[ou hi];split
    ·rename_i e
     subst e;by_cases ej:s'.j=j
     ·obtain⟨_,y0,h0⟩:=We hc
      rw[ej,h0]at kf;simp only[AKX,AL1]at kf;obtain⟨rfl,_⟩:=kf;simp[Ty.scalar]at ht
     grind[Zz]
    omega
   |cons s p=>
    simp only[DC]at hp;obtain⟨k1,k2,k3⟩:=hp;simp only[G8]at hg;split at hg
    case h_2=>cases hg
    rename_i r' x hcx;rw[hcx]at k3;dsimp only at k3;simp only[uD,hcx,ALU,AKm]at hs;obtain⟨x',hs1,row2,hs2,rfl⟩:=hs;rw[ou k1];rw[ou k1]at same;split
    ·rename_i e
     rw[AJe e]at same;rw[e]at kf;by_cases ej:s'.j=s.j
     ·rw[ej]at kf|-
      rw[hcx]at kf;simp only[AKX,AL1,Ty.sl.injEq]at kf;obtain⟨rfl,kf⟩:=kf;obtain rfl:=AOs kf;obtain⟨m1,m2⟩:=qE ht k3 hg hi hc hs1 g3 q' zs hg';grind[We]
     grind[Zz]
    simp_all
  grind
theorem xZ{w w':World}{B:Nat->Prop}(du:∀A,w'.cell? A=w.cell? A\/ ∃v,w'.cell? A=some v/\isSlice v=false):∀{p:List Yu} {r:Ty} {h:Value} {rows:List r.D} {hh:Value},
  Rd w' B (.sl r) [h] rows->DC r rows p->JC w h p=some hh->JC w' h p=some hh
 |[],_,h,_,hh,_,_,e=>by grind[C1]
 |s::p,r,h,rows,hh,hr,hp,e=>by
  simp only[DC]at hp;obtain⟨hi,LP,hp⟩:=hp;simp only[Rd]at hr;obtain⟨a,cap,e1,_,hr⟩:=hr;obtain rfl:=(ARH e1).1;rcases hr with hr|⟨b,o,rfl,hb,hr⟩
  ·omega
  obtain⟨cs,hl,hc,hrow⟩:=hr s.i _ (Si hi);split at hp
  case h_2=>exact hp.elim
  rename_i q x kf;obtain⟨v,hv,hrv⟩:=iu hrow kf;have hcv:=hc _ _ hv;rw[<-LP]at hcv;simp only[JC]at e|-;split at e
  case h_2=>cases e
  rename_i v0 hv0;rcases du ⟨b,o+s.i*s.sz+s.j,none⟩with h1|⟨u,h1,h2⟩
  ·rw[h1,hv0]
   rw[h1,hv0]at hcv;cases hcv;exact xZ du hrv hp e
  ·rw[hcv]at h1
   cases h1;simp only[Rd]at hrv;obtain⟨_,_,e2,_⟩:=hrv;simp only[ANN,AQ6]at e2;grind[isSlice]
theorem AGZ{E E':Env}{w w':World}{vw vw':List Bx}{b d d':Nat}{r:Ty}{rows rows':List r.D}(k:Um E w vw E' w' (vw'.set b .dead))(hb:vw[b]? =some (.sl d r rows))(hb':vw'[b]? =some (.sl d' r rows'))(hl:rows'.length=rows.length)
  (hh:E'.IF b=E.IF b) {x:AV} {v:Value} (h:VR E w vw x v):VR E' w' vw' (KI b x) v:=by
 have h1:=GQ k h;have gW:∀{b'},b'≠b->(vw'.set b .dead)[b']? =vw'[b']?:=fun e=>AOK (fun h=>e h.symm)
 cases x with
 |v t x=>exact h1
 |sl s r x=>exact h1
 |nil=>exact h1
 |Ir c j=>exact⟨by simpa using h1.1,h1.2⟩
 |Qf s r x j=>exact h1
 |fn f K4=>exact⟨fun c hc=>by simpa using h1.1 c hc,h1.2⟩
 |vZ f rows=>exact h1
 |ACj=>exact h1
 |undef=>trivial
 |ref c p=>
  cases p with
  |nil=>
   simp only[KI];by_cases e:c=b
   ·subst e
    simp only[VR,hb,hb']at h|-;refine⟨h.1,by simp[DC],⟨_,rfl⟩,?_⟩;grind[C1]
   grind[VR]
  |cons s p=>
   grind[KI,VR]
 |win c p off n=>
  cases p with
  |nil=>
   simp only[KI];by_cases e:c=b
   ·subst e
    simp only[VR,hb,hb']at h|-;obtain⟨h0,_,q,ys,a,len,cap,e1,e2,e3,e4⟩:=h;simp only[G8,AKX,AL1]at e1;obtain⟨rfl,e1⟩:=e1;obtain rfl:=AOs e1;refine⟨h0,by simp[DC],r,rows',a,len,cap,rfl,by omega,?_,e4⟩;grind[C1]
   grind[VR]
  |cons s p=>
   grind[KI,VR]
 |J5 c p i sz j=>
  cases p with
  |nil=>
   simp only[KI];by_cases e:c=b
   ·subst e
    simp only[VR,hb,hb']at h|-;obtain⟨h0,_,q,ys,bb,o,len,cap,e1,e2,e3,e4⟩:=h;simp only[G8,AKX,AL1]at e1;obtain⟨rfl,e1⟩:=e1;obtain rfl:=AOs e1;refine⟨h0,by simp[DC],r,rows',bb,o,len,cap,rfl,by omega,?_,e4⟩;grind[C1]
   grind[VR]
  |cons s p=>
   grind[KI,VR]
theorem AG1{E E':Env}{w w':World}{vw vw':List Bx}{b:Nat}(k:∀x v,VR E w vw x v->VR E' w' vw' (KI b x) v){x:XV}{v:Value}(h:XR E w vw x v):XR E' w' vw' (yo b x) v:=by
 cases x with
 |c x=>exact k x v h
 |agg l=>
  obtain⟨vs,rfl,Xe⟩:=h;exact⟨vs,rfl,Cc.MX _ k Xe⟩
 |L8 l=>
  obtain⟨vs,rfl,Xe⟩:=h;refine⟨vs,rfl,Cc.MX _ (fun x v hx=> ?_) Xe⟩;cases x with
  |inl x=>exact k x v hx
  |inr q=>
   obtain⟨us,rfl,hus⟩:=hx;exact⟨us,rfl,Cc.MX _ k hus⟩
end Go.Fw
end
section
namespace Go.Fw
theorem vC{w:World}{vw:List Bx}{E:Env}{bx:List Bx}{G:ABy}(h:C2 E w vw bx G)(hw:FO bx vw){d:Nat}(hd:1<=d){q:Ty}{old:q.D}{j:Nat}{x:XV}{v:Value}(hv:XR E w vw x v){dU:q.D}{R0:List Bx}{d':Nat}
  (e:uO d q old j x bx=some (dU,R0,d')):1<=d'/\d'<=d/\ ∃E' F,HJ E w vw bx G E' R0 F/\
   ((j=0/\x.plain=false/\Ow w E'.S (d'-1) q v.cells.toList dU F)\/(∃t y,v.cells.toList=[v]/\Ow w E'.S (d'-1) t [v] y F/\D6 q j old t y=some dU/\(x.plain=true->t.scalar=true/\isSlice v=false))):=by
 unfold uO at e;split at e
 ·rename_i l
  split at e
  case isFalse=>cases e
  rename_i hj;obtain⟨vs,rfl,Xe⟩:=hv;obtain⟨h1,h2,E',F,h3,h4⟩:=cE h hw hd Xe e;exact⟨h1,h2,E',F,h3,.inl ⟨hj,rfl,h4⟩⟩
 ·rename_i x
  split at e
  case h_2=>cases e
  rename_i t y0 hc;simp only[ALU,AKm,APF]at e;obtain⟨⟨y,nF,d1⟩,e1,row,e2,rfl,rfl,rfl⟩:=e;dsimp only at e2;have aj:VR E w vw x v:=hv;have hk:x.known=true:=by grind[AV.known,ga]
  obtain⟨h1,h2,E',F,h3,h4⟩:=fA h hw hd aj e1;refine⟨h1,h2,E',F,h3,.inr ⟨t,y,by rw[(yp aj hk).2],h4,e2,fun hp=> ?_⟩⟩;cases x with
  |v u z=>
   simp only[ga,AKm,APF]at e1;obtain⟨z',e3,_⟩:=e1;obtain⟨rfl,_⟩:=IJ e3;obtain⟨hs,hr⟩:=aj;refine⟨hs,?_⟩;cases u<;>simp_all[Ty.scalar,Rd]<;>rfl
  |_=>simp[XV.plain]at hp
 simp_all
theorem tQ{f:AV->AV}{bx:List Bx}{b d:Nat}{r:Ty}{rows:List r.D}:(bx.set b (.sl d r rows)).map (Bx.map f)=(bx.map (Bx.map f)).set b (.sl d r rows):=by
 rw[List.map_set];rfl
theorem AGO{f:AV->AV}{bx:List Bx}{n d:Nat}{r:Ty}{rows:List r.D}(h:(bx.map (Bx.map f))[n]? =some (.sl d r rows)):bx[n]? =some (.sl d r rows):=by
 rw[AOR,AKm]at h;obtain⟨B,h1,h2⟩:=h;cases B with
 |mem cs=>simp[Bx.map]at h2
 |sl d' r' rows' =>rw[h1];exact congrArg some h2
 |dead=>simp[Bx.map]at h2
theorem wo{E:Env}{σ:St}{a:Act}{w:World}(h:Rel E σ a w){b i sz j:Nat}{p:List Yu}{va v:Value}(hva:VR E w σ.bx (.J5 b p i sz j) va){x:XV}(hv:XR E w σ.bx x v)(h1c:∀u∈v.cells.toList,u.oneCell' =true)
  {σ':St} (e:kF σ (.c (.J5 b p i sz j)) x=some σ'):
  ∃bb oo E',va= .pointer (some ⟨bb,oo,none⟩)/\w.there bb oo v.cells.toList.length/\Rel E' σ' a (w.setCells bb oo v.cells.toList)/\S5 [b] E σ.bx w E' σ'.bx (w.setCells bb oo v.cells.toList)/\σ'.tm.length=σ.tm.length:=by
 simp only[kF]at e;split at e
 case h_2=>cases e
 rename_i d r rows hb;split at e
 case isFalse=>cases e
 rename_i zg;simp only[ALU]at e;obtain⟨⟨q,ys⟩,hg,e⟩:=e;dsimp only at e;split at e
 case isFalse=>cases e
 rename_i LP;simp only[ALU,AKm]at e;obtain⟨⟨dU,eF,d2⟩,e1,rows',e2,e3⟩:=e;dsimp only at e1 e2 e3;have st:=h.bx.st;simp only[VR,hb]at hva;obtain⟨_,hp,q1,ys1,bb,o,len,cap,g1,hi,g3,rfl⟩:=hva;rw[hg]at g1;simp only[AKX,AL1]at g1;obtain⟨rfl,g1⟩:=g1;obtain rfl:=AOs g1;have Ix:=(AK1.1 hb).1;obtain⟨Gb,⟨hd1,ho⟩,hB⟩:=h.bx.take hb;have Zc:FO (σ.bx.set b .dead) σ.bx:=fun n B hn=>by
  grind
 obtain⟨hd2,hd3,E1,Fx,k1,hrow⟩:=vC hB Zc (by omega) hv e1;obtain⟨A,W,pG,ho2⟩:=Kf (d:=d2+p.length) (by omega) ho;have Z2:=k1.boxes.perm (G':=(Fx++A)++W++[]) (by
  grind)
 obtain⟨hle,hB3⟩:=Z2.share;simp only[ALu]at hB3
 generalize hE3:({ E1 with S:=fun c=>E1.S c\/c∈W,T:=fun c=>E1.T c\/c∈W }:Env)=E3 at hle hB3
 have tp:Le E E3:=k1.le.trans hle;have ho3:Ow w E3.S (d2+p.length) (.sl r) [E.IF b] rows A:=EV (fun c hc=>by
  subst hE3;exact hc.imp (k1.le.S c) id) (fun _ _=>rfl) (fun _ _=>rfl) ho2
 obtain⟨h',F1,F2,m1,m2,m3,m4⟩:=vO ho3 hp hg (by omega);rw[g3]at m1;cases m1;obtain⟨m,rfl⟩:∃m,d2=m+1:=⟨d2-1,by omega⟩;rw[show m+1+p.length-p.length=m+1 by omega]at m2 m4;simp only[Nat.add_sub_cancel]at hrow;obtain⟨b1,o1,arr,ty,fr,cs,G,R,n1,n2,n3,n4,n5,n6,n7,n8,n9⟩:=yD m2 hi;simp only[AKX,Addr.mk.injEq,AQ6]at n1;obtain⟨rfl,rfl⟩:=n1;subst LP;have hAp:A.Perm (G++(bb::R)++F2):=m3.trans (n8.append_right F2);obtain⟨Fs,hFs1,hFs2⟩:=hB3;have hbA:bb∈A:=hAp.mem_iff.2 (by simp);have Wz: ¬E3.T bb:=hFs2.free bb (by simp[hbA]);have ADG: ¬E3.S bb:=fun hc=>Wz (hFs2.st bb hc)
 have nd:(Fx++(G++(bb::R)++F2)).Nodup:=(AUM Fx hAp).nodup_iff.1 (AL8.1 hFs2.nodup).2.1;have hnx:bb∉Fx:=fun hc=>(AL8.1 nd).2.2 bb hc bb (by simp) rfl
 have hnG:bb∉G:=fun hc=>(AL8.1 (AL8.1 (AL8.1 nd).2.1).1).2.2 bb hc bb (by simp) rfl
 have hnR:bb∉R:=(AUT.1 (AL8.1 (AL8.1 (AL8.1 nd).2.1).1).2.1).1;have hn2:bb∉F2:=fun hc=>(AL8.1 (AL8.1 nd).2.1).2.2 bb (by simp) bb hc rfl
 have qN:j+v.cells.toList.length<=q.n:=by
  rcases hrow with⟨rfl,_,ho4⟩|⟨t,y,hc1,ho4,aV,_⟩
  ·rw[ZB ho4];omega
  ·rw[hc1]
   obtain⟨_,y0,hc0⟩:=We aV;grind[i6,List.getElem?_eq_some_iff]
 have gm:o+i*q.n+j+v.cells.toList.length<=arr.size:=by omega
 let w':=w.setCells bb (o+i*q.n+j) v.cells.toList
 have gW:∀c,c≠bb->w'.heap[c]? =w.heap[c]?:=fun c hc=>DK _ _ _ _ _ hc
 have xJ:∀c,E3.S c->w'.heap[c]? =w.heap[c]?:=fun c hc=>gW c (fun e=>ADG (e▸hc))
 have hb':=Fl v.cells.toList (o+i*q.n+j) w bb arr ty fr n2;have du:∃iO G' D0,iO.length=q.n/\Bg w' bb (o+i*q.n) iO/\Ow w' E3.S m q iO dU G'/\(Fx++G).Perm (G'++D0):=by
  rcases hrow with⟨rfl,_,ho4⟩|⟨t,y,hc1,ho4,aV,_⟩
  ·refine⟨v.cells.toList,Fx,G,ZB ho4,PS n2 gm,EV (fun c hc=>hle.S c hc) (fun c hc=>gW c (fun e=>ADG (e▸hle.S c hc))) (fun c hc=>gW c (fun e=>hnx (e▸hc))) ho4,AVy _⟩
  ·obtain⟨_,y0,hc0⟩:=We aV
   obtain⟨u,K1,K2,z1,z2,z3,z4⟩:=i6 n7 hc0;have AYN:bb∉K2:=fun hc=>hnG (z3.mem_iff.2 (by simp[hc]))
   obtain⟨F',f1,f2⟩:=z4 w' E3.S v y Fx dU (fun _ hc=>hc) xJ (fun c hc=>gW c (fun e=>AYN (e▸hc)))
    (EV (fun c hc=>hle.S c hc) (fun c hc=>gW c (fun e=>ADG (e▸hle.S c hc))) (fun c hc=>gW c (fun e=>hnx (e▸hc))) ho4) aV
   refine⟨cs.set j v,F',K1,by simp_all,fun x u' hx=> ?_,f2,?_⟩
   ·rw[List.getElem?_set]at hx
    split at hx
    ·rename_i ejx
     subst ejx;split at hx
     ·cases hx
      have:=PS (w:=w) (b:=bb) (o:=o+i*q.n+j) (vs:=v.cells.toList) n2 gm 0 v (by simp_all);omega
     simp_all
    ·rename_i ejx
     have hold:=n6 x u' hx;rw[LD n2]at hold;rw[LD hb',YU gm,AJk (fun hh=>by grind),hold]
   grind
 obtain⟨iO,G',D0,c1,c2,c3,c4⟩:=du;obtain⟨rz,f1,f2⟩:=n9 w' E3.S (FL arr (o+i*q.n+j) v.cells.toList) iO dU G' (fun _ hc=>hc) xJ (fun c hc=>gW c (fun e=>hnR (e▸hc))) hb' (Fh _ _ _) (fun k hk=>by
  rw[YU gm,AJk (by omega)]) c1 c2 c3
 obtain⟨F',f3,f4⟩:=m4 w' E3.S (ys.set i dU) rz rows' (fun _ hc=>hc) xJ (fun c hc=>gW c (fun e=>hn2 (e▸hc))) f2 e2;have uK:(Fx++A).Perm (F'++D0):=by
  have p1:F'.Perm (G'++(bb::R)++F2):=f3.trans (f1.append_right F2);refine(AUM Fx hAp).trans (List.Perm.trans ?_ (p1.symm.append_right D0));grind
 have Adn:bb∈F':=(f3.trans (f1.append_right F2)).mem_iff.2 (by simp);have hB4:C2 E3 w σ.bx eF F':=by
  have:C2 E3 w σ.bx eF (F'++D0):=C2.perm (G:=Fx++A) ⟨Fs,hFs1,hFs2⟩ uK;exact this.drop
 have uT:eF.length=σ.bx.length:=by rw[k1.len];simp
 have AUi:eF[b]? =some .dead:=by
  obtain⟨B,hB⟩:∃B,eF[b]? =some B:=⟨_,AKT (by omega)⟩;rcases k1.within b B hB with e|e
  all_goals simp_all
 have hrl:rows'.length=rows.length:=s6 hg (by simp) e2;have kT:∀E0,Le E0 E3->HJ E0 w σ.bx σ.bx [] E3 eF (Fx++A):=fun E0 hl=>⟨hl,uT,fun n B hn=>by
  rcases k1.within n B hn with e|e
  all_goals grind,⟨Fs,hFs1,by simp_all⟩⟩
 have re:∀n,E3.IF n=E.IF n:=fun n=>by rw[tp.IF]
 have hww:∀c,c<w.heap.size->c∉Fx++A->w'.heap[c]? =w.heap[c]?:=fun c _ hc=>gW c (fun e=>hc (by simp_all))
 have base:gb E w E3 w':=⟨tp.T,tp.S,tp.Tof,tp.Sof,fun c hc=>gW c (fun e=>Wz (e▸tp.T c hc)),(CG _ _ _ _).os,(CG _ _ _ _).tape,(CG _ _ _ _).output,(CG _ _ _ _).size⟩;have finish:∀(f:AV->AV) (g:XV->XV),(∀E0,Le E0 E3->(∀c,E0.S c->E0.T c)-> ∀x v,VR E0 w σ.bx x v->VR E3 w' ((eF.map (Bx.map f)).set b (.sl (m+1+p.length) r rows')) (f x) v)->
   (∀x v,XR E w σ.bx x v->XR E3 w' ((eF.map (Bx.map f)).set b (.sl (m+1+p.length) r rows')) (g x) v)->
   Rel E3 { tm:=σ.tm.map g,bx:=(eF.map (Bx.map f)).set b (.sl (m+1+p.length) r rows') } a w':=by
  intro f g hf hg;refine⟨h.OS,Cc.MX _ hg h.tm,?_⟩;have hT:=hB4.AT9 (E':=E3) (w':=w') (vw':=(eF.map (Bx.map f)).set b (.sl (m+1+p.length) r rows')) f (hf E3 (Le.refl _) hFs2.st) (fun _ h=>h) (fun _ _=>rfl) (fun _ _=>rfl) (fun c hc _=>gW c (fun e=>by
    simp_all)) (fun F hF=>⟨hF.nodup,hF.free,fun c hc=>by rw[DY];exact hF.lt c hc,hF.st,fun c hc=>by rw[DY];exact hF.eG c hc,hF.vz.mono (fun _ h=>h) (fun c hc=>gW c (fun e=>Wz (e▸hc)))⟩)
  refine C2.put (F:=F') (G:=[]) (by simp_all) (by rw[AOR,AUi];rfl) ⟨by omega,?_⟩;simp_all
 have ARk:∀f:AV->AV,S5 [b] E σ.bx w E3 ((eF.map (Bx.map f)).set b (.sl (m+1+p.length) r rows')) w':=fun f=>⟨base,by simp[uT],fun n _=>⟨by rw[tp.IG],re n⟩,fun n hn=>by
  have sd:n≠b:=fun e=>by simp_all
  have hnl:=(AK1.1 hn).1;rw[AOK (fun e=>sd e.symm),AOR];obtain⟨B,hB⟩:∃B,eF[n]? =some B:=⟨_,AKT (by omega)⟩;have hBd:B= .dead:=by
   rcases(kT E tp).within n B hB with e|e
   all_goals simp_all
  rw[hB,hBd];rfl,fun n B B' sd hB Vp hnd=>by
  simp at sd;have hnl:=(AK1.1 hB).1;rw[AOK (fun e=>sd e.symm),AOR]at Vp;obtain⟨B2,Z2⟩:∃B2,eF[n]? =some B2:=⟨_,AKT (by omega)⟩;rw[Z2]at Vp;have Vp:Bx.map f B2=B':=by simp_all
  have hBB:B2=B:=by
   rcases(kT E tp).within n B2 Z2 with e|e
   ·subst e;exact absurd Vp.symm hnd
   simp_all
  subst hBB;refine⟨?_,fun c hc=>gW c (fun e=> ?_)⟩
  ·subst Vp
   cases B2 with
   |mem cs=>trivial
   |sl d r rows=>rfl
   |dead=>exact absurd rfl hnd
  ·have hF:Fs[n]? =some (Fs[n]'(by have:=(AK1.1 Z2).1;rw[hFs1.1];omega)):=AKT _
   have gO:BRB E3 w n B2 c:=by
    cases B2 with
    |mem cs=>simp only[BRB]at hc|-;rw[tp.IG];omega
    |sl d r rows=>grind[BRB]
    |dead=>exact hc
   rcases jF (hFs1.2 n B2 _ Z2 hF) gO with hs|hs
   ·simp_all
   ·exact(AL8.1 hFs2.nodup).2.2 c (APz.2 ⟨_,AMU hF,hs⟩) bb (by simp[hbA]) e⟩
 refine⟨bb,o+i*q.n+j,E3,rfl,Wh (k:=0) n2 gm n3,?_,?_,?_⟩
 ·split at e3
  ·rename_i AYm
   have h0:∀E0,Le E0 E3->(∀c,E0.S c->E0.T c)->Um E0 w σ.bx E3 w' (eF.set b (.sl (m+1+p.length) r rows')):=by
    intro E0 hl st0;refine eV b (kT E0 hl) st0 (by simp[uT]) (fun n d r rows hn _ hq=>by
      grind) (fun _ _=>rfl) (fun _ _=>rfl) rfl rfl hww (fun d0 r0 TH hq=> ?_)
    rw[AQ8 (by omega)]at hq;simp only[AKX,Bx.sl.injEq]at hq;obtain⟨rfl,rfl,hq⟩:=hq;obtain rfl:=AOs hq;refine⟨d,rows,hb,fun p' hp' q' zs hg' => ?_⟩;rcases hrow with⟨_,hpf,_⟩|⟨t,y,hc1,ho4,aV,hsc⟩
    ·simp_all
    obtain⟨hs1,hs2⟩:=hsc AYm;have hk:=qE hs1 hp hg hi aV e2 hp' q' zs hg';refine⟨hk.1,hk.2,fun hh hhe=> ?_⟩;rw[re];rw[<-hl.IF,re]at hhe;refine xZ (fun Ad=> ?_) (ZY f4) hk.1 hhe;by_cases eA:Ad.block=bb/\Ad.spot=none/\Ad.off=o+i*q.n+j
    ·right
     obtain⟨ab,ao,asp⟩:=Ad;simp only at eA;rw[eA.1,eA.2.1,eA.2.2];refine⟨v,?_,hs2⟩;have:=PS (w:=w) (b:=bb) (o:=o+i*q.n+j) (vs:=v.cells.toList) n2 gm 0 v (by simp_all);omega
    grind[World.cell?_setCells_out,List.length_cons,List.length_nil]
   have:=finish id id (fun E0 hl st0 x v hx=>by rw[dF];grind[GQ]) (fun x v hx=>by rw[dF];grind[QR]);grind[dF,List.map_id]
  ·have h0:∀E0,Le E0 E3->(∀c,E0.S c->E0.T c)-> ∀x v,VR E0 w σ.bx x v->VR E3 w' ((eF.map (Bx.map (KI b))).set b (.sl (m+1+p.length) r rows')) (KI b x) v:=by
    intro E0 hl st0 x v hx;have keep:Um E0 w σ.bx E3 w' (((eF.map (Bx.map (KI b))).set b (.sl (m+1+p.length) r rows')).set b .dead):=by
     refine eV b (kT E0 hl) st0 (by simp[uT]) (fun n d r rows hn _ hq=>by
      grind[List.getElem?_set_ne,AGO]) (fun _ _=>rfl) (fun _ _=>rfl) rfl rfl hww (fun d0 r0 TH hq=> ?_)
     simp_all
    exact AGZ keep hb (by rw[AQ8 (by simp_all)]) hrl (by rw[hl.IF]) hx
   have:=finish (KI b) (yo b) h0 (fun x v hx=>AG1 (h0 E tp st) hx);grind[St.AEC,p_,tQ]
 ·rw[<-e3]
  split
  all_goals grind[id,dF,St.AEC,p_,tQ]
 grind[St.AEC]
end Go.Fw
end
section
namespace Go.Fw
theorem i_{w w':World}{B B':Nat->Prop}:∀{r:Ty} {cs:List Value} {x:r.D},r.flat=true->Rd w B r cs x->Rd w' B' r cs x
 | .cons c r,cs,x,h,hr=>by
  simp only[Ty.flat,ALJ]at h;simp only[Rd]at hr|-;obtain⟨v,l,rfl,h1,h2⟩:=hr;exact⟨v,l,rfl,i_ h.1 h1,i_ h.2 h2⟩
 | .unit,_,_,_,hr=>by grind[Rd]
 | .int k,_,_,_,hr=>by grind[Rd]
 | .bool,_,_,_,hr=>by grind[Rd]
 | .str,_,_,_,hr=>by grind[Rd]
 | .sl q,_,_,h,_=>by simp[Ty.flat]at h
theorem gZ{w:World}{S:Nat->Prop}{d:Nat}:∀{r:Ty} {cs:List Value} {y:r.D} {F:ABy},r.flat=true->Ow w S d r cs y F->F=[]
 | .int k,_,_,_,_,h=>by grind[Ow]
 | .bool,_,_,_,_,h=>by grind[Ow]
 | .str,_,_,_,_,h=>by grind[Ow]
 | .unit,_,_,_,_,h=>by grind[Ow]
 | .cons c r,_,_,_,hf,h=>by
  simp only[Ty.flat,ALJ]at hf;simp only[Ow]at h;obtain⟨v,l,F1,F2,_,rfl,h1,h2⟩:=h;rw[gZ hf.1 h1,gZ hf.2 h2];rfl
 | .sl q,_,_,_,hf,_=>by simp[Ty.flat]at hf
theorem AA4{w w':World}{S S':Nat->Prop}{d d':Nat}{r:Ty}(hr:r.flat=true){cs:List Value}{y:r.D}{F:ABy}(h:Ow w S d r cs y F):F=[]/\cs.length=r.n/\Ow w' S' d' r cs y []:=
 ⟨gZ hr h,ZB h,nE hr (i_ (B':=fun _=>False) hr (ZY h))⟩
theorem mh:∀{r:Ty} {j:Nat} {x:r.D} {t:Ty} {y:t.D},r.flat=true->BV r j x=some ⟨t,y⟩->t.flat=true
 | .cons c r,0,x,t,y,h,e=>by
  simp only[Ty.flat,ALJ]at h;simp only[BV,AKX,AL1]at e;simp_all
 | .cons c r,j+1,x,t,y,h,e=>by
  simp only[Ty.flat,ALJ]at h;simp only[BV]at e;exact mh h.2 e
 | .unit,_,_,_,_,_,e=>by simp[BV]at e
 | .int k,0,x,t,y,_,e=>by simp only[BV,AKX,AL1]at e;simp_all
 | .bool,0,x,t,y,_,e=>by simp only[BV,AKX,AL1]at e;simp_all
 | .str,0,x,t,y,_,e=>by simp only[BV,AKX,AL1]at e;simp_all
 | .sl _,_,_,_,_,h,_=>by simp[Ty.flat]at h
 | .int _,_+1,_,_,_,_,e=>by simp[BV]at e
 | .bool,_+1,_,_,_,_,e=>by simp[BV]at e
 | .str,_+1,_,_,_,_,e=>by simp[BV]at e
theorem AEt{r:Ty}(hr:r.flat=true){rows:List r.D}:∀{p:List Yu},DC r rows p->p=[]
 |[],_=>rfl
 |s::p,h=>by
  simp only[DC]at h;obtain⟨_,_,h⟩:=h;exfalso;cases hc:BV r s.j (rowAt r rows s.i)with
  |none=>simp_all
  |some tx=>
   obtain⟨t,x⟩:=tx;have hf:=mh hr hc;grind[Ty.flat]
theorem flatten_nil{l:List ABy}(h:∀x∈l,x=[]):l.flatten=[]:=by
 simp_all;omega
theorem AE0{E:Env}{σ:St}{a:Act}{w:World}(h:Rel E σ a w){b d off n:Nat}{r:Ty}{rows:List r.D}(hb:σ.bx[b]? =some (.sl d r rows))(hr:r.flat=true)(hgd:r.rF=true)(hk:0<r.n)(hl:off+n<=rows.length)(hn:0<n):
  ∃bb o cap,E.IF b= .slice (some ⟨bb,o,none⟩) rows.length cap/\rows.length<=cap/\w.there bb (o+off*r.n) (n*r.n)/\
   Rel E { σ with bx:=σ.bx.set b (.sl d r ((rows.take off++List.replicate n r.z)++rows.drop (off+n))) } a (w.setCells bb (o+off*r.n) (List.replicate n (Eu r)).flatten)/\
   S5 [b] E σ.bx w E (σ.bx.set b (.sl d r ((rows.take off++List.replicate n r.z)++rows.drop (off+n)))) (w.setCells bb (o+off*r.n) (List.replicate n (Eu r)).flatten):=by
 have st:=h.bx.st;obtain⟨F,⟨hd,ho⟩,hB⟩:=h.bx.take hb;simp only[ALu]at hB;have Ix:=(AK1.1 hb).1;obtain⟨d',rfl⟩:∃m,d=m+1:=⟨d-1,by omega⟩;simp only[Ow]at ho;obtain⟨ad,cap,hh,ADD,ho⟩:=ho;simp only[ANN,AQ6]at hh;rcases ho with⟨rfl,_⟩|⟨bb,o,arr,ty,fr,Fs,rfl,ha,LP,hu,rfl,hFl,cy⟩
 ·omega
 have hFn:List.flatten Fs=[]:=flatten_nil fun x hx=>by
  obtain⟨i,hi,hxi⟩:=AQA hx;obtain⟨cs,_,_,h3⟩:=cy i (rows[i]'(by omega)) x (AKT _) (by rw[AKT hi,hxi]);exact(AA4 (w':=w) (S':=E.S) (d':=0) hr h3).1
 rw[hFn]at hB;have hzl:(Eu r).length=r.n:=G5 r;have hvl:((List.replicate n (Eu r)).flatten).length=n*r.n:=by rw[Fb,hzl]
 have hm1:(off+n)*r.n<=cap*r.n:=AME _ (by omega);have hm2:(off+n)*r.n=off*r.n+n*r.n:=ARK ..;have gm:o+off*r.n+((List.replicate n (Eu r)).flatten).length<=arr.size:=by omega
 generalize Xe:(List.replicate n (Eu r)).flatten=vs at hvl gm
 refine⟨bb,o,cap,hh,ADD,Wh ha (by omega) hu,?_⟩;have Wz: ¬E.T bb:=hB.AGc _ (by simp);have hB0:=hB;have gW:∀c,c≠bb->(w.setCells bb (o+off*r.n) vs).heap[c]? =w.heap[c]?:=fun c hc=>DK _ _ _ _ _ hc
 have hw:∀c,c<w.heap.size->c∉[bb]->(w.setCells bb (o+off*r.n) vs).heap[c]? =w.heap[c]?:=fun c _ hc=>gW c (by simpa using hc)
 have kT:HJ E w σ.bx σ.bx [] E (σ.bx.set b .dead) [bb]:=⟨Le.refl _,by simp,fun n B hn=>by
  by_cases en:n=b
  ·subst en
   rw[AQ8 Ix]at hn;exact .inl (by simpa using hn.symm)
  ·rw[AOK (fun h=>en h.symm)]at hn
   exact .inr hn,by simpa using hB⟩
 generalize ACz:(rows.take off++List.replicate n r.z)++rows.drop (off+n)=rows'
 have ALz:rows'.length=rows.length:=by
  rw[<-ACz];simp;omega
 have keep:Um E w σ.bx E (w.setCells bb (o+off*r.n) vs) (σ.bx.set b (.sl (d'+1) r rows')):=eV b kT st (by simp) (fun n d r rows hn _ hq=>by
   rw[AOK (by omega)]at hq|-;exact hq) (fun _ _=>rfl) (fun _ _=>rfl) rfl rfl hw (fun d1 r1 ALs hq=>by
   rw[AQ8 Ix]at hq;simp only[AKX,Bx.sl.injEq]at hq;obtain⟨rfl,rfl,hq⟩:=hq;obtain rfl:=AOs hq;refine⟨d'+1,rows,hb,fun p hp q ys hg=> ?_⟩;obtain rfl:=AEt hr hp;simp only[G8,AKX,AL1]at hg;obtain⟨rfl,hg⟩:=hg;obtain rfl:=AOs hg;exact⟨by simp[DC],⟨rows',by simp[G8],ALz⟩,fun h' hh' =>hh'⟩)
 refine⟨⟨h.OS,h.tm.imp fun _ _ hq=>QR keep hq,?_⟩,⟨⟨fun _ h=>h,fun _ h=>h,fun _ h=> .inl h,fun _ h=> .inl h,fun c hc=>gW c (fun e=>Wz (e▸hc)),(CG _ _ _ _).os,(CG _ _ _ _).tape,(CG _ _ _ _).output,(CG _ _ _ _).size⟩,by simp,fun _ _=>⟨rfl,rfl⟩,fun n hn=>by
  rw[AOK (fun e=>by subst e;rw[hb]at hn;cases hn)];exact hn,fun n B B' sd hB Vp hnd=>by
  simp at sd;rw[AOK (fun e=>sd e.symm),hB]at Vp;cases Vp;refine⟨XZ.refl hnd,fun c hc=>gW c (fun e=> ?_)⟩;obtain⟨Fs,⟨f1,f2⟩,f3⟩:=hB0;have Z2:(σ.bx.set b .dead)[n]? =some B:=by rw[AOK (fun e=>sd e.symm)];exact hB
  have hF:Fs[n]? =some (Fs[n]'(by have:=(AK1.1 Z2).1;omega)):=AKT _;rcases jF (f2 n B _ Z2 hF) hc with hs|hs
  ·exact Wz (e▸st c hs)
  ·exact(AL8.1 f3.nodup).2.2 c (APz.2 ⟨_,AMU hF,hs⟩) bb (by simp) e⟩⟩
 have hT:=hB.turn (E':=E) (w':=w.setCells bb (o+off*r.n) vs) (vw':=σ.bx.set b (.sl (d'+1) r rows')) (fun x v hq=>GQ keep hq) (fun _ h=>h) (fun _ _=>rfl) (fun _ _=>rfl) (fun c hc _=>gW c (fun e=>by
   rcases hc with hc|hc
   ·exact Wz (e▸st c hc)
   ·exact hc.2 (by simp[e]))) (fun F hF=>⟨hF.nodup,hF.free,fun c hc=>by rw[DY];exact hF.lt c hc,hF.st,fun c hc=>by rw[DY];exact hF.eG c hc,hF.vz.mono (fun _ h=>h) (fun c hc=>gW c (fun e=>Wz (e▸hc)))⟩)
 have AHM:vF E (w.setCells bb (o+off*r.n) vs) (σ.bx.set b (.sl (d'+1) r rows')) b (.sl (d'+1) r rows') [bb]:=by
  refine⟨hd,?_⟩;simp only[Ow];refine⟨_,cap,by rw[hh,ALz],by omega,.inr ⟨bb,o,FL arr (o+off*r.n) vs,ty,fr,List.replicate rows'.length [],rfl,Fl _ _ _ _ _ _ _ ha,by rw[Fh];omega,by rw[Fh];exact hu,by simp,by simp,fun i y G hy hG=> ?_⟩⟩;have hG':G=[]:=ARD (AMU hG);subst hG';have hil:i<rows.length:=by have:=(AK1.1 hy).1;omega
  by_cases Qt:off<=i/\i<off+n
  ·have hyz:y=r.z:=by
    rw[<-ACz,AMB (by simp;omega),AMM (by simp;omega)]at hy;exact ARD (AMU hy)
   subst hyz;refine⟨Eu r,hzl,fun j v hj=> ?_,jE hgd⟩;have hjl:j<r.n:=by have:=(AK1.1 hj).1;omega
   have e1:(i-off)*r.n=i*r.n-off*r.n:=ATV ..;have e2:off*r.n<=i*r.n:=AME _ Qt.1;have e3:(i-off+1)*r.n<=n*r.n:=AME _ (by omega);rw[ARK,Nat.one_mul]at e3;have:=PS ha gm ((i-off)*r.n+j) v (by
    rw[<-Xe,N7 (by rw[hzl];omega),hzl,Nat.mul_comm (i-off),Nat.mul_add_mod,Nat.mod_eq_of_lt hjl];exact hj)
   rw[show o+off*r.n+((i-off)*r.n+j)=o+i*r.n+j by omega]at this;exact this
  ·have hyo:rows[i]? =some y:=by
    rw[<-ACz]at hy;by_cases h1:i<off
    ·rw[AMB (by simp;omega),AMB (by simp;omega),AR8,AJe h1]at hy
     exact hy
    ·rw[AMM (by simp;omega),ASJ]at hy
     rw[<-hy];congr 1;simp;omega
   obtain⟨cs,c1,c2,c3⟩:=cy i y (Fs[i]'(by omega)) hyo (AKT _);obtain⟨_,c4,c5⟩:=AA4 (w':=w.setCells bb (o+off*r.n) vs) (S':=E.S) (d':=d') hr c3;refine⟨cs,c4,WO c2 ha gm (.inr ?_),c5⟩;by_cases h1:i<off
   ·have:(i+1)*r.n<=off*r.n:=AME _ h1
    rw[ARK,Nat.one_mul]at this;omega
   ·have:(off+n)*r.n<=i*r.n:=AME _ (by omega)
    omega
 have:=C2.put (b:=b) (B:= .sl (d'+1) r rows') (F:=[bb]) (G:=[]) (by simpa using hT) (by rw[AQ8 Ix]) AHM;rw[AVj]at this;exact this
section
variable{Y:Type} {P:Program} {T:Jr} (hT:Eb P T) {o:Oper} {E:Env} {σ:St} {a:Act} {w:World} {k:K Y} {y:Y}
include hT
theorem ACX(h:Rel E σ a w){c:Call}{x:XV}(ho:o.op= .call c)(hc:c.callee= .builtin .clear)(Io:c.args.toList.map σ.ev=[x])(e:nv T c.argTypes σ x k=some y)
  (AY1:∀b p off n,x= .c (.win b p off n)->Kz (fun _=>none) σ o.op=[b]):∃v w' E' xv σ',((execOp a.eval o).run P w= .ok (.value v) w'\/((execOp a.eval o).run P w= .ok .skip w'/\v=undef))/\Rel E' σ' a w'/\XR E' w' σ'.bx xv v/\
   S5 (Kz (fun _=>none) σ o.op) E σ.bx w E' σ'.bx w'/\σ'.tm.length=σ.tm.length/\k xv σ' =some y:=by
 obtain⟨o1,hargs',rfl⟩:=ZF Io;have gH:=h.ev o1;unfold nv at e;split at e
 case h_2=>cases e
 rename_i t b off n ht hx;rw[hx]at gH;rw[AY1 b [] off n hx];split at e
 case h_2=>cases e
 rename_i d r rows hb;split at e
 case isFalse=>cases e
 rename_i WG;rw[ALJ]at WG;obtain⟨WG,hr⟩:=WG;rw[ALJ,ALh]at hr;obtain⟨hr,hk⟩:=hr;obtain⟨el,ti,hu,Wq,hs,hby,hrow⟩:=Kv hT WG;obtain⟨i,z,i1,i2,i3,i4,i5,hg⟩:=Yw hT Wq hrow;have dR:VR E w σ.bx (.win b [] off n) (a.eval o1):=gH;simp only[VR,hb]at dR;obtain⟨_,_,q,ys,ad,len,cap,hgp,hl,hh,hv⟩:=dR;simp only[G8,AKX,AL1]at hgp;obtain⟨rfl,hgp⟩:=hgp;obtain rfl:=AOs hgp;simp only[JC,AKX]at hh;by_cases hn:n=0
 ·subst hn
  have ATg:(rows.take off++List.replicate 0 r.z)++rows.drop (off+0)=rows:=by simp
  rw[ATg]at e;have aV:σ.bx.set b (.sl d r rows)=σ.bx:=by
   apply ASy;grind
  rw[aV]at e;refine⟨.tuple #[],w,E,.c .undef,σ,.inl ?_,h,trivial,S5.refl _ _ _ _,rfl,e⟩;have hz:∃a' c',a.eval o1= .slice a' 0 c':=⟨_,_,by rw[hv];rfl⟩;obtain⟨a',c',hz⟩:=hz;simp only[execOp,ho,resolve,hc,hargs',invoke,builtin,Sem.run_bind,Sem.run_pure,Result.andThen_ok,List.map_toArray,ARZ,AVZ,Builtin.clear_,ht,hz];cases a'<;>simp[Be hu]
 ·obtain⟨bb,oo,cap',g1,g2,g3,g4,g5⟩:=AE0 h (d:=d) hb hr hg hk hl (by omega)
  rw[g1]at hh;simp only[Value.slice.injEq]at hh;obtain⟨rfl,rfl,rfl⟩:=hh;have aj:a.eval o1= .slice (some ⟨bb,oo+off*r.n,none⟩) n (cap'-off):=by
   rw[hv];unfold Xb;rw[AJk (by omega)];simp[Addr.add]
  refine⟨.tuple #[],_,E,.c .undef,_,.inl ?_,g4,trivial,g5,rfl,e⟩;have hz:(Builtin.zeroCells z.cells n).toList=(List.replicate n (Eu r)).flatten:=by
   grind[Builtin.zeroCells,Eu,Yf,G5]
  have h1:∀v∈(List.replicate n (Eu r)).flatten,v.oneCell' =true:=fun v hv=>by
   obtain⟨l,hl1,wS⟩:=APz.1 hv;rw[ARD hl1]at wS;exact oV (w:=w) (S:=E.S) (d:=0) (jE hg) v wS
  have hvl:((List.replicate n (Eu r)).flatten).length=n*r.n:=by rw[Fb,G5]
  have vX:=run_storeCells_cells (P:=P) bb (oo+off*r.n) (List.replicate n (Eu r)).flatten 0 w (fun j hj=>by simpa using(g3 j (by omega)).1) (fun j hj=>by simpa using(g3 j (by omega)).2) h1;rw[ART]at vX;obtain⟨n',rfl⟩:∃n',n=n'+1:=⟨n-1,by omega⟩;simp only[execOp,ho,resolve,hc,hargs',invoke,builtin,Sem.run_bind,Sem.run_pure,Result.andThen_ok,List.map_toArray,ARZ,AVZ,Builtin.clear_,ht,aj];simp[Be hu,zeroValue,typeInfo,i1,i4,hz,vX]
end
end Go.Fw
end
section
namespace Go.Fw
theorem vV{E:Env}{w:World}{vw:List Bx}:∀{l:List XV} {bs:ABy} {vs:List Value},zo l=some bs->Cc (XR E w vw) l vs->(∀b∈bs,b<vw.length)/\vs=bs.map fun b=>Value.pointer (some ⟨E.IG b,0,none⟩)
 |[],bs,vs,e,h=>by
  simp only[zo,AKX]at e;subst e;cases vs with
  |nil=>simp_all
  |cons _ _=>exact h.elim
 |x::l,bs,vs,e,h=>by
  unfold zo at e;split at e
  ·simp_all
  ·rename_i b l' heq
   cases heq;simp only[AKm]at e;obtain⟨r,e1,rfl⟩:=e;cases vs with
   |nil=>exact h.elim
   |cons v vs=>
    obtain⟨h1,h2⟩:=h;obtain⟨k1,k2⟩:=vV e1 h2;obtain⟨h3,h4⟩:b<vw.length/\v= .pointer (some ⟨E.IG b,0,none⟩):=h1;simp_all
  simp_all
theorem evs{E:Env}{σ:St}{a:Act}{w:World}(h:Rel E σ a w):∀l:List Operand,Cc (XR E w σ.bx) (l.map σ.ev) (l.map a.eval)
 |[]=>trivial
 |x::l=>⟨h.ev x,evs h l⟩
theorem AD9{E:Env}{σ:St}{a:Act}{w:World}(h:Rel E σ a w):∀o:Option Operand,OR E w σ.bx (o.map σ.ev) (o.map a.eval)
 |none=>trivial
 |some x=>h.ev x
theorem AAm{w:World}{S:Nat->Prop}:∀{p:List Yu} {d:Nat} {r:Ty} {h:Value} {rows:List r.D} {F:ABy} {q:Ty} {ys:List q.D} {v:Value},Ow w S d (.sl r) [h] rows F->DC r rows p->
  G8 r rows p=some ⟨q,ys⟩->d<=p.length->JC w h p=some v->Rd w S (.sl q) [v] ys
 |p,0,r,h,rows,F,q,ys,v,ho,hp,hg,_,hv=>by
  simp only[Ow]at ho;obtain⟨h',k,hr⟩:=sH ho.1 hp hg;simp_all
 |[],d+1,r,h,rows,F,q,ys,v,ho,hp,hg,hd,hv=>by simp_all
 |s::p,d+1,r,h,rows,F,q,ys,v,ho,hp,hg,hd,hv=>by
  simp only[DC]at hp;obtain⟨hi,LP,hp⟩:=hp;simp only[G8]at hg;obtain⟨a,len,cap,rfl⟩:∃a len cap,h= .slice a len cap:=by
   have:=ho;simp only[Ow]at this;grind
  split at hg
  case h_2=>cases hg
  rename_i q' x' kf;rw[kf]at hp;obtain⟨b,o,arr,ty,fr,cs,G,R,rfl,hb,hu,hbd,c1,c2,c3,uK,hback⟩:=yD ho hi;obtain⟨u,A1,A2,k1,k2,k3,k4⟩:=i6 c3 kf;simp only[JC]at hv;rw[LP,c2 _ _ k1]at hv;exact AAm k2 hp hg (by simp_all) hv
theorem AB9{E:Env}{σ:St}{a:Act}{w:World}(h:Rel E σ a w){b i sz j:Nat}{p:List Yu}{va v:Value}(hva:VR E w σ.bx (.J5 b p i sz j) va){x:XV}(hv:XR E w σ.bx x v)(h1c:∀u∈v.cells.toList,u.oneCell' =true)
  {σ':St} (e:MQ σ (.c (.J5 b p i sz j)) x=some σ'):
  ∃bb oo E',va= .pointer (some ⟨bb,oo,none⟩)/\w.there bb oo v.cells.toList.length/\Rel E' σ' a (w.setCells bb oo v.cells.toList)/\S5 [b] E σ.bx w E' σ'.bx (w.setCells bb oo v.cells.toList)/\σ'.tm.length=σ.tm.length:=by
 unfold MQ dj at e;split at e
 ·rename_i b0 _ _ _ _ b' s p' off n heq
  cases heq;split at e
  case isFalse=>cases e
  rename_i hbb;subst hbb;split at e
  case h_2=>cases e
  rename_i d r rows hb;simp only[ALU,AKm]at e;obtain⟨q,⟨⟨q0,ys⟩,hg,rfl⟩,e⟩:=e;dsimp only at e;have Ix:=(AK1.1 hb).1;obtain⟨F,⟨hd1,ho⟩,hB⟩:=h.bx.take hb;obtain⟨A,W,pF,ho2⟩:=Kf (d:=min d (p'.length+1)) (by omega) ho;have Z2:=hB.perm (G':=A++W++[]) (by simp_all);obtain⟨hle,hB3⟩:=Z2.share
  generalize hE1:({ E with S:=fun c=>E.S c\/c∈W,T:=fun c=>E.T c\/c∈W }:Env)=E1 at hle hB3
  have ho3:Ow w E1.S (min d (p'.length+1)) (.sl r) [E1.IF b'] rows A:=by
   rw[hle.IF];grind
  have hB4:=hB3.put (b:=b') (B:= .sl (min d (p'.length+1)) r rows) (by simp_all) ⟨by omega,ho3⟩;rw[AVj]at hB4;have hk:Um E w σ.bx E1 w (σ.bx.set b' (.sl (min d (p'.length+1)) r rows)):=by
   refine⟨by simp,fun _ _=>by rw[hle.IG],hle.T,hle.S,h.bx.st,fun _ _=>rfl,fun c d' r' rows' hc e=> ?_⟩;by_cases hcb:b' =c
   ·subst hcb
    rw[AQ8 Ix]at e;simp only[AKX,Bx.sl.injEq]at e;obtain⟨rfl,rfl,e⟩:=e;obtain rfl:=AOs e;exact⟨d,rows,hb,fun p hp q ys hg=>⟨hp,⟨ys,hg,rfl⟩,fun h' hh=>by rw[hle.IF];omega⟩⟩
   ·rw[AOK hcb]at e
    exact⟨d',rows',e,fun p hp q ys hg=>⟨hp,⟨ys,hg,rfl⟩,fun h' hh=>by rw[hle.IF];omega⟩⟩
  have gH:VR E w σ.bx (.win b' (s::p') off n) v:=hv;have dR:XR E1 w (σ.bx.set b' (.sl (min d (p'.length+1)) r rows)) (.c (.sl true q0 ((ys.drop off).take n))) v:=by
   simp only[VR,hb]at gH;obtain⟨_,hp,q1,ys1,a1,len,cap,g1,g2,g3,rfl⟩:=gH;rw[hg]at g1;simp only[AKX,AL1]at g1;obtain⟨rfl,g1⟩:=g1;obtain rfl:=AOs g1;have:=AAm ho3 hp hg (by grind) (by rw[hle.IF];omega);exact ACk this g2
  have hr:Rel E1 { σ with bx:=σ.bx.set b' (.sl (min d (p'.length+1)) r rows) } a w:=
   ⟨h.OS,h.tm.imp fun _ _ hx=>QR hk hx,hB4.turn (E':=E1) (w':=w) (fun _ _ hv=>GQ ⟨by simp,fun _ _=>rfl,fun _ h=>h,fun _ h=>h,hB3.st,fun _ _=>rfl,fun c d' r' rows' hc e=>by
    grind⟩ hv) (fun _ h=>h) (fun _ _=>rfl) (fun _ _=>rfl) (fun _ _ _=>rfl) fun F hF=>hF⟩
  obtain⟨bb,oo,E',q1,q2,q3,q4,q5⟩:=wo hr (GQ hk hva) dR h1c e;refine⟨bb,oo,E',q1,q2,q3,⟨(hle.base w).trans q4.base,by simpa using q4.len,fun c hc=> ?_,fun c hc=> ?_,fun c B B' hct hB Vp hd=> ?_⟩,q5⟩
  ·have:=q4.ids c (by simp_all)
   exact⟨this.1.trans (by rw[hle.IG]),this.2.trans (by rw[hle.IF])⟩
  ·refine q4.dead c ?_
   grind
  ·have hcb:b'≠c:=fun e=>hct (by simp[e])
   obtain⟨f1,f2⟩:=q4.frame c B B' hct (by simp_all) Vp hd;refine⟨f1,fun c' gO=>f2 c' ?_⟩;cases B with
   |mem cs=>exact gO.trans (by rw[hle.IG])
   |sl d0 r0 TH=>simp only[BRB]at gO|-;rw[hle.IF];omega
   |dead=>exact gO
 grind[wo]
def sX:Op->Bool
 | .call { callee:= .value _,.. }=>true
 |_=>false
section
variable{Y:Type} {P:Program} {T:Jr} (hT:Eb P T) {o:Oper} {E:Env} {σ:St} {a:Act} {w:World} {k:K Y} {y:Y}
include hT
theorem AB6(h:Rel E σ a w){t:TypeId}{oa ox:Operand}(ho:o.op= .store t oa ox){ti:TI}(Wq:T.get t=some ti)
  (hc:(σ.ev ox).cells.length=ti.size/\ti.size≠0/\(σ.ev ox).cells.all AV.known=true) {σ':St} (hs:MQ σ (σ.ev oa) (σ.ev ox)=some σ') (e:k (.c .undef) σ' =some y):Lr P o E σ a w k y:=by
 obtain⟨c1,c2,c3⟩:=hc;have aO:(σ.ev ox).cells≠[]:=fun hh=>by simp_all
 obtain⟨Xe,h1c⟩:=uQ (h.ev ox) c3 aO;have hlen:(a.eval ox).cells.toList.length=ti.size:=by rw[<-Cc.len Xe];omega
 have hi:(P.info? t).map (·.size)=some (a.eval ox).cells.toList.length:=by grind[Eb.size]
 have hva:=h.ev oa;have fin:∀{bb oo:Nat} {E':Env},a.eval oa= .pointer (some ⟨bb,oo,none⟩)->w.there bb oo (a.eval ox).cells.toList.length->Rel E' σ' a (w.setCells bb oo (a.eval ox).cells.toList)->
   S5 (Kz (fun _=>none) σ o.op) E σ.bx w E' σ'.bx (w.setCells bb oo (a.eval ox).cells.toList)->σ'.tm.length=σ.tm.length->Lr P o E σ a w k y:=by
  intro bb oo E' e1 e2 e3 e4 e5;have hr:=rN (P:=P) e2 hi h1c;refine⟨undef,_,E',.c .undef,σ',.inr ⟨?_,rfl⟩,e3,trivial,e4,e5,e⟩;grind[execOp,Sem.run_bind,Result.andThen_ok,Sem.run_pure]
 generalize hxa:σ.ev oa=xa at hs hva
 cases xa with
 |agg l=>simp[MQ,dj,kF]at hs
 |L8 l=>simp[MQ,dj,kF]at hs
 |c x=>
  cases x with
  |Ir b j=>
   simp only[MQ,dj,ALi,kF]at hs;split at hs
   case h_2=>cases hs
   rename_i cs hb;simp only[AKm]at hs;obtain⟨iO,hs,rfl⟩:=hs;have AXo:b<σ.bx.length/\a.eval oa= .pointer (some ⟨E.IG b,j,none⟩):=hva;obtain⟨q1,q2,q3⟩:=AE6 h hb Xe aO hs;exact fin AXo.2 q1 q2 (by grind[Kz]) rfl
  |J5 b p i sz j=>
   obtain⟨bb,oo,E',q1,q2,q3,q4,q5⟩:=AB9 h hva (h.ev ox) h1c hs;grind[Kz]
  |_=>simp[MQ,dj,kF]at hs
omit hT in
theorem zq(h:Rel E σ a w){x:Operand}(ho:o.op= .assign x)(e:eU σ (σ.ev x) k=some y):Lr P o E σ a w k y:=by
 have hr:(execOp a.eval o).run P w= .ok (.value (a.eval x)) w:=by simp only[execOp,ho,Sem.run_pure]
 have hv:=h.ev x;unfold eU at e;split at e
 ·rename_i b off n hx
  rw[hx]at hv;simp only[ALU]at e;obtain⟨⟨r,rows,bx,d⟩,e1,e⟩:=e;dsimp only at e;have aj:VR E w σ.bx (.win b [] off n) (a.eval x):=hv;obtain⟨hd,F1,F2,k1,ho1⟩:=jq h.bx (FO.refl _) aj e1;obtain⟨Fs0,hB1,Z2⟩:=k1.boxes;simp only[ALu]at Z2;have nd:=(AL8.1 (AL8.1 Z2.nodup).2.1).1;obtain⟨r1,r2,r3⟩:=VO h k1 (w':=w) hd ho1 (fun c hc=> .inl (AMt.2 (.inl hc))) nd (fun c hc=>Z2.lt c (by simp[hc])) (fun _ _ _=>rfl) ⟨rfl,rfl,rfl,AMN _⟩;exact⟨_,_,_,_,_,.inl hr,r1,r3,r2.any,rfl,e⟩
 ·exact Lr.same h hr hv e
theorem AFr{Γ:Nat->Option RU}(h:Rel E σ a w)(e:Z6 T Γ o σ k=some y)(xH:sX o.op=false):Lr P o E σ a w k y:=by
 have same:∀{v:Value} {x:XV},(execOp a.eval o).run P w= .ok (.value v) w->XR E w σ.bx x v->k x σ=some y->Lr P o E σ a w k y:=fun h1 h2 h3=>Lr.same h h1 h2 h3
 obtain⟨Fs,hB,hS⟩:=h.bx;have st:=hS.st;unfold Z6 at e;split at e
 ·rename_i x ho
  exact same (v:=a.eval x) (by grind[execOp,Sem.run_pure]) (h.ev x) e
 ·grind[zq]
 ·rename_i c xa xb ho
  split at e
  case h_2=>cases e
  rename_i p hp;have hc:=h.ev c;rw[hp]at hc;have gO:=UO (E:=E) (w:=w) (vw:=σ.bx) hc;refine same (v:=if p then a.eval xa else a.eval xb) (x:=if p then σ.ev xa else σ.ev xb) (by simp[execOp,ho,gO,asBool]) (by cases p<;>simp[h.ev]) ?_
  grind[AGG]
 ·grind[ACC]
 ·grind[AGy]
 ·grind[ADe]
 ·grind[qf]
 ·rename_i t x ho
  split at e
  case h_2=>cases e
  rename_i z hz;obtain⟨u,h1,h2⟩:=ABT hT hB st hz (h.ev x);grind[execOp,Sem.run_bind,Result.andThen_ok,Sem.run_pure]
 ·grind[AB6]
 ·rename_i x ho
  have hx:=h.ev x;split at e
  ·rename_i b j hp
   rw[hp]at hx;have vW:b<σ.bx.length/\a.eval x= .pointer (some ⟨E.IG b,j,none⟩):=hx;grind[execOp,Sem.run_pure]
  ·rename_i b p i sz j hp
   rw[hp]at hx;have hpt:fz (a.eval x)=true:=hx.1;grind[fz,execOp,Sem.run_pure]
  ·rename_i s r z j hp
   rw[hp]at hx;obtain⟨bb,oo,cs,hv,hrest⟩:=hx;exact same (v:=a.eval x) (x:= .c (.Qf s r z j)) (by grind[execOp,Sem.run_pure]) ⟨bb,oo,cs,hv,hrest⟩ e
  ·rename_i f K4 hp
   rw[hp]at hx;have vW:(∀b∈K4,b<σ.bx.length)/\a.eval x= .func (.func f) #[] (K4.map fun b=>Value.pointer (some ⟨E.IG b,0,none⟩)).toArray:=hx;grind[execOp,Sem.run_pure]
  simp_all
 ·rename_i op t x z s ho
  obtain⟨r,val,h1,h2,h3⟩:=jx hT e (h.ev x) (h.ev z) x z;exact same (v:=val) (x:= .c r) (by
   simp only[execOp,ho,Sem.run_bind];simp_all) h3 h1
 ·rename_i op t x ho
  obtain⟨r,val,h1,h2,h3⟩:=o6 (P:=P) e (h.ev x);exact same (v:=val) (x:= .c r) (by grind[execOp,Sem.run_bind,Result.andThen_ok,Sem.run_pure]) h3 h1
 ·grind[AE4]
 ·rename_i f first K4 ho
  split at e
  case isFalse=>cases e
  rename_i hf;split at e
  case h_2=>cases e
  rename_i bs hbs;obtain⟨q1,q2⟩:=vV hbs (evs h K4.toList);have AXN:first.map a.eval= #[]:=by
   simp_all
  have Aam:K4.map a.eval=(bs.map fun b=>Value.pointer (some ⟨E.IG b,0,none⟩)).toArray:=by
   grind
  refine same (v:= .func (.func f) #[] (bs.map fun b=>Value.pointer (some ⟨E.IG b,0,none⟩)).toArray) ?_ (x:= .c (.fn f bs)) ⟨q1,rfl⟩ e
  grind[execOp,Instr.makeFunc,Sem.run_bind,Sem.run_pure,Result.andThen_ok]
 ·grind[AF6]
 ·rename_i t x lo hi ho
  obtain⟨z,val,h1,h2,h3⟩:=mT hT hB st e (h.ev x) (AD9 h lo) (AD9 h hi);grind[execOp,Sem.run_bind,Result.andThen_ok,Sem.run_pure]
 ·rename_i t x f ho
  split at e
  case h_2=>cases e
  rename_i z hz;obtain⟨u,h1,h2⟩:=mi hT hz (h.ev x);grind[execOp,Sem.run_bind,Result.andThen_ok,Sem.run_pure]
 ·rename_i t x f ho
  split at e
  case h_2=>cases e
  rename_i z hz;obtain⟨u,h1,h2⟩:=qD hT hz (h.ev x);grind[execOp,Sem.run_bind,Result.andThen_ok,Sem.run_pure]
 ·rename_i t x i ho
  obtain⟨z,val,h1,h2,h3⟩:=mA hT hB st e (h.ev x) (h.ev i);grind[execOp,Sem.run_bind,Result.andThen_ok,Sem.run_pure]
 ·rename_i t x i ho
  obtain⟨z,val,h1,h2,h3⟩:=fk hT e (h.ev x) (h.ev i);grind[execOp,Sem.run_bind,Result.andThen_ok,Sem.run_pure]
 ·rename_i x i ho
  split at e
  case h_2=>cases e
  rename_i z hz;obtain⟨u,h1,h2⟩:=gX (P:=P) hz (h.ev x);grind[execOp,Sem.run_bind,Result.andThen_ok,Sem.run_pure]
 ·rename_i f args vk ho
  rw[ho]at xH;cases xH
 ·rename_i args vk ho
  split at e
  ·rename_i s t Io hts
   obtain⟨x,rfl,hx⟩:=ZF Io;have hv:=h.ev x;rw[hx]at hv;have aj:=Y_ (E:=E) (w:=w) (vw:=σ.bx) hv;split at e
   case isFalse=>cases e
   rename_i hs;have hu:=ZS hT hs;refine same (v:= .int .i64 (s.length:Int)) (x:= .c (.v (.int .i64) (s.length:Int))) ?_ (VR.int (E:=E) (vw:=σ.bx) _ _) e
   have LP:(⟨s.toArray⟩:ByteArray).size=s.length:=by rfl
   simp[execOp,ho,resolve,invoke,builtin,Builtin.len_,hts,aj,Be hu,goInt,LP]
  ·rename_i z t _ Io hts
   obtain⟨x,rfl,hx⟩:=ZF Io;have hv:=h.ev x;rw[hx]at hv;split at e
   case isFalse=>cases e
   rename_i hs;split at e
   case h_2=>cases e
   rename_i n hn;obtain⟨el,hu⟩:=pV hT hs;obtain⟨ad,cap,aj⟩:=qF hB st hn hv;refine same (v:= .int .i64 (n:Int)) (x:= .c (.v (.int .i64) (n:Int))) ?_ (VR.int (E:=E) (vw:=σ.bx) _ _) e
   simp[execOp,ho,resolve,invoke,builtin,Builtin.len_,hts,aj,Be hu,goInt]
  simp_all
 ·rename_i args vk ho
  split at e
  case h_2=>cases e
  rename_i x1 x2 Io;exact ABn hT h ho rfl Io e
 ·rename_i args vk ho
  split at e
  case h_2=>cases e
  rename_i x Io;exact ACX hT h ho rfl Io e (fun b p off n hx=>by grind[Kz])
 ·rename_i args vk ho
  split at e
  case h_2=>cases e
  rename_i x1 x2 Io;obtain⟨o1,o2,rfl,hx1,hx2⟩:=ZL Io;have gH:=h.ev o1;have dR:=h.ev o2;rw[hx1]at gH;rw[hx2]at dR;obtain⟨r,val,h1,h2,h3⟩:=VQ (P:=P) (big:=true) e gH dR vk #[] o.type;simp only[AQY]at h2;exact same (v:=val) (x:= .c r) (by simp[execOp,ho,resolve,invoke,builtin,h2]) h3 h1
 ·rename_i args vk ho
  split at e
  case h_2=>cases e
  rename_i x1 x2 Io;obtain⟨o1,o2,rfl,hx1,hx2⟩:=ZL Io;have gH:=h.ev o1;have dR:=h.ev o2;rw[hx1]at gH;rw[hx2]at dR;obtain⟨r,val,h1,h2,h3⟩:=VQ (P:=P) (big:=false) e gH dR vk #[] o.type;simp only[ALY,ANX]at h2;exact same (v:=val) (x:= .c r) (by simp[execOp,ho,resolve,invoke,builtin,h2]) h3 h1
 simp_all
end
end Go.Fw
end
