/- The framework, part 1: a checked interpreter of the model's code over abstract states; no claim is made here. -/
import Derived.Lib.LaidTab
import Derived.Lib.ItoaNum
import Derived.Calls
import Derived.Still
import Derived.Laws.World
import Derived.Laws.AppendOwn
import Derived.RowKit3
import Derived.Deep.MidRow
import Derived.Laws.StructEq
import Derived.Lib.ConvBytes
import Derived.Laws.BytesArg
import Derived.Tactics
import Derived.OrdersHeld
import Derived.ChangeArms
import Derived.ChangeOld
import Derived.DataReads
import Derived.Below
import Derived.Shelf.Spec.SlicesInsertGrow
import Derived.Shelf.Slices.Delete
import Derived.Lib.AtoiAll
import Derived.Lib.IndexMore
import Derived.Lib.Strings
import Derived.Lib.SlicesS
import Derived.Shelf.Strconv.Itoa3
import Derived.Shelf.Strings.Cut
import Derived.Shelf.Strings.Search3
import Derived.Shelf.Strings.Prefix
import Derived.Shelf.Slices.Turned
import Derived.Handed
import Derived.Stop.LaidErr
import Derived.MakeChecks
import Derived.LaidLaws
set_option linter.unusedVariables false
set_option linter.unusedSimpArgs false
set_option linter.unusedSectionVars false
abbrev AD4:Type:=Int × Int × Bool × List UInt8 × Unit
abbrev AKX:Type:=List UInt8 × List Int × Bool × Unit
abbrev AF2:Type:=Int × Int × List UInt8 × Unit
abbrev AIH:Type:=List Int × Bool × Int × Unit
abbrev AIc:Type:=Int × List UInt8 × Bool × Unit
abbrev AFB:Type:=Unit × Int × Unit × Unit × Unit × Int × Unit × Unit × Unit × Unit × Bool × Unit
abbrev AAO:Type:=List Int
abbrev ABt:Type:=List Int × Int × Unit
abbrev ALY:Type:=Int × Bool × Int × Int × Bool × List UInt8 × Unit
abbrev AD6:Type:=List Int × Int × Int × Unit
abbrev ABw:Type:=Bool × Unit
abbrev AIf:Type:=Int × Int × Unit × Unit × Bool × Unit × Unit
abbrev ACJ:Type:=Int × Unit
abbrev ADq:Type:=Int × Int × Int × Int × List UInt8 × Unit
abbrev AKi:Type:=Unit × Unit × Int × Unit
abbrev ADC:Type:=Unit × Unit
abbrev ADn:Type:=List Int × Unit
abbrev AIg:Type:=Unit × Int × Unit
abbrev ABu:Type:=List Nat
abbrev AD5:Type:=List UInt8 × Unit
abbrev AIi:Type:=Int × Int × Unit × Unit
abbrev AIh:Type:=Int × Unit × Unit
abbrev ALR:Type:=Int × Bool × Unit
abbrev ABG:Type:=List UInt8
abbrev AKV:Type:=List UInt8 × Bool × Unit
abbrev AD3:Type:=Nat × Nat
abbrev AIb:Type:=Unit × List Int × Unit
abbrev AIa:Type:=Nat × List Nat
abbrev ABv:Type:=Int × Int × List Int × List AD4 × Bool × List AAO × Unit
abbrev ACo:Type:=List AD4 × List AD4 × Int × Unit
abbrev ADk:Type:=Int × Int × List AF2 × Unit
abbrev ACj:Type:=Int × List AKX × Unit
abbrev AAj:Type:=List AD4
abbrev AAP:Type:=List AIH
abbrev AAr:Type:=List AIc
abbrev AB_:Type:=List AIH × Int × Unit
abbrev ALa:Type:=AFB × Int × Unit
abbrev ACa:Type:=List AKX
abbrev ALb:Type:=AKi × Bool × Unit
abbrev ADi:Type:=List AF2
abbrev ALc:Type:=AIf × Bool × Unit
abbrev AD_:Type:=AD6 × Unit
abbrev AF1:Type:=ALR × Unit
abbrev AEA:Type:=AIg × Unit
abbrev ALf:Type:=AIh × Bool × Unit
abbrev ALe:Type:=AIg × Bool × Unit
abbrev ALd:Type:=AD4 × Bool × Unit
abbrev AD2:Type:=List ALY
abbrev AH4:Type:=AD6 × List Int × Unit
abbrev AGa:Type:=AKi × Unit
abbrev AGK:Type:=AIf × Unit
abbrev AHk:Type:=AKV × Unit
abbrev AG7:Type:=AIi × Unit
abbrev AHn:Type:=ADq × Unit
abbrev ALg:Type:=AFB × List UInt8 × Unit
abbrev AGv:Type:=AIh × Unit
abbrev AD9:Type:=ACJ × Unit
abbrev AHp:Type:=AFB × Unit
abbrev AIW:Type:=AD4 × Unit
abbrev AJO:Type:=AIh × Int × Bool × Unit
abbrev AIz:Type:=AIg × Int × Bool × Unit
abbrev AJs:Type:=AFB × Unit × AFB × Unit
abbrev AKK:Type:=ADq × Bool × Unit
abbrev AIk:Type:=AIi × Int × Unit
abbrev ABx:Type:=List Int × Int × List ACo × List Int × List AIH × Int × List ACj × List ABv × List ADk × List AIc × Bool × Unit
abbrev AAZ:Type:=List ACo
abbrev AAp:Type:=List ADk
abbrev AAw:Type:=List ACj
abbrev AAx:Type:=List ABv
abbrev AE2:Type:=List Int × AAj × List AAO × Unit
abbrev AEC:Type:=AAj × AAj × Unit
abbrev AD7:Type:=ALa × Unit
abbrev AFG:Type:=ALb × Unit
abbrev AGM:Type:=ALc × Unit
abbrev AGF:Type:=ACa × Unit
abbrev AF7:Type:=AAP × Unit
abbrev AHC:Type:=ADi × Unit
abbrev AGg:Type:=AAj × Unit
abbrev AHv:Type:=ALd × Unit
abbrev AH2:Type:=ALe × Unit
abbrev AHz:Type:=ALf × Unit
abbrev AJ2:Type:=AD6 × List Int × AAj × List AAO × Unit
abbrev AId:Type:=Unit × AAj × Unit
abbrev AIj:Type:=AIi × Unit × ADi × Unit
abbrev AJu:Type:=AD6 × AAj × AAj × Unit
abbrev AIe:Type:=ALg × Unit
abbrev AJ0:Type:=AD6 × ACa × Unit
abbrev AJz:Type:=AD6 × AAP × Unit
abbrev AD8:Type:=List Int × AAZ × List Int × AAP × AAw × AAx × AAp × AAr × Unit
abbrev AFh:Type:=AFB × List Int × AAZ × List Int × AAP × AAw × AAx × AAp × AAr × Unit
abbrev AKG:Type:=AFB × List Int × AAZ × Unit × AAP × AAw × AAx × AAp × AAr × List Int × Unit
abbrev AJQ:Type:=List Int × AAZ × Unit × AAP × AAw × AAx × AAp × AAr × List Int × Unit
abbrev AJc:Type:=AAZ × AAj × AAj × Unit
abbrev ALh:=@Bool.eq_false_or_eq_true
abbrev ALi:=@if_pos
abbrev ALj:=@if_neg
abbrev ALk:=@List.getElem?_eq_getElem
abbrev ALl:=@Option.some.injEq
abbrev ALm:=@cond_false
abbrev ALs:=@Option.map_eq_some_iff
abbrev AL1:=@List.getElem?_eq_some_iff
abbrev AL8:=@Bool.and_eq_true
abbrev AL9:=@Bool.not_true
abbrev AMA:=@Option.bind_some
abbrev AMn:=@Int.toNat_natCast
abbrev AMp:=@Option.bind_eq_some_iff
abbrev AMs:=@cond_true
abbrev AMx:=@Bool.false_eq_true
abbrev AM7:=@decide_eq_true_eq
abbrev AM9:=@List.getElem_mem
abbrev ANC:=@Bool.true_and
abbrev ANG:=@List.drop_eq_nil_of_le
abbrev ANL:=@beq_eq_false_iff_ne
abbrev ANV:=@List.append_nil
abbrev ANZ:=@List.append_assoc
abbrev ANh:=@List.nodup_append
abbrev AN3:=@Sigma.mk.injEq
abbrev AOJ:=@List.length_cons
abbrev AOK:=@List.mem_append
abbrev AOU:=@List.getElem?_append_left
abbrev AOV:=@Nat.mul_le_mul_right
abbrev AOW:=@decide_eq_true
abbrev AOX:=@List.mem_of_getElem?
abbrev AOd:=@Nat.le_refl
abbrev AOt:=@List.getElem?_append_right
abbrev AOu:=@List.length_append
abbrev AOx:=@List.cons.injEq
abbrev AO3:=@List.mem_cons
abbrev AO7:=@Bool.not_eq_true
abbrev AO_:=@List.eq_nil_of_length_eq_zero
abbrev APF:=@Bool.not_eq_false'
abbrev API:=@if_false
abbrev APJ:=@Prod.mk.injEq
abbrev APN:=@List.length_nil
abbrev APP:=@Bool.not_false
abbrev APR:=@eq_of_heq
abbrev APU:=@Bool.false_or
abbrev APf:=@Nat.le_trans
abbrev APg:=@List.length_filter_le
abbrev APl:=@List.getElem?_map
abbrev APu:=@List.mem_flatten
abbrev AP5:=@List.pairwise_cons
abbrev AQC:=@List.mem_singleton
abbrev AQD:=@List.getElem_of_mem
abbrev AQF:=@List.getElem?_set_ne
abbrev AQH:=@List.nil_append
abbrev AQL:=@List.take_of_length_le
abbrev AQM:=@Nat.lt_of_lt_of_le
abbrev AQO:=@List.mem_or_eq_of_mem_set
abbrev AQR:=@List.drop_zero
abbrev AQS:=@decide_eq_false
abbrev AQd:=@beq_self_eq_true
abbrev AQm:=@if_true
abbrev AQp:=@Bool.and_true
abbrev AQs:=@and_true
abbrev AQv:=@Option.isSome_some
abbrev ARP:=@List.filter_cons
abbrev ARc:=@Option.getD_some
abbrev AR1:=@Bool.or_eq_true
abbrev AR5:=@Bool.false_and
abbrev AR8:=@List.take_succ_eq_append_getElem
abbrev ASE:=@Option.isSome_none
abbrev ASO:=@List.getElem?_set_self
abbrev ASQ:=@beq_iff_eq
abbrev AST:=@List.cons.inj
abbrev ASW:=@Bool.not_eq_true'
abbrev ASf:=@List.length_set
abbrev ASm:=@List.all_eq_true
abbrev ASn:=@List.cons_append
abbrev ASy:=@List.all_cons
abbrev AS5:=@Nat.add_mul
abbrev AS7:=@List.flatten_append
abbrev AS9:=@Nat.zero_add
abbrev ATB:=@List.length_replicate
abbrev ATG:=@List.eq_of_mem_replicate
abbrev ATI:=@List.singleton_append
abbrev ATK:=@Nat.add_assoc
abbrev ATL:=@Nat.add_zero
abbrev ATM:=@List.mem_map
abbrev ATN:=@List.drop_length
abbrev ATO:=@List.map_congr_left
abbrev ATP:=@List.flatten_cons
abbrev ATQ:=@Bool.eq_false_iff
abbrev ATR:=@List.drop_eq_getElem_cons
abbrev ATS:=@List.length_map
abbrev ATT:=@List.contains_iff_mem
abbrev ATU:=@List.map_cons
abbrev ATV:=@decide_eq_false_iff_not
abbrev ATW:=@Nat.le_of_lt
abbrev ATX:=@Option.bind_assoc
abbrev ATY:=@List.Perm.append_right
abbrev ATZ:=@List.getElem_cons_zero
abbrev ATa:=@List.map_map
abbrev ATb:=@List.getElem?_eq_none
abbrev ATc:=@List.mem_of_mem_drop
abbrev ATd:=@List.ext_getElem?
abbrev ATe:=@List.mem_filter
abbrev ATf:=@apply_ite
abbrev ATg:=@Array.length_toList
abbrev ATh:=@Nat.sub_mul
abbrev ATi:=@Int.eq_ofNat_of_zero_le
abbrev ATj:=@List.flatten_nil
abbrev ATk:=@List.length_take
abbrev ATl:=@List.set_cons_zero
abbrev ATm:=@List.getElem?_drop
abbrev ATn:=@List.getElem?_take
abbrev ATo:=@List.Perm.append_left
abbrev ATp:=@Option.map_some
abbrev ATq:=@List.nodup_cons
abbrev ATr:=@Array.getD_eq_getD_getElem?
abbrev ATs:=@List.pairwise_map
abbrev ATt:=@List.exists_cons_of_length_eq_add_one
abbrev ATu:=@List.mem_of_mem_take
abbrev ATv:=@List.mem_of_find?_eq_some
abbrev AT1:=@List.pairwise_iff_getElem
abbrev AT6:=@Bool.and_false
abbrev AT7:=@List.length_drop
abbrev AT9:=@List.length_pos_iff
abbrev AUB:=@List.map_nil
abbrev AUM:=@List.length_eq_zero_iff
abbrev AUY:=@Option.some.inj
abbrev AUZ:=@List.find?_cons
abbrev AUc:=@Nat.eq_zero_or_pos
abbrev AUr:=@Bool.eq_iff_iff
abbrev AU1:=@Array.size_append
abbrev AU6:=@List.size_toArray
abbrev AU9:=@Decidable.not_not
abbrev AVI:=@Nat.zero_le
abbrev AVP:=@List.set_set
abbrev AVX:=@dite_true
abbrev AVi:=@List.perm_append_comm
abbrev AVr:=@List.set_append_right
abbrev AVs:=@Bool.true_or
abbrev AV8:=@List.getElem_set_self
abbrev AWV:=@List.mem_cons_of_mem
abbrev AWW:=@List.filter_nil
abbrev AWZ:=@List.drop_set_of_lt
abbrev AWd:=@List.take_set_of_le
abbrev AWh:=@List.Perm.refl
abbrev AWp:=@List.mapM_cons
abbrev AWt:=@Nat.mul_le_mul
abbrev AWu:=@List.take_zero
abbrev AWw:=@not_or
section
namespace Go.Fw
open Go
def AHm:Nat:=3
def AMT:Nat:=0
def gE1:Nat:=4
def gE2:Nat:=5
def j9(w:World)(g:Nat):Prop:= ∃ev,w.cell? ⟨g,0,none⟩=some ev/\(ev= .nilIface\/ ∃te pe,ev= .iface te pe)
def GI(w:World):Prop:=(∃t fr,w.heap[AHm]? =some (.cells (Go.Lib.pow10Tab.map fun z=>Value.int .u64 z).toArray t fr))/\(∃m,w.cell? ⟨AMT,0,none⟩=some (.int .i64 m))/\j9 w gE1/\j9 w gE2
theorem GI.tab{P:Program}{w:World}(h:GI w)(hg:P.globalNamed "internal/strconv.uint64pow10" =some AHm):Go.Lib.TabIs P w "internal/strconv.uint64pow10" .u64 Go.Lib.pow10Tab:=by
 obtain⟨⟨t,fr,h1⟩,_⟩:=h;unfold Go.Lib.TabIs World.var?;rw[hg];simp only[AMA,h1]
theorem GI.of{P:Program}{w w':World}(hg:P.globalNamed "internal/strconv.uint64pow10" =some AHm)(ht:Go.Lib.TabIs P w "internal/strconv.uint64pow10" .u64 Go.Lib.pow10Tab)(hm:∃m,w.cell? ⟨AMT,0,none⟩=some (.int .i64 m))(h1:j9 w gE1)(h2:j9 w gE2)
  (hw:∀c,c<w.heap.size->w'.heap[c]? =w.heap[c]?):GI w':=by
 have lt:∀b o,w.heap[b]? =some o->b<w.heap.size:=fun b o h=>by
  by_cases hb:b<w.heap.size
  ·exact hb
  ·rw[Array.getElem?_eq_none (by omega)]at h;cases h
 unfold Go.Lib.TabIs World.var? at ht;rw[hg]at ht;simp only[AMA]at ht;have same:∀g v,w.cell? ⟨g,0,none⟩=some v->w'.cell? ⟨g,0,none⟩=some v:=fun g v h=>by
  have hb:w'.heap[g]? =w.heap[g]?:=by
   cases ho:w.heap[g]? with
   |none=>simp[World.cell?,ho]at h
   |some o=>rw[hw _ (lt _ _ ho),ho]
  rw[<-h];simp only[World.cell?,hb]
 refine⟨?_,hm.imp fun m h=>same _ _ h,h1.imp fun v h=>⟨same _ _ h.1,h.2⟩,h2.imp fun v h=>⟨same _ _ h.1,h.2⟩⟩
 ·cases ho:w.heap[AHm]? with
  |none=>rw[ho]at ht;cases ht
  |some o=>
   rw[ho]at ht;cases o with
   |cells cs t fr=>
    simp only[ALl]at ht;exact⟨t,fr,by rw[hw _ (lt _ _ ho),ho,ht]⟩
   |_=>cases ht
end Go.Fw
end
section
namespace Go.Fw
inductive Ty where
 |int (k:IntKind)|bool|str|sl (r:Ty)|unit|cons (c r:Ty)
 deriving DecidableEq
@[reducible] def Ty.D:Ty->Type
 | .int _=>Int
 | .bool=>Bool
 | .str=>List UInt8
 | .sl r=>List r.D
 | .unit=>Unit
 | .cons c r=>c.D×r.D
def Ty.n:Ty->Nat
 | .unit=>0
 | .cons _ r=>r.n+1
 |_=>1
def Ty.z:(t:Ty)->t.D
 | .int _=>(0:Int)
 | .bool=>false
 | .str=>[]
 | .sl _=>[]
 | .unit=>()
 | .cons c r=>(c.z,r.z)
def Ty.flat:Ty->Bool
 | .sl _=>false
 | .cons c r=>c.flat&&r.flat
 |_=>true
def Ty.scalar:Ty->Bool
 | .int _| .bool| .str=>true
 |_=>false
structure tH where
 i:Nat
 sz:Nat
 j:Nat
inductive AV where
 |v (t:Ty) (x:t.D)
 |sl (s:Bool) (r:Ty) (x:List r.D)
 |nil
 |ref (b:Nat) (p:List tH)
 |win (b:Nat) (p:List tH) (off n:Nat)
 |JR (b j:Nat)
 |Kc (b:Nat) (p:List tH) (i sz j:Nat)
 |RR (s:Bool) (r:Ty) (x:r.D) (j:Nat)
 |fn (f:Nat) (Lc:ABu)
 |yP (f:Nat) (rows:List ((r:Ty)×r.D))
 |AEX
 |undef
def AV.known:AV->Bool
 | .undef=>false
 |_=>true
inductive XV where
 |c (x:AV)
 |agg (l:List AV)
 |NM (l:List (AV ⊕ List AV))
inductive Bx where
 |mem (cs:List AV)
 |sl (d:Nat) (r:Ty) (rows:List r.D)
 |dead
structure St where
 tm:List XV
 bx:List Bx
def Ba:(r:Ty)->(j:Nat)->r.D->Option ((t:Ty)×t.D)
 | .cons c _,0,x=>some ⟨c,x.1⟩
 | .cons _ r,j+1,x=>Ba r j x.2
 | .unit,_,_=>none
 | .int k,0,x=>some ⟨.int k,x⟩
 | .bool,0,x=>some ⟨.bool,x⟩
 | .str,0,x=>some ⟨.str,x⟩
 | .sl r,0,x=>some ⟨.sl r,x⟩
 |_,_+1,_=>none
def v7{a b:Ty}(h:a=b)(x:a.D):b.D:=h▸x
def EN:(r:Ty)->(j:Nat)->r.D->(t:Ty)->t.D->Option r.D
 | .cons c _,0,x,t,y=>if h:t=c then some (v7 h y,x.2)else none
 | .cons _ r,j+1,x,t,y=>(EN r j x.2 t y).map fun z=>(x.1,z)
 | .unit,_,_,_,_=>none
 | .int k,0,_,t,y=>if h:t= .int k then some (v7 h y)else none
 | .bool,0,_,t,y=>if h:t= .bool then some (v7 h y)else none
 | .str,0,_,t,y=>if h:t= .str then some (v7 h y)else none
 | .sl r,0,_,t,y=>if h:t= .sl r then some (v7 h y)else none
 |_,_+1,_,_,_=>none
def rowAt(r:Ty)(rows:List r.D)(i:Nat):r.D:=rows.getD i r.z
def Hp:(r:Ty)->List r.D->List tH->Option ((q:Ty)×List q.D)
 |r,rows,[]=>some ⟨r,rows⟩
 |r,rows,s::p=>
  match Ba r s.j (rowAt r rows s.i)with
  |some ⟨.sl q,x⟩=>Hp q x p
  |_=>none
def xD:(r:Ty)->List r.D->List tH->(q:Ty)->List q.D->Option (List r.D)
 |r,_,[],q,y=>if h:q=r then some (v7 (congrArg Ty.sl h) y)else none
 |r,rows,s::p,q,y=>
  match Ba r s.j (rowAt r rows s.i)with
  |some ⟨.sl r',x⟩=>(xD r' x p q y).bind fun x' =>(EN r s.j (rowAt r rows s.i) (.sl r') x').map fun row=>rows.set s.i row
  |_=>none
inductive TD where
 |int (k:IntKind)|bool|str|sl (e:Nat)|st (fs:List AD3)|ptr (e:Nat)|other
structure TI where
 size:Nat
 bytes:Nat
 desc:TD
 row:Option Ty
abbrev Ky:=List (Nat×TI)
def Ky.get:Ky->Nat->Option TI
 |[],_=>none
 |(u,i)::l,t=>if u=t then some i else Ky.get l t
def TD.agg:TD->Bool
 | .st _=>true
 |_=>false
def Ky.o7(T:Ky)(t:Nat):Option Ty:=
 match T.get t with
 |some ti=>ti.row
 |none=>none
def AFs:Ty->AV
 | .int k=> .v (.int k) (0:Int)
 | .bool=> .v .bool false
 | .str=> .v .str []
 | .sl _=> .nil
 |_=> .undef
def hI:Ty->List AV
 | .cons c r=>AFs c::hI r
 | .unit=>[]
 |t=>[AFs t]
def xo:Value->AV
 | .int k n=> .v (.int k) n
 | .bool b=> .v .bool b
 | .string s=> .v .str s.data.toList
 | .slice none 0 0=> .nil
 | .pointer none=> .AEX
 |_=> .undef
def ofValue:Value->XV
 | .agg cs=> .agg (cs.toList.map xo)
 |v=> .c (xo v)
def St.ev(σ:St):Operand->XV
 | .tmp t=>σ.tm.getD t (.c .undef)
 | .const v=>ofValue v
 | .global _=> .c .undef
 | .func f=> .c (.fn f [])
def St.put(σ:St)(dst:Option Tmp)(x:XV):St:=
 match dst with
 |some d=>{ σ with tm:=σ.tm.set d x }
 |none=>σ
def XV.cells:XV->List AV
 | .c x=>[x]
 | .agg l=>l
 | .NM _=>[]
def S5{β:Ty->Type}(a b:Ty)(x:β a):Option (β b):=if h:a=b then some (h▸x)else none
def O3(bx:List Bx):AV->Option ((r:Ty)×List r.D)
 | .sl _ r x=>some ⟨r,x⟩
 | .ref b p=>
  match bx[b]? with
  |some (.sl _ r rows)=>Hp r rows p
  |_=>none
 | .win b p off n=>
  match bx[b]? with
  |some (.sl _ r rows)=>(Hp r rows p).map fun q=>⟨q.1,(q.2.drop off).take n⟩
  |_=>none
 |_=>none
def OT(bx:List Bx)(t:Ty)(x:AV):Option t.D:=
 match x with
 | .v u y=>S5 (β:=Ty.D) u t y
 | .nil=>match t with
  | .sl _=>some []
  |_=>none
 |x=>match t with
  | .sl r=>(O3 bx x).bind fun q=>S5 (β:=fun r=>List r.D) q.1 r q.2
  |_=>none
def I_(bx:List Bx):(r:Ty)->List AV->Option r.D
 | .unit,[]=>some ()
 | .cons c r,x::l=>(OT bx c x).bind fun a=>(I_ bx r l).map fun b=>(a,b)
 |_,_=>none
def lenOf(bx:List Bx):AV->Option Nat
 | .nil=>some 0
 | .sl _ _ x=>some x.length
 | .ref b p=>
  match bx[b]? with
  |some (.sl _ r rows)=>(Hp r rows p).map fun q=>q.2.length
  |_=>none
 | .win b _ _ n=>
  match bx[b]? with
  |some (.sl _ _ _)=>some n
  |_=>none
 |_=>none
inductive AP where
 |v (t:Ty)
 |sl (s:Bool) (r:Ty)
 |nil
 |ref (i:Nat)
 |ptr (i j:Nat)
 |uT (r:Ty)
 |fn (f:Nat) (Lc:ABu)
 |yP (f:Nat) (rs:List Ty)
 |any
 |sH (i sz:Nat)
inductive XP where
 |c (p:AP)
 |agg (l:List AP)
 |row (r:Ty)
 |NM (l:List (AP ⊕ List AP))
inductive BP where
 |mem (l:List AP)
 |sl (d:Nat) (r:Ty)
 |gone
structure BK where
 EK:List (Nat×XP)
 Hg:List BP
@[reducible] def eZ:List Ty->Type
 |[]=>Unit
 |r::l=>r.D×eZ l
def eZ.mk:(l:List Ty)->eZ l->List ((r:Ty)×r.D)
 |[],_=>[]
 |r::l,x=>⟨r,x.1⟩::eZ.mk l x.2
@[reducible] def AP.V:AP->Type
 | .yP _ rs=>eZ rs
 | .v t=>t.D
 | .sl _ r=>List r.D
 | .uT r=>r.D
 | .sH _ _=>Nat×Nat
 |_=>Unit
@[reducible] def cy.V:List AP->Type
 |[]=>Unit
 |p::l=>p.V×cy.V l
@[reducible] def dU.V:List (AP ⊕ List AP)->Type
 |[]=>Unit
 | .inl p::l=>p.V×dU.V l
 | .inr q::l=>cy.V q×dU.V l
@[reducible] def XP.V:XP->Type
 | .c p=>p.V
 | .agg l=>cy.V l
 | .row r=>r.D
 | .NM l=>dU.V l
@[reducible] def BP.V:BP->Type
 | .mem l=>cy.V l
 | .sl _ r=>List r.D
 | .gone=>Unit
@[reducible] def G5.V:List (Nat×XP)->Type
 |[]=>Unit
 |(_,p)::l=>p.V×G5.V l
@[reducible] def KJ.V:List BP->Type
 |[]=>Unit
 |p::l=>p.V×KJ.V l
@[reducible] def BK.V (s:BK):Type:=G5.V s.EK×KJ.V s.Hg
def AP.mk(m:Nat->Nat):(p:AP)->p.V->AV
 | .v t,x=> .v t x
 | .sl s r,x=> .sl s r x
 | .nil,_=> .nil
 | .ref i,_=> .ref (m i) []
 | .ptr i j,_=> .JR (m i) j
 | .uT r,x=> .RR false r x 0
 | .fn f Lc,_=> .fn f (Lc.map m)
 | .yP f rs,x=> .yP f (eZ.mk rs x)
 | .any,_=> .undef
 | .sH i sz,k=> .ref (m i) [⟨k.1,sz,k.2⟩]
def cy.mk(m:Nat->Nat):(l:List AP)->cy.V l->List AV
 |[],_=>[]
 |p::l,x=>p.mk m x.1::cy.mk m l x.2
def vl:(r:Ty)->r.D->List AV
 | .unit,_=>[]
 | .cons c r,x=>(match c,x.1 with
  | .sl q,y=>AV.sl false q y
  |c,y=> .v c y)::vl r x.2
 | .sl q,x=>[.sl false q x]
 | .int k,x=>[.v (.int k) x]
 | .bool,x=>[.v .bool x]
 | .str,x=>[.v .str x]
def dU.mk(m:Nat->Nat):(l:List (AP ⊕ List AP))->dU.V l->List (AV ⊕ List AV)
 |[],_=>[]
 | .inl p::l,x=> .inl (p.mk m x.1)::dU.mk m l x.2
 | .inr q::l,x=> .inr (cy.mk m q x.1)::dU.mk m l x.2
def XP.mk(m:Nat->Nat):(p:XP)->p.V->XV
 | .c p,x=> .c (p.mk m x)
 | .agg l,x=> .agg (cy.mk m l x)
 | .row r,x=> .agg (vl r x)
 | .NM l,x=> .NM (dU.mk m l x)
def BP.mk(m:Nat->Nat):(p:BP)->p.V->Bx
 | .mem l,x=> .mem (cy.mk m l x)
 | .sl d r,x=> .sl d r x
 | .gone,_=> .dead
def G5.mk(m:Nat->Nat):(l:List (Nat×XP))->G5.V l->List XV->List XV
 |[],_,tm=>tm
 |(i,p)::l,x,tm=>G5.mk m l x.2 (tm.set i (p.mk m x.1))
def KJ.mk(m:Nat->Nat):(l:List BP)->KJ.V l->List Bx
 |[],_=>[]
 |p::l,x=>p.mk m x.1::KJ.mk m l x.2
def BK.st(s:BK)(n:Nat)(x:s.V):St:=
 { tm:=G5.mk id s.EK x.1 (List.replicate n (.c .undef)),bx:=KJ.mk id s.Hg x.2 }
abbrev Rn:=List (Option Nat)
def Rn.put(m:Rn)(i b:Nat):Option Rn:=
 match m[i]? with
 |some none=>if m.contains (some b)then none else some (m.set i (some b))
 |some (some b')=>if b' =b then some m else none
 |none=>none
def gr:Rn->List Nat->List Nat->Option Rn
 |m,[],[]=>some m
 |m,i::is,b::bs=>(m.put i b).bind fun m=>gr m is bs
 |_,_,_=>none
def AP.Pz(N:Nat)(m:Rn):AP->AV->Option Rn
 | .ref i,.ref b []=>m.put i b
 | .ref i,.nil=>m.put i (N+i)
 | .ref _,_=>none
 | .sH i sz,.ref b [s]=>if s.sz=sz then m.put i b else none
 | .sH _ _,_=>none
 | .ptr i j,.JR b j' =>if j=j' then m.put i b else none
 | .ptr _ _,_=>none
 | .fn f Lc,.fn g bs=>if f=g then gr m Lc bs else none
 | .fn _ _,_=>none
 | .nil,.nil=>some m
 | .nil,_=>none
 |_,_=>some m
def cy.Pz(N:Nat):Rn->List AP->List AV->Option Rn
 |m,[],[]=>some m
 |m,p::l,x::xs=>(p.Pz N m x).bind fun m=>cy.Pz N m l xs
 |_,_,_=>none
def dU.Pz(N:Nat):Rn->List (AP ⊕ List AP)->List (AV ⊕ List AV)->Option Rn
 |m,[],[]=>some m
 |m,.inl p::l,.inl x::xs=>(p.Pz N m x).bind fun m=>dU.Pz N m l xs
 |m,.inr p::l,.inr x::xs=>(cy.Pz N m p x).bind fun m=>dU.Pz N m l xs
 |_,_,_=>none
def XP.Pz(N:Nat)(m:Rn):XP->XV->Option Rn
 | .c p,.c x=>p.Pz N m x
 | .agg l,.agg xs=>cy.Pz N m l xs
 | .row _,.agg _=>some m
 | .NM l,.NM xs=>dU.Pz N m l xs
 |_,_=>none
def G5.Pz(N:Nat)(tm:List XV):Rn->List (Nat×XP)->Option Rn
 |m,[]=>some m
 |m,(i,p)::l=>
  match tm[i]? with
  |some x=>(p.Pz N m x).bind fun m=>G5.Pz N tm m l
  |none=>none
def KJ.Pz(N:Nat)(bx:List Bx):Nat->Rn->List BP->Option Rn
 |_,m,[]=>some m
 |i,m,.mem l::ps=>
  match m[i]? with
  |some (some b)=>
   match bx[b]? with
   |some (.mem cs)=>(cy.Pz N m l cs).bind fun m=>KJ.Pz N bx (i+1) m ps
   |_=>none
  |_=>none
 |i,m,.sl _ _::ps=>
  match m[i]? with
  |some (some _)=>KJ.Pz N bx (i+1) m ps
  |_=>none
 |i,m,.gone::ps=>KJ.Pz N bx (i+1) m ps
def DD(bx:List Bx):Rn->List Bx
 |[]=>bx
 |some b::m=>DD (bx.set b .dead) m
 |none::m=>DD bx m
def eZ.vz:(l:List Ty)->List ((r:Ty)×r.D)->Option (eZ l)
 |[],[]=>some ()
 |r::l,q::qs=>(S5 (β:=Ty.D) q.1 r q.2).bind fun a=>(eZ.vz l qs).map fun b=>(a,b)
 |_,_=>none
def eZ.xA(bx:List Bx):(l:List Ty)->List Nat->Option (eZ l)
 |[],[]=>some ()
 |r::l,b::bs=>(match bx[b]? with
  |some (.mem cs)=>I_ bx r cs
  |_=>none).bind fun a=>(eZ.xA bx l bs).map fun c=>(a,c)
 |_,_=>none
def AP.get(bx:List Bx):(p:AP)->AV->Option p.V
 | .yP f rs,x=>match x with
  | .yP g rows=>if f=g then eZ.vz rs rows else none
  | .fn g bs=>if f=g then eZ.xA bx rs bs else none
  |_=>none
 | .v t,x=>if t.scalar then OT bx t x else none
 | .sl false r,x=>OT bx (.sl r) x
 | .sl true r,x=>match x with
  | .sl true q y=>S5 (β:=fun r=>List r.D) q r y
  | .nil=>some []
  |_=>none
 | .uT r,x=>match x with
  | .RR _ q y 0=>S5 (β:=Ty.D) q r y
  | .JR b 0=>match bx[b]? with
   |some (.mem cs)=>I_ bx r cs
   |_=>none
  | .Kc b p i sz 0=>match bx[b]? with
   |some (.sl _ q rows)=>(Hp q rows p).bind fun s=>if sz=s.1.n then S5 (β:=Ty.D) s.1 r (rowAt s.1 s.2 i)else none
   |_=>none
  |_=>none
 | .nil,_=>some ()
 | .ref _,_=>some ()
 | .ptr _ _,_=>some ()
 | .fn _ _,_=>some ()
 | .any,_=>some ()
 | .sH _ _,x=>match x with
  | .ref _ [s]=>some (s.i,s.j)
  |_=>none
def cy.get(bx:List Bx):(l:List AP)->List AV->Option (cy.V l)
 |[],[]=>some ()
 |p::l,x::xs=>(p.get bx x).bind fun a=>(cy.get bx l xs).map fun b=>(a,b)
 |_,_=>none
def dU.get(bx:List Bx):(l:List (AP ⊕ List AP))->List (AV ⊕ List AV)->Option (dU.V l)
 |[],[]=>some ()
 | .inl p::l,.inl x::xs=>(p.get bx x).bind fun a=>(dU.get bx l xs).map fun b=>(a,b)
 | .inr p::l,.inr x::xs=>(cy.get bx p x).bind fun a=>(dU.get bx l xs).map fun b=>(a,b)
 |_,_=>none
def XP.get(bx:List Bx):(p:XP)->XV->Option p.V
 | .c p,.c x=>p.get bx x
 | .agg l,.agg xs=>cy.get bx l xs
 | .row r,.agg xs=>I_ bx r xs
 | .NM l,.NM xs=>dU.get bx l xs
 |_,_=>none
def G5.get(bx:List Bx)(tm:List XV):(l:List (Nat×XP))->Option (G5.V l)
 |[]=>some ()
 |(i,p)::l=>
  match tm[i]? with
  |some x=>(p.get bx x).bind fun a=>(G5.get bx tm l).map fun b=>(a,b)
  |none=>none
def KJ.get(bx bk:List Bx):(m:Rn)->(l:List BP)->Option (KJ.V l)
 |_,[]=>some ()
 |some b::m,.mem l::ps=>
  match bx[b]? with
  |some (.mem cs)=>(cy.get bk l cs).bind fun a=>(KJ.get bx bk m ps).map fun c=>(a,c)
  |_=>none
 |some b::m,.sl d r::ps=>
  match bx[b]? with
  |some (.sl d' q rows)=>if 1<=d/\d<=d' then(S5 (β:=fun r=>List r.D) q r rows).bind fun a=>(KJ.get bx bk m ps).map fun c=>(a,c)else none
  |_=>none
 |_::m,.gone::ps=>(KJ.get bx bk m ps).map fun c=>((),c)
 |_,_=>none
def BK.fit(s:BK)(N:Nat)(m0:Rn)(tm:List XV)(bx:List Bx):Option (s.V×Rn):=
 (G5.Pz N tm m0 s.EK).bind fun m=>(KJ.Pz N bx 0 m s.Hg).bind fun m=>
  let bk:=DD bx m
  (G5.get bk tm s.EK).bind fun a=>(KJ.get bx bk m s.Hg).map fun c=>((a,c),m)
def BP.opened:BP->Bx
 | .sl d r=> .sl (d+1) r []
 |_=> .dead
def BK.opens(s:BK)(bx:List Bx):List Bx:=bx++s.Hg.map BP.opened
def BK.m0(s:BK):Rn:=List.replicate s.Hg.length none
structure Rt where
 ins:BK
 outs:BK
 g:ins.V->Option outs.V
def eT(m:Rn)(n:Nat)(i:Nat):Nat:=
 match m[i]? with
 |some (some b)=>b
 |_=>n+(i-m.length)
def ft(Kb:Nat->Nat):Nat->(l:List BP)->KJ.V l->List Bx->List Bx
 |_,[],_,bx=>bx
 |i,p::l,x,bx=>ft Kb (i+1) l x.2 (if Kb i<bx.length then bx.set (Kb i) (p.mk Kb x.1)else bx++[p.mk Kb x.1])
def lV:(l:List (Nat×XP))->G5.V l->(Nat->Nat)->XV
 |(_,p)::_,x,Kb=>p.mk Kb x.1
 |[],_,_=> .c .undef
def C7:Nat:=2^36
section ops
variable{Y:Type}
abbrev K(Y:Type):=XV->St->Option Y
def St.new(σ:St)(b:Bx):St:={ σ with bx:=σ.bx++[b] }
def AJX(x:Bool)(a b:XV)(σ:St)(k:K Y):Option Y:=cond x (k a σ) (k b σ)
def mV(op:BinOp)(κ:IntKind)(a b:Int)(k:AV->Option Y):Option Y:=
 match op with
 | .add=>k (.v (.int κ) (κ.wrap (a+b)))
 | .sub=>k (.v (.int κ) (κ.wrap (a-b)))
 | .mul=>k (.v (.int κ) (κ.wrap (a*b)))
 | .quo=>if b=0 then none else k (.v (.int κ) (κ.wrap (a.tdiv b)))
 | .rem=>if b=0 then none else k (.v (.int κ) (a.tmod b))
 | .and=>k (.v (.int κ) (κ.wrap (BitVec.ofInt κ.bits a &&& BitVec.ofInt κ.bits b).toNat))
 | .or=>k (.v (.int κ) (κ.wrap (BitVec.ofInt κ.bits a ||| BitVec.ofInt κ.bits b).toNat))
 | .xor=>k (.v (.int κ) (κ.wrap (BitVec.ofInt κ.bits a ^^^ BitVec.ofInt κ.bits b).toNat))
 | .andNot=>k (.v (.int κ) (κ.wrap (BitVec.ofInt κ.bits a &&& ~~~BitVec.ofInt κ.bits b).toNat))
 | .eql=>k (.v .bool (a==b))
 | .neq=>k (.v .bool (a !=b))
 | .lss=>k (.v .bool (decide (a<b)))
 | .leq=>k (.v .bool (decide (a<=b)))
 | .gtr=>k (.v .bool (decide (a>b)))
 | .geq=>k (.v .bool (decide (a>=b)))
 |_=>none
def da(op:BinOp)(κ:IntKind)(a b:Int)(k:AV->Option Y):Option Y:=
 if b<0 then none else
 match op with
 | .shl=>k (.v (.int κ) (κ.wrap (a*2^min b.toNat κ.bits)))
 | .shr=>k (.v (.int κ) (a.fdiv (2^min b.toNat κ.bits)))
 |_=>none
def oS(op:BinOp)(a b:ABG)(k:AV->Option Y):Option Y:=
 match op with
 | .add=>if a.length+b.length<=C7 then k (.v .str (a++b))else none
 | .eql=>k (.v .bool (a==b))
 | .neq=>k (.v .bool (!(a==b)))
 | .lss=>k (.v .bool (Op.bytesLess a b))
 | .leq=>k (.v .bool (Op.bytesLess a b||a==b))
 | .gtr=>k (.v .bool (!(Op.bytesLess a b||a==b)))
 | .geq=>k (.v .bool (!Op.bytesLess a b))
 |_=>none
def yK:TD->AV->AV->Option Bool
 | .int _,.v (.int j) a,.v (.int k) b=>if j=k then some (a==b)else none
 | .bool,.v .bool a,.v .bool b=>some (a==b)
 | .str,.v .str a,.v .str b=>some (a==b)
 |_,_,_=>none
def MH(T:Ky):Nat->List AD3->List AV->List AV->Option Bool
 |_,[],[],[]=>some true
 |i,(o,t)::fs,x::l,z::m=>
  if o=i then
   match T.get t with
   |some ti=>match yK ti.desc x z with
    |some p=>(MH T (i+1) fs l m).map fun r=>p&&r
    |none=>none
   |none=>none
  else none
 |_,_,_,_=>none
def Ky.fields(T:Ky)(t:Nat):Option (List AD3):=
 match(T.get t).map TI.desc with
 |some (.st fs)=>some fs
 |_=>none
def AC8(T:Ky)(t:Nat)(op:BinOp)(a b:XV)(k:AV->Option Y):Option Y:=
 match a,b with
 | .c (.v (.int j) x),.c (.v (.int j') y)=>
  match op with
  | .shl| .shr=>da op j x y k
  |_=>if j=j' then mV op j x y k else none
 | .c (.v .str x),.c (.v .str y)=>oS op x y k
 | .c (.v .bool x),.c (.v .bool y)=>
  match T.get t with
  |some ti=>match ti.desc with
   | .bool=>match op with
    | .eql=>k (.v .bool (x==y))
    | .neq=>k (.v .bool (!(x==y)))
    |_=>none
   |_=>none
  |none=>none
 | .agg l,.agg m=>
  match op,(T.fields t).bind fun fs=>MH T 0 fs l m with
  | .eql,some r=>k (.v .bool r)
  | .neq,some r=>k (.v .bool (!r))
  |_,_=>none
 |_,_=>none
def unX(op:UnOp)(a:XV)(k:AV->Option Y):Option Y:=
 match op,a with
 | .not,.c (.v .bool x)=>k (.v .bool (!x))
 | .neg,.c (.v (.int j) x)=>k (.v (.int j) (j.wrap (0-x)))
 |_,_=>none
def AF3(d b:Nat)(p:List tH)(s:tH):((t:Ty)×t.D)->AV
 |⟨.sl r,x⟩=>if d<=1 then .sl true r x else .ref b (p++[s])
 |⟨t,x⟩=>if t.scalar then .v t x else .undef
def AFx(s:Bool):((t:Ty)×t.D)->AV
 |⟨.sl r,x⟩=> .sl s r x
 |⟨t,x⟩=>if t.scalar then .v t x else .undef
def j5(f:Nat->Option AV):Nat->Nat->Option (List AV)
 |_,0=>some []
 |j,n+1=>(f j).bind fun x=>(j5 f (j+1) n).map fun l=>x::l
def Ke(bx:List Bx):AV->Nat->Option AV
 | .JR b j,i=>
  match bx[b]? with
  |some (.mem cs)=>cs[j+i]?
  |_=>none
 | .Kc b p r sz j,i=>
  match bx[b]? with
  |some (.sl d q rows)=>if p.length<d then(Hp q rows p).bind fun s=>if sz=s.1.n then(Ba s.1 (j+i) (rowAt s.1 s.2 r)).map (AF3 (d-p.length) b p ⟨r,sz,j+i⟩)else none else none
  |_=>none
 | .RR s r x j,i=>(Ba r (j+i) x).map (AFx s)
 |_,_=>none
def tW(T:Ky)(t:Nat)(σ:St)(a:XV):Option XV:=
 match a,T.get t with
 | .c a,some ti=>if ti.size=0 then none else if ti.desc.agg then(j5 (Ke σ.bx a) 0 ti.size).map .agg else(Ke σ.bx a 0).map .c
 |_,_=>none
def lE(d:Nat)(t:Ty)(x:AV)(bx:List Bx):Option (t.D×List Bx×Nat):=
 match x with
 | .v u y=>(S5 (β:=Ty.D) u t y).map fun y=>(y,bx,d)
 | .nil=>match t with
  | .sl _=>some ([],bx,d)
  |_=>none
 | .sl true r y=>match t with
  | .sl q=>(S5 (β:=fun r=>List r.D) r q y).map fun y=>(y,bx,1)
  |_=>none
 | .ref b []=>match t with
  | .sl q=>
   match bx[b]? with
   |some (.sl d' r y)=>(S5 (β:=fun r=>List r.D) r q y).map fun y=>(y,bx.set b .dead,min d (d'+1))
   |_=>none
  |_=>none
 | .win b [] off n=>match t with
  | .sl q=>
   match bx[b]? with
   |some (.sl d' r y)=>(S5 (β:=fun r=>List r.D) r q ((y.drop off).take n)).map fun y=>(y,bx.set b .dead,min d (d'+1))
   |_=>none
  |_=>none
 |_=>none
def cellsIn(d:Nat):(r:Ty)->List AV->List Bx->Option (r.D×List Bx×Nat)
 | .unit,[],bx=>some ((),bx,d)
 | .cons c r,x::l,bx=>(lE d c x bx).bind fun a=>(cellsIn a.2.2 r l a.2.1).map fun b=>((a.1,b.1),b.2)
 |_,_,_=>none
def AKu(d:Nat)(r:Ty)(x:XV)(bx:List Bx):Option (r.D×List Bx×Nat):=
 match x with
 | .agg l=>cellsIn d r l bx
 | .c x=>lE d r x bx
 |_=>none
def Ku(b:Nat):AV->AV
 | .ref b' (s::p)=>if b' =b then .undef else .ref b' (s::p)
 | .win b' (s::p) i n=>if b' =b then .undef else .win b' (s::p) i n
 | .Kc b' (s::p) i sz j=>if b' =b then .undef else .Kc b' (s::p) i sz j
 |x=>x
def ABR(b:Nat):XV->XV
 | .c x=> .c (Ku b x)
 | .agg l=> .agg (l.map (Ku b))
 | .NM l=> .NM (l.map fun| .inl x=> .inl (Ku b x)| .inr q=> .inr (q.map (Ku b)))
def AGE(b:Nat):Bx->Bx
 | .mem cs=> .mem (cs.map (Ku b))
 |x=>x
def St.AHF(b:Nat)(σ:St):St:={ tm:=σ.tm.map (ABR b),bx:=σ.bx.map (AGE b) }
def cf(cs:List AV):Nat->List AV->Option (List AV)
 |_,[]=>some cs
 |j,x::l=>if j<cs.length then cf (cs.set j x) (j+1) l else none
def vp(d:Nat)(r:Ty)(old:r.D)(j:Nat)(x:XV)(bx:List Bx):Option (r.D×List Bx×Nat):=
 match x with
 | .agg l=>if j=0 then cellsIn d r l bx else none
 | .c x=>
  match Ba r j old with
  |some ⟨t,_⟩=>(lE d t x bx).bind fun a=>(EN r j old t a.1).map fun row=>(row,a.2)
  |none=>none
 |_=>none
def XV.plain:XV->Bool
 | .c (.v _ _)=>true
 |_=>false
def ni(σ:St)(a:XV)(x:XV):Option St:=
 match a with
 | .c (.JR b j)=>
  match σ.bx[b]? with
  |some (.mem cs)=>(cf cs j x.cells).map fun cs=>{ σ with bx:=σ.bx.set b (.mem cs) }
  |_=>none
 | .c (.Kc b p i sz j)=>
  match σ.bx[b]? with
  |some (.sl d r rows)=>if p.length<d then
   (Hp r rows p).bind fun s=>if sz=s.1.n then(vp (d-p.length) s.1 (rowAt s.1 s.2 i) j x (σ.bx.set b .dead)).bind fun w=>
    (xD r rows p s.1 (s.2.set i w.1)).map fun rows=>
     let σ':St:={ σ with bx:=w.2.1.set b (.sl (w.2.2+p.length) r rows) }
     if x.plain then σ' else σ'.AHF b
    else none
   else none
  |_=>none
 |_=>none
def gL(σ:St)(a x:XV):Option (St×XV):=
 match a,x with
 | .c (.Kc b _ _ _ _),.c (.win b' (s::p') off n)=>
  if b' =b then
   match σ.bx[b]? with
   |some (.sl d r rows)=>(Hp r rows (s::p')).map fun q=>({ σ with bx:=σ.bx.set b (.sl (min d (p'.length+1)) r rows) },.c (.sl true q.1 ((q.2.drop off).take n)))
   |_=>none
  else none
 |_,_=>some (σ,x)
def Mz(σ:St)(a x:XV):Option St:=(gL σ a x).bind fun q=>ni q.1 a q.2
def vM(bx:List Bx)(x:AV):Option ((r:Ty)×(List r.D×List Bx×Nat)):=
 match x with
 | .v .str s=>some ⟨.int .u8,s.map (fun c=>(c.toNat:Int)),bx,9⟩
 | .sl s r rows=>if r.flat then some ⟨r,rows,bx,9⟩else if s then some ⟨r,rows,bx,1⟩else none
 | .ref b []=>
  match bx[b]? with
  |some (.sl d r rows)=>if r.flat then some ⟨r,rows,bx,9⟩else some ⟨r,rows,bx.set b .dead,d⟩
  |_=>none
 | .ref b p=>
  match bx[b]? with
  |some (.sl _ r rows)=>(Hp r rows p).bind fun q=>if q.1.flat then some ⟨q.1,q.2,bx,9⟩else none
  |_=>none
 | .win b p off n=>
  match bx[b]? with
  |some (.sl _ r rows)=>(Hp r rows p).bind fun q=>if q.1.flat then some ⟨q.1,(q.2.drop off).take n,bx,9⟩else none
  |_=>none
 |_=>none
def vQ(bx:List Bx)(x:AV):Option ((r:Ty)×(List r.D×List Bx×Nat)):=
 match x with
 | .ref b []=>
  match bx[b]? with
  |some (.sl d r rows)=>some ⟨r,rows,bx.set b .dead,d⟩
  |_=>none
 | .win b [] off n=>
  match bx[b]? with
  |some (.sl d r rows)=>some ⟨r,(rows.drop off).take n,bx.set b .dead,d⟩
  |_=>none
 |_=>none
def Ky.elem(T:Ky)(t:Nat):Option TI:=
 match(T.get t).map TI.desc with
 |some (.sl e)=>T.get e
 |_=>none
def Ky.PL(T:Ky)(t:Nat)(r:Ty):Bool:=
 match T.elem t with
 |some ti=>decide (ti.size=r.n)&&decide (ti.bytes<=512)&&decide (ti.row=some r)
 |none=>false
def Ky.isStr(T:Ky)(t:Nat):Bool:=
 match(T.get t).map TI.desc with
 |some .str=>true
 |_=>false
def Ky.AM3(T:Ky)(t:Nat):Bool:=
 match(T.get t).map TI.desc with
 |some (.sl _)=>true
 |_=>false
def lg(T:Ky)(ts:Array TypeId)(σ:St)(a x:XV)(k:K Y):Option Y:=
 match ts[0]?,ts[1]? with
 |some t,some u=>
  if T.AM3 u||T.isStr u then
   match a,x with
   | .c .nil,.c y=>
    (vM σ.bx y).bind fun s=>if T.PL t s.1 then
     if s.2.1.length<=C7 then k (.c (.ref s.2.2.1.length [])) { σ with bx:=s.2.2.1++[.sl s.2.2.2 s.1 s.2.1] }else none
     else none
   | .c a,.c y=>
    (vQ σ.bx a).bind fun d=>if T.PL t d.1 then(vM d.2.2.1 y).bind fun s=>
     (S5 (β:=fun r=>List r.D) s.1 d.1 s.2.1).bind fun rows=>
      if d.2.1.length+rows.length<=C7 then
       k (.c (.ref s.2.2.1.length [])) { σ with bx:=s.2.2.1++[.sl (min d.2.2.2 s.2.2.2) d.1 (d.2.1++rows)] }
      else none
     else none
   |_,_=>none
  else none
 |_,_=>none
def qX(T:Ky)(ts:Array TypeId)(σ:St)(x:XV)(k:K Y):Option Y:=
 match ts[0]?,x with
 |some t,.c (.win b [] off n)=>
  match σ.bx[b]? with
  |some (.sl d r rows)=>if T.PL t r&&(r.flat&&decide (0<r.n))then k (.c .undef) { σ with bx:=σ.bx.set b (.sl d r ((rows.take off++List.replicate n r.z)++rows.drop (off+n))) }else none
  |_=>none
 |_,_=>none
def kc:XV->Option Int
 | .c (.v (.int _) n)=>some n
 |_=>none
def Qn(len:Nat)(lo hi:Option XV)(k:Nat->Nat->Option Y):Option Y:=
 let h:Option Int:=match hi with
  |none=>some (len:Int)
  |some x=>kc x
 let l:Option Int:=match lo with
  |none=>some 0
  |some x=>kc x
 match l,h with
 |some l,some h=>if 0<=l/\l<=h/\h<=(len:Int)then k l.toNat h.toNat else none
 |_,_=>none
def sJ(T:Ky)(t:Nat)(σ:St)(x:XV)(lo hi:Option XV)(k:K Y):Option Y:=
 match x with
 | .c (.v .str s)=>if T.isStr t then Qn s.length lo hi fun l h=>k (.c (.v .str ((s.drop l).take (h-l)))) σ else none
 | .c (.sl s r rows)=>if T.PL t r then Qn rows.length lo hi fun l h=>k (.c (.sl s r ((rows.drop l).take (h-l)))) σ else none
 | .c (.ref b p)=>
  match O3 σ.bx (.ref b p)with
  |some q=>if T.PL t q.1 then Qn q.2.length lo hi fun l h=>k (.c (.win b p l (h-l))) σ else none
  |none=>none
 |_=>none
def q7(σ:St)(T:Ky)(t:Nat)(x i:XV)(k:K Y):Option Y:=
 match x,kc i with
 | .c (.sl s r rows),some i=>if T.PL t r then(if 0<=i/\i<(rows.length:Int)then k (.c (.RR s r (rowAt r rows i.toNat) 0)) σ else none)else none
 | .c (.ref b p),some i=>
  match O3 σ.bx (.ref b p)with
  |some q=>if T.PL t q.1 then(if 0<=i/\i<(q.2.length:Int)then k (.c (.Kc b p i.toNat q.1.n 0)) σ else none)else none
  |none=>none
 | .c (.win b p off n),some i=>
  match O3 σ.bx (.ref b p)with
  |some q=>if T.PL t q.1 then(if 0<=i/\i<(n:Int)then k (.c (.Kc b p (off+i.toNat) q.1.n 0)) σ else none)else none
  |none=>none
 |_,_=>none
def AAc(T:Ky)(t:Nat)(x:XV)(f:Nat):Option XV:=
 match T.get t with
 |some ⟨_,_,.st fs,_⟩=>
  match fs[f]? with
  |some (o,_)=>match x with
   | .c (.JR b j)=>some (.c (.JR b (j+o)))
   | .c (.Kc b p i sz j)=>some (.c (.Kc b p i sz (j+o)))
   | .c (.RR s r y j)=>some (.c (.RR s r y (j+o)))
   |_=>none
  |none=>none
 |_=>none
def AJJ(T:Ky)(t:Nat)(x:XV)(f:Nat):Option XV:=
 match T.get t,x with
 |some ⟨_,_,.st fs,_⟩,.agg l=>
  match fs[f]? with
  |some (o,u)=>
   match T.get u with
   |some ti=>if ti.desc.agg then some (.agg ((l.drop o).take ti.size))else(l[o]?).map .c
   |none=>none
  |none=>none
 |_,_=>none
def AAV(T:Ky)(src dst:Nat)(σ:St)(x:XV)(k:K Y):Option Y:=
 match(T.get src).map TI.desc,(T.get dst).map TI.desc,x with
 |some (.int _),some (.int κ),.c (.v (.int _) n)=>k (.c (.v (.int κ) (κ.wrap n))) σ
 |some .str,some .str,.c (.v .str s)=>k (.c (.v .str s)) σ
 |some .str,some (.sl e),.c (.v .str s)=>
  match(T.get e).map TI.desc with
  |some (.int .u8)=>if s.length<=C7 then k (.c (.ref σ.bx.length [])) (σ.new (.sl 9 (.int .u8) (s.map fun c=>(c.toNat:Int))))else none
  |_=>none
 |some (.sl e),some .str,.c x=>
  match(T.get e).map TI.desc,OT σ.bx (.sl (.int .u8)) x with
  |some (.int .u8),some l=>k (.c (.v .str (l.map fun n:Int=>UInt8.ofNat n.toNat))) σ
  |_,_=>none
 |_,_,_=>none
def zt(T:Ky)(t:Nat)(σ:St)(l c:XV)(k:K Y):Option Y:=
 match(T.get t).map TI.desc,kc l,kc c with
 |some (.sl e),some n,some m=>
  match Ky.o7 T e with
  |some r=>if T.PL t r then(if 0<=n/\n<=m/\m<=(C7:Int)then k (.c (.ref σ.bx.length [])) (σ.new (.sl 9 r (List.replicate n.toNat r.z)))else none)else none
  |none=>none
 |_,_,_=>none
def nE(T:Ky)(fs:List AD3):List AV->List (Nat×XV)->Option (List AV)
 |cs,[]=>some cs
 |cs,(i,x)::l=>
  match fs[i]? with
  |some (o,u)=>
   match T.get u with
   |some ti=>if x.cells.length=ti.size/\ti.size≠0/\x.cells.all AV.known=true then(cf cs o x.cells).bind fun cs=>nE T fs cs l else none
   |none=>none
  |none=>none
def dM(r:Ty):Nat->Nat->List (Nat×XV)->List Bx->Nat->Option (List r.D×List Bx×Nat)
 |_,0,[],bx,d=>some ([],bx,d)
 |i,n+1,(j,x)::l,bx,d=>
  if i=j then(AKu d r x bx).bind fun a=>(dM r (i+1) n l a.2.1 a.2.2).map fun b=>(a.1::b.1,b.2)else none
 |i,n+1,[],bx,d=>(dM r (i+1) n [] bx d).map fun b=>(r.z::b.1,b.2)
 |_,0,_::_,_,_=>none
def T3(T:Ky)(t n:Nat)(parts:List (Nat×XV))(σ:St)(k:K Y):Option Y:=
 match(T.get t).map TI.desc with
 |some (.sl e)=>
  match Ky.o7 T e with
  |some r=>if T.PL t r&&decide (n<=1024)&&decide (r.n<=1024)then(dM r 0 n parts σ.bx 9).bind fun a=>k (.c (.ref a.2.1.length [])) { σ with bx:=a.2.1++[.sl a.2.2 r a.1] }else none
  |none=>none
 |_=>none
def bC(T:Ky)(t:Nat)(σ:St)(x i:XV)(k:K Y):Option Y:=
 match x,kc i with
 | .c (.v .str s),some i=>if T.isStr t then if 0<=i/\i<(s.length:Int)then k (.c (.v (.int .u8) ((s.getD i.toNat 0).toNat:Int))) σ else none else none
 |_,_=>none
def wm(x:XV)(i:Nat):Option XV:=
 match x with
 | .NM l=>match l[i]? with
  |some (.inl a)=>some (.c a)
  |some (.inr q)=>some (.agg q)
  |none=>none
 |_=>none
def HY(m:Rn):AV->AV
 | .ref b (s::p)=>if m.contains (some b)then .undef else .ref b (s::p)
 | .win b (s::p) i n=>if m.contains (some b)then .undef else .win b (s::p) i n
 | .Kc b (s::p) i sz j=>if m.contains (some b)then .undef else .Kc b (s::p) i sz j
 |x=>x
def X1(m:Rn):XV->XV
 | .c x=> .c (HY m x)
 | .agg l=> .agg (l.map (HY m))
 | .NM l=> .NM (l.map fun| .inl x=> .inl (HY m x)| .inr q=> .inr (q.map (HY m)))
def ALB(m:Rn):Bx->Bx
 | .mem cs=> .mem (cs.map (HY m))
 |x=>x
def St.fV(m:Rn)(σ:St):St:=
 match m with
 |[]=>σ
 |_::_=>{ tm:=σ.tm.map (X1 m),bx:=σ.bx.map (ALB m) }
def sy(c:Rt)(args:List XV)(σ:St)(k:K Y):Option Y:=
 if args.length=c.ins.EK.length then
  match c.ins.fit σ.bx.length c.ins.m0 args (c.ins.opens σ.bx)with
  |some (v,m)=>(c.g v).bind fun u=>
   let Kb:=eT m (c.ins.opens σ.bx).length
   let σ1:=({ σ with bx:=c.ins.opens σ.bx }:St).fV m
   k (lV c.outs.EK u.1 Kb) { σ1 with bx:=ft Kb 0 c.outs.Hg u.2 (DD σ1.bx m) }
  |none=>none
 else none
def iW(σ:St)(x:XV)(k:K Y):Option Y:=
 match x with
 | .c (.win b [] off n)=>
  (vQ σ.bx (.win b [] off n)).bind fun s=>k (.c (.ref s.2.2.1.length [])) { σ with bx:=s.2.2.1++[.sl s.2.2.2 s.1 s.2.1] }
 |x=>k x σ
def AB5(l:List XV):Option ABu:=
 match l with
 |[]=>some []
 | .c (.JR b 0)::l=>(AB5 l).map fun r=>b::r
 |_=>none
def AAt(big:Bool)(a b:XV)(k:AV->Option Y):Option Y:=
 match a,b with
 | .c (.v (.int j) x),.c (.v (.int j') y)=>
  if j=j' then(if big then k (.v (.int j) (if y>x then y else x))else k (.v (.int j) (if y<x then y else x)))else none
 |_,_=>none
def cC(T:Ky)(Γ:Nat->Option Rt)(o:Oper)(σ:St)(k:K Y):Option Y:=
 match o.op with
 | .move x=>k (σ.ev x) σ
 | .assign x=>iW σ (σ.ev x) k
 | .pick c a b=>match σ.ev c with
  | .c (.v .bool x)=>AJX x (σ.ev a) (σ.ev b) σ k
  |_=>none
 | .alloc t=>match Ky.o7 T t with
  |some r=>k (.c (.JR σ.bx.length 0)) (σ.new (.mem (hI r)))
  |none=>none
 | .box t x=>match T.get t with
  |some ti=>if(σ.ev x).cells.length=ti.size/\ti.size≠0/\(σ.ev x).cells.all AV.known=true then k (.c (.JR σ.bx.length 0)) (σ.new (.mem (σ.ev x).cells))else none
  |none=>none
 | .build t parts=>match T.get t,Ky.o7 T t with
  |some ⟨_,_,.st fs,_⟩,some r=>match nE T fs (hI r) (parts.toList.map fun q=>(q.1,σ.ev q.2))with
   |some cs=>k (.agg cs) σ
   |none=>none
  |_,_=>none
 | .buildSlice t n parts=>T3 T t n (parts.toList.map fun q=>(q.1,σ.ev q.2)) σ k
 | .load t a=>match tW T t σ (σ.ev a)with
  |some x=>k x σ
  |none=>none
 | .store t a x=>match T.get t with
  |some ti=>if(σ.ev x).cells.length=ti.size/\ti.size≠0/\(σ.ev x).cells.all AV.known=true then(match Mz σ (σ.ev a) (σ.ev x)with
   |some σ=>k (.c .undef) σ
   |none=>none)else none
  |none=>none
 | .nilCheck x=>match σ.ev x with
  | .c (.JR b j)=>k (.c (.JR b j)) σ
  | .c (.Kc b p i sz j)=>k (.c (.Kc b p i sz j)) σ
  | .c (.RR s r y j)=>k (.c (.RR s r y j)) σ
  | .c (.fn f Lc)=>k (.c (.fn f Lc)) σ
  |_=>none
 | .binOp op t x y _=>AC8 T t op (σ.ev x) (σ.ev y) fun a=>k (.c a) σ
 | .unOp op _ x=>unX op (σ.ev x) fun a=>k (.c a) σ
 | .convert s d x=>AAV T s d σ (σ.ev x) k
 | .makeFunc (.func f) first Lc=>if first.size=0 then(match AB5 (Lc.toList.map σ.ev)with
  |some bs=>k (.c (.fn f bs)) σ
  |none=>none)else none
 | .makeSlice t l c=>zt T t σ (σ.ev l) (σ.ev c) k
 | .slice t x lo hi none=>sJ T t σ (σ.ev x) (lo.map σ.ev) (hi.map σ.ev) k
 | .fieldAddr t x f=>match AAc T t (σ.ev x) f with
  |some y=>k y σ
  |none=>none
 | .field t x f=>match AJJ T t (σ.ev x) f with
  |some y=>k y σ
  |none=>none
 | .indexAddr t x i=>q7 σ T t (σ.ev x) (σ.ev i) k
 | .index t x i=>bC T t σ (σ.ev x) (σ.ev i) k
 | .extract x i=>match wm (σ.ev x) i with
  |some y=>k y σ
  |none=>none
 | .call { callee:= .value f,args,.. }=>match σ.ev f with
  | .c (.fn f Lc)=>match Γ f with
   |some c=>sy c (args.toList.map σ.ev++Lc.map fun b=> .c (.JR b 0)) σ k
   |none=>none
  | .c (.yP f rows)=>match Γ f with
   |some c=>sy c (args.toList.map σ.ev++rows.map fun q=> .c (.RR false q.1 q.2 0)) σ k
   |none=>none
  |_=>none
 | .call { callee:= .builtin .len,args,argTypes }=>match args.toList.map σ.ev,argTypes[0]? with
  |[.c (.v .str s)],some t=>if T.isStr t then k (.c (.v (.int .i64) (s.length:Int))) σ else none
  |[.c x],some t=>if T.AM3 t then(match lenOf σ.bx x with
   |some n=>k (.c (.v (.int .i64) (n:Int))) σ
   |none=>none)else none
  |_,_=>none
 | .call { callee:= .builtin .append,args,argTypes }=>match args.toList.map σ.ev with
  |[a,x]=>lg T argTypes σ a x k
  |_=>none
 | .call { callee:= .builtin .clear,args,argTypes }=>match args.toList.map σ.ev with
  |[x]=>qX T argTypes σ x k
  |_=>none
 | .call { callee:= .builtin .max,args,.. }=>match args.toList.map σ.ev with
  |[a,x]=>AAt true a x fun a=>k (.c a) σ
  |_=>none
 | .call { callee:= .builtin .min,args,.. }=>match args.toList.map σ.ev with
  |[a,x]=>AAt false a x fun a=>k (.c a) σ
  |_=>none
 |_=>none
end ops
end Go.Fw
end
section
namespace Go.Fw
section
variable{Y:Type}
structure fX where
 T:Ky
 Γ:Nat->Option Rt
 hint:Nat->List Nat
def nU(hint:ABu):XV->Bool
 | .c (.JR b _)=>hint.contains b
 | .c (.Kc b _ _ _ _)=>hint.contains b
 | .c (.RR _ _ _ _)=>true
 |_=>false
def oc(hint:ABu)(σ:St):Op->Bool
 | .assign x=>match σ.ev x with
  | .c (.win _ [] _ _)=>false
  |_=>true
 | .move _| .pick .. | .nilCheck _| .binOp .. | .unOp .. | .fieldAddr .. | .field .. | .indexAddr .. | .index .. | .extract .. | .build .. =>true
 | .slice _ _ _ _ none=>true
 | .load _ a=>nU hint (σ.ev a)
 | .call { callee:= .builtin .len,.. }=>true
 | .call { callee:= .builtin .max,.. }=>true
 | .call { callee:= .builtin .min,.. }=>true
 |_=>false
def Ld(Γ:Nat->Option Rt)(σ:St):Op->List Nat
 | .store _ a _=>match σ.ev a with
  | .c (.JR b _)=>[b]
  | .c (.Kc b _ _ _ _)=>[b]
  |_=>[]
 | .call { callee:= .value f,args,.. }=>match σ.ev f with
  | .c (.fn f Lc)=>match Γ f with
   |some c=>match c.ins.fit σ.bx.length c.ins.m0 (args.toList.map σ.ev++Lc.map fun b=> .c (.JR b 0)) (c.ins.opens σ.bx)with
    |some (_,m)=>m.filterMap id
    |none=>[]
   |none=>[]
  | .c (.yP f rows)=>match Γ f with
   |some c=>match c.ins.fit σ.bx.length c.ins.m0 (args.toList.map σ.ev++rows.map fun q=> .c (.RR false q.1 q.2 0)) (c.ins.opens σ.bx)with
    |some (_,m)=>m.filterMap id
    |none=>[]
   |none=>[]
  |_=>[]
 | .call { callee:= .builtin .clear,args,.. }=>match args.toList.map σ.ev with
  |[.c (.win b _ _ _)]=>[b]
  |_=>[]
 |_=>[]
def tt:XV:= .c (.v .bool true)
def ff:XV:= .c (.v .bool false)
def AGA(C:fX)(ops:Array Oper)(o:Oper)(kn:St->Option Y)(σ:St):Option Y:=
 match o.guard with
 |none=>cC C.T C.Γ o σ fun x σ' =>kn (σ'.put o.dst x)
 |some (j,want)=>
  match(ops[j]?).bind (·.dst)with
  |some t=>
   match σ.tm[t]? with
   |some (.c (.v .bool b))=>
    let yes (σ:St):Option Y:=cC C.T C.Γ o σ fun x σ' =>kn (σ'.put o.dst x)
    let no (σ:St):Option Y:=kn (σ.put o.dst (.NM []))
    cond b ((if want then yes else no) (σ.put (some t) tt)) ((if want then no else yes) (σ.put (some t) ff))
   |some (.NM [])=>kn (σ.put o.dst (.NM []))
   |_=>none
  |none=>none
def AA4(C:fX)(all:Array Oper):List Oper->(St->Option Y)->St->Option Y
 |[],kn,σ=>kn σ
 |o::rest,kn,σ=>AGA C all o (fun σ' =>AA4 C all rest kn σ') σ
def AGm(C:fX)(ops:Array Oper)(i:Nat)(kn:St->Option Y)(σ:St):Option Y:=
 match ops[i]? with
 |none=>none
 |some o=>AGA C ops o kn σ
def sL(bx:List Bx)(b:Nat):Bool:=
 match bx[b]? with
 |some .dead=>true
 |some _=>false
 |none=>true
def idle(ops:Array Oper)(σ:St)(o:Oper):Bool:=
 match o.guard with
 |none=>false
 |some (j,want)=>
  match(ops[j]?).bind (·.dst)with
  |some t=>
   match σ.tm[t]? with
   |some (.c (.v .bool b))=>b !=want
   |some (.NM [])=>true
   |_=>false
  |none=>false
def wj(hint:ABu)(ops:Array Oper)(listed:Array Bool)(σ:St)(i:Nat):Bool:=
 match ops[i]? with
 |some o=>(oc hint σ o.op||idle ops σ o)&&Region.free .any ops listed i
 |none=>false
def ABQ(f:Nat->List Bool->Option Y):List Nat->List Bool->Option Y
 |[],_=>none
 |[i],ω=>f i ω
 |i::_::_,[]=>f i []
 |i::_::_,true::ω=>f i ω
 |_::j::r,false::ω=>ABQ f (j::r) ω
def XU(C:fX)(hint:ABu)(ops:Array Oper)(kn:List Bool->St->Option Y):Nat->Array Bool->List Bool->St->Option Y
 |fuel,listed,ω,σ=>
  if hint.all (fun b=> !sL σ.bx b)then
   match Region.ready .any ops listed with
   |[]=>kn ω σ
   |rs=>
    match fuel with
    |0=>none
    |fuel+1=>
     match rs.find? (wj hint ops listed σ)with
     |some i=>AGm C ops i (fun σ' =>XU C hint ops kn fuel (listed.setIfInBounds i true) ω σ') σ
     |none=>ABQ (fun i ω=>
      match ops[i]? with
      |some o=>if(Ld C.Γ σ o.op).all (fun b=> !hint.contains b)then AGm C ops i (fun σ' =>XU C hint ops kn fuel (listed.setIfInBounds i true) ω σ') σ else none
      |none=>none) rs ω
  else none
def first:Code->Nat
 | .region id _ _=>id
 | .seq a _=>first a
 | .cond _ a _=>first a
 | .block _ a=>first a
 | .loop a=>first a
 | .scope a=>first a
 |_=>0
abbrev KN(Y:Type):=List Bool->St->Option Y
def run(C:fX)(J:Nat->St->Option Y):Code->KN Y->(Nat->KN Y)->KN Y->KN Y
 | .skip,kn,_,_,ω,σ=>kn ω σ
 | .region id ops draw,kn,_,_,ω,σ=>
  if draw then(if Region.noSelect ops then XU C (C.hint id) ops kn ops.size (Array.replicate ops.size false) ω σ else none)else AA4 C ops ops.toList (kn ω) σ
 | .seq a b,kn,kx,kr,ω,σ=>run C J a (fun ω σ=>run C J b kn kx kr ω σ) kx kr ω σ
 | .cond (.tmp t) a b,kn,kx,kr,ω,σ=>
  match σ.tm[t]? with
  |some (.c (.v .bool x))=>cond x (run C J a kn kx kr ω (σ.put (some t) tt)) (run C J b kn kx kr ω (σ.put (some t) ff))
  |_=>none
 | .block id body,kn,kx,kr,ω,σ=>run C J body kn (fun j ω σ=>if j=id then kn ω σ else kx j ω σ) kr ω σ
 | .loop body,_,_,_,_,σ=>J (first body) σ
 | .exit id,_,kx,_,ω,σ=>kx id ω σ
 | .ret,_,_,kr,ω,σ=>kr ω σ
 |_,_,_,_,_,_=>none
def find(C:fX)(J:Nat->St->Option Y)(ℓ :Nat):Code->KN Y->(Nat->KN Y)->KN Y->Option (KN Y)
 | .seq a b,kn,kx,kr=>
  match find C J ℓ a (fun ω σ=>run C J b kn kx kr ω σ) kx kr with
  |some f=>some f
  |none=>find C J ℓ b kn kx kr
 | .cond _ a b,kn,kx,kr=>
  match find C J ℓ a kn kx kr with
  |some f=>some f
  |none=>find C J ℓ b kn kx kr
 | .block id body,kn,kx,kr=>find C J ℓ body kn (fun j ω σ=>if j=id then kn ω σ else kx j ω σ) kr
 | .loop body,_,kx,kr=>
  if first body= ℓ then some (fun ω σ=>run C J body (fun _ σ=>J ℓ σ) kx kr ω σ)else find C J ℓ body (fun _ σ=>J (first body) σ) kx kr
 |_,_,_,_=>none
def AKO(T:Ky)(σ:St):ResultVar->Option XV
 | .tmp t=>σ.tm[t]?
 | .cell a t=>match σ.tm[a]? with
  |some x=>tW T t σ x
  |none=>none
def ACv:List XV->Option (List (AV ⊕ List AV))
 |[]=>some []
 | .c x::l=>(ACv l).map fun r=> .inl x::r
 | .agg q::l=>(ACv l).map fun r=> .inr q::r
 |_=>none
def oW(T:Ky)(σ:St)(rs:List ResultVar):Option XV:=
 match rs.mapM (AKO T σ)with
 |some [x]=>some x
 |some l=>(ACv l).map .NM
 |none=>none
def Wj:Nat->Nat->List BP->Rn
 |_,_,[]=>[]
 |i,n,p::l=>(match p with| .gone=>none|_=>if i<n then some i else none)::Wj (i+1) n l
def AV.wQ(b:Nat)(r:Ty)(rows:List r.D):AV->AV
 | .ref k []=>if k=b then .sl true r rows else .ref k []
 |x=>x
def XV.wQ(b:Nat)(r:Ty)(rows:List r.D):XV->XV
 | .c x=> .c (x.wQ b r rows)
 |x=>x
def Bx.wQ(b:Nat)(r:Ty)(rows:List r.D):Bx->Bx
 | .mem cs=> .mem (cs.map (AV.wQ b r rows))
 |x=>x
def St.wQ(b:Nat)(σ:St):St:=
 match σ.bx[b]? with
 |some (.sl _ r rows)=>{ tm:=σ.tm.map (XV.wQ b r rows),bx:=(σ.bx.set b .dead).map (Bx.wQ b r rows) }
 |_=>σ
def H4:List AP->List AV->St->St
 | .sl true _::l,.ref b []::xs,σ=>H4 l xs (σ.wQ b)
 |_::l,_::xs,σ=>H4 l xs σ
 |_,_,σ=>σ
def gk:List (AP ⊕ List AP)->List (AV ⊕ List AV)->St->St
 | .inl p::l,.inl x::xs,σ=>gk l xs (H4 [p] [x] σ)
 | .inr p::l,.inr x::xs,σ=>gk l xs (H4 p x σ)
 |_::l,_::xs,σ=>gk l xs σ
 |_,_,σ=>σ
def AWN:XP->XV->St->St
 | .c p,.c x,σ=>H4 [p] [x] σ
 | .agg l,.agg xs,σ=>H4 l xs σ
 | .NM l,.NM xs,σ=>gk l xs σ
 |_,_,σ=>σ
def qz(l:List (Nat×XP))(x:XV)(σ:St):St:=
 match l with
 |(_,p)::_=>AWN p x σ
 |[]=>σ
def yY(T:Ky)(c:Rt)(rs:List ResultVar)(σ:St):Option c.outs.V:=
 (oW T σ rs).bind fun x=>
  let σ:=qz c.outs.EK x σ
  (oW T σ rs).bind fun x=>(c.outs.fit σ.bx.length (Wj 0 c.ins.Hg.length c.outs.Hg) [x] (c.outs.opens σ.bx)).map fun q=>q.1
def DR(C:fX)(c:Rt)(fn:Func)(J:Nat->St->Option c.outs.V)(ω:List Bool)(v:c.ins.V):Option c.outs.V:=
 match fn.body with
 |some code=>run C J code (fun _=>yY C.T c fn.results.toList) (fun _ _ _=>none) (fun _=>yY C.T c fn.results.toList) ω (c.ins.st fn.ntmps v)
 |none=>none
def JU(C:fX)(c:Rt)(fn:Func)(J:Nat->St->Option c.outs.V)(ℓ :Nat)(ω:List Bool)(σ:St):Option c.outs.V:=
 match fn.body with
 |some code=>
  match find C J ℓ code (fun _=>yY C.T c fn.results.toList) (fun _ _ _=>none) (fun _=>yY C.T c fn.results.toList)with
  |some f=>f ω σ
  |none=>none
 |none=>none
def SL(bs:List BP):List (Nat×XP)->St->St
 |[],σ=>σ
 |(i,.c (.sl true r))::l,σ=>
  match σ.tm[i]? with
  |some (.c x)=>SL bs l (H4 [.sl true r] [x] σ)
  |_=>SL bs l σ
 |(i,.c (.ptr k _))::l,σ=>
  match bs[k]?,σ.tm[i]? with
  |some (.mem ps),some (.c (.JR b _))=>
   match σ.bx[b]? with
   |some (.mem cs)=>SL bs l (H4 ps cs σ)
   |_=>SL bs l σ
  |_,_=>SL bs l σ
 |_::l,σ=>SL bs l σ
def AV.zf:AV->Bool
 | .ref _ _| .win _ _ _ _| .sl _ _ _| .nil=>true
 |_=>false
def St.forget(b j:Nat)(σ:St):St:=
 match σ.bx[b]? with
 |some (.mem cs)=>
  match cs[j]? with
  |some x=>if x.zf then{ σ with bx:=σ.bx.set b (.mem (cs.set j (.ref σ.bx.length [])))++[.dead] }else σ
  |none=>σ
 |_=>σ
def cx(bs:List BP)(b:Nat):Nat->List AP->St->St
 |_,[],σ=>σ
 |j,p::l,σ=>cx bs b (j+1) l (match p with
  | .ref q=>match bs[q]? with
   |some .gone=>σ.forget b j
   |_=>σ
  |_=>σ)
def lD(bs:List BP):List (Nat×XP)->St->St
 |[],σ=>σ
 |(i,p)::l,σ=>lD bs l (match p with
  | .c (.ptr k _)=>match bs[k]?,σ.tm[i]? with
   |some (.mem ps),some (.c (.JR b _))=>cx bs b 0 ps σ
   |_,_=>σ
  |_=>σ)
def jump(nb:Nat)(s:BK)(f:s.V->Option Y)(σ:St):Option Y:=
 if nb<=s.Hg.length then
  let σ:=lD s.Hg s.EK (SL s.Hg s.EK σ)
  (s.fit σ.bx.length (Wj 0 nb s.Hg) σ.tm (s.opens σ.bx)).bind fun q=>f q.1
 else none
end
end Go.Fw
end
section
namespace Go.Fw
def Bj(w:World)(b o:Nat)(cs:List Value):Prop:= ∀j v,cs[j]? =some v->w.cell? ⟨b,o+j,none⟩=some v
def Rd(w:World)(B:Nat->Prop):(t:Ty)->List Value->t.D->Prop
 | .int k,vs,x=>vs=[.int k x]
 | .bool,vs,x=>vs=[.bool x]
 | .str,vs,x=>vs=[.string ⟨x.toArray⟩]
 | .sl r,vs,x=> ∃a cap,vs=[.slice a (List.length x) cap]/\List.length x<=cap/\(List.length x=0\/ ∃b o,a=some ⟨b,o,none⟩/\B b/\
  ∀(i:Nat) (y:r.D),x[i]? =some y-> ∃cs,cs.length=r.n/\Bj w b (o+i*r.n) cs/\Rd w B r cs y)
 | .unit,vs,_=>vs=[]
 | .cons c r,vs,x=> ∃v l,vs=v::l/\Rd w B c [v] x.1/\Rd w B r l x.2
def ADI(fr:AD3)(n:Nat):Prop:= ∀i,i<n-> ¬(fr.1<=i/\i<fr.2)
def mk:Ty->Nat
 | .int .u8=>0
 |_=>1
def Ow(w:World)(S:Nat->Prop):(d:Nat)->(t:Ty)->List Value->t.D->List Nat->Prop
 |0,.sl r,vs,x,F=>Rd w S (.sl r) vs x/\F=[]
 |d+1,.sl r,vs,x,F=> ∃a cap,vs=[.slice a (List.length x) cap]/\List.length x<=cap/\
  ((
   cap=0/\F=[])\/ ∃b o arr ty fr Fs,a=some ⟨b,o,none⟩/\w.heap[b]? =some (.cells arr ty fr)/\o+cap*r.n<=arr.size/\ADI fr (arr.size+mk r)/\
   F=b::List.flatten Fs/\Fs.length=List.length x/\
   ∀(i:Nat) (y:r.D) (G:ABu),x[i]? =some y->Fs[i]? =some G-> ∃cs,cs.length=r.n/\Bj w b (o+i*r.n) cs/\Ow w S d r cs y G)
 |d,.cons c r,vs,x,F=> ∃v l F1 F2,vs=v::l/\F=F1++F2/\Ow w S d c [v] x.1 F1/\Ow w S d r l x.2 F2
 |_,.unit,vs,_,F=>vs=[]/\F=[]
 |_,.int k,vs,x,F=>vs=[.int k x]/\F=[]
 |_,.bool,vs,x,F=>vs=[.bool x]/\F=[]
 |_,.str,vs,x,F=>vs=[.string ⟨x.toArray⟩]/\F=[]
theorem qj{w B}:∀{t:Ty} {vs x},Rd w B t vs x->vs.length=t.n
 | .int _,_,_,h=>by simp only[Rd]at h;subst h;rfl
 | .bool,_,_,h=>by simp only[Rd]at h;subst h;rfl
 | .str,_,_,h=>by simp only[Rd]at h;subst h;rfl
 | .sl _,_,_,h=>by simp only[Rd]at h;obtain⟨_,_,h,_⟩:=h;subst h;rfl
 | .unit,_,_,h=>by simp only[Rd]at h;subst h;rfl
 | .cons _ _,_,_,h=>by
  simp only[Rd]at h;obtain⟨_,_,rfl,_,h⟩:=h;simp[Ty.n,qj h]
theorem cj{w S}:∀{d} {t:Ty} {vs x F},Ow w S d t vs x F->vs.length=t.n
 |_,.int _,_,_,_,h=>by simp only[Ow]at h;rw[h.1];rfl
 |_,.bool,_,_,_,h=>by simp only[Ow]at h;rw[h.1];rfl
 |_,.str,_,_,_,h=>by simp only[Ow]at h;rw[h.1];rfl
 |0,.sl _,_,_,_,h=>by grind[Ow,qj]
 |_+1,.sl _,_,_,_,h=>by simp only[Ow]at h;obtain⟨_,_,h,_⟩:=h;subst h;rfl
 |_,.unit,_,_,_,h=>by simp only[Ow]at h;rw[h.1];rfl
 |_,.cons _ _,_,_,_,h=>by
  simp only[Ow]at h;obtain⟨_,_,_,_,rfl,_,_,h⟩:=h;simp[Ty.n,cj h]
theorem Bj.of_block{w w':World}{b o:Nat}{cs:List Value}(h:Bj w b o cs)(hb:w'.heap[b]? =w.heap[b]?):Bj w' b o cs:=
 fun j v hj=>(World.cell?_of_block (a:=⟨b,o+j,none⟩) hb).trans (h j v hj)
theorem Gd{w w':World}{B B':Nat->Prop}(hB:∀b,B b->B' b)(hw:∀b,B b->w'.heap[b]? =w.heap[b]?):∀{t:Ty} {vs x},Rd w B t vs x->Rd w' B' t vs x
 | .int _,_,_,h=>by grind[Rd]
 | .bool,_,_,h=>by grind[Rd]
 | .str,_,_,h=>by grind[Rd]
 | .unit,_,_,h=>by grind[Rd]
 | .sl r,_,_,h=>by
  simp only[Rd]at h|-;obtain⟨a,cap,h1,h2,h3⟩:=h;refine⟨a,cap,h1,h2,h3.imp id ?_⟩
  rintro⟨b,o,ha,hb,h⟩
  refine⟨b,o,ha,hB b hb,fun i y hy=> ?_⟩;obtain⟨cs,hl,hc,hr⟩:=h i y hy;exact⟨cs,hl,hc.of_block (hw b hb),Gd hB hw hr⟩
 | .cons _ _,_,_,h=>by
  simp only[Rd]at h|-;obtain⟨v,l,h1,h2,h3⟩:=h;exact⟨v,l,h1,Gd hB hw h2,Gd hB hw h3⟩
theorem Er{w w':World}{S S':Nat->Prop}(hS:∀b,S b->S' b)(hw:∀b,S b->w'.heap[b]? =w.heap[b]?):
  ∀{d} {t:Ty} {vs x F},(∀b∈F,w'.heap[b]? =w.heap[b]?)->Ow w S d t vs x F->Ow w' S' d t vs x F
 |_,.int _,_,_,_,_,h=>by grind[Ow]
 |_,.bool,_,_,_,_,h=>by grind[Ow]
 |_,.str,_,_,_,_,h=>by grind[Ow]
 |_,.unit,_,_,_,_,h=>by grind[Ow]
 |0,.sl r,_,_,_,_,h=>by
  grind[Ow,Gd]
 |d+1,.sl r,_,x,F,hF,h=>by
  simp only[Ow]at h|-;obtain⟨a,cap,h1,h2,h3⟩:=h;refine⟨a,cap,h1,h2,h3.imp id ?_⟩
  rintro⟨b,o,arr,ty,fr,Fs,ha,hb,h4,h5,h6,h7,h⟩
  subst h6;have hbb:=hF b (by simp);refine⟨b,o,arr,ty,fr,Fs,ha,hbb.trans hb,h4,h5,rfl,h7,fun i y G hy hG=> ?_⟩;obtain⟨cs,hl,hc,hr⟩:=h i y G hy hG;refine⟨cs,hl,hc.of_block hbb,Er hS hw (fun c hc=>hF c ?_) hr⟩;grind[List.mem_cons_of_mem,List.mem_flatten,List.mem_of_getElem?]
 |_,.cons _ _,_,_,_,hF,h=>by
  simp only[Ow]at h|-;obtain⟨v,l,F1,F2,h1,h2,h3,h4⟩:=h;subst h2;exact⟨v,l,F1,F2,h1,rfl,Er hS hw (fun c hc=>hF c (by simp[hc])) h3,Er hS hw (fun c hc=>hF c (by simp[hc])) h4⟩
theorem cP{w:World}{S:Nat->Prop}:∀{d} {t:Ty} {vs x F},Ow w S d t vs x F->Rd w (fun b=>S b\/b∈F) t vs x
 |_,.int _,_,_,_,h=>by grind[Ow,Rd]
 |_,.bool,_,_,_,h=>by grind[Ow,Rd]
 |_,.str,_,_,_,h=>by grind[Ow,Rd]
 |_,.unit,_,_,_,h=>by grind[Ow,Rd]
 |0,.sl r,_,_,_,h=>by
  simp only[Ow]at h;simp_all
 |d+1,.sl r,_,x,F,h=>by
  simp only[Ow]at h;simp only[Rd];obtain⟨a,cap,h1,h2,h3⟩:=h;refine⟨a,cap,h1,h2,?_⟩;rcases h3 with⟨hc,_⟩|⟨b,o,arr,ty,fr,Fs,ha,hb,h4,h5,h6,h7,h⟩
  ·omega
  ·refine .inr ⟨b,o,ha,.inr (by simp[h6]),fun i y hy=> ?_⟩
   have hi:i<Fs.length:=by
    grind
   obtain⟨cs,hl,hc,hr⟩:=h i y Fs[i] hy (ALk hi);refine⟨cs,hl,hc,Gd ?_ (fun _ _=>rfl) (cP hr)⟩;grind[List.mem_cons_of_mem,List.mem_flatten,List.getElem_mem]
 |_,.cons _ _,_,_,_,h=>by
  simp only[Ow]at h;simp only[Rd];obtain⟨v,l,F1,F2,h1,h2,h3,h4⟩:=h;subst h2;refine⟨v,l,h1,Gd ?_ (fun _ _=>rfl) (cP h3),Gd ?_ (fun _ _=>rfl) (cP h4)⟩
  all_goals grind
theorem LF{w:World}{S:Nat->Prop}:∀{d d'} {t:Ty} {vs x F},d<=d'->Ow w S d' t vs x F->
  ∃F1 F2,F.Perm (F1++F2)/\Ow w (fun b=>S b\/b∈F2) d t vs x F1
 |_,_,.int _,_,_,_,_,h=>by simp only[Ow]at h|-;simp_all
 |_,_,.bool,_,_,_,_,h=>by simp only[Ow]at h|-;simp_all
 |_,_,.str,_,_,_,_,h=>by simp only[Ow]at h|-;simp_all
 |_,_,.unit,_,_,_,_,h=>by simp only[Ow]at h|-;simp_all
 |0,d',.sl r,_,x,F,_,h=>by
  refine⟨[],F,by simp,?_⟩;simp only[Ow];exact⟨cP h,trivial⟩
 |d+1,0,.sl r,_,x,F,hd,h=>by omega
 |d+1,d'+1,.sl r,_,x,F,hd,h=>by
  simp only[Ow]at h|-;obtain⟨a,cap,h1,h2,h3⟩:=h;rcases h3 with⟨hc,hF⟩|⟨b,o,arr,ty,fr,Fs,ha,hb,h4,h5,h6,h7,h⟩
  ·simp_all
  ·have key:∀(n:Nat) (Fs:List ABu) (y:List r.D),Fs.length=n->y.length=n->(∀(i:Nat) (z:r.D) (G:ABu),y[i]? =some z->Fs[i]? =some G-> ∃cs,cs.length=r.n/\Bj w b (o+i*r.n) cs/\Ow w S d' r cs z G)->
     ∃(Gs:List ABu) (F2:ABu),Fs.flatten.Perm (Gs.flatten++F2)/\Gs.length=n/\ ∀(i:Nat) (z:r.D) (G:ABu),y[i]? =some z->Gs[i]? =some G-> ∃cs,cs.length=r.n/\Bj w b (o+i*r.n) cs/\Ow w (fun b=>S b\/b∈F2) d r cs z G:=by
    intro n
    induction n with
    |zero=>
     simp_all
    |succ n ih=>
     intro Fs y hF hy hh;obtain⟨Fs',G0,rfl⟩:∃l a,Fs=l++[a]:=⟨Fs.dropLast,Fs.getLast (by grind),(List.dropLast_concat_getLast _).symm⟩;obtain⟨y',z0,rfl⟩:∃l a,y=l++[a]:=⟨y.dropLast,y.getLast (by grind),(List.dropLast_concat_getLast _).symm⟩;simp only[AOu,AOJ,APN]at hF hy;obtain⟨Gs,F2,hp,hl,hg⟩:=ih Fs' y' (by omega) (by omega) (fun i z G hz hG=>hh i z G
      (by grind) (by grind))
     obtain⟨cs,dA,hc,ho⟩:=hh n z0 G0 (by simp_all) (by simp_all);obtain⟨H1,H2,hhp,hho⟩:=LF (d:=d) (d':=d') (by omega) ho;refine⟨Gs++[H1],F2++H2,?_,by simp[hl],?_⟩
     ·grind
     ·intro i z G hz hG
      by_cases hi:i<n
      ·rw[AOU (by omega)]at hz hG
       obtain⟨cs,e1,e2,e3⟩:=hg i z G hz hG;exact⟨cs,e1,e2,Er (by grind) (fun _ _=>rfl) (fun _ _=>rfl) e3⟩
      ·have:i=n:=by
        grind
       subst this;rw[AOt (by omega)]at hz hG;simp[show i-y'.length=0 by omega,show i-Gs.length=0 by omega]at hz hG;subst hz hG;exact⟨cs,dA,hc,Er (by grind) (fun _ _=>rfl) (fun _ _=>rfl) hho⟩
   obtain⟨Gs,F2,hp,hl,hg⟩:=key _ Fs x h7 rfl h;refine⟨b::Gs.flatten,F2,?_,a,cap,h1,h2,.inr ⟨b,o,arr,ty,fr,Gs,ha,hb,h4,h5,rfl,hl,hg⟩⟩;simp_all
 |d,d',.cons _ _,_,_,_,hd,h=>by
  simp only[Ow]at h|-;obtain⟨v,l,F1,F2,h1,h2,h3,h4⟩:=h;obtain⟨A1,A2,pa,oa⟩:=LF hd h3;obtain⟨B1,B2,pb,ob⟩:=LF hd h4;refine⟨A1++B1,A2++B2,?_,v,l,A1,B1,h1,rfl,Er (by grind) (fun _ _=>rfl) (fun _ _=>rfl) oa,Er (by grind) (fun _ _=>rfl) (fun _ _=>rfl) ob⟩;grind
def RB(w:World):(t:Ty)->List Value->t.D->Nat->Prop
 | .sl r,vs,x,c=> ∃b o len cap,vs=[.slice (some ⟨b,o,none⟩) len cap]/\0<List.length x/\
  (c=b\/ ∃(i:Nat) (y:r.D) (cs:List Value),x[i]? =some y/\cs.length=r.n/\Bj w b (o+i*r.n) cs/\RB w r cs y c)
 | .cons c r,vs,x,d=> ∃v l,vs=v::l/\(RB w c [v] x.1 d\/RB w r l x.2 d)
 |_,_,_,_=>False
theorem Bj.unique{w:World}{b o:Nat}{cs ds:List Value}(h:Bj w b o cs)(k:Bj w b o ds)(hl:cs.length=ds.length):cs=ds:=by
 apply List.ext_getElem hl;intro i h1 h2;have e1:=h i _ (ALk h1);have e2:=k i _ (ALk h2);simp_all
theorem ABW{w:World}{B:Nat->Prop}{c:Nat}:∀{t:Ty} {vs x},Rd w B t vs x->RB w t vs x c->B c
 | .int _,_,_,_,h=>by simp[RB]at h
 | .bool,_,_,_,h=>by simp[RB]at h
 | .str,_,_,_,h=>by simp[RB]at h
 | .unit,_,_,_,h=>by simp[RB]at h
 | .sl r,_,x,h,k=>by
  simp only[Rd]at h;simp only[RB]at k;obtain⟨a,cap,rfl,_,h⟩:=h;obtain⟨b,o,len,cap',e,hl,k⟩:=k;simp only[AOx,Value.slice.injEq,AQs]at e;obtain⟨rfl,rfl,rfl⟩:=e;rcases h with h|⟨b',o',e,hb,h⟩
  ·omega
  simp only[ALl,Addr.mk.injEq,AQs]at e;obtain⟨rfl,rfl⟩:=e;rcases k with rfl|⟨i,y,cs,hy,dA,hca,k⟩
  ·omega
  ·obtain⟨ds,d1,d2,d3⟩:=h i y hy
   have:=hca.unique d2 (by omega);subst this;exact ABW d3 k
 | .cons _ _,_,_,h,k=>by
  simp only[Rd]at h;simp only[RB]at k;obtain⟨v,l,rfl,h1,h2⟩:=h;obtain⟨v',l',e,k⟩:=k;cases e;exact k.elim (ABW h1) (ABW h2)
theorem vP{w w':World}{c:Nat}:∀{t:Ty} {vs x},(∀d,RB w t vs x d->w'.heap[d]? =w.heap[d]?)->RB w t vs x c->RB w' t vs x c
 | .int _,_,_,_,h=>by simp[RB]at h
 | .bool,_,_,_,h=>by simp[RB]at h
 | .str,_,_,_,h=>by simp[RB]at h
 | .unit,_,_,_,h=>by simp[RB]at h
 | .sl r,_,x,h,k=>by
  simp only[RB]at h k|-;obtain⟨b,o,len,cap,e,hl,k⟩:=k;refine⟨b,o,len,cap,e,hl,?_⟩;rcases k with rfl|⟨i,y,cs,hy,dA,hca,k⟩
  ·omega
  ·have hb:=h b ⟨b,o,len,cap,e,hl,.inl rfl⟩
   exact .inr ⟨i,y,cs,hy,dA,hca.of_block hb,vP (fun d hd=>h d ⟨b,o,len,cap,e,hl,.inr ⟨i,y,cs,hy,dA,hca,hd⟩⟩) k⟩
 | .cons _ _,_,_,h,k=>by
  simp only[RB]at h k|-;obtain⟨v,l,e,k⟩:=k;refine⟨v,l,e,k.elim (fun k=> .inl (vP (fun d hd=>h d ⟨v,l,e,.inl hd⟩) k)) (fun k=> .inr (vP (fun d hd=>h d ⟨v,l,e,.inr hd⟩) k))⟩
end Go.Fw
end
section
namespace Go.Fw
def Cr{α β:Type}(R:α->β->Prop):List α->List β->Prop
 |[],[]=>True
 |a::l,b::m=>R a b/\Cr R l m
 |_,_=>False
theorem Cr.len{α β:Type}{R:α->β->Prop}:∀{l:List α} {m:List β},Cr R l m->l.length=m.length
 |[],[],_=>rfl
 |_::_,_::_,h=>by simp[Cr.len h.2]
theorem Cr.get{α β:Type}{R:α->β->Prop}:∀{l:List α} {m:List β} {i:Nat} {a:α},Cr R l m->l[i]? =some a-> ∃b,m[i]? =some b/\R a b
 |_::_,_::_,0,a,h,e=>by simp at e;subst e;exact⟨_,rfl,h.1⟩
 |_::_,_::_,i+1,a,h,e=>by
  obtain⟨b,hb,hr⟩:=Cr.get (i:=i) h.2 (by simpa using e);simp_all
 |[],[],_,_,_,e=>by simp at e
theorem Cr.imp{α β:Type}{R S:α->β->Prop}(h:∀a b,R a b->S a b):∀{l:List α} {m:List β},Cr R l m->Cr S l m
 |[],[],_=>trivial
 |_::_,_::_,k=>⟨h _ _ k.1,Cr.imp h k.2⟩
structure Env where
 Iz:Nat->Nat
 I0:Nat->Value
 T:Nat->Prop
 S:Nat->Prop
def J1(w:World):Value->List tH->Option Value
 |h,[]=>some h
 | .slice (some a) _ _,s::p=>
  match w.cell? ⟨a.block,a.off+s.i*s.sz+s.j,none⟩with
  |some h=>J1 w h p
  |none=>none
 |_,_::_=>none
def DQ:(r:Ty)->List r.D->List tH->Prop
 |_,_,[]=>True
 |r,rows,s::p=>s.i<rows.length/\s.sz=r.n/\
  match Ba r s.j (rowAt r rows s.i)with
  |some ⟨.sl q,x⟩=>DQ q x p
  |_=>False
def Zc(sz off n:Nat)(a:Option Addr)(cap:Nat):Value:=
 .slice (if cap=off then a else a.map (·.add (off*sz))) n (cap-off)
def isSlice:Value->Bool
 | .slice .. =>true
 |_=>false
def iw:Value->Bool
 | .pointer (some ⟨_,_,none⟩)=>true
 |_=>false
def RA(E:Env)(w:World)(q:(r:Ty)×r.D)(p:Value):Prop:= ∃bb o cs,p= .pointer (some ⟨bb,o,none⟩)/\E.T bb/\cs.length=q.1.n/\Bj w bb o cs/\Rd w E.T q.1 cs q.2
def VR(E:Env)(w:World)(vw:List Bx):AV->Value->Prop
 | .v t x,v=>t.scalar=true/\Rd w (fun _=>False) t [v] x
 | .sl s r x,v=>Rd w (if s then E.S else E.T) (.sl r) [v] x
 | .nil,v=>v= .slice none 0 0
 | .ref b p,v=>isSlice v=true/\match vw[b]? with
  |some (.sl _ r rows)=>DQ r rows p/\(∃q,Hp r rows p=some q)/\J1 w (E.I0 b) p=some v
  |some _=>True
  |none=>False
 | .win b p off n,v=>isSlice v=true/\match vw[b]? with
  |some (.sl _ r rows)=>DQ r rows p/\ ∃q ys a len cap,Hp r rows p=some ⟨q,ys⟩/\off+n<=List.length ys/\J1 w (E.I0 b) p=some (.slice a len cap)/\v=Zc q.n off n a cap
  |some _=>True
  |none=>False
 | .JR b j,v=>b<vw.length/\v= .pointer (some ⟨E.Iz b,j,none⟩)
 | .Kc b p i sz j,v=>iw v=true/\match vw[b]? with
  |some (.sl _ r rows)=>DQ r rows p/\ ∃q ys bb o len cap,Hp r rows p=some ⟨q,ys⟩/\i<List.length ys/\J1 w (E.I0 b) p=some (.slice (some ⟨bb,o,none⟩) len cap)/\v= .pointer (some ⟨bb,o+i*sz+j,none⟩)
  |some _=>True
  |none=>False
 | .RR s r x j,v=> ∃bb o cs,v= .pointer (some ⟨bb,o+j,none⟩)/\(if s then E.S else E.T) bb/\cs.length=r.n/\Bj w bb o cs/\Rd w (if s then E.S else E.T) r cs x
 | .fn f Lc,v=>(∀b∈Lc,b<vw.length)/\v= .func (.func f) #[] (Lc.map fun b=>Value.pointer (some ⟨E.Iz b,0,none⟩)).toArray
 | .yP f rows,v=> ∃ps:List Value,v= .func (.func f) #[] ps.toArray/\Cr (RA E w) rows ps
 | .AEX,v=>v= .pointer none
 | .undef,_=>True
def oU(E:Env)(w:World)(vw:List Bx)(l:List AV)(vs:List Value):Prop:=Cr (VR E w vw) l vs
def TR(E:Env)(w:World)(vw:List Bx):AV ⊕ List AV->Value->Prop
 | .inl x,v=>VR E w vw x v
 | .inr q,v=> ∃vs,v= .agg vs/\oU E w vw q vs.toList
def XR(E:Env)(w:World)(vw:List Bx):XV->Value->Prop
 | .c x,v=>VR E w vw x v
 | .agg l,v=> ∃vs,v= .agg vs/\oU E w vw l vs.toList
 | .NM l,v=> ∃vs,v= .tuple vs/\Cr (TR E w vw) l vs.toList
def xu(E:Env)(w:World)(vw:List Bx)(k:Nat):Bx->List Nat->Prop
 | .mem cs,F=>F=[E.Iz k]/\ ∃arr ty fr,w.heap[E.Iz k]? =some (.cells arr ty fr)/\ADI fr (arr.size+1)/\oU E w vw cs arr.toList
 | .sl d r rows,F=>1<=d/\Ow w E.S d (.sl r) [E.I0 k] rows F
 | .dead,F=>F=[]
def Gok(E:Env)(w:World):Prop:= ∀w':World,(∀c,E.T c->w'.heap[c]? =w.heap[c]?)->GI w'
theorem Gok.mono{E E':Env}{w w':World}(h:Gok E w)(hT:∀c,E.T c->E'.T c)(hw:∀c,E.T c->w'.heap[c]? =w.heap[c]?):Gok E' w':=
 fun v hv=>h v fun c hc=>(hv c (hT c hc)).trans (hw c hc)
structure Sep (E:Env) (w:World) (F:ABu):Prop where
 nodup:F.Nodup
 free:∀c∈F,¬E.T c
 lt:∀c∈F,c<w.heap.size
 st:∀c,E.S c->E.T c
 ie:∀c,E.T c->c<w.heap.size
 gok:Gok E w
def PK(E:Env)(w:World)(vw bx:List Bx)(Fs:List ABu):Prop:=
 Fs.length=bx.length/\ ∀k B F,bx[k]? =some B->Fs[k]? =some F->xu E w vw k B F
def DG(E:Env)(w:World)(vw bx:List Bx)(G:ABu):Prop:=
 ∃Fs,PK E w vw bx Fs/\Sep E w (Fs.flatten++G)
structure Le (E E':Env):Prop where
 Iz:E'.Iz=E.Iz
 I0:E'.I0=E.I0
 T:∀c,E.T c->E'.T c
 S:∀c,E.S c->E'.S c
 Tof:∀c,E'.T c->E.T c\/E'.S c
 Sof:∀c,E'.S c->E.S c\/ ¬E.T c
theorem Le.refl(E:Env):Le E E:=⟨rfl,rfl,fun _ h=>h,fun _ h=>h,fun _ h=> .inl h,fun _ h=> .inl h⟩
theorem Le.trans{E E' E'':Env}(h:Le E E')(k:Le E' E''):Le E E'':=
 ⟨k.Iz.trans h.Iz,k.I0.trans h.I0,fun c hc=>k.T c (h.T c hc),fun c hc=>k.S c (h.S c hc),
  fun c hc=>(k.Tof c hc).elim (fun h' =>(h.Tof c h').imp id (k.S c)) .inr,
  fun c hc=>(k.Sof c hc).elim (h.Sof c) (fun h' => .inr fun ht=>h' (h.T c ht))⟩
theorem lp{w B}:∀{r:Ty} {cs x j t y},Rd w B r cs x->Ba r j x=some ⟨t,y⟩-> ∃v,cs[j]? =some v/\Rd w B t [v] y
 | .cons c r,cs,x,0,t,y,h,e=>by
  simp only[Rd]at h;obtain⟨v,l,rfl,h1,h2⟩:=h;simp only[Ba,ALl,AN3]at e;grind
 | .cons c r,cs,x,j+1,t,y,h,e=>by
  simp only[Rd]at h;obtain⟨v,l,rfl,h1,h2⟩:=h;simp only[Ba]at e;obtain⟨u,hu,hr⟩:=lp h2 e;simp_all
 | .int k,cs,x,0,t,y,h,e=>by
  simp only[Ba,ALl,AN3]at e;obtain⟨rfl,e⟩:=e;obtain rfl:=APR e;simp only[Rd]at h;subst h;exact⟨_,rfl,by rfl⟩
 | .bool,cs,x,0,t,y,h,e=>by
  simp only[Ba,ALl,AN3]at e;obtain⟨rfl,e⟩:=e;obtain rfl:=APR e;simp only[Rd]at h;subst h;exact⟨_,rfl,by rfl⟩
 | .str,cs,x,0,t,y,h,e=>by
  simp only[Ba,ALl,AN3]at e;obtain⟨rfl,e⟩:=e;obtain rfl:=APR e;simp only[Rd]at h;subst h;exact⟨_,rfl,by rfl⟩
 | .sl r,cs,x,0,t,y,h,e=>by
  simp only[Ba,ALl,AN3]at e;obtain⟨rfl,e⟩:=e;obtain rfl:=APR e;have h':=h;simp only[Rd]at h;grind
 | .unit,_,_,_,_,_,_,e=>by simp[Ba]at e
 | .int _,_,_,_+1,_,_,_,e=>by simp[Ba]at e
 | .bool,_,_,_+1,_,_,_,e=>by simp[Ba]at e
 | .str,_,_,_+1,_,_,_,e=>by simp[Ba]at e
 | .sl _,_,_,_+1,_,_,_,e=>by simp[Ba]at e
theorem Tl{r:Ty}{rows:List r.D}{i:Nat}(h:i<rows.length):rows[i]? =some (rowAt r rows i):=by
 simp[rowAt,h]
theorem vH{w:World}{B:Nat->Prop}:∀{p:List tH} {r:Ty} {h:Value} {rows:List r.D} {q:Ty} {ys:List q.D},
  Rd w B (.sl r) [h] rows->DQ r rows p->Hp r rows p=some ⟨q,ys⟩->
  ∃h',(∀w':World,(∀b,B b->w'.heap[b]? =w.heap[b]?)->J1 w' h p=some h')/\Rd w B (.sl q) [h'] ys
 |[],r,h,rows,q,ys,hr,_,hg=>by
  simp only[Hp,ALl,AN3]at hg;obtain⟨rfl,e⟩:=hg;obtain rfl:=APR e;exact⟨h,fun w' _=>by rfl,hr⟩
 |s::p,r,h,rows,q,ys,hr,hp,hg=>by
  simp only[DQ]at hp;obtain⟨hi,NN,hp⟩:=hp;simp only[Hp]at hg;simp only[Rd]at hr;obtain⟨a,cap,hh,_,hr⟩:=hr;obtain rfl:=(AST hh).1;rcases hr with hr|⟨b,o,rfl,hb,hr⟩
  ·omega
  obtain⟨cs,hl,hc,hrow⟩:=hr s.i _ (Tl hi);split at hg
  ·rename_i q' x' nz
   rw[nz]at hp;obtain⟨v,hv,hrv⟩:=lp hrow nz;obtain⟨h',hh',dC⟩:=vH hrv hp hg;refine⟨h',fun w' tV=> ?_,dC⟩;simp only[J1];have gH:w'.cell? ⟨b,o+s.i*s.sz+s.j,none⟩=some v:=by
    rw[NN];exact(World.cell?_of_block (a:=⟨b,_,none⟩) (tV b hb)).trans (hc _ _ hv)
   simp_all
  simp_all
theorem DC{w:World}{h:Value}:J1 w h []=some h:=by rfl
structure V0 (E:Env) (w:World) (vw:List Bx) (E':Env) (w':World) (vw':List Bx):Prop where
 len:vw.length<=vw'.length
 Iz:∀b,b<vw.length->E'.Iz b=E.Iz b
 T:∀b,E.T b->E'.T b
 S:∀b,E.S b->E'.S b
 st:∀b,E.S b->E.T b
 heap:∀b,E.T b->w'.heap[b]? =w.heap[b]?
 box:∀b d r rows,b<vw.length->vw'[b]? =some (.sl d r rows)-> ∃d0 Vl,vw[b]? =some (.sl d0 r Vl)/\
  ∀p,DQ r Vl p-> ∀q ys,Hp r Vl p=some ⟨q,ys⟩->DQ r rows p/\(∃ys',Hp r rows p=some ⟨q,ys'⟩/\List.length ys' =List.length ys)/\
   ∀h,J1 w (E.I0 b) p=some h->J1 w' (E'.I0 b) p=some h
theorem RZ{α:Type}{l l':List α}{b:Nat}{x:α}(h:l.length<=l'.length)(e:l[b]? =some x):∃y,l'[b]? =some y:=
 ⟨l'[b]'(AQM (AL1.1 e).1 h),ALk _⟩
theorem G4{E E':Env}{w w':World}{vw vw':List Bx}(k:V0 E w vw E' w' vw'):∀{x:AV} {v:Value},VR E w vw x v->VR E' w' vw' x v:=by
 intro x v h;cases x with
 |v t x=>exact⟨h.1,Gd (fun _ h=>h) (fun _ h=>h.elim) h.2⟩
 |sl s r x=>
  simp only[VR]at h|-;cases s with
  |false=>exact Gd k.T k.heap (by simp_all)
  |true=>exact Gd k.S (fun b hb=>k.heap b (k.st b hb)) (by simp_all)
 |nil=>exact h
 |ref b p=>
  simp only[VR]at h|-;obtain⟨h0,h⟩:=h;refine⟨h0,?_⟩;cases e:vw[b]? with
  |none=>simp_all
  |some B=>
   rw[e]at h;have JN:=(AL1.1 e).1;obtain⟨B',e'⟩:=RZ k.len e;rw[e'];cases B' with
   |mem cs=>trivial
   |dead=>trivial
   |sl d r rows=>
    obtain⟨d0,Vl,e0,hk⟩:=k.box b d r rows JN e';grind
 |win b p off n=>
  simp only[VR]at h|-;obtain⟨h0,h⟩:=h;refine⟨h0,?_⟩;cases e:vw[b]? with
  |none=>simp_all
  |some B=>
   rw[e]at h;have JN:=(AL1.1 e).1;obtain⟨B',e'⟩:=RZ k.len e;rw[e'];cases B' with
   |mem cs=>trivial
   |dead=>trivial
   |sl d r rows=>
    obtain⟨d0,Vl,e0,hk⟩:=k.box b d r rows JN e';grind
 |JR b j=>exact⟨AQM h.1 k.len,by rw[h.2,k.Iz b h.1]⟩
 |Kc b p i sz j=>
  simp only[VR]at h|-;obtain⟨h0,h⟩:=h;refine⟨h0,?_⟩;cases e:vw[b]? with
  |none=>simp_all
  |some B=>
   rw[e]at h;have JN:=(AL1.1 e).1;obtain⟨B',e'⟩:=RZ k.len e;rw[e'];cases B' with
   |mem cs=>trivial
   |dead=>trivial
   |sl d r rows=>
    obtain⟨d0,Vl,e0,hk⟩:=k.box b d r rows JN e';grind
 |RR s r x j=>
  simp only[VR]at h|-;obtain⟨bb,o,cs,hv,hb,hl,hc,hr⟩:=h;cases s with
  |false=>exact⟨bb,o,cs,hv,k.T bb (by simp_all),hl,hc.of_block (k.heap bb (by simp_all)),Gd k.T k.heap (by simp_all)⟩
  |true=>exact⟨bb,o,cs,hv,k.S bb (by simp_all),hl,hc.of_block (k.heap bb (k.st bb (by simp_all))),Gd k.S (fun b hb=>k.heap b (k.st b hb)) (by simp_all)⟩
 |fn f Lc=>
  refine⟨fun b hb=>AQM (h.1 b hb) k.len,?_⟩;rw[h.2];congr 2;exact ATO fun b hb=>by rw[k.Iz b (h.1 b hb)]
 |yP f rows=>
  obtain⟨ps,hv,h⟩:=h;exact⟨ps,hv,h.imp fun q p ⟨bb,o,cs,h1,h2,h3,h4,h5⟩=>⟨bb,o,cs,h1,k.T bb h2,h3,h4.of_block (k.heap bb h2),Gd k.T k.heap h5⟩⟩
 |AEX=>exact h
 |undef=>trivial
theorem RE{E E':Env}{w w':World}{vw vw':List Bx}(k:V0 E w vw E' w' vw'):∀{x:XV} {v:Value},XR E w vw x v->XR E' w' vw' x v
 | .c _,_,h=>G4 k h
 | .agg _,_,⟨vs,hv,h⟩=>⟨vs,hv,h.imp fun _ _ h=>G4 k h⟩
 | .NM l,_,⟨vs,hv,h⟩=>⟨vs,hv,h.imp fun
  | .inl _,_,h=>G4 k h
  | .inr _,_,⟨ws,hw,h⟩=>⟨ws,hw,h.imp fun _ _ h=>G4 k h⟩⟩
theorem V0.refl{E:Env}{w:World}{vw:List Bx}(st:∀b,E.S b->E.T b):V0 E w vw E w vw:=
 ⟨AOd _,fun _ _=>rfl,fun _ h=>h,fun _ h=>h,st,fun _ _=>rfl,fun b d r rows _ h=>⟨d,rows,h,fun p hp q ys hg=>⟨hp,⟨ys,hg,rfl⟩,fun _ h=>h⟩⟩⟩
theorem V0.trans{E E' E'':Env}{w w' w'':World}{vw vw' AVE:List Bx}(k:V0 E w vw E' w' vw')(k':V0 E' w' vw' E'' w'' AVE):V0 E w vw E'' w'' AVE where
 len:=APf k.len k'.len
 Iz:=fun b hb=>(k'.Iz b (AQM hb k.len)).trans (k.Iz b hb)
 T:=fun b h=>k'.T b (k.T b h)
 S:=fun b h=>k'.S b (k.S b h)
 st:=k.st
 heap:=fun b h=>(k'.heap b (k.T b h)).trans (k.heap b h)
 box:=fun b d r rows hb h=>by
  obtain⟨d1,AOh,h1,k1⟩:=k'.box b d r rows (AQM hb k.len) h;obtain⟨d0,Vl,h0,k0⟩:=k.box b d1 r AOh hb h1;grind
theorem AAf{w w':World}{S:Nat->Prop}{d:Nat}{r:Ty}{h:Value}{rows:List r.D}{F:ABu}(ho:Ow w S d (.sl r) [h] rows F)
  (hS:∀b,S b->w'.heap[b]? =w.heap[b]?) (hF:∀b∈F,w'.heap[b]? =w.heap[b]?) {p:List tH} (hp:DQ r rows p) {q:Ty} {ys:List q.D} (hg:Hp r rows p=some ⟨q,ys⟩)
  {h':Value} (hh:J1 w h p=some h'):J1 w' h p=some h':=by
 obtain⟨h1,k,_⟩:=vH (cP ho) hp hg;grind
end Go.Fw
end
section
namespace Go.Fw
theorem Cr.set{α β:Type}{R:α->β->Prop}:∀{l:List α} {m:List β} {i:Nat} {a:α} {b:β},Cr R l m->R a b->Cr R (l.set i a) (m.set i b)
 |[],[],_,_,_,_,_=>trivial
 |_::_,_::_,0,_,_,h,r=>⟨r,h.2⟩
 |_::_,_::_,i+1,_,_,h,r=>⟨h.1,Cr.set h.2 r⟩
theorem Cr.append{α β:Type}{R:α->β->Prop}:∀{l:List α} {m:List β} {l':List α} {m':List β},Cr R l m->Cr R l' m'->Cr R (l++l') (m++m')
 |[],[],_,_,_,h=>h
 |_::_,_::_,_,_,h,k=>⟨h.1,Cr.append h.2 k⟩
theorem Cr.M6{α β γ:Type}{R:α->β->Prop}{S:γ->β->Prop}(f:α->γ)(h:∀a b,R a b->S (f a) b):∀{l:List α} {m:List β},Cr R l m->Cr S (l.map f) m
 |[],[],_=>trivial
 |_::_,_::_,k=>⟨h _ _ k.1,Cr.M6 f h k.2⟩
theorem Cr.drop{α β:Type}{R:α->β->Prop}:∀{l:List α} {m:List β} (n:Nat),Cr R l m->Cr R (l.drop n) (m.drop n)
 |_,_,0,h=>h
 |[],[],_+1,_=>trivial
 |_::_,_::_,n+1,h=>Cr.drop n h.2
theorem Cr.take{α β:Type}{R:α->β->Prop}:∀{l:List α} {m:List β} (n:Nat),Cr R l m->Cr R (l.take n) (m.take n)
 |[],[],0,_=>trivial
 |_::_,_::_,0,_=>trivial
 |[],[],_+1,_=>trivial
 |_::_,_::_,n+1,h=>⟨h.1,Cr.take n h.2⟩
structure j6 (E0:Env) (w0:World) (E:Env) (w:World):Prop where
 T:∀c,E0.T c->E.T c
 S:∀c,E0.S c->E.S c
 Tof:∀c,E.T c->E0.T c\/E.S c
 Sof:∀c,E.S c->E0.S c\/ ¬E0.T c
 heap:∀c,E0.T c->w.heap[c]? =w0.heap[c]?
 os:w.os=w0.os
 tape:w.tape=w0.tape
 output:w.output=w0.output
 size:w0.heap.size<=w.heap.size
theorem j6.refl(E:Env)(w:World):j6 E w E w:=⟨fun _ h=>h,fun _ h=>h,fun _ h=> .inl h,fun _ h=> .inl h,fun _ _=>rfl,rfl,rfl,rfl,AOd _⟩
theorem j6.trans{E E' E'':Env}{w w' w'':World}(h:j6 E w E' w')(k:j6 E' w' E'' w''):j6 E w E'' w'':=
 ⟨fun c hc=>k.T c (h.T c hc),fun c hc=>k.S c (h.S c hc),fun c hc=>(k.Tof c hc).elim (fun h' =>(h.Tof c h').imp id (k.S c)) .inr,
  fun c hc=>(k.Sof c hc).elim (h.Sof c) (fun h' => .inr fun ht=>h' (h.T c ht)),fun c hc=>(k.heap c (h.T c hc)).trans (h.heap c hc),
  k.os.trans h.os,k.tape.trans h.tape,k.output.trans h.output,APf h.size k.size⟩
theorem Le.base{E E':Env}(h:Le E E')(w:World):j6 E w E' w:=⟨h.T,h.S,h.Tof,h.Sof,fun _ _=>rfl,rfl,rfl,rfl,AOd _⟩
def BRB(E:Env)(w:World)(k:Nat):Bx->Nat->Prop
 | .mem _,c=>c=E.Iz k
 | .sl _ r rows,c=>RB w (.sl r) [E.I0 k] rows c
 | .dead,_=>False
def ZF:Bx->Bx->Prop
 | .mem _,.mem _=>True
 | .sl _ r x,.sl _ q y=>(⟨r,x⟩:(r:Ty)×List r.D)=⟨q,y⟩
 |_,_=>False
structure UC (t:ABu) (E0:Env) (bx0:List Bx) (w0:World) (E:Env) (bx:List Bx) (w:World):Prop where
 base:j6 E0 w0 E w
 len:bx0.length<=bx.length
 ids:∀b,b<bx0.length->E.Iz b=E0.Iz b/\E.I0 b=E0.I0 b
 dead:∀b:Nat,bx0[b]? =some Bx.dead->bx[b]? =some Bx.dead
 frame:∀(n:Nat) B B',n∉t->bx0[n]? =some B->bx[n]? =some B'->B'≠ .dead->ZF B B'/\ ∀c,BRB E0 w0 n B c->w.heap[c]? =w0.heap[c]?
theorem UC.any{E E':Env}{bx TW:List Bx}{w w':World}(h:UC [] E bx w E' TW w'){t:ABu}:UC t E bx w E' TW w':=
 ⟨h.base,h.len,h.ids,h.dead,fun n B B' _=>h.frame n B B' (by simp)⟩
theorem ZF.refl{B:Bx}(h:B≠ .dead):ZF B B:=by cases B<;>simp_all[ZF]
theorem UC.refl(t:ABu)(E:Env)(bx:List Bx)(w:World):UC t E bx w E bx w:=⟨j6.refl E w,AOd _,fun _ _=>⟨rfl,rfl⟩,fun _ h=>h,fun n B B' _ h h' hd=>by
 rw[h]at h';cases h';exact⟨ZF.refl hd,fun _ _=>rfl⟩⟩
theorem ll{E:Env}{w:World}{vw:List Bx}{k:Nat}{B:Bx}{F:ABu}{c:Nat}(h:xu E w vw k B F)(hc:BRB E w k B c):E.S c\/c∈F:=by
 cases B with
 |mem cs=>obtain⟨rfl,_⟩:=h;grind[BRB]
 |sl d r rows=>exact ABW (cP h.2) hc
 |dead=>exact hc.elim
structure Rel (E:Env) (σ:St) (a:Act) (w:World):Prop where
 Pp:a.defers=[]
 tm:Cr (XR E w σ.bx) σ.tm a.tmps.toList
 bx:DG E w σ.bx σ.bx []
theorem Rel.put{E:Env}{σ:St}{a:Act}{w:World}(h:Rel E σ a w)(dst:Option Tmp){x:XV}{v:Value}(hx:XR E w σ.bx x v):Rel E (σ.put dst x) (a.put dst v) w:=by
 cases dst with
 |none=>exact h
 |some d=>exact⟨h.Pp,by simpa[St.put,Act.put]using Cr.set h.tm hx,h.bx⟩
theorem Cr.AQx{E:Env}{w:World}{vw:List Bx}{l:List XV}{m:Array Value}(h:Cr (XR E w vw) l m.toList)(t:Nat):XR E w vw (l.getD t (.c .undef)) (m.getD t undef):=by
 by_cases ht:t<l.length
 ·have e:l[t]? =some l[t]:=ALk ht
  obtain⟨b,hb,hr⟩:=h.get e;simp_all
 ·have e:l[t]? =none:=by simp_all
  simp only[List.getD_eq_getElem?_getD,e,Option.getD_none]
  trivial
theorem AAR{E:Env}{w:World}{vw:List Bx}(v:Value):VR E w vw (xo v) v:=by
 unfold xo;split<;>first
  |trivial
  |exact⟨rfl,by simp[Rd]⟩
  |rfl
theorem sf{E:Env}{w:World}{vw:List Bx}:∀(l:List Value),oU E w vw (l.map xo) l
 |[]=>trivial
 |a::l=>⟨AAR a,sf l⟩
theorem AEV{E:Env}{w:World}{vw:List Bx}(v:Value):XR E w vw (ofValue v) v:=by
 unfold ofValue;split
 ·rename_i cs
  exact⟨cs,rfl,sf cs.toList⟩
 ·exact AAR v
theorem Rel.ev{E:Env}{σ:St}{a:Act}{w:World}(h:Rel E σ a w)(x:Operand):XR E w σ.bx (σ.ev x) (a.eval x):=by
 cases x with
 |tmp t=>exact Cr.AQx h.tm t
 |const v=>exact AEV v
 |global g=>trivial
 |func f=>exact⟨by simp,rfl⟩
theorem Ym{b:Nat}:∀{Fs:List ABu} {F:ABu},Fs[b]? =some F->Fs.flatten.Perm (F++(Fs.set b []).flatten):=by
 induction b with
 |zero=>
  intro Fs F h;cases Fs with
  |nil=>simp at h
  |cons A l=>simp_all
 |succ b ih=>
  intro Fs F h;cases Fs with
  |nil=>simp at h
  |cons A l=>
   grind
theorem Sep.perm{E:Env}{w:World}{F F':ABu}(h:Sep E w F)(p:F.Perm F'):Sep E w F':=
 ⟨p.nodup_iff.1 h.nodup,fun c hc=>h.free c (p.mem_iff.2 hc),fun c hc=>h.lt c (p.mem_iff.2 hc),h.st,h.ie,h.gok⟩
theorem Sep.sub{E:Env}{w:World}{F F':ABu}(h:Sep E w (F++F')):Sep E w F:=
 ⟨(ANh.1 h.nodup).1,fun c hc=>h.free c (by simp[hc]),fun c hc=>h.lt c (by simp[hc]),h.st,h.ie,h.gok⟩
theorem DG.perm{E:Env}{w:World}{vw bx:List Bx}{G G':ABu}(h:DG E w vw bx G)(p:G.Perm G'):DG E w vw bx G':=
 let⟨Fs,h1,h2⟩:=h
 ⟨Fs,h1,h2.perm (ATo _ p)⟩
theorem DG.drop{E:Env}{w:World}{vw bx:List Bx}{G G':ABu}(h:DG E w vw bx (G++G')):DG E w vw bx G:=
 let⟨Fs,h1,h2⟩:=h
 ⟨Fs,h1,by rw[<-ANZ]at h2;exact h2.sub⟩
theorem DG.st{E:Env}{w:World}{vw bx:List Bx}{G:ABu}(h:DG E w vw bx G):∀c,E.S c->E.T c:=let⟨_,_,h⟩:=h;h.st
theorem DG.ie{E:Env}{w:World}{vw bx:List Bx}{G:ABu}(h:DG E w vw bx G):∀c,E.T c->c<w.heap.size:=let⟨_,_,h⟩:=h;h.ie
theorem DG.gok{E:Env}{w:World}{vw bx:List Bx}{G:ABu}(h:DG E w vw bx G):Gok E w:=let⟨_,_,h⟩:=h;h.gok
theorem DG.AK3{E:Env}{w:World}{vw bx:List Bx}{G:ABu}(h:DG E w vw bx G):∀c∈G,¬E.T c:=let⟨_,_,h⟩:=h;fun c hc=>h.free c (by simp[hc])
theorem DG.take{E:Env}{w:World}{vw bx:List Bx}{G:ABu}(h:DG E w vw bx G){b:Nat}{B:Bx}(hb:bx[b]? =some B):
  ∃F,xu E w vw b B F/\DG E w vw (bx.set b .dead) (F++G):=by
 obtain⟨Fs,⟨hl,h1⟩,h2⟩:=h;have JN:=(AL1.1 hb).1;have hF:Fs[b]? =some (Fs[b]'(by omega)):=ALk _;refine⟨_,h1 b B _ hb hF,Fs.set b [],⟨by simp_all,fun k C F hk hkF=> ?_⟩,h2.perm ?_⟩
 ·by_cases e:k=b
  ·subst e
   rw[ASO (by omega)]at hk hkF;cases hk;cases hkF;rfl
  grind
 grind[List.Perm.append_right,Ym,List.append_assoc,List.perm_append_comm,trans,List.Perm.append_left]
theorem DG.put{E:Env}{w:World}{vw bx:List Bx}{F G:ABu}(h:DG E w vw bx (F++G)){b:Nat}{B:Bx}(hb:bx[b]? =some .dead)(hB:xu E w vw b B F):
  DG E w vw (bx.set b B) G:=by
 obtain⟨Fs,⟨hl,h1⟩,h2⟩:=h;have JN:=(AL1.1 hb).1;have hF:Fs[b]? =some (Fs[b]'(by omega)):=ALk _;have e0:Fs[b]'(by omega)=[]:=h1 b _ _ hb hF;refine⟨Fs.set b F,⟨by simp_all,fun k C F' hk hkF=> ?_⟩,h2.perm ?_⟩
 ·grind
 ·have p:(Fs.set b F).flatten.Perm (F++Fs.flatten):=by
   have p1:=Ym (Fs:=Fs.set b F) (b:=b) (F:=F) (ASO (by omega));rw[AVP]at p1;have p2:=Ym hF;grind
  grind
theorem DG.push{E:Env}{w:World}{vw bx:List Bx}{F G:ABu}(h:DG E w vw bx (F++G)){B:Bx}(hB:xu E w vw bx.length B F):
  DG E w vw (bx++[B]) G:=by
 obtain⟨Fs,⟨hl,h1⟩,h2⟩:=h;refine⟨Fs++[F],⟨by simp[hl],fun k C F' hk hkF=> ?_⟩,h2.perm (by simp)⟩;grind
theorem DG.turn{E E':Env}{w w':World}{vw vw' bx:List Bx}{G:ABu}(h:DG E w vw bx G)(k:∀x v,VR E w vw x v->VR E' w' vw' x v)
  (hS:∀c,E.S c->E'.S c) (AKk:∀b,b<bx.length->E'.Iz b=E.Iz b) (uO:∀b,b<bx.length->E'.I0 b=E.I0 b)
  (hw:∀c,(E.S c\/(¬E.T c/\c∉G))->c<w.heap.size->w'.heap[c]? =w.heap[c]?)
  (AI6:∀F,Sep E w (F++G)->Sep E' w' (F++G)):DG E' w' vw' bx G:=by
 obtain⟨Fs,⟨hl,h1⟩,h2⟩:=h;refine⟨Fs,⟨hl,fun n B F hn hF=> ?_⟩,AI6 _ h2⟩;have JN:=(AL1.1 hn).1;have h3:=h1 n B F hn hF;have ASt:∀c∈F,c∈Fs.flatten:=fun c hc=>APu.2 ⟨F,AOX hF,hc⟩
 have hFw:∀c∈F,w'.heap[c]? =w.heap[c]?:=fun c hc=>hw c (.inr ⟨h2.free c (by simp_all),fun hg=>by
  have:=(ANh.1 h2.nodup).2.2 c (ASt c hc) c hg;omega⟩) (h2.lt c (by simp_all))
 have hSw:∀c,E.S c->w'.heap[c]? =w.heap[c]?:=fun c hc=>hw c (.inl hc) (h2.ie c (h2.st c hc))
 cases B with
 |mem cs=>
  obtain⟨rfl,arr,ty,fr,ha,hu,hv⟩:=h3;refine⟨by simp_all,arr,ty,fr,?_,hu,hv.imp k⟩;simp_all
 |sl d r rows=>
  obtain⟨hd,ho⟩:=h3;refine⟨hd,?_⟩;grind[Er]
 |dead=>exact h3
end Go.Fw
end
section
namespace Go.Fw
theorem I5{β:Ty->Type}{a b:Ty}{x:β a}{y:β b}(h:S5 a b x=some y):∃e:a=b,e▸x=y:=by
 grind[S5]
def F7(bk vw:List Bx):Prop:= ∀(b:Nat) (B:Bx),bk[b]? =some B->B= .dead\/vw[b]? =some B
theorem F7.refl(bx:List Bx):F7 bx bx:=fun _ _ h=> .inr h
theorem Addr.add_eq(b o n:Nat):(⟨b,o,none⟩:Addr).add n=⟨b,o+n,none⟩:=by grind[Addr.add]
theorem AFk{w:World}{B:Nat->Prop}{r:Ty}{a:Option Addr}{len cap:Nat}{ys:List r.D}(h:Rd w B (.sl r) [.slice a len cap] ys){off n:Nat}(hn:off+n<=ys.length):
  Rd w B (.sl r) [Zc r.n off n a cap] ((ys.drop off).take n):=by
 simp only[Rd]at h|-;obtain⟨a',cap',e,hc,h⟩:=h;simp only[AOx,Value.slice.injEq,AQs]at e;obtain⟨rfl,rfl,rfl⟩:=e;have hl:((ys.drop off).take n).length=n:=by grind
 refine⟨_,_,by unfold Zc;rw[hl],by omega,?_⟩;rw[hl];by_cases h0:n=0
 ·omega
 ·rcases h with h|⟨b,o,rfl,hb,h⟩
  ·omega
  ·refine .inr ⟨b,o+off*r.n,?_,hb,fun i y hy=> ?_⟩
   ·rw[ALj (by omega)]
    simp[Addr.add_eq]
   grind
def yL(E:Env)(Fs:List ABu)(c:Nat):Prop:=E.T c\/c∈Fs.flatten
section
variable{E:Env} {w:World} {vw bk:List Bx} {Fs:List ABu}
theorem PK.get(h:PK E w vw bk Fs){b:Nat}{B:Bx}(e:bk[b]? =some B):∃F,xu E w vw b B F/\ ∀c∈F,c∈Fs.flatten:=by
 have JN:=(AL1.1 e).1;have hF:Fs[b]? =some (Fs[b]'(by rw[h.1];omega)):=ALk _;exact⟨_,h.2 b B _ e hF,fun c hc=>APu.2 ⟨_,AOX hF,hc⟩⟩
theorem kH(hs:F7 bk vw)(h:PK E w vw bk Fs)(st:∀c,E.S c->E.T c){b d:Nat}{r:Ty}{rows:List r.D}(e:bk[b]? =some (.sl d r rows))
  {p:List tH} (hp:DQ r rows p) {q:Ty} {ys:List q.D} (hg:Hp r rows p=some ⟨q,ys⟩) {v:Value} (hh:J1 w (E.I0 b) p=some v):
  Rd w (yL E Fs) (.sl q) [v] ys:=by
 obtain⟨F,⟨_,ho⟩,hF⟩:=h.get e;obtain⟨h',k,hr⟩:=vH (cP ho) hp hg;have:=k w (fun _ _=>rfl);rw[hh]at this;cases this;exact Gd (fun c hc=>hc.elim (fun hc=> .inl (st c hc)) (fun hc=> .inr (hF c hc))) (fun _ _=>rfl) hr
theorem dY(hs:F7 bk vw){b d:Nat}{r:Ty}{rows:List r.D}(e:bk[b]? =some (.sl d r rows)):vw[b]? =some (.sl d r rows):=by
 rcases hs b _ e with h|h
 all_goals simp_all
theorem gU(hs:F7 bk vw)(h:PK E w vw bk Fs)(st:∀c,E.S c->E.T c){x:AV}{v:Value}(hv:VR E w vw x v){q:Ty}{ys:List q.D}(e:O3 bk x=some ⟨q,ys⟩):
  Rd w (yL E Fs) (.sl q) [v] ys:=by
 cases x with
 |sl s r x=>
  simp only[O3,ALl,AN3]at e;obtain⟨rfl,e⟩:=e;obtain rfl:=APR e;simp only[VR]at hv;refine Gd (fun c hc=> ?_) (fun _ _=>rfl) hv;cases s
  ·exact .inl (by simp_all)
  ·exact .inl (st c (by simp_all))
 |ref b p=>
  grind[O3,VR,dY,kH]
 |win b p off n=>
  simp only[O3]at e;split at e
  ·rename_i d r rows hb
   simp only[VR,dY hs hb]at hv;obtain⟨_,hp,q',ys',a,len,cap,hg,hl,hh,rfl⟩:=hv;rw[hg]at e;simp only[ATp,ALl,AN3]at e;obtain⟨rfl,e⟩:=e;obtain rfl:=APR e;grind[AFk,kH]
  simp_all
 |_=>simp[O3]at e
theorem Ya(hs:F7 bk vw)(h:PK E w vw bk Fs)(st:∀c,E.S c->E.T c){t:Ty}{x:AV}{v:Value}(hv:VR E w vw x v){y:t.D}(e:OT bk t x=some y):
  Rd w (yL E Fs) t [v] y:=by
 have sl:∀(r:Ty) (x:AV) (v:Value) (y:List r.D),VR E w vw x v->((O3 bk x).bind fun q=>S5 (β:=fun r=>List r.D) q.1 r q.2)=some y->Rd w (yL E Fs) (.sl r) [v] y:=by
  grind[Option.bind_eq_some_iff,I5,gU]
 cases x with
 |v u z=>
  simp only[OT]at e;obtain⟨e1,e2⟩:=I5 e;subst e1;subst e2;exact Gd (fun _ hc=>hc.elim) (fun _ hc=>hc.elim) hv.2
 |nil=>
  cases t with
  |sl r=>
   simp only[OT,ALl]at e;subst e;simp only[VR]at hv;subst hv;simp only[Rd];simp_all
  |_=>simp[OT]at e
 |_=>
  cases t with
  |sl r=>exact sl r _ _ y hv (by simpa only[OT]using e)
  |_=>simp[OT]at e
theorem n_(hs:F7 bk vw)(h:PK E w vw bk Fs)(st:∀c,E.S c->E.T c):∀{r:Ty} {l:List AV} {vs:List Value} {x:r.D},oU E w vw l vs->I_ bk r l=some x->
  Rd w (yL E Fs) r vs x
 | .unit,[],[],x,_,_=>by rfl
 | .cons c r,a::l,v::vs,x,hv,e=>by
  simp only[I_,AMp,ALs]at e;obtain⟨y,e1,z,e2,rfl⟩:=e;simp only[Rd];exact⟨v,vs,rfl,Ya hs h st hv.1 e1,n_ hs h st hv.2 e2⟩
 | .unit,_::_,_,_,_,e=>by simp[I_]at e
 | .unit,[],_::_,_,hv,_=>hv.elim
 | .cons _ _,[],_,_,_,e=>by simp[I_]at e
 | .cons _ _,_::_,[],_,hv,_=>hv.elim
 | .int _,_,_,_,_,e=>by simp[I_]at e
 | .bool,_,_,_,_,e=>by simp[I_]at e
 | .str,_,_,_,_,e=>by simp[I_]at e
 | .sl _,_,_,_,_,e=>by simp[I_]at e
theorem oZ{E1:Env}{vw1:List Bx}(hs:F7 bk vw)(h:PK E w vw bk Fs)(st:∀c,E.S c->E.T c)(hT:∀c,yL E Fs c->E1.T c):
  ∀{r:Ty} {l:List AV} {vs:List Value} {x:r.D},oU E w vw l vs->I_ bk r l=some x->oU E1 w vw1 (vl r x) vs
 | .unit,[],[],x,_,_=>trivial
 | .cons c r,a::l,v::vs,x,hv,e=>by
  simp only[I_,AMp,ALs]at e;obtain⟨y,e1,z,e2,rfl⟩:=e;have dC:=Ya hs h st hv.1 e1;have tl:oU E1 w vw1 _ _:=oZ hs h st hT hv.2 e2;cases c with
  |sl q=>
   refine⟨?_,tl⟩;simp only[VR];exact Gd hT (fun _ _=>rfl) (by omega)
  |int k=>exact⟨⟨rfl,by grind[Rd]⟩,tl⟩
  |bool=>exact⟨⟨rfl,by grind[Rd]⟩,tl⟩
  |str=>exact⟨⟨rfl,by grind[Rd]⟩,tl⟩
  |unit=>
   grind[Rd]
  |cons c' r' =>
   exfalso
   cases a with
   |v u z=>
    simp only[OT]at e1;obtain⟨e3,_⟩:=I5 e1;subst e3;exact absurd hv.1.1 (by simp[Ty.scalar])
   |_=>simp[OT]at e1
 | .unit,_::_,_,_,_,e=>by simp[I_]at e
 | .unit,[],_::_,_,hv,_=>hv.elim
 | .cons _ _,[],_,_,_,e=>by simp[I_]at e
 | .cons _ _,_::_,[],_,hv,_=>hv.elim
 | .int _,_,_,_,_,e=>by simp[I_]at e
 | .bool,_,_,_,_,e=>by simp[I_]at e
 | .str,_,_,_,_,e=>by simp[I_]at e
 | .sl _,_,_,_,_,e=>by simp[I_]at e
end
end Go.Fw
end
section
namespace Go.Fw
def Ext(m m':Rn):Prop:=m'.length=m.length/\ ∀(i b:Nat),m[i]? =some (some b)->m'[i]? =some (some b)
theorem Ext.refl(m:Rn):Ext m m:=⟨rfl,fun _ _ h=>h⟩
theorem Ext.trans{m m' m'':Rn}(h:Ext m m')(k:Ext m' m''):Ext m m'':=⟨k.1.trans h.1,fun i b e=>k.2 i b (h.2 i b e)⟩
def wN(m:Rn):Prop:= ∀(i j b:Nat),m[i]? =some (some b)->m[j]? =some (some b)->i=j
theorem kf{m m':Rn}{i b:Nat}(e:m.put i b=some m'):Ext m m'/\m'[i]? =some (some b)/\(wN m->wN m'):=by
 unfold Rn.put at e;split at e
 ·rename_i h
  split at e
  ·cases e
  ·rename_i hc
   cases e;have JN:=(AL1.1 h).1;have AUa:∀(k:Nat),m[k]?≠some (some b):=fun k hk=>hc (by
    grind)
   refine⟨⟨by simp,fun k c hk=> ?_⟩,by simp[JN],fun hi j k c hj hk=> ?_⟩
   ·grind
   ·by_cases e1:j=i<;>by_cases e2:k=i
    ·omega
    ·grind
    ·grind
    ·rw[AQF (by omega)]at hj hk
     exact hi j k c hj hk
 all_goals grind[Ext.refl]
def VF(m:Rn):List Nat->List Nat->Prop
 |[],[]=>True
 |i::is,b::bs=>m[i]? =some (some b)/\VF m is bs
 |_,_=>False
theorem VF.ext{m m':Rn}(h:Ext m m'):∀{is bs},VF m is bs->VF m' is bs
 |[],[],_=>trivial
 |_::_,_::_,k=>⟨h.2 _ _ k.1,VF.ext h k.2⟩
theorem pz:∀{is bs:ABu} {m m':Rn},gr m is bs=some m'->Ext m m'/\VF m' is bs/\(wN m->wN m')
 |[],[],m,m',e=>by simp only[gr,ALl]at e;subst e;exact⟨Ext.refl _,trivial,fun h=>h⟩
 |i::is,b::bs,m,m',e=>by
  simp only[gr,AMp]at e;obtain⟨m1,e1,e2⟩:=e;obtain⟨a1,a2,a3⟩:=kf e1;obtain⟨b1,b2,b3⟩:=pz e2;exact⟨a1.trans b1,⟨b1.2 _ _ a2,b2⟩,fun h=>b3 (a3 h)⟩
 |[],_::_,_,_,e=>by simp[gr]at e
 |_::_,[],_,_,e=>by simp[gr]at e
def Ui(N:Nat)(m:Rn):AP->AV->Prop
 | .ref i,x=> ∃b,(x= .ref b []\/(x= .nil/\b=N+i))/\m[i]? =some (some b)
 | .ptr i j,x=> ∃b,x= .JR b j/\m[i]? =some (some b)
 | .fn f Lc,x=> ∃bs,x= .fn f bs/\VF m Lc bs
 | .nil,x=>x= .nil
 | .sH i sz,x=> ∃b k j,x= .ref b [⟨k,sz,j⟩]/\m[i]? =some (some b)
 |_,_=>True
theorem Ui.ext{N:Nat}{m m':Rn}(h:Ext m m'){p:AP}{x:AV}(k:Ui N m p x):Ui N m' p x:=by
 cases p with
 |ref i=>obtain⟨b,hx,k⟩:=k;exact⟨b,hx,h.2 _ _ k⟩
 |ptr i j=>obtain⟨b,rfl,k⟩:=k;exact⟨b,rfl,h.2 _ _ k⟩
 |fn f Lc=>obtain⟨bs,rfl,k⟩:=k;exact⟨bs,rfl,k.ext h⟩
 |nil=>exact k
 |sH i sz=>obtain⟨b,q,j,rfl,k⟩:=k;exact⟨b,q,j,rfl,h.2 _ _ k⟩
 |_=>trivial
theorem kb{N:Nat}{m m':Rn}{p:AP}{x:AV}(e:p.Pz N m x=some m'):Ext m m'/\Ui N m' p x/\(wN m->wN m'):=by
 cases p with
 |ref i=>
  cases x with
  |ref b q=>
   cases q with
   |nil=>
    obtain⟨a,b,c⟩:=kf (by simpa only[AP.Pz]using e);exact⟨a,⟨_,.inl rfl,b⟩,c⟩
   |cons _ _=>simp[AP.Pz]at e
  |nil=>
   obtain⟨a,b,c⟩:=kf (by simpa only[AP.Pz]using e);exact⟨a,⟨_,.inr ⟨rfl,rfl⟩,b⟩,c⟩
  |_=>simp[AP.Pz]at e
 |ptr i j=>
  cases x with
  |JR b j' =>
   simp only[AP.Pz]at e;split at e
   ·rename_i hj
    subst hj;obtain⟨a,b,c⟩:=kf e;exact⟨a,⟨_,rfl,b⟩,c⟩
   simp_all
  |_=>simp[AP.Pz]at e
 |fn f Lc=>
  cases x with
  |fn g bs=>
   simp only[AP.Pz]at e;split at e
   ·rename_i hf
    subst hf;obtain⟨a,b,c⟩:=pz e;exact⟨a,⟨_,rfl,b⟩,c⟩
   simp_all
  |_=>simp[AP.Pz]at e
 |nil=>
  cases x with
  |nil=>simp only[AP.Pz,ALl]at e;subst e;exact⟨Ext.refl _,rfl,fun h=>h⟩
  |_=>simp[AP.Pz]at e
 |sH i sz=>
  cases x with
  |ref b q=>
   cases q with
   |nil=>simp[AP.Pz]at e
   |cons s q=>
    cases q with
    |nil=>
     simp only[AP.Pz]at e;split at e
     ·rename_i hs
      obtain⟨a,b,c⟩:=kf e;obtain⟨k,z,y⟩:=s;dsimp only at hs;subst hs;exact⟨a,⟨_,k,y,rfl,b⟩,c⟩
     simp_all
    |cons _ _=>simp[AP.Pz]at e
  |_=>simp[AP.Pz]at e
 |_=>
  have:m=m':=by grind[AP.Pz]
  subst this;exact⟨Ext.refl _,trivial,fun h=>h⟩
theorem ag{N:Nat}:∀{l:List AP} {xs:List AV} {m m':Rn},cy.Pz N m l xs=some m'->Ext m m'/\Cr (Ui N m') l xs/\(wN m->wN m')
 |[],[],m,m',e=>by simp only[cy.Pz,ALl]at e;subst e;exact⟨Ext.refl _,trivial,fun h=>h⟩
 |p::l,x::xs,m,m',e=>by
  simp only[cy.Pz,AMp]at e;obtain⟨m1,e1,e2⟩:=e;obtain⟨a1,a2,a3⟩:=kb e1;obtain⟨b1,b2,b3⟩:=ag e2;exact⟨a1.trans b1,⟨a2.ext b1,b2⟩,fun h=>b3 (a3 h)⟩
 |[],_::_,_,_,e=>by simp[cy.Pz]at e
 |_::_,[],_,_,e=>by simp[cy.Pz]at e
def nT(N:Nat)(m:Rn):AP ⊕ List AP->AV ⊕ List AV->Prop
 | .inl p,.inl x=>Ui N m p x
 | .inr p,.inr x=>Cr (Ui N m) p x
 |_,_=>False
theorem nT.ext{N:Nat}{m m':Rn}(h:Ext m m'):∀{p:AP ⊕ List AP} {x:AV ⊕ List AV},nT N m p x->nT N m' p x
 | .inl _,.inl _,k=>Ui.ext h k
 | .inr _,.inr _,k=>Cr.imp (fun _ _ k=>Ui.ext h k) k
theorem gy{N:Nat}:∀{l:List (AP ⊕ List AP)} {xs:List (AV ⊕ List AV)} {m m':Rn},dU.Pz N m l xs=some m'->Ext m m'/\Cr (nT N m') l xs/\(wN m->wN m')
 |[],[],m,m',e=>by simp only[dU.Pz,ALl]at e;subst e;exact⟨Ext.refl _,trivial,fun h=>h⟩
 | .inl p::l,.inl x::xs,m,m',e=>by
  simp only[dU.Pz,AMp]at e;obtain⟨m1,e1,e2⟩:=e;obtain⟨a1,a2,a3⟩:=kb e1;obtain⟨b1,b2,b3⟩:=gy e2;exact⟨a1.trans b1,⟨Ui.ext b1 a2,b2⟩,fun h=>b3 (a3 h)⟩
 | .inr p::l,.inr x::xs,m,m',e=>by
  simp only[dU.Pz,AMp]at e;obtain⟨m1,e1,e2⟩:=e;obtain⟨a1,a2,a3⟩:=ag e1;obtain⟨b1,b2,b3⟩:=gy e2;exact⟨a1.trans b1,⟨Cr.imp (fun _ _ k=>Ui.ext b1 k) a2,b2⟩,fun h=>b3 (a3 h)⟩
 |[],_::_,_,_,e=>by simp[dU.Pz]at e
 | .inl _::_,[],_,_,e=>by simp[dU.Pz]at e
 | .inr _::_,[],_,_,e=>by simp[dU.Pz]at e
 | .inl _::_,.inr _::_,_,_,e=>by simp[dU.Pz]at e
 | .inr _::_,.inl _::_,_,_,e=>by simp[dU.Pz]at e
def iZ(N:Nat)(m:Rn):XP->XV->Prop
 | .c p,.c x=>Ui N m p x
 | .agg l,.agg xs=>Cr (Ui N m) l xs
 | .row _,.agg _=>True
 | .NM l,.NM xs=>Cr (nT N m) l xs
 |_,_=>False
theorem iZ.ext{N:Nat}{m m':Rn}(h:Ext m m'):∀{p:XP} {x:XV},iZ N m p x->iZ N m' p x
 | .c _,.c _,k=>Ui.ext h k
 | .agg _,.agg _,k=>Cr.imp (fun _ _ k=>Ui.ext h k) k
 | .row _,.agg _,_=>trivial
 | .NM _,.NM _,k=>Cr.imp (fun _ _ k=>nT.ext h k) k
theorem ADO{N:Nat}{m m':Rn}:∀{p:XP} {x:XV},p.Pz N m x=some m'->Ext m m'/\iZ N m' p x/\(wN m->wN m')
 | .c p,.c x,e=>kb (by grind[XP.Pz])
 | .agg l,.agg xs,e=>ag (by grind[XP.Pz])
 | .row r,.agg xs,e=>by simp only[XP.Pz,ALl]at e;subst e;exact⟨Ext.refl _,trivial,fun h=>h⟩
 | .NM l,.NM xs,e=>gy (by grind[XP.Pz])
 | .c _,.agg _,e=>by simp[XP.Pz]at e
 | .c _,.NM _,e=>by simp[XP.Pz]at e
 | .agg _,.c _,e=>by simp[XP.Pz]at e
 | .agg _,.NM _,e=>by simp[XP.Pz]at e
 | .row _,.c _,e=>by simp[XP.Pz]at e
 | .row _,.NM _,e=>by simp[XP.Pz]at e
 | .NM _,.c _,e=>by simp[XP.Pz]at e
 | .NM _,.agg _,e=>by simp[XP.Pz]at e
theorem kk{N:Nat}{tm:List XV}:∀{l:List (Nat×XP)} {m m':Rn},G5.Pz N tm m l=some m'->
  Ext m m'/\(∀q∈l,∃x,tm[q.1]? =some x/\iZ N m' q.2 x)/\(wN m->wN m')
 |[],m,m',e=>by grind[G5.Pz,Option.some.injEq,Ext.refl]
 |(i,p)::l,m,m',e=>by
  simp only[G5.Pz]at e;split at e
  ·rename_i x hx
   simp only[AMp]at e;obtain⟨m1,e1,e2⟩:=e;obtain⟨a1,a2,a3⟩:=ADO e1;obtain⟨b1,b2,b3⟩:=kk e2;refine⟨a1.trans b1,?_,fun h=>b3 (a3 h)⟩;intro q hq;rcases AO3.1 hq with rfl|hq
   all_goals grind[iZ.ext]
  simp_all
theorem ar{N:Nat}{bx:List Bx}:∀{l:List BP} {i:Nat} {m m':Rn},KJ.Pz N bx i m l=some m'->
  Ext m m'/\(∀(k:Nat) q,l[k]? =some (.mem q)-> ∃b cs,m'[i+k]? =some (some b)/\bx[b]? =some (.mem cs)/\Cr (Ui N m') q cs)/\
   (∀(k:Nat) d r,l[k]? =some (.sl d r)-> ∃b,m'[i+k]? =some (some b))/\(wN m->wN m')
 |[],i,m,m',e=>by grind[KJ.Pz,Option.some.injEq,Ext.refl]
 | .mem q::l,i,m,m',e=>by
  simp only[KJ.Pz]at e;split at e
  ·rename_i b hb
   split at e
   ·rename_i cs hcs
    simp only[AMp]at e;obtain⟨m1,e1,e2⟩:=e;obtain⟨a1,a2,a3⟩:=ag e1;obtain⟨b1,b2,b4,b3⟩:=ar e2;refine⟨a1.trans b1,?_,?_,fun h=>b3 (a3 h)⟩
    ·intro k q' hk
     cases k with
     |zero=>cases hk;exact⟨b,cs,b1.2 _ _ (a1.2 _ _ hb),hcs,Cr.imp (fun _ _ k=>Ui.ext b1 k) a2⟩
     |succ k=>
      grind
    grind
   simp_all
  simp_all
 | .sl d r::l,i,m,m',e=>by
  simp only[KJ.Pz]at e;split at e
  ·rename_i b hb
   obtain⟨b1,b2,b4,b3⟩:=ar e;refine⟨b1,?_,?_,b3⟩
   ·grind
   ·intro k d r hk
    cases k with
    |zero=>exact⟨b,b1.2 _ _ hb⟩
    |succ k=>
     grind
  simp_all
 | .gone::l,i,m,m',e=>by
  simp only[KJ.Pz]at e;obtain⟨b1,b2,b4,b3⟩:=ar e;grind
theorem U4{bx bk:List Bx}{Kb:Nat->Nat}:∀{l:List BP} {m:Rn} {x:KJ.V l},KJ.get bx bk m l=some x->(KJ.mk Kb l x).length=l.length/\
  ∀(k:Nat) p,l[k]? =some p-> ∃y:p.V,(KJ.mk Kb l x)[k]? =some (p.mk Kb y)/\
   match p,y with
   | .mem q,y=> ∃b cs,m[k]? =some (some b)/\bx[b]? =some (.mem cs)/\cy.get bk q cs=some y
   | .sl d r,y=> ∃b d',m[k]? =some (some b)/\bx[b]? =some (.sl d' r y)/\1<=d/\d<=d'
   | .gone,_=>True
 |[],m,x,e=>⟨rfl,by simp⟩
 | .mem q::l,some b::m,x,e=>by
  simp only[KJ.get]at e;split at e
  ·rename_i cs hcs
   simp only[AMp,ALs]at e;obtain⟨a,e1,c,e2,rfl⟩:=e;obtain⟨h1,h2⟩:=U4 (Kb:=Kb) e2;refine⟨by simp[KJ.mk,h1],fun k p hk=> ?_⟩;cases k with
   |zero=>cases hk;exact⟨a,rfl,b,cs,rfl,hcs,e1⟩
   |succ k=>
    grind[KJ.mk]
  simp_all
 | .sl d r::l,some b::m,x,e=>by
  simp only[KJ.get]at e;split at e
  ·rename_i d' q rows hb
   split at e
   ·rename_i hd
    simp only[AMp,ALs]at e;obtain⟨a,e1,c,e2,rfl⟩:=e;obtain⟨e3,e4⟩:=I5 e1;subst e3;subst e4;obtain⟨h1,h2⟩:=U4 (Kb:=Kb) e2;refine⟨by simp[KJ.mk,h1],fun k p hk=> ?_⟩;cases k with
    |zero=>cases hk;exact⟨rows,rfl,b,d',rfl,hb,hd.1,hd.2⟩
    |succ k=>
     grind[KJ.mk]
   simp_all
  simp_all
 | .gone::l,o::m,x,e=>by
  have e':(KJ.get bx bk m l).map (fun c=>((),c))=some x:=by grind[KJ.get]
  simp only[ALs]at e';obtain⟨c,e2,rfl⟩:=e';obtain⟨h1,h2⟩:=U4 (Kb:=Kb) e2;refine⟨by simp[KJ.mk,h1],fun k p hk=> ?_⟩;cases k with
  |zero=>cases hk;exact⟨(),rfl,trivial⟩
  |succ k=>
   grind[KJ.mk]
 | .mem q::l,none::m,x,e=>by simp[KJ.get]at e
 | .sl d r::l,none::m,x,e=>by simp[KJ.get]at e
 | .mem _::_,[],x,e=>by simp[KJ.get]at e
 | .sl _ _::_,[],x,e=>by simp[KJ.get]at e
 | .gone::_,[],x,e=>by simp[KJ.get]at e
theorem LX:∀{m:Rn} {bx:List Bx},(DD bx m).length=bx.length
 |[],_=>rfl
 |some b::m,bx=>by simp[DD,LX]
 |none::m,bx=>by simp[DD,LX]
theorem Vb:∀{m:Rn} {bx vw:List Bx},F7 bx vw->F7 (DD bx m) vw
 |[],_,_,h=>h
 |none::m,bx,vw,h=>by simp only[DD];exact Vb h
 |some b::m,bx,vw,h=>by
  simp only[DD];refine Vb fun k B hk=> ?_
  by_cases e:k=b
  ·grind
  ·rw[AQF (by omega)]at hk
   exact h k B hk
theorem aV:∀{m:Rn} {bx:List Bx} {b:Nat} {B:Bx},some b∈m->(DD bx m)[b]? =some B->B= .dead
 |some c::m,bx,b,B,h,e=>by
  simp only[DD]at e;by_cases hm:some b∈m
  ·exact aV hm e
  ·have:c=b:=by
    simp_all
   subst this;have:∀{m:Rn} {bx:List Bx},bx[c]? =some .dead->some c∉m->(DD bx m)[c]? =some .dead:=by
    intro m
    induction m with
    |nil=>intro bx h _;exact h
    |cons o m ih=>
     intro bx h hn;cases o with
     |none=>grind[DD,List.mem_cons_of_mem]
     |some d=>
      grind[DD,List.mem_cons_of_mem,List.getElem?_set_ne]
   grind[List.getElem?_eq_some_iff,LX]
 |none::m,bx,b,B,h,e=>by
  simp only[DD]at e;exact aV (by simp_all) e
theorem vR{E:Env}{w:World}{vw:List Bx}:∀{m:Rn} {bx:List Bx} {G:ABu},wN m->DG E w vw bx G->
  ∃Gs:List ABu,Gs.length=m.length/\(∀(k b:Nat) B F,m[k]? =some (some b)->bx[b]? =some B->Gs[k]? =some F->xu E w vw b B F)/\
   DG E w vw (DD bx m) (Gs.flatten++G)
 |[],bx,G,_,h=>⟨[],rfl,by simp,h⟩
 |none::m,bx,G,hi,h=>by
  obtain⟨Gs,h1,h2,h3⟩:=vR (m:=m) (fun i j b Ds hj=>by
   have:=hi (i+1) (j+1) b (by simp_all) (by simp_all);omega) h
  refine⟨[]::Gs,by simp[h1],fun k b B F hk hB hF=> ?_,by grind[DD]⟩;grind
 |some b::m,bx,G,hi,h=>by
  have ANu:wN m:=fun i j b Ds hj=>by
   have:=hi (i+1) (j+1) b (by simp_all) (by simp_all);omega
  cases e:bx[b]? with
  |none=>
   have X3:bx.set b .dead=bx:=List.set_eq_of_length_le (by simp_all);obtain⟨Gs,h1,h2,h3⟩:=vR (m:=m) ANu h;refine⟨[]::Gs,by simp[h1],fun k b' B F hk hB hF=> ?_,by grind[DD]⟩;grind
  |some B0=>
   obtain⟨F0,k1,k2⟩:=h.take e;obtain⟨Gs,h1,h2,h3⟩:=vR (m:=m) ANu k2;refine⟨F0::Gs,by simp[h1],fun k b' B F hk hB hF=> ?_,?_⟩
   ·cases k with
    |zero=>
     simp_all
    |succ k=>
     have jt:b'≠b:=fun hh=>by
      have:=hi 0 (k+1) b (by simp) (by simp_all);omega
     grind
   ·simp only[DD]
    refine h3.perm ?_
    grind
end Go.Fw
end
section
namespace Go.Fw
theorem w4{R:Nat->List Nat->List Nat->List Nat->Prop}:∀(Gs:List ABu) (o:Nat),(∀(k:Nat) G,Gs[k]? =some G-> ∃F W,G.Perm (F++W)/\R (o+k) G F W)->
  ∃Fs Ws:List ABu,Fs.length=Gs.length/\Ws.length=Gs.length/\Gs.flatten.Perm (Fs.flatten++Ws.flatten)/\
   ∀(k:Nat) G F W,Gs[k]? =some G->Fs[k]? =some F->Ws[k]? =some W->R (o+k) G F W
 |[],o,_=>⟨[],[],rfl,rfl,by simp,by simp⟩
 |G::Gs,o,h=>by
  obtain⟨F,W,hp,hr⟩:=h 0 G rfl;obtain⟨Fs,Ws,h1,h2,h3,h4⟩:=w4 Gs (o+1) (fun k G hk=>by
   have:=h (k+1) G (by simp_all)
   rwa [show o+1+k=o+(k+1)by omega])
  refine⟨F::Fs,W::Ws,by simp[h1],by simp[h2],?_,fun k G' F' W' hG hF hW=> ?_⟩
  all_goals grind
def Np(E:Env)(w:World)(vw:List Bx)(Kb:Nat->Nat):(l:List (Nat×XP))->G5.V l->List Value->Prop
 |[],_,_=>True
 |(i,p)::l,x,vals=>(∃v,vals[i]? =some v/\XR E w vw (p.mk Kb x.1) v)/\Np E w vw Kb l x.2 vals
section
variable{E E1:Env} {w:World} {bx bk vw1:List Bx} {Fk:List ABu} {m:Rn}
theorem VF.map{f:Nat->Nat}(h:∀(i b:Nat),m[i]? =some (some b)->E1.Iz i=E.Iz b):∀{is bs:ABu},VF m is bs->
  (is.map fun b=>Value.pointer (some ⟨E1.Iz b,0,none⟩))=bs.map fun b=>Value.pointer (some ⟨E.Iz b,0,none⟩)
 |[],[],_=>rfl
 |i::is,b::bs,k=>by simp[h i b k.1,VF.map (f:=f) h k.2]
theorem VF.lt:∀{is bs:ABu},VF m is bs-> ∀i∈is,i<m.length
 |[],[],_,_,h=>by simp at h
 |i::is,b::bs,k,j,h=>by
  rcases AO3.1 h with rfl|h
  ·exact(AL1.1 k.1).1
  ·exact VF.lt k.2 j h
structure AK5 (N:Nat) (E:Env) (w:World) (bx bk:List Bx) (Fk:List ABu) (m:Rn) (E1:Env) (vw1:List Bx):Prop where
 within:F7 bk bx
 boxes:PK E w bx bk Fk
 st:∀c,E.S c->E.T c
 T:∀c,yL E Fk c->E1.T c
 S:∀c,E.S c->E1.S c
 ids:∀(i b:Nat),m[i]? =some (some b)->E1.Iz i=E.Iz b/\E1.I0 i=E.I0 b
 len:m.length<=vw1.length
 nil:∀(i:Nat) d r rows,vw1[i]? =some (.sl d r rows)->E.I0 (N+i)= .slice none 0 0
 sl:∀(i:Nat) d r rows,i<m.length->vw1[i]? =some (.sl d r rows)-> ∃b d',m[i]? =some (some b)/\bx[b]? =some (.sl d' r rows)
variable{N:Nat} (k:AK5 N E w bx bk Fk m E1 vw1)
include k
theorem AFK{p:AP}{x:AV}{v:Value}(hv:VR E w bx x v)(ha:Ui N m p x){y:p.V}(e:p.get bk x=some y):VR E1 w vw1 (p.mk id y) v:=by
 cases p with
 |v t=>
  simp only[AP.get]at e;split at e
  ·rename_i hs
   have hr:=Ya k.within k.boxes k.st hv e;refine⟨hs,?_⟩;cases t with
   |int _=>grind[Rd]
   |bool=>grind[Rd]
   |str=>grind[Rd]
   |_=>simp[Ty.scalar]at hs
  simp_all
 |sl s r=>
  cases s with
  |false=>
   simp only[AP.get]at e;have hr:=Ya k.within k.boxes k.st hv e;simp only[AP.mk,VR];exact Gd k.T (fun _ _=>rfl) (by omega)
  |true=>
   simp only[AP.get]at e;split at e
   ·rename_i q z
    obtain⟨e1,e2⟩:=I5 e;subst e1;subst e2;simp only[AP.mk,VR]at hv|-;exact Gd k.S (fun _ _=>rfl) (by simp_all)
   all_goals grind[AP.mk,VR,Rd]
 |nil=>
  obtain rfl:=ha;exact hv
 |ref i=>
  obtain⟨b,hx,hm⟩:=ha;have hi:=(AL1.1 hm).1;simp only[AP.mk,id,VR];rcases hx with rfl|⟨rfl,rfl⟩
  ·have hsl:=hv.1
   refine⟨hsl,?_⟩;cases e1:vw1[i]? with
   |none=>simp at e1;have:=k.len;omega
   |some B=>
    cases B with
    |sl d r rows=>
     obtain⟨b',d',h1,h2⟩:=k.sl i d r rows hi e1;rw[hm]at h1;cases h1;simp only[VR,h2]at hv
     replace hv:=hv.2
     refine⟨by simp[DQ],⟨_,rfl⟩,?_⟩;rw[(k.ids i b hm).2];simp_all
    |_=>trivial
  ·have dp:v= .slice none 0 0:=hv
   subst dp;refine⟨rfl,?_⟩;cases e1:vw1[i]? with
   |none=>simp at e1;have:=k.len;omega
   |some B=>
    cases B with
    |sl d r rows=>
     refine⟨by simp[DQ],⟨_,rfl⟩,?_⟩;rw[(k.ids i _ hm).2,k.nil i d r rows e1,DC]
    |_=>trivial
 |ptr i j=>
  obtain⟨b,rfl,hm⟩:=ha;have hi:=(AL1.1 hm).1;exact⟨AQM hi k.len,by rw[hv.2,id,(k.ids i b hm).1]⟩
 |uT r=>
  simp only[AP.get]at e;split at e
  ·rename_i s q z
   obtain⟨e1,e2⟩:=I5 e;subst e1;subst e2;simp only[AP.mk,VR]at hv|-;obtain⟨bb,o,cs,h1,h2,h3,h4,h5⟩:=hv;have ARh:∀c,(if s=true then E.S else E.T) c->E1.T c:=by
    intro c hc;cases s
    ·exact k.T c (.inl (by simp_all))
    ·exact k.T c (.inl (k.st c (by simp_all)))
   exact⟨bb,o,cs,h1,by simp_all,h3,h4,by simpa using Gd ARh (fun _ _=>rfl) h5⟩
  ·rename_i b
   split at e
   ·rename_i cs hb
    obtain⟨F,⟨hF,arr,ty,fr,ha,hu,Zu⟩,RW⟩:=k.boxes.get hb;have dC:=n_ k.within k.boxes k.st Zu e;simp only[AP.mk,VR];refine⟨E.Iz b,0,arr.toList,by simpa using hv.2,?_,qj dC,?_,by simpa using Gd k.T (fun _ _=>rfl) dC⟩
    ·simp only[AMx,API]
     exact k.T _ (.inr (RW _ (by simp_all)))
    ·intro j u hj
     simp only[AS9,World.cell?,ha,ASE,AMx,API];simp_all
   simp_all
  ·rename_i b p i sz
   split at e
   ·rename_i d q rows hb
    simp only[AMp]at e;obtain⟨⟨q',ys⟩,e1,e2⟩:=e;split at e2
    case isFalse=>cases e2
    rename_i NN;obtain⟨e3,e4⟩:=I5 e2;dsimp only at e3;subst e3;subst e4;simp only[VR,dY k.within hb]at hv;obtain⟨_,hp,q1,ys1,bb,o,len,cap,hg,hi,hh,rfl⟩:=hv;rw[hg]at e1;simp only[ALl,AN3]at e1;obtain⟨e5,e6⟩:=e1;subst e5;obtain rfl:=APR e6;have dC:=kH k.within k.boxes k.st hb hp hg hh;simp only[Rd]at dC;obtain⟨a',cap',ee,_,dC⟩:=dC;simp only[AOx,Value.slice.injEq,AQs]at ee;obtain⟨rfl,rfl,rfl⟩:=ee;rcases dC with dC|⟨b1,o1,e7,hb1,dC⟩
    ·omega
    ·cases e7
     obtain⟨cs,c1,c2,c3⟩:=dC i _ (Tl hi);simp only[AP.mk,VR];refine⟨bb,o+i*q1.n,cs,by rw[NN],by simpa using k.T _ hb1,c1,c2,by simpa using Gd k.T (fun _ _=>rfl) c3⟩
   simp_all
  simp_all
 |fn f Lc=>
  obtain⟨bs,rfl,hc⟩:=ha;refine⟨fun i hi=>AQM (hc.lt i (by simp_all)) k.len,?_⟩;rw[hv.2];simp only[AP.mk,List.map_id];rw[VF.map (f:=id) (fun i b h=>(k.ids i b h).1) hc]
 |yP f rs=>
  simp only[AP.get]at e;split at e
  ·rename_i g rows
   split at e
   case isFalse=>cases e
   rename_i hfg;subst hfg;obtain⟨ps,i_,fq⟩:=hv;refine⟨ps,i_,?_⟩;clear ha i_
   induction rs generalizing rows ps with
   |nil=>
    cases rows with
    |nil=>
     cases ps with
     |nil=>trivial
     |cons _ _=>exact fq.elim
    |cons _ _=>simp[eZ.vz]at e
   |cons r rs ih=>
    cases rows with
    |nil=>simp[eZ.vz]at e
    |cons q rows=>
     cases ps with
     |nil=>exact fq.elim
     |cons p ps=>
      simp only[eZ.vz,AMp,ALs]at e;obtain⟨x1,e1,x2,e2,rfl⟩:=e;obtain⟨q1,q2⟩:=q;obtain⟨e3,e4⟩:=I5 e1;dsimp only at e3;subst e3;subst e4;obtain⟨⟨bb,o,cs,h1,h2,h3,h4,h5⟩,fq⟩:=fq;exact⟨⟨bb,o,cs,h1,k.T bb (.inl h2),h3,h4,Gd (fun b hb=>k.T b (.inl hb)) (fun _ _=>rfl) h5⟩,ih rows e2 ps fq⟩
  ·rename_i g bs
   split at e
   case isFalse=>cases e
   rename_i hfg;subst hfg;obtain⟨i_,fq⟩:=hv;refine⟨bs.map fun b=>Value.pointer (some ⟨E.Iz b,0,none⟩),fq,?_⟩;clear ha i_ fq
   induction rs generalizing bs with
   |nil=>
    cases bs with
    |nil=>trivial
    |cons _ _=>simp[eZ.xA]at e
   |cons r rs ih=>
    cases bs with
    |nil=>simp[eZ.xA]at e
    |cons b bs=>
     simp only[eZ.xA,AMp,ALs]at e;obtain⟨x1,e1,x2,e2,rfl⟩:=e;split at e1
     case h_2=>cases e1
     rename_i cs hb;obtain⟨F,⟨hF,arr,ty,fr,ha,hu,Zu⟩,RW⟩:=k.boxes.get hb;have dC:=n_ k.within k.boxes k.st Zu e1;refine⟨⟨E.Iz b,0,arr.toList,rfl,k.T _ (.inr (RW _ (by simp_all))),qj dC,?_,Gd k.T (fun _ _=>rfl) dC⟩,ih bs e2⟩;intro j u hj;simp only[AS9,World.cell?,ha,ASE,AMx,API];simp_all
  simp_all
 |any=>trivial
 |sH i sz=>
  obtain⟨b,q,j,rfl,hm⟩:=ha;have hi:=(AL1.1 hm).1;simp only[AP.get,ALl]at e;subst e;simp only[AP.mk,id,VR];have hsl:=hv.1;refine⟨hsl,?_⟩;cases e1:vw1[i]? with
  |none=>simp at e1;have:=k.len;omega
  |some B=>
   cases B with
   |sl d r rows=>
    obtain⟨b',d',h1,h2⟩:=k.sl i d r rows hi e1;rw[hm]at h1;cases h1;simp only[VR,h2]at hv
    replace hv:=hv.2
    refine⟨hv.1,hv.2.1,?_⟩;rw[(k.ids i b hm).2];simp_all
   |_=>trivial
theorem vN:∀{l:List AP} {xs:List AV} {vs:List Value},oU E w bx xs vs->Cr (Ui N m) l xs-> ∀{y:cy.V l},cy.get bk l xs=some y->oU E1 w vw1 (cy.mk id l y) vs
 |[],[],[],_,_,_,_=>trivial
 |p::l,x::xs,v::vs,hv,ha,y,e=>by
  simp only[cy.get,AMp,ALs]at e;obtain⟨a,e1,b,e2,rfl⟩:=e;exact⟨AFK k hv.1 ha.1 e1,vN hv.2 ha.2 e2⟩
 |[],[],_::_,hv,_,_,_=>hv.elim
 |_::_,_::_,[],hv,_,_,_=>hv.elim
 |[],_::_,_,_,ha,_,_=>ha.elim
 |_::_,[],_,_,ha,_,_=>ha.elim
theorem ABV:∀{l:List (AP ⊕ List AP)} {xs:List (AV ⊕ List AV)} {vs:List Value},Cr (TR E w bx) xs vs->Cr (nT N m) l xs-> ∀{y:dU.V l},dU.get bk l xs=some y->
  Cr (TR E1 w vw1) (dU.mk id l y) vs
 |[],[],[],_,_,_,_=>trivial
 | .inl p::l,.inl x::xs,v::vs,hv,ha,y,e=>by
  simp only[dU.get,AMp,ALs]at e;obtain⟨a,e1,b,e2,rfl⟩:=e;exact⟨AFK k hv.1 ha.1 e1,ABV hv.2 ha.2 e2⟩
 | .inr p::l,.inr x::xs,v::vs,hv,ha,y,e=>by
  simp only[dU.get,AMp,ALs]at e;obtain⟨a,e1,b,e2,rfl⟩:=e;obtain⟨⟨us,hu,hus⟩,h2⟩:=hv;exact⟨⟨us,hu,vN k hus ha.1 e1⟩,ABV h2 ha.2 e2⟩
 | .inl _::_,.inr _::_,_,_,ha,_,_=>ha.1.elim
 | .inr _::_,.inl _::_,_,_,ha,_,_=>ha.1.elim
 |[],[],_::_,hv,_,_,_=>hv.elim
 |_::_,_::_,[],hv,_,_,_=>hv.elim
 |[],_::_,_,_,ha,_,_=>ha.elim
 |_::_,[],_,_,ha,_,_=>ha.elim
theorem ARD{p:XP}{x:XV}{v:Value}(hv:XR E w bx x v)(ha:iZ N m p x){y:p.V}(e:p.get bk x=some y):XR E1 w vw1 (p.mk id y) v:=by
 cases p with
 |c p=>cases x with
  |c x=>exact AFK k hv ha (by grind[XP.get])
  |_=>exact ha.elim
 |agg l=>cases x with
  |agg xs=>
   obtain⟨vs,rfl,Zu⟩:=hv;exact⟨vs,rfl,vN k Zu ha (by grind[XP.get])⟩
  |_=>exact ha.elim
 |row r=>cases x with
  |agg xs=>
   obtain⟨vs,rfl,Zu⟩:=hv;exact⟨vs,rfl,oZ k.within k.boxes k.st k.T Zu (by grind[XP.get])⟩
  |_=>exact ha.elim
 |NM l=>cases x with
  |NM xs=>
   obtain⟨vs,rfl,Zu⟩:=hv;exact⟨vs,rfl,ABV k Zu ha (by grind[XP.get])⟩
  |_=>exact ha.elim
theorem AAN{tm:List XV}{vals:List Value}(htm:Cr (XR E w bx) tm vals):∀{l:List (Nat×XP)},(∀q∈l,∃x,tm[q.1]? =some x/\iZ N m q.2 x)-> ∀{y:G5.V l},G5.get bk tm l=some y->
  Np E1 w vw1 id l y vals
 |[],_,_,_=>trivial
 |(i,p)::l,ha,y,e=>by
  obtain⟨x,hx,hax⟩:=ha (i,p) (by simp);simp only[G5.get,hx,AMp,ALs]at e;obtain⟨a,e1,b,e2,rfl⟩:=e;obtain⟨v,hv,hr⟩:=htm.get hx;exact⟨⟨v,hv,ARD k hr hax e1⟩,AAN htm (fun q hq=>ha q (by simp[hq])) e2⟩
end
structure ABc (E:Env) (w:World) (bx:List Bx) (m:Rn) (s:BK) (x:s.V) (vals:List Value) (E1:Env):Prop where
 boxes:DG E1 w (KJ.mk id s.Hg x.2) (KJ.mk id s.Hg x.2) []
 EK:Np E1 w (KJ.mk id s.Hg x.2) id s.EK x.1 vals
 ids:∀(i b:Nat),m[i]? =some (some b)->E1.Iz i=E.Iz b/\E1.I0 i=E.I0 b
 inj:wN m
 len:m.length=s.Hg.length
 S:∀c,E.S c->E1.S c
 Sof:∀c,E1.S c->E.S c\/ ¬E.T c
 T:∀c,E.T c->E1.T c
 rest:∃Fk,PK E w bx (DD bx m) Fk/\Fk.flatten.Nodup/\(∀c∈Fk.flatten,¬E.T c/\ ¬E1.S c/\c<w.heap.size/\E1.T c)/\(∀c,E1.T c->E.T c\/E1.S c\/c∈Fk.flatten)
theorem sO{E:Env}{w:World}{bx:List Bx}{tm:List XV}{vals:List Value}(hB:DG E w bx bx [])(htm:Cr (XR E w bx) tm vals){s:BK}{m0 m:Rn}{x:s.V}
  {N:Nat} (AEe:∀(i:Nat) d r,s.Hg[i]? =some (.sl d r)->E.I0 (N+i)= .slice none 0 0) (hlen:m0.length=s.Hg.length) (ANu:wN m0) (e:s.fit N m0 tm bx=some (x,m)):Ext m0 m/\ ∃E1,ABc E w bx m s x vals E1:=by
 simp only[BK.fit,AMp,ALs]at e;obtain⟨m1,e1,m2,e2,a,e3,c,e4,e5⟩:=e;cases e5;obtain⟨a1,a2,a3⟩:=kk e1;obtain⟨b1,b2,b4,b3⟩:=ar e2;have hi:wN m:=b3 (a3 ANu);have zU:m.length=s.Hg.length:=by rw[b1.1,a1.1,hlen]
 refine⟨a1.trans b1,?_⟩;obtain⟨Gs,g1,g2,g3⟩:=vR hi hB;obtain⟨q1,q2⟩:=U4 (Kb:=id) e4;have st:=hB.st
 let R:Nat->List Nat->List Nat->List Nat->Prop:=fun k G F W=>
  match s.Hg[k]? with
  |some (.sl d r)=> ∀(b d':Nat) (rows:List r.D),m[k]? =some (some b)->bx[b]? =some (.sl d' r rows)->Ow w (fun c=>E.S c\/c∈W) d (.sl r) [E.I0 b] rows F
  |some (.mem q)=>F=G/\W=[]
  |_=>F=[]/\W=G
 have APm:∀(k:Nat) G,Gs[k]? =some G-> ∃F W,G.Perm (F++W)/\R (0+k) G F W:=by
  intro k G hG;rw[AS9];have hk:k<s.Hg.length:=by
   grind
  have hp:s.Hg[k]? =some s.Hg[k]:=ALk hk;cases hb:s.Hg[k]with
  |mem q=>exact⟨G,[],by simp,by grind⟩
  |gone=>exact⟨[],G,by simp,by grind⟩
  |sl d r=>
   obtain⟨y,y1,b,d',y2,y3,y4,y5⟩:=q2 k _ (hp.trans (by rw[hb]));obtain⟨_,ho⟩:=g2 k b _ G y2 y3 hG;grind[LF]
 obtain⟨Fs,Ws,f1,f2,f3,f4⟩:=w4 Gs 0 APm;obtain⟨Fk,k1,k2⟩:=g3;simp only[ANV]at k2;have gg:Sep E w (Fk.flatten++(Fs.flatten++Ws.flatten)):=k2.perm (ATo _ f3)
 let E1:Env:={
   Iz:=fun i=>match m[i]? with|some (some b)=>E.Iz b|_=>0
   I0:=fun i=>match m[i]? with|some (some b)=>E.I0 b|_=> .nilFunc
   S:=fun c=>E.S c\/c∈Ws.flatten
   T:=fun c=>E.T c\/c∈Ws.flatten\/c∈Fk.flatten }
 have ALZ:∀(i b:Nat),m[i]? =some (some b)->E1.Iz i=E.Iz b/\E1.I0 i=E.I0 b:=fun i b h=>by grind
 have fe:AK5 N E w bx (DD bx m) Fk m E1 (KJ.mk id s.Hg c):={
  within:=Vb (F7.refl bx)
  boxes:=k1
  st:=st
  T:=fun d hd=>hd.elim .inl fun h=> .inr (.inr h)
  S:=fun d hd=> .inl hd
  ids:=ALZ
  len:=by omega
  nil:=fun i d r rows e=>by
   have hk:i<s.Hg.length:=by
    grind
   obtain⟨y,y1,_⟩:=q2 i _ (ALk hk);have hp:=ALk hk;rw[e]at y1
   generalize s.Hg[i]=P at y y1 hp
   cases P with
   |mem q=>cases y1
   |gone=>cases y1
   |sl d0 r0=>grind
  sl:=fun i d r rows hi e=>by
   have hk:i<s.Hg.length:=by omega
   obtain⟨y,y1,y2⟩:=q2 i _ (ALk hk);rw[e]at y1
   generalize s.Hg[i]=P at y y1 y2
   cases P with
   |mem q=>cases y1
   |gone=>cases y1
   |sl d0 r0=>
    simp only[BP.mk,ALl,Bx.sl.injEq]at y1;grind }
 have nd:=gg.nodup;have AI6:∀c∈Fs.flatten,¬E1.T c:=by
  intro d hd h;rcases h with h|h|h
  ·exact gg.free d (by simp[hd]) h
  all_goals grind
 have ASv:Np E1 w (KJ.mk id s.Hg c) id s.EK a vals:=AAN fe htm (fun q hq=>let⟨x,h1,h2⟩:=a2 q hq;⟨x,h1,iZ.ext b1 h2⟩) e3;refine⟨E1,ABc.mk ?_ ASv ALZ hi zU (fun d hd=> .inl hd) ?_ (fun d hd=> .inl hd) ⟨Fk,k1,(ANh.1 nd).1,fun d hd=>⟨gg.free d (by simp[hd]),?_,gg.lt d (by simp[hd]),.inr (.inr hd)⟩,?_⟩⟩
 ·refine⟨Fs,⟨by simp_all,fun k B F hk hF=> ?_⟩,?_⟩
  ·have hkl:k<s.Hg.length:=by
    grind
   have hp:s.Hg[k]? =some s.Hg[k]:=ALk hkl;obtain⟨y,y1,y2⟩:=q2 k _ hp;rw[hk]at y1;cases y1;have hG:Gs[k]? =some (Gs[k]'(by omega)):=ALk _;have hW:Ws[k]? =some (Ws[k]'(by omega)):=ALk _;have hr:=f4 k _ F _ hG hF hW;rw[AS9]at hr;have AUy:∀d∈Ws[k]'(by omega),d∈Ws.flatten:=fun d hd=>APu.2 ⟨_,AOX hW,hd⟩
   generalize Ae3:s.Hg[k]=P at y y2 hp
   have AUg:=fun q=>b2 k q
   simp only[R,hp]at hr;cases P with
   |mem q=>
    obtain⟨b,cs,z1,z2,z3⟩:=y2;obtain⟨rfl,hW0⟩:=hr;obtain⟨hFe,arr,ty,fr,h1,h2,h3⟩:=g2 k b _ _ z1 z2 hG;obtain⟨b',j7,t1,t2,t3⟩:=AUg q hp;rw[AS9,z1]at t1;cases t1;rw[z2]at t2;cases t2;refine⟨by simp_all,arr,ty,fr,by simp_all,h2,vN fe h3 t3 z3⟩
   |sl d r=>
    obtain⟨b,d',z1,z2,z3,z4⟩:=y2;have:=hr b d' y z1 z2;refine⟨z3,?_⟩;rw[(ALZ k b z1).2];exact Er (fun d hd=>hd.elim .inl fun h=> .inr (AUy d h)) (fun _ _=>rfl) (fun _ _=>rfl) this
   |gone=>exact hr.1
  ·simp only[ANV]
   refine⟨(ANh.1 (ANh.1 nd).2.1).1,AI6,fun d hd=>gg.lt d (by simp[hd]),fun d hd=>hd.elim (fun h=> .inl (st d h)) (fun h=> .inr (.inl h)),fun d hd=> ?_,gg.gok.mono (fun _ h=> .inl h) (fun _ _=>rfl)⟩;rcases hd with hd|hd|hd
   ·exact gg.ie d hd
   ·exact gg.lt d (by simp[hd])
   ·exact gg.lt d (by simp[hd])
 ·intro d hd
  exact hd.elim .inl fun h=> .inr (gg.free d (by simp[h]))
 ·intro h
  rcases h with h|h
  ·exact gg.free d (by simp[hd]) (st d h)
  grind
 grind
end Go.Fw
end
section
namespace Go.Fw
def zv:Ty->Value
 | .int k=> .int k 0
 | .bool=> .bool false
 | .str=> .string ⟨#[]⟩
 |_=> .slice none 0 0
def FO:Ty->List Value
 | .cons c r=>zv c::FO r
 | .unit=>[]
 |t=>[zv t]
def Ty.cell:Ty->Bool
 | .unit| .cons _ _=>false
 |_=>true
def Ty.vG:Ty->Bool
 | .cons c r=>c.cell&&r.vG
 |_=>true
def eqZ:Value->Value->Bool
 | .int k n,.int k' n' =>decide (k=k')&&decide (n=n')
 | .bool a,.bool b=>decide (a=b)
 | .string a,.string b=>decide (a.data.toList=[])&&decide (b.data.toList=[])
 | .slice none a b,.slice none c d=>decide (a=c)&&decide (b=d)
 |_,_=>false
theorem ATF{a b:Value}(h:eqZ a b=true):a=b:=by
 unfold eqZ at h;split at h
 ·simp_all
 ·simp_all
 ·rename_i a b
  simp at h;obtain⟨h1,h2⟩:=h;cases a;cases b;simp_all
 all_goals simp_all
def AIK:List Value->List Value->Bool
 |[],[]=>true
 |a::l,b::m=>eqZ a b&&AIK l m
 |_,_=>false
theorem AG4:∀{l m:List Value},AIK l m=true->l=m
 |[],[],_=>rfl
 |a::l,b::m,h=>by
  simp only[AIK,AL8]at h;rw[ATF h.1,AG4 h.2]
 |[],_::_,h=>by simp[AIK]at h
 |_::_,[],h=>by simp[AIK]at h
def ABC(P:Program)(t:Nat):TD->Prop
 | .int k=>P.underlying t=some (.int k)
 | .bool=>P.underlying t=some .bool
 | .str=>P.underlying t=some .string
 | .sl e=>P.underlying t=some (.slice e)
 | .ptr e=>P.underlying t=some (.pointer e)
 | .st fs=> ∃fields,P.underlying t=some (.struct fields)/\fields.toList.map (fun f=>(f.offset,f.type))=fs/\(∀f∈fields.toList,f.name≠ "_" /\ ∃i,P.info? f.type=some i/\i.size≠0)/\
  P.stoodInHeld t=false/\P.eqGuardType P.depth t=false
 | .other=> ∃d,P.underlying t=some d/\d.isRow=false
structure AUW (P:Program) (T:Ky) (t:Nat) (ti:TI):Prop where
 info:∃i,P.info? t=some i/\i.size=ti.size/\i.bytes=ti.bytes/\(∀r,ti.row=some r->r.vG=true/\ ∃z,i.zero=some z/\z.cells.toList=FO r)
 und:ABC P t ti.desc
def E_(P:Program)(T:Ky):Prop:= ∀t ti,T.get t=some ti->AUW P T t ti
def AAv(P:Program)(T:Ky)(t:Nat)(ti:TI):Bool:=
 (match P.info? t with
  |some i=>decide (i.size=ti.size)&&decide (i.bytes=ti.bytes)&&(match ti.row with
   |some r=>r.vG&&(match i.zero with
    |some z=>AIK z.cells.toList (FO r)
    |none=>false)
   |none=>true)
  |none=>false)&&
 (match ti.desc,P.underlying t with
  | .int k,some (.int k')=>decide (k=k')
  | .bool,some .bool=>true
  | .str,some .string=>true
  | .sl e,some (.slice e')=>decide (e=e')
  | .ptr e,some (.pointer e')=>decide (e=e')
  | .st fs,some (.struct fields)=>decide (fields.toList.map (fun f=>(f.offset,f.type))=fs)&&
    fields.toList.all (fun f=>decide (f.name≠ "_")&&(match P.info? f.type with|some i=>decide (i.size≠0)|none=>false))&&
    !P.stoodInHeld t&& !P.eqGuardType P.depth t
  | .other,some d=> !d.isRow
  |_,_=>false)
theorem AA3{P:Program}{T:Ky}{t:Nat}{ti:TI}(h:AAv P T t ti=true):AUW P T t ti:=by
 unfold AAv at h;rw[AL8]at h;obtain⟨h1,h2⟩:=h;constructor
 ·split at h1
  ·rename_i i hi
   simp only[AL8,AM7]at h1;refine⟨i,hi,h1.1.1,h1.1.2,fun r hr=> ?_⟩;obtain⟨_,h3⟩:=h1;rw[hr]at h3;dsimp only at h3;rw[AL8]at h3;grind[AG4]
  simp_all
 grind[ABC]
def AJR(P:Program)(T:Ky):Bool:=T.all fun q=>AAv P T q.1 q.2
theorem Ky.get_mem:∀{T:Ky} {t:Nat} {ti:TI},T.get t=some ti->(t,ti)∈T
 |(u,i)::l,t,ti,h=>by
  simp only[Ky.get]at h;split at h
  ·rename_i e;cases h;subst e;simp
  ·exact AWV _ (Ky.get_mem h)
 |[],_,_,h=>by simp[Ky.get]at h
theorem wD{P:Program}{T:Ky}(h:AJR P T=true):E_ P T:=fun t ti e=>
 AA3 (by simpa using ASm.1 h (t,ti) (Ky.get_mem e))
section
variable{P:Program} {T:Ky} (hT:E_ P T)
include hT
theorem E_.size{t:Nat}{ti:TI}(e:T.get t=some ti):(P.info? t).map (·.size)=some ti.size:=by
 obtain⟨i,h1,h2,_⟩:=(hT t ti e).info;simp_all
theorem E_.sizeOf{t:Nat}{ti:TI}(e:T.get t=some ti)(w:World):(Go.sizeOf t).run P w= .ok ti.size w:=by
 obtain⟨i,h1,h2,_⟩:=(hT t ti e).info;simp[Go.sizeOf,typeInfo,h1,h2]
omit hT in
theorem Bg{t:Nat}{d:TypeDesc}(h:P.underlying t=some d)(w:World):(Go.underlying t).run P w= .ok d w:=by
 simp[Go.underlying,h]
theorem E_.isAgg{t:Nat}{ti:TI}(e:T.get t=some ti)(w:World):(Go.isAgg t).run P w= .ok ti.desc.agg w:=by
 have hu:=(hT t ti e).und;unfold Go.isAgg;cases hd:ti.desc<;>rw[hd]at hu<;>simp only[ABC]at hu
 case st fs=>
  obtain⟨fields,hu,_⟩:=hu;simp[Bg hu,TD.agg]
 case other=>
  obtain⟨d,hu,hd⟩:=hu;rw[Sem.run_bind,Bg hu];cases d<;>simp_all[TypeDesc.isRow,TD.agg]
 all_goals simp[Bg hu,TD.agg]
end
end Go.Fw
end
section
namespace Go.Fw
def Mx{Y:Type}(P:Program)(o:Oper)(E:Env)(σ:St)(a:Act)(w:World)(k:K Y)(y:Y):Prop:=
 ∃v w' E' x σ',((execOp a.eval o).run P w= .ok (.value v) w'\/((execOp a.eval o).run P w= .ok .skip w'/\v=undef))/\Rel E' σ' a w'/\XR E' w' σ'.bx x v/\UC (Ld (fun _=>none) σ o.op) E σ.bx w E' σ'.bx w'/\
  σ'.tm.length=σ.tm.length/\k x σ' =some y
section
variable{Y:Type} {P:Program} {T:Ky} {o:Oper} {E:Env} {σ:St} {a:Act} {w:World} {k:K Y} {y:Y}
theorem Mx.same(h:Rel E σ a w){v:Value}{x:XV}(hr:(execOp a.eval o).run P w= .ok (.value v) w)(hx:XR E w σ.bx x v)(hk:k x σ=some y):Mx P o E σ a w k y:=
 ⟨v,w,E,x,σ,.inl hr,h,hx,UC.refl _ E σ.bx w,rfl,hk⟩
theorem iV{vw:List Bx}{κ:IntKind}{n:Int}{v:Value}(h:VR E w vw (.v (.int κ) n) v):v= .int κ n:=by
 have:=h.2;grind[Rd]
theorem Uh{vw:List Bx}{b:Bool}{v:Value}(h:VR E w vw (.v .bool b) v):v= .bool b:=by
 have:=h.2;grind[Rd]
theorem bH{vw:List Bx}{s:ABG}{v:Value}(h:VR E w vw (.v .str s) v):v= .string ⟨s.toArray⟩:=by
 have:=h.2;grind[Rd]
theorem VR.int{vw:List Bx}(κ:IntKind)(n:Int):VR E w vw (.v (.int κ) n) (.int κ n):=⟨rfl,by rfl⟩
theorem VR.bool{vw:List Bx}(b:Bool):VR E w vw (.v .bool b) (.bool b):=⟨rfl,by rfl⟩
theorem VR.str{vw:List Bx}(s:ABG):VR E w vw (.v .str s) (.string ⟨s.toArray⟩):=⟨rfl,by rfl⟩
theorem aH(s:ABG):ByteArray.toList ⟨s.toArray⟩=s:=by
 simp_all
theorem ABX(a b:ABG):(⟨a.toArray⟩:ByteArray)++⟨b.toArray⟩=⟨(a++b).toArray⟩:=by
 rfl
theorem ACb(op:BinOp)(t:TypeId)(x y:Operand)(u v:Value)(hu:∀l,u≠ .agg l)(hn:u≠ .nilIface)(w:World):(eqGuard op t x y u v).run P w= .ok () w:=by
 unfold eqGuard;simp_all
theorem ACu{op:BinOp}{κ:IntKind}{m n:Int}{k:AV->Option Y}{y:Y}(e:mV op κ m n k=some y)(t:TypeId)(w:World):
  ∃z v,k z=some y/\(binOp op t (.int κ m) (.int κ n)).run P w= .ok v w/\ ∀E vw,VR E w vw z v:=by
 cases op with
 |add=>exact⟨_,.int κ (κ.wrap (m+n)),e,by simp[binOp,Op.intArith],fun _ _=>VR.int _ _⟩
 |sub=>exact⟨_,.int κ (κ.wrap (m-n)),e,by simp[binOp,Op.intArith],fun _ _=>VR.int _ _⟩
 |mul=>exact⟨_,.int κ (κ.wrap (m*n)),e,by simp[binOp,Op.intArith],fun _ _=>VR.int _ _⟩
 |and=>exact⟨_,.int κ (κ.wrap (BitVec.ofInt κ.bits m &&& BitVec.ofInt κ.bits n).toNat),e,by simp[binOp,Op.intBits],fun _ _=>VR.int _ _⟩
 |or=>exact⟨_,.int κ (κ.wrap (BitVec.ofInt κ.bits m ||| BitVec.ofInt κ.bits n).toNat),e,by simp[binOp,Op.intBits],fun _ _=>VR.int _ _⟩
 |xor=>exact⟨_,.int κ (κ.wrap (BitVec.ofInt κ.bits m ^^^ BitVec.ofInt κ.bits n).toNat),e,by simp[binOp,Op.intBits],fun _ _=>VR.int _ _⟩
 |andNot=>exact⟨_,.int κ (κ.wrap (BitVec.ofInt κ.bits m &&& ~~~BitVec.ofInt κ.bits n).toNat),e,by simp[binOp,Op.intBits],fun _ _=>VR.int _ _⟩
 |eql=>exact⟨_,.bool (m==n),e,by simp[binOp,Op.intCmp],fun _ _=>VR.bool _⟩
 |neq=>exact⟨_,.bool (m !=n),e,by simp[binOp,Op.intCmp],fun _ _=>VR.bool _⟩
 |lss=>exact⟨_,.bool (decide (m<n)),e,by simp[binOp,Op.intCmp],fun _ _=>VR.bool _⟩
 |leq=>exact⟨_,.bool (decide (m<=n)),e,by simp[binOp,Op.intCmp],fun _ _=>VR.bool _⟩
 |gtr=>exact⟨_,.bool (decide (m>n)),e,by simp[binOp,Op.intCmp],fun _ _=>VR.bool _⟩
 |geq=>exact⟨_,.bool (decide (m>=n)),e,by simp[binOp,Op.intCmp],fun _ _=>VR.bool _⟩
 |quo=>
  simp only[mV]at e;split at e
  ·cases e
  ·rename_i hz
   exact⟨_,.int κ (κ.wrap (m.tdiv n)),e,by simp[binOp,Op.intDiv,hz],fun _ _=>VR.int _ _⟩
 |rem=>
  simp only[mV]at e;split at e
  ·cases e
  ·rename_i hz
   exact⟨_,.int κ (m.tmod n),e,by simp[binOp,Op.intDiv,hz],fun _ _=>VR.int _ _⟩
 |_=>simp[mV]at e
theorem mY{op:BinOp}{κ κ':IntKind}{m n:Int}{k:AV->Option Y}{y:Y}(e:da op κ m n k=some y)(t:TypeId)(w:World):
  ∃z v,k z=some y/\(binOp op t (.int κ m) (.int κ' n)).run P w= .ok v w/\ ∀E vw,VR E w vw z v:=by
 unfold da at e;split at e
 ·cases e
 ·rename_i hn
  cases op with
  |shl=>exact⟨_,.int κ (κ.wrap (m*2^min n.toNat κ.bits)),e,by simp[binOp,Op.shift,hn],fun _ _=>VR.int _ _⟩
  |shr=>exact⟨_,.int κ (m.fdiv (2^min n.toNat κ.bits)),e,by simp[binOp,Op.shift,hn],fun _ _=>VR.int _ _⟩
  |_=>simp at e
theorem ADP{op:BinOp}{s u:ABG}{k:AV->Option Y}{y:Y}(e:oS op s u k=some y)(t:TypeId)(w:World):
  ∃z v,k z=some y/\(binOp op t (.string ⟨s.toArray⟩) (.string ⟨u.toArray⟩)).run P w= .ok v w/\ ∀E vw,VR E w vw z v:=by
 have h1:=aH s;have h2:=aH u;cases op with
 |eql=>exact⟨_,.bool (s==u),e,by simp[binOp,Op.stringOp,h1,h2],fun _ _=>VR.bool _⟩
 |neq=>exact⟨_,.bool (!(s==u)),e,by simp[binOp,Op.stringOp,h1,h2],fun _ _=>VR.bool _⟩
 |lss=>exact⟨_,.bool (Op.bytesLess s u),e,by simp[binOp,Op.stringOp,h1,h2],fun _ _=>VR.bool _⟩
 |leq=>exact⟨_,.bool (Op.bytesLess s u||s==u),e,by simp[binOp,Op.stringOp,h1,h2],fun _ _=>VR.bool _⟩
 |gtr=>exact⟨_,.bool (!(Op.bytesLess s u||s==u)),e,by simp[binOp,Op.stringOp,h1,h2],fun _ _=>VR.bool _⟩
 |geq=>exact⟨_,.bool (!Op.bytesLess s u),e,by simp[binOp,Op.stringOp,h1,h2],fun _ _=>VR.bool _⟩
 |add=>
  simp only[oS]at e;split at e
  ·rename_i hl
   refine⟨_,.string ⟨(s++u).toArray⟩,e,?_,fun _ _=>VR.str _⟩;have hs:(⟨s.toArray⟩:ByteArray).size=s.length:=by rfl
   have hu:(⟨u.toArray⟩:ByteArray).size=u.length:=by rfl
   have aN: ¬(((⟨s.toArray⟩:ByteArray).size+(⟨u.toArray⟩:ByteArray).size:Nat):Int)>IntKind.i64.max:=by
    grind[C7,IntKind.max,IntKind.signed,IntKind.bits]
   simp only[binOp,Op.stringOp,Sem.run_ite,ALj aN,ABX];rfl
  simp_all
 |_=>simp[oS]at e
theorem AA8{d:TD}{x z:AV}{p:Bool}(e:yK d x z=some p){E:Env}{w:World}{vw:List Bx}{v u:Value}(hx:VR E w vw x v)(hz:VR E w vw z u){t:TypeId}
  (hu:ABC P t d) (n:Nat):(Op.equalIn (n+1) t v u).run P w= .ok p w/\d.agg=false:=by
 unfold yK at e;split at e
 ·rename_i κ j a k b
  split at e
  ·rename_i hj
   subst hj;cases e;rw[iV hx,iV hz];exact⟨run_equalIn_int (P:=P) w n t j κ a b hu,rfl⟩
  simp_all
 ·cases e
  rw[Uh hx,Uh hz];exact⟨run_equalIn_bool' (P:=P) w n t _ _ hu,rfl⟩
 ·cases e
  rename_i a b;rw[bH hx,bH hz];have q:=run_equalIn_string (P:=P) w n t ⟨a.toArray⟩ ⟨b.toArray⟩ hu;rw[aH,aH]at q;exact⟨q,rfl⟩
 simp_all
theorem mX{T:Ky}(hT:E_ P T){E:Env}{w:World}{vw:List Bx}{xs ys:Array Value}:∀{fields:List Field} {i:Nat} {l m:List AV} {vs us:List Value} {r:Bool},
  (∀f∈fields,f.name≠ "_")->oU E w vw l vs->oU E w vw m us->MH T i (fields.map fun f=>(f.offset,f.type)) l m=some r->
  (∀(j:Nat) v,vs[j]? =some v->xs[i+j]? =some v)->(∀(j:Nat) v,us[j]? =some v->ys[i+j]? =some v)->(Op.eqFields 9999 xs ys fields).run P w= .ok r w
 |[],i,[],[],_,_,r,_,_,_,e,_,_=>by
  simp only[AUB,MH,ALl]at e;subst e;rfl
 |f::fs,i,x::l,z::m,v::vs,u::us,r,hn,hx,hz,e,h1,h2=>by
  simp only[ATU,MH]at e;split at e
  case isFalse=>cases e
  rename_i ho;have hv:=h1 0 v rfl;have hu:=h2 0 u rfl;simp only[ATL]at hv hu;have AUG:=hn f (by simp);split at e
  case h_2=>cases e
  rename_i ti Yj;split at e
  case h_2=>cases e
  rename_i p hp;simp only[ALs]at e;obtain⟨r',e',rfl⟩:=e;have AZY:=mX hT (fields:=fs) (i:=i+1) (l:=l) (m:=m) (vs:=vs) (us:=us) (r:=r') (fun f hf=>hn f (by simp[hf])) hx.2 hz.2 e'
   (fun j v' hj=>by have:=h1 (j+1) v' (by simp_all);rwa [show i+(j+1)=i+1+j by omega]at this)
   (fun j v' hj=>by have:=h2 (j+1) v' (by simp_all);rwa [show i+(j+1)=i+1+j by omega]at this)
  have pA:=(hT f.type ti Yj).und;obtain⟨q,na⟩:=AA8 (P:=P) hp hx.1 hz.1 (t:=f.type) pA 9998;have pM:=E_.isAgg hT Yj w;rw[na]at pM;have p1:(part f.type xs f.offset).run P w= .ok v w:=by simp[part,pM,ho,hv]
  have p2:(part f.type ys f.offset).run P w= .ok u w:=by simp[part,pM,ho,hu]
  simp only[Op.eqFields,AUG,ne_eq,not_false_eq_true,AQm,Sem.run_bind,p1,p2,Result.andThen_ok,q,AZY,Sem.run_ite,Sem.run_pure];grind
 |[],_,_::_,_,_,_,_,_,_,_,e,_,_=>by simp[MH]at e
 |[],_,[],_::_,_,_,_,_,_,_,e,_,_=>by simp[MH]at e
 |_::_,_,[],_,_,_,_,_,_,_,e,_,_=>by simp[MH]at e
 |_::_,_,x::_,[],_,_,_,_,_,_,e,_,_=>by simp[MH]at e
 |_::_,_,_::_,_::_,[],_,_,_,hx,_,_,_,_=>hx.elim
 |_::_,_,_::_,_::_,_::_,[],_,_,_,hz,_,_,_=>hz.elim
theorem wg(op:BinOp)(t:TypeId)(p q:Bool)(hu:P.underlying t=some .bool)(w:World):(op= .eql->(binOp op t (.bool p) (.bool q)).run P w= .ok (.bool (p==q)) w)/\
  (op= .neq->(binOp op t (.bool p) (.bool q)).run P w= .ok (.bool (!(p==q))) w):=by
 have h:=run_equalIn_bool' (P:=P) w 9999 t p q hu;constructor
 ·rintro rfl
  grind[binOp,Op.equal,Op.maxDepth,Sem.run_bind,Result.andThen_ok,Sem.run_pure]
 ·rintro rfl
  grind[binOp,Op.equal,Op.maxDepth,Sem.run_bind,Result.andThen_ok,Sem.run_pure]
theorem nN{T:Ky}(hT:E_ P T){t:Nat}{op:BinOp}{x z:XV}{k:AV->Option Y}{y:Y}(e:AC8 T t op x z k=some y){E:Env}{w:World}{vw:List Bx}{v u:Value}
  (hx:XR E w vw x v) (hz:XR E w vw z u) (ox oz:Operand):
  ∃r val,k r=some y/\(do eqGuard op t ox oz v u;binOp op t v u:Sem Value).run P w= .ok val w/\VR E w vw r val:=by
 have guard:∀(v u:Value),(∀l,v≠ .agg l)->v≠ .nilIface-> ∀val,(binOp op t v u).run P w= .ok val w->(do eqGuard op t ox oz v u;binOp op t v u:Sem Value).run P w= .ok val w:=by
  grind[Sem.run_bind,ACb,Result.andThen_ok]
 unfold AC8 at e;split at e
 ·rename_i j m j' n
  have hv:=iV (E:=E) (vw:=vw) hx;have hu:=iV (E:=E) (vw:=vw) hz;subst hv hu;have done:∀(q:∃r val,k r=some y/\(binOp op t (.int j m) (.int j' n)).run P w= .ok val w/\ ∀E vw,VR E w vw r val),∃r val,k r=some y/\(do eqGuard op t ox oz (.int j m) (.int j' n);binOp op t (.int j m) (.int j' n):Sem Value).run P w= .ok val w/\VR E w vw r val:=by
   grind
  split at e
  ·exact done (mY e t w)
  ·exact done (mY e t w)
  ·split at e
   ·rename_i hj
    subst hj;exact done (ACu e t w)
   simp_all
 ·rename_i s s'
  have hv:=bH (E:=E) (vw:=vw) hx;have hu:=bH (E:=E) (vw:=vw) hz;subst hv hu;obtain⟨r,val,h1,h2,h3⟩:=ADP (P:=P) e t w;grind
 ·rename_i p q
  have hv:=Uh (E:=E) (vw:=vw) hx;have hu:=Uh (E:=E) (vw:=vw) hz;subst hv hu;split at e
  ·rename_i ti Yj
   have pA:=(hT t ti Yj).und;split at e
   ·rename_i hd
    rw[hd]at pA;split at e
    ·exact⟨_,_,e,guard _ _ (by simp) (by simp) _ ((wg _ t p q pA w).1 rfl),VR.bool _⟩
    ·exact⟨_,_,e,guard _ _ (by simp) (by simp) _ ((wg _ t p q pA w).2 rfl),VR.bool _⟩
    simp_all
   simp_all
  simp_all
 ·rename_i l m
  obtain⟨vs,rfl,Zu⟩:=hx;obtain⟨us,rfl,hus⟩:=hz;have key:∀r,((T.fields t).bind fun fs=>MH T 0 fs l m)=some r->(Op.equalIn 10000 t (.agg vs) (.agg us)).run P w= .ok r w/\P.eqGuardType P.depth t=false:=by
   intro r hr;simp only[AMp]at hr;obtain⟨fs,hf,hr⟩:=hr;unfold Ky.fields at hf;split at hf
   ·rename_i fs' hd
    cases hf;simp only[ALs]at hd;obtain⟨ti,Yj,hd⟩:=hd;have pA:=(hT t ti Yj).und;rw[hd]at pA;obtain⟨fields,hu,hfs,hnm,yS,hg⟩:=pA;grind[Program.fieldsOf,run_equalIn_agg,mX]
   simp_all
  split at e
  ·rename_i r hr
   obtain⟨q,hg⟩:=key r hr;refine⟨_,_,e,?_,VR.bool r⟩;grind[Sem.run_bind,run_eqGuard_agg,Result.andThen_ok,run_eql_struct]
  ·rename_i r hr
   obtain⟨q,hg⟩:=key r hr;refine⟨_,_,e,?_,VR.bool (!r)⟩;grind[Sem.run_bind,run_eqGuard_agg,Result.andThen_ok,run_neq_struct]
  simp_all
 simp_all
end
end Go.Fw
end
section
namespace Go.Fw
section
variable{Y:Type} {P:Program} {T:Ky} (hT:E_ P T) {E:Env} {w:World} {vw:List Bx}
include hT
theorem AMK{t:Nat}{s b:Nat}{fs:List AD3}{rw:Option Ty}(e:T.get t=some ⟨s,b,.st fs,rw⟩):∃fields,P.underlying t=some (.struct fields)/\fields.toList.map (fun f=>(f.offset,f.type))=fs/\
  ∀f∈fields.toList,∃i,P.info? f.type=some i/\i.size≠0:=by
 obtain⟨fields,h1,h2,h3,_⟩:=(hT t _ e).und;simp_all
omit hT in
theorem xt{a:Addr}{f:Field}(h:∃i,P.info? f.type=some i/\i.size≠0):(fieldPlace a f).run P w= .ok (a.add f.offset) w:=by
 obtain⟨i,h1,h2⟩:=h;simp[fieldPlace,Go.sizeOf,typeInfo,h1,h2]
theorem YI{t:Nat}{s b:Nat}{fs:List AD3}{rw:Option Ty}(e:T.get t=some ⟨s,b,.st fs,rw⟩){f o u:Nat}(hf:fs[f]? =some (o,u)){a:Addr}:
  (Instr.fieldAt t (.pointer (some a)) f).run P w= .ok (.pointer (some (a.add o))) w:=by
 obtain⟨fields,h1,h2,h3⟩:=AMK hT e;subst h2;simp only[APl,ALs]at hf;obtain⟨fld,hfl,he⟩:=hf;have hm:=AOX hfl;have hfa:fields[f]? =some fld:=by simp_all
 simp only[APJ]at he;simp[Instr.fieldAt,Bg h1,hfa,Instr.sureAddr,xt (h3 fld hm),he.1]
theorem oQ{t:Nat}{x z:XV}{f:Nat}(e:AAc T t x f=some z){v:Value}(hx:XR E w vw x v):∃u,(Instr.fieldAt t v f).run P w= .ok u w/\XR E w vw z u:=by
 unfold AAc at e;split at e
 case h_2=>cases e
 rename_i s b fs _ Yj;split at e
 case h_2=>cases e
 rename_i o u hf;split at e
 ·rename_i b' j
  cases e;obtain⟨h1,rfl⟩:=hx;exact⟨_,YI hT Yj hf,h1,by rw[Addr.add_eq]⟩
 ·rename_i b' p i sz j
  cases e;obtain⟨h0,h1⟩:=hx;cases v with
  |pointer oa=>
   cases oa with
   |none=>simp[iw]at h0
   |some a=>
    obtain⟨ab,ao,sp⟩:=a;cases sp with
    |some _=>simp[iw]at h0
    |none=>
     refine⟨_,YI hT Yj hf,by rw[Addr.add_eq];rfl,?_⟩;revert h1;split
     ·rintro⟨hp,q,ys,bb,o',len,cap,g1,g2,g3,g4⟩
      refine⟨hp,q,ys,bb,o',len,cap,g1,g2,g3,?_⟩;simp only[Value.pointer.injEq,ALl,Addr.mk.injEq,AQs]at g4;grind[Addr.add_eq,Nat.add_assoc]
     all_goals simp_all
  |_=>simp[iw]at h0
 ·rename_i s r y j
  cases e;obtain⟨bb,o',cs,rfl,h2,h3,h4,h5⟩:=hx;refine⟨_,YI hT Yj hf,bb,o',cs,?_,h2,h3,h4,h5⟩;rw[Addr.add_eq,ATK]
 simp_all
theorem sg{t:Nat}{x z:XV}{f:Nat}(e:AJJ T t x f=some z){v:Value}(hx:XR E w vw x v):∃u,(Instr.field t v f).run P w= .ok u w/\XR E w vw z u:=by
 unfold AJJ at e;split at e
 case h_2=>cases e
 rename_i s b fs _ l Yj;obtain⟨vs,rfl,Zu⟩:=hx;split at e
 case h_2=>cases e
 rename_i o u hf;split at e
 case h_2=>cases e
 rename_i ti htu;obtain⟨fields,h1,h2,h3⟩:=AMK hT Yj;subst h2;simp only[APl,ALs]at hf;obtain⟨fld,hfl,he⟩:=hf;have hfa:fields[f]? =some fld:=by simp_all
 simp only[APJ]at he;obtain⟨rfl,rfl⟩:=he;have pM:=E_.isAgg hT htu w;have NN:=E_.sizeOf hT htu w;split at e
 ·rename_i ha
  cases e;rw[ha]at pM;refine⟨.agg (vs.extract fld.offset (fld.offset+ti.size)),?_,_,rfl,?_⟩
  ·simp[Instr.field,Bg h1,hfa,asAgg,part,pM,NN]
  ·have:(vs.extract fld.offset (fld.offset+ti.size)).toList=(vs.toList.drop fld.offset).take ti.size:=by
    simp_all
   rw[this];exact Cr.take _ (Cr.drop _ Zu)
 ·rename_i ha
  simp only[AO7]at ha;rw[ha]at pM;simp only[ALs]at e;obtain⟨y,hy,rfl⟩:=e;obtain⟨v,hv,hr⟩:=Cr.get Zu hy;refine⟨v,?_,hr⟩;have:vs[fld.offset]? =some v:=by simp_all
  simp[Instr.field,Bg h1,hfa,asAgg,part,pM,this]
theorem Lk{t:Nat}{r:Ty}(h:T.PL t r=true):∃e ti,P.underlying t=some (.slice e)/\T.get e=some ti/\ti.size=r.n/\ti.bytes<=512/\ti.row=some r:=by
 unfold Ky.PL at h;split at h
 ·rename_i ti Yj
  simp only[AL8,AM7]at h;unfold Ky.elem at Yj;split at Yj
  ·rename_i e hd
   simp only[ALs]at hd;obtain⟨tj,h1,h2⟩:=hd;have:=(hT t tj h1).und;rw[h2]at this;exact⟨e,ti,this,Yj,h.1.1,h.1.2,h.2⟩
  simp_all
 simp_all
theorem bS{t:Nat}(h:T.isStr t=true):P.underlying t=some .string:=by
 unfold Ky.isStr at h;split at h
 ·rename_i hd
  simp only[ALs]at hd;obtain⟨tj,h1,h2⟩:=hd;have:=(hT t tj h1).und;rw[h2]at this;exact this
 simp_all
theorem rr{t:Nat}(h:T.AM3 t=true):∃e,P.underlying t=some (.slice e):=by
 unfold Ky.AM3 at h;split at h
 ·rename_i e hd
  simp only[ALs]at hd;obtain⟨tj,h1,h2⟩:=hd;have:=(hT t tj h1).und;rw[h2]at this;exact⟨e,this⟩
 simp_all
omit hT in
theorem Jg{x:XV}{n:Int}(e:kc x=some n){v:Value}(hx:XR E w vw x v):∃κ,v= .int κ n:=by
 unfold kc at e;split at e
 ·cases e;exact⟨_,iV (E:=E) (w:=w) (vw:=vw) hx⟩
 ·cases e
theorem kZ{t:Nat}{r:Ty}(h:T.PL t r=true){κ:IntKind}{i:Int}{a:Addr}{len cap:Nat}(h0:0<=i)(h1:i<(len:Int)):
  (Instr.indexAt t (.slice (some a) len cap) (.int κ i)).run P w= .ok (.pointer (some (a.add (i.toNat*r.n)))) w:=by
 obtain⟨e,ti,hu,Yj,hs,_⟩:=Lk hT h;have NN:=E_.sizeOf hT Yj w;simp[Instr.indexAt,asIntOf,Bg hu,h0,h1,NN,hs]
omit hT in
theorem AFw{bx:List Bx}{Fs:List ABu}(hB:PK E w bx bx Fs)(st:∀c,E.S c->E.T c){x:AV}{v:Value}(hv:VR E w bx x v){q:Ty}{ys:List q.D}(e:O3 bx x=some ⟨q,ys⟩):
  ∃a cap,v= .slice a ys.length cap/\ys.length<=cap/\(ys.length=0\/ ∃b o,a=some ⟨b,o,none⟩):=by
 have:=gU (F7.refl bx) hB st hv e;simp only[Rd]at this;obtain⟨a,cap,h1,h2,h3⟩:=this;simp only[AOx,AQs]at h1;exact⟨a,cap,h1,h2,h3.imp id fun⟨b,o,h,_⟩=>⟨b,o,h⟩⟩
theorem pL{σ:St}{Fs:List ABu}(hB:PK E w σ.bx σ.bx Fs)(st:∀c,E.S c->E.T c){t:Nat}{x i:XV}{k:K Y}{y:Y}(e:q7 σ T t x i k=some y){v u:Value}
  (hx:XR E w σ.bx x v) (hi:XR E w σ.bx i u):∃z val,k z σ=some y/\(Instr.indexAt t v u).run P w= .ok val w/\XR E w σ.bx z val:=by
 unfold q7 at e;split at e
 ·rename_i s r rows n hn
  obtain⟨κ,rfl⟩:=Jg hn hi;split at e
  case isFalse=>cases e
  rename_i Xj;split at e
  case isFalse=>cases e
  rename_i hb;obtain⟨h0,h1⟩:=hb;simp only[XR,VR,Rd]at hx;obtain⟨a,cap,hv,hl,hx⟩:=hx;simp only[AOx,AQs]at hv;subst hv;rcases hx with hx|⟨b,o,rfl,hb,hx⟩
  ·omega
  ·have JN:n.toNat<rows.length:=by omega
   obtain⟨cs,c1,c2,c3⟩:=hx n.toNat _ (Tl JN);refine⟨_,_,e,kZ hT Xj h0 h1,b,o+n.toNat*r.n,cs,?_,by omega,c1,c2,by omega⟩;rw[Addr.add_eq];rfl
 ·rename_i b p n hn
  obtain⟨κ,rfl⟩:=Jg hn hi;split at e
  case h_2=>cases e
  rename_i q hq;split at e
  case isFalse=>cases e
  rename_i Xj;split at e
  case isFalse=>cases e
  rename_i hb;obtain⟨h0,h1⟩:=hb
  change VR E w σ.bx (.ref b p) v at hx
  obtain⟨a,cap,rfl,hl,ha⟩:=AFw hB st hx hq;rcases ha with ha|⟨b',o,rfl⟩
  ·omega
  ·refine⟨_,_,e,kZ hT Xj h0 h1,by rw[Addr.add_eq];rfl,?_⟩
   simp only[O3]at hq;obtain⟨_,hx⟩:=hx;grind[Addr.add_eq]
 ·rename_i b p off n' n hn
  obtain⟨κ,rfl⟩:=Jg hn hi;split at e
  case h_2=>cases e
  rename_i q hq;split at e
  case isFalse=>cases e
  rename_i Xj;split at e
  case isFalse=>cases e
  rename_i hb;obtain⟨h0,h1⟩:=hb;simp only[O3]at hq;obtain⟨h00,hx⟩:=hx;revert hx;split
  ·rename_i d r rows hbx
   rw[hbx]at hq;dsimp only at hq
   rintro⟨hp,q',ys,a,len,cap,g1,g2,g3,rfl⟩
   have dC:=kH (F7.refl _) hB st hbx hp g1 g3;simp only[Rd]at dC;obtain⟨a',cap',ee,hle,dC⟩:=dC;simp only[AOx,Value.slice.injEq,AQs]at ee;obtain⟨rfl,rfl,rfl⟩:=ee;rcases dC with dC|⟨b',o,rfl,_,_⟩
   ·omega
   ·unfold Zc
    rw[ALj (by omega)];have hq1:q.1=q':=by
     grind
    refine⟨_,_,e,kZ hT Xj h0 h1,by simp only[Option.map];rw[Addr.add_eq,Addr.add_eq];rfl,?_⟩;grind[Addr.add_eq,Nat.add_assoc,Nat.add_mul]
  all_goals simp_all
 simp_all
theorem je{σ:St}{t:Nat}{x i:XV}{k:K Y}{y:Y}(e:bC T t σ x i k=some y){v u:Value}(hx:XR E w vw x v)(hi:XR E w vw i u):
  ∃z val,k z σ=some y/\(Instr.index t v u).run P w= .ok val w/\XR E w vw z val:=by
 unfold bC at e;split at e
 ·rename_i s n hn
  obtain⟨κ,rfl⟩:=Jg hn hi;have hv:=bH (E:=E) (w:=w) (vw:=vw) hx;subst hv;split at e
  case isFalse=>cases e
  rename_i yS;split at e
  case isFalse=>cases e
  rename_i hb;obtain⟨h0,h1⟩:=hb;refine⟨_,.int .u8 ((s.getD n.toNat 0).toNat:Int),e,?_,VR.int (E:=E) (vw:=vw) _ _⟩;have JN:n.toNat<s.length:=by omega
  have:(⟨s.toArray⟩:ByteArray)[n.toNat]? =some s[n.toNat]:=by
   rw[getElem?_pos _ _ (by grind[ByteArray.size])];rfl
  simp[Instr.index,asIntOf,Bg (bS hT yS),h0,this,JN]
 simp_all
omit hT in
theorem ki{x z:XV}{i:Nat}(e:wm x i=some z){v:Value}(hx:XR E w vw x v):∃u,(Instr.extract v i).run P w= .ok u w/\XR E w vw z u:=by
 unfold wm at e;split at e
 case h_2=>cases e
 rename_i l;obtain⟨vs,rfl,Zu⟩:=hx;split at e
 ·rename_i x hx
  cases e;obtain⟨v,hv,hr⟩:=Zu.get hx;have:vs[i]? =some v:=by simpa using hv
  exact⟨v,by simp[Instr.extract,this],hr⟩
 ·rename_i q hx
  cases e;obtain⟨v,hv,ws,rfl,hr⟩:=Zu.get hx;have:vs[i]? =some (.agg ws):=by simpa using hv
  exact⟨.agg ws,by simp[Instr.extract,this],ws,rfl,hr⟩
 ·cases e
omit hT in
theorem sk{bx:List Bx}{Fs:List ABu}(hB:PK E w bx bx Fs)(st:∀c,E.S c->E.T c){x:AV}{n:Nat}(e:lenOf bx x=some n){v:Value}(hx:VR E w bx x v):
  ∃a cap,v= .slice a n cap:=by
 cases x with
 |nil=>simp only[lenOf,ALl]at e;subst e;exact⟨_,_,hx⟩
 |sl s r x=>
  simp only[lenOf,ALl]at e;subst e;simp only[VR,Rd]at hx;obtain⟨a,cap,h,_⟩:=hx;simp only[AOx,AQs]at h;exact⟨a,cap,h⟩
 |ref b p=>
  simp only[lenOf]at e;split at e
  ·rename_i d r rows hb
   simp only[ALs]at e;obtain⟨q,hq,rfl⟩:=e;obtain⟨a,cap,h,_⟩:=AFw hB st hx (q:=q.1) (ys:=q.2) (by simp only[O3,hb];exact hq);exact⟨a,cap,h⟩
  ·cases e
 |win b p off m=>
  simp only[lenOf]at e;split at e
  ·rename_i d r rows hb
   cases e;simp only[VR,hb]at hx;obtain⟨_,_,q,ys,a,len,cap,_,_,_,rfl⟩:=hx;exact⟨_,_,rfl⟩
  ·cases e
 |_=>simp[lenOf]at e
omit hT in
theorem Wa{big:Bool}{x z:XV}{k:AV->Option Y}{y:Y}(e:AAt big x z k=some y){v u:Value}(hx:XR E w vw x v)(hz:XR E w vw z u)(t s:Array TypeId)(tt:TypeId):
  ∃r val,k r=some y/\(if big then Builtin.max_ t tt #[v,u]else Builtin.min_ t tt #[v,u]).run P w= .ok val w/\VR E w vw r val:=by
 unfold AAt at e;split at e
 ·rename_i j m j' n
  have hv:=iV (E:=E) (w:=w) (vw:=vw) hx;have hu:=iV (E:=E) (w:=w) (vw:=vw) hz;subst hv hu;split at e
  case isFalse=>cases e
  rename_i hj;subst hj;cases big with
  |true=>exact⟨_,.int j (if n>m then n else m),e,by simp[Builtin.max_,Builtin.max2],VR.int _ _⟩
  |false=>exact⟨_,.int j (if n<m then n else m),e,by simp[Builtin.min_,Builtin.min2],VR.int _ _⟩
 ·cases e
omit hT in
theorem rq{op:UnOp}{x:XV}{k:AV->Option Y}{y:Y}(e:unX op x k=some y){v:Value}(hx:XR E w vw x v):
  ∃r val,k r=some y/\(Op.unary op v).run P w= .ok val w/\VR E w vw r val:=by
 unfold unX at e;split at e
 ·have hv:=Uh (E:=E) (w:=w) (vw:=vw) hx
  subst hv;exact⟨_,_,e,by simp[Op.unary],VR.bool _⟩
 ·rename_i j n
  have hv:=iV (E:=E) (w:=w) (vw:=vw) hx;subst hv;exact⟨_,.int j (j.wrap (0-n)),e,by simp[Op.unary,Op.intArith],VR.int _ _⟩
 ·cases e
end
end Go.Fw
end
section
namespace Go.Fw
theorem Tw{a:Ty}(x:a.D):v7 rfl x=x:=rfl
theorem lq{w:World}{S:Nat->Prop}:∀{r:Ty} {d j:Nat} {cs:List Value} {x:r.D} {F:ABu} {t:Ty} {y:t.D},Ow w S d r cs x F->Ba r j x=some ⟨t,y⟩->
  ∃v F1 F2,cs[j]? =some v/\Ow w S d t [v] y F1/\F.Perm (F1++F2)/\
   ∀(w':World) (S':Nat->Prop) (v':Value) (y':t.D) (vI:ABu) (x':r.D),(∀b,S b->S' b)->(∀b,S b->w'.heap[b]? =w.heap[b]?)->(∀b∈F2,w'.heap[b]? =w.heap[b]?)->
    Ow w' S' d t [v'] y' vI->EN r j x t y' =some x'-> ∃F',F'.Perm (vI++F2)/\Ow w' S' d r (cs.set j v') x' F'
 | .cons c r,d,0,cs,x,F,t,y,h,e=>by
  simp only[Ow]at h;obtain⟨v,l,A,B,rfl,rfl,h1,h2⟩:=h;simp only[Ba,ALl,AN3]at e;obtain⟨rfl,e⟩:=e;obtain rfl:=APR e;refine⟨v,A,B,rfl,h1,AWh _,fun w' S' v' y' vI x' hS hSw hF ho hx=> ?_⟩;simp only[EN,AVX,Tw,ALl]at hx;subst hx;refine⟨vI++B,AWh _,?_⟩;simp only[Ow,ATl];exact⟨v',l,vI,B,rfl,rfl,ho,Er hS hSw hF h2⟩
 | .cons c r,d,j+1,cs,x,F,t,y,h,e=>by
  simp only[Ow]at h;obtain⟨v,l,A,B,rfl,rfl,h1,h2⟩:=h;simp only[Ba]at e;obtain⟨u,F1,F2,k1,k2,k3,k4⟩:=lq h2 e;refine⟨u,F1,A++F2,by simp_all,k2,?_,fun w' S' v' y' vI x' hS hSw hF ho hx=> ?_⟩
  ·grind
  ·simp only[EN,ALs]at hx
   obtain⟨z,hz,rfl⟩:=hx;obtain⟨F',p1,p2⟩:=k4 w' S' v' y' vI z hS hSw (fun b hb=>hF b (by simp[hb])) ho hz;refine⟨A++F',?_,?_⟩
   ·grind
   ·simp only[Ow,List.set_cons_succ]
    exact⟨v,_,A,F',rfl,rfl,Er hS hSw (fun b hb=>hF b (by simp[hb])) h1,p2⟩
 | .int k,d,0,cs,x,F,t,y,h,e=>by
  simp only[Ba,ALl,AN3]at e;obtain⟨rfl,e⟩:=e;obtain rfl:=APR e;have hc:=cj h;obtain⟨v,rfl⟩:∃v,cs=[v]:=by
   cases cs with
   |nil=>simp[Ty.n]at hc
   |cons a l=>grind[Ty.n]
  refine⟨v,F,[],rfl,h,by simp,fun w' S' v' y' vI x' hS hSw hF ho hx=>⟨vI,by simp,?_⟩⟩;simp only[EN,AVX,Tw,ALl]at hx;simp_all
 | .bool,d,0,cs,x,F,t,y,h,e=>by
  simp only[Ba,ALl,AN3]at e;obtain⟨rfl,e⟩:=e;obtain rfl:=APR e;have hc:=cj h;obtain⟨v,rfl⟩:∃v,cs=[v]:=by
   cases cs with
   |nil=>simp[Ty.n]at hc
   |cons a l=>grind[Ty.n]
  refine⟨v,F,[],rfl,h,by simp,fun w' S' v' y' vI x' hS hSw hF ho hx=>⟨vI,by simp,?_⟩⟩;simp only[EN,AVX,Tw,ALl]at hx;simp_all
 | .str,d,0,cs,x,F,t,y,h,e=>by
  simp only[Ba,ALl,AN3]at e;obtain⟨rfl,e⟩:=e;obtain rfl:=APR e;have hc:=cj h;obtain⟨v,rfl⟩:∃v,cs=[v]:=by
   cases cs with
   |nil=>simp[Ty.n]at hc
   |cons a l=>grind[Ty.n]
  refine⟨v,F,[],rfl,h,by simp,fun w' S' v' y' vI x' hS hSw hF ho hx=>⟨vI,by simp,?_⟩⟩;simp only[EN,AVX,Tw,ALl]at hx;simp_all
 | .sl r,d,0,cs,x,F,t,y,h,e=>by
  simp only[Ba,ALl,AN3]at e;obtain⟨rfl,e⟩:=e;obtain rfl:=APR e;have hc:=cj h;obtain⟨v,rfl⟩:∃v,cs=[v]:=by
   cases cs with
   |nil=>simp[Ty.n]at hc
   |cons a l=>grind[Ty.n]
  refine⟨v,F,[],rfl,h,by simp,fun w' S' v' y' vI x' hS hSw hF ho hx=>⟨vI,by simp,?_⟩⟩;simp only[EN,AVX,Tw,ALl]at hx;simp_all
 | .unit,_,_,_,_,_,_,_,_,e=>by simp[Ba]at e
 | .int _,_,_+1,_,_,_,_,_,_,e=>by simp[Ba]at e
 | .bool,_,_+1,_,_,_,_,_,_,e=>by simp[Ba]at e
 | .str,_,_+1,_,_,_,_,_,_,e=>by simp[Ba]at e
 | .sl _,_,_+1,_,_,_,_,_,_,e=>by simp[Ba]at e
theorem sP{Fs:List ABu}{i:Nat}{G G':ABu}(h:Fs[i]? =some G):(Fs.set i G').flatten.Perm (G'++(Fs.set i []).flatten):=by
 have JN:=(AL1.1 h).1;have p1:=Ym (Fs:=Fs.set i G') (b:=i) (F:=G') (ASO (by omega));simp_all
theorem ABo{w:World}{S:Nat->Prop}{d:Nat}{q:Ty}{a:Option Addr}{len cap:Nat}{ys:List q.D}{F:ABu}(h:Ow w S (d+1) (.sl q) [.slice a len cap] ys F){i:Nat}(hi:i<ys.length):
  ∃b o arr ty fr cs G R,a=some ⟨b,o,none⟩/\w.heap[b]? =some (.cells arr ty fr)/\ADI fr arr.size/\o+i*q.n+q.n<=arr.size/\cs.length=q.n/\Bj w b (o+i*q.n) cs/\
   Ow w S d q cs (rowAt q ys i) G/\F.Perm (G++(b::R))/\
   ∀(w':World) (S':Nat->Prop) (Lq:Array Value) (j7:List Value) (fm:q.D) (G':ABu),(∀c,S c->S' c)->(∀c,S c->w'.heap[c]? =w.heap[c]?)->(∀c∈R,w'.heap[c]? =w.heap[c]?)->
    w'.heap[b]? =some (.cells Lq ty fr)->Lq.size=arr.size->(∀k,(k<o+i*q.n\/o+i*q.n+q.n<=k)->Lq[k]? =arr[k]?)->j7.length=q.n->Bj w' b (o+i*q.n) j7->
    Ow w' S' d q j7 fm G'-> ∃F',F'.Perm (G'++(b::R))/\Ow w' S' (d+1) (.sl q) [.slice a len cap] (ys.set i fm) F':=by
 simp only[Ow]at h;obtain⟨a',cap',e,hle,h⟩:=h;simp only[AOx,Value.slice.injEq,AQs]at e;obtain⟨rfl,rfl,rfl⟩:=e;rcases h with⟨h1,_⟩|⟨b,o,arr,ty,fr,Fs,rfl,hb,NN,hu,rfl,hFl,fz⟩
 ·omega
 ·have hG:Fs[i]? =some (Fs[i]'(by omega)):=ALk _
  generalize Fs[i]'(by omega)=G at hG
  obtain⟨cs,c1,c2,c3⟩:=fz i _ G (Tl hi) hG;have hbound:o+i*q.n+q.n<=arr.size:=by
   have:(i+1)*q.n<=cap*q.n:=AOV _ (by omega);grind
  refine⟨b,o,arr,ty,fr,cs,G,(Fs.set i []).flatten,rfl,hb,fun i hi=>hu i (by omega),hbound,c1,c2,c3,?_,?_⟩
  ·refine(List.Perm.cons b (Ym hG)).trans ?_
   exact List.perm_middle.symm
  ·intro w' S' Lq j7 fm G' hS hSw hR hb' hs' hk dA hca ho
   refine⟨b::(Fs.set i G').flatten,?_,?_⟩
   ·grind[List.Perm.cons,sP,trans]
   ·simp only[Ow]
    refine⟨_,cap,by simp,by simp_all,.inr ⟨b,o,Lq,ty,fr,Fs.set i G',rfl,hb',by omega,by simp_all,rfl,by simp_all,fun k y H hy hH=> ?_⟩⟩;by_cases e:k=i
    ·grind
    ·rw[AQF (by omega)]at hy
     rw[AQF (by omega)]at hH;obtain⟨ds,d1,d2,d3⟩:=fz k y H hy hH;refine⟨ds,d1,fun j v hj=> ?_,Er hS hSw (fun c hc=>hR c (APu.2 ⟨H,AOX (by grind:(Fs.set i [])[k]? =some H),hc⟩)) d3⟩;have hjl:=(AL1.1 hj).1;have hold:=d2 j v hj;simp only[World.cell?,hb,ASE,AMx,API]at hold;simp only[World.cell?,hb',ASE,AMx,API];rw[hk,hold];rcases Nat.lt_or_gt_of_ne e with e|e
     ·left
      have:(k+1)*q.n<=i*q.n:=AOV _ e;grind
     ·right
      have:(i+1)*q.n<=k*q.n:=AOV _ e;grind
theorem wY{w:World}{S:Nat->Prop}:∀{p:List tH} {d:Nat} {r:Ty} {h:Value} {rows:List r.D} {F:ABu} {q:Ty} {ys:List q.D},Ow w S d (.sl r) [h] rows F->DQ r rows p->
  Hp r rows p=some ⟨q,ys⟩->p.length<d-> ∃h' F1 F2,J1 w h p=some h'/\Ow w S (d-p.length) (.sl q) [h'] ys F1/\F.Perm (F1++F2)/\
   ∀(w':World) (S':Nat->Prop) (ys':List q.D) (vI:ABu) (rows':List r.D),(∀c,S c->S' c)->(∀c,S c->w'.heap[c]? =w.heap[c]?)->(∀c∈F2,w'.heap[c]? =w.heap[c]?)->
    Ow w' S' (d-p.length) (.sl q) [h'] ys' vI->xD r rows p q ys' =some rows'-> ∃F',F'.Perm (vI++F2)/\Ow w' S' d (.sl r) [h] rows' F'
 |[],d,r,h,rows,F,q,ys,ho,_,hg,_=>by
  simp only[Hp,ALl,AN3]at hg;obtain⟨rfl,e⟩:=hg;obtain rfl:=APR e;refine⟨h,F,[],DC,ho,by simp,fun w' S' ys' vI rows' _ _ _ ho' hs=>⟨vI,by simp,?_⟩⟩;simp only[xD,AVX,Tw,ALl]at hs;simp_all
 |s::p,d,r,h,rows,F,q,ys,ho,hp,hg,hd=>by
  obtain⟨d,rfl⟩:∃n,d=n+1:=⟨d-1,by omega⟩;simp only[DQ]at hp;obtain⟨hi,NN,hp⟩:=hp;simp only[Hp]at hg;obtain⟨a,len,cap,rfl⟩:∃a len cap,h= .slice a len cap:=by
   grind[Ow]
  split at hg
  case h_2=>cases hg
  rename_i q' x' nz;rw[nz]at hp;obtain⟨b,o,arr,ty,fr,cs,G,R,rfl,hb,hu,hbd,c1,c2,c3,vn,hback⟩:=ABo ho hi;obtain⟨v,A1,A2,k1,k2,k3,k4⟩:=lq c3 nz;obtain⟨h',F1,F2,m1,m2,m3,m4⟩:=wY k2 hp hg (by simp_all);have ARh:d+1-(s::p).length=d-p.length:=by simp
  refine⟨h',F1,F2++A2++(b::R),?_,by simp_all,?_,?_⟩
  ·simp only[J1]
   rw[NN,c2 _ _ k1];omega
  ·grind
  ·intro w' S' ys' vI rows' hS hSw hF2 ho' X3
   rw[ARh]at ho';simp only[xD,nz]at X3;simp only[AMp,ALs]at X3;obtain⟨x2,hx2,fm,hrow,rfl⟩:=X3;obtain⟨B1,p1,p2⟩:=m4 w' S' ys' vI x2 hS hSw (fun c hc=>hF2 c (by simp[hc])) ho' hx2;obtain⟨B2,p3,p4⟩:=k4 w' S' v x2 B1 fm hS hSw (fun c hc=>hF2 c (by simp[hc])) p2 hrow;have AMS:cs.set s.j v=cs:=by
    apply ATd;grind
   rw[AMS]at p4;have hbb:=hF2 b (by simp);obtain⟨F',p5,p6⟩:=hback w' S' arr cs fm B2 hS hSw (fun c hc=>hF2 c (by simp[hc])) (hbb.trans hb) rfl (fun _ _=>rfl) c1 (c2.of_block hbb) p4;grind
end Go.Fw
end
section
namespace Go.Fw
def OR(E:Env)(w:World)(vw:List Bx):Option XV->Option Value->Prop
 |none,none=>True
 |some x,some v=>XR E w vw x v
 |_,_=>False
section
variable{Y:Type} {P:Program} {T:Ky} (hT:E_ P T) {E:Env} {w:World} {vw:List Bx}
theorem run_sliceBound{κ:IntKind}{i:Int}{y:Nat}{code:BoundsCode}(h0:0<=i)(h1:i<=(y:Int)):(Instr.sliceBound (.int κ i) y code).run P w= .ok i.toNat w:=by
 simp[Instr.sliceBound,asIntOf,h0,h1]
theorem Wh{len cap:Nat}(hc:len<=cap){lo hi:Option XV}{k:Nat->Nat->Option Y}{y:Y}(e:Qn len lo hi k=some y){lv hv:Option Value}
  (hl:OR E w vw lo lv) (hh:OR E w vw hi hv) (b:Bool):∃l h,k l h=some y/\l<=h/\h<=len/\(Instr.sliceBounds b len cap lv hv none).run P w= .ok (l,h,cap) w:=by
 unfold Qn at e;dsimp only at e;split at e
 case h_2=>cases e
 rename_i l h el eh;split at e
 case isFalse=>cases e
 rename_i hb;obtain⟨b1,b2,b3⟩:=hb;refine⟨l.toNat,h.toNat,e,by omega,by omega,?_⟩;cases hi with
 |none=>cases hv with
  |some _=>exact hh.elim
  |none=>
   simp only[ALl]at eh;subst eh;cases lo with
   |none=>cases lv with
    |some _=>exact hl.elim
    |none=>
     simp only[ALl]at el;subst el;rfl
   |some x=>cases lv with
    |none=>exact hl.elim
    |some v=>
     obtain⟨κ,rfl⟩:=Jg (E:=E) (w:=w) (vw:=vw) el hl;simp[Instr.sliceBounds,run_sliceBound (P:=P) (w:=w) (κ:=κ) (i:=l) (y:=len) b1 (by omega)]
 |some x=>cases hv with
  |none=>exact hh.elim
  |some v=>
   obtain⟨κ,rfl⟩:=Jg (E:=E) (w:=w) (vw:=vw) eh hh;have e1:=fun code=>run_sliceBound (P:=P) (w:=w) (κ:=κ) (i:=h) (y:=cap) (code:=code) (by omega) (by omega)
   cases lo with
   |none=>cases lv with
    |some _=>exact hl.elim
    |none=>
     simp only[ALl]at el;subst el;simp[Instr.sliceBounds,e1]
   |some x=>cases lv with
    |none=>exact hl.elim
    |some v=>
     obtain⟨κ',rfl⟩:=Jg (E:=E) (w:=w) (vw:=vw) el hl;have e2:=fun code=>run_sliceBound (P:=P) (w:=w) (κ:=κ') (i:=l) (y:=h.toNat) (code:=code) b1 (by omega)
     simp[Instr.sliceBounds,e1,e2]
theorem yh(s:ABG)(l h:Nat):(⟨s.toArray⟩:ByteArray).extract l h=⟨((s.drop l).take (h-l)).toArray⟩:=by
 apply ByteArray.ext;simp[List.extract_eq_take_drop]
include hT
theorem od{σ:St}{Fs:List ABu}(hB:PK E w σ.bx σ.bx Fs)(st:∀c,E.S c->E.T c){t:Nat}{x:XV}{lo hi:Option XV}{k:K Y}{y:Y}(e:sJ T t σ x lo hi k=some y)
  {v:Value} {lv hv:Option Value} (hx:XR E w σ.bx x v) (hl:OR E w σ.bx lo lv) (hh:OR E w σ.bx hi hv):
  ∃z val,k z σ=some y/\(Instr.sliceAt t v lv hv none).run P w= .ok val w/\XR E w σ.bx z val:=by
 unfold sJ at e;split at e
 ·rename_i s
  split at e
  case isFalse=>cases e
  rename_i yS;have hu:=bS hT yS;have dp:=bH (E:=E) (w:=w) (vw:=σ.bx) hx;subst dp;obtain⟨l,h,ek,h1,h2,hr⟩:=Wh (P:=P) (cap:=s.length) (AOd _) e hl hh false;refine⟨_,.string ⟨((s.drop l).take (h-l)).toArray⟩,ek,?_,VR.str (E:=E) (vw:=σ.bx) _⟩;have hs:(⟨s.toArray⟩:ByteArray).size=s.length:=by rfl
  simp[Instr.sliceAt,Bg hu,Instr.slice,hs,hr,yh]
 ·rename_i s r rows
  split at e
  case isFalse=>cases e
  rename_i Xj;obtain⟨el,ti,hu,Yj,hs,_⟩:=Lk hT Xj;have NN:=E_.sizeOf hT Yj w
  change VR E w σ.bx (.sl s r rows) v at hx
  have hx':=hx;simp only[VR,Rd]at hx';obtain⟨a,cap,dp,hle,_⟩:=hx';simp only[AOx,AQs]at dp;subst dp;obtain⟨l,h,ek,h1,h2,hr⟩:=Wh (P:=P) hle e hl hh true;refine⟨_,Zc r.n l (h-l) a cap,ek,?_,?_⟩
  ·simp[Instr.sliceAt,Bg hu,Instr.slice,hr,NN,hs,Zc]
  grind[XR,VR,AFk]
 ·rename_i b p
  split at e
  case h_2=>cases e
  rename_i q hq;split at e
  case isFalse=>cases e
  rename_i Xj;obtain⟨el,ti,hu,Yj,hs,_⟩:=Lk hT Xj;have NN:=E_.sizeOf hT Yj w
  change VR E w σ.bx (.ref b p) v at hx
  obtain⟨a,cap,rfl,hle,_⟩:=AFw hB st hx hq;obtain⟨l,h,ek,h1,h2,hr⟩:=Wh (P:=P) hle e hl hh true;refine⟨_,Zc q.1.n l (h-l) a cap,ek,?_,?_⟩
  ·simp[Instr.sliceAt,Bg hu,Instr.slice,hr,NN,hs,Zc]
  ·simp only[O3]at hq
   obtain⟨_,hx⟩:=hx;refine⟨by rfl,?_⟩;grind
 simp_all
omit hT in
theorem iG{f:Nat->Option AV}:∀{n j:Nat} {l:List AV},j5 f j n=some l->l.length=n/\ ∀(i:Nat) x,l[i]? =some x->f (j+i)=some x
 |0,j,l,e=>by simp only[j5,ALl]at e;subst e;simp
 |n+1,j,l,e=>by
  simp only[j5,AMp,ALs]at e;obtain⟨x,hx,l',hl,rfl⟩:=e;obtain⟨h1,h2⟩:=iG hl;refine⟨by simp[h1],fun i z hz=> ?_⟩;cases i with
  |zero=>simp at hz;subst hz;exact hx
  |succ i=>
   have:=h2 i z (by simpa using hz)
   rwa [show j+1+i=j+(i+1)by omega]at this
omit hT in
theorem a_{B:Nat->Prop}{t:Ty}{x:t.D}{v:Value}(h:Rd w B t [v] x)(hs:t.scalar=true):VR E w vw (.v t x) v:=by
 refine⟨hs,?_⟩;cases t<;>first
  |(simpa only[Rd]using h)
  |(simp[Ty.scalar]at hs)
omit hT in
theorem AIJ{s:Bool}{t:Ty}{x:t.D}{v:Value}(h:Rd w (if s then E.S else E.T) t [v] x):VR E w vw (AFx s ⟨t,x⟩) v:=by
 cases t with
 |sl r=>simp only[AFx,VR];exact h
 |int k=>exact a_ h rfl
 |bool=>exact a_ h rfl
 |str=>exact a_ h rfl
 |unit=>trivial
 |cons c r=>trivial
omit hT in
theorem tX{s:tH}:∀{p:List tH} {r:Ty} {rows:List r.D} {q:Ty} {ys:List q.D} {t:Ty} {x:List t.D},DQ r rows p->Hp r rows p=some ⟨q,ys⟩->s.i<ys.length->s.sz=q.n->
  Ba q s.j (rowAt q ys s.i)=some ⟨.sl t,x⟩->DQ r rows (p++[s])/\Hp r rows (p++[s])=some ⟨t,x⟩
 |[],r,rows,q,ys,t,x,_,hg,hi,hs,hc=>by
  simp only[Hp,ALl,AN3]at hg;obtain⟨rfl,e⟩:=hg;obtain rfl:=APR e;refine⟨?_,?_⟩
  ·simp only[AQH,DQ,hc]
   exact⟨hi,hs,trivial⟩
  ·simp only[AQH,Hp,hc]
 |s'::p,r,rows,q,ys,t,x,hp,hg,hi,hs,hc=>by
  simp only[DQ]at hp;obtain⟨h1,h2,hp⟩:=hp;simp only[Hp]at hg;split at hg
  ·rename_i q' x' nz
   rw[nz]at hp;obtain⟨a,b⟩:=tX hp hg hi hs hc;refine⟨?_,?_⟩
   ·simp only[ASn,DQ,nz]
    exact⟨h1,h2,a⟩
   ·simp only[ASn,Hp,nz]
    exact b
  ·cases hg
omit hT in
theorem x_{s:tH}:∀{p:List tH} {h:Value} {b o len cap:Nat} {v:Value},J1 w h p=some (.slice (some ⟨b,o,none⟩) len cap)->w.cell? ⟨b,o+s.i*s.sz+s.j,none⟩=some v->
  J1 w h (p++[s])=some v
 |[],h,b,o,len,cap,v,e,hc=>by
  rw[DC]at e;cases e;simp[J1,hc,DC]
 |s'::p,h,b,o,len,cap,v,e,hc=>by
  cases h with
  |slice a l c=>
   cases a with
   |none=>simp[J1]at e
   |some a=>
    simp only[J1]at e;split at e
    ·rename_i h' hh
     simp only[ASn,J1,hh];exact x_ e hc
    ·cases e
  |_=>simp[J1]at e
omit hT in
theorem MN{bx:List Bx}{Fs:List ABu}(hB:PK E w bx bx Fs)(st:∀c,E.S c->E.T c){x z:AV}{i:Nat}(e:Ke bx x i=some z){v:Value}(hx:VR E w bx x v):
  ∃b o u,v= .pointer (some ⟨b,o,none⟩)/\w.cell? ⟨b,o+i,none⟩=some u/\VR E w bx z u:=by
 cases x with
 |JR b j=>
  simp only[Ke]at e;split at e
  ·rename_i cs hb
   obtain⟨F,⟨_,arr,ty,fr,ha,hu,hv⟩,_⟩:=hB.get hb;obtain⟨u,h1,h2⟩:=Cr.get hv e;refine⟨_,_,u,hx.2,?_,h2⟩;simp only[World.cell?,ha,ASE,AMx,API];simpa using h1
  ·cases e
 |Kc b p r sz j=>
  simp only[Ke]at e;split at e
  ·rename_i d q rows hb
   split at e
   case isFalse=>cases e
   rename_i hd;simp only[AMp]at e;obtain⟨⟨q',ys'⟩,hg,e⟩:=e;split at e
   case isFalse=>cases e
   rename_i NN;simp only[ALs]at e;obtain⟨⟨t,y⟩,hc,rfl⟩:=e;simp only[VR,hb]at hx;obtain⟨_,hp,q1,ys,bb,o,len,cap,g1,g2,g3,rfl⟩:=hx;rw[hg]at g1;simp only[ALl,AN3]at g1;obtain⟨rfl,g1⟩:=g1;obtain rfl:=APR g1;dsimp only at NN hc;obtain⟨F,⟨hd1,ho⟩,hF⟩:=hB.get hb;have dC:=kH (F7.refl bx) hB st hb hp hg g3;have Afp:=dC;simp only[Rd]at dC;obtain⟨a',cap',ee,hle,dC⟩:=dC;simp only[AOx,Value.slice.injEq,AQs]at ee;obtain⟨rfl,rfl,rfl⟩:=ee;rcases dC with dC|⟨b1,o1,e7,_,dC⟩
   ·omega
   ·cases e7
    obtain⟨cs,c1,c2,c3⟩:=dC r _ (Tl g2);obtain⟨u,hu,hur⟩:=lp c3 hc;have gH:=c2 _ _ hu;rw[<-NN]at gH;refine⟨_,_,u,rfl,by rw[ATK];exact gH,?_⟩;cases t with
    |sl t' =>
     simp only[AF3];split
     ·rename_i hdd
      obtain⟨h',F1,F2,m1,m2,_,_⟩:=wY ho hp hg hd;rw[g3]at m1;cases m1;rw[show d-p.length=0+1 by omega]at m2;obtain⟨b2,o2,arr,ty,fr,cs2,G,R,e2,_,_,_,_,k2,k3,_,_⟩:=ABo m2 g2;cases e2;obtain⟨v2,A1,A2,z1,z2,_,_⟩:=lq k3 hc;have AJU:=k2 _ _ z1;rw[<-NN,gH]at AJU;cases AJU;simp only[Ow]at z2;simp only[VR];exact z2.1
     ·simp only[VR,hb]
      have:=tX (s:=⟨r,sz,j+i⟩) hp hg g2 NN hc;simp only[Rd]at hur;obtain⟨a2,cap2,e2,_⟩:=hur;simp only[AOx,AQs]at e2;refine⟨by rw[e2];rfl,this.1,⟨_,this.2⟩,x_ g3 gH⟩
    |int k=>exact a_ hur rfl
    |bool=>exact a_ hur rfl
    |str=>exact a_ hur rfl
    |unit=>trivial
    |cons c r=>trivial
  ·cases e
 |RR s r y j=>
  simp only[Ke,ALs]at e;obtain⟨⟨t,y'⟩,hc,rfl⟩:=e;obtain⟨bb,o,cs,rfl,h2,h3,h4,h5⟩:=hx;obtain⟨u,hu,hur⟩:=lp h5 hc;refine⟨_,_,u,rfl,by rw[ATK];exact h4 _ _ hu,AIJ hur⟩
 |_=>simp[Ke]at e
omit hT in
theorem kK{bx:List Bx}{Fs:List ABu}(hB:PK E w bx bx Fs)(st:∀c,E.S c->E.T c){x:AV}{v:Value}(hx:VR E w bx x v){b o:Nat}(hv:v= .pointer (some ⟨b,o,none⟩)):
  ∀{l:List AV} {j:Nat},(∀(i:Nat) z,l[i]? =some z->Ke bx x (j+i)=some z)-> ∃cs:List Value,cs.length=l.length/\Bj w b (o+j) cs/\oU E w bx l cs
 |[],_,_=>⟨[],rfl,fun _ _ h=>by simp at h,trivial⟩
 |z::l,j,h=>by
  obtain⟨b',o',u,e1,e2,e3⟩:=MN hB st (h 0 z rfl) hx;subst hv;simp only[Value.pointer.injEq,ALl,Addr.mk.injEq,AQs]at e1;obtain⟨rfl,rfl⟩:=e1;obtain⟨cs,c1,c2,c3⟩:=kK hB st hx rfl (l:=l) (j:=j+1) (fun i y hy=>by
   have:=h (i+1) y (by simpa using hy)
   rwa [show j+1+i=j+(i+1)by omega])
  refine⟨u::cs,by simp[c1],fun i y hy=> ?_,e3,c3⟩;cases i with
  |zero=>simp at hy;subst hy;exact e2
  |succ i=>
   have:=c2 i y (by simpa using hy)
   rwa [show o+(j+1)+i=o+j+(i+1)by omega]at this
theorem ADH{σ:St}{Fs:List ABu}(hB:PK E w σ.bx σ.bx Fs)(st:∀c,E.S c->E.T c){t:Nat}{x z:XV}(e:tW T t σ x=some z){v:Value}(hx:XR E w σ.bx x v):
  ∃u,(Instr.loadAt t v).run P w= .ok u w/\XR E w σ.bx z u:=by
 unfold tW at e;split at e
 case h_2=>cases e
 rename_i x ti Yj;split at e
 case isTrue=>cases e
 rename_i NN;have pM:=E_.isAgg hT Yj w;split at e
 ·rename_i ha
  rw[ha]at pM;simp only[ALs]at e;obtain⟨l,hl,rfl⟩:=e;obtain⟨h1,h2⟩:=iG hl;have h0:0<l.length:=by omega
  obtain⟨b,o,u,hv,_,_⟩:=MN hB st (h2 0 _ (ALk h0)) hx;obtain⟨cs,c1,c2,c3⟩:=kK hB st hx hv (l:=l) (j:=0) (fun i y hy=>by simp_all);subst hv;have pA:=(hT t ti Yj).und;cases hd:ti.desc with
  |st fs=>
   rw[hd]at pA;obtain⟨fields,hu,_⟩:=pA;refine⟨.agg cs.toArray,run_loadAt_mid w b o t cs _ (by grind[Bj,World.rangeAt]) hu rfl ?_,cs.toArray,rfl,by omega⟩;grind[E_.size]
  |_=>grind[TD.agg]
 ·rename_i ha
  simp only[AO7]at ha;rw[ha]at pM;simp only[ALs]at e;obtain⟨y,hy,rfl⟩:=e;obtain⟨b,o,u,hv,hc,hr⟩:=MN hB st hy hx;subst hv;refine⟨u,?_,hr⟩;simp only[ATL]at hc;simp[Instr.loadAt,Instr.sureAddr,loadVar,pM,hc]
end
end Go.Fw
end
section
namespace Go.Fw
theorem yE{w:World}{S:Nat->Prop}{d:Nat}{q:Ty}:Ow w S d (.sl q) [.slice none 0 0] [] []:=by
 cases d with
 |zero=>grind[Ow,Rd]
 |succ d=>grind[Ow]
theorem ALF{w:World}{S:Nat->Prop}{d:Nat}{r:Ty}{a:Option Addr}{len cap:Nat}{ys:List r.D}{F:ABu}(h:Ow w S (d+1) (.sl r) [.slice a len cap] ys F){off n:Nat}(hn:off+n<=ys.length):
  ∃F1 F2,F.Perm (F1++F2)/\Ow w S (d+1) (.sl r) [Zc r.n off n a cap] ((ys.drop off).take n) F1:=by
 simp only[Ow]at h|-;obtain⟨a',cap',e,hc,h⟩:=h;simp only[AOx,Value.slice.injEq,AQs]at e;obtain⟨rfl,rfl,rfl⟩:=e;have hl:((ys.drop off).take n).length=n:=by grind
 by_cases h0:cap=off
 ·subst h0
  refine⟨[],F,by simp,a,0,by simp[Zc,hl],by omega,.inl ⟨rfl,rfl⟩⟩
 ·rcases h with⟨h,rfl⟩|⟨b,o,arr,ty,fr,Fs,rfl,hb,NN,hu,rfl,hFl,hr⟩
  ·omega
  ·have p:Fs.flatten.Perm (((Fs.drop off).take n).flatten++((Fs.take off).flatten++(Fs.drop (off+n)).flatten)):=by
    grind[List.drop_drop,List.take_append_drop,List.flatten_append,List.append_assoc,List.Perm.append_right,List.perm_append_comm]
   refine⟨b::((Fs.drop off).take n).flatten,(Fs.take off).flatten++(Fs.drop (off+n)).flatten,List.Perm.cons b p,some ⟨b,o+off*r.n,none⟩,cap-off,?_,by omega,.inr ⟨b,o+off*r.n,arr,ty,fr,_,rfl,hb,?_,hu,rfl,?_,?_⟩⟩
   ·grind[Zc,Addr.add_eq]
   ·have:off*r.n+(cap-off)*r.n=cap*r.n:=by rw[<-AS5];grind
    omega
   all_goals grind
theorem Le.keep{E E':Env}(h:Le E E'){w:World}{vw:List Bx}(st:∀c,E.S c->E.T c):V0 E w vw E' w vw:=
 ⟨AOd _,fun b _=>by rw[h.Iz],h.T,h.S,st,fun _ _=>rfl,fun b d r rows _ e=>⟨d,rows,e,fun p hp q ys hg=>⟨hp,⟨ys,hg,rfl⟩,fun h' hh=>by rw[h.I0];omega⟩⟩⟩
theorem DG.share{E:Env}{w:World}{vw bx:List Bx}{F W G:ABu}(h:DG E w vw bx (F++W++G)):
  let E':Env:={ E with S:=fun c=>E.S c\/c∈W,T:=fun c=>E.T c\/c∈W }
  Le E E'/\DG E' w vw bx (F++G):=by
 intro E';have st:=h.st;have hle:Le E E':=⟨rfl,rfl,fun c hc=> .inl hc,fun c hc=> .inl hc,fun c hc=>hc.elim .inl fun h' => .inr (.inr h'),fun c hc=>hc.elim .inl fun h' => .inr (h.AK3 c (by simp[h']))⟩;refine⟨hle,?_⟩;obtain⟨Fs,⟨h1,h2⟩,h3⟩:=h;refine⟨Fs,⟨h1,fun k B F' hk hF=> ?_⟩,?_⟩
 ·have:=h2 k B F' hk hF
  cases B with
  |mem cs=>
   obtain⟨rfl,arr,ty,fr,a1,a2,a3⟩:=this;exact⟨rfl,arr,ty,fr,a1,a2,a3.imp fun _ _ hv=>G4 (hle.keep st) hv⟩
  |sl d r rows=>exact⟨this.1,Er hle.S (fun _ _=>rfl) (fun _ _=>rfl) this.2⟩
  |dead=>exact this
 ·have h4:Sep E w (W++(Fs.flatten++(F++G))):=h3.perm (by
   grind)
  refine⟨(ANh.1 h4.nodup).2.1,fun c hc ht=> ?_,fun c hc=>h4.lt c (by simp_all),fun c hc=>hc.imp (st c) id,fun c hc=>hc.elim (h4.ie c) fun h' =>h4.lt c (by simp[h']),h4.gok.mono (fun _ h=> .inl h) (fun _ _=>rfl)⟩;rcases ht with ht|ht
  ·exact h4.free c (AOK.2 (.inr hc)) ht
  ·exact(ANh.1 h4.nodup).2.2 c ht c hc rfl
structure H0 (E:Env) (w:World) (vw bx:List Bx) (G:ABu) (E':Env) (TW:List Bx) (F:ABu):Prop where
 le:Le E E'
 len:TW.length=bx.length
 within:∀(b:Nat) (B:Bx),TW[b]? =some B->B= .dead\/bx[b]? =some B
 boxes:DG E' w vw TW (F++G)
theorem H0.refl{E:Env}{w:World}{vw bx:List Bx}{G:ABu}(h:DG E w vw bx G):H0 E w vw bx G E bx []:=
 ⟨Le.refl E,rfl,fun _ _ h=> .inr h,h⟩
theorem F7.vm{E E':Env}{w:World}{vw bx TW:List Bx}{G F:ABu}(h:F7 bx vw)(k:H0 E w vw bx G E' TW F):F7 TW vw:=fun b B e=>
 (k.within b B e).elim .inl (h b B)
theorem ir{E:Env}{w:World}{vw bx:List Bx}{G:ABu}(h:DG E w vw bx G)(hw:F7 bx vw){d:Nat}(hd:1<=d){t:Ty}{x:AV}{v:Value}(hv:VR E w vw x v){y:t.D}{TW:List Bx}{d':Nat}
  (e:lE d t x bx=some (y,TW,d')):1<=d'/\d'<=d/\ ∃E' F,H0 E w vw bx G E' TW F/\Ow w E'.S (d'-1) t [v] y F:=by
 unfold lE at e;split at e
 ·rename_i u z
  simp only[ALs,APJ]at e;obtain⟨z',e1,rfl,rfl,rfl⟩:=e;obtain⟨e2,e3⟩:=I5 e1;subst e2;subst e3;refine⟨hd,AOd _,E,[],H0.refl h,?_⟩;obtain⟨hs,hr⟩:=hv;cases u<;>simp_all[Ty.scalar,Ow,Rd]
 ·split at e
  ·simp only[ALl,APJ]at e
   obtain⟨rfl,rfl,rfl⟩:=e;simp only[VR]at hv;subst hv;exact⟨hd,AOd _,E,[],H0.refl h,yE⟩
  simp_all
 ·rename_i r z
  split at e
  ·rename_i q
   simp only[ALs,APJ]at e;obtain⟨z',e1,rfl,rfl,rfl⟩:=e;obtain⟨e2,e3⟩:=I5 e1;subst e2;subst e3;refine⟨AOd _,hd,E,[],H0.refl h,?_⟩;simp only[VR]at hv;simp only[Nat.sub_self,Ow];simp_all
  simp_all
 ·rename_i b
  split at e
  case h_2=>cases e
  rename_i q;split at e
  case h_2=>cases e
  rename_i db r z hb;simp only[ALs,APJ]at e;obtain⟨z',e1,rfl,rfl,rfl⟩:=e;obtain⟨e2,e3⟩:=I5 e1;subst e2;subst e3;obtain⟨F0,⟨hd1,ho⟩,hB⟩:=h.take hb;have hvv:v=E.I0 b:=by
   grind[VR,dY,DC]
  subst hvv;obtain⟨F1,W,hp,ho'⟩:=LF (d:=min d (db+1)-1) (by omega) ho;have XC:=hB.perm (ATY G hp);obtain⟨hle,c_⟩:=XC.share;refine⟨by omega,Nat.min_le_left _ _,_,F1,⟨hle,by simp,fun k B hk=> ?_,c_⟩,ho'⟩;grind
 ·rename_i b off n
  split at e
  case h_2=>cases e
  rename_i q;split at e
  case h_2=>cases e
  rename_i db r z hb;simp only[ALs,APJ]at e;obtain⟨z',e1,rfl,rfl,rfl⟩:=e;obtain⟨e2,e3⟩:=I5 e1;subst e2;subst e3;obtain⟨F0,⟨hd1,ho⟩,hB⟩:=h.take hb;simp only[VR,dY hw hb,DC]at hv;obtain⟨_,_,q',ys,a,len,cap,hg,hn,hh,rfl⟩:=hv;simp only[Hp,ALl,AN3]at hg;obtain⟨rfl,hg⟩:=hg;obtain rfl:=APR hg;simp only[ALl]at hh;rw[hh]at ho;obtain⟨db,rfl⟩:∃m,db=m+1:=⟨db-1,by omega⟩;obtain⟨A1,A2,hp0,ho0⟩:=ALF ho hn;obtain⟨F1,W,hp,ho'⟩:=LF (d:=min d (db+1+1)-1) (by omega) ho0;have hB1:DG E w vw (bx.set b .dead) (A1++G):=by
   refine DG.drop (G':=A2) (hB.perm ?_);grind
  have XC:=hB1.perm (ATY G hp);obtain⟨hle,c_⟩:=XC.share;refine⟨by omega,Nat.min_le_left _ _,_,F1,⟨hle,by simp,fun k B hk=> ?_,c_⟩,ho'⟩;grind
 simp_all
theorem fI{w:World}{vw:List Bx}:∀{r:Ty} {E:Env} {bx:List Bx} {G:ABu} {d:Nat} {l:List AV} {vs:List Value} {y:r.D} {TW:List Bx} {d':Nat},DG E w vw bx G->F7 bx vw->1<=d->
  oU E w vw l vs->cellsIn d r l bx=some (y,TW,d')->1<=d'/\d'<=d/\ ∃E' F,H0 E w vw bx G E' TW F/\Ow w E'.S (d'-1) r vs y F
 | .unit,E,bx,G,d,[],[],y,TW,d',h,hw,hd,_,e=>by
  simp only[cellsIn,ALl,APJ]at e;obtain⟨_,rfl,rfl⟩:=e;exact⟨hd,AOd _,E,[],H0.refl h,by grind[Ow]⟩
 | .cons c r,E,bx,G,d,x::l,v::vs,y,TW,d',h,hw,hd,hv,e=>by
  simp only[cellsIn,AMp,ALs,APJ]at e;obtain⟨⟨y1,qH,d1⟩,e1,⟨y2,gh,d2⟩,e2,rfl,rfl,rfl⟩:=e;dsimp only at e2|-;obtain⟨a1,a2,E1,F1,k1,o1⟩:=ir h hw hd hv.1 e1;have ACk:=k1.le.keep (w:=w) (vw:=vw) h.st;obtain⟨b1,b2,E2,F2,k2,o2⟩:=fI (G:=F1++G) k1.boxes (hw.vm k1) a1 (hv.2.imp fun _ _ h=>G4 ACk h) e2;obtain⟨A,W,hp,o1'⟩:=LF (d:=d'-1) (by omega) o1;have hB:=k2.boxes.perm (G':=(F2++A)++W++G) (by
   grind)
  obtain⟨hle,c_⟩:=hB.share;refine⟨b1,APf b2 a2,_,A++F2,⟨(k1.le.trans k2.le).trans hle,k2.len.trans k1.len,fun b B hb=>(k2.within b B hb).elim .inl (k1.within b B),c_.perm (ATY _ AVi)⟩,?_⟩;simp only[Ow];refine⟨v,vs,A,F2,rfl,rfl,?_,?_⟩
  ·refine Er (S:=fun b=>E1.S b\/b∈W) ?_ (fun _ _=>rfl) (fun _ _=>rfl) o1'
   intro c hc;exact hc.elim (fun h=> .inl (k2.le.S c h)) .inr
  ·refine Er (S:=E2.S) ?_ (fun _ _=>rfl) (fun _ _=>rfl) o2
   simp_all
 | .unit,_,_,_,_,_::_,_,_,_,_,_,_,_,_,e=>by simp[cellsIn]at e
 | .unit,_,_,_,_,[],_::_,_,_,_,_,_,_,hv,_=>hv.elim
 | .cons _ _,_,_,_,_,[],_,_,_,_,_,_,_,_,e=>by simp[cellsIn]at e
 | .cons _ _,_,_,_,_,_::_,[],_,_,_,_,_,_,hv,_=>hv.elim
 | .int _,_,_,_,_,_,_,_,_,_,_,_,_,_,e=>by simp[cellsIn]at e
 | .bool,_,_,_,_,_,_,_,_,_,_,_,_,_,e=>by simp[cellsIn]at e
 | .str,_,_,_,_,_,_,_,_,_,_,_,_,_,e=>by simp[cellsIn]at e
 | .sl _,_,_,_,_,_,_,_,_,_,_,_,_,_,e=>by simp[cellsIn]at e
theorem ABk{E:Env}{w:World}{vw:List Bx}{x:AV}{v:Value}(h:VR E w vw x v)(hk:x.known=true):v.oneCell' =true/\v.cells= #[v]:=by
 have aux:∀{v:Value},isSlice v=true->v.oneCell' =true/\v.cells= #[v]:=by intro v h;cases v<;>simp_all[isSlice,Value.oneCell',Value.cells]
 have AZb:∀{v:Value},iw v=true->v.oneCell' =true/\v.cells= #[v]:=by intro v h;cases v<;>simp_all[iw,Value.oneCell',Value.cells]
 cases x with
 |v t y=>
  obtain⟨hs,hr⟩:=h;cases t<;>simp[Ty.scalar]at hs<;>simp only[Rd,AOx,AQs]at hr<;>subst hr<;>exact⟨rfl,rfl⟩
 |sl s r y=>
  simp only[VR,Rd]at h;obtain⟨a,cap,h,_⟩:=h;simp only[AOx,AQs]at h;subst h;exact⟨rfl,rfl⟩
 |nil=>simp only[VR]at h;subst h;exact⟨rfl,rfl⟩
 |ref b p=>exact aux h.1
 |win b p off n=>exact aux h.1
 |JR b j=>rw[h.2];exact⟨rfl,rfl⟩
 |Kc b p i sz j=>exact AZb h.1
 |RR s r y j=>obtain⟨bb,o,cs,rfl,_⟩:=h;exact⟨rfl,rfl⟩
 |fn f Lc=>rw[h.2];exact⟨rfl,rfl⟩
 |yP f rows=>obtain⟨ps,rfl,_⟩:=h;exact⟨rfl,rfl⟩
 |AEX=>simp only[VR]at h;subst h;exact⟨rfl,rfl⟩
 |undef=>simp[AV.known]at hk
theorem AGh{E:Env}{w:World}{vw:List Bx}:∀{l:List AV} {vs:List Value},oU E w vw l vs->l.all AV.known=true-> ∀v∈vs,v.oneCell' =true
 |[],[],_,_=>by simp
 |x::l,v::vs,h,hk=>by
  simp only[ASy,AL8]at hk;intro u hu;rcases AO3.1 hu with rfl|hu
  ·exact(ABk h.1 hk.1).1
  ·exact AGh h.2 hk.2 u hu
theorem wP{E:Env}{w:World}{vw:List Bx}{x:XV}{v:Value}(h:XR E w vw x v)(hk:x.cells.all AV.known=true)(hn:x.cells≠[]):oU E w vw x.cells v.cells.toList/\ ∀u∈v.cells.toList,u.oneCell' =true:=by
 cases x with
 |c x=>
  have h':VR E w vw x v:=h;obtain⟨h1,h2⟩:=ABk h' (by grind[XV.cells]);rw[h2];exact⟨⟨h',trivial⟩,by simp_all⟩
 |agg l=>
  obtain⟨vs,rfl,Zu⟩:=h;exact⟨Zu,AGh Zu hk⟩
 |NM l=>simp[XV.cells]at hn
theorem AC0{w:World}{vw:List Bx}{r:Ty}{E:Env}{bx:List Bx}{G:ABu}{d:Nat}{x:XV}{v:Value}{y:r.D}{TW:List Bx}{d':Nat}(h:DG E w vw bx G)(hw:F7 bx vw)(hd:1<=d)
  (hv:XR E w vw x v) (e:AKu d r x bx=some (y,TW,d')):1<=d'/\d'<=d/\ ∃E' F,H0 E w vw bx G E' TW F/\Ow w E'.S (d'-1) r v.cells.toList y F:=by
 unfold AKu at e;split at e
 ·rename_i l
  obtain⟨vs,rfl,Zu⟩:=hv;exact fI h hw hd Zu e
 ·rename_i x
  have dp:VR E w vw x v:=hv;have hk:x.known=true:=by grind[AV.known,lE]
  rw[(ABk dp hk).2];exact ir h hw hd dp e
 simp_all
end Go.Fw
end
section
namespace Go.Fw
def Env.iC(E:Env)(n:Nat)(h:Value):Env:={ E with I0:=fun k=>if k=n then h else E.I0 k }
def Env.lR(E:Env)(n b:Nat):Env:={ E with Iz:=fun k=>if k=n then b else E.Iz k }
theorem nt{E E1 E':Env}{w w':World}{vw qH TW:List Bx}{F:ABu}(k:H0 E w vw vw [] E1 qH F)(st:∀c,E.S c->E.T c)(hlen:vw.length<=TW.length)
  (hbx:∀b B,b<vw.length->TW[b]? =some B->qH[b]? =some B) (AKk:∀b,b<vw.length->E'.Iz b=E1.Iz b) (uO:∀b,b<vw.length->E'.I0 b=E1.I0 b) (hT:E'.T=E1.T) (hS:E'.S=E1.S)
  (hw:∀c,c<w.heap.size->c∉F->w'.heap[c]? =w.heap[c]?):V0 E w vw E' w' TW:=by
 have hB:=k.boxes;obtain⟨Fs,⟨h1,h2⟩,h3⟩:=hB;simp only[ANV]at h3;have hT':∀c,E1.T c->w'.heap[c]? =w.heap[c]?:=fun c hc=>hw c (h3.ie c hc) fun hf=>h3.free c (by simp[hf]) hc
 refine⟨hlen,fun b hb=>by rw[AKk b hb,k.le.Iz],fun c hc=>by rw[hT];exact k.le.T c hc,fun c hc=>by rw[hS];exact k.le.S c hc,st,fun c hc=>hT' c (k.le.T c hc),fun b d r rows hb e=> ?_⟩;have e1:=hbx b _ hb e;rcases k.within b _ e1 with e2|e2
 ·cases e2
 ·refine⟨d,rows,e2,fun p hp q ys hg=>⟨hp,⟨ys,hg,rfl⟩,fun h' hh=> ?_⟩⟩
  have hF:Fs[b]? =some (Fs[b]'(by grind)):=ALk _;obtain⟨hd,ho⟩:=h2 b _ _ e1 hF;rw[uO b hb];rw[<-k.le.I0]at hh;refine AAf ho (fun c hc=>hT' c (h3.st c hc)) (fun c hc=> ?_) hp hg hh;have RW:c∈Fs.flatten:=APu.2 ⟨_,AOX hF,hc⟩;exact hw c (h3.lt c (by simp[RW])) fun hf=>(ANh.1 h3.nodup).2.2 c RW c hf rfl
structure Grown (w w':World):Prop where
 os:w'.os=w.os
 tape:w'.tape=w.tape
 output:w'.output=w.output
 size:w.heap.size<=w'.heap.size
theorem Wz{E E1:Env}{σ:St}{a:Act}{w w':World}{qH:List Bx}{F F':ABu}(h:Rel E σ a w)(k:H0 E w σ.bx σ.bx [] E1 qH F){v:Value}{d:Nat}{r:Ty}{rows:List r.D}(hd:1<=d)
  (ho:Ow w' E1.S d (.sl r) [v] rows F') (hF':∀c∈F',c∈F\/w.heap.size<=c) (nd:F'.Nodup) (JN:∀c∈F',c<w'.heap.size) (hw:∀c,c<w.heap.size->c∉F->w'.heap[c]? =w.heap[c]?) (g:Grown w w'):
  let E':=E1.iC qH.length v
  Rel E' { σ with bx:=qH++[.sl d r rows] } a w'/\UC [] E σ.bx w E' (qH++[.sl d r rows]) w'/\XR E' w' (qH++[.sl d r rows]) (.c (.ref qH.length [])) v:=by
 intro E';have st:=h.bx.st;have hn:=k.len;have keep:V0 E w σ.bx E' w' (qH++[.sl d r rows]):=nt k st (by simp[hn]) (fun b B hb e=>by
   grind) (fun b _=>rfl) (fun b hb=>by grind[Env.iC]) rfl rfl hw
 have ACk:V0 E1 w σ.bx E' w' (qH++[.sl d r rows]):=by
  have k':H0 E1 w σ.bx σ.bx [] E1 qH F:=⟨Le.refl _,k.len,k.within,k.boxes⟩;exact nt k' k.boxes.st (by simp[hn]) (fun b B hb e=>by
   grind) (fun b _=>rfl) (fun b hb=>by grind[Env.iC]) rfl rfl hw
 obtain⟨Fs,⟨h1,h2⟩,h3⟩:=k.boxes;simp only[ANV]at h3;have hT':∀c,E1.T c->w'.heap[c]? =w.heap[c]?:=fun c hc=>hw c (h3.ie c hc) fun hf=>h3.free c (by simp[hf]) hc
 have hF0:∀c∈Fs.flatten,w'.heap[c]? =w.heap[c]?:=fun c hc=>hw c (h3.lt c (by simp[hc])) fun hf=>(ANh.1 h3.nodup).2.2 c hc c hf rfl
 refine⟨⟨h.Pp,h.tm.imp fun _ _ hx=>RE keep hx,?_⟩,?_,?_⟩
 ·refine⟨Fs++[F'],⟨by simp[h1],fun n B G hB hG=> ?_⟩,?_⟩
  ·by_cases hnl:n<qH.length
   ·rw[AOU hnl]at hB
    rw[AOU (by omega)]at hG;have:=h2 n B G hB hG;have hGw:∀c∈G,w'.heap[c]? =w.heap[c]?:=fun c hc=>hF0 c (APu.2 ⟨G,AOX hG,hc⟩)
    cases B with
    |mem cs=>
     obtain⟨rfl,arr,ty,fr,a1,a2,a3⟩:=this;exact⟨rfl,arr,ty,fr,(hGw (E1.Iz n) (by simp)).trans a1,a2,a3.imp fun _ _ hv=>G4 ACk hv⟩
    |sl d0 r0 Vl=>
     refine⟨this.1,?_⟩;have e0:E'.I0 n=E1.I0 n:=by grind[Env.iC]
     rw[e0];exact Er (fun _ hc=>hc) (fun c hc=>hT' c (h3.st c hc)) hGw this.2
    |dead=>exact this
   ·have hnn:=(AL1.1 hB).1
    simp at hnn;obtain rfl:n=qH.length:=by omega
    rw[AOt (by omega)]at hB hG;simp[h1]at hB hG;subst hB hG;refine⟨hd,?_⟩;grind[Env.iC]
  ·simp only[AS7,ATP,ATj,ANV]
   have nd0:=ANh.1 h3.nodup;refine⟨ANh.2 ⟨nd0.1,nd,fun x hx y hy e=> ?_⟩,fun c hc ht=> ?_,fun c hc=> ?_,h3.st,fun c hc=>AQM (h3.ie c hc) g.size,h3.gok.mono (fun _ h=>h) hT'⟩
   ·grind
   ·rcases AOK.1 hc with hc|hc
    ·exact h3.free c (by simp[hc]) ht
    ·rcases hF' c hc with h|h
     ·exact h3.free c (by simp[h]) ht
     ·have:=h3.ie c ht;omega
   ·rcases AOK.1 hc with hc|hc
    ·exact AQM (h3.lt c (by simp[hc])) g.size
    simp_all
 ·refine⟨⟨k.le.T,k.le.S,k.le.Tof,k.le.Sof,fun c hc=>hT' c (k.le.T c hc),g.os,g.tape,g.output,g.size⟩,by simp[hn],fun b hb=>⟨by show E1.Iz b=_;rw[k.le.Iz],?_⟩,fun b hb=> ?_,fun n B B' _ hB XC hnd=> ?_⟩
  ·have:E'.I0 b=E1.I0 b:=by grind[Env.iC]
   rw[this,k.le.I0]
  ·have hbl:=(AL1.1 hb).1
   rw[AOU (by omega)];obtain⟨B,hB⟩:∃B,qH[b]? =some B:=⟨_,ALk (by omega)⟩;rcases k.within b B hB with e|e
   all_goals simp_all
  ·have hnl:=(AL1.1 hB).1
   rw[AOU (by omega)]at XC;rcases k.within n B' XC with e|e
   ·simp_all
   rw[hB]at e;cases e;refine⟨ZF.refl hnd,fun c hc=> ?_⟩;have hF:Fs[n]? =some (Fs[n]'(by omega)):=ALk _;have hR:=h2 n B _ XC hF;have jy:BRB E1 w n B c:=by
    cases B with
    |mem cs=>simp only[BRB]at hc|-;rw[k.le.Iz];omega
    |sl d r rows=>simp only[BRB]at hc|-;rw[k.le.I0];omega
    |dead=>exact hc
   rcases ll hR jy with hs|hs
   ·exact hT' c (h3.st c hs)
   grind[List.mem_flatten,List.mem_of_getElem?]
 ·have e0:E'.I0 qH.length=v:=by simp[E',Env.iC]
  refine⟨?_,?_⟩
  ·have:=cP ho
   simp only[Rd]at this;obtain⟨_,_,e,_⟩:=this;simp only[AOx,AQs]at e;rw[e];rfl
  ·have:(qH++[Bx.sl d r rows])[qH.length]? =some (.sl d r rows):=by simp
   rw[this];exact⟨by simp[DQ],⟨_,rfl⟩,by rw[e0,DC]⟩
theorem wJ{E:Env}{σ:St}{a:Act}{w:World}(h:Rel E σ a w){cs:List AV}{arr:Array Value}(ty:TypeId)(hv:oU E w σ.bx cs arr.toList):
  let E':=E.lR σ.bx.length w.heap.size
  let w':=w.alloc (.cells arr ty)
  Rel E' (σ.new (.mem cs)) a w'/\UC [] E σ.bx w E' (σ.new (.mem cs)).bx w'/\XR E' w' (σ.new (.mem cs)).bx (.c (.JR σ.bx.length 0)) (.pointer (some ⟨w.heap.size,0,none⟩)):=by
 intro E' w';have st:=h.bx.st;have hw:∀c,c<w.heap.size->c∉([]:ABu)->w'.heap[c]? =w.heap[c]?:=fun c hc _=>by
  show(w.heap.push (.cells arr ty))[c]? =_
  grind
 have hB0:=h.bx;have keep:V0 E w σ.bx E' w' (σ.bx++[.mem cs]):=nt (H0.refl hB0) st (by simp) (fun b B hb e=>by
   grind) (fun b hb=>by grind[Env.lR]) (fun b _=>rfl) rfl rfl hw
 obtain⟨Fs,⟨h1,h2⟩,h3⟩:=h.bx;simp only[ANV]at h3;have new:w'.heap[w.heap.size]? =some (.cells arr ty):=by
  show(w.heap.push (.cells arr ty))[w.heap.size]? =_
  simp
 refine⟨⟨h.Pp,h.tm.imp fun _ _ hx=>RE keep hx,?_⟩,?_,?_⟩
 ·refine⟨Fs++[[w.heap.size]],⟨by simp[St.new,h1],fun n B G hB hG=> ?_⟩,?_⟩
  ·simp only[St.new]at hB
   by_cases hnl:n<σ.bx.length
   ·rw[AOU hnl]at hB
    rw[AOU (by omega)]at hG;have:=h2 n B G hB hG;have hGw:∀c∈G,w'.heap[c]? =w.heap[c]?:=fun c hc=>hw c (h3.lt c (by simp;grind)) (by simp)
    have eb:E'.Iz n=E.Iz n:=by grind[Env.lR]
    cases B with
    |mem cs0=>
     obtain⟨rfl,arr0,ty0,fr,a1,a2,a3⟩:=this;refine⟨by rw[eb],arr0,ty0,fr,?_,a2,a3.imp fun _ _ hv=>G4 keep hv⟩;simp_all
    |sl d0 r0 Vl=>exact⟨this.1,Er (fun _ hc=>hc) (fun c hc=>hw c (h3.ie c (st c hc)) (by simp)) hGw this.2⟩
    |dead=>exact this
   ·have hnn:=(AL1.1 hB).1
    simp at hnn;obtain rfl:n=σ.bx.length:=by omega
    rw[AOt (by omega)]at hB hG;simp[h1]at hB hG;subst hB hG;have eb:E'.Iz σ.bx.length=w.heap.size:=by simp[E',Env.lR]
    refine⟨by rw[eb],arr,ty,(0,0),by simp_all,fun i _ h=>by omega,hv.imp fun _ _ hv=>G4 keep hv⟩
  ·simp only[AS7,ATP,ATj,ANV]
   refine⟨ANh.2 ⟨h3.nodup,by simp,fun x hx y hy e=> ?_⟩,fun c hc ht=> ?_,fun c hc=> ?_,h3.st,fun c hc=> ?_,h3.gok.mono (fun _ h=>h) (fun c hc=>hw c (h3.ie c hc) (by simp))⟩
   ·subst e
    simp at hy;have:=h3.lt x hx;omega
   ·rcases AOK.1 hc with hc|hc
    ·exact h3.free c hc ht
    ·simp at hc;have:=h3.ie c ht;omega
   ·rcases AOK.1 hc with hc|hc
    ·have:=h3.lt c hc;grind
    grind
   ·have:=h3.ie c hc;grind
 ·refine⟨⟨fun _ h=>h,fun _ h=>h,fun _ h=> .inl h,fun _ h=> .inl h,fun c hc=>hw c (h3.ie c hc) (by simp),rfl,rfl,rfl,by simp[w']⟩,by simp[St.new],fun b hb=>⟨?_,rfl⟩,fun b hb=> ?_,fun n B B' _ hB XC hnd=> ?_⟩
  ·grind[Env.lR]
  ·grind[List.getElem?_eq_some_iff,St.new,List.getElem?_append_left]
  ·have hnl:=(AL1.1 hB).1
   simp only[St.new]at XC;rw[AOU hnl,hB]at XC;cases XC;refine⟨ZF.refl hnd,fun c hc=> ?_⟩;have hF:Fs[n]? =some (Fs[n]'(by omega)):=ALk _;rcases ll (h2 n B _ hB hF) hc with hs|hs
   ·exact hw c (h3.ie c (st c hs)) (by simp)
   ·exact hw c (h3.lt c (APu.2 ⟨_,AOX hF,hs⟩)) (by simp)
 ·refine⟨by simp[St.new],?_⟩
  simp[E',Env.lR]
end Go.Fw
end
section
namespace Go.Fw
theorem He:∀r:Ty,(FO r).length=r.n
 | .cons c r=>by simp[FO,Ty.n,He r]
 | .unit=>rfl
 | .int _=>rfl
 | .bool=>rfl
 | .str=>rfl
 | .sl _=>rfl
theorem gQ{E:Env}{w:World}{vw:List Bx}(t:Ty):VR E w vw (AFs t) (zv t):=by
 cases t<;>first
  |exact VR.int _ _
  |exact VR.bool _
  |exact VR.str _
  |rfl
  |trivial
theorem dX{E:Env}{w:World}{vw:List Bx}:∀r:Ty,oU E w vw (hI r) (FO r)
 | .cons c r=>⟨gQ c,dX r⟩
 | .unit=>trivial
 | .int k=>⟨gQ (.int k),trivial⟩
 | .bool=>⟨gQ .bool,trivial⟩
 | .str=>⟨gQ .str,trivial⟩
 | .sl r=>⟨gQ (.sl r),trivial⟩
theorem lY{w:World}{S:Nat->Prop}{d:Nat}:∀{r:Ty},r.vG=true->Ow w S d r (FO r) r.z []
 | .cons c r,h=>by
  simp only[Ty.vG,AL8]at h;simp only[Ow,FO];refine⟨_,_,[],[],rfl,rfl,?_,lY h.2⟩;cases c with
  |sl q=>exact yE
  |int k=>simp[Ow,zv,Ty.z]
  |bool=>simp[Ow,zv,Ty.z]
  |str=>simp[Ow,zv,Ty.z]
  |unit=>simp[Ty.cell]at h
  |cons _ _=>simp[Ty.cell]at h
 | .unit,_=>by simp[Ow,FO]
 | .int k,_=>by simp[Ow,FO,zv,Ty.z]
 | .bool,_=>by simp[Ow,FO,zv,Ty.z]
 | .str,_=>by simp[Ow,FO,zv,Ty.z]
 | .sl q,_=>yE
theorem dJ{n:Nat}:∀{css:List (List Value)} {ex:List Value} {i j:Nat} {cs:List Value},(∀c∈css,c.length=n)->css[i]? =some cs->j<n->(css.flatten++ex)[i*n+j]? =cs[j]?
 |[],_,_,_,_,_,h,_=>by simp at h
 |c::css,ex,0,j,cs,hl,h,hj=>by
  grind
 |c::css,ex,i+1,j,cs,hl,h,hj=>by
  have hc:=hl c (by simp);have ih:=dJ (css:=css) (ex:=ex) (i:=i) (j:=j) (cs:=cs) (fun c' jy=>hl c' (AWV _ jy)) (by simp_all) hj;simp only[ATP,ANZ];rw[AOt (by grind),<-ih];congr 1;grind
theorem uJ{w:World}{b:Nat}{arr:Array Value}{ty:TypeId}{fr:AD3}(hb:w.heap[b]? =some (.cells arr ty fr)){n:Nat}{css:List (List Value)}{ex:List Value}(ha:arr.toList=css.flatten++ex)
  (hl:∀c∈css,c.length=n) {i:Nat} {cs:List Value} (h:css[i]? =some cs):Bj w b (i*n) cs:=by
 intro j v hj;have hjn:j<n:=by
  grind
 simp only[World.cell?,hb,ASE,AMx,API];rw[<-Array.getElem?_toList,ha,dJ hl h hjn,hj]
theorem kN{w:World}{S:Nat->Prop}{d b cap:Nat}{r:Ty}{rows:List r.D}{arr:Array Value}{ty:TypeId}{fr:AD3}(hb:w.heap[b]? =some (.cells arr ty fr)){css:List (List Value)}{ex:List Value}
  (ha:arr.toList=css.flatten++ex) (hc:css.length=rows.length) (AEG:rows.length<=cap) (NN:cap*r.n<=arr.size) (hu:ADI fr (arr.size+mk r)) {Fs:List ABu} (hF:Fs.length=rows.length)
  (fz:∀(i:Nat) cs y G,css[i]? =some cs->rows[i]? =some y->Fs[i]? =some G->Ow w S d r cs y G):
  Ow w S (d+1) (.sl r) [.slice (some ⟨b,0,none⟩) rows.length cap] rows (b::Fs.flatten):=by
 have hl:∀c∈css,c.length=r.n:=by
  intro c jy;obtain⟨i,hi,rfl⟩:=AQD jy;exact cj (fz i _ _ _ (ALk hi) (ALk (by omega)) (ALk (by omega)))
 simp only[Ow];refine⟨_,cap,rfl,AEG,.inr ⟨b,0,arr,ty,fr,Fs,rfl,hb,by omega,hu,rfl,hF,fun i y G hy hG=> ?_⟩⟩;have hi:i<css.length:=by
  grind
 refine⟨css[i],hl _ (AM9 hi),?_,fz i _ y G (ALk hi) hy hG⟩;rw[AS9];grind[uJ,List.getElem?_eq_getElem]
theorem a8(n:Nat):ADI (0,0) n:=fun i _ h=>by omega
theorem Jz{w:World}{o:Obj}{c:Nat}(h:c<w.heap.size):(w.heap.push o)[c]? =w.heap[c]?:=by
 grind
section
variable{Y:Type} {P:Program} {T:Ky} (hT:E_ P T) {o:Oper} {E:Env} {σ:St} {a:Act} {w:World} {k:K Y} {y:Y}
theorem AJN(h:Rel E σ a w){t:TypeId}{x:Operand}(ho:o.op= .box t x)(hk:(σ.ev x).cells.all AV.known=true)(hn:(σ.ev x).cells≠[])(e:k (.c (.JR σ.bx.length 0)) (σ.new (.mem (σ.ev x).cells))=some y):
  Mx P o E σ a w k y:=by
 obtain⟨h1,h2⟩:=wP (h.ev x) hk hn;obtain⟨r1,r2,r3⟩:=wJ h t h1;refine⟨_,_,_,_,_,.inl ?_,r1,r3,r2.any,rfl,e⟩;simp only[execOp,ho,Instr.box,newVar,newRow,Sem.run_bind,run_newObj,Result.andThen_ok,Sem.run_pure];rfl
include hT
theorem row_zero{t:Nat}{r:Ty}(e:T.o7 t=some r):∃i z,P.info? t=some i/\i.zero=some z/\z.cells.toList=FO r/\r.vG=true:=by
 unfold Ky.o7 at e;split at e
 ·rename_i ti Yj
  obtain⟨i,h1,_,_,h2⟩:=(hT t ti Yj).info;simp_all
 simp_all
theorem AEn(h:Rel E σ a w){t:TypeId}(ho:o.op= .alloc t){r:Ty}(hr:T.o7 t=some r)(e:k (.c (.JR σ.bx.length 0)) (σ.new (.mem (hI r)))=some y):Mx P o E σ a w k y:=by
 obtain⟨i,z,h1,h2,h3,_⟩:=row_zero hT hr;obtain⟨r1,r2,r3⟩:=wJ (arr:=z.cells) h t (by rw[h3];exact dX r);refine⟨_,_,_,_,_,.inl ?_,r1,r3,r2.any,rfl,e⟩;simp only[execOp,ho,Instr.alloc,zeroValue,typeInfo,newVar,newRow,Sem.run_bind,run_program,Result.andThen_ok,h1,h2,run_newObj,Sem.run_pure];rfl
end
end Go.Fw
end
section
namespace Go.Fw
def Fz(arr:Array Value):Nat->List Value->Array Value
 |_,[]=>arr
 |o,c::l=>Fz (arr.setIfInBounds o c) (o+1) l
theorem GU:∀(l:List Value) (o:Nat) (arr:Array Value),(Fz arr o l).size=arr.size
 |[],_,_=>rfl
 |c::l,o,arr=>by simp[Fz,GU l]
theorem wO(off:Nat):∀(l:List Value) (k:Nat) (arr:Array Value),(l.zipIdx k).foldl (fun cs (q:Value×Nat)=>cs.setIfInBounds (off+q.2) q.1) arr=Fz arr (off+k) l
 |[],_,_=>rfl
 |c::l,k,arr=>by
  simp only[List.zipIdx_cons,List.foldl_cons,Fz];rw[wO off l (k+1)];rfl
theorem br{E:Env}{w:World}{vw:List Bx}:∀{xs:List AV} {vs:List Value} {cs j7:List AV} {arr:Array Value} {o:Nat},oU E w vw cs arr.toList->oU E w vw xs vs->cf cs o xs=some j7->
  oU E w vw j7 (Fz arr o vs).toList/\o+xs.length<=cs.length\/(xs=[]/\j7=cs)
 |[],[],cs,j7,arr,o,h,_,e=>by simp only[cf,ALl]at e;simp_all
 |x::xs,v::vs,cs,j7,arr,o,h,hx,e=>by
  simp only[cf]at e;split at e
  case isFalse=>cases e
  rename_i ho;have h1:oU E w vw (cs.set o x) (arr.setIfInBounds o v).toList:=by
   rw[Array.toList_setIfInBounds];exact Cr.set h hx.1
  rcases br h1 hx.2 e with⟨h2,h3⟩|⟨rfl,rfl⟩
  ·refine .inl ⟨h2,?_⟩
   grind
  ·cases vs with
   |nil=>exact .inl ⟨h1,by grind⟩
   |cons _ _=>exact hx.2.elim
 |[],_::_,_,_,_,_,_,hx,_=>hx.elim
 |_::_,[],_,_,_,_,_,hx,_=>hx.elim
section
variable{Y:Type} {P:Program} {T:Ky} (hT:E_ P T) {o:Oper} {E:Env} {σ:St} {a:Act} {w:World} {k:K Y} {y:Y}
def AEI(E:Env)(w:World)(vw:List Bx)(l:List (Nat×XV))(m:List (Nat×Value)):Prop:=Cr (fun x v=>x.1=v.1/\XR E w vw x.2 v.2) l m
theorem xB(h:Rel E σ a w)(ps:Array (Nat×Operand)):AEI E w σ.bx (ps.toList.map fun q=>(q.1,σ.ev q.2)) (ps.map fun(i,x)=>(i,a.eval x)).toList:=by
 rw[Array.toList_map]
 generalize ps.toList=l
 induction l with
 |nil=>trivial
 |cons q l ih=>exact⟨⟨rfl,h.ev q.2⟩,ih⟩
theorem zb{place:Nat->Option AD3}{i off size:Nat}(hp:place i=some (off,size)){cells:Array Value}{v:Value}{rest:List (Nat×Value)}(h1:v.cells.size=size)(h2:off+v.cells.size<=cells.size):
  Instr.fill place cells ((i,v)::rest)=Instr.fill place (Fz cells off v.cells.toList) rest:=by
 have e:v.cells.zipIdx.foldl (fun cs (q:Value×Nat)=>cs.setIfInBounds (off+q.2) q.1) cells=Fz cells off v.cells.toList:=by
  rw[<-Array.foldl_toList];have:(v.cells.zipIdx).toList=v.cells.toList.zipIdx:=by simp
  rw[this];exact wO off v.cells.toList 0 cells
 conv=>lhs;unfold Instr.fill
 grind
theorem yA{α β:Type}{f:α->Option β}{g:α->β}:∀{l:List α},(∀x∈l,f x=some (g x))->l.mapM f=some (l.map g)
 |[],_=>rfl
 |x::l,h=>by
  simp only[AWp,h x (by simp),yA (l:=l) (g:=g) (fun y hy=>h y (by simp[hy]))];rfl
include hT
theorem gn{fs:List AD3}{vw:List Bx}:∀{parts:List (Nat×XV)} {vals:List (Nat×Value)} {cs j7:List AV} {arr:Array Value},AEI E w vw parts vals->oU E w vw cs arr.toList->nE T fs cs parts=some j7->
  ∃Lq:Array Value,Instr.fill (fun i=>(fs[i]?).bind fun q=>((P.info? q.2).map fun i=>(q.1,i.size))) arr vals=some Lq/\oU E w vw j7 Lq.toList
 |[],[],cs,j7,arr,_,h,e=>by
  simp only[nE,ALl]at e;subst e;exact⟨arr,rfl,h⟩
 |(i,x)::ps,(j,v)::vs,cs,j7,arr,hp,h,e=>by
  obtain⟨⟨hij,hx⟩,hp⟩:=hp;simp only at hij hx;subst hij;simp only[nE]at e;split at e
  case h_2=>cases e
  rename_i off u hf;split at e
  case h_2=>cases e
  rename_i ti Yj;split at e
  case isFalse=>cases e
  rename_i hc;obtain⟨c1,c2,c3⟩:=hc;simp only[AMp]at e;obtain⟨cs1,e1,e2⟩:=e;have jt:x.cells≠[]:=by grind
  obtain⟨x1,x2⟩:=wP hx c3 jt;rcases br h x1 e1 with⟨s1,s2⟩|⟨s1,_⟩
  ·have NN:v.cells.size=ti.size:=by
    have:=x1.len;simp_all
   have hlen:=h.len;obtain⟨Lq,f1,f2⟩:=gn hp s1 e2;refine⟨Lq,?_,f2⟩;have Abw:(fun i=>(fs[i]?).bind fun q=>((P.info? q.2).map fun i=>(q.1,i.size))) i=some (off,ti.size):=by
    have:=E_.size hT Yj;simp_all
   grind[zb]
  simp_all
 |[],_::_,_,_,_,hp,_,_=>hp.elim
 |_::_,[],_,_,_,hp,_,_=>hp.elim
theorem AEN(h:Rel E σ a w){t:TypeId}{ps:Array (Nat×Operand)}(ho:o.op= .build t ps){s b:Nat}{fs:List AD3}{rw:Option Ty}(Yj:T.get t=some ⟨s,b,.st fs,rw⟩){r:Ty}(hr:T.o7 t=some r)
  {cs:List AV} (hb:nE T fs (hI r) (ps.toList.map fun q=>(q.1,σ.ev q.2))=some cs) (e:k (.agg cs) σ=some y):Mx P o E σ a w k y:=by
 obtain⟨i,z,h1,h2,h3,_⟩:=row_zero hT hr;obtain⟨fields,hu,hfs,NN⟩:=AMK hT Yj;obtain⟨Lq,f1,f2⟩:=gn hT (xB h ps) (arr:=z.cells) (by grind[dX]) hb;refine Mx.same h (v:= .agg Lq) (x:= .agg cs) ?_ ⟨Lq,rfl,f2⟩ e
 have hb:P.built t (ps.map fun(i,x)=>(i,a.eval x)).toList=some Lq:=by
  unfold Program.built;simp only[h1,hu,h2];have hm:fields.toList.mapM (fun f=>(P.info? f.type).map fun i=>(f.offset,i.size))=some (fields.toList.map fun f=>(f.offset,((P.info? f.type).map (·.size)).getD 0)):=by
   grind[yA]
  simp only[hm];rw[<-f1];congr 1;funext n;subst hfs;simp only[List.getElem?_toArray,APl];cases hn:fields.toList[n]? with
  |none=>simp
  |some f=>
   obtain⟨i',Ds,_⟩:=NN f (AOX hn);simp[Ds]
 grind[run_build,execOp,Sem.run_bind,Result.andThen_ok,Sem.run_pure]
end
end Go.Fw
end
section
namespace Go.Fw
theorem wrap_small{n:Int}(h0:0<=n)(h1:n<=(C7:Int)):IntKind.i64.wrap n=n:=by
 grind[C7,IntKind.wrap,IntKind.bits,IntKind.signed]
theorem H5{m:Nat}{zl:List Value}:((List.replicate m zl).flatten).length=m*zl.length:=by
 simp_all
theorem Ox{zl:List Value}:∀{m i:Nat},i<m*zl.length->((List.replicate m zl).flatten)[i]? =zl[i%zl.length]?
 |0,i,h=>by omega
 |m+1,i,h=>by
  simp only[List.replicate_succ,ATP];by_cases hi:i<zl.length
  ·rw[AOU hi,Nat.mod_eq_of_lt hi]
  ·have Ds:zl.length<=i:=by omega
   rw[AOt Ds,Ox (by grind),<-Nat.mod_eq_sub_mod Ds]
theorem ax{zero:Array Value}{zl:List Value}(hz:zero.toList=zl)(m:Nat)(h0:zl≠[]):((Array.range (m*zl.length)).map (fun i=>zero[i%zero.size]!)).toList=(List.replicate m zl).flatten:=by
 have hs:zero.size=zl.length:=by grind
 have AMo:0<zl.length:=AT9.2 h0;apply ATd;intro i;by_cases hi:i<m*zl.length
 ·grind[Ox,Nat.mod_lt,Array.toList_map,Array.toList_range,List.getElem?_range,List.getElem?_eq_getElem]
 simp_all
section
variable{Y:Type} {P:Program} {T:Ky} (hT:E_ P T) {o:Oper} {E:Env} {σ:St} {a:Act} {w:World} {k:K Y} {y:Y}
include hT
theorem bB{e:Nat}{ti:TI}{r:Ty}(he:T.get e=some ti)(hr:ti.row=some r):∃i z,P.info? e=some i/\i.size=ti.size/\i.bytes=ti.bytes/\i.zero=some z/\z.cells.toList=FO r/\r.vG=true:=by
 obtain⟨i,h1,h2,h3,h4⟩:=(hT e ti he).info;simp_all
theorem AHy(h:Rel E σ a w){t:TypeId}{l c:Operand}(ho:o.op= .makeSlice t l c)(e:zt T t σ (σ.ev l) (σ.ev c) k=some y):Mx P o E σ a w k y:=by
 unfold zt at e;split at e
 case h_2=>cases e
 rename_i el n m hd hl hc;split at e
 case h_2=>cases e
 rename_i r hr;split at e
 case isFalse=>cases e
 rename_i Xj;split at e
 case isFalse=>cases e
 rename_i hb;obtain⟨b0,b1,b2⟩:=hb;obtain⟨el',ti,hu,Yj,hs,hby,hrow⟩:=Lk hT Xj;obtain⟨i,z,i1,i2,i3,i4,i5,hg⟩:=bB hT Yj hrow;obtain⟨κ1,e1⟩:=Jg hl (h.ev l);obtain⟨κ2,e2⟩:=Jg hc (h.ev c);have w1:=wrap_small b0 (by omega);have w2:=wrap_small (n:=m) (by omega) b2
 let arr:Array Value:=(Array.range (m.toNat*r.n)).map (fun j=>(if m.toNat*r.n=0 then #[]else z.cells)[j%(if m.toNat*r.n=0 then(#[]:Array Value)else z.cells).size]!)
 have ji:arr.toList=(List.replicate n.toNat (FO r)).flatten++(List.replicate (m.toNat-n.toNat) (FO r)).flatten:=by
  have hz:=He r;have split:(List.replicate n.toNat (FO r)).flatten++(List.replicate (m.toNat-n.toNat) (FO r)).flatten=(List.replicate m.toNat (FO r)).flatten:=by
   grind[List.flatten_append,List.replicate_append_replicate]
  rw[split];by_cases h0:m.toNat*r.n=0
  ·grind[List.length_eq_zero_iff,H5]
  grind[FO,ax]
 let w':=w.alloc (.cells arr el')
 have new:w'.heap[w.heap.size]? =some (.cells arr el'):=by
  show(w.heap.push (.cells arr el'))[w.heap.size]? =_
  simp
 have APd:arr.size=m.toNat*r.n:=by simp[arr]
 have how:Ow w' E.S (8+1) (.sl r) [.slice (some ⟨w.heap.size,0,none⟩) (List.replicate n.toNat r.z).length m.toNat] (List.replicate n.toNat r.z) (w.heap.size::(List.replicate n.toNat ([]:ABu)).flatten):=by
  refine kN new ji (by simp) (by grind) (by omega) (a8 _) (by simp) fun i cs y G h1 h2 h3=> ?_
  simp only[List.getElem?_replicate]at h1 h2 h3;split at h1
  ·rename_i hi
   rw[ALi hi]at h2 h3;grind[lY]
  simp_all
 have hF:(List.replicate n.toNat ([]:ABu)).flatten=[]:=by simp
 rw[hF]at how;simp only[ATB]at how;obtain⟨r1,r2,r3⟩:=Wz h (H0.refl h.bx) (w':=w') (d:=9) (by omega) how (by simp) (by simp) (by simp[w']) (fun c hc _=>Jz hc) ⟨rfl,rfl,rfl,by simp[w']⟩;refine⟨_,_,_,_,_,.inl ?_,r1,r3,r2.any,rfl,e⟩;have AYt:(i.bytes:Int)*m<=2^48:=by
  have h1:(i.bytes:Int)<=512:=by omega
  have h2:(i.bytes:Int)*m<=512*m:=Int.mul_le_mul_of_nonneg_right h1 (by omega);grind[C7]
 simp only[execOp,ho,Instr.makeSlice,e1,e2,Sem.run_bind,Bg hu,Result.andThen_ok,asInt,asIntOf,Sem.run_pure,typeInfo,run_program,i1,w1,w2];rw[ALj (by grind)];by_cases h0:m.toNat*r.n=0
 ·have e3:arr=(Array.range (m.toNat*r.n)).map (fun j=>(#[]:Array Value)[j%(#[]:Array Value).size]!):=by simp_all
  simp only[Sem.run_bind,run_askRoom,Result.andThen_ok,sizeOf,typeInfo,run_program,i1,Sem.run_pure,i2,hs,h0,AQm,newRow,run_newObj];simp only[w',e3,h0];rfl
 ·have e3:arr=(Array.range (m.toNat*r.n)).map (fun j=>z.cells[j%z.cells.size]!):=by grind
  simp only[Sem.run_bind,run_askRoom,Result.andThen_ok,sizeOf,typeInfo,run_program,i1,Sem.run_pure,i2,hs,h0,API,newRow,run_newObj,zeroValue,i4];simp only[w',e3];rfl
end
end Go.Fw
end
section
namespace Go.Fw
theorem pV{w:World}{B S:Nat->Prop}{d:Nat}:∀{r:Ty} {cs:List Value} {x:r.D},r.flat=true->Rd w B r cs x->Ow w S d r cs x []
 | .cons c r,cs,x,h,hr=>by
  simp only[Ty.flat,AL8]at h;simp only[Rd]at hr;obtain⟨v,l,rfl,h1,h2⟩:=hr;simp only[Ow];exact⟨v,l,[],[],rfl,rfl,pV h.1 h1,pV h.2 h2⟩
 | .unit,_,_,_,hr=>by grind[Rd,Ow]
 | .int k,_,_,_,hr=>by grind[Rd,Ow]
 | .bool,_,_,_,hr=>by grind[Rd,Ow]
 | .str,_,_,_,hr=>by grind[Rd,Ow]
 | .sl q,_,_,h,_=>by simp[Ty.flat]at h
theorem Mr{P:Program}{w:World}{b o:Nat}{cs:List Value}(h:Bj w b o cs):(loadCells ⟨b,o,none⟩ cs.length).run P w= .ok cs.toArray w:=
 run_loadCells_list (P:=P) w ⟨b,o,none⟩ cs fun j v hv=>by rw[Addr.add_eq];exact h j v hv
theorem cq{l:List Value}:(l.map fun v=>[v]).flatten=l:=by
 induction l with
 |nil=>rfl
 |cons a l ih=>simp[ih]
theorem vY{w:World}{B:Nat->Prop}{r:Ty}{b o:Nat}{ys:List r.D}(h:∀(i:Nat) (y:r.D),ys[i]? =some y-> ∃cs,cs.length=r.n/\Bj w b (o+i*r.n) cs/\Rd w B r cs y):
  ∃css:List (List Value),css.length=ys.length/\(∀c∈css,c.length=r.n)/\Bj w b o css.flatten/\ ∀(i:Nat) cs y,css[i]? =some cs->ys[i]? =some y->Rd w B r cs y:=by
 induction ys generalizing o with
 |nil=>exact⟨[],rfl,by simp,fun _ _ h=>by simp at h,fun i cs y h=>by simp at h⟩
 |cons y ys ih=>
  obtain⟨cs,c1,c2,c3⟩:=h 0 y rfl;obtain⟨css,d1,d2,d3,d4⟩:=ih (o:=o+r.n) (fun i z hz=>by
   obtain⟨cs,e1,e2,e3⟩:=h (i+1) z (by simp_all);grind)
  refine⟨cs::css,by simp[d1],by simp_all,?_,?_⟩
  ·intro j v hj
   simp only[ATP]at hj;by_cases hjl:j<cs.length
   ·rw[AOU hjl]at hj
    have:=c2 j v hj;simp_all
   ·rw[AOt (by omega)]at hj
    have:=d3 _ v hj;grind
  grind
theorem Bj.append{w:World}{b o:Nat}{l m:List Value}(h:Bj w b o l)(k:Bj w b (o+l.length) m):Bj w b o (l++m):=by
 intro j v hj;by_cases hjl:j<l.length
 ·rw[AOU hjl]at hj
  exact h j v hj
 ·rw[AOt (by omega)]at hj
  have:=k _ v hj;grind
section
variable{Y:Type} {P:Program} {T:Ky} (hT:E_ P T) {o:Oper} {E:Env} {σ:St} {a:Act} {w:World} {k:K Y} {y:Y}
theorem Jp(hT:E_ P T){t:Nat}{d:TD}(e:(T.get t).map TI.desc=some d):ABC P t d:=by
 simp only[ALs]at e;obtain⟨ti,h1,rfl⟩:=e;exact(hT t ti h1).und
theorem xL{src dst e:Nat}(hs:P.underlying src=some (.slice e))(he:P.underlying e=some (.int .u8))(hd:P.underlying dst=some .string){x:Value}{l:AAO}{B:Nat->Prop}
  (h:Rd w B (.sl (.int .u8)) [x] l):(convert src dst x).run P w= .ok (.string ⟨(l.map fun n:Int=>UInt8.ofNat n.toNat).toArray⟩) w:=by
 simp only[Rd]at h;obtain⟨a,cap,hx,hle,h⟩:=h;simp only[AOx,AQs]at hx;subst hx;rcases h with h|⟨b,o,rfl,_,h⟩
 ·obtain rfl:=AO_ h
  cases a with
  |none=>exact run_convert_bytes_nil w src e hs he _ _ dst hd
  |some a=>
   rw[run_convert_bytes_string w src dst e _ _ cap hs he hd];rfl
 ·refine run_convert_bytes_arg w src e hs he b o _ cap l rfl (fun i hi=> ?_) dst hd
  obtain⟨cs,c1,c2,c3⟩:=h i _ (ALk hi);subst c3;have:=c2 0 _ rfl;grind
include hT in
theorem AHT(h:Rel E σ a w){src dst:Nat}{x:Operand}(ho:o.op= .convert src dst x)(e:AAV T src dst σ (σ.ev x) k=some y):Mx P o E σ a w k y:=by
 have hx:=h.ev x;unfold AAV at e;split at e
 ·rename_i κ0 κ j n hs hd hv
  have h1:=Jp hT hs;have h2:=Jp hT hd;rw[hv]at hx;have dp:=iV (E:=E) (w:=w) (vw:=σ.bx) hx;refine Mx.same h (v:= .int κ (κ.wrap n)) (x:= .c (.v (.int κ) (κ.wrap n))) ?_ (VR.int (E:=E) (vw:=σ.bx) _ _) e
  simp only[ABC]at h1 h2;simp only[execOp,ho,dp,convert,Sem.run_bind,Bg h1,Bg h2,Result.andThen_ok,Conv.intToInt,Sem.run_pure]
 ·rename_i s hs hd hv
  have h1:=Jp hT hs;have h2:=Jp hT hd;rw[hv]at hx;have dp:=bH (E:=E) (w:=w) (vw:=σ.bx) hx;refine Mx.same h (v:= .string ⟨s.toArray⟩) (x:= .c (.v .str s)) ?_ (VR.str (E:=E) (vw:=σ.bx) _) e
  simp only[ABC]at h1 h2;simp only[execOp,ho,dp,convert,Sem.run_bind,Bg h1,Bg h2,Result.andThen_ok,Sem.run_pure]
 ·rename_i el s hs hd hv
  have h1:=Jp hT hs;have h2:=Jp hT hd;rw[hv]at hx;have dp:=bH (E:=E) (w:=w) (vw:=σ.bx) hx;split at e
  case h_2=>cases e
  rename_i Xj;have h3:=Jp hT Xj;split at e
  case isFalse=>cases e
  rename_i aN;simp only[ABC]at h1 h2 h3
  let S0:ByteArray:=⟨s.toArray⟩
  have NN:S0.size=s.length:=by simp[S0,ByteArray.size]
  have rz:=Lib.run_convert_string_bytes (P:=P) w src dst el S0 h1 h2 h3;have AEG:s.length<=grownCap w S0.size 0 el:=by rw[NN];exact grownCap_ge _ _ _ _
  have new:=Lib.bytesWorld_at_new w el S0;have ji:(Lib.bytesCells w el S0).toList=(s.map fun c=>[Value.int .u8 (c.toNat:Int)]).flatten++List.replicate (grownCap w S0.size 0 el-S0.size) (.int .u8 0):=by
   have:(s.map fun c=>[Value.int .u8 (c.toNat:Int)]).flatten=s.map fun c=>Value.int .u8 (c.toNat:Int):=by
    have:=cq (l:=s.map fun c=>Value.int .u8 (c.toNat:Int));simpa[ATa,Function.comp_def]using this
   rw[this];simp[Lib.bytesCells,S0]
  have APd:(Lib.bytesCells w el S0).size=grownCap w S0.size 0 el:=by
   rw[<-ATg,ji];have:((s.map fun c=>[Value.int .u8 (c.toNat:Int)]).flatten).length=s.length:=by
    have:=cq (l:=s.map fun c=>Value.int .u8 (c.toNat:Int));rw[ATa]at this;have e2:(s.map fun c=>[Value.int .u8 (c.toNat:Int)])=s.map ((fun v=>[v])∘fun c=>Value.int .u8 (c.toNat:Int)):=rfl;rw[e2,this];simp
   rw[AOu,this,ATB];omega
  have how:Ow (Lib.bytesWorld w el S0) E.S (8+1) (.sl (.int .u8)) [.slice (some ⟨w.heap.size,0,none⟩) (s.map fun c=>(c.toNat:Int)).length (grownCap w S0.size 0 el)] (s.map fun c=>(c.toNat:Int))
    (w.heap.size::(List.replicate s.length ([]:ABu)).flatten):=by
   refine kN (css:=s.map fun c=>[Value.int .u8 (c.toNat:Int)]) new ji (by simp) (by simpa using AEG) (by simp[Ty.n];omega) (fun i hi hh=>by simp only[mk]at hi;omega) (by simp) fun i cs y G q1 q2 q3=> ?_
   simp only[APl,ALs]at q1 q2;obtain⟨c1,z1,rfl⟩:=q1;obtain⟨c2,z2,rfl⟩:=q2;rw[z1]at z2;cases z2;have:G=[]:=ATG (AOX q3);subst this;simp[Ow]
  have hF:(List.replicate s.length ([]:ABu)).flatten=[]:=by simp
  rw[hF]at how;obtain⟨r1,r2,r3⟩:=Wz h (H0.refl h.bx) (w':=Lib.bytesWorld w el S0) (d:=9) (by omega) how (by simp) (by simp) (by simp[Lib.bytesWorld_size]) (fun c hc _=>Lib.bytesWorld_at_old w el S0 c hc)
   ⟨by simp[Lib.bytesWorld,World.freeze]<;>rfl,by simp[Lib.bytesWorld,World.freeze]<;>rfl,by simp[Lib.bytesWorld,World.freeze]<;>rfl,by rw[Lib.bytesWorld_size];omega⟩
  refine⟨_,_,_,_,_,.inl ?_,r1,r3,r2.any,rfl,e⟩;simp only[execOp,ho,dp,Sem.run_bind];have e5:=rz;simp only[S0]at e5;rw[e5];simp only[Result.andThen_ok,Sem.run_pure,ATS];rfl
 ·rename_i el z hs hd hv
  have h1:=Jp hT hs;have h2:=Jp hT hd;rw[hv]at hx;split at e
  case h_2=>cases e
  rename_i l Xj hl;have h3:=Jp hT Xj;simp only[ABC]at h1 h2 h3;obtain⟨Fs,hB,hS⟩:=h.bx;have dC:=Ya (F7.refl σ.bx) hB hS.st hx hl;have hr:=xL (P:=P) h1 h3 h2 dC;refine Mx.same h (v:= .string ⟨(l.map fun n:Int=>UInt8.ofNat n.toNat).toArray⟩) (x:= .c (.v .str (l.map fun n:Int=>UInt8.ofNat n.toNat))) ?_ (VR.str (E:=E) (vw:=σ.bx) _) e
  simp only[execOp,ho,Sem.run_bind,hr,Result.andThen_ok,Sem.run_pure]
 ·cases e
end
end Go.Fw
end
section
namespace Go.Fw
theorem jN:∀(l:List Value) (o:Nat) (arr:Array Value) (p q:List Value),p.length=o->(∃m:List Value,m.length=l.length/\arr.toList=p++m++q)->(Fz arr o l).toList=p++l++q
 |[],o,arr,p,q,hp,⟨m,hm,h⟩=>by
  grind[List.eq_nil_of_length_eq_zero,Fz]
 |c::l,o,arr,p,q,hp,⟨m,hm,h⟩=>by
  cases m with
  |nil=>simp_all
  |cons b m=>
   simp only[Fz];have:=jN l (o+1) (arr.setIfInBounds o c) (p++[c]) q (by simp[hp]) ⟨m,by simp_all,by
    simp_all⟩
   simp_all
theorem H0.more{E E1 E2:Env}{w:World}{vw bx qH gh:List Bx}{G F1 F2 A W:ABu}(k1:H0 E w vw bx G E1 qH F1)(k2:H0 E1 w vw qH (F1++G) E2 gh F2)(hp:F1.Perm (A++W)):
  let E3:Env:={ E2 with S:=fun c=>E2.S c\/c∈W,T:=fun c=>E2.T c\/c∈W }
  H0 E w vw bx G E3 gh (A++F2):=by
 intro E3;have hB:=k2.boxes.perm (G':=(F2++A)++W++G) (by
  grind)
 obtain⟨hle,c_⟩:=hB.share;exact⟨(k1.le.trans k2.le).trans hle,k2.len.trans k1.len,fun b B hb=>(k2.within b B hb).elim .inl (k1.within b B),c_.perm (ATY _ AVi)⟩
theorem fJ{w:World}{vw:List Bx}{r:Ty}(hg:r.vG=true):∀{n i:Nat} {parts:List (Nat×XV)} {vals:List (Nat×Value)} {E:Env} {bx:List Bx} {G:ABu} {d:Nat} {rows:List r.D} {TW:List Bx} {d':Nat},
  DG E w vw bx G->F7 bx vw->1<=d->AEI E w vw parts vals->dM r i n parts bx d=some (rows,TW,d')->1<=d'/\d'<=d/\rows.length=n/\ ∃(E':Env) (Fs:List ABu) (css:List (List Value)),
   H0 E w vw bx G E' TW Fs.flatten/\css.length=n/\Fs.length=n/\(∀(k:Nat) cs y G,css[k]? =some cs->rows[k]? =some y->Fs[k]? =some G->Ow w E'.S (d'-1) r cs y G)/\
   ∀(pre:List (List Value)) (arr:Array Value),pre.length=i->(∀c∈pre,c.length=r.n)->arr.toList=pre.flatten++(List.replicate n (FO r)).flatten->
    ∃Lq,Instr.fill (fun i=>some (i*r.n,r.n)) arr vals=some Lq/\Lq.toList=pre.flatten++css.flatten
 |0,i,[],[],E,bx,G,d,rows,TW,d',h,hw,hd,hp,e=>by
  simp only[dM,ALl,APJ]at e;obtain⟨rfl,rfl,rfl⟩:=e;refine⟨hd,AOd _,rfl,E,[],[],H0.refl h,rfl,rfl,by simp,fun pre arr _ _ ha=>⟨arr,rfl,by simp_all⟩⟩
 |n+1,i,(j,x)::l,(j',v)::m,E,bx,G,d,rows,TW,d',h,hw,hd,hp,e=>by
  obtain⟨⟨hj,hx⟩,hp⟩:=hp;simp only at hj hx;subst hj;simp only[dM]at e;split at e
  case isFalse=>cases e
  rename_i hij;subst hij;simp only[AMp,ALs,APJ]at e;obtain⟨⟨y1,qH,d1⟩,e1,⟨y2,gh,d2⟩,e2,rfl,rfl,rfl⟩:=e;dsimp only at e2|-;obtain⟨a1,a2,E1,F1,k1,o1⟩:=AC0 h hw hd hx e1;have ACk:=k1.le.keep (w:=w) (vw:=vw) h.st;obtain⟨b1,b2,b3,E2,Fs,css,k2,c1,c2,c3,c4⟩:=fJ hg (G:=F1++G) k1.boxes (hw.vm k1) a1 (hp.imp fun _ _ q=>⟨q.1,RE ACk q.2⟩) e2;obtain⟨A,W,vn,o1'⟩:=LF (d:=d'-1) (by omega) o1;refine⟨b1,APf b2 a2,by simp[b3],_,A::Fs,v.cells.toList::css,H0.more k1 k2 vn,by simp[c1],by simp[c2],fun k cs y G' q1 q2 q3=> ?_,fun pre arr hpl hpn ha=> ?_⟩
  ·cases k with
   |zero=>
    simp at q1 q2 q3;subst q1 q2 q3;refine Er (S:=fun b=>E1.S b\/b∈W) ?_ (fun _ _=>rfl) (fun _ _=>rfl) o1'
    intro c hc;exact hc.elim (fun h=> .inl (k2.le.S c h)) .inr
   |succ k=>
    refine Er (S:=E2.S) ?_ (fun _ _=>rfl) (fun _ _=>rfl) (c3 k cs y G' (by simp_all) (by simp_all) (by simp_all))
    simp_all
  ·have hlen:v.cells.toList.length=r.n:=cj o1
   have hpf:pre.flatten.length=i*r.n:=by
    clear ha c4
    subst hpl;clear e1 e2
    induction pre with
    |nil=>simp
    |cons c pre ih=>grind
   have X3:(Fz arr (i*r.n) v.cells.toList).toList=pre.flatten++v.cells.toList++(List.replicate n (FO r)).flatten:=
    jN _ _ _ _ _ hpf ⟨FO r,by rw[He,hlen],by grind⟩
   obtain⟨Lq,f1,f2⟩:=c4 (pre++[v.cells.toList]) (Fz arr (i*r.n) v.cells.toList) (by simp[hpl]) (by
    grind) (by simp_all)
   refine⟨Lq,?_,by simp_all⟩;rw[zb (i:=i) (off:=i*r.n) (size:=r.n) rfl (by omega) ?_]
   all_goals grind[List.length_append,H5,He,Nat.succ_mul]
 |n+1,i,[],[],E,bx,G,d,rows,TW,d',h,hw,hd,hp,e=>by
  simp only[dM,ALs,APJ]at e;obtain⟨⟨y2,gh,d2⟩,e2,rfl,rfl,rfl⟩:=e;obtain⟨b1,b2,b3,E2,Fs,css,k2,c1,c2,c3,c4⟩:=fJ hg (G:=G) h hw hd (parts:=[]) (vals:=[]) trivial e2;refine⟨b1,b2,by simp[b3],E2,[]::Fs,FO r::css,by simp_all,by simp[c1],by simp[c2],fun k cs y G' q1 q2 q3=> ?_,fun pre arr hpl hpn ha=> ?_⟩
  ·grind[lY]
  ·obtain⟨Lq,f1,f2⟩:=c4 (pre++[FO r]) arr (by simp[hpl]) (by
    grind[He]) (by grind)
   simp_all
 |0,_,_::_,_,_,_,_,_,_,_,_,_,_,_,_,e=>by simp[dM]at e
 |0,_,[],_::_,_,_,_,_,_,_,_,_,_,_,hp,_=>hp.elim
 |_+1,_,[],_::_,_,_,_,_,_,_,_,_,_,_,hp,_=>hp.elim
 |_+1,_,_::_,[],_,_,_,_,_,_,_,_,_,_,hp,_=>hp.elim
section
variable{Y:Type} {P:Program} {T:Ky} (hT:E_ P T) {o:Oper} {E:Env} {σ:St} {a:Act} {w:World} {k:K Y} {y:Y}
include hT
theorem th(h:Rel E σ a w){t n:Nat}{ps:Array (Nat×Operand)}(ho:o.op= .buildSlice t n ps)(e:T3 T t n (ps.toList.map fun q=>(q.1,σ.ev q.2)) σ k=some y):Mx P o E σ a w k y:=by
 unfold T3 at e;split at e
 case h_2=>cases e
 rename_i el hd;split at e
 case h_2=>cases e
 rename_i r hr;split at e
 case isFalse=>cases e
 rename_i hc;simp only[AL8,AM7]at hc;obtain⟨⟨Xj,hn⟩,hrn⟩:=hc;simp only[AMp]at e;obtain⟨⟨rows,TW,d'⟩,e1,e⟩:=e;dsimp only at e;obtain⟨el',ti,hu,Yj,hs,hby,hrow⟩:=Lk hT Xj;obtain⟨i,z,i1,i2,i3,i4,i5,hg⟩:=bB hT Yj hrow;have ASC:=xB h ps;obtain⟨b1,b2,b3,E',Fs,css,k2,c1,c2,c3,c4⟩:=fJ hg h.bx (F7.refl _) (by omega) ASC e1
 let zero:Array Value:=if n*r.n=0 then #[]else z.cells
 have hz:((Array.range (n*r.n)).map (fun j=>zero[j%zero.size]!)).toList=(List.replicate n (FO r)).flatten:=by
  by_cases h0:n*r.n=0
  ·have h1:(List.replicate n (FO r)).flatten=[]:=by
    rw[<-AUM,H5,He,h0]
   rw[h1];simp[h0]
  ·have jt:FO r≠[]:=by
    intro he;have:=He r;rw[he]at this;simp at this;rw[<-this]at h0;simp at h0
   have:=ax i5 n jt;rw[He]at this;simp only[zero,ALj h0];exact this
 obtain⟨Lq,f1,f2⟩:=c4 [] _ rfl (by simp) (by rw[hz];simp);simp only[ATj,AQH]at f2
 let w':=w.alloc (.cells Lq el')
 have new:w'.heap[w.heap.size]? =some (.cells Lq el'):=by
  show(w.heap.push (.cells Lq el'))[w.heap.size]? =_
  simp
 obtain⟨d,rfl⟩:∃m,d' =m+1:=⟨d'-1,by omega⟩;have hl:∀c∈css,c.length=r.n:=by
  intro c hc;obtain⟨j,hj,rfl⟩:=AQD hc;exact cj (c3 j _ _ _ (ALk hj) (ALk (by omega)) (ALk (by omega)))
 have hfl:css.flatten.length=n*r.n:=by
  rw[<-c1];clear f2 c3 c4 c1
  induction css with
  |nil=>simp
  |cons c l ih=>simp[hl c (by simp),ih (fun c hc=>hl c (by simp[hc])),Nat.succ_mul];omega
 have APd:Lq.size=n*r.n:=by rw[<-ATg,f2,hfl]
 obtain⟨Fs0,hB1,c_⟩:=k2.boxes;simp only[ANV]at c_;have how:Ow w' E'.S (d+1) (.sl r) [.slice (some ⟨w.heap.size,0,none⟩) rows.length n] rows (w.heap.size::Fs.flatten):=by
  refine kN (css:=css) (ex:=[]) new (by simpa using f2) (by omega) (by omega) (by omega) (a8 _) (by omega) fun k cs y G q1 q2 q3=> ?_
  have RW:∀c∈G,c∈Fs.flatten:=fun c hc=>APu.2 ⟨G,AOX q3,hc⟩
  exact Er (fun _ h=>h) (fun c hc=>Jz (c_.ie c (c_.st c hc))) (fun c hc=>Jz (c_.lt c (by simp only[AOK];exact .inr (RW c hc)))) (by simpa using c3 k cs y G q1 q2 q3)
 rw[b3]at how;obtain⟨r1,r2,r3⟩:=Wz h k2 (w':=w') (d:=d+1) (by omega) how (by
   intro c hc;rcases AO3.1 hc with rfl|hc
   ·exact .inr (AOd _)
   ·exact .inl hc) (by
   refine ATq.2 ⟨fun hc=> ?_,(ANh.1 c_.nodup).2.1⟩;have:=c_.lt w.heap.size (by simp only[AOK];exact .inr hc);omega) (by
   intro c hc;rcases AO3.1 hc with rfl|hc
   ·simp[w']
   ·have:=c_.lt c (by simp only[AOK];exact .inr hc)
    simp[w'];omega) (fun c hc _=>Jz hc) ⟨rfl,rfl,rfl,by simp[w']⟩
 refine⟨_,_,_,_,_,.inl ?_,r1,r3,r2.any,rfl,e⟩;have aN: ¬(n*r.n>2^24):=by
  have:n*r.n<=1024*1024:=AWt hn hrn;omega
 simp only[execOp,ho,Instr.buildSlice,Sem.run_bind,Bg hu,Result.andThen_ok,sizeOf,typeInfo,run_program,i1,Sem.run_pure,i2,hs,aN,API];by_cases h0:n*r.n=0
 ·have hz0:zero= #[]:=by simp only[zero,ALi h0]
  rw[hz0]at f1;simp only[h0,AQm,Sem.run_bind,Sem.run_pure,Result.andThen_ok];rw[h0]at f1;simp only[f1,newRow,Sem.run_bind,run_newObj,Result.andThen_ok,Sem.run_pure];rfl
 ·have hz0:zero=z.cells:=by simp only[zero,ALj h0]
  rw[hz0]at f1;simp only[h0,API,Sem.run_bind,zeroValue,typeInfo,run_program,Result.andThen_ok,i1,Sem.run_pure,i4];simp only[f1,newRow,Sem.run_bind,run_newObj,Result.andThen_ok,Sem.run_pure];rfl
end
end Go.Fw
end
section
namespace Go.Fw
theorem iA(w:World)(b o:Nat)(v:Value):(w.setCell ⟨b,o,none⟩ v).heap=w.heap.modify b fun
 | .cells c elem frozen=> .cells (c.setIfInBounds o v) elem frozen
 |o=>o:=rfl
theorem GO:∀(vs:List Value) (o:Nat) (w:World) (b:Nat) (arr:Array Value) (ty:TypeId) (fr:AD3),w.heap[b]? =some (.cells arr ty fr)->
  (w.setCells b o vs).heap[b]? =some (.cells (Fz arr o vs) ty fr)
 |[],_,_,_,_,_,_,h=>h
 |v::l,o,w,b,arr,ty,fr,h=>by
  simp only[World.setCells,Fz];refine GO l (o+1) _ b _ ty fr ?_
  rw[iA,Array.getElem?_modify,ALi rfl,h];rfl
theorem Dp:∀(vs:List Value) (o:Nat) (w:World) (b:Nat),(w.setCells b o vs).heap.size=w.heap.size
 |[],_,_,_=>rfl
 |v::l,o,w,b=>by
  simp only[World.setCells];rw[Dp l,iA,Array.size_modify]
theorem Db:∀(vs:List Value) (o:Nat) (w:World) (b c:Nat),c≠b->(w.setCells b o vs).heap[c]? =w.heap[c]?
 |[],_,_,_,_,_=>rfl
 |v::l,o,w,b,c,h=>by
  simp only[World.setCells];rw[Db l _ _ _ _ h,iA,Array.getElem?_modify,ALj (fun e=>h e.symm)]
theorem CO:∀(vs:List Value) (o:Nat) (w:World) (b:Nat),Grown w (w.setCells b o vs)
 |[],_,_,_=>⟨rfl,rfl,rfl,AOd _⟩
 |v::l,o,w,b=>by
  have:=CO l (o+1) (w.setCell ⟨b,o,none⟩ v) b;refine⟨this.os,this.tape,this.output,?_⟩;rw[Dp];omega
theorem aU{arr:Array Value}:∀{l:List Value} {o j:Nat},o+l.length<=arr.size->(Fz arr o l)[j]? =if o<=j/\j<o+l.length then l[j-o]? else arr[j]?:=by
 intro l
 induction l generalizing arr with
 |nil=>intro o j _;rw[ALj (fun hh=>by grind)];rfl
 |cons c l ih=>
  intro o j h;simp only[AOJ]at h;simp only[Fz];grind
theorem L1{w:World}{b o:Nat}{arr:Array Value}{ty:TypeId}{fr:AD3}(h:w.heap[b]? =some (.cells arr ty fr)):w.cell? ⟨b,o,none⟩=arr[o]?:=by
 simp[World.cell?,h]
theorem QG{w:World}{b o:Nat}{vs:List Value}{arr:Array Value}{ty:TypeId}{fr:AD3}(h:w.heap[b]? =some (.cells arr ty fr))(hs:o+vs.length<=arr.size):Bj (w.setCells b o vs) b o vs:=by
 intro j v hj;have hl:=(AL1.1 hj).1;rw[L1 (GO vs o w b arr ty fr h),aU hs,ALi (by omega),show o+j-o=j by omega,hj]
theorem Xe{w:World}{b b' o o':Nat}{vs cs:List Value}{arr:Array Value}{ty:TypeId}{fr:AD3}(hc:Bj w b' o' cs)(h:w.heap[b]? =some (.cells arr ty fr))(hs:o+vs.length<=arr.size)
  (ha:b'≠b\/o'+cs.length<=o\/o+vs.length<=o'):Bj (w.setCells b o vs) b' o' cs:=by
 intro j v hj;have hl:=(AL1.1 hj).1;by_cases hb:b' =b
 ·subst hb
  have:=hc j v hj;rw[L1 h]at this;rw[L1 (GO vs o w b' arr ty fr h),aU hs,ALj (by omega),this]
 ·rw[World.cell?_of_block (a:=⟨b',o'+j,none⟩) (Db vs o w b b' hb)]
  exact hc j v hj
theorem X4{w:World}{b o n k:Nat}{arr:Array Value}{ty:TypeId}{fr:AD3}(h:w.heap[b]? =some (.cells arr ty fr))(hs:o+n<=arr.size)(hu:ADI fr (arr.size+k)):w.there b o n:=by
 intro j hj;refine⟨?_,?_⟩
 ·rw[L1 h]
  grind
 ·have:=hu (o+j) (by omega)
  grind[World.frozen?]
theorem rk{w:World}{S:Nat->Prop}:∀{r:Ty} {d:Nat} {cs:List Value} {y:r.D} {F:ABu},Ow w S d r cs y F-> ∀v∈cs,v.oneCell' =true
 | .int _,_,_,_,_,h,v,hv=>by simp only[Ow]at h;rw[h.1]at hv;simp at hv;subst hv;rfl
 | .bool,_,_,_,_,h,v,hv=>by simp only[Ow]at h;rw[h.1]at hv;simp at hv;subst hv;rfl
 | .str,_,_,_,_,h,v,hv=>by simp only[Ow]at h;rw[h.1]at hv;simp at hv;subst hv;rfl
 | .unit,_,_,_,_,h,v,hv=>by grind[Ow]
 | .sl _,0,_,_,_,h,v,hv=>by
  simp only[Ow,Rd]at h;obtain⟨⟨_,_,rfl,_⟩,_⟩:=h;simp at hv;subst hv;rfl
 | .sl _,_+1,_,_,_,h,v,hv=>by
  simp only[Ow]at h;obtain⟨_,_,rfl,_⟩:=h;simp at hv;subst hv;rfl
 | .cons _ _,_,_,_,_,h,v,hv=>by
  simp only[Ow]at h;obtain⟨u,l,F1,F2,rfl,_,h1,h2⟩:=h;rcases AO3.1 hv with rfl|hv
  ·exact rk h1 _ (by simp)
  ·exact rk h2 _ hv
section
variable{P:Program} {w:World}
structure rY (P:Program) (w:World) (size n:Nat) (x:Value) (news:List Value):Prop where
 len:∀w',(Builtin.lenOf x).run P w' = .ok n w'
 cells:∀w',w'.heap=w.heap->(Builtin.firstCells size n x).run P w' = .ok news.toArray w'
theorem mT{ts:Array TypeId}{t u ty e:TypeId}(ht0:ts[0]? =some t)(ht1:ts[1]? =some u){i:TypeInfo}{size:Nat}(ht:P.underlying t=some (.slice e))(hu:(∃e,P.underlying u=some (.slice e))\/P.underlying u=some .string)(hi:P.info? e=some i)(NN:i.size=size)
  {b o ZM pd n:Nat} {x:Value} {news:List Value} (hn:rY P w size n x news) (WG:ZM+n<=pd) (wG:w.there b (o+ZM*size) news.length) (h1:∀v∈news,v.oneCell' =true):
  (Builtin.append_ ts ty #[.slice (some ⟨b,o,none⟩) ZM pd,x]).run P w= .ok (.slice (some ⟨b,o,none⟩) (ZM+n) pd) (w.setCells b (o+ZM*size) news):=by
 subst NN;have yS:=run_storeCells_cells (P:=P) b (o+ZM*i.size) news 0 w (fun j hj=>by simpa using(wG j hj).1) (fun j hj=>by simpa using(wG j hj).2) h1;simp only[ATL]at yS;have hl:=hn.len w;have hf:=hn.cells w rfl;rcases hu with⟨e',hu⟩|hu
 ·simp[Builtin.append_,ht0,ht1,run_underlying ht,run_underlying hu,sizeOf,typeInfo,hi,hl,WG,hf,Addr.add_eq,yS]
 ·simp[Builtin.append_,ht0,ht1,run_underlying ht,run_underlying hu,sizeOf,typeInfo,hi,hl,WG,hf,Addr.add_eq,yS]
theorem uG{ts:Array TypeId}{t u ty e:TypeId}(ht0:ts[0]? =some t)(ht1:ts[1]? =some u){i:TypeInfo}{size:Nat}(ht:P.underlying t=some (.slice e))(hu:(∃e,P.underlying u=some (.slice e))\/P.underlying u=some .string)(hi:P.info? e=some i)(NN:i.size=size)
  {a:Option Addr} {x:Value} (hn:rY P w size 0 x []):
  (Builtin.append_ ts ty #[.slice a 0 0,x]).run P w= .ok (.slice a 0 0) w:=by
 subst NN;have hl:=hn.len w;have hf:=hn.cells w rfl;cases a with
 |none=>
  rcases hu with⟨e',hu⟩|hu
  ·simp[Builtin.append_,ht0,ht1,run_underlying ht,run_underlying hu,sizeOf,typeInfo,hi,hl,hf]
  ·simp[Builtin.append_,ht0,ht1,run_underlying ht,run_underlying hu,sizeOf,typeInfo,hi,hl,hf]
 |some a=>
  have yS:(storeCells (a.add (0*i.size)) [] 0).run P w= .ok () w:=rfl;rcases hu with⟨e',hu⟩|hu
  ·simp[Builtin.append_,ht0,ht1,run_underlying ht,run_underlying hu,sizeOf,typeInfo,hi,hl,hf,storeCells]
  ·simp[Builtin.append_,ht0,ht1,run_underlying ht,run_underlying hu,sizeOf,typeInfo,hi,hl,hf,storeCells]
theorem jJ{ts:Array TypeId}{t u ty e:TypeId}(ht0:ts[0]? =some t)(ht1:ts[1]? =some u){i:TypeInfo}{z:Value}{size:Nat}(ht:P.underlying t=some (.slice e))(hu:(∃e,P.underlying u=some (.slice e))\/P.underlying u=some .string)(hi:P.info? e=some i)(hz:i.zero=some z)(NN:i.size=size)
  {a:Option Addr} {ZM pd n:Nat} {x:Value} {AVl news:List Value} (ho:∀w',w'.heap=w.heap->(Builtin.firstCells size ZM (.slice a ZM pd)).run P w' = .ok AVl.toArray w')
  (hn:rY P w size n x news) (AW2:pd<ZM+n) (h63:ZM+n<=C7) (hby:i.bytes<=512):
  (Builtin.append_ ts ty #[.slice a ZM pd,x]).run P w= .ok (.slice (some ⟨w.heap.size,0,none⟩) (ZM+n) (grownCap w (ZM+n) pd e))
   (w.drew.alloc (.cells (AVl.toArray++news.toArray++Builtin.zeroCells z.cells (grownCap w (ZM+n) pd e-(ZM+n))) e)):=by
 subst NN;have hl:=hn.len w;have hf:=hn.cells w.drew rfl;have hfo:=ho w.drew rfl;have hno: ¬(ZM+n<=pd):=by omega
 have hb:(ZM+n)*i.bytes<=140737488355328:=by
  have:(ZM+n)*i.bytes<=C7*512:=AWt h63 hby;grind[C7]
 have h48:=growslice_fits AW2 hb;have AUt: ¬(281474976710656<Builtin.nextslicecap (ZM+n) pd*i.bytes):=by omega
 have AUO: ¬(9223372036854775807<((ZM:Int)+(n:Int))):=by grind[C7]
 rcases hu with⟨e',hu⟩|hu
 ·simp[Builtin.append_,ht0,ht1,run_underlying ht,run_underlying hu,sizeOf,typeInfo,zeroValue,hi,hz,hl,hno,AUO,AUt,Question.forced,hf,hfo,newRow,grownCap]
  grind
 ·simp[Builtin.append_,ht0,ht1,run_underlying ht,run_underlying hu,sizeOf,typeInfo,zeroValue,hi,hz,hl,hno,AUO,AUt,Question.forced,hf,hfo,newRow,grownCap]
  grind
end
end Go.Fw
end
section
namespace Go.Fw
def F8(w:World)(S:Nat->Prop)(d:Nat)(r:Ty)(css:List (List Value))(rows:List r.D)(Fs:List ABu):Prop:=
 css.length=rows.length/\Fs.length=rows.length/\(∀c∈css,c.length=r.n)/\ ∀(i:Nat) cs y G,css[i]? =some cs->rows[i]? =some y->Fs[i]? =some G->Ow w S d r cs y G
theorem F8.mono{w w':World}{S S':Nat->Prop}{d:Nat}{r:Ty}{css:List (List Value)}{rows:List r.D}{Fs:List ABu}(h:F8 w S d r css rows Fs)(hS:∀c,S c->S' c)(hw:∀c,S c->w'.heap[c]? =w.heap[c]?)
  (hF:∀c∈Fs.flatten,w'.heap[c]? =w.heap[c]?):F8 w' S' d r css rows Fs:=
 ⟨h.1,h.2.1,h.2.2.1,fun i cs y G a b c=>Er hS hw (fun x hx=>hF x (APu.2 ⟨G,AOX c,hx⟩)) (h.2.2.2 i cs y G a b c)⟩
theorem F8.append{w:World}{S:Nat->Prop}{d:Nat}{r:Ty}{css AUR:List (List Value)}{rows rows':List r.D}{Fs Fs':List ABu}(h:F8 w S d r css rows Fs)(k:F8 w S d r AUR rows' Fs'):
  F8 w S d r (css++AUR) (rows++rows') (Fs++Fs'):=by
 refine⟨by simp[h.1,k.1],by simp[h.2.1,k.2.1],fun c hc=>(AOK.1 hc).elim (h.2.2.1 c) (k.2.2.1 c),fun i cs y G a b c=> ?_⟩;by_cases hi:i<rows.length
 ·rw[AOU (by rw[h.1];omega)]at a
  rw[AOU hi]at b;rw[AOU (by rw[h.2.1];omega)]at c;exact h.2.2.2 i cs y G a b c
 ·rw[AOt (by rw[h.1];omega)]at a
  rw[AOt (by omega)]at b;rw[AOt (by rw[h.2.1];omega)]at c;rw[h.1]at a;rw[h.2.1]at c;exact k.2.2.2 _ cs y G a b c
theorem F8.weaken{w:World}{S:Nat->Prop}{d d':Nat}{r:Ty}{css:List (List Value)}{rows:List r.D}{Fs:List ABu}(h:F8 w S d r css rows Fs)(hd:d'<=d):
  ∃(Gs:List ABu) (W:ABu),Fs.flatten.Perm (Gs.flatten++W)/\F8 w (fun c=>S c\/c∈W) d' r css rows Gs:=by
 obtain⟨Gs,Ws,h1,h2,h3,h4⟩:=w4 (R:=fun i G F W=> ∀cs y,css[i]? =some cs->rows[i]? =some y->Ow w (fun c=>S c\/c∈W) d' r cs y F) Fs 0 (fun i G hG=>by
  rw[AS9];have hi:=(AL1.1 hG).1;have h1:=h.1;have h2:=h.2.1;obtain⟨F,W,hp,ho⟩:=LF hd (h.2.2.2 i _ _ G (ALk (by omega)) (ALk (by omega)) hG);grind)
 refine⟨Gs,Ws.flatten,h3,h.1,h1.trans h.2.1,h.2.2.1,fun i cs y G a b c=> ?_⟩;have hi:=(AL1.1 c).1;have hw:Ws[i]? =some (Ws[i]'(by omega)):=ALk _;have hf:Fs[i]? =some (Fs[i]'(by omega)):=ALk _;have:=h4 i _ _ _ hf c hw cs y (by simp_all) (by simp_all);exact Er (fun x hx=>hx.imp id fun hx=>APu.2 ⟨_,AOX hw,hx⟩) (fun _ _=>rfl) (fun _ _=>rfl) this
theorem Ih{n:Nat}:∀{css:List (List Value)},(∀c∈css,c.length=n)->css.flatten.length=css.length*n
 |[],_=>by simp
 |c::l,h=>by simp[h c (by simp),Ih (css:=l) (fun c hc=>h c (by simp[hc])),Nat.succ_mul];omega
theorem F8.one{w:World}{S:Nat->Prop}{d:Nat}{r:Ty}{css:List (List Value)}{rows:List r.D}{Fs:List ABu}(h:F8 w S d r css rows Fs):∀v∈css.flatten,v.oneCell' =true:=by
 intro v hv;obtain⟨c,hc,hv⟩:=APu.1 hv;obtain⟨i,hi,rfl⟩:=AQD hc;have h1:=h.1;have h2:=h.2.1;exact rk (h.2.2.2 i _ _ _ (ALk hi) (ALk (by omega)) (ALk (by omega))) v hv
theorem F8.flat{w:World}{B S:Nat->Prop}{d:Nat}{r:Ty}(hf:r.flat=true){css:List (List Value)}{rows:List r.D}(h1:css.length=rows.length)(h2:∀c∈css,c.length=r.n)
  (h3:∀(i:Nat) cs y,css[i]? =some cs->rows[i]? =some y->Rd w B r cs y):F8 w S d r css rows (List.replicate rows.length []):=by
 refine⟨h1,by simp,h2,fun i cs y G a b c=> ?_⟩;grind[List.mem_of_getElem?,pV]
theorem Bj.heap{w w':World}{b o:Nat}{cs:List Value}(h:Bj w b o cs)(e:w'.heap=w.heap):Bj w' b o cs:=h.of_block (by rw[e])
theorem TE{P:Program}{w:World}{a:Option Addr}{n cap size:Nat}{css:List (List Value)}(hl:css.length=n)(hc:∀c∈css,c.length=size)
  (h:n=0\/ ∃b o,a=some ⟨b,o,none⟩/\Bj w b o css.flatten):rY P w size n (.slice a n cap) css.flatten:=by
 refine⟨fun w' =>rfl,fun w' e=> ?_⟩;have hlen:css.flatten.length=n*size:=by rw[Ih hc,hl]
 rcases h with rfl|⟨b,o,rfl,h⟩
 ·have:css=[]:=AO_ hl
  subst this;cases a with
  |none=>rfl
  |some a=>
   simp only[Builtin.firstCells,Nat.zero_mul,ATj];rfl
 ·simp only[Builtin.firstCells]
  rw[<-hlen];exact Mr (h.heap e)
theorem AJh{P:Program}{w:World}{s:ABG}:rY P w 1 s.length (.string ⟨s.toArray⟩) (s.map fun c=>[Value.int .u8 (c.toNat:Int)]).flatten:=by
 refine⟨fun w' =>rfl,fun w' _=> ?_⟩;have NN:(⟨s.toArray⟩:ByteArray).size=s.length:=by rfl
 have e1:(⟨s.toArray⟩:ByteArray).extract 0 s.length=⟨s.toArray⟩:=by
  rw[<-NN];apply ByteArray.ext;simp
 simp only[Builtin.firstCells,e1,Sem.run_pure];have:(s.map fun c=>[Value.int .u8 (c.toNat:Int)]).flatten=s.map fun c=>Value.int .u8 (c.toNat:Int):=by
  have:=cq (l:=s.map fun c=>Value.int .u8 (c.toNat:Int));grind[List.map_map,Function.comp_def]
 simp_all
theorem vS{w:World}{S:Nat->Prop}{d:Nat}{r:Ty}{v:Value}{rows:List r.D}{F:ABu}(h:Ow w S (d+1) (.sl r) [v] rows F):
  ∃a cap css Fs R,v= .slice a rows.length cap/\rows.length<=cap/\F8 w S d r css rows Fs/\F.Perm (Fs.flatten++R)/\
   ((cap=0/\F=[])\/ ∃b o arr ty fr,a=some ⟨b,o,none⟩/\w.heap[b]? =some (.cells arr ty fr)/\o+cap*r.n<=arr.size/\ADI fr (arr.size+mk r)/\F=b::Fs.flatten/\Bj w b o css.flatten):=by
 simp only[Ow]at h;obtain⟨a,cap,e,hle,h⟩:=h;simp only[AOx,AQs]at e;subst e;rcases h with⟨h,rfl⟩|⟨b,o,arr,ty,fr,Fs,rfl,hb,NN,hu,rfl,hFl,hr⟩
 ·have:rows=[]:=AO_ (by omega)
  subst this;exact⟨a,cap,[],[],[],rfl,hle,⟨rfl,rfl,by simp,fun i cs y G h=>by simp at h⟩,by simp,.inl ⟨h,rfl⟩⟩
 ·
  have key:∀(n o:Nat) (ys:List r.D) (Fs:List ABu),ys.length=n->Fs.length=n->(∀(i:Nat) (y:r.D) (G:ABu),ys[i]? =some y->Fs[i]? =some G-> ∃cs,cs.length=r.n/\Bj w b (o+i*r.n) cs/\Ow w S d r cs y G)->
    ∃css,F8 w S d r css ys Fs/\Bj w b o css.flatten:=by
   intro n
   induction n with
   |zero=>
    intro o ys Fs h1 h2 _;obtain rfl:=AO_ h1;obtain rfl:=AO_ h2;exact⟨[],⟨rfl,rfl,by simp,fun i cs y G h=>by simp at h⟩,fun _ _ h=>by simp at h⟩
   |succ n ih=>
    intro o ys Fs h1 h2 hh;obtain⟨y,ys,rfl⟩:=ATt h1;obtain⟨G,Fs,rfl⟩:=ATt h2;obtain⟨cs,c1,c2,c3⟩:=hh 0 y G rfl rfl;obtain⟨css,d1,d2⟩:=ih (o+r.n) ys Fs (by simp_all) (by simp_all) (fun i z G hz hG=>by
     obtain⟨cs,e1,e2,e3⟩:=hh (i+1) z G (by simp_all) (by simp_all);grind)
    refine⟨cs::css,⟨by simp[d1.1],by omega,fun c hc=> ?_,fun i j7 y' G' a b c=> ?_⟩,?_⟩
    ·rcases AO3.1 hc with rfl|hc
     ·omega
     ·exact d1.2.2.1 c hc
    ·cases i with
     |zero=>simp_all
     |succ i=>exact d1.2.2.2 i j7 y' G' (by simp_all) (by simp_all) (by simp_all)
    grind[List.flatten_cons,Bj.append]
  obtain⟨css,k1,k2⟩:=key rows.length o rows Fs rfl hFl hr;refine⟨_,cap,css,Fs,[b],rfl,hle,k1,?_,.inr ⟨b,o,arr,ty,fr,rfl,hb,NN,hu,rfl,k2⟩⟩;grind
theorem rl{w:World}{S:Nat->Prop}:∀{r:Ty} {cs:List Value} {x:r.D},Rd w S r cs x->Ow w S 0 r cs x []
 | .cons c r,cs,x,hr=>by
  simp only[Rd]at hr;obtain⟨v,l,rfl,h1,h2⟩:=hr;simp only[Ow];exact⟨v,l,[],[],rfl,rfl,rl h1,rl h2⟩
 | .unit,_,_,hr=>by grind[Rd,Ow]
 | .int k,_,_,hr=>by grind[Rd,Ow]
 | .bool,_,_,hr=>by grind[Rd,Ow]
 | .str,_,_,hr=>by grind[Rd,Ow]
 | .sl q,_,_,hr=>by simp only[Ow];simp_all
theorem mW{P:Program}{E:Env}{w:World}{vw bx:List Bx}{G:ABu}(h:DG E w vw bx G)(hw:F7 bx vw){x:AV}{v:Value}(hv:VR E w vw x v){r:Ty}{rows:List r.D}{TW:List Bx}{d:Nat}
  (e:vM bx x=some ⟨r,rows,TW,d⟩):1<=d/\ ∃E' F css Fs R,H0 E w vw bx G E' TW F/\F.Perm (List.flatten Fs++R)/\F8 w E'.S (d-1) r css rows Fs/\rY P w r.n rows.length v css.flatten:=by
 have plain:∀{B:Nat->Prop} {ys:List r.D},r.flat=true->Rd w B (.sl r) [v] ys-> ∀S:Nat->Prop,∃css,F8 w S 8 r css ys (List.replicate ys.length [])/\rY P w r.n ys.length v css.flatten:=by
  intro B ys hf hr S;simp only[Rd]at hr;obtain⟨a,cap,e1,hle,hr⟩:=hr;simp only[AOx,AQs]at e1;subst e1;rcases hr with hr|⟨b,o,rfl,_,hr⟩
  ·have:ys=[]:=AO_ hr
   subst this;exact⟨[],⟨rfl,rfl,by simp,fun i cs y G h=>by simp at h⟩,TE (css:=[]) rfl (by simp) (.inl rfl)⟩
  ·obtain⟨css,c1,c2,c3,c4⟩:=vY hr
   exact⟨css,F8.flat hf c1 c2 c4,TE c1 c2 (.inr ⟨b,o,rfl,c3⟩)⟩
 have done:∀{B:Nat->Prop} {ys:List r.D},r.flat=true->Rd w B (.sl r) [v] ys->rows=ys->TW=bx->d=9->
   1<=d/\ ∃E' F css Fs R,H0 E w vw bx G E' TW F/\F.Perm (List.flatten Fs++R)/\F8 w E'.S (d-1) r css rows Fs/\rY P w r.n rows.length v css.flatten:=by
  intro B ys hf hr e1 e2 e3;subst e1 e2 e3;obtain⟨css,k1,k2⟩:=plain hf hr E.S;exact⟨by omega,E,[],css,_,[],H0.refl h,by simp,k1,k2⟩
 unfold vM at e;split at e
 ·rename_i s
  simp only[ALl,AN3]at e;obtain⟨rfl,e⟩:=e;have e:=APR e;simp only[APJ]at e;obtain⟨rfl,rfl,rfl⟩:=e;have dp:=bH hv;subst dp;refine⟨by omega,E,[],s.map fun c=>[Value.int .u8 (c.toNat:Int)],_,[],H0.refl h,?_,F8.flat (B:=fun _=>False) rfl (by simp) (by simp[Ty.n]) (fun i cs y a b=> ?_),?_⟩
  ·simp
  ·simp only[APl,ALs]at a b
   obtain⟨c1,z1,rfl⟩:=a;obtain⟨c2,z2,rfl⟩:=b;grind[Rd]
  grind[AJh,Ty.n]
 ·rename_i s q ys
  split at e
  ·rename_i hf
   simp only[ALl,AN3]at e;obtain⟨rfl,e⟩:=e;have e:=APR e;simp only[APJ]at e;obtain⟨rfl,rfl,rfl⟩:=e;exact done hf hv rfl rfl rfl
  ·split at e
   case isFalse=>cases e
   rename_i hs;simp only[ALl,AN3]at e;obtain⟨rfl,e⟩:=e;have e:=APR e;simp only[APJ]at e;obtain⟨rfl,rfl,rfl⟩:=e;subst hs;simp only[VR,AQm]at hv;simp only[Rd]at hv;obtain⟨a,cap,e1,hle,hr⟩:=hv;simp only[AOx,AQs]at e1;subst e1;have key:∃css:List (List Value),List.length css=ys.length/\(∀c∈css,c.length=q.n)/\(∀(i:Nat) cs y,css[i]? =some cs->ys[i]? =some y->Rd w E.S q cs y)/\rY P w q.n ys.length (.slice a ys.length cap) css.flatten:=by
    rcases hr with hr|⟨b,o,rfl,_,hr⟩
    ·have:ys=[]:=AO_ hr
     subst this;exact⟨[],rfl,by simp,fun i cs y h=>by simp at h,TE (css:=[]) rfl (by simp) (.inl rfl)⟩
    ·obtain⟨css,c1,c2,c3,c4⟩:=vY hr
     exact⟨css,c1,c2,c4,TE c1 c2 (.inr ⟨b,o,rfl,c3⟩)⟩
   obtain⟨css,c1,c2,c3,c4⟩:=key;refine⟨AOd _,E,[],css,List.replicate ys.length [],[],H0.refl h,by simp,⟨c1,by simp,c2,fun i cs y G a b c=> ?_⟩,c4⟩;grind[List.mem_of_getElem?,rl]
 ·rename_i b
  split at e
  case h_2=>cases e
  rename_i d0 q ys hb;split at e
  ·rename_i hf
   simp only[ALl,AN3]at e;obtain⟨rfl,e⟩:=e;have e:=APR e;simp only[APJ]at e;obtain⟨rfl,rfl,rfl⟩:=e;obtain⟨Fs,hB,hS⟩:=h;exact done hf (gU hw hB hS.st hv (q:=q) (ys:=ys) (by simp[O3,hb,Hp])) rfl rfl rfl
  ·simp only[ALl,AN3]at e
   obtain⟨rfl,e⟩:=e;have e:=APR e;simp only[APJ]at e;obtain⟨rfl,rfl,rfl⟩:=e;obtain⟨F,⟨hd,ho⟩,hB⟩:=h.take hb;have hvw:=dY hw hb;simp only[VR,hvw,DC,ALl]at hv;obtain⟨_,_,_,rfl⟩:=hv;obtain⟨m,rfl⟩:∃m,d0=m+1:=⟨d0-1,by omega⟩;obtain⟨a,cap,css,Fs,R,e1,hle,fz,hp,hcase⟩:=vS ho;refine⟨hd,E,F,css,Fs,R,⟨Le.refl _,by simp,fun n B hn=> ?_,hB⟩,hp,fz,?_⟩
   ·grind
   ·rw[e1]
    refine TE fz.1 fz.2.2.1 ?_
    grind
 ·rename_i b p _
  split at e
  case h_2=>cases e
  rename_i d0 q ys hb;simp only[AMp]at e;obtain⟨⟨q',zs⟩,e1,e⟩:=e;dsimp only at e;split at e
  case isFalse=>cases e
  rename_i hf;simp only[ALl,AN3]at e;obtain⟨rfl,e⟩:=e;have e:=APR e;simp only[APJ]at e;obtain⟨rfl,rfl,rfl⟩:=e;obtain⟨Fs,hB,hS⟩:=h;exact done hf (gU hw hB hS.st hv (q:=q') (ys:=zs) (by simp[O3,hb,e1])) rfl rfl rfl
 ·rename_i b p off n
  split at e
  case h_2=>cases e
  rename_i d0 q ys hb;simp only[AMp]at e;obtain⟨⟨q',zs⟩,e1,e⟩:=e;dsimp only at e;split at e
  case isFalse=>cases e
  rename_i hf;simp only[ALl,AN3]at e;obtain⟨rfl,e⟩:=e;have e:=APR e;simp only[APJ]at e;obtain⟨rfl,rfl,rfl⟩:=e;obtain⟨Fs,hB,hS⟩:=h;exact done hf (gU hw hB hS.st hv (q:=q') (ys:=(zs.drop off).take n) (by simp[O3,hb,e1])) rfl rfl rfl
 simp_all
theorem mg{E:Env}{w:World}{vw bx:List Bx}{G:ABu}(h:DG E w vw bx G)(hw:F7 bx vw){x:AV}{v:Value}(hv:VR E w vw x v){r:Ty}{rows:List r.D}{TW:List Bx}{d:Nat}
  (e:vQ bx x=some ⟨r,rows,TW,d⟩):1<=d/\ ∃F1 F2,H0 E w vw bx G E TW (F1++F2)/\Ow w E.S d (.sl r) [v] rows F1:=by
 have tk:∀{b d0:Nat} {q:Ty} {ys:List q.D},bx[b]? =some (.sl d0 q ys)-> ∃F,1<=d0/\Ow w E.S d0 (.sl q) [E.I0 b] ys F/\H0 E w vw bx G E (bx.set b .dead) F:=by
  intro b d0 q ys hb;obtain⟨F,⟨hd,ho⟩,hB⟩:=h.take hb;refine⟨F,hd,ho,⟨Le.refl _,by simp,fun n B hn=> ?_,hB⟩⟩;grind
 unfold vQ at e;split at e
 ·rename_i b
  split at e
  case h_2=>cases e
  rename_i d0 q ys hb;simp only[ALl,AN3]at e;obtain⟨rfl,e⟩:=e;have e:=APR e;simp only[APJ]at e;obtain⟨rfl,rfl,rfl⟩:=e;obtain⟨F,hd,ho,hT⟩:=tk hb;have hvw:=dY hw hb;simp only[VR,hvw,DC,ALl]at hv;obtain⟨_,_,_,rfl⟩:=hv;exact⟨hd,F,[],by simp_all,ho⟩
 ·rename_i b off n
  split at e
  case h_2=>cases e
  rename_i d0 q ys hb;simp only[ALl,AN3]at e;obtain⟨rfl,e⟩:=e;have e:=APR e;simp only[APJ]at e;obtain⟨rfl,rfl,rfl⟩:=e;obtain⟨F,hd,ho,hT⟩:=tk hb;have hvw:=dY hw hb;simp only[VR,hvw,DC,ALl]at hv;obtain⟨_,_,q',zs,a,len,cap,h1,h2,h3,rfl⟩:=hv;simp only[Hp,ALl,AN3]at h1;obtain⟨rfl,h1⟩:=h1;obtain rfl:=APR h1;rw[h3]at ho;obtain⟨m,rfl⟩:∃m,d0=m+1:=⟨d0-1,by omega⟩;obtain⟨F1,F2,hp,ho'⟩:=ALF ho h2;exact⟨hd,F1,F2,⟨hT.le,hT.len,hT.within,hT.boxes.perm (ATY _ hp)⟩,ho'⟩
 simp_all
end Go.Fw
end
section
namespace Go.Fw
theorem mK{P:Program}{w:World}{a:Option Addr}{n cap size:Nat}{css:List (List Value)}(hl:css.length=n)(hc:∀c∈css,c.length=size)
  (h:n=0\/ ∃b o,a=some ⟨b,o,none⟩/\Bj w b o css.flatten):∀w',w'.heap=w.heap->(Builtin.firstCells size n (.slice a n cap)).run P w' = .ok css.flatten.toArray w':=
 (TE (P:=P) (cap:=cap) hl hc h).cells
theorem fS{z:Array Value}{n:Nat}:(Builtin.zeroCells z n).size=n*z.size:=size_zeroCells z n
section
variable{Y:Type} {P:Program} {T:Ky} (hT:E_ P T) {o:Oper} {E:Env} {σ:St} {a:Act} {w:World} {k:K Y} {y:Y}
include hT
theorem sj(h:Rel E σ a w){E2:Env}{gh:List Bx}{F Fd R:ABu}{t u ty:TypeId}{ts:Array TypeId}(ht0:ts[0]? =some t)(ht1:ts[1]? =some u)
  (hu:(∃e,P.underlying u=some (.slice e))\/P.underlying u=some .string) {m:Nat} {r:Ty} (Xj:T.PL t r=true)
  (kT:H0 E w σ.bx σ.bx [] E2 gh F) {v1 v2:Value} {drows Un:List r.D} {css:List (List Value)} {Fs:List ABu}
  (ho:Ow w E2.S (m+1) (.sl r) [v1] drows Fd) (hs:F8 w E2.S m r css Un Fs) (hn:rY P w r.n Un.length v2 css.flatten) (hp:F.Perm (Fd++Fs.flatten++R)) (aN:drows.length+Un.length<=C7):
  ∃v w' E',(Builtin.append_ ts ty #[v1,v2]).run P w= .ok v w'/\Rel E' { σ with bx:=gh++[.sl (m+1) r (drows++Un)] } a w'/\UC [] E σ.bx w E' (gh++[.sl (m+1) r (drows++Un)]) w'/\
   XR E' w' (gh++[.sl (m+1) r (drows++Un)]) (.c (.ref gh.length [])) v:=by
 obtain⟨e,ti,hut,Yj,hs1,hby,hrow⟩:=Lk hT Xj;obtain⟨i,z,i1,i2,i3,i4,i5,hg⟩:=bB hT Yj hrow;rw[hs1]at i2;obtain⟨Fs0,hB1,c_⟩:=kT.boxes;simp only[ANV]at c_;have hdF:∀c∈Fd,c∈F:=fun c hc=>hp.mem_iff.2 (by simp[hc])
 have hsF:∀c∈Fs.flatten,c∈F:=fun c hc=>hp.mem_iff.2 (by simp_all)
 have ndF:=(ANh.1 (hp.nodup_iff.1 (ANh.1 c_.nodup).2.1)).1;have ltF:∀c∈F,c<w.heap.size:=fun c hc=>c_.lt c (by simp_all)
 have Ac7:∀c∈F,¬E2.S c:=fun c hc hS=>c_.free c (by simp_all) (c_.st c hS)
 have ho0:=ho;obtain⟨ad,cap,dcss,Fs1,R1,rfl,hle,hd,hp1,hcase⟩:=vS ho;have dA:css.flatten.length=Un.length*r.n:=by rw[Ih hs.2.2.1,hs.1]
 have hdl:dcss.flatten.length=drows.length*r.n:=by rw[Ih hd.2.2.1,hd.1]
 by_cases WG:drows.length+Un.length<=cap
 ·rcases hcase with⟨h0,hF0⟩|⟨b,of,arr,ty0,fr,rfl,hb,NN,hunf,rfl,hc⟩
  ·
   have hd0:drows=[]:=AO_ (by omega);have hs0:Un=[]:=AO_ (by omega);subst hd0 hs0;have hc0:css=[]:=AO_ hs.1;subst hc0 h0;have rz:=uG (P:=P) (w:=w) (ty:=ty) ht0 ht1 hut hu i1 i2 (a:=ad) (x:=v2) (by simp_all);obtain⟨r1,r2,r3⟩:=Wz h kT (w':=w) (d:=m+1) (by omega) ho0 (fun c hc=> .inl (hdF c hc)) (ANh.1 ndF).1 (fun c hc=>ltF c (hdF c hc)) (fun _ _ _=>rfl) ⟨rfl,rfl,rfl,AOd _⟩;grind
  ·
   have kI:of+drows.length*r.n+css.flatten.length<=arr.size:=by
    have:(drows.length+Un.length)*r.n<=cap*r.n:=AOV _ WG;grind
   have rz:=mT (P:=P) (w:=w) (ty:=ty) ht0 ht1 hut hu i1 i2 (b:=b) (o:=of) hn WG (X4 hb kI hunf) hs.one;have hbF:b∈F:=hdF b (by simp);have jt:∀c,c∈Fs1.flatten\/c∈Fs.flatten\/E2.S c->c≠b:=by
    grind
   have js:∀c,c≠b->(w.setCells b (of+drows.length*r.n) css.flatten).heap[c]? =w.heap[c]?:=fun c hc=>Db _ _ _ _ _ hc
   have hd':=hd.mono (w':=w.setCells b (of+drows.length*r.n) css.flatten) (S':=E2.S) (fun _ h=>h) (fun c hc=>js c (jt c (.inr (.inr hc)))) (fun c hc=>js c (jt c (.inl hc)));have hs':=hs.mono (w':=w.setCells b (of+drows.length*r.n) css.flatten) (S':=E2.S) (fun _ h=>h) (fun c hc=>js c (jt c (.inr (.inr hc)))) (fun c hc=>js c (jt c (.inr (.inl hc))));have cU:=hd'.append hs';have AJI:Bj (w.setCells b (of+drows.length*r.n) css.flatten) b of (dcss++css).flatten:=by
    grind[List.flatten_append,Bj.append,Xe,QG]
   have how:Ow (w.setCells b (of+drows.length*r.n) css.flatten) E2.S (m+1) (.sl r) [.slice (some ⟨b,of,none⟩) (drows.length+Un.length) cap] (drows++Un) (b::(Fs1++Fs).flatten):=by
    simp only[Ow];refine⟨_,cap,by rw[AOu],by simp_all,.inr ⟨b,of,_,ty0,fr,Fs1++Fs,rfl,GO _ _ _ _ _ _ _ hb,by rw[GU];omega,by rw[GU];omega,rfl,cU.2.1,fun j q G hq hG=> ?_⟩⟩;have hj:=(AL1.1 hq).1;have h1:=cU.1;have hjl:j<(dcss++css).length:=by omega
    refine⟨(dcss++css)[j],cU.2.2.1 _ (AM9 _),fun x u hx=> ?_,cU.2.2.2 j _ _ _ (ALk hjl) hq hG⟩;have hxl:=(AL1.1 hx).1;rw[cU.2.2.1 _ (AM9 _)]at hxl;have:=dJ (n:=r.n) (css:=dcss++css) (ex:=[]) (i:=j) cU.2.2.1 (ALk hjl) hxl;rw[ANV,hx]at this;have:=AJI _ _ this;grind
   have vn:(b::(Fs1++Fs).flatten)=(b::Fs1.flatten)++Fs.flatten:=by simp
   rw[vn]at how;obtain⟨r1,r2,r3⟩:=Wz h kT (w':=w.setCells b (of+drows.length*r.n) css.flatten) (d:=m+1) (by omega) how (fun c hc=> .inl ((AOK.1 hc).elim (hdF c) (hsF c))) ndF
    (fun c hc=>by grind[Dp]) (fun c hc hcF=>js c (fun e=>hcF (e▸hbF))) (CO _ _ _ _)
   grind
 ·
  have hold:drows.length=0\/ ∃b o,ad=some ⟨b,o,none⟩/\Bj w b o dcss.flatten:=by
   grind
  have rz:=jJ (P:=P) (w:=w) (ty:=ty) ht0 ht1 hut hu i1 i4 i2 (mK (P:=P) (cap:=cap) hd.1 hd.2.2.1 hold) hn (by omega) aN (by omega);have hge:=grownCap_ge w (drows.length+Un.length) cap e
  generalize hgc:grownCap w (drows.length+Un.length) cap e=gc at rz hge
  let arr:Array Value:=dcss.flatten.toArray++css.flatten.toArray++Builtin.zeroCells z.cells (gc-(drows.length+Un.length))
  have ji:arr.toList=(dcss++css).flatten++(Builtin.zeroCells z.cells (gc-(drows.length+Un.length))).toList:=by simp[arr]
  have hzl:z.cells.size=r.n:=by rw[<-ATg,i5,He]
  have AY0:arr.size=gc*r.n:=by
   simp only[arr,AU1,AU6,fS,hzl,dA,hdl,<-AS5];simp_all
  let w':=w.drew.alloc (.cells arr e)
  have new:w'.heap[w.heap.size]? =some (.cells arr e):=by
   show(w.heap.push (.cells arr e))[w.heap.size]? =_
   simp
  have AJZ:∀c,c<w.heap.size->w'.heap[c]? =w.heap[c]?:=fun c hc=>Jz (w:=w) (o:= .cells arr e) hc
  have hR1:∀c∈Fs1.flatten,c∈Fd:=fun c hc=>hp1.mem_iff.2 (by simp_all)
  have hd':=hd.mono (w':=w') (S':=E2.S) (fun _ h=>h) (fun c hc=>AJZ c (c_.ie c (c_.st c hc))) (fun c hc=>AJZ c (ltF c (hdF c (hR1 c hc))));have hs':=hs.mono (w':=w') (S':=E2.S) (fun _ h=>h) (fun c hc=>AJZ c (c_.ie c (c_.st c hc))) (fun c hc=>AJZ c (ltF c (hsF c hc)));have cU:=hd'.append hs';have how:Ow w' E2.S (m+1) (.sl r) [.slice (some ⟨w.heap.size,0,none⟩) (drows++Un).length gc] (drows++Un) (w.heap.size::(Fs1++Fs).flatten):=
   kN new ji cU.1 (by simp_all) (by omega) (a8 _) cU.2.1 cU.2.2.2
  rw[AOu]at how;have RW:∀c∈(Fs1++Fs).flatten,c∈Fd++Fs.flatten:=by
   grind
  have nd1:(Fs1++Fs).flatten.Nodup:=by
   grind
  have AgI:∀c∈(Fs1++Fs).flatten,c∈F:=fun c hc=>(AOK.1 (RW c hc)).elim (hdF c) (hsF c)
  obtain⟨r1,r2,r3⟩:=Wz h kT (w':=w') (d:=m+1) (by omega) how (by
    simp_all) (by
    grind) (by
    grind) (fun c hc _=>AJZ c hc) ⟨rfl,rfl,rfl,by simp[w']⟩
  grind
end
end Go.Fw
end
section
namespace Go.Fw
theorem bQ{α β:Type}{args:Array α}{f:α->β}{x y:β}(h:args.toList.map f=[x,y]):∃a b,args= #[a,b]/\f a=x/\f b=y:=by
 obtain⟨l⟩:=args
 match l,h with
 |[a,b],h=>grind
theorem bK{α β:Type}{args:Array α}{f:α->β}{x:β}(h:args.toList.map f=[x]):∃a,args= #[a]/\f a=x:=by
 obtain⟨l⟩:=args;simp_all
section
variable{Y:Type} {P:Program} {T:Ky} (hT:E_ P T) {o:Oper} {E:Env} {σ:St} {a:Act} {w:World} {k:K Y} {y:Y}
include hT
theorem ADZ(h:Rel E σ a w){c:Call}{x1 x2:XV}(ho:o.op= .call c)(hc:c.callee= .builtin .append)(JO:c.args.toList.map σ.ev=[x1,x2])(e:lg T c.argTypes σ x1 x2 k=some y):Mx P o E σ a w k y:=by
 obtain⟨o1,o2,hargs',rfl,rfl⟩:=bQ JO;have i_:=h.ev o1;have fq:=h.ev o2;have exec:∀{v w'},(Builtin.append_ c.argTypes o.type #[a.eval o1,a.eval o2]).run P w= .ok v w'->(execOp a.eval o).run P w= .ok (.value v) w':=by
  intro v w' hr;simp only[execOp,ho,resolve,hc,hargs',invoke,builtin,Sem.run_bind,Sem.run_pure,Result.andThen_ok,List.map_toArray,ATU,AUB,hr]
 unfold lg at e;split at e
 case h_2=>cases e
 rename_i t u ht0 ht1;split at e
 case isFalse=>cases e
 rename_i hu;have hu':(∃e,P.underlying u=some (.slice e))\/P.underlying u=some .string:=by
  rw[AR1]at hu;grind[rr,bS]
 split at e
 ·
  rename_i z hz1 hz2;rw[hz1]at i_;rw[hz2]at fq;simp only[AMp]at e;obtain⟨⟨r,rows,TW,d⟩,e1,e⟩:=e;dsimp only at e;split at e
  case isFalse=>cases e
  rename_i Xj;split at e
  case isFalse=>cases e
  rename_i aN;obtain⟨hd,E',F,css,Fs,R,kT,hp,hs,hn⟩:=mW (P:=P) h.bx (F7.refl _) fq e1;obtain⟨m,rfl⟩:∃m,d=m+1:=⟨d-1,by omega⟩;have AbU:a.eval o1= .slice none 0 0:=i_;obtain⟨v,w',E3,hr,r1,r2,r3⟩:=sj hT h (ty:=o.type) ht0 ht1 hu' Xj kT (v1:= .slice none 0 0) (Fd:=[]) (drows:=[]) yE hs hn (R:=R) (by simp_all) (by simp_all);rw[<-AbU]at hr;simp only[AQH]at r1 r3;exact⟨_,_,_,_,_,.inl (exec hr),r1,r3,r2.any,rfl,e⟩
 ·rename_i z1 z2 hnn hz1 hz2
  rw[hz1]at i_;rw[hz2]at fq;simp only[AMp]at e;obtain⟨⟨r,rows,qH,d⟩,e1,e⟩:=e;dsimp only at e;split at e
  case isFalse=>cases e
  rename_i Xj;simp only[AMp]at e;obtain⟨⟨q,srows0,gh,ds⟩,e2,Un,e3,e⟩:=e;dsimp only at e e3;obtain⟨hqr,e4⟩:=I5 e3;subst hqr;subst e4;dsimp only at e;split at e
  case isFalse=>cases e
  rename_i aN;obtain⟨hd,F1,F2,k1,ho1⟩:=mg h.bx (F7.refl _) i_ e1;obtain⟨hds,E',F3,css,Fs,R,k2,hp,hs,hn⟩:=mW (P:=P) k1.boxes ((F7.refl _).vm k1) fq e2;obtain⟨m,hm⟩:∃m,min d ds=m+1:=⟨min d ds-1,by omega⟩;rw[hm]at e;obtain⟨A,W1,p1,ho1'⟩:=LF (d:=m+1) (by omega) ho1;obtain⟨Gs,W2,p2,hs'⟩:=hs.weaken (d':=m) (by omega);have hB:=k2.boxes.perm (G':=(A++Gs.flatten++(R++F2))++(W1++W2)++[]) (by
   grind)
  obtain⟨hle,c_⟩:=hB.share;have kT:H0 E w σ.bx σ.bx [] _ gh (A++Gs.flatten++(R++F2)):=⟨(k1.le.trans k2.le).trans hle,k2.len.trans k1.len,fun b B hb=>(k2.within b B hb).elim .inl (k1.within b B),c_⟩;have ho2:Ow w (fun c=>E'.S c\/c∈W1++W2) (m+1) (.sl q) [a.eval o1] rows A:=
   Er (fun c hc=>hc.imp (k2.le.S c) (by simp_all)) (fun _ _=>rfl) (fun _ _=>rfl) ho1'
  have hs2:F8 w (fun c=>E'.S c\/c∈W1++W2) m q css srows0 Gs:=hs'.mono (fun c hc=>hc.imp id (by simp_all)) (fun _ _=>rfl) (fun _ _=>rfl);obtain⟨v,w',E3,hr,r1,r2,r3⟩:=sj hT h (ty:=o.type) ht0 ht1 hu' Xj kT ho2 hs2 hn (AWh _) aN;exact⟨_,_,_,_,_,.inl (exec hr),r1,r3,r2.any,rfl,e⟩
 simp_all
end
end Go.Fw
end
section
namespace Go.Fw
theorem tp{P:Program}{w:World}{b o:Nat}{ty:TypeId}{v:Value}(ht:w.there b o v.cells.toList.length)(hi:(P.info? ty).map (·.size)=some v.cells.toList.length)(h1:∀u∈v.cells.toList,u.oneCell' =true):
  (Instr.storeAt ty (.pointer (some ⟨b,o,none⟩)) v).run P w= .ok () (w.setCells b o v.cells.toList):=by
 have:=run_storeCells_cells (P:=P) b o v.cells.toList 0 w (fun j hj=>by simpa using(ht j hj).1) (fun j hj=>by simpa using(ht j hj).2) h1;cases hq:P.info? ty with
 |none=>simp_all
 |some i=>
  have hs:v.cells.size=i.size:=by simp_all
  simp only[ATL]at this;simp[Instr.storeAt,Instr.sureAddr,storeVar,sizeOf,typeInfo,hq,hs,this]
theorem g_{E E1 E':Env}{w w':World}{vw qH TW:List Bx}{F:ABu}(b0:Nat)(k:H0 E w vw vw [] E1 qH F)(st:∀c,E.S c->E.T c)(hlen:vw.length<=TW.length)
  (hbx:∀b d r rows,b≠b0->b<vw.length->TW[b]? =some (.sl d r rows)->qH[b]? =some (.sl d r rows)) (AKk:∀b,b<vw.length->E'.Iz b=E1.Iz b) (uO:∀b,b<vw.length->E'.I0 b=E1.I0 b) (hT:E'.T=E1.T) (hS:E'.S=E1.S)
  (hw:∀c,c<w.heap.size->c∉F->w'.heap[c]? =w.heap[c]?)
  (h0:∀d r rows,TW[b0]? =some (.sl d r rows)-> ∃d0 Vl,vw[b0]? =some (.sl d0 r Vl)/\
   ∀p,DQ r Vl p-> ∀q ys,Hp r Vl p=some ⟨q,ys⟩->DQ r rows p/\(∃ys',Hp r rows p=some ⟨q,ys'⟩/\List.length ys' =List.length ys)/\
    ∀h,J1 w (E.I0 b0) p=some h->J1 w' (E'.I0 b0) p=some h):V0 E w vw E' w' TW:=by
 have hB:=k.boxes;obtain⟨Fs,⟨h1,h2⟩,h3⟩:=hB;simp only[ANV]at h3;have hT':∀c,E1.T c->w'.heap[c]? =w.heap[c]?:=fun c hc=>hw c (h3.ie c hc) fun hf=>h3.free c (by simp[hf]) hc
 refine⟨hlen,fun b hb=>by rw[AKk b hb,k.le.Iz],fun c hc=>by rw[hT];exact k.le.T c hc,fun c hc=>by rw[hS];exact k.le.S c hc,st,fun c hc=>hT' c (k.le.T c hc),fun b d r rows hb e=> ?_⟩;by_cases hb0:b=b0
 ·simp_all
 have e1:=hbx b _ _ _ hb0 hb e;rcases k.within b _ e1 with e2|e2
 ·cases e2
 ·refine⟨d,rows,e2,fun p hp q ys hg=>⟨hp,⟨ys,hg,rfl⟩,fun h' hh=> ?_⟩⟩
  have hF:Fs[b]? =some (Fs[b]'(by grind)):=ALk _;obtain⟨hd,ho⟩:=h2 b _ _ e1 hF;rw[uO b hb];rw[<-k.le.I0]at hh;refine AAf ho (fun c hc=>hT' c (h3.st c hc)) (fun c hc=> ?_) hp hg hh;have RW:c∈Fs.flatten:=APu.2 ⟨_,AOX hF,hc⟩;exact hw c (h3.lt c (by simp[RW])) fun hf=>(ANh.1 h3.nodup).2.2 c RW c hf rfl
def Bx.map(f:AV->AV):Bx->Bx
 | .mem cs=> .mem (cs.map f)
 |B=>B
theorem DG.AVx{E E':Env}{w w':World}{vw vw' bx:List Bx}{G:ABu}(f:AV->AV)(h:DG E w vw bx G)(k:∀x v,VR E w vw x v->VR E' w' vw' (f x) v)
  (hS:∀c,E.S c->E'.S c) (AKk:∀b,b<bx.length->E'.Iz b=E.Iz b) (uO:∀b,b<bx.length->E'.I0 b=E.I0 b)
  (hw:∀c,(E.S c\/(¬E.T c/\c∉G))->c<w.heap.size->w'.heap[c]? =w.heap[c]?)
  (AI6:∀F,Sep E w (F++G)->Sep E' w' (F++G)):DG E' w' vw' (bx.map (Bx.map f)) G:=by
 obtain⟨Fs,⟨hl,h1⟩,h2⟩:=h;refine⟨Fs,⟨by simp_all,fun n B F hn hF=> ?_⟩,AI6 _ h2⟩;rw[APl,ALs]at hn;obtain⟨B,hn,rfl⟩:=hn;have JN:=(AL1.1 hn).1;have h3:=h1 n B F hn hF;have ASt:∀c∈F,c∈Fs.flatten:=fun c hc=>APu.2 ⟨F,AOX hF,hc⟩
 have hFw:∀c∈F,w'.heap[c]? =w.heap[c]?:=fun c hc=>hw c (.inr ⟨h2.free c (by simp_all),fun hg=>by
  have:=(ANh.1 h2.nodup).2.2 c (ASt c hc) c hg;omega⟩) (h2.lt c (by simp_all))
 have hSw:∀c,E.S c->w'.heap[c]? =w.heap[c]?:=fun c hc=>hw c (.inl hc) (h2.ie c (h2.st c hc))
 cases B with
 |mem cs=>
  obtain⟨rfl,arr,ty,fr,ha,hu,hv⟩:=h3;refine⟨by simp_all,arr,ty,fr,?_,hu,Cr.M6 f k hv⟩;simp_all
 |sl d r rows=>
  obtain⟨hd,ho⟩:=h3;refine⟨hd,?_⟩;grind[Er]
 |dead=>exact h3
theorem Bx.map_id:∀B:Bx,Bx.map id B=B
 | .mem cs=>by simp[Bx.map]
 | .sl _ _ _=>rfl
 | .dead=>rfl
theorem gK(bx:List Bx):bx.map (Bx.map id)=bx:=by
 induction bx with
 |nil=>rfl
 |cons B l ih=>simp[ih,Bx.map_id]
theorem tQ(b:Nat)(bx:List Bx):bx.map (AGE b)=bx.map (Bx.map (Ku b)):=by
 rfl
theorem AHt{E:Env}{σ:St}{a:Act}{w:World}(h:Rel E σ a w){b j:Nat}{cs j7:List AV}(hb:σ.bx[b]? =some (.mem cs)){xs:List AV}{vs:List Value}(hx:oU E w σ.bx xs vs)(jt:xs≠[])
  (e:cf cs j xs=some j7):
  w.there (E.Iz b) j vs.length/\Rel E { σ with bx:=σ.bx.set b (.mem j7) } a (w.setCells (E.Iz b) j vs)/\UC [b] E σ.bx w E (σ.bx.set b (.mem j7)) (w.setCells (E.Iz b) j vs):=by
 have st:=h.bx.st;obtain⟨F,⟨rfl,arr,ty,fr,ha,hu,hv⟩,hB⟩:=h.bx.take hb;simp only[ANV]at hB;have JN:=(AL1.1 hb).1;rcases br hv hx e with⟨h1,h2⟩|⟨h1,_⟩
 case inr=>simp_all
 have kI:j+vs.length<=arr.size:=by
  have l1:=Cr.len hv;have l2:=Cr.len hx;simp_all
 have cD: ¬E.T (E.Iz b):=hB.AK3 _ (by simp);have hB0:=hB;have js:∀c,c≠E.Iz b->(w.setCells (E.Iz b) j vs).heap[c]? =w.heap[c]?:=fun c hc=>Db _ _ _ _ _ hc
 have hw:∀c,c<w.heap.size->c∉[E.Iz b]->(w.setCells (E.Iz b) j vs).heap[c]? =w.heap[c]?:=fun c _ hc=>js c (by simp_all)
 have kT:H0 E w σ.bx σ.bx [] E (σ.bx.set b .dead) [E.Iz b]:=⟨Le.refl _,by simp,fun n B hn=>by
  grind,by simp_all⟩
 have keep:V0 E w σ.bx E (w.setCells (E.Iz b) j vs) (σ.bx.set b (.mem j7)):=g_ b kT st (by simp) (fun n d r rows hn _ hq=>by
   grind) (fun _ _=>rfl) (fun _ _=>rfl) rfl rfl hw (fun d r rows hq=>by
   simp_all)
 refine⟨X4 ha kI hu,⟨h.Pp,h.tm.imp fun _ _ hq=>RE keep hq,?_⟩,⟨⟨fun _ h=>h,fun _ h=>h,fun _ h=> .inl h,fun _ h=> .inl h,fun c hc=>js c (fun e=>cD (e▸hc)),(CO _ _ _ _).os,(CO _ _ _ _).tape,(CO _ _ _ _).output,(CO _ _ _ _).size⟩,by simp,fun _ _=>⟨rfl,rfl⟩,fun n hn=>by
  grind,fun n B B' yR hB XC hnd=>by
  simp at yR;rw[AQF (fun e=>yR e.symm),hB]at XC;cases XC;refine⟨ZF.refl hnd,fun c hc=>js c (fun e=> ?_)⟩;obtain⟨Fs,⟨f1,f2⟩,f3⟩:=hB0;have c_:(σ.bx.set b .dead)[n]? =some B:=by grind
  have hF:Fs[n]? =some (Fs[n]'(by grind)):=ALk _;rcases ll (f2 n B _ c_ hF) hc with hs|hs
  ·simp_all
  ·exact(ANh.1 f3.nodup).2.2 c (APu.2 ⟨_,AOX hF,hs⟩) (E.Iz b) (by simp) e⟩⟩
 have hT:=hB.turn (E':=E) (w':=w.setCells (E.Iz b) j vs) (vw':=σ.bx.set b (.mem j7)) (fun x v hq=>G4 keep hq) (fun _ h=>h) (fun _ _=>rfl) (fun _ _=>rfl) (fun c hc _=>js c (fun e=>by
   simp_all)) (fun F hF=>⟨hF.nodup,hF.free,fun c hc=>by rw[Dp];exact hF.lt c hc,hF.st,fun c hc=>by rw[Dp];exact hF.ie c hc,hF.gok.mono (fun _ h=>h) (fun c hc=>js c (fun e=>cD (e▸hc)))⟩)
 have:=DG.put (b:=b) (B:= .mem j7) (F:=[E.Iz b]) (G:=[]) (by simpa using hT) (by simp_all) ⟨rfl,Fz arr j vs,ty,fr,GO _ _ _ _ _ _ _ ha,by rw[GU];omega,h1.imp fun _ _ hq=>G4 keep hq⟩;simp_all
theorem cB:∀{r:Ty} {j j':Nat} {x:r.D} {t:Ty} {y:t.D} {x':r.D},EN r j x t y=some x'->j'≠j->Ba r j' x' =Ba r j' x
 | .cons c r,0,j',x,t,y,x',e,hj=>by
  simp only[EN]at e;split at e
  ·rename_i h
   subst h;simp only[ALl]at e;subst e;cases j' with
   |zero=>omega
   |succ j' =>rfl
  simp_all
 | .cons c r,j+1,j',x,t,y,x',e,hj=>by
  simp only[EN,ALs]at e;obtain⟨z,e1,rfl⟩:=e;cases j' with
  |zero=>rfl
  |succ j' =>
   simp only[Ba];exact cB e1 (by omega)
 | .unit,_,_,_,_,_,_,e,_=>by rfl
 | .int k,0,j',x,t,y,x',e,hj=>by cases j' with
  |zero=>omega
  |succ j' =>rfl
 | .bool,0,j',x,t,y,x',e,hj=>by cases j' with
  |zero=>omega
  |succ j' =>rfl
 | .str,0,j',x,t,y,x',e,hj=>by cases j' with
  |zero=>omega
  |succ j' =>rfl
 | .sl _,0,j',x,t,y,x',e,hj=>by cases j' with
  |zero=>omega
  |succ j' =>rfl
 | .int _,_+1,_,_,_,_,_,e,_=>by simp[EN]at e
 | .bool,_+1,_,_,_,_,_,e,_=>by simp[EN]at e
 | .str,_+1,_,_,_,_,_,e,_=>by simp[EN]at e
 | .sl _,_+1,_,_,_,_,_,e,_=>by simp[EN]at e
theorem YB:∀{r:Ty} {j:Nat} {x:r.D} {t:Ty} {y:t.D} {x':r.D},EN r j x t y=some x'->Ba r j x' =some ⟨t,y⟩/\ ∃y0:t.D,Ba r j x=some ⟨t,y0⟩
 | .cons c r,0,x,t,y,x',e=>by
  simp only[EN]at e;split at e
  ·rename_i h
   subst h;simp only[ALl]at e;subst e;exact⟨rfl,_,rfl⟩
  simp_all
 | .cons c r,j+1,x,t,y,x',e=>by
  simp only[EN,ALs]at e;obtain⟨z,e1,rfl⟩:=e;simp only[Ba];exact YB e1
 | .unit,_,_,_,_,_,e=>by simp[EN]at e
 | .int k,0,x,t,y,x',e=>by
  simp only[EN]at e;split at e
  ·rename_i h;subst h;cases e;exact⟨rfl,_,rfl⟩
  simp_all
 | .bool,0,x,t,y,x',e=>by
  simp only[EN]at e;split at e
  ·rename_i h;subst h;cases e;exact⟨rfl,_,rfl⟩
  simp_all
 | .str,0,x,t,y,x',e=>by
  simp only[EN]at e;split at e
  ·rename_i h;subst h;cases e;exact⟨rfl,_,rfl⟩
  simp_all
 | .sl _,0,x,t,y,x',e=>by
  simp only[EN]at e;split at e
  ·rename_i h;subst h;cases e;exact⟨rfl,_,rfl⟩
  simp_all
 | .int _,_+1,_,_,_,_,e=>by simp[EN]at e
 | .bool,_+1,_,_,_,_,e=>by simp[EN]at e
 | .str,_+1,_,_,_,_,e=>by simp[EN]at e
 | .sl _,_+1,_,_,_,_,e=>by simp[EN]at e
theorem rT{r:Ty}{rows:List r.D}{i k:Nat}{x:r.D}(hi:i<rows.length):rowAt r (rows.set i x) k=if k=i then x else rowAt r rows k:=by
 unfold rowAt;grind
theorem xQ:∀{p:List tH} {r:Ty} {rows rows':List r.D} {q:Ty} {ys ys':List q.D},Hp r rows p=some ⟨q,ys⟩->ys'.length=ys.length->xD r rows p q ys' =some rows'->rows'.length=rows.length
 |[],r,rows,rows',q,ys,ys',h1,h2,h3=>by
  simp only[Hp,ALl,AN3]at h1;obtain⟨rfl,h1⟩:=h1;obtain rfl:=APR h1;simp only[xD,AVX,Tw,ALl]at h3;simp_all
 |s::p,r,rows,rows',q,ys,ys',h1,h2,h3=>by
  grind[xD,Option.bind_eq_some_iff,Option.map_eq_some_iff]
theorem sW{t:Ty}(ht:t.scalar=true){y:t.D}{q:Ty}{i j:Nat}:∀{p':List tH} {r:Ty} {rows rows':List r.D} {p:List tH} {ys:List q.D} {fm:q.D},DQ r rows p->Hp r rows p=some ⟨q,ys⟩->i<ys.length->
  EN q j (rowAt q ys i) t y=some fm->xD r rows p q (ys.set i fm)=some rows'->DQ r rows p'-> ∀q' zs,Hp r rows p' =some ⟨q',zs⟩->
   DQ r rows' p'/\ ∃zs',Hp r rows' p' =some ⟨q',zs'⟩/\List.length zs' =List.length zs
 |[],r,rows,rows',p,ys,fm,_,hg,hi,hc,hs,_,q',zs,hg' =>by
  simp only[Hp,ALl,AN3]at hg';obtain⟨rfl,hg'⟩:=hg';obtain rfl:=APR hg';exact⟨by simp[DQ],rows',by rfl,xQ hg (by simp) hs⟩
 |s'::p',r,rows,rows',p,ys,fm,hp,hg,hi,hc,hs,hp',q',zs,hg' =>by
  have hlen:=xQ hg (by simp) hs;simp only[DQ]at hp'|-;obtain⟨g1,g2,g3⟩:=hp';simp only[Hp]at hg'|-;split at hg'
  case h_2=>cases hg'
  rename_i q0 x0 nz;rw[nz]at g3;dsimp only at g3;have key:∃x1,Ba r s'.j (rowAt r rows' s'.i)=some ⟨.sl q0,x1⟩/\DQ q0 x1 p'/\ ∃zs',Hp q0 x1 p' =some ⟨q',zs'⟩/\List.length zs' =List.length zs:=by
   have same:Ba r s'.j (rowAt r rows' s'.i)=some ⟨.sl q0,x0⟩-> ∃x1,Ba r s'.j (rowAt r rows' s'.i)=some ⟨.sl q0,x1⟩/\DQ q0 x1 p'/\ ∃zs',Hp q0 x1 p' =some ⟨q',zs'⟩/\List.length zs' =List.length zs:=
    fun h=>⟨x0,h,g3,zs,hg',rfl⟩
   cases p with
   |nil=>
    simp only[Hp,ALl,AN3]at hg;obtain⟨rfl,hg⟩:=hg;obtain rfl:=APR hg;simp only[xD,AVX,Tw,ALl]at hs;subst hs;apply same;rw[rT hi];split
    ·rename_i e
     subst e;by_cases ej:s'.j=j
     ·obtain⟨_,y0,h0⟩:=YB hc
      rw[ej,h0]at nz;simp only[ALl,AN3]at nz;obtain⟨rfl,_⟩:=nz;simp[Ty.scalar]at ht
     grind[cB]
    omega
   |cons s p=>
    simp only[DQ]at hp;obtain⟨k1,k2,k3⟩:=hp;simp only[Hp]at hg;split at hg
    case h_2=>cases hg
    rename_i r' x hcx;rw[hcx]at k3;dsimp only at k3;simp only[xD,hcx,AMp,ALs]at hs;obtain⟨x',hs1,row2,hs2,rfl⟩:=hs;rw[rT k1];rw[rT k1]at same;split
    ·rename_i e
     rw[ALi e]at same;rw[e]at nz;by_cases ej:s'.j=s.j
     ·rw[ej]at nz|-
      rw[hcx]at nz;simp only[ALl,AN3,Ty.sl.injEq]at nz;obtain⟨rfl,nz⟩:=nz;obtain rfl:=APR nz;obtain⟨m1,m2⟩:=sW ht k3 hg hi hc hs1 g3 q' zs hg';grind[YB]
     grind[cB]
    simp_all
  grind
theorem AAJ{w w':World}{B:Nat->Prop}(gH:∀A,w'.cell? A=w.cell? A\/ ∃v,w'.cell? A=some v/\isSlice v=false):∀{p:List tH} {r:Ty} {h:Value} {rows:List r.D} {hh:Value},
  Rd w' B (.sl r) [h] rows->DQ r rows p->J1 w h p=some hh->J1 w' h p=some hh
 |[],_,h,_,hh,_,_,e=>by grind[DC]
 |s::p,r,h,rows,hh,hr,hp,e=>by
  simp only[DQ]at hp;obtain⟨hi,NN,hp⟩:=hp;simp only[Rd]at hr;obtain⟨a,cap,e1,_,hr⟩:=hr;obtain rfl:=(AST e1).1;rcases hr with hr|⟨b,o,rfl,hb,hr⟩
  ·omega
  obtain⟨cs,hl,hc,hrow⟩:=hr s.i _ (Tl hi);split at hp
  case h_2=>exact hp.elim
  rename_i q x nz;obtain⟨v,hv,hrv⟩:=lp hrow nz;have hcv:=hc _ _ hv;rw[<-NN]at hcv;simp only[J1]at e|-;split at e
  case h_2=>cases e
  rename_i v0 hv0;rcases gH ⟨b,o+s.i*s.sz+s.j,none⟩with h1|⟨u,h1,h2⟩
  ·rw[h1,hv0]
   rw[h1,hv0]at hcv;cases hcv;exact AAJ gH hrv hp e
  ·rw[hcv]at h1
   cases h1;simp only[Rd]at hrv;obtain⟨_,_,e2,_⟩:=hrv;simp only[AOx,AQs]at e2;grind[isSlice]
theorem AKe{E E':Env}{w w':World}{vw vw':List Bx}{b d d':Nat}{r:Ty}{rows rows':List r.D}(k:V0 E w vw E' w' (vw'.set b .dead))(hb:vw[b]? =some (.sl d r rows))(hb':vw'[b]? =some (.sl d' r rows'))(hl:rows'.length=rows.length)
  (hh:E'.I0 b=E.I0 b) {x:AV} {v:Value} (h:VR E w vw x v):VR E' w' vw' (Ku b x) v:=by
 have h1:=G4 k h;have js:∀{b'},b'≠b->(vw'.set b .dead)[b']? =vw'[b']?:=fun e=>AQF (fun h=>e h.symm)
 cases x with
 |v t x=>exact h1
 |sl s r x=>exact h1
 |nil=>exact h1
 |JR c j=>exact⟨by simpa using h1.1,h1.2⟩
 |RR s r x j=>exact h1
 |fn f Lc=>exact⟨fun c hc=>by simpa using h1.1 c hc,h1.2⟩
 |yP f rows=>exact h1
 |AEX=>exact h1
 |undef=>trivial
 |ref c p=>
  cases p with
  |nil=>
   simp only[Ku];by_cases e:c=b
   ·subst e
    simp only[VR,hb,hb']at h|-;refine⟨h.1,by simp[DQ],⟨_,rfl⟩,?_⟩;grind[DC]
   grind[VR]
  |cons s p=>
   grind[Ku,VR]
 |win c p off n=>
  cases p with
  |nil=>
   simp only[Ku];by_cases e:c=b
   ·subst e
    simp only[VR,hb,hb']at h|-;obtain⟨h0,_,q,ys,a,len,cap,e1,e2,e3,e4⟩:=h;simp only[Hp,ALl,AN3]at e1;obtain⟨rfl,e1⟩:=e1;obtain rfl:=APR e1;refine⟨h0,by simp[DQ],r,rows',a,len,cap,rfl,by omega,?_,e4⟩;grind[DC]
   grind[VR]
  |cons s p=>
   grind[Ku,VR]
 |Kc c p i sz j=>
  cases p with
  |nil=>
   simp only[Ku];by_cases e:c=b
   ·subst e
    simp only[VR,hb,hb']at h|-;obtain⟨h0,_,q,ys,bb,o,len,cap,e1,e2,e3,e4⟩:=h;simp only[Hp,ALl,AN3]at e1;obtain⟨rfl,e1⟩:=e1;obtain rfl:=APR e1;refine⟨h0,by simp[DQ],r,rows',bb,o,len,cap,rfl,by omega,?_,e4⟩;grind[DC]
   grind[VR]
  |cons s p=>
   grind[Ku,VR]
theorem AK9{E E':Env}{w w':World}{vw vw':List Bx}{b:Nat}(k:∀x v,VR E w vw x v->VR E' w' vw' (Ku b x) v){x:XV}{v:Value}(h:XR E w vw x v):XR E' w' vw' (ABR b x) v:=by
 cases x with
 |c x=>exact k x v h
 |agg l=>
  obtain⟨vs,rfl,Zu⟩:=h;exact⟨vs,rfl,Cr.M6 _ k Zu⟩
 |NM l=>
  obtain⟨vs,rfl,Zu⟩:=h;refine⟨vs,rfl,Cr.M6 _ (fun x v hx=> ?_) Zu⟩;cases x with
  |inl x=>exact k x v hx
  |inr q=>
   obtain⟨us,rfl,hus⟩:=hx;exact⟨us,rfl,Cr.M6 _ k hus⟩
end Go.Fw
end
section
namespace Go.Fw
theorem wK{w:World}{vw:List Bx}{E:Env}{bx:List Bx}{G:ABu}(h:DG E w vw bx G)(hw:F7 bx vw){d:Nat}(hd:1<=d){q:Ty}{old:q.D}{j:Nat}{x:XV}{v:Value}(hv:XR E w vw x v){fm:q.D}{TW:List Bx}{d':Nat}
  (e:vp d q old j x bx=some (fm,TW,d')):1<=d'/\d'<=d/\ ∃E' F,H0 E w vw bx G E' TW F/\
   ((j=0/\x.plain=false/\Ow w E'.S (d'-1) q v.cells.toList fm F)\/(∃t y,v.cells.toList=[v]/\Ow w E'.S (d'-1) t [v] y F/\EN q j old t y=some fm/\(x.plain=true->t.scalar=true/\isSlice v=false))):=by
 unfold vp at e;split at e
 ·rename_i l
  split at e
  case isFalse=>cases e
  rename_i hj;obtain⟨vs,rfl,Zu⟩:=hv;obtain⟨h1,h2,E',F,h3,h4⟩:=fI h hw hd Zu e;exact⟨h1,h2,E',F,h3,.inl ⟨hj,rfl,h4⟩⟩
 ·rename_i x
  split at e
  case h_2=>cases e
  rename_i t y0 hc;simp only[AMp,ALs,APJ]at e;obtain⟨⟨y,qH,d1⟩,e1,row,e2,rfl,rfl,rfl⟩:=e;dsimp only at e2;have dp:VR E w vw x v:=hv;have hk:x.known=true:=by grind[AV.known,lE]
  obtain⟨h1,h2,E',F,h3,h4⟩:=ir h hw hd dp e1;refine⟨h1,h2,E',F,h3,.inr ⟨t,y,by rw[(ABk dp hk).2],h4,e2,fun hp=> ?_⟩⟩;cases x with
  |v u z=>
   simp only[lE,ALs,APJ]at e1;obtain⟨z',e3,_⟩:=e1;obtain⟨rfl,_⟩:=I5 e3;obtain⟨hs,hr⟩:=dp;refine⟨hs,?_⟩;cases u<;>simp_all[Ty.scalar,Rd]<;>rfl
  |_=>simp[XV.plain]at hp
 simp_all
theorem xf{f:AV->AV}{bx:List Bx}{b d:Nat}{r:Ty}{rows:List r.D}:(bx.set b (.sl d r rows)).map (Bx.map f)=(bx.map (Bx.map f)).set b (.sl d r rows):=by
 rw[List.map_set];rfl
theorem AIx{f:AV->AV}{bx:List Bx}{n d:Nat}{r:Ty}{rows:List r.D}(h:(bx.map (Bx.map f))[n]? =some (.sl d r rows)):bx[n]? =some (.sl d r rows):=by
 rw[APl,ALs]at h;obtain⟨B,h1,h2⟩:=h;cases B with
 |mem cs=>simp[Bx.map]at h2
 |sl d' r' rows' =>rw[h1];exact congrArg some h2
 |dead=>simp[Bx.map]at h2
theorem AAG{E:Env}{σ:St}{a:Act}{w:World}(h:Rel E σ a w){b i sz j:Nat}{p:List tH}{va v:Value}(hva:VR E w σ.bx (.Kc b p i sz j) va){x:XV}(hv:XR E w σ.bx x v)(h1c:∀u∈v.cells.toList,u.oneCell' =true)
  {σ':St} (e:ni σ (.c (.Kc b p i sz j)) x=some σ'):
  ∃bb oo E',va= .pointer (some ⟨bb,oo,none⟩)/\w.there bb oo v.cells.toList.length/\Rel E' σ' a (w.setCells bb oo v.cells.toList)/\UC [b] E σ.bx w E' σ'.bx (w.setCells bb oo v.cells.toList)/\σ'.tm.length=σ.tm.length:=by
 simp only[ni]at e;split at e
 case h_2=>cases e
 rename_i d r rows hb;split at e
 case isFalse=>cases e
 rename_i hpl;simp only[AMp]at e;obtain⟨⟨q,ys⟩,hg,e⟩:=e;dsimp only at e;split at e
 case isFalse=>cases e
 rename_i NN;simp only[AMp,ALs]at e;obtain⟨⟨fm,gh,d2⟩,e1,rows',e2,e3⟩:=e;dsimp only at e1 e2 e3;have st:=h.bx.st;simp only[VR,hb]at hva;obtain⟨_,hp,q1,ys1,bb,o,len,cap,g1,hi,g3,rfl⟩:=hva;rw[hg]at g1;simp only[ALl,AN3]at g1;obtain⟨rfl,g1⟩:=g1;obtain rfl:=APR g1;have JN:=(AL1.1 hb).1;obtain⟨Gb,⟨hd1,ho⟩,hB⟩:=h.bx.take hb;have UB:F7 (σ.bx.set b .dead) σ.bx:=fun n B hn=>by
  grind
 obtain⟨hd2,hd3,E1,Fx,k1,hrow⟩:=wK hB UB (by omega) hv e1;obtain⟨A,W,pG,ho2⟩:=LF (d:=d2+p.length) (by omega) ho;have c_:=k1.boxes.perm (G':=(Fx++A)++W++[]) (by
  grind)
 obtain⟨hle,hB3⟩:=c_.share;simp only[ANV]at hB3
 generalize hE3:({ E1 with S:=fun c=>E1.S c\/c∈W,T:=fun c=>E1.T c\/c∈W }:Env)=E3 at hle hB3
 have wF:Le E E3:=k1.le.trans hle;have ho3:Ow w E3.S (d2+p.length) (.sl r) [E.I0 b] rows A:=Er (fun c hc=>by
  subst hE3;exact hc.imp (k1.le.S c) id) (fun _ _=>rfl) (fun _ _=>rfl) ho2
 obtain⟨h',F1,F2,m1,m2,m3,m4⟩:=wY ho3 hp hg (by omega);rw[g3]at m1;cases m1;obtain⟨m,rfl⟩:∃m,d2=m+1:=⟨d2-1,by omega⟩;rw[show m+1+p.length-p.length=m+1 by omega]at m2 m4;simp only[Nat.add_sub_cancel]at hrow;obtain⟨b1,o1,arr,ty,fr,cs,G,R,n1,n2,n3,n4,n5,n6,n7,n8,n9⟩:=ABo m2 hi;simp only[ALl,Addr.mk.injEq,AQs]at n1;obtain⟨rfl,rfl⟩:=n1;subst NN;have hAp:A.Perm (G++(bb::R)++F2):=m3.trans (n8.append_right F2);obtain⟨Fs,hFs1,hFs2⟩:=hB3;have hbA:bb∈A:=hAp.mem_iff.2 (by simp);have cD: ¬E3.T bb:=hFs2.free bb (by simp[hbA]);have AEK: ¬E3.S bb:=fun hc=>cD (hFs2.st bb hc)
 have nd:(Fx++(G++(bb::R)++F2)).Nodup:=(ATo Fx hAp).nodup_iff.1 (ANh.1 hFs2.nodup).2.1;have hnx:bb∉Fx:=fun hc=>(ANh.1 nd).2.2 bb hc bb (by simp) rfl
 have hnG:bb∉G:=fun hc=>(ANh.1 (ANh.1 (ANh.1 nd).2.1).1).2.2 bb hc bb (by simp) rfl
 have hnR:bb∉R:=(ATq.1 (ANh.1 (ANh.1 (ANh.1 nd).2.1).1).2.1).1;have hn2:bb∉F2:=fun hc=>(ANh.1 (ANh.1 nd).2.1).2.2 bb (by simp) bb hc rfl
 have dA:j+v.cells.toList.length<=q.n:=by
  rcases hrow with⟨rfl,_,ho4⟩|⟨t,y,hc1,ho4,X3,_⟩
  ·rw[cj ho4];omega
  ·rw[hc1]
   obtain⟨_,y0,hc0⟩:=YB X3;grind[lq,List.getElem?_eq_some_iff]
 have kI:o+i*q.n+j+v.cells.toList.length<=arr.size:=by omega
 let w':=w.setCells bb (o+i*q.n+j) v.cells.toList
 have js:∀c,c≠bb->w'.heap[c]? =w.heap[c]?:=fun c hc=>Db _ _ _ _ _ hc
 have hSw:∀c,E3.S c->w'.heap[c]? =w.heap[c]?:=fun c hc=>js c (fun e=>AEK (e▸hc))
 have hb':=GO v.cells.toList (o+i*q.n+j) w bb arr ty fr n2;have gH:∃j7 G' D0,j7.length=q.n/\Bj w' bb (o+i*q.n) j7/\Ow w' E3.S m q j7 fm G'/\(Fx++G).Perm (G'++D0):=by
  rcases hrow with⟨rfl,_,ho4⟩|⟨t,y,hc1,ho4,X3,_⟩
  ·refine⟨v.cells.toList,Fx,G,cj ho4,QG n2 kI,Er (fun c hc=>hle.S c hc) (fun c hc=>js c (fun e=>AEK (e▸hle.S c hc))) (fun c hc=>js c (fun e=>hnx (e▸hc))) ho4,AWh _⟩
  ·obtain⟨_,y0,hc0⟩:=YB X3
   obtain⟨u,K1,K2,z1,z2,z3,z4⟩:=lq n7 hc0;have AZN:bb∉K2:=fun hc=>hnG (z3.mem_iff.2 (by simp[hc]))
   obtain⟨F',f1,f2⟩:=z4 w' E3.S v y Fx fm (fun _ hc=>hc) hSw (fun c hc=>js c (fun e=>AZN (e▸hc)))
    (Er (fun c hc=>hle.S c hc) (fun c hc=>js c (fun e=>AEK (e▸hle.S c hc))) (fun c hc=>js c (fun e=>hnx (e▸hc))) ho4) X3
   refine⟨cs.set j v,F',K1,by simp_all,fun x u' hx=> ?_,f2,?_⟩
   ·rw[List.getElem?_set]at hx
    split at hx
    ·rename_i ejx
     subst ejx;split at hx
     ·cases hx
      have:=QG (w:=w) (b:=bb) (o:=o+i*q.n+j) (vs:=v.cells.toList) n2 kI 0 v (by simp_all);omega
     simp_all
    ·rename_i ejx
     have hold:=n6 x u' hx;rw[L1 n2]at hold;rw[L1 hb',aU kI,ALj (fun hh=>by grind),hold]
   grind
 obtain⟨j7,G',D0,c1,c2,c3,c4⟩:=gH;obtain⟨vI,f1,f2⟩:=n9 w' E3.S (Fz arr (o+i*q.n+j) v.cells.toList) j7 fm G' (fun _ hc=>hc) hSw (fun c hc=>js c (fun e=>hnR (e▸hc))) hb' (GU _ _ _) (fun k hk=>by
  rw[aU kI,ALj (by omega)]) c1 c2 c3
 obtain⟨F',f3,f4⟩:=m4 w' E3.S (ys.set i fm) vI rows' (fun _ hc=>hc) hSw (fun c hc=>js c (fun e=>hn2 (e▸hc))) f2 e2;have vn:(Fx++A).Perm (F'++D0):=by
  have p1:F'.Perm (G'++(bb::R)++F2):=f3.trans (f1.append_right F2);refine(ATo Fx hAp).trans (List.Perm.trans ?_ (p1.symm.append_right D0));grind
 have AgG:bb∈F':=(f3.trans (f1.append_right F2)).mem_iff.2 (by simp);have hB4:DG E3 w σ.bx gh F':=by
  have:DG E3 w σ.bx gh (F'++D0):=DG.perm (G:=Fx++A) ⟨Fs,hFs1,hFs2⟩ vn;exact this.drop
 have vf:gh.length=σ.bx.length:=by rw[k1.len];simp
 have AU5:gh[b]? =some .dead:=by
  obtain⟨B,hB⟩:∃B,gh[b]? =some B:=⟨_,ALk (by omega)⟩;rcases k1.within b B hB with e|e
  all_goals simp_all
 have hrl:rows'.length=rows.length:=xQ hg (by simp) e2;have kT:∀E0,Le E0 E3->H0 E0 w σ.bx σ.bx [] E3 gh (Fx++A):=fun E0 hl=>⟨hl,vf,fun n B hn=>by
  rcases k1.within n B hn with e|e
  all_goals grind,⟨Fs,hFs1,by simp_all⟩⟩
 have uO:∀n,E3.I0 n=E.I0 n:=fun n=>by rw[wF.I0]
 have hww:∀c,c<w.heap.size->c∉Fx++A->w'.heap[c]? =w.heap[c]?:=fun c _ hc=>js c (fun e=>hc (by simp_all))
 have base:j6 E w E3 w':=⟨wF.T,wF.S,wF.Tof,wF.Sof,fun c hc=>js c (fun e=>cD (e▸wF.T c hc)),(CO _ _ _ _).os,(CO _ _ _ _).tape,(CO _ _ _ _).output,(CO _ _ _ _).size⟩;have finish:∀(f:AV->AV) (g:XV->XV),(∀E0,Le E0 E3->(∀c,E0.S c->E0.T c)-> ∀x v,VR E0 w σ.bx x v->VR E3 w' ((gh.map (Bx.map f)).set b (.sl (m+1+p.length) r rows')) (f x) v)->
   (∀x v,XR E w σ.bx x v->XR E3 w' ((gh.map (Bx.map f)).set b (.sl (m+1+p.length) r rows')) (g x) v)->
   Rel E3 { tm:=σ.tm.map g,bx:=(gh.map (Bx.map f)).set b (.sl (m+1+p.length) r rows') } a w':=by
  intro f g hf hg;refine⟨h.Pp,Cr.M6 _ hg h.tm,?_⟩;have hT:=hB4.AVx (E':=E3) (w':=w') (vw':=(gh.map (Bx.map f)).set b (.sl (m+1+p.length) r rows')) f (hf E3 (Le.refl _) hFs2.st) (fun _ h=>h) (fun _ _=>rfl) (fun _ _=>rfl) (fun c hc _=>js c (fun e=>by
    simp_all)) (fun F hF=>⟨hF.nodup,hF.free,fun c hc=>by rw[Dp];exact hF.lt c hc,hF.st,fun c hc=>by rw[Dp];exact hF.ie c hc,hF.gok.mono (fun _ h=>h) (fun c hc=>js c (fun e=>cD (e▸hc)))⟩)
  refine DG.put (F:=F') (G:=[]) (by simp_all) (by rw[APl,AU5];rfl) ⟨by omega,?_⟩;simp_all
 have AWJ:∀f:AV->AV,UC [b] E σ.bx w E3 ((gh.map (Bx.map f)).set b (.sl (m+1+p.length) r rows')) w':=fun f=>⟨base,by simp[vf],fun n _=>⟨by rw[wF.Iz],uO n⟩,fun n hn=>by
  have yR:n≠b:=fun e=>by simp_all
  have hnl:=(AL1.1 hn).1;rw[AQF (fun e=>yR e.symm),APl];obtain⟨B,hB⟩:∃B,gh[n]? =some B:=⟨_,ALk (by omega)⟩;have hBd:B= .dead:=by
   rcases(kT E wF).within n B hB with e|e
   all_goals simp_all
  rw[hB,hBd];rfl,fun n B B' yR hB XC hnd=>by
  simp at yR;have hnl:=(AL1.1 hB).1;rw[AQF (fun e=>yR e.symm),APl]at XC;obtain⟨B2,c_⟩:∃B2,gh[n]? =some B2:=⟨_,ALk (by omega)⟩;rw[c_]at XC;have XC:Bx.map f B2=B':=by simp_all
  have hBB:B2=B:=by
   rcases(kT E wF).within n B2 c_ with e|e
   ·subst e;exact absurd XC.symm hnd
   simp_all
  subst hBB;refine⟨?_,fun c hc=>js c (fun e=> ?_)⟩
  ·subst XC
   cases B2 with
   |mem cs=>trivial
   |sl d r rows=>rfl
   |dead=>exact absurd rfl hnd
  ·have hF:Fs[n]? =some (Fs[n]'(by have:=(AL1.1 c_).1;rw[hFs1.1];omega)):=ALk _
   have jy:BRB E3 w n B2 c:=by
    cases B2 with
    |mem cs=>simp only[BRB]at hc|-;rw[wF.Iz];omega
    |sl d r rows=>grind[BRB]
    |dead=>exact hc
   rcases ll (hFs1.2 n B2 _ c_ hF) jy with hs|hs
   ·simp_all
   ·exact(ANh.1 hFs2.nodup).2.2 c (APu.2 ⟨_,AOX hF,hs⟩) bb (by simp[hbA]) e⟩
 refine⟨bb,o+i*q.n+j,E3,rfl,X4 (k:=0) n2 kI n3,?_,?_,?_⟩
 ·split at e3
  ·rename_i AY3
   have h0:∀E0,Le E0 E3->(∀c,E0.S c->E0.T c)->V0 E0 w σ.bx E3 w' (gh.set b (.sl (m+1+p.length) r rows')):=by
    intro E0 hl st0;refine g_ b (kT E0 hl) st0 (by simp[vf]) (fun n d r rows hn _ hq=>by
      grind) (fun _ _=>rfl) (fun _ _=>rfl) rfl rfl hww (fun d0 r0 Vl hq=> ?_)
    rw[ASO (by omega)]at hq;simp only[ALl,Bx.sl.injEq]at hq;obtain⟨rfl,rfl,hq⟩:=hq;obtain rfl:=APR hq;refine⟨d,rows,hb,fun p' hp' q' zs hg' => ?_⟩;rcases hrow with⟨_,hpf,_⟩|⟨t,y,hc1,ho4,X3,hsc⟩
    ·simp_all
    obtain⟨hs1,hs2⟩:=hsc AY3;have hk:=sW hs1 hp hg hi X3 e2 hp' q' zs hg';refine⟨hk.1,hk.2,fun hh hhe=> ?_⟩;rw[uO];rw[<-hl.I0,uO]at hhe;refine AAJ (fun Ad=> ?_) (cP f4) hk.1 hhe;by_cases eA:Ad.block=bb/\Ad.spot=none/\Ad.off=o+i*q.n+j
    ·right
     obtain⟨ab,ao,asp⟩:=Ad;simp only at eA;rw[eA.1,eA.2.1,eA.2.2];refine⟨v,?_,hs2⟩;have:=QG (w:=w) (b:=bb) (o:=o+i*q.n+j) (vs:=v.cells.toList) n2 kI 0 v (by simp_all);omega
    grind[World.cell?_setCells_out,List.length_cons,List.length_nil]
   have:=finish id id (fun E0 hl st0 x v hx=>by rw[gK];grind[G4]) (fun x v hx=>by rw[gK];grind[RE]);grind[gK,List.map_id]
  ·have h0:∀E0,Le E0 E3->(∀c,E0.S c->E0.T c)-> ∀x v,VR E0 w σ.bx x v->VR E3 w' ((gh.map (Bx.map (Ku b))).set b (.sl (m+1+p.length) r rows')) (Ku b x) v:=by
    intro E0 hl st0 x v hx;have keep:V0 E0 w σ.bx E3 w' (((gh.map (Bx.map (Ku b))).set b (.sl (m+1+p.length) r rows')).set b .dead):=by
     refine g_ b (kT E0 hl) st0 (by simp[vf]) (fun n d r rows hn _ hq=>by
      grind[List.getElem?_set_ne,AIx]) (fun _ _=>rfl) (fun _ _=>rfl) rfl rfl hww (fun d0 r0 Vl hq=> ?_)
     simp_all
    exact AKe keep hb (by rw[ASO (by simp_all)]) hrl (by rw[hl.I0]) hx
   have:=finish (Ku b) (ABR b) h0 (fun x v hx=>AK9 (h0 E wF st) hx);grind[St.AHF,tQ,xf]
 ·rw[<-e3]
  split
  all_goals grind[id,gK,St.AHF,tQ,xf]
 grind[St.AHF]
end Go.Fw
end
section
namespace Go.Fw
theorem ly{w w':World}{B B':Nat->Prop}:∀{r:Ty} {cs:List Value} {x:r.D},r.flat=true->Rd w B r cs x->Rd w' B' r cs x
 | .cons c r,cs,x,h,hr=>by
  simp only[Ty.flat,AL8]at h;simp only[Rd]at hr|-;obtain⟨v,l,rfl,h1,h2⟩:=hr;exact⟨v,l,rfl,ly h.1 h1,ly h.2 h2⟩
 | .unit,_,_,_,hr=>by grind[Rd]
 | .int k,_,_,_,hr=>by grind[Rd]
 | .bool,_,_,_,hr=>by grind[Rd]
 | .str,_,_,_,hr=>by grind[Rd]
 | .sl q,_,_,h,_=>by simp[Ty.flat]at h
theorem kj{w:World}{S:Nat->Prop}{d:Nat}:∀{r:Ty} {cs:List Value} {y:r.D} {F:ABu},r.flat=true->Ow w S d r cs y F->F=[]
 | .int k,_,_,_,_,h=>by grind[Ow]
 | .bool,_,_,_,_,h=>by grind[Ow]
 | .str,_,_,_,_,h=>by grind[Ow]
 | .unit,_,_,_,_,h=>by grind[Ow]
 | .cons c r,_,_,_,hf,h=>by
  simp only[Ty.flat,AL8]at hf;simp only[Ow]at h;obtain⟨v,l,F1,F2,_,rfl,h1,h2⟩:=h;rw[kj hf.1 h1,kj hf.2 h2];rfl
 | .sl q,_,_,_,hf,_=>by simp[Ty.flat]at hf
theorem ACN{w w':World}{S S':Nat->Prop}{d d':Nat}{r:Ty}(hr:r.flat=true){cs:List Value}{y:r.D}{F:ABu}(h:Ow w S d r cs y F):F=[]/\cs.length=r.n/\Ow w' S' d' r cs y []:=
 ⟨kj hr h,cj h,pV hr (ly (B':=fun _=>False) hr (cP h))⟩
theorem pD:∀{r:Ty} {j:Nat} {x:r.D} {t:Ty} {y:t.D},r.flat=true->Ba r j x=some ⟨t,y⟩->t.flat=true
 | .cons c r,0,x,t,y,h,e=>by
  simp only[Ty.flat,AL8]at h;grind[Ba,Option.some.injEq,Sigma.mk.injEq]
 | .cons c r,j+1,x,t,y,h,e=>by
  simp only[Ty.flat,AL8]at h;simp only[Ba]at e;exact pD h.2 e
 | .unit,_,_,_,_,_,e=>by simp[Ba]at e
 | .int k,0,x,t,y,_,e=>by grind[Ba,Option.some.injEq,Sigma.mk.injEq]
 | .bool,0,x,t,y,_,e=>by grind[Ba,Option.some.injEq,Sigma.mk.injEq]
 | .str,0,x,t,y,_,e=>by grind[Ba,Option.some.injEq,Sigma.mk.injEq]
 | .sl _,_,_,_,_,h,_=>by simp[Ty.flat]at h
 | .int _,_+1,_,_,_,_,e=>by simp[Ba]at e
 | .bool,_+1,_,_,_,_,e=>by simp[Ba]at e
 | .str,_+1,_,_,_,_,e=>by simp[Ba]at e
theorem AH1{r:Ty}(hr:r.flat=true){rows:List r.D}:∀{p:List tH},DQ r rows p->p=[]
 |[],_=>rfl
 |s::p,h=>by
  simp only[DQ]at h;obtain⟨_,_,h⟩:=h;exfalso;cases hc:Ba r s.j (rowAt r rows s.i)with
  |none=>simp_all
  |some tx=>
   obtain⟨t,x⟩:=tx;have hf:=pD hr hc;grind[Ty.flat]
theorem flatten_nil{l:List ABu}(h:∀x∈l,x=[]):l.flatten=[]:=by
 simp_all;omega
theorem AIE{E:Env}{σ:St}{a:Act}{w:World}(h:Rel E σ a w){b d off n:Nat}{r:Ty}{rows:List r.D}(hb:σ.bx[b]? =some (.sl d r rows))(hr:r.flat=true)(hgd:r.vG=true)(hk:0<r.n)(hl:off+n<=rows.length)(hn:0<n):
  ∃bb o cap,E.I0 b= .slice (some ⟨bb,o,none⟩) rows.length cap/\rows.length<=cap/\w.there bb (o+off*r.n) (n*r.n)/\
   Rel E { σ with bx:=σ.bx.set b (.sl d r ((rows.take off++List.replicate n r.z)++rows.drop (off+n))) } a (w.setCells bb (o+off*r.n) (List.replicate n (FO r)).flatten)/\
   UC [b] E σ.bx w E (σ.bx.set b (.sl d r ((rows.take off++List.replicate n r.z)++rows.drop (off+n)))) (w.setCells bb (o+off*r.n) (List.replicate n (FO r)).flatten):=by
 have st:=h.bx.st;obtain⟨F,⟨hd,ho⟩,hB⟩:=h.bx.take hb;simp only[ANV]at hB;have JN:=(AL1.1 hb).1;obtain⟨d',rfl⟩:∃m,d=m+1:=⟨d-1,by omega⟩;simp only[Ow]at ho;obtain⟨ad,cap,hh,AEG,ho⟩:=ho;simp only[AOx,AQs]at hh;rcases ho with⟨rfl,_⟩|⟨bb,o,arr,ty,fr,Fs,rfl,ha,NN,hu,rfl,hFl,fz⟩
 ·omega
 have hFn:List.flatten Fs=[]:=flatten_nil fun x hx=>by
  obtain⟨i,hi,hxi⟩:=AQD hx;obtain⟨cs,_,_,h3⟩:=fz i (rows[i]'(by omega)) x (ALk _) (by grind);exact(ACN (w':=w) (S':=E.S) (d':=0) hr h3).1
 rw[hFn]at hB;have hzl:(FO r).length=r.n:=He r;have hvl:((List.replicate n (FO r)).flatten).length=n*r.n:=by simp_all
 have hm1:(off+n)*r.n<=cap*r.n:=AOV _ (by omega);have hm2:(off+n)*r.n=off*r.n+n*r.n:=AS5 ..;have kI:o+off*r.n+((List.replicate n (FO r)).flatten).length<=arr.size:=by omega
 generalize Zu:(List.replicate n (FO r)).flatten=vs at hvl kI
 refine⟨bb,o,cap,hh,AEG,X4 ha (by omega) hu,?_⟩;have cD: ¬E.T bb:=hB.AK3 _ (by simp);have hB0:=hB;have js:∀c,c≠bb->(w.setCells bb (o+off*r.n) vs).heap[c]? =w.heap[c]?:=fun c hc=>Db _ _ _ _ _ hc
 have hw:∀c,c<w.heap.size->c∉[bb]->(w.setCells bb (o+off*r.n) vs).heap[c]? =w.heap[c]?:=fun c _ hc=>js c (by simp_all)
 have kT:H0 E w σ.bx σ.bx [] E (σ.bx.set b .dead) [bb]:=⟨Le.refl _,by simp,fun n B hn=>by
  grind,by simp_all⟩
 generalize AR_:(rows.take off++List.replicate n r.z)++rows.drop (off+n)=rows'
 have AUE:rows'.length=rows.length:=by
  grind
 have keep:V0 E w σ.bx E (w.setCells bb (o+off*r.n) vs) (σ.bx.set b (.sl (d'+1) r rows')):=g_ b kT st (by simp) (fun n d r rows hn _ hq=>by
   grind) (fun _ _=>rfl) (fun _ _=>rfl) rfl rfl hw (fun d1 r1 AOh hq=>by
   rw[ASO JN]at hq;simp only[ALl,Bx.sl.injEq]at hq;obtain⟨rfl,rfl,hq⟩:=hq;obtain rfl:=APR hq;refine⟨d'+1,rows,hb,fun p hp q ys hg=> ?_⟩;obtain rfl:=AH1 hr hp;simp only[Hp,ALl,AN3]at hg;obtain⟨rfl,hg⟩:=hg;obtain rfl:=APR hg;exact⟨by simp[DQ],⟨rows',by rfl,AUE⟩,fun h' hh' =>hh'⟩)
 refine⟨⟨h.Pp,h.tm.imp fun _ _ hq=>RE keep hq,?_⟩,⟨⟨fun _ h=>h,fun _ h=>h,fun _ h=> .inl h,fun _ h=> .inl h,fun c hc=>js c (fun e=>cD (e▸hc)),(CO _ _ _ _).os,(CO _ _ _ _).tape,(CO _ _ _ _).output,(CO _ _ _ _).size⟩,by simp,fun _ _=>⟨rfl,rfl⟩,fun n hn=>by
  grind,fun n B B' yR hB XC hnd=>by
  simp at yR;rw[AQF (fun e=>yR e.symm),hB]at XC;cases XC;refine⟨ZF.refl hnd,fun c hc=>js c (fun e=> ?_)⟩;obtain⟨Fs,⟨f1,f2⟩,f3⟩:=hB0;have c_:(σ.bx.set b .dead)[n]? =some B:=by grind
  have hF:Fs[n]? =some (Fs[n]'(by grind)):=ALk _;rcases ll (f2 n B _ c_ hF) hc with hs|hs
  ·simp_all
  ·exact(ANh.1 f3.nodup).2.2 c (APu.2 ⟨_,AOX hF,hs⟩) bb (by simp) e⟩⟩
 have hT:=hB.turn (E':=E) (w':=w.setCells bb (o+off*r.n) vs) (vw':=σ.bx.set b (.sl (d'+1) r rows')) (fun x v hq=>G4 keep hq) (fun _ h=>h) (fun _ _=>rfl) (fun _ _=>rfl) (fun c hc _=>js c (fun e=>by
   simp_all)) (fun F hF=>⟨hF.nodup,hF.free,fun c hc=>by rw[Dp];exact hF.lt c hc,hF.st,fun c hc=>by rw[Dp];exact hF.ie c hc,hF.gok.mono (fun _ h=>h) (fun c hc=>js c (fun e=>cD (e▸hc)))⟩)
 have ALC:xu E (w.setCells bb (o+off*r.n) vs) (σ.bx.set b (.sl (d'+1) r rows')) b (.sl (d'+1) r rows') [bb]:=by
  refine⟨hd,?_⟩;simp only[Ow];refine⟨_,cap,by simp_all,by omega,.inr ⟨bb,o,Fz arr (o+off*r.n) vs,ty,fr,List.replicate rows'.length [],rfl,GO _ _ _ _ _ _ _ ha,by rw[GU];omega,by rw[GU];omega,by simp,by simp,fun i y G hy hG=> ?_⟩⟩;have hG':G=[]:=ATG (AOX hG);subst hG';have hil:i<rows.length:=by grind
  by_cases RW:off<=i/\i<off+n
  ·have hyz:y=r.z:=by
    grind
   subst hyz;refine⟨FO r,hzl,fun j v hj=> ?_,lY hgd⟩;have hjl:j<r.n:=by grind
   have e1:(i-off)*r.n=i*r.n-off*r.n:=ATh ..;have e2:off*r.n<=i*r.n:=AOV _ RW.1;have e3:(i-off+1)*r.n<=n*r.n:=AOV _ (by omega);rw[AS5,Nat.one_mul]at e3;have:=QG ha kI ((i-off)*r.n+j) v (by
    grind[Ox,Nat.mul_comm,Nat.mul_add_mod,Nat.mod_eq_of_lt])
   grind
  ·have hyo:rows[i]? =some y:=by
    rw[<-AR_]at hy;by_cases h1:i<off
    ·grind
    grind[List.getElem?_append_right]
   obtain⟨cs,c1,c2,c3⟩:=fz i y (Fs[i]'(by omega)) hyo (ALk _);obtain⟨_,c4,c5⟩:=ACN (w':=w.setCells bb (o+off*r.n) vs) (S':=E.S) (d':=d') hr c3;refine⟨cs,c4,Xe c2 ha kI (.inr ?_),c5⟩;by_cases h1:i<off
   ·have:(i+1)*r.n<=off*r.n:=AOV _ h1
    grind
   grind
 have:=DG.put (b:=b) (B:= .sl (d'+1) r rows') (F:=[bb]) (G:=[]) (by simpa using hT) (by simp_all) ALC;simp_all
section
variable{Y:Type} {P:Program} {T:Ky} (hT:E_ P T) {o:Oper} {E:Env} {σ:St} {a:Act} {w:World} {k:K Y} {y:Y}
include hT
theorem AEg(h:Rel E σ a w){c:Call}{x:XV}(ho:o.op= .call c)(hc:c.callee= .builtin .clear)(JO:c.args.toList.map σ.ev=[x])(e:qX T c.argTypes σ x k=some y)
  (Ab0:∀b p off n,x= .c (.win b p off n)->Ld (fun _=>none) σ o.op=[b]):∃v w' E' xv σ',((execOp a.eval o).run P w= .ok (.value v) w'\/((execOp a.eval o).run P w= .ok .skip w'/\v=undef))/\Rel E' σ' a w'/\XR E' w' σ'.bx xv v/\
   UC (Ld (fun _=>none) σ o.op) E σ.bx w E' σ'.bx w'/\σ'.tm.length=σ.tm.length/\k xv σ' =some y:=by
 obtain⟨o1,hargs',rfl⟩:=bK JO;have i_:=h.ev o1;unfold qX at e;split at e
 case h_2=>cases e
 rename_i t b off n ht hx;rw[hx]at i_;rw[Ab0 b [] off n hx];split at e
 case h_2=>cases e
 rename_i d r rows hb;split at e
 case isFalse=>cases e
 rename_i Xj;rw[AL8]at Xj;obtain⟨Xj,hr⟩:=Xj;rw[AL8,AM7]at hr;obtain⟨hr,hk⟩:=hr;obtain⟨el,ti,hu,Yj,hs,hby,hrow⟩:=Lk hT Xj;obtain⟨i,z,i1,i2,i3,i4,i5,hg⟩:=bB hT Yj hrow;have fq:VR E w σ.bx (.win b [] off n) (a.eval o1):=i_;simp only[VR,hb]at fq;obtain⟨_,_,q,ys,ad,len,cap,hgp,hl,hh,hv⟩:=fq;simp only[Hp,ALl,AN3]at hgp;obtain⟨rfl,hgp⟩:=hgp;obtain rfl:=APR hgp;simp only[J1,ALl]at hh;by_cases hn:n=0
 ·subst hn
  have AWL:(rows.take off++List.replicate 0 r.z)++rows.drop (off+0)=rows:=by simp
  rw[AWL]at e;have X3:σ.bx.set b (.sl d r rows)=σ.bx:=by
   apply ATd;grind
  rw[X3]at e;refine⟨.tuple #[],w,E,.c .undef,σ,.inl ?_,h,trivial,UC.refl _ _ _ _,rfl,e⟩;have hz:∃a' c',a.eval o1= .slice a' 0 c':=⟨_,_,by rw[hv];rfl⟩;obtain⟨a',c',hz⟩:=hz;simp only[execOp,ho,resolve,hc,hargs',invoke,builtin,Sem.run_bind,Sem.run_pure,Result.andThen_ok,List.map_toArray,ATU,AUB,Builtin.clear_,ht,hz];cases a'<;>simp[Bg hu]
 ·obtain⟨bb,oo,cap',g1,g2,g3,g4,g5⟩:=AIE h (d:=d) hb hr hg hk hl (by omega)
  rw[g1]at hh;simp only[Value.slice.injEq]at hh;obtain⟨rfl,rfl,rfl⟩:=hh;have dp:a.eval o1= .slice (some ⟨bb,oo+off*r.n,none⟩) n (cap'-off):=by
   rw[hv];unfold Zc;rw[ALj (by omega)];simp[Addr.add]
  refine⟨.tuple #[],_,E,.c .undef,_,.inl ?_,g4,trivial,g5,rfl,e⟩;have hz:(Builtin.zeroCells z.cells n).toList=(List.replicate n (FO r)).flatten:=by
   grind[Builtin.zeroCells,FO,ax,He]
  have h1:∀v∈(List.replicate n (FO r)).flatten,v.oneCell' =true:=fun v hv=>by
   obtain⟨l,hl1,lx⟩:=APu.1 hv;rw[ATG hl1]at lx;exact rk (w:=w) (S:=E.S) (d:=0) (lY hg) v lx
  have hvl:((List.replicate n (FO r)).flatten).length=n*r.n:=by rw[H5,He]
  have yS:=run_storeCells_cells (P:=P) bb (oo+off*r.n) (List.replicate n (FO r)).flatten 0 w (fun j hj=>by simpa using(g3 j (by omega)).1) (fun j hj=>by simpa using(g3 j (by omega)).2) h1;rw[ATL]at yS;obtain⟨n',rfl⟩:∃n',n=n'+1:=⟨n-1,by omega⟩;simp only[execOp,ho,resolve,hc,hargs',invoke,builtin,Sem.run_bind,Sem.run_pure,Result.andThen_ok,List.map_toArray,ATU,AUB,Builtin.clear_,ht,dp];simp[Bg hu,zeroValue,typeInfo,i1,i4,hz,yS]
end
end Go.Fw
end
section
namespace Go.Fw
theorem vd{E:Env}{w:World}{vw:List Bx}:∀{l:List XV} {bs:ABu} {vs:List Value},AB5 l=some bs->Cr (XR E w vw) l vs->(∀b∈bs,b<vw.length)/\vs=bs.map fun b=>Value.pointer (some ⟨E.Iz b,0,none⟩)
 |[],bs,vs,e,h=>by
  simp only[AB5,ALl]at e;subst e;cases vs with
  |nil=>simp_all
  |cons _ _=>exact h.elim
 |x::l,bs,vs,e,h=>by
  unfold AB5 at e;split at e
  ·simp_all
  ·rename_i b l' heq
   cases heq;simp only[ALs]at e;obtain⟨r,e1,rfl⟩:=e;cases vs with
   |nil=>exact h.elim
   |cons v vs=>
    obtain⟨h1,h2⟩:=h;obtain⟨k1,k2⟩:=vd e1 h2;obtain⟨h3,h4⟩:b<vw.length/\v= .pointer (some ⟨E.Iz b,0,none⟩):=h1;simp_all
  simp_all
theorem evs{E:Env}{σ:St}{a:Act}{w:World}(h:Rel E σ a w):∀l:List Operand,Cr (XR E w σ.bx) (l.map σ.ev) (l.map a.eval)
 |[]=>trivial
 |x::l=>⟨h.ev x,evs h l⟩
theorem AG1{E:Env}{σ:St}{a:Act}{w:World}(h:Rel E σ a w):∀o:Option Operand,OR E w σ.bx (o.map σ.ev) (o.map a.eval)
 |none=>trivial
 |some x=>h.ev x
theorem ACr{w:World}{S:Nat->Prop}:∀{p:List tH} {d:Nat} {r:Ty} {h:Value} {rows:List r.D} {F:ABu} {q:Ty} {ys:List q.D} {v:Value},Ow w S d (.sl r) [h] rows F->DQ r rows p->
  Hp r rows p=some ⟨q,ys⟩->d<=p.length->J1 w h p=some v->Rd w S (.sl q) [v] ys
 |p,0,r,h,rows,F,q,ys,v,ho,hp,hg,_,hv=>by
  grind[Ow,vH]
 |[],d+1,r,h,rows,F,q,ys,v,ho,hp,hg,hd,hv=>by simp_all
 |s::p,d+1,r,h,rows,F,q,ys,v,ho,hp,hg,hd,hv=>by
  simp only[DQ]at hp;obtain⟨hi,NN,hp⟩:=hp;simp only[Hp]at hg;obtain⟨a,len,cap,rfl⟩:∃a len cap,h= .slice a len cap:=by
   grind[Ow]
  split at hg
  case h_2=>cases hg
  rename_i q' x' nz;rw[nz]at hp;obtain⟨b,o,arr,ty,fr,cs,G,R,rfl,hb,hu,hbd,c1,c2,c3,vn,hback⟩:=ABo ho hi;obtain⟨u,A1,A2,k1,k2,k3,k4⟩:=lq c3 nz;simp only[J1]at hv;rw[NN,c2 _ _ k1]at hv;exact ACr k2 hp hg (by simp_all) hv
theorem AES{E:Env}{σ:St}{a:Act}{w:World}(h:Rel E σ a w){b i sz j:Nat}{p:List tH}{va v:Value}(hva:VR E w σ.bx (.Kc b p i sz j) va){x:XV}(hv:XR E w σ.bx x v)(h1c:∀u∈v.cells.toList,u.oneCell' =true)
  {σ':St} (e:Mz σ (.c (.Kc b p i sz j)) x=some σ'):
  ∃bb oo E',va= .pointer (some ⟨bb,oo,none⟩)/\w.there bb oo v.cells.toList.length/\Rel E' σ' a (w.setCells bb oo v.cells.toList)/\UC [b] E σ.bx w E' σ'.bx (w.setCells bb oo v.cells.toList)/\σ'.tm.length=σ.tm.length:=by
 unfold Mz gL at e;split at e
 ·rename_i b0 _ _ _ _ b' s p' off n heq
  cases heq;split at e
  case isFalse=>cases e
  rename_i hbb;subst hbb;split at e
  case h_2=>cases e
  rename_i d r rows hb;simp only[AMp,ALs]at e;obtain⟨q,⟨⟨q0,ys⟩,hg,rfl⟩,e⟩:=e;dsimp only at e;have JN:=(AL1.1 hb).1;obtain⟨F,⟨hd1,ho⟩,hB⟩:=h.bx.take hb;obtain⟨A,W,pF,ho2⟩:=LF (d:=min d (p'.length+1)) (by omega) ho;have c_:=hB.perm (G':=A++W++[]) (by simp_all);obtain⟨hle,hB3⟩:=c_.share
  generalize hE1:({ E with S:=fun c=>E.S c\/c∈W,T:=fun c=>E.T c\/c∈W }:Env)=E1 at hle hB3
  have ho3:Ow w E1.S (min d (p'.length+1)) (.sl r) [E1.I0 b'] rows A:=by
   rw[hle.I0];grind
  have hB4:=hB3.put (b:=b') (B:= .sl (min d (p'.length+1)) r rows) (by simp_all) ⟨by omega,ho3⟩;rw[AVP]at hB4;have hk:V0 E w σ.bx E1 w (σ.bx.set b' (.sl (min d (p'.length+1)) r rows)):=by
   refine⟨by simp,fun _ _=>by rw[hle.Iz],hle.T,hle.S,h.bx.st,fun _ _=>rfl,fun c d' r' rows' hc e=> ?_⟩;by_cases hcb:b' =c
   ·subst hcb
    rw[ASO JN]at e;simp only[ALl,Bx.sl.injEq]at e;obtain⟨rfl,rfl,e⟩:=e;obtain rfl:=APR e;exact⟨d,rows,hb,fun p hp q ys hg=>⟨hp,⟨ys,hg,rfl⟩,fun h' hh=>by rw[hle.I0];omega⟩⟩
   ·rw[AQF hcb]at e
    exact⟨d',rows',e,fun p hp q ys hg=>⟨hp,⟨ys,hg,rfl⟩,fun h' hh=>by rw[hle.I0];omega⟩⟩
  have i_:VR E w σ.bx (.win b' (s::p') off n) v:=hv;have fq:XR E1 w (σ.bx.set b' (.sl (min d (p'.length+1)) r rows)) (.c (.sl true q0 ((ys.drop off).take n))) v:=by
   simp only[VR,hb]at i_;obtain⟨_,hp,q1,ys1,a1,len,cap,g1,g2,g3,rfl⟩:=i_;rw[hg]at g1;simp only[ALl,AN3]at g1;obtain⟨rfl,g1⟩:=g1;obtain rfl:=APR g1;have:=ACr ho3 hp hg (by grind) (by rw[hle.I0];omega);exact AFk this g2
  have hr:Rel E1 { σ with bx:=σ.bx.set b' (.sl (min d (p'.length+1)) r rows) } a w:=
   ⟨h.Pp,h.tm.imp fun _ _ hx=>RE hk hx,hB4.turn (E':=E1) (w':=w) (fun _ _ hv=>G4 ⟨by simp,fun _ _=>rfl,fun _ h=>h,fun _ h=>h,hB3.st,fun _ _=>rfl,fun c d' r' rows' hc e=>by
    grind⟩ hv) (fun _ h=>h) (fun _ _=>rfl) (fun _ _=>rfl) (fun _ _ _=>rfl) fun F hF=>hF⟩
  obtain⟨bb,oo,E',q1,q2,q3,q4,q5⟩:=AAG hr (G4 hk hva) fq h1c e;refine⟨bb,oo,E',q1,q2,q3,⟨(hle.base w).trans q4.base,by simpa using q4.len,fun c hc=> ?_,fun c hc=> ?_,fun c B B' hct hB XC hd=> ?_⟩,q5⟩
  ·have:=q4.ids c (by simp_all)
   exact⟨this.1.trans (by rw[hle.Iz]),this.2.trans (by rw[hle.I0])⟩
  ·refine q4.dead c ?_
   grind
  ·have hcb:b'≠c:=fun e=>hct (by simp[e])
   obtain⟨f1,f2⟩:=q4.frame c B B' hct (by simp_all) XC hd;refine⟨f1,fun c' jy=>f2 c' ?_⟩;cases B with
   |mem cs=>exact jy.trans (by rw[hle.Iz])
   |sl d0 r0 Vl=>simp only[BRB]at jy|-;rw[hle.I0];omega
   |dead=>exact jy
 grind[AAG]
def xI:Op->Bool
 | .call { callee:= .value _,.. }=>true
 |_=>false
section
variable{Y:Type} {P:Program} {T:Ky} (hT:E_ P T) {o:Oper} {E:Env} {σ:St} {a:Act} {w:World} {k:K Y} {y:Y}
include hT
theorem AFX(h:Rel E σ a w){t:TypeId}{oa ox:Operand}(ho:o.op= .store t oa ox){ti:TI}(Yj:T.get t=some ti)
  (hc:(σ.ev ox).cells.length=ti.size/\ti.size≠0/\(σ.ev ox).cells.all AV.known=true) {σ':St} (hs:Mz σ (σ.ev oa) (σ.ev ox)=some σ') (e:k (.c .undef) σ' =some y):Mx P o E σ a w k y:=by
 obtain⟨c1,c2,c3⟩:=hc;have jt:(σ.ev ox).cells≠[]:=fun hh=>by simp_all
 obtain⟨Zu,h1c⟩:=wP (h.ev ox) c3 jt;have hlen:(a.eval ox).cells.toList.length=ti.size:=by rw[<-Cr.len Zu];omega
 have hi:(P.info? t).map (·.size)=some (a.eval ox).cells.toList.length:=by grind[E_.size]
 have hva:=h.ev oa;have fin:∀{bb oo:Nat} {E':Env},a.eval oa= .pointer (some ⟨bb,oo,none⟩)->w.there bb oo (a.eval ox).cells.toList.length->Rel E' σ' a (w.setCells bb oo (a.eval ox).cells.toList)->
   UC (Ld (fun _=>none) σ o.op) E σ.bx w E' σ'.bx (w.setCells bb oo (a.eval ox).cells.toList)->σ'.tm.length=σ.tm.length->Mx P o E σ a w k y:=by
  intro bb oo E' e1 e2 e3 e4 e5;have hr:=tp (P:=P) e2 hi h1c;refine⟨undef,_,E',.c .undef,σ',.inr ⟨?_,rfl⟩,e3,trivial,e4,e5,e⟩;grind[execOp,Sem.run_bind,Result.andThen_ok,Sem.run_pure]
 generalize hxa:σ.ev oa=xa at hs hva
 cases xa with
 |agg l=>simp[Mz,gL,ni]at hs
 |NM l=>simp[Mz,gL,ni]at hs
 |c x=>
  cases x with
  |JR b j=>
   simp only[Mz,gL,AMA,ni]at hs;split at hs
   case h_2=>cases hs
   rename_i cs hb;simp only[ALs]at hs;obtain⟨j7,hs,rfl⟩:=hs;have Aa5:b<σ.bx.length/\a.eval oa= .pointer (some ⟨E.Iz b,j,none⟩):=hva;obtain⟨q1,q2,q3⟩:=AHt h hb Zu jt hs;exact fin Aa5.2 q1 q2 (by grind[Ld]) rfl
  |Kc b p i sz j=>
   obtain⟨bb,oo,E',q1,q2,q3,q4,q5⟩:=AES h hva (h.ev ox) h1c hs;grind[Ld]
  |_=>simp[Mz,gL,ni]at hs
omit hT in
theorem ADa(h:Rel E σ a w){x:Operand}(ho:o.op= .assign x)(e:iW σ (σ.ev x) k=some y):Mx P o E σ a w k y:=by
 have hr:(execOp a.eval o).run P w= .ok (.value (a.eval x)) w:=by simp only[execOp,ho,Sem.run_pure]
 have hv:=h.ev x;unfold iW at e;split at e
 ·rename_i b off n hx
  rw[hx]at hv;simp only[AMp]at e;obtain⟨⟨r,rows,bx,d⟩,e1,e⟩:=e;dsimp only at e;have dp:VR E w σ.bx (.win b [] off n) (a.eval x):=hv;obtain⟨hd,F1,F2,k1,ho1⟩:=mg h.bx (F7.refl _) dp e1;obtain⟨Fs0,hB1,c_⟩:=k1.boxes;simp only[ANV]at c_;have nd:=(ANh.1 (ANh.1 c_.nodup).2.1).1;obtain⟨r1,r2,r3⟩:=Wz h k1 (w':=w) hd ho1 (fun c hc=> .inl (AOK.2 (.inl hc))) nd (fun c hc=>c_.lt c (by simp[hc])) (fun _ _ _=>rfl) ⟨rfl,rfl,rfl,AOd _⟩;exact⟨_,_,_,_,_,.inl hr,r1,r3,r2.any,rfl,e⟩
 ·exact Mx.same h hr hv e
theorem AIV{Γ:Nat->Option Rt}(h:Rel E σ a w)(e:cC T Γ o σ k=some y)(AAF:xI o.op=false):Mx P o E σ a w k y:=by
 have same:∀{v:Value} {x:XV},(execOp a.eval o).run P w= .ok (.value v) w->XR E w σ.bx x v->k x σ=some y->Mx P o E σ a w k y:=fun h1 h2 h3=>Mx.same h h1 h2 h3
 obtain⟨Fs,hB,hS⟩:=h.bx;have st:=hS.st;unfold cC at e;split at e
 ·rename_i x ho
  exact same (v:=a.eval x) (by grind[execOp,Sem.run_pure]) (h.ev x) e
 ·grind[ADa]
 ·rename_i c xa xb ho
  split at e
  case h_2=>cases e
  rename_i p hp;have hc:=h.ev c;rw[hp]at hc;have jy:=Uh (E:=E) (w:=w) (vw:=σ.bx) hc;refine same (v:=if p then a.eval xa else a.eval xb) (x:=if p then σ.ev xa else σ.ev xb) (by simp[execOp,ho,jy,asBool]) (by cases p<;>simp[h.ev]) ?_
  grind[AJX]
 ·grind[AEn]
 ·grind[AJN]
 ·grind[AEN]
 ·grind[th]
 ·rename_i t x ho
  split at e
  case h_2=>cases e
  rename_i z hz;obtain⟨u,h1,h2⟩:=ADH hT hB st hz (h.ev x);grind[execOp,Sem.run_bind,Result.andThen_ok,Sem.run_pure]
 ·grind[AFX]
 ·rename_i x ho
  have hx:=h.ev x;split at e
  ·rename_i b j hp
   rw[hp]at hx;have hx':b<σ.bx.length/\a.eval x= .pointer (some ⟨E.Iz b,j,none⟩):=hx;grind[execOp,Sem.run_pure]
  ·rename_i b p i sz j hp
   rw[hp]at hx;have hpt:iw (a.eval x)=true:=hx.1;grind[iw,execOp,Sem.run_pure]
  ·rename_i s r z j hp
   rw[hp]at hx;obtain⟨bb,oo,cs,hv,hrest⟩:=hx;exact same (v:=a.eval x) (x:= .c (.RR s r z j)) (by grind[execOp,Sem.run_pure]) ⟨bb,oo,cs,hv,hrest⟩ e
  ·rename_i f Lc hp
   rw[hp]at hx;have hx':(∀b∈Lc,b<σ.bx.length)/\a.eval x= .func (.func f) #[] (Lc.map fun b=>Value.pointer (some ⟨E.Iz b,0,none⟩)).toArray:=hx;grind[execOp,Sem.run_pure]
  simp_all
 ·rename_i op t x z s ho
  obtain⟨r,val,h1,h2,h3⟩:=nN hT e (h.ev x) (h.ev z) x z;exact same (v:=val) (x:= .c r) (by
   simp only[execOp,ho,Sem.run_bind];simp_all) h3 h1
 ·rename_i op t x ho
  obtain⟨r,val,h1,h2,h3⟩:=rq (P:=P) e (h.ev x);exact same (v:=val) (x:= .c r) (by grind[execOp,Sem.run_bind,Result.andThen_ok,Sem.run_pure]) h3 h1
 ·grind[AHT]
 ·rename_i f first Lc ho
  split at e
  case isFalse=>cases e
  rename_i hf;split at e
  case h_2=>cases e
  rename_i bs hbs;obtain⟨q1,q2⟩:=vd hbs (evs h Lc.toList);have AaX:first.map a.eval= #[]:=by
   simp_all
  have Adm:Lc.map a.eval=(bs.map fun b=>Value.pointer (some ⟨E.Iz b,0,none⟩)).toArray:=by
   grind
  refine same (v:= .func (.func f) #[] (bs.map fun b=>Value.pointer (some ⟨E.Iz b,0,none⟩)).toArray) ?_ (x:= .c (.fn f bs)) ⟨q1,rfl⟩ e
  grind[execOp,Instr.makeFunc,Sem.run_bind,Sem.run_pure,Result.andThen_ok]
 ·grind[AHy]
 ·rename_i t x lo hi ho
  obtain⟨z,val,h1,h2,h3⟩:=od hT hB st e (h.ev x) (AG1 h lo) (AG1 h hi);grind[execOp,Sem.run_bind,Result.andThen_ok,Sem.run_pure]
 ·rename_i t x f ho
  split at e
  case h_2=>cases e
  rename_i z hz;obtain⟨u,h1,h2⟩:=oQ hT hz (h.ev x);grind[execOp,Sem.run_bind,Result.andThen_ok,Sem.run_pure]
 ·rename_i t x f ho
  split at e
  case h_2=>cases e
  rename_i z hz;obtain⟨u,h1,h2⟩:=sg hT hz (h.ev x);grind[execOp,Sem.run_bind,Result.andThen_ok,Sem.run_pure]
 ·rename_i t x i ho
  obtain⟨z,val,h1,h2,h3⟩:=pL hT hB st e (h.ev x) (h.ev i);grind[execOp,Sem.run_bind,Result.andThen_ok,Sem.run_pure]
 ·rename_i t x i ho
  obtain⟨z,val,h1,h2,h3⟩:=je hT e (h.ev x) (h.ev i);grind[execOp,Sem.run_bind,Result.andThen_ok,Sem.run_pure]
 ·rename_i x i ho
  split at e
  case h_2=>cases e
  rename_i z hz;obtain⟨u,h1,h2⟩:=ki (P:=P) hz (h.ev x);grind[execOp,Sem.run_bind,Result.andThen_ok,Sem.run_pure]
 ·rename_i f args y8 ho
  rw[ho]at AAF;cases AAF
 ·rename_i args y8 ho
  split at e
  ·rename_i s t JO hts
   obtain⟨x,rfl,hx⟩:=bK JO;have hv:=h.ev x;rw[hx]at hv;have dp:=bH (E:=E) (w:=w) (vw:=σ.bx) hv;split at e
   case isFalse=>cases e
   rename_i hs;have hu:=bS hT hs;refine same (v:= .int .i64 (s.length:Int)) (x:= .c (.v (.int .i64) (s.length:Int))) ?_ (VR.int (E:=E) (vw:=σ.bx) _ _) e
   have NN:(⟨s.toArray⟩:ByteArray).size=s.length:=by rfl
   simp[execOp,ho,resolve,invoke,builtin,Builtin.len_,hts,dp,Bg hu,goInt,NN]
  ·rename_i z t _ JO hts
   obtain⟨x,rfl,hx⟩:=bK JO;have hv:=h.ev x;rw[hx]at hv;split at e
   case isFalse=>cases e
   rename_i hs;split at e
   case h_2=>cases e
   rename_i n hn;obtain⟨el,hu⟩:=rr hT hs;obtain⟨ad,cap,dp⟩:=sk hB st hn hv;refine same (v:= .int .i64 (n:Int)) (x:= .c (.v (.int .i64) (n:Int))) ?_ (VR.int (E:=E) (vw:=σ.bx) _ _) e
   simp[execOp,ho,resolve,invoke,builtin,Builtin.len_,hts,dp,Bg hu,goInt]
  simp_all
 ·rename_i args y8 ho
  split at e
  case h_2=>cases e
  rename_i x1 x2 JO;exact ADZ hT h ho rfl JO e
 ·rename_i args y8 ho
  split at e
  case h_2=>cases e
  rename_i x JO;exact AEg hT h ho rfl JO e (fun b p off n hx=>by grind[Ld])
 ·rename_i args y8 ho
  split at e
  case h_2=>cases e
  rename_i x1 x2 JO;obtain⟨o1,o2,rfl,hx1,hx2⟩:=bQ JO;have i_:=h.ev o1;have fq:=h.ev o2;rw[hx1]at i_;rw[hx2]at fq;obtain⟨r,val,h1,h2,h3⟩:=Wa (P:=P) (big:=true) e i_ fq y8 #[] o.type;simp only[AQm]at h2;exact same (v:=val) (x:= .c r) (by simp[execOp,ho,resolve,invoke,builtin,h2]) h3 h1
 ·rename_i args y8 ho
  split at e
  case h_2=>cases e
  rename_i x1 x2 JO;obtain⟨o1,o2,rfl,hx1,hx2⟩:=bQ JO;have i_:=h.ev o1;have fq:=h.ev o2;rw[hx1]at i_;rw[hx2]at fq;obtain⟨r,val,h1,h2,h3⟩:=Wa (P:=P) (big:=false) e i_ fq y8 #[] o.type;simp only[AMx,API]at h2;exact same (v:=val) (x:= .c r) (by simp[execOp,ho,resolve,invoke,builtin,h2]) h3 h1
 simp_all
end
end Go.Fw
end
