/- The framework, part 1: a checked interpreter of the model's code over abstract states; no claim is made here. -/
import Derived.Lib.LaidTab
import Derived.Lib.ItoaNum
import Derived.Calls
import Derived.Still
import Derived.Laws.World
import Derived.Laws.AppendOwn
import Derived.RowKit3
import Derived.Deep.MidRow
import Derived.Laws.StructEq
import Derived.Lib.ConvBytes
import Derived.Laws.BytesArg
import Derived.Tactics
import Derived.OrdersHeld
import Derived.ChangeArms
import Derived.ChangeOld
import Derived.DataReads
import Derived.Below
import Derived.Shelf.Spec.SlicesInsertGrow
import Derived.Shelf.Slices.Delete
import Derived.Lib.AtoiAll
import Derived.Lib.IndexMore
import Derived.Lib.Strings
import Derived.Lib.SlicesS
import Derived.Shelf.Strconv.Itoa3
import Derived.Shelf.Strings.Cut
import Derived.Shelf.Strings.Search3
import Derived.Shelf.Strings.Prefix
import Derived.Shelf.Slices.Turned
import Derived.Lib.Split
import Derived.Shelf.Strings.Split
import Derived.Handed
import Derived.Stop.LaidErr
import Derived.MakeChecks
import Derived.LaidLaws
set_option linter.unusedVariables false
set_option linter.unusedSimpArgs false
set_option linter.unusedSectionVars false
abbrev ACv:Type:=Int × Int × Bool × List UInt8 × Unit
abbrev AHS:Type:=List UInt8 × List Int × Bool × Unit
abbrev ADa:Type:=Int × Int × List UInt8 × Unit
abbrev AEd:Type:=List Int × Bool × Int × Unit
abbrev AFV:Type:=Int × List UInt8 × Bool × Unit
abbrev ADq:Type:=Unit × Int × Unit × Unit × Unit × Int × Unit × Unit × Unit × Unit × Bool × Unit
abbrev AAN:Type:=List Int
abbrev AHf:Type:=Int × Bool × Int × Int × Bool × List UInt8 × Unit
abbrev AAg:Type:=Bool × Unit
abbrev AAb:Type:=List Int × Int × Unit
abbrev AAv:Type:=Int × Unit
abbrev AHW:Type:=Int × Int × Unit × Unit × Bool × Unit × Unit
abbrev AHT:Type:=Unit × Unit × Int × Unit
abbrev ACE:Type:=List Int × Unit
abbrev ABW:Type:=Unit × Unit
abbrev AAZ:Type:=List UInt8
abbrev AAc:Type:=List Nat
abbrev ADQ:Type:=List UInt8 × Unit
abbrev AGM:Type:=Int × Int × Unit × Unit
abbrev AGD:Type:=Unit × Int × Unit
abbrev ABX:Type:=Int × Int × Int × Int × List UInt8 × Unit
abbrev AF4:Type:=Int × Unit × Unit
abbrev AHd:Type:=Int × Bool × Unit
abbrev AHR:Type:=List UInt8 × Bool × Unit
abbrev ACk:Type:=Nat × Nat
abbrev AEe:Type:=Unit × List Int × Unit
abbrev AEc:Type:=Nat × List Nat
abbrev AHP:Type:=List UInt8 × Int × Unit
abbrev AAu:Type:=Int × Int × List Int × List ACv × Bool × List AAN × Unit
abbrev ABR:Type:=List ACv × List ACv × Int × Unit
abbrev ACD:Type:=Int × Int × List ADa × Unit
abbrev ABL:Type:=Int × List AHS × Unit
abbrev AAa:Type:=List ACv
abbrev AAU:Type:=List AEd
abbrev AAW:Type:=List AFV
abbrev AA6:Type:=List AEd × Int × Unit
abbrev AHg:Type:=ADq × Int × Unit
abbrev AHi:Type:=AHT × Bool × Unit
abbrev ABI:Type:=List AHS
abbrev AHk:Type:=AHW × Bool × Unit
abbrev ACH:Type:=List ADa
abbrev ADw:Type:=AHd × Unit
abbrev AIl:Type:=AF4 × Bool × Unit
abbrev AH1:Type:=AGD × Bool × Unit
abbrev AHu:Type:=ACv × Bool × Unit
abbrev ACU:Type:=List AHf
abbrev AEV:Type:=AHR × Unit
abbrev AEW:Type:=AGD × Unit
abbrev AEX:Type:=AGM × Unit
abbrev AEY:Type:=AHW × Unit
abbrev ACw:Type:=AAv × Unit
abbrev AGr:Type:=AF4 × Int × Bool × Unit
abbrev AGq:Type:=AGD × Int × Bool × Unit
abbrev AHO:Type:=ADq × List UInt8 × Unit
abbrev AE2:Type:=AF4 × Unit
abbrev AFP:Type:=ABX × Unit
abbrev AEf:Type:=AHT × Unit
abbrev AE8:Type:=ADq × Unit
abbrev AHN:Type:=ABX × Bool × Unit
abbrev AGO:Type:=ADq × Bool × Unit
abbrev AGf:Type:=AGM × Int × Unit
abbrev AHQ:Type:=List AAZ × Unit
abbrev AAi:Type:=List Int × Int × List ABR × List Int × List AEd × Int × List ABL × List AAu × List ACD × List AFV × Bool × Unit
abbrev AAT:Type:=List ABR
abbrev AAV:Type:=List ACD
abbrev AAX:Type:=List ABL
abbrev AAY:Type:=List AAu
abbrev ADU:Type:=List Int × AAa × List AAN × Unit
abbrev ADS:Type:=AAa × AAa × Unit
abbrev AC7:Type:=AHg × Unit
abbrev ADW:Type:=AHi × Unit
abbrev AD9:Type:=AHk × Unit
abbrev AD3:Type:=ABI × Unit
abbrev AD2:Type:=AAU × Unit
abbrev AEJ:Type:=ACH × Unit
abbrev AEU:Type:=AAa × Unit
abbrev AEZ:Type:=AHu × Unit
abbrev AEb:Type:=AH1 × Unit
abbrev AEa:Type:=AIl × Unit
abbrev AFz:Type:=Unit × AAa × Unit
abbrev AGZ:Type:=AGM × Unit × ACH × Unit
abbrev ADG:Type:=List Int × AAT × List Int × AAU × AAX × AAY × AAV × AAW × Unit
abbrev ADj:Type:=ADq × List Int × AAT × List Int × AAU × AAX × AAY × AAV × AAW × Unit
abbrev AHM:Type:=ADq × List Int × AAT × Unit × AAU × AAX × AAY × AAV × AAW × List Int × Unit
abbrev AGz:Type:=List Int × AAT × Unit × AAU × AAX × AAY × AAV × AAW × List Int × Unit
abbrev AG5:Type:=AAT × AAa × AAa × Unit
abbrev AIn:=@Bool.eq_false_or_eq_true
abbrev AI9:=@if_pos
abbrev AJA:=@List.getElem?_eq_getElem
abbrev AJD:=@if_neg
abbrev AJL:=@Option.some.injEq
abbrev AJM:=@List.getElem?_eq_some_iff
abbrev AJN:=@Option.map_eq_some_iff
abbrev AJQ:=@cond_false
abbrev AJR:=@Bool.and_eq_true
abbrev AJT:=@Int.toNat_natCast
abbrev AJX:=@Bool.not_true
abbrev AJa:=@Option.bind_eq_some_iff
abbrev AJm:=@List.drop_eq_nil_of_le
abbrev AJn:=@Bool.false_eq_true
abbrev AJq:=@List.length_cons
abbrev AJr:=@decide_eq_true_eq
abbrev AJy:=@cond_true
abbrev AJ7:=@List.getElem_mem
abbrev AKA:=@beq_eq_false_iff_ne
abbrev AKB:=@Bool.true_and
abbrev AKD:=@Option.bind_some
abbrev AKK:=@List.append_assoc
abbrev AKN:=@List.length_append
abbrev AKW:=@List.getElem?_append_left
abbrev AKX:=@List.append_nil
abbrev AKg:=@List.nodup_append
abbrev AKx:=@List.length_nil
abbrev AK7:=@Sigma.mk.injEq
abbrev ALA:=@List.mem_of_getElem?
abbrev ALE:=@List.getElem?_set_ne
abbrev ALR:=@Nat.mul_le_mul_right
abbrev ALa:=@List.mem_cons
abbrev ALb:=@List.getElem?_append_right
abbrev ALg:=@decide_eq_true
abbrev ALj:=@Nat.le_refl
abbrev ALk:=@List.mem_append
abbrev AL9:=@List.cons.injEq
abbrev AMH:=@Bool.not_eq_true
abbrev AMT:=@Bool.not_eq_false'
abbrev AMd:=@if_false
abbrev AMk:=@List.eq_nil_of_length_eq_zero
abbrev AMq:=@List.getElem?_set_self
abbrev ANG:=@Bool.false_or
abbrev ANS:=@decide_eq_false
abbrev ANa:=@List.mem_flatten
abbrev ANd:=@List.getElem?_map
abbrev ANi:=@eq_of_heq
abbrev ANm:=@List.take_of_length_le
abbrev ANx:=@Prod.mk.injEq
abbrev AOH:=@Bool.not_false
abbrev AOK:=@List.pairwise_cons
abbrev AOT:=@Nat.le_trans
abbrev AOX:=@Nat.lt_of_lt_of_le
abbrev AOi:=@List.nil_append
abbrev AOj:=@List.length_filter_le
abbrev AOn:=@List.drop_zero
abbrev AOq:=@List.getElem_of_mem
abbrev AOw:=@Bool.false_and
abbrev AOx:=@if_true
abbrev AOy:=@Bool.or_eq_true
abbrev AOz:=@List.take_succ_eq_append_getElem
abbrev AO0:=@Bool.and_true
abbrev AO1:=@and_true
abbrev AO2:=@Option.isSome_some
abbrev AO3:=@List.filter_cons
abbrev AO4:=@Option.getD_some
abbrev AO5:=@List.drop_eq_getElem_cons
abbrev AO6:=@List.cons.inj
abbrev AO7:=@List.eq_of_mem_replicate
abbrev AO8:=@Option.isSome_none
abbrev AO9:=@List.map_congr_left
abbrev AO_:=@beq_self_eq_true
abbrev APA:=@List.mem_singleton
abbrev APB:=@Nat.zero_add
abbrev APC:=@List.mem_map
abbrev APD:=@List.all_cons
abbrev APE:=@Bool.not_eq_true'
abbrev APF:=@beq_iff_eq
abbrev APG:=@Bool.eq_false_iff
abbrev APH:=@Nat.add_mul
abbrev API:=@List.cons_append
abbrev APJ:=@List.flatten_append
abbrev APK:=@List.Perm.append_left
abbrev APL:=@Nat.add_zero
abbrev APM:=@List.singleton_append
abbrev APN:=@Nat.add_assoc
abbrev APO:=@List.all_eq_true
abbrev APP:=@List.drop_length
abbrev APR:=@List.Perm.append_right
abbrev APT:=@List.flatten_cons
abbrev APX:=@List.map_cons
abbrev APm:=@List.mem_or_eq_of_mem_set
abbrev APp:=@List.getElem?_eq_none
abbrev APu:=@List.contains_iff_mem
abbrev AP4:=@List.getElem?_drop
abbrev AP5:=@decide_eq_false_iff_not
abbrev AQe:=@Option.bind_assoc
abbrev AQn:=@Option.map_some
abbrev AQu:=@Array.length_toList
abbrev AQx:=@List.length_map
abbrev ARG:=@List.length_set
abbrev ART:=@List.getElem_cons_zero
abbrev ARV:=@List.length_take
abbrev ARl:=@List.perm_append_comm
abbrev ARo:=@List.map_map
abbrev ARw:=@List.getElem?_take
abbrev AR2:=@List.mem_of_mem_drop
abbrev ASB:=@List.ext_getElem?
abbrev ASJ:=@Nat.le_of_lt
abbrev ASQ:=@Nat.sub_mul
abbrev AST:=@Int.eq_ofNat_of_zero_le
abbrev ASi:=@List.flatten_nil
abbrev ASm:=@List.length_drop
abbrev ASr:=@List.map_nil
abbrev ASv:=@List.length_replicate
abbrev AS4:=@List.nodup_cons
abbrev AS9:=@Option.some.inj
abbrev AS_:=@Array.getD_eq_getD_getElem?
abbrev ATA:=@List.mem_filter
abbrev ATB:=@Decidable.not_not
abbrev ATC:=@List.pairwise_map
abbrev ATD:=@List.exists_cons_of_length_eq_add_one
abbrev ATE:=@List.mem_of_mem_take
abbrev ATF:=@List.mem_of_find?_eq_some
abbrev ATG:=@List.pairwise_iff_getElem
abbrev ATH:=@Bool.and_false
abbrev ATI:=@List.length_pos_iff
abbrev ATJ:=@List.set_set
abbrev ATK:=@List.set_cons_zero
abbrev ATL:=@List.foldl_cons
abbrev ATM:=@List.length_eq_zero_iff
abbrev ATN:=@List.getElem?_cons_succ
abbrev ATO:=@List.find?_cons
abbrev ATP:=@Bool.eq_iff_iff
abbrev ATQ:=@Array.size_append
abbrev ATR:=@List.size_toArray
abbrev ATS:=@dite_true
abbrev ATT:=@Nat.sub_self
abbrev ATU:=@List.set_append_right
abbrev ATV:=@Bool.true_or
abbrev ATW:=@List.getElem_set_self
abbrev ATX:=@List.mem_cons_of_mem
abbrev ATY:=@Bool.or_false
abbrev ATZ:=@List.replicate_succ
abbrev ATa:=@List.filter_nil
abbrev ATb:=@List.drop_set_of_lt
abbrev ATc:=@List.take_set_of_le
abbrev ATd:=@Nat.succ_mul
abbrev ATe:=@List.Perm.refl
abbrev ATf:=@List.mapM_cons
abbrev ATg:=@Nat.mul_le_mul
abbrev ATh:=@List.take_zero
abbrev ATi:=@not_or
abbrev ATo:=@List.map_id
section
namespace Go.Fw
open Go
def AEC:Nat:=3
def AHZ:Nat:=0
def gE1:Nat:=4
def gE2:Nat:=5
def eu(w:World)(g:Nat):Prop:= ∃ev,w.cell? ⟨g,0,none⟩=some ev/\(ev= .nilIface\/ ∃te pe,ev= .iface te pe)
def GI(w:World):Prop:=(∃t fr,w.heap[AEC]? =some (.cells (Go.Lib.pow10Tab.map fun z=>Value.int .u64 z).toArray t fr))/\(∃m,w.cell? ⟨AHZ,0,none⟩=some (.int .i64 m))/\eu w gE1/\eu w gE2
theorem GI.tab{P:Program}{w:World}(h:GI w)(hg:P.globalNamed "internal/strconv.uint64pow10" =some AEC):Go.Lib.TabIs P w "internal/strconv.uint64pow10" .u64 Go.Lib.pow10Tab:=by
 obtain⟨⟨t,fr,h1⟩,_⟩:=h;unfold Go.Lib.TabIs World.var?;rw[hg];simp only[AKD,h1]
theorem GI.of{P:Program}{w w':World}(hg:P.globalNamed "internal/strconv.uint64pow10" =some AEC)(ht:Go.Lib.TabIs P w "internal/strconv.uint64pow10" .u64 Go.Lib.pow10Tab)(hm:∃m,w.cell? ⟨AHZ,0,none⟩=some (.int .i64 m))(h1:eu w gE1)(h2:eu w gE2)
  (hw:∀c,c<w.heap.size->w'.heap[c]? =w.heap[c]?):GI w':=by
 have lt:∀b o,w.heap[b]? =some o->b<w.heap.size:=fun b o h=>by
  by_cases hb:b<w.heap.size
  ·exact hb
  ·rw[Array.getElem?_eq_none (by omega)]at h;cases h
 unfold Go.Lib.TabIs World.var? at ht;rw[hg]at ht;simp only[AKD]at ht;have same:∀g v,w.cell? ⟨g,0,none⟩=some v->w'.cell? ⟨g,0,none⟩=some v:=fun g v h=>by
  have hb:w'.heap[g]? =w.heap[g]?:=by
   cases ho:w.heap[g]? with
   |none=>simp[World.cell?,ho]at h
   |some o=>rw[hw _ (lt _ _ ho),ho]
  rw[<-h];simp only[World.cell?,hb]
 refine⟨?_,hm.imp fun m h=>same _ _ h,h1.imp fun v h=>⟨same _ _ h.1,h.2⟩,h2.imp fun v h=>⟨same _ _ h.1,h.2⟩⟩
 ·cases ho:w.heap[AEC]? with
  |none=>rw[ho]at ht;cases ht
  |some o=>
   rw[ho]at ht;cases o with
   |cells cs t fr=>
    simp only[AJL]at ht;exact⟨t,fr,by rw[hw _ (lt _ _ ho),ho,ht]⟩
   |_=>cases ht
end Go.Fw
end
section
namespace Go.Fw
inductive Ty where
 |int (k:IntKind)|bool|str|sl (r:Ty)|unit|cons (c r:Ty)
 deriving DecidableEq
@[reducible] def Ty.D:Ty->Type
 | .int _=>Int
 | .bool=>Bool
 | .str=>List UInt8
 | .sl r=>List r.D
 | .unit=>Unit
 | .cons c r=>c.D×r.D
def Ty.n:Ty->Nat
 | .unit=>0
 | .cons _ r=>r.n+1
 |_=>1
def Ty.z:(t:Ty)->t.D
 | .int _=>(0:Int)
 | .bool=>false
 | .str=>[]
 | .sl _=>[]
 | .unit=>()
 | .cons c r=>(c.z,r.z)
def Ty.flat:Ty->Bool
 | .sl _=>false
 | .cons c r=>c.flat&&r.flat
 |_=>true
def Ty.scalar:Ty->Bool
 | .int _| .bool| .str=>true
 |_=>false
structure Xv where
 i:Nat
 sz:Nat
 j:Nat
inductive AV where
 |v (t:Ty) (x:t.D)
 |sl (s:Bool) (r:Ty) (x:List r.D)
 |nil
 |ref (b:Nat) (p:List Xv)
 |win (b:Nat) (p:List Xv) (off n:Nat)
 |IX (b j:Nat)
 |Js (b:Nat) (p:List Xv) (i sz j:Nat)
 |Pv (s:Bool) (r:Ty) (x:r.D) (j:Nat)
 |fn (f:Nat) (Ka:AAc)
 |ta (f:Nat) (rows:List ((r:Ty)×r.D))
 |ABv
 |undef
def AV.known:AV->Bool
 | .undef=>false
 |_=>true
inductive XV where
 |c (x:AV)
 |agg (l:List AV)
 |MA (l:List (AV ⊕ List AV))
inductive Bx where
 |mem (cs:List AV)
 |sl (d:Nat) (r:Ty) (rows:List r.D)
 |dead
structure St where
 tm:List XV
 bx:List Bx
def BS:(r:Ty)->(j:Nat)->r.D->Option ((t:Ty)×t.D)
 | .cons c _,0,x=>some ⟨c,x.1⟩
 | .cons _ r,j+1,x=>BS r j x.2
 | .unit,_,_=>none
 | .int k,0,x=>some ⟨.int k,x⟩
 | .bool,0,x=>some ⟨.bool,x⟩
 | .str,0,x=>some ⟨.str,x⟩
 | .sl r,0,x=>some ⟨.sl r,x⟩
 |_,_+1,_=>none
def si{a b:Ty}(h:a=b)(x:a.D):b.D:=h▸x
def Dz:(r:Ty)->(j:Nat)->r.D->(t:Ty)->t.D->Option r.D
 | .cons c _,0,x,t,y=>if h:t=c then some (si h y,x.2)else none
 | .cons _ r,j+1,x,t,y=>(Dz r j x.2 t y).map fun z=>(x.1,z)
 | .unit,_,_,_,_=>none
 | .int k,0,_,t,y=>if h:t= .int k then some (si h y)else none
 | .bool,0,_,t,y=>if h:t= .bool then some (si h y)else none
 | .str,0,_,t,y=>if h:t= .str then some (si h y)else none
 | .sl r,0,_,t,y=>if h:t= .sl r then some (si h y)else none
 |_,_+1,_,_,_=>none
def rowAt(r:Ty)(rows:List r.D)(i:Nat):r.D:=rows.getD i r.z
def Gu:(r:Ty)->List r.D->List Xv->Option ((q:Ty)×List q.D)
 |r,rows,[]=>some ⟨r,rows⟩
 |r,rows,s::p=>
  match BS r s.j (rowAt r rows s.i)with
  |some ⟨.sl q,x⟩=>Gu q x p
  |_=>none
def qw:(r:Ty)->List r.D->List Xv->(q:Ty)->List q.D->Option (List r.D)
 |r,_,[],q,y=>if h:q=r then some (si (congrArg Ty.sl h) y)else none
 |r,rows,s::p,q,y=>
  match BS r s.j (rowAt r rows s.i)with
  |some ⟨.sl r',x⟩=>(qw r' x p q y).bind fun x' =>(Dz r s.j (rowAt r rows s.i) (.sl r') x').map fun row=>rows.set s.i row
  |_=>none
inductive TD where
 |int (k:IntKind)|bool|str|sl (e:Nat)|st (fs:List ACk)|ptr (e:Nat)|other
structure TI where
 size:Nat
 bytes:Nat
 desc:TD
 row:Option Ty
abbrev JR:=List (Nat×TI)
def JR.get:JR->Nat->Option TI
 |[],_=>none
 |(u,i)::l,t=>if u=t then some i else JR.get l t
def TD.agg:TD->Bool
 | .st _=>true
 |_=>false
def JR.kp(T:JR)(t:Nat):Option Ty:=
 match T.get t with
 |some ti=>ti.row
 |none=>none
def ABr:Ty->AV
 | .int k=> .v (.int k) (0:Int)
 | .bool=> .v .bool false
 | .str=> .v .str []
 | .sl _=> .nil
 |_=> .undef
def cg:Ty->List AV
 | .cons c r=>ABr c::cg r
 | .unit=>[]
 |t=>[ABr t]
def qe:Value->AV
 | .int k n=> .v (.int k) n
 | .bool b=> .v .bool b
 | .string s=> .v .str s.data.toList
 | .slice none 0 0=> .nil
 | .pointer none=> .ABv
 |_=> .undef
def ofValue:Value->XV
 | .agg cs=> .agg (cs.toList.map qe)
 |v=> .c (qe v)
def St.ev(σ:St):Operand->XV
 | .tmp t=>σ.tm.getD t (.c .undef)
 | .const v=>ofValue v
 | .global _=> .c .undef
 | .func f=> .c (.fn f [])
def St.put(σ:St)(dst:Option Tmp)(x:XV):St:=
 match dst with
 |some d=>{ σ with tm:=σ.tm.set d x }
 |none=>σ
def XV.cells:XV->List AV
 | .c x=>[x]
 | .agg l=>l
 | .MA _=>[]
def Q9{β:Ty->Type}(a b:Ty)(x:β a):Option (β b):=if h:a=b then some (h▸x)else none
def NS(bx:List Bx):AV->Option ((r:Ty)×List r.D)
 | .sl _ r x=>some ⟨r,x⟩
 | .ref b p=>
  match bx[b]? with
  |some (.sl _ r rows)=>Gu r rows p
  |_=>none
 | .win b p off n=>
  match bx[b]? with
  |some (.sl _ r rows)=>(Gu r rows p).map fun q=>⟨q.1,(q.2.drop off).take n⟩
  |_=>none
 |_=>none
def Mx(bx:List Bx)(t:Ty)(x:AV):Option t.D:=
 match x with
 | .v u y=>Q9 (β:=Ty.D) u t y
 | .nil=>match t with
  | .sl _=>some []
  |_=>none
 |x=>match t with
  | .sl r=>(NS bx x).bind fun q=>Q9 (β:=fun r=>List r.D) q.1 r q.2
  |_=>none
def H7(bx:List Bx):(r:Ty)->List AV->Option r.D
 | .unit,[]=>some ()
 | .cons c r,x::l=>(Mx bx c x).bind fun a=>(H7 bx r l).map fun b=>(a,b)
 |_,_=>none
def lenOf(bx:List Bx):AV->Option Nat
 | .nil=>some 0
 | .sl _ _ x=>some x.length
 | .ref b p=>
  match bx[b]? with
  |some (.sl _ r rows)=>(Gu r rows p).map fun q=>q.2.length
  |_=>none
 | .win b _ _ n=>
  match bx[b]? with
  |some (.sl _ _ _)=>some n
  |_=>none
 |_=>none
inductive AP where
 |v (t:Ty)
 |sl (s:Bool) (r:Ty)
 |nil
 |ref (i:Nat)
 |ptr (i j:Nat)
 |pT (r:Ty)
 |fn (f:Nat) (Ka:AAc)
 |ta (f:Nat) (rs:List Ty)
 |any
 |mH (i sz:Nat)
inductive XP where
 |c (p:AP)
 |agg (l:List AP)
 |row (r:Ty)
 |MA (l:List (AP ⊕ List AP))
inductive BP where
 |mem (l:List AP)
 |sl (d:Nat) (r:Ty)
 |gone
structure Bc where
 Dw:List (Nat×XP)
 GG:List BP
@[reducible] def bD:List Ty->Type
 |[]=>Unit
 |r::l=>r.D×bD l
def bD.mk:(l:List Ty)->bD l->List ((r:Ty)×r.D)
 |[],_=>[]
 |r::l,x=>⟨r,x.1⟩::bD.mk l x.2
@[reducible] def AP.V:AP->Type
 | .ta _ rs=>bD rs
 | .v t=>t.D
 | .sl _ r=>List r.D
 | .pT r=>r.D
 | .mH _ _=>Nat×Nat
 |_=>Unit
@[reducible] def ZL.V:List AP->Type
 |[]=>Unit
 |p::l=>p.V×ZL.V l
@[reducible] def Zi.V:List (AP ⊕ List AP)->Type
 |[]=>Unit
 | .inl p::l=>p.V×Zi.V l
 | .inr q::l=>ZL.V q×Zi.V l
@[reducible] def XP.V:XP->Type
 | .c p=>p.V
 | .agg l=>ZL.V l
 | .row r=>r.D
 | .MA l=>Zi.V l
@[reducible] def BP.V:BP->Type
 | .mem l=>ZL.V l
 | .sl _ r=>List r.D
 | .gone=>Unit
@[reducible] def GF.V:List (Nat×XP)->Type
 |[]=>Unit
 |(_,p)::l=>p.V×GF.V l
@[reducible] def I8.V:List BP->Type
 |[]=>Unit
 |p::l=>p.V×I8.V l
@[reducible] def Bc.V (s:Bc):Type:=GF.V s.Dw×I8.V s.GG
def AP.mk(m:Nat->Nat):(p:AP)->p.V->AV
 | .v t,x=> .v t x
 | .sl s r,x=> .sl s r x
 | .nil,_=> .nil
 | .ref i,_=> .ref (m i) []
 | .ptr i j,_=> .IX (m i) j
 | .pT r,x=> .Pv false r x 0
 | .fn f Ka,_=> .fn f (Ka.map m)
 | .ta f rs,x=> .ta f (bD.mk rs x)
 | .any,_=> .undef
 | .mH i sz,k=> .ref (m i) [⟨k.1,sz,k.2⟩]
def ZL.mk(m:Nat->Nat):(l:List AP)->ZL.V l->List AV
 |[],_=>[]
 |p::l,x=>p.mk m x.1::ZL.mk m l x.2
def lA:(r:Ty)->r.D->List AV
 | .unit,_=>[]
 | .cons c r,x=>(match c,x.1 with
  | .sl q,y=>AV.sl false q y
  |c,y=> .v c y)::lA r x.2
 | .sl q,x=>[.sl false q x]
 | .int k,x=>[.v (.int k) x]
 | .bool,x=>[.v .bool x]
 | .str,x=>[.v .str x]
def Zi.mk(m:Nat->Nat):(l:List (AP ⊕ List AP))->Zi.V l->List (AV ⊕ List AV)
 |[],_=>[]
 | .inl p::l,x=> .inl (p.mk m x.1)::Zi.mk m l x.2
 | .inr q::l,x=> .inr (ZL.mk m q x.1)::Zi.mk m l x.2
def XP.mk(m:Nat->Nat):(p:XP)->p.V->XV
 | .c p,x=> .c (p.mk m x)
 | .agg l,x=> .agg (ZL.mk m l x)
 | .row r,x=> .agg (lA r x)
 | .MA l,x=> .MA (Zi.mk m l x)
def BP.mk(m:Nat->Nat):(p:BP)->p.V->Bx
 | .mem l,x=> .mem (ZL.mk m l x)
 | .sl d r,x=> .sl d r x
 | .gone,_=> .dead
def GF.mk(m:Nat->Nat):(l:List (Nat×XP))->GF.V l->List XV->List XV
 |[],_,tm=>tm
 |(i,p)::l,x,tm=>GF.mk m l x.2 (tm.set i (p.mk m x.1))
def I8.mk(m:Nat->Nat):(l:List BP)->I8.V l->List Bx
 |[],_=>[]
 |p::l,x=>p.mk m x.1::I8.mk m l x.2
def Bc.st(s:Bc)(n:Nat)(x:s.V):St:=
 { tm:=GF.mk id s.Dw x.1 (List.replicate n (.c .undef)),bx:=I8.mk id s.GG x.2 }
abbrev P5:=List (Option Nat)
def P5.put(m:P5)(i b:Nat):Option P5:=
 match m[i]? with
 |some none=>if m.contains (some b)then none else some (m.set i (some b))
 |some (some b')=>if b' =b then some m else none
 |none=>none
def dP:P5->List Nat->List Nat->Option P5
 |m,[],[]=>some m
 |m,i::is,b::bs=>(m.put i b).bind fun m=>dP m is bs
 |_,_,_=>none
def AP.OA(N:Nat)(m:P5):AP->AV->Option P5
 | .ref i,.ref b []=>m.put i b
 | .ref i,.nil=>m.put i (N+i)
 | .ref _,_=>none
 | .mH i sz,.ref b [s]=>if s.sz=sz then m.put i b else none
 | .mH _ _,_=>none
 | .ptr i j,.IX b j' =>if j=j' then m.put i b else none
 | .ptr _ _,_=>none
 | .fn f Ka,.fn g bs=>if f=g then dP m Ka bs else none
 | .fn _ _,_=>none
 | .nil,.nil=>some m
 | .nil,_=>none
 |_,_=>some m
def ZL.OA(N:Nat):P5->List AP->List AV->Option P5
 |m,[],[]=>some m
 |m,p::l,x::xs=>(p.OA N m x).bind fun m=>ZL.OA N m l xs
 |_,_,_=>none
def Zi.OA(N:Nat):P5->List (AP ⊕ List AP)->List (AV ⊕ List AV)->Option P5
 |m,[],[]=>some m
 |m,.inl p::l,.inl x::xs=>(p.OA N m x).bind fun m=>Zi.OA N m l xs
 |m,.inr p::l,.inr x::xs=>(ZL.OA N m p x).bind fun m=>Zi.OA N m l xs
 |_,_,_=>none
def XP.OA(N:Nat)(m:P5):XP->XV->Option P5
 | .c p,.c x=>p.OA N m x
 | .agg l,.agg xs=>ZL.OA N m l xs
 | .row _,.agg _=>some m
 | .MA l,.MA xs=>Zi.OA N m l xs
 |_,_=>none
def GF.OA(N:Nat)(tm:List XV):P5->List (Nat×XP)->Option P5
 |m,[]=>some m
 |m,(i,p)::l=>
  match tm[i]? with
  |some x=>(p.OA N m x).bind fun m=>GF.OA N tm m l
  |none=>none
def I8.OA(N:Nat)(bx:List Bx):Nat->P5->List BP->Option P5
 |_,m,[]=>some m
 |i,m,.mem l::ps=>
  match m[i]? with
  |some (some b)=>
   match bx[b]? with
   |some (.mem cs)=>(ZL.OA N m l cs).bind fun m=>I8.OA N bx (i+1) m ps
   |_=>none
  |_=>none
 |i,m,.sl _ _::ps=>
  match m[i]? with
  |some (some _)=>I8.OA N bx (i+1) m ps
  |_=>none
 |i,m,.gone::ps=>I8.OA N bx (i+1) m ps
def Cx(bx:List Bx):P5->List Bx
 |[]=>bx
 |some b::m=>Cx (bx.set b .dead) m
 |none::m=>Cx bx m
def bD.rS:(l:List Ty)->List ((r:Ty)×r.D)->Option (bD l)
 |[],[]=>some ()
 |r::l,q::qs=>(Q9 (β:=Ty.D) q.1 r q.2).bind fun a=>(bD.rS l qs).map fun b=>(a,b)
 |_,_=>none
def bD.sO(bx:List Bx):(l:List Ty)->List Nat->Option (bD l)
 |[],[]=>some ()
 |r::l,b::bs=>(match bx[b]? with
  |some (.mem cs)=>H7 bx r cs
  |_=>none).bind fun a=>(bD.sO bx l bs).map fun c=>(a,c)
 |_,_=>none
def AP.get(bx:List Bx):(p:AP)->AV->Option p.V
 | .ta f rs,x=>match x with
  | .ta g rows=>if f=g then bD.rS rs rows else none
  | .fn g bs=>if f=g then bD.sO bx rs bs else none
  |_=>none
 | .v t,x=>if t.scalar then Mx bx t x else none
 | .sl false r,x=>Mx bx (.sl r) x
 | .sl true r,x=>match x with
  | .sl true q y=>Q9 (β:=fun r=>List r.D) q r y
  | .nil=>some []
  |_=>none
 | .pT r,x=>match x with
  | .Pv _ q y 0=>Q9 (β:=Ty.D) q r y
  | .IX b 0=>match bx[b]? with
   |some (.mem cs)=>H7 bx r cs
   |_=>none
  | .Js b p i sz 0=>match bx[b]? with
   |some (.sl _ q rows)=>(Gu q rows p).bind fun s=>if sz=s.1.n then Q9 (β:=Ty.D) s.1 r (rowAt s.1 s.2 i)else none
   |_=>none
  |_=>none
 | .nil,_=>some ()
 | .ref _,_=>some ()
 | .ptr _ _,_=>some ()
 | .fn _ _,_=>some ()
 | .any,_=>some ()
 | .mH _ _,x=>match x with
  | .ref _ [s]=>some (s.i,s.j)
  |_=>none
def ZL.get(bx:List Bx):(l:List AP)->List AV->Option (ZL.V l)
 |[],[]=>some ()
 |p::l,x::xs=>(p.get bx x).bind fun a=>(ZL.get bx l xs).map fun b=>(a,b)
 |_,_=>none
def Zi.get(bx:List Bx):(l:List (AP ⊕ List AP))->List (AV ⊕ List AV)->Option (Zi.V l)
 |[],[]=>some ()
 | .inl p::l,.inl x::xs=>(p.get bx x).bind fun a=>(Zi.get bx l xs).map fun b=>(a,b)
 | .inr p::l,.inr x::xs=>(ZL.get bx p x).bind fun a=>(Zi.get bx l xs).map fun b=>(a,b)
 |_,_=>none
def XP.get(bx:List Bx):(p:XP)->XV->Option p.V
 | .c p,.c x=>p.get bx x
 | .agg l,.agg xs=>ZL.get bx l xs
 | .row r,.agg xs=>H7 bx r xs
 | .MA l,.MA xs=>Zi.get bx l xs
 |_,_=>none
def GF.get(bx:List Bx)(tm:List XV):(l:List (Nat×XP))->Option (GF.V l)
 |[]=>some ()
 |(i,p)::l=>
  match tm[i]? with
  |some x=>(p.get bx x).bind fun a=>(GF.get bx tm l).map fun b=>(a,b)
  |none=>none
def I8.get(bx bk:List Bx):(m:P5)->(l:List BP)->Option (I8.V l)
 |_,[]=>some ()
 |some b::m,.mem l::ps=>
  match bx[b]? with
  |some (.mem cs)=>(ZL.get bk l cs).bind fun a=>(I8.get bx bk m ps).map fun c=>(a,c)
  |_=>none
 |some b::m,.sl d r::ps=>
  match bx[b]? with
  |some (.sl d' q rows)=>if 1<=d/\d<=d' then(Q9 (β:=fun r=>List r.D) q r rows).bind fun a=>(I8.get bx bk m ps).map fun c=>(a,c)else none
  |_=>none
 |_::m,.gone::ps=>(I8.get bx bk m ps).map fun c=>((),c)
 |_,_=>none
def Bc.fit(s:Bc)(N:Nat)(m0:P5)(tm:List XV)(bx:List Bx):Option (s.V×P5):=
 (GF.OA N tm m0 s.Dw).bind fun m=>(I8.OA N bx 0 m s.GG).bind fun m=>
  let bk:=Cx bx m
  (GF.get bk tm s.Dw).bind fun a=>(I8.get bx bk m s.GG).map fun c=>((a,c),m)
def BP.opened:BP->Bx
 | .sl d r=> .sl (d+1) r []
 |_=> .dead
def Bc.opens(s:Bc)(bx:List Bx):List Bx:=bx++s.GG.map BP.opened
def Bc.m0(s:Bc):P5:=List.replicate s.GG.length none
structure Qv where
 ins:Bc
 outs:Bc
 g:ins.V->Option outs.V
def Z1(m:P5)(n:Nat)(i:Nat):Nat:=
 match m[i]? with
 |some (some b)=>b
 |_=>n+(i-m.length)
def bj(Jl:Nat->Nat):Nat->(l:List BP)->I8.V l->List Bx->List Bx
 |_,[],_,bx=>bx
 |i,p::l,x,bx=>bj Jl (i+1) l x.2 (if Jl i<bx.length then bx.set (Jl i) (p.mk Jl x.1)else bx++[p.mk Jl x.1])
def gT:(l:List (Nat×XP))->GF.V l->(Nat->Nat)->XV
 |(_,p)::_,x,Jl=>p.mk Jl x.1
 |[],_,_=> .c .undef
def Cm:Nat:=2^36
section ops
variable{Y:Type}
abbrev K(Y:Type):=XV->St->Option Y
def St.new(σ:St)(b:Bx):St:={ σ with bx:=σ.bx++[b] }
def AF5(x:Bool)(a b:XV)(σ:St)(k:K Y):Option Y:=cond x (k a σ) (k b σ)
def iM(op:BinOp)(κ:IntKind)(a b:Int)(k:AV->Option Y):Option Y:=
 match op with
 | .add=>k (.v (.int κ) (κ.wrap (a+b)))
 | .sub=>k (.v (.int κ) (κ.wrap (a-b)))
 | .mul=>k (.v (.int κ) (κ.wrap (a*b)))
 | .quo=>if b=0 then none else k (.v (.int κ) (κ.wrap (a.tdiv b)))
 | .rem=>if b=0 then none else k (.v (.int κ) (a.tmod b))
 | .and=>k (.v (.int κ) (κ.wrap (BitVec.ofInt κ.bits a &&& BitVec.ofInt κ.bits b).toNat))
 | .or=>k (.v (.int κ) (κ.wrap (BitVec.ofInt κ.bits a ||| BitVec.ofInt κ.bits b).toNat))
 | .xor=>k (.v (.int κ) (κ.wrap (BitVec.ofInt κ.bits a ^^^ BitVec.ofInt κ.bits b).toNat))
 | .andNot=>k (.v (.int κ) (κ.wrap (BitVec.ofInt κ.bits a &&& ~~~BitVec.ofInt κ.bits b).toNat))
 | .eql=>k (.v .bool (a==b))
 | .neq=>k (.v .bool (a !=b))
 | .lss=>k (.v .bool (decide (a<b)))
 | .leq=>k (.v .bool (decide (a<=b)))
 | .gtr=>k (.v .bool (decide (a>b)))
 | .geq=>k (.v .bool (decide (a>=b)))
 |_=>none
def Zz(op:BinOp)(κ:IntKind)(a b:Int)(k:AV->Option Y):Option Y:=
 if b<0 then none else
 match op with
 | .shl=>k (.v (.int κ) (κ.wrap (a*2^min b.toNat κ.bits)))
 | .shr=>k (.v (.int κ) (a.fdiv (2^min b.toNat κ.bits)))
 |_=>none
def lI(op:BinOp)(a b:AAZ)(k:AV->Option Y):Option Y:=
 match op with
 | .add=>if a.length+b.length<=Cm then k (.v .str (a++b))else none
 | .eql=>k (.v .bool (a==b))
 | .neq=>k (.v .bool (!(a==b)))
 | .lss=>k (.v .bool (Op.bytesLess a b))
 | .leq=>k (.v .bool (Op.bytesLess a b||a==b))
 | .gtr=>k (.v .bool (!(Op.bytesLess a b||a==b)))
 | .geq=>k (.v .bool (!Op.bytesLess a b))
 |_=>none
def rK:TD->AV->AV->Option Bool
 | .int _,.v (.int j) a,.v (.int k) b=>if j=k then some (a==b)else none
 | .bool,.v .bool a,.v .bool b=>some (a==b)
 | .str,.v .str a,.v .str b=>some (a==b)
 |_,_,_=>none
def LC(T:JR):Nat->List ACk->List AV->List AV->Option Bool
 |_,[],[],[]=>some true
 |i,(o,t)::fs,x::l,z::m=>
  if o=i then
   match T.get t with
   |some ti=>match rK ti.desc x z with
    |some p=>(LC T (i+1) fs l m).map fun r=>p&&r
    |none=>none
   |none=>none
  else none
 |_,_,_,_=>none
def JR.fields(T:JR)(t:Nat):Option (List ACk):=
 match(T.get t).map TI.desc with
 |some (.st fs)=>some fs
 |_=>none
def yQ(T:JR)(t:Nat)(op:BinOp)(a b:XV)(k:AV->Option Y):Option Y:=
 match a,b with
 | .c (.v (.int j) x),.c (.v (.int j') y)=>
  match op with
  | .shl| .shr=>Zz op j x y k
  |_=>if j=j' then iM op j x y k else none
 | .c (.v .str x),.c (.v .str y)=>lI op x y k
 | .c (.v .bool x),.c (.v .bool y)=>
  match T.get t with
  |some ti=>match ti.desc with
   | .bool=>match op with
    | .eql=>k (.v .bool (x==y))
    | .neq=>k (.v .bool (!(x==y)))
    |_=>none
   |_=>none
  |none=>none
 | .agg l,.agg m=>
  match op,(T.fields t).bind fun fs=>LC T 0 fs l m with
  | .eql,some r=>k (.v .bool r)
  | .neq,some r=>k (.v .bool (!r))
  |_,_=>none
 |_,_=>none
def unX(op:UnOp)(a:XV)(k:AV->Option Y):Option Y:=
 match op,a with
 | .not,.c (.v .bool x)=>k (.v .bool (!x))
 | .neg,.c (.v (.int j) x)=>k (.v (.int j) (j.wrap (0-x)))
 |_,_=>none
def AB9(d b:Nat)(p:List Xv)(s:Xv):((t:Ty)×t.D)->AV
 |⟨.sl r,x⟩=>if d<=1 then .sl true r x else .ref b (p++[s])
 |⟨t,x⟩=>if t.scalar then .v t x else .undef
def ABh(s:Bool):((t:Ty)×t.D)->AV
 |⟨.sl r,x⟩=> .sl s r x
 |⟨t,x⟩=>if t.scalar then .v t x else .undef
def fU(f:Nat->Option AV):Nat->Nat->Option (List AV)
 |_,0=>some []
 |j,n+1=>(f j).bind fun x=>(fU f (j+1) n).map fun l=>x::l
def Jk(bx:List Bx):AV->Nat->Option AV
 | .IX b j,i=>
  match bx[b]? with
  |some (.mem cs)=>cs[j+i]?
  |_=>none
 | .Js b p r sz j,i=>
  match bx[b]? with
  |some (.sl d q rows)=>if p.length<d then(Gu q rows p).bind fun s=>if sz=s.1.n then(BS s.1 (j+i) (rowAt s.1 s.2 r)).map (AB9 (d-p.length) b p ⟨r,sz,j+i⟩)else none else none
  |_=>none
 | .Pv s r x j,i=>(BS r (j+i) x).map (ABh s)
 |_,_=>none
def oh(T:JR)(t:Nat)(σ:St)(a:XV):Option XV:=
 match a,T.get t with
 | .c a,some ti=>if ti.size=0 then none else if ti.desc.agg then(fU (Jk σ.bx a) 0 ti.size).map .agg else(Jk σ.bx a 0).map .c
 |_,_=>none
def fT(d:Nat)(t:Ty)(x:AV)(bx:List Bx):Option (t.D×List Bx×Nat):=
 match x with
 | .v u y=>(Q9 (β:=Ty.D) u t y).map fun y=>(y,bx,d)
 | .nil=>match t with
  | .sl _=>some ([],bx,d)
  |_=>none
 | .sl true r y=>match t with
  | .sl q=>(Q9 (β:=fun r=>List r.D) r q y).map fun y=>(y,bx,1)
  |_=>none
 | .ref b []=>match t with
  | .sl q=>
   match bx[b]? with
   |some (.sl d' r y)=>(Q9 (β:=fun r=>List r.D) r q y).map fun y=>(y,bx.set b .dead,min d (d'+1))
   |_=>none
  |_=>none
 | .win b [] off n=>match t with
  | .sl q=>
   match bx[b]? with
   |some (.sl d' r y)=>(Q9 (β:=fun r=>List r.D) r q ((y.drop off).take n)).map fun y=>(y,bx.set b .dead,min d (d'+1))
   |_=>none
  |_=>none
 |_=>none
def cellsIn(d:Nat):(r:Ty)->List AV->List Bx->Option (r.D×List Bx×Nat)
 | .unit,[],bx=>some ((),bx,d)
 | .cons c r,x::l,bx=>(fT d c x bx).bind fun a=>(cellsIn a.2.2 r l a.2.1).map fun b=>((a.1,b.1),b.2)
 |_,_,_=>none
def AGs(d:Nat)(r:Ty)(x:XV)(bx:List Bx):Option (r.D×List Bx×Nat):=
 match x with
 | .agg l=>cellsIn d r l bx
 | .c x=>fT d r x bx
 |_=>none
def Jw(b:Nat):AV->AV
 | .ref b' (s::p)=>if b' =b then .undef else .ref b' (s::p)
 | .win b' (s::p) i n=>if b' =b then .undef else .win b' (s::p) i n
 | .Js b' (s::p) i sz j=>if b' =b then .undef else .Js b' (s::p) i sz j
 |x=>x
def xA(b:Nat):XV->XV
 | .c x=> .c (Jw b x)
 | .agg l=> .agg (l.map (Jw b))
 | .MA l=> .MA (l.map fun| .inl x=> .inl (Jw b x)| .inr q=> .inr (q.map (Jw b)))
def ACy(b:Nat):Bx->Bx
 | .mem cs=> .mem (cs.map (Jw b))
 |x=>x
def St.ACL(b:Nat)(σ:St):St:={ tm:=σ.tm.map (xA b),bx:=σ.bx.map (ACy b) }
def YH(cs:List AV):Nat->List AV->Option (List AV)
 |_,[]=>some cs
 |j,x::l=>if j<cs.length then YH (cs.set j x) (j+1) l else none
def qv(d:Nat)(r:Ty)(old:r.D)(j:Nat)(x:XV)(bx:List Bx):Option (r.D×List Bx×Nat):=
 match x with
 | .agg l=>if j=0 then cellsIn d r l bx else none
 | .c x=>
  match BS r j old with
  |some ⟨t,_⟩=>(fT d t x bx).bind fun a=>(Dz r j old t a.1).map fun row=>(row,a.2)
  |none=>none
 |_=>none
def XV.plain:XV->Bool
 | .c (.v _ _)=>true
 |_=>false
def je(σ:St)(a:XV)(x:XV):Option St:=
 match a with
 | .c (.IX b j)=>
  match σ.bx[b]? with
  |some (.mem cs)=>(YH cs j x.cells).map fun cs=>{ σ with bx:=σ.bx.set b (.mem cs) }
  |_=>none
 | .c (.Js b p i sz j)=>
  match σ.bx[b]? with
  |some (.sl d r rows)=>if p.length<d then
   (Gu r rows p).bind fun s=>if sz=s.1.n then(qv (d-p.length) s.1 (rowAt s.1 s.2 i) j x (σ.bx.set b .dead)).bind fun w=>
    (qw r rows p s.1 (s.2.set i w.1)).map fun rows=>
     let σ':St:={ σ with bx:=w.2.1.set b (.sl (w.2.2+p.length) r rows) }
     if x.plain then σ' else σ'.ACL b
    else none
   else none
  |_=>none
 |_=>none
def bM(σ:St)(a x:XV):Option (St×XV):=
 match a,x with
 | .c (.Js b _ _ _ _),.c (.win b' (s::p') off n)=>
  if b' =b then
   match σ.bx[b]? with
   |some (.sl d r rows)=>(Gu r rows (s::p')).map fun q=>({ σ with bx:=σ.bx.set b (.sl (min d (p'.length+1)) r rows) },.c (.sl true q.1 ((q.2.drop off).take n)))
   |_=>none
  else none
 |_,_=>some (σ,x)
def Lv(σ:St)(a x:XV):Option St:=(bM σ a x).bind fun q=>je q.1 a q.2
def qL(bx:List Bx)(x:AV):Option ((r:Ty)×(List r.D×List Bx×Nat)):=
 match x with
 | .v .str s=>some ⟨.int .u8,s.map (fun c=>(c.toNat:Int)),bx,9⟩
 | .sl s r rows=>if r.flat then some ⟨r,rows,bx,9⟩else if s then some ⟨r,rows,bx,1⟩else none
 | .ref b []=>
  match bx[b]? with
  |some (.sl d r rows)=>if r.flat then some ⟨r,rows,bx,9⟩else some ⟨r,rows,bx.set b .dead,d⟩
  |_=>none
 | .ref b p=>
  match bx[b]? with
  |some (.sl _ r rows)=>(Gu r rows p).bind fun q=>if q.1.flat then some ⟨q.1,q.2,bx,9⟩else none
  |_=>none
 | .win b p off n=>
  match bx[b]? with
  |some (.sl _ r rows)=>(Gu r rows p).bind fun q=>if q.1.flat then some ⟨q.1,(q.2.drop off).take n,bx,9⟩else none
  |_=>none
 |_=>none
def qa(bx:List Bx)(x:AV):Option ((r:Ty)×(List r.D×List Bx×Nat)):=
 match x with
 | .ref b []=>
  match bx[b]? with
  |some (.sl d r rows)=>some ⟨r,rows,bx.set b .dead,d⟩
  |_=>none
 | .win b [] off n=>
  match bx[b]? with
  |some (.sl d r rows)=>some ⟨r,(rows.drop off).take n,bx.set b .dead,d⟩
  |_=>none
 |_=>none
def JR.elem(T:JR)(t:Nat):Option TI:=
 match(T.get t).map TI.desc with
 |some (.sl e)=>T.get e
 |_=>none
def JR.NP(T:JR)(t:Nat)(r:Ty):Bool:=
 match T.elem t with
 |some ti=>decide (ti.size=r.n)&&decide (ti.bytes<=512)&&decide (ti.row=some r)
 |none=>false
def JR.isStr(T:JR)(t:Nat):Bool:=
 match(T.get t).map TI.desc with
 |some .str=>true
 |_=>false
def JR.AIp(T:JR)(t:Nat):Bool:=
 match(T.get t).map TI.desc with
 |some (.sl _)=>true
 |_=>false
def gP(T:JR)(ts:Array TypeId)(σ:St)(a x:XV)(k:K Y):Option Y:=
 match ts[0]?,ts[1]? with
 |some t,some u=>
  if T.AIp u||T.isStr u then
   match a,x with
   | .c .nil,.c y=>
    (qL σ.bx y).bind fun s=>if T.NP t s.1 then
     if s.2.1.length<=Cm then k (.c (.ref s.2.2.1.length [])) { σ with bx:=s.2.2.1++[.sl s.2.2.2 s.1 s.2.1] }else none
     else none
   | .c a,.c y=>
    (qa σ.bx a).bind fun d=>if T.NP t d.1 then(qL d.2.2.1 y).bind fun s=>
     (Q9 (β:=fun r=>List r.D) s.1 d.1 s.2.1).bind fun rows=>
      if d.2.1.length+rows.length<=Cm then
       k (.c (.ref s.2.2.1.length [])) { σ with bx:=s.2.2.1++[.sl (min d.2.2.2 s.2.2.2) d.1 (d.2.1++rows)] }
      else none
     else none
   |_,_=>none
  else none
 |_,_=>none
def nA(T:JR)(ts:Array TypeId)(σ:St)(x:XV)(k:K Y):Option Y:=
 match ts[0]?,x with
 |some t,.c (.win b [] off n)=>
  match σ.bx[b]? with
  |some (.sl d r rows)=>if T.NP t r&&(r.flat&&decide (0<r.n))then k (.c .undef) { σ with bx:=σ.bx.set b (.sl d r ((rows.take off++List.replicate n r.z)++rows.drop (off+n))) }else none
  |_=>none
 |_,_=>none
def fo:XV->Option Int
 | .c (.v (.int _) n)=>some n
 |_=>none
def O9(len:Nat)(lo hi:Option XV)(k:Nat->Nat->Option Y):Option Y:=
 let h:Option Int:=match hi with
  |none=>some (len:Int)
  |some x=>fo x
 let l:Option Int:=match lo with
  |none=>some 0
  |some x=>fo x
 match l,h with
 |some l,some h=>if 0<=l/\l<=h/\h<=(len:Int)then k l.toNat h.toNat else none
 |_,_=>none
def nu(T:JR)(t:Nat)(σ:St)(x:XV)(lo hi:Option XV)(k:K Y):Option Y:=
 match x with
 | .c (.v .str s)=>if T.isStr t then O9 s.length lo hi fun l h=>k (.c (.v .str ((s.drop l).take (h-l)))) σ else none
 | .c (.sl s r rows)=>if T.NP t r then O9 rows.length lo hi fun l h=>k (.c (.sl s r ((rows.drop l).take (h-l)))) σ else none
 | .c (.ref b p)=>
  match NS σ.bx (.ref b p)with
  |some q=>if T.NP t q.1 then O9 q.2.length lo hi fun l h=>k (.c (.win b p l (h-l))) σ else none
  |none=>none
 |_=>none
def mu(σ:St)(T:JR)(t:Nat)(x i:XV)(k:K Y):Option Y:=
 match x,fo i with
 | .c (.sl s r rows),some i=>if T.NP t r then(if 0<=i/\i<(rows.length:Int)then k (.c (.Pv s r (rowAt r rows i.toNat) 0)) σ else none)else none
 | .c (.ref b p),some i=>
  match NS σ.bx (.ref b p)with
  |some q=>if T.NP t q.1 then(if 0<=i/\i<(q.2.length:Int)then k (.c (.Js b p i.toNat q.1.n 0)) σ else none)else none
  |none=>none
 | .c (.win b p off n),some i=>
  match NS σ.bx (.ref b p)with
  |some q=>if T.NP t q.1 then(if 0<=i/\i<(n:Int)then k (.c (.Js b p (off+i.toNat) q.1.n 0)) σ else none)else none
  |none=>none
 |_,_=>none
def wO(T:JR)(t:Nat)(x:XV)(f:Nat):Option XV:=
 match T.get t with
 |some ⟨_,_,.st fs,_⟩=>
  match fs[f]? with
  |some (o,_)=>match x with
   | .c (.IX b j)=>some (.c (.IX b (j+o)))
   | .c (.Js b p i sz j)=>some (.c (.Js b p i sz (j+o)))
   | .c (.Pv s r y j)=>some (.c (.Pv s r y (j+o)))
   |_=>none
  |none=>none
 |_=>none
def AHC(T:JR)(t:Nat)(x:XV)(f:Nat):Option XV:=
 match T.get t,x with
 |some ⟨_,_,.st fs,_⟩,.agg l=>
  match fs[f]? with
  |some (o,u)=>
   match T.get u with
   |some ti=>if ti.desc.agg then some (.agg ((l.drop o).take ti.size))else(l[o]?).map .c
   |none=>none
  |none=>none
 |_,_=>none
def vE(T:JR)(src dst:Nat)(σ:St)(x:XV)(k:K Y):Option Y:=
 match(T.get src).map TI.desc,(T.get dst).map TI.desc,x with
 |some (.int _),some (.int κ),.c (.v (.int _) n)=>k (.c (.v (.int κ) (κ.wrap n))) σ
 |some .str,some .str,.c (.v .str s)=>k (.c (.v .str s)) σ
 |some .str,some (.sl e),.c (.v .str s)=>
  match(T.get e).map TI.desc with
  |some (.int .u8)=>if s.length<=Cm then k (.c (.ref σ.bx.length [])) (σ.new (.sl 9 (.int .u8) (s.map fun c=>(c.toNat:Int))))else none
  |_=>none
 |some (.sl e),some .str,.c x=>
  match(T.get e).map TI.desc,Mx σ.bx (.sl (.int .u8)) x with
  |some (.int .u8),some l=>k (.c (.v .str (l.map fun n:Int=>UInt8.ofNat n.toNat))) σ
  |_,_=>none
 |_,_,_=>none
def vT(T:JR)(t:Nat)(σ:St)(l c:XV)(k:K Y):Option Y:=
 match(T.get t).map TI.desc,fo l,fo c with
 |some (.sl e),some n,some m=>
  match JR.kp T e with
  |some r=>if T.NP t r then(if 0<=n/\n<=m/\m<=(Cm:Int)then k (.c (.ref σ.bx.length [])) (σ.new (.sl 9 r (List.replicate n.toNat r.z)))else none)else none
  |none=>none
 |_,_,_=>none
def jO(T:JR)(fs:List ACk):List AV->List (Nat×XV)->Option (List AV)
 |cs,[]=>some cs
 |cs,(i,x)::l=>
  match fs[i]? with
  |some (o,u)=>
   match T.get u with
   |some ti=>if x.cells.length=ti.size/\ti.size≠0/\x.cells.all AV.known=true then(YH cs o x.cells).bind fun cs=>jO T fs cs l else none
   |none=>none
  |none=>none
def Z9(r:Ty):Nat->Nat->List (Nat×XV)->List Bx->Nat->Option (List r.D×List Bx×Nat)
 |_,0,[],bx,d=>some ([],bx,d)
 |i,n+1,(j,x)::l,bx,d=>
  if i=j then(AGs d r x bx).bind fun a=>(Z9 r (i+1) n l a.2.1 a.2.2).map fun b=>(a.1::b.1,b.2)else none
 |i,n+1,[],bx,d=>(Z9 r (i+1) n [] bx d).map fun b=>(r.z::b.1,b.2)
 |_,0,_::_,_,_=>none
def Rr(T:JR)(t n:Nat)(parts:List (Nat×XV))(σ:St)(k:K Y):Option Y:=
 match(T.get t).map TI.desc with
 |some (.sl e)=>
  match JR.kp T e with
  |some r=>if T.NP t r&&decide (n<=1024)&&decide (r.n<=1024)then(Z9 r 0 n parts σ.bx 9).bind fun a=>k (.c (.ref a.2.1.length [])) { σ with bx:=a.2.1++[.sl a.2.2 r a.1] }else none
  |none=>none
 |_=>none
def Xs(T:JR)(t:Nat)(σ:St)(x i:XV)(k:K Y):Option Y:=
 match x,fo i with
 | .c (.v .str s),some i=>if T.isStr t then if 0<=i/\i<(s.length:Int)then k (.c (.v (.int .u8) ((s.getD i.toNat 0).toNat:Int))) σ else none else none
 |_,_=>none
def sC(x:XV)(i:Nat):Option XV:=
 match x with
 | .MA l=>match l[i]? with
  |some (.inl a)=>some (.c a)
  |some (.inr q)=>some (.agg q)
  |none=>none
 |_=>none
def GZ(m:P5):AV->AV
 | .ref b (s::p)=>if m.contains (some b)then .undef else .ref b (s::p)
 | .win b (s::p) i n=>if m.contains (some b)then .undef else .win b (s::p) i n
 | .Js b (s::p) i sz j=>if m.contains (some b)then .undef else .Js b (s::p) i sz j
 |x=>x
def Vn(m:P5):XV->XV
 | .c x=> .c (GZ m x)
 | .agg l=> .agg (l.map (GZ m))
 | .MA l=> .MA (l.map fun| .inl x=> .inl (GZ m x)| .inr q=> .inr (q.map (GZ m)))
def AFo(m:P5):Bx->Bx
 | .mem cs=> .mem (cs.map (GZ m))
 |x=>x
def St.aq(m:P5)(σ:St):St:=
 match m with
 |[]=>σ
 |_::_=>{ tm:=σ.tm.map (Vn m),bx:=σ.bx.map (AFo m) }
def oH(c:Qv)(args:List XV)(σ:St)(k:K Y):Option Y:=
 if args.length=c.ins.Dw.length then
  match c.ins.fit σ.bx.length c.ins.m0 args (c.ins.opens σ.bx)with
  |some (v,m)=>(c.g v).bind fun u=>
   let Jl:=Z1 m (c.ins.opens σ.bx).length
   let σ1:=({ σ with bx:=c.ins.opens σ.bx }:St).aq m
   k (gT c.outs.Dw u.1 Jl) { σ1 with bx:=bj Jl 0 c.outs.GG u.2 (Cx σ1.bx m) }
  |none=>none
 else none
def cj(σ:St)(x:XV)(k:K Y):Option Y:=
 match x with
 | .c (.win b [] off n)=>
  (qa σ.bx (.win b [] off n)).bind fun s=>k (.c (.ref s.2.2.1.length [])) { σ with bx:=s.2.2.1++[.sl s.2.2.2 s.1 s.2.1] }
 |x=>k x σ
def zE(l:List XV):Option AAc:=
 match l with
 |[]=>some []
 | .c (.IX b 0)::l=>(zE l).map fun r=>b::r
 |_=>none
def wR(big:Bool)(a b:XV)(k:AV->Option Y):Option Y:=
 match a,b with
 | .c (.v (.int j) x),.c (.v (.int j') y)=>
  if j=j' then(if big then k (.v (.int j) (if y>x then y else x))else k (.v (.int j) (if y<x then y else x)))else none
 |_,_=>none
def ZC(T:JR)(Γ:Nat->Option Qv)(o:Oper)(σ:St)(k:K Y):Option Y:=
 match o.op with
 | .move x=>k (σ.ev x) σ
 | .assign x=>cj σ (σ.ev x) k
 | .pick c a b=>match σ.ev c with
  | .c (.v .bool x)=>AF5 x (σ.ev a) (σ.ev b) σ k
  |_=>none
 | .alloc t=>match JR.kp T t with
  |some r=>k (.c (.IX σ.bx.length 0)) (σ.new (.mem (cg r)))
  |none=>none
 | .box t x=>match T.get t with
  |some ti=>if(σ.ev x).cells.length=ti.size/\ti.size≠0/\(σ.ev x).cells.all AV.known=true then k (.c (.IX σ.bx.length 0)) (σ.new (.mem (σ.ev x).cells))else none
  |none=>none
 | .build t parts=>match T.get t,JR.kp T t with
  |some ⟨_,_,.st fs,_⟩,some r=>match jO T fs (cg r) (parts.toList.map fun q=>(q.1,σ.ev q.2))with
   |some cs=>k (.agg cs) σ
   |none=>none
  |_,_=>none
 | .buildSlice t n parts=>Rr T t n (parts.toList.map fun q=>(q.1,σ.ev q.2)) σ k
 | .load t a=>match oh T t σ (σ.ev a)with
  |some x=>k x σ
  |none=>none
 | .store t a x=>match T.get t with
  |some ti=>if(σ.ev x).cells.length=ti.size/\ti.size≠0/\(σ.ev x).cells.all AV.known=true then(match Lv σ (σ.ev a) (σ.ev x)with
   |some σ=>k (.c .undef) σ
   |none=>none)else none
  |none=>none
 | .nilCheck x=>match σ.ev x with
  | .c (.IX b j)=>k (.c (.IX b j)) σ
  | .c (.Js b p i sz j)=>k (.c (.Js b p i sz j)) σ
  | .c (.Pv s r y j)=>k (.c (.Pv s r y j)) σ
  | .c (.fn f Ka)=>k (.c (.fn f Ka)) σ
  |_=>none
 | .binOp op t x y _=>yQ T t op (σ.ev x) (σ.ev y) fun a=>k (.c a) σ
 | .unOp op _ x=>unX op (σ.ev x) fun a=>k (.c a) σ
 | .convert s d x=>vE T s d σ (σ.ev x) k
 | .makeFunc (.func f) first Ka=>if first.size=0 then(match zE (Ka.toList.map σ.ev)with
  |some bs=>k (.c (.fn f bs)) σ
  |none=>none)else none
 | .makeSlice t l c=>vT T t σ (σ.ev l) (σ.ev c) k
 | .slice t x lo hi none=>nu T t σ (σ.ev x) (lo.map σ.ev) (hi.map σ.ev) k
 | .fieldAddr t x f=>match wO T t (σ.ev x) f with
  |some y=>k y σ
  |none=>none
 | .field t x f=>match AHC T t (σ.ev x) f with
  |some y=>k y σ
  |none=>none
 | .indexAddr t x i=>mu σ T t (σ.ev x) (σ.ev i) k
 | .index t x i=>Xs T t σ (σ.ev x) (σ.ev i) k
 | .extract x i=>match sC (σ.ev x) i with
  |some y=>k y σ
  |none=>none
 | .call { callee:= .value f,args,.. }=>match σ.ev f with
  | .c (.fn f Ka)=>match Γ f with
   |some c=>oH c (args.toList.map σ.ev++Ka.map fun b=> .c (.IX b 0)) σ k
   |none=>none
  | .c (.ta f rows)=>match Γ f with
   |some c=>oH c (args.toList.map σ.ev++rows.map fun q=> .c (.Pv false q.1 q.2 0)) σ k
   |none=>none
  |_=>none
 | .call { callee:= .builtin .len,args,argTypes }=>match args.toList.map σ.ev,argTypes[0]? with
  |[.c (.v .str s)],some t=>if T.isStr t then k (.c (.v (.int .i64) (s.length:Int))) σ else none
  |[.c x],some t=>if T.AIp t then(match lenOf σ.bx x with
   |some n=>k (.c (.v (.int .i64) (n:Int))) σ
   |none=>none)else none
  |_,_=>none
 | .call { callee:= .builtin .append,args,argTypes }=>match args.toList.map σ.ev with
  |[a,x]=>gP T argTypes σ a x k
  |_=>none
 | .call { callee:= .builtin .clear,args,argTypes }=>match args.toList.map σ.ev with
  |[x]=>nA T argTypes σ x k
  |_=>none
 | .call { callee:= .builtin .max,args,.. }=>match args.toList.map σ.ev with
  |[a,x]=>wR true a x fun a=>k (.c a) σ
  |_=>none
 | .call { callee:= .builtin .min,args,.. }=>match args.toList.map σ.ev with
  |[a,x]=>wR false a x fun a=>k (.c a) σ
  |_=>none
 |_=>none
end ops
end Go.Fw
end
section
namespace Go.Fw
section
variable{Y:Type}
structure cQ where
 T:JR
 Γ:Nat->Option Qv
 hint:Nat->List Nat
def jL(hint:AAc):XV->Bool
 | .c (.IX b _)=>hint.contains b
 | .c (.Js b _ _ _ _)=>hint.contains b
 | .c (.Pv _ _ _ _)=>true
 |_=>false
def lE(hint:AAc)(σ:St):Op->Bool
 | .assign x=>match σ.ev x with
  | .c (.win _ [] _ _)=>false
  |_=>true
 | .move _| .pick .. | .nilCheck _| .binOp .. | .unOp .. | .fieldAddr .. | .field .. | .indexAddr .. | .index .. | .extract .. | .build .. =>true
 | .slice _ _ _ _ none=>true
 | .load _ a=>jL hint (σ.ev a)
 | .call { callee:= .builtin .len,.. }=>true
 | .call { callee:= .builtin .max,.. }=>true
 | .call { callee:= .builtin .min,.. }=>true
 |_=>false
def KP(Γ:Nat->Option Qv)(σ:St):Op->List Nat
 | .store _ a _=>match σ.ev a with
  | .c (.IX b _)=>[b]
  | .c (.Js b _ _ _ _)=>[b]
  |_=>[]
 | .call { callee:= .value f,args,.. }=>match σ.ev f with
  | .c (.fn f Ka)=>match Γ f with
   |some c=>match c.ins.fit σ.bx.length c.ins.m0 (args.toList.map σ.ev++Ka.map fun b=> .c (.IX b 0)) (c.ins.opens σ.bx)with
    |some (_,m)=>m.filterMap id
    |none=>[]
   |none=>[]
  | .c (.ta f rows)=>match Γ f with
   |some c=>match c.ins.fit σ.bx.length c.ins.m0 (args.toList.map σ.ev++rows.map fun q=> .c (.Pv false q.1 q.2 0)) (c.ins.opens σ.bx)with
    |some (_,m)=>m.filterMap id
    |none=>[]
   |none=>[]
  |_=>[]
 | .call { callee:= .builtin .clear,args,.. }=>match args.toList.map σ.ev with
  |[.c (.win b _ _ _)]=>[b]
  |_=>[]
 |_=>[]
def tt:XV:= .c (.v .bool true)
def ff:XV:= .c (.v .bool false)
def ACx(C:cQ)(ops:Array Oper)(o:Oper)(kn:St->Option Y)(σ:St):Option Y:=
 match o.guard with
 |none=>ZC C.T C.Γ o σ fun x σ' =>kn (σ'.put o.dst x)
 |some (j,want)=>
  match(ops[j]?).bind (·.dst)with
  |some t=>
   match σ.tm[t]? with
   |some (.c (.v .bool b))=>
    let yes (σ:St):Option Y:=ZC C.T C.Γ o σ fun x σ' =>kn (σ'.put o.dst x)
    let no (σ:St):Option Y:=kn (σ.put o.dst (.MA []))
    cond b ((if want then yes else no) (σ.put (some t) tt)) ((if want then no else yes) (σ.put (some t) ff))
   |some (.MA [])=>kn (σ.put o.dst (.MA []))
   |_=>none
  |none=>none
def w4(C:cQ)(all:Array Oper):List Oper->(St->Option Y)->St->Option Y
 |[],kn,σ=>kn σ
 |o::rest,kn,σ=>ACx C all o (fun σ' =>w4 C all rest kn σ') σ
def ACt(C:cQ)(ops:Array Oper)(i:Nat)(kn:St->Option Y)(σ:St):Option Y:=
 match ops[i]? with
 |none=>none
 |some o=>ACx C ops o kn σ
def ly(bx:List Bx)(b:Nat):Bool:=
 match bx[b]? with
 |some .dead=>true
 |some _=>false
 |none=>true
def idle(ops:Array Oper)(σ:St)(o:Oper):Bool:=
 match o.guard with
 |none=>false
 |some (j,want)=>
  match(ops[j]?).bind (·.dst)with
  |some t=>
   match σ.tm[t]? with
   |some (.c (.v .bool b))=>b !=want
   |some (.MA [])=>true
   |_=>false
  |none=>false
def sA(hint:AAc)(ops:Array Oper)(listed:Array Bool)(σ:St)(i:Nat):Bool:=
 match ops[i]? with
 |some o=>(lE hint σ o.op||idle ops σ o)&&Region.free .any ops listed i
 |none=>false
def wP(f:Nat->List Bool->Option Y):List Nat->List Bool->Option Y
 |[],_=>none
 |[i],ω=>f i ω
 |i::_::_,[]=>f i []
 |i::_::_,true::ω=>f i ω
 |_::j::r,false::ω=>wP f (j::r) ω
def U3(C:cQ)(hint:AAc)(ops:Array Oper)(kn:List Bool->St->Option Y):Nat->Array Bool->List Bool->St->Option Y
 |fuel,listed,ω,σ=>
  if hint.all (fun b=> !ly σ.bx b)then
   match Region.ready .any ops listed with
   |[]=>kn ω σ
   |rs=>
    match fuel with
    |0=>none
    |fuel+1=>
     match rs.find? (sA hint ops listed σ)with
     |some i=>ACt C ops i (fun σ' =>U3 C hint ops kn fuel (listed.setIfInBounds i true) ω σ') σ
     |none=>wP (fun i ω=>
      match ops[i]? with
      |some o=>if(KP C.Γ σ o.op).all (fun b=> !hint.contains b)then ACt C ops i (fun σ' =>U3 C hint ops kn fuel (listed.setIfInBounds i true) ω σ') σ else none
      |none=>none) rs ω
  else none
def first:Code->Nat
 | .region id _ _=>id
 | .seq a _=>first a
 | .cond _ a _=>first a
 | .block _ a=>first a
 | .loop a=>first a
 | .scope a=>first a
 |_=>0
abbrev KN(Y:Type):=List Bool->St->Option Y
def run(C:cQ)(J:Nat->St->Option Y):Code->KN Y->(Nat->KN Y)->KN Y->KN Y
 | .skip,kn,_,_,ω,σ=>kn ω σ
 | .region id ops draw,kn,_,_,ω,σ=>
  if draw then(if Region.noSelect ops then U3 C (C.hint id) ops kn ops.size (Array.replicate ops.size false) ω σ else none)else w4 C ops ops.toList (kn ω) σ
 | .seq a b,kn,kx,kr,ω,σ=>run C J a (fun ω σ=>run C J b kn kx kr ω σ) kx kr ω σ
 | .cond (.tmp t) a b,kn,kx,kr,ω,σ=>
  match σ.tm[t]? with
  |some (.c (.v .bool x))=>cond x (run C J a kn kx kr ω (σ.put (some t) tt)) (run C J b kn kx kr ω (σ.put (some t) ff))
  |_=>none
 | .block id body,kn,kx,kr,ω,σ=>run C J body kn (fun j ω σ=>if j=id then kn ω σ else kx j ω σ) kr ω σ
 | .loop body,_,_,_,_,σ=>J (first body) σ
 | .exit id,_,kx,_,ω,σ=>kx id ω σ
 | .ret,_,_,kr,ω,σ=>kr ω σ
 |_,_,_,_,_,_=>none
def find(C:cQ)(J:Nat->St->Option Y)(ℓ :Nat):Code->KN Y->(Nat->KN Y)->KN Y->Option (KN Y)
 | .seq a b,kn,kx,kr=>
  match find C J ℓ a (fun ω σ=>run C J b kn kx kr ω σ) kx kr with
  |some f=>some f
  |none=>find C J ℓ b kn kx kr
 | .cond _ a b,kn,kx,kr=>
  match find C J ℓ a kn kx kr with
  |some f=>some f
  |none=>find C J ℓ b kn kx kr
 | .block id body,kn,kx,kr=>find C J ℓ body kn (fun j ω σ=>if j=id then kn ω σ else kx j ω σ) kr
 | .loop body,_,kx,kr=>
  if first body= ℓ then some (fun ω σ=>run C J body (fun _ σ=>J ℓ σ) kx kr ω σ)else find C J ℓ body (fun _ σ=>J (first body) σ) kx kr
 |_,_,_,_=>none
def AGh(T:JR)(σ:St):ResultVar->Option XV
 | .tmp t=>σ.tm[t]?
 | .cell a t=>match σ.tm[a]? with
  |some x=>oh T t σ x
  |none=>none
def yu:List XV->Option (List (AV ⊕ List AV))
 |[]=>some []
 | .c x::l=>(yu l).map fun r=> .inl x::r
 | .agg q::l=>(yu l).map fun r=> .inr q::r
 |_=>none
def lW(T:JR)(σ:St)(rs:List ResultVar):Option XV:=
 match rs.mapM (AGh T σ)with
 |some [x]=>some x
 |some l=>(yu l).map .MA
 |none=>none
def UX:Nat->Nat->List BP->P5
 |_,_,[]=>[]
 |i,n,p::l=>(match p with| .gone=>none|_=>if i<n then some i else none)::UX (i+1) n l
def AV.sQ(b:Nat)(r:Ty)(rows:List r.D):AV->AV
 | .ref k []=>if k=b then .sl true r rows else .ref k []
 |x=>x
def XV.sQ(b:Nat)(r:Ty)(rows:List r.D):XV->XV
 | .c x=> .c (x.sQ b r rows)
 |x=>x
def Bx.sQ(b:Nat)(r:Ty)(rows:List r.D):Bx->Bx
 | .mem cs=> .mem (cs.map (AV.sQ b r rows))
 |x=>x
def St.sQ(b:Nat)(σ:St):St:=
 match σ.bx[b]? with
 |some (.sl _ r rows)=>{ tm:=σ.tm.map (XV.sQ b r rows),bx:=(σ.bx.set b .dead).map (Bx.sQ b r rows) }
 |_=>σ
def G8:List AP->List AV->St->St
 | .sl true _::l,.ref b []::xs,σ=>G8 l xs (σ.sQ b)
 |_::l,_::xs,σ=>G8 l xs σ
 |_,_,σ=>σ
def dO:List (AP ⊕ List AP)->List (AV ⊕ List AV)->St->St
 | .inl p::l,.inl x::xs,σ=>dO l xs (G8 [p] [x] σ)
 | .inr p::l,.inr x::xs,σ=>dO l xs (G8 p x σ)
 |_::l,_::xs,σ=>dO l xs σ
 |_,_,σ=>σ
def AS6:XP->XV->St->St
 | .c p,.c x,σ=>G8 [p] [x] σ
 | .agg l,.agg xs,σ=>G8 l xs σ
 | .MA l,.MA xs,σ=>dO l xs σ
 |_,_,σ=>σ
def mw(l:List (Nat×XP))(x:XV)(σ:St):St:=
 match l with
 |(_,p)::_=>AS6 p x σ
 |[]=>σ
def tf(T:JR)(c:Qv)(rs:List ResultVar)(σ:St):Option c.outs.V:=
 (lW T σ rs).bind fun x=>
  let σ:=mw c.outs.Dw x σ
  (lW T σ rs).bind fun x=>(c.outs.fit σ.bx.length (UX 0 c.ins.GG.length c.outs.GG) [x] (c.outs.opens σ.bx)).map fun q=>q.1
def DB(C:cQ)(c:Qv)(fn:Func)(J:Nat->St->Option c.outs.V)(ω:List Bool)(v:c.ins.V):Option c.outs.V:=
 match fn.body with
 |some code=>run C J code (fun _=>tf C.T c fn.results.toList) (fun _ _ _=>none) (fun _=>tf C.T c fn.results.toList) ω (c.ins.st fn.ntmps v)
 |none=>none
def Ke(C:cQ)(c:Qv)(fn:Func)(J:Nat->St->Option c.outs.V)(ℓ :Nat)(ω:List Bool)(σ:St):Option c.outs.V:=
 match fn.body with
 |some code=>
  match find C J ℓ code (fun _=>tf C.T c fn.results.toList) (fun _ _ _=>none) (fun _=>tf C.T c fn.results.toList)with
  |some f=>f ω σ
  |none=>none
 |none=>none
def QU(bs:List BP):List (Nat×XP)->St->St
 |[],σ=>σ
 |(i,.c (.sl true r))::l,σ=>
  match σ.tm[i]? with
  |some (.c x)=>QU bs l (G8 [.sl true r] [x] σ)
  |_=>QU bs l σ
 |(i,.c (.ptr k _))::l,σ=>
  match bs[k]?,σ.tm[i]? with
  |some (.mem ps),some (.c (.IX b _))=>
   match σ.bx[b]? with
   |some (.mem cs)=>QU bs l (G8 ps cs σ)
   |_=>QU bs l σ
  |_,_=>QU bs l σ
 |_::l,σ=>QU bs l σ
def AV.vA:AV->Bool
 | .ref _ _| .win _ _ _ _| .sl _ _ _| .nil=>true
 |_=>false
def St.forget(b j:Nat)(σ:St):St:=
 match σ.bx[b]? with
 |some (.mem cs)=>
  match cs[j]? with
  |some x=>if x.vA then{ σ with bx:=σ.bx.set b (.mem (cs.set j (.ref σ.bx.length [])))++[.dead] }else σ
  |none=>σ
 |_=>σ
def X7(bs:List BP)(b:Nat):Nat->List AP->St->St
 |_,[],σ=>σ
 |j,p::l,σ=>X7 bs b (j+1) l (match p with
  | .ref q=>match bs[q]? with
   |some .gone=>σ.forget b j
   |_=>σ
  |_=>σ)
def gI(bs:List BP):List (Nat×XP)->St->St
 |[],σ=>σ
 |(i,p)::l,σ=>gI bs l (match p with
  | .c (.ptr k _)=>match bs[k]?,σ.tm[i]? with
   |some (.mem ps),some (.c (.IX b _))=>X7 bs b 0 ps σ
   |_,_=>σ
  |_=>σ)
def jump(nb:Nat)(s:Bc)(f:s.V->Option Y)(σ:St):Option Y:=
 if nb<=s.GG.length then
  let σ:=gI s.GG s.Dw (QU s.GG s.Dw σ)
  (s.fit σ.bx.length (UX 0 nb s.GG) σ.tm (s.opens σ.bx)).bind fun q=>f q.1
 else none
end
end Go.Fw
end
section
namespace Go.Fw
def Be(w:World)(b o:Nat)(cs:List Value):Prop:= ∀j v,cs[j]? =some v->w.cell? ⟨b,o+j,none⟩=some v
def Rd(w:World)(B:Nat->Prop):(t:Ty)->List Value->t.D->Prop
 | .int k,vs,x=>vs=[.int k x]
 | .bool,vs,x=>vs=[.bool x]
 | .str,vs,x=>vs=[.string ⟨x.toArray⟩]
 | .sl r,vs,x=> ∃a cap,vs=[.slice a (List.length x) cap]/\List.length x<=cap/\(List.length x=0\/ ∃b o,a=some ⟨b,o,none⟩/\B b/\
  ∀(i:Nat) (y:r.D),x[i]? =some y-> ∃cs,cs.length=r.n/\Be w b (o+i*r.n) cs/\Rd w B r cs y)
 | .unit,vs,_=>vs=[]
 | .cons c r,vs,x=> ∃v l,vs=v::l/\Rd w B c [v] x.1/\Rd w B r l x.2
def yx(fr:ACk)(n:Nat):Prop:= ∀i,i<n-> ¬(fr.1<=i/\i<fr.2)
def mk:Ty->Nat
 | .int .u8=>0
 |_=>1
def Ow(w:World)(S:Nat->Prop):(d:Nat)->(t:Ty)->List Value->t.D->List Nat->Prop
 |0,.sl r,vs,x,F=>Rd w S (.sl r) vs x/\F=[]
 |d+1,.sl r,vs,x,F=> ∃a cap,vs=[.slice a (List.length x) cap]/\List.length x<=cap/\
  ((
   cap=0/\F=[])\/ ∃b o arr ty fr Fs,a=some ⟨b,o,none⟩/\w.heap[b]? =some (.cells arr ty fr)/\o+cap*r.n<=arr.size/\yx fr (arr.size+mk r)/\
   F=b::List.flatten Fs/\Fs.length=List.length x/\
   ∀(i:Nat) (y:r.D) (G:AAc),x[i]? =some y->Fs[i]? =some G-> ∃cs,cs.length=r.n/\Be w b (o+i*r.n) cs/\Ow w S d r cs y G)
 |d,.cons c r,vs,x,F=> ∃v l F1 F2,vs=v::l/\F=F1++F2/\Ow w S d c [v] x.1 F1/\Ow w S d r l x.2 F2
 |_,.unit,vs,_,F=>vs=[]/\F=[]
 |_,.int k,vs,x,F=>vs=[.int k x]/\F=[]
 |_,.bool,vs,x,F=>vs=[.bool x]/\F=[]
 |_,.str,vs,x,F=>vs=[.string ⟨x.toArray⟩]/\F=[]
theorem nB{w B}:∀{t:Ty} {vs x},Rd w B t vs x->vs.length=t.n
 | .int _,_,_,h=>by simp only[Rd]at h;subst h;rfl
 | .bool,_,_,h=>by simp only[Rd]at h;subst h;rfl
 | .str,_,_,h=>by simp only[Rd]at h;subst h;rfl
 | .sl _,_,_,h=>by simp only[Rd]at h;obtain⟨_,_,h,_⟩:=h;subst h;rfl
 | .unit,_,_,h=>by simp only[Rd]at h;subst h;rfl
 | .cons _ _,_,_,h=>by
  simp only[Rd]at h;obtain⟨_,_,rfl,_,h⟩:=h;simp[Ty.n,nB h]
theorem YK{w S}:∀{d} {t:Ty} {vs x F},Ow w S d t vs x F->vs.length=t.n
 |_,.int _,_,_,_,h=>by simp only[Ow]at h;rw[h.1];rfl
 |_,.bool,_,_,_,h=>by simp only[Ow]at h;rw[h.1];rfl
 |_,.str,_,_,_,h=>by simp only[Ow]at h;rw[h.1];rfl
 |0,.sl _,_,_,_,h=>by grind[Ow,nB]
 |_+1,.sl _,_,_,_,h=>by simp only[Ow]at h;obtain⟨_,_,h,_⟩:=h;subst h;rfl
 |_,.unit,_,_,_,h=>by simp only[Ow]at h;rw[h.1];rfl
 |_,.cons _ _,_,_,_,h=>by
  simp only[Ow]at h;obtain⟨_,_,_,_,rfl,_,_,h⟩:=h;simp[Ty.n,YK h]
theorem Be.of_block{w w':World}{b o:Nat}{cs:List Value}(h:Be w b o cs)(hb:w'.heap[b]? =w.heap[b]?):Be w' b o cs:=
 fun j v hj=>(World.cell?_of_block (a:=⟨b,o+j,none⟩) hb).trans (h j v hj)
theorem Fe{w w':World}{B B':Nat->Prop}(hB:∀b,B b->B' b)(hw:∀b,B b->w'.heap[b]? =w.heap[b]?):∀{t:Ty} {vs x},Rd w B t vs x->Rd w' B' t vs x
 | .int _,_,_,h=>by grind[Rd]
 | .bool,_,_,h=>by grind[Rd]
 | .str,_,_,h=>by grind[Rd]
 | .unit,_,_,h=>by grind[Rd]
 | .sl r,_,_,h=>by
  simp only[Rd]at h|-;obtain⟨a,cap,h1,h2,h3⟩:=h;refine⟨a,cap,h1,h2,h3.imp id ?_⟩
  rintro⟨b,o,ha,hb,h⟩
  refine⟨b,o,ha,hB b hb,fun i y hy=> ?_⟩;obtain⟨cs,hl,hc,hr⟩:=h i y hy;exact⟨cs,hl,hc.of_block (hw b hb),Fe hB hw hr⟩
 | .cons _ _,_,_,h=>by
  simp only[Rd]at h|-;obtain⟨v,l,h1,h2,h3⟩:=h;exact⟨v,l,h1,Fe hB hw h2,Fe hB hw h3⟩
theorem EP{w w':World}{S S':Nat->Prop}(hS:∀b,S b->S' b)(hw:∀b,S b->w'.heap[b]? =w.heap[b]?):
  ∀{d} {t:Ty} {vs x F},(∀b∈F,w'.heap[b]? =w.heap[b]?)->Ow w S d t vs x F->Ow w' S' d t vs x F
 |_,.int _,_,_,_,_,h=>by grind[Ow]
 |_,.bool,_,_,_,_,h=>by grind[Ow]
 |_,.str,_,_,_,_,h=>by grind[Ow]
 |_,.unit,_,_,_,_,h=>by grind[Ow]
 |0,.sl r,_,_,_,_,h=>by
  grind[Ow,Fe]
 |d+1,.sl r,_,x,F,hF,h=>by
  simp only[Ow]at h|-;obtain⟨a,cap,h1,h2,h3⟩:=h;refine⟨a,cap,h1,h2,h3.imp id ?_⟩
  rintro⟨b,o,arr,ty,fr,Fs,ha,hb,h4,h5,h6,h7,h⟩
  subst h6;have hbb:=hF b (by simp);refine⟨b,o,arr,ty,fr,Fs,ha,hbb.trans hb,h4,h5,rfl,h7,fun i y G hy hG=> ?_⟩;obtain⟨cs,hl,hc,hr⟩:=h i y G hy hG;refine⟨cs,hl,hc.of_block hbb,EP hS hw (fun c hc=>hF c ?_) hr⟩;grind[List.mem_cons_of_mem,List.mem_flatten,List.mem_of_getElem?]
 |_,.cons _ _,_,_,_,hF,h=>by
  simp only[Ow]at h|-;obtain⟨v,l,F1,F2,h1,h2,h3,h4⟩:=h;subst h2;exact⟨v,l,F1,F2,h1,rfl,EP hS hw (fun c hc=>hF c (by simp[hc])) h3,EP hS hw (fun c hc=>hF c (by simp[hc])) h4⟩
theorem ZJ{w:World}{S:Nat->Prop}:∀{d} {t:Ty} {vs x F},Ow w S d t vs x F->Rd w (fun b=>S b\/b∈F) t vs x
 |_,.int _,_,_,_,h=>by grind[Ow,Rd]
 |_,.bool,_,_,_,h=>by grind[Ow,Rd]
 |_,.str,_,_,_,h=>by grind[Ow,Rd]
 |_,.unit,_,_,_,h=>by grind[Ow,Rd]
 |0,.sl r,_,_,_,h=>by
  simp only[Ow]at h;simp_all
 |d+1,.sl r,_,x,F,h=>by
  simp only[Ow]at h;simp only[Rd];obtain⟨a,cap,h1,h2,h3⟩:=h;refine⟨a,cap,h1,h2,?_⟩;rcases h3 with⟨hc,_⟩|⟨b,o,arr,ty,fr,Fs,ha,hb,h4,h5,h6,h7,h⟩
  ·omega
  ·refine .inr ⟨b,o,ha,.inr (by simp[h6]),fun i y hy=> ?_⟩
   have hi:i<Fs.length:=by
    grind
   obtain⟨cs,hl,hc,hr⟩:=h i y Fs[i] hy (AJA hi);refine⟨cs,hl,hc,Fe ?_ (fun _ _=>rfl) (ZJ hr)⟩;grind[List.mem_cons_of_mem,List.mem_flatten,List.getElem_mem]
 |_,.cons _ _,_,_,_,h=>by
  simp only[Ow]at h;simp only[Rd];obtain⟨v,l,F1,F2,h1,h2,h3,h4⟩:=h;subst h2;refine⟨v,l,h1,Fe ?_ (fun _ _=>rfl) (ZJ h3),Fe ?_ (fun _ _=>rfl) (ZJ h4)⟩
  all_goals grind
theorem KB{w:World}{S:Nat->Prop}:∀{d d'} {t:Ty} {vs x F},d<=d'->Ow w S d' t vs x F->
  ∃F1 F2,F.Perm (F1++F2)/\Ow w (fun b=>S b\/b∈F2) d t vs x F1
 |_,_,.int _,_,_,_,_,h=>by simp only[Ow]at h|-;simp_all
 |_,_,.bool,_,_,_,_,h=>by simp only[Ow]at h|-;simp_all
 |_,_,.str,_,_,_,_,h=>by simp only[Ow]at h|-;simp_all
 |_,_,.unit,_,_,_,_,h=>by simp only[Ow]at h|-;simp_all
 |0,d',.sl r,_,x,F,_,h=>by
  refine⟨[],F,by simp,?_⟩;simp only[Ow];exact⟨ZJ h,trivial⟩
 |d+1,0,.sl r,_,x,F,hd,h=>by omega
 |d+1,d'+1,.sl r,_,x,F,hd,h=>by
  simp only[Ow]at h|-;obtain⟨a,cap,h1,h2,h3⟩:=h;rcases h3 with⟨hc,hF⟩|⟨b,o,arr,ty,fr,Fs,ha,hb,h4,h5,h6,h7,h⟩
  ·simp_all
  ·have key:∀(n:Nat) (Fs:List AAc) (y:List r.D),Fs.length=n->y.length=n->(∀(i:Nat) (z:r.D) (G:AAc),y[i]? =some z->Fs[i]? =some G-> ∃cs,cs.length=r.n/\Be w b (o+i*r.n) cs/\Ow w S d' r cs z G)->
     ∃(Gs:List AAc) (F2:AAc),Fs.flatten.Perm (Gs.flatten++F2)/\Gs.length=n/\ ∀(i:Nat) (z:r.D) (G:AAc),y[i]? =some z->Gs[i]? =some G-> ∃cs,cs.length=r.n/\Be w b (o+i*r.n) cs/\Ow w (fun b=>S b\/b∈F2) d r cs z G:=by
    intro n
    induction n with
    |zero=>
     simp_all
    |succ n ih=>
     intro Fs y hF hy hh;obtain⟨Fs',G0,rfl⟩:∃l a,Fs=l++[a]:=⟨Fs.dropLast,Fs.getLast (by grind),(List.dropLast_concat_getLast _).symm⟩;obtain⟨y',z0,rfl⟩:∃l a,y=l++[a]:=⟨y.dropLast,y.getLast (by grind),(List.dropLast_concat_getLast _).symm⟩;simp only[AKN,AJq,AKx]at hF hy;obtain⟨Gs,F2,hp,hl,hg⟩:=ih Fs' y' (by omega) (by omega) (fun i z G hz hG=>hh i z G
      (by grind) (by grind))
     obtain⟨cs,pV,hc,ho⟩:=hh n z0 G0 (by simp_all) (by simp_all);obtain⟨H1,H2,hhp,hho⟩:=KB (d:=d) (d':=d') (by omega) ho;refine⟨Gs++[H1],F2++H2,?_,by simp[hl],?_⟩
     ·grind
     ·intro i z G hz hG
      by_cases hi:i<n
      ·rw[AKW (by omega)]at hz hG
       obtain⟨cs,e1,e2,e3⟩:=hg i z G hz hG;exact⟨cs,e1,e2,EP (by grind) (fun _ _=>rfl) (fun _ _=>rfl) e3⟩
      ·have:i=n:=by
        grind
       subst this;rw[ALb (by omega)]at hz hG;simp[show i-y'.length=0 by omega,show i-Gs.length=0 by omega]at hz hG;subst hz hG;exact⟨cs,pV,hc,EP (by grind) (fun _ _=>rfl) (fun _ _=>rfl) hho⟩
   obtain⟨Gs,F2,hp,hl,hg⟩:=key _ Fs x h7 rfl h;refine⟨b::Gs.flatten,F2,?_,a,cap,h1,h2,.inr ⟨b,o,arr,ty,fr,Gs,ha,hb,h4,h5,rfl,hl,hg⟩⟩;simp_all
 |d,d',.cons _ _,_,_,_,hd,h=>by
  simp only[Ow]at h|-;obtain⟨v,l,F1,F2,h1,h2,h3,h4⟩:=h;obtain⟨A1,A2,pa,oa⟩:=KB hd h3;obtain⟨B1,B2,pb,ob⟩:=KB hd h4;refine⟨A1++B1,A2++B2,?_,v,l,A1,B1,h1,rfl,EP (by grind) (fun _ _=>rfl) (fun _ _=>rfl) oa,EP (by grind) (fun _ _=>rfl) (fun _ _=>rfl) ob⟩;grind
def RB(w:World):(t:Ty)->List Value->t.D->Nat->Prop
 | .sl r,vs,x,c=> ∃b o len cap,vs=[.slice (some ⟨b,o,none⟩) len cap]/\0<List.length x/\
  (c=b\/ ∃(i:Nat) (y:r.D) (cs:List Value),x[i]? =some y/\cs.length=r.n/\Be w b (o+i*r.n) cs/\RB w r cs y c)
 | .cons c r,vs,x,d=> ∃v l,vs=v::l/\(RB w c [v] x.1 d\/RB w r l x.2 d)
 |_,_,_,_=>False
theorem Be.unique{w:World}{b o:Nat}{cs ds:List Value}(h:Be w b o cs)(k:Be w b o ds)(hl:cs.length=ds.length):cs=ds:=by
 apply List.ext_getElem hl;intro i h1 h2;have e1:=h i _ (AJA h1);have e2:=k i _ (AJA h2);simp_all
theorem xK{w:World}{B:Nat->Prop}{c:Nat}:∀{t:Ty} {vs x},Rd w B t vs x->RB w t vs x c->B c
 | .int _,_,_,_,h=>by simp[RB]at h
 | .bool,_,_,_,h=>by simp[RB]at h
 | .str,_,_,_,h=>by simp[RB]at h
 | .unit,_,_,_,h=>by simp[RB]at h
 | .sl r,_,x,h,k=>by
  simp only[Rd]at h;simp only[RB]at k;obtain⟨a,cap,rfl,_,h⟩:=h;obtain⟨b,o,len,cap',e,hl,k⟩:=k;simp only[AL9,Value.slice.injEq,AO1]at e;obtain⟨rfl,rfl,rfl⟩:=e;rcases h with h|⟨b',o',e,hb,h⟩
  ·omega
  simp only[AJL,Addr.mk.injEq,AO1]at e;obtain⟨rfl,rfl⟩:=e;rcases k with rfl|⟨i,y,cs,hy,pV,hca,k⟩
  ·omega
  ·obtain⟨ds,d1,d2,d3⟩:=h i y hy
   have:=hca.unique d2 (by omega);subst this;exact xK d3 k
 | .cons _ _,_,_,h,k=>by
  simp only[Rd]at h;simp only[RB]at k;obtain⟨v,l,rfl,h1,h2⟩:=h;obtain⟨v',l',e,k⟩:=k;cases e;exact k.elim (xK h1) (xK h2)
theorem qT{w w':World}{c:Nat}:∀{t:Ty} {vs x},(∀d,RB w t vs x d->w'.heap[d]? =w.heap[d]?)->RB w t vs x c->RB w' t vs x c
 | .int _,_,_,_,h=>by simp[RB]at h
 | .bool,_,_,_,h=>by simp[RB]at h
 | .str,_,_,_,h=>by simp[RB]at h
 | .unit,_,_,_,h=>by simp[RB]at h
 | .sl r,_,x,h,k=>by
  simp only[RB]at h k|-;obtain⟨b,o,len,cap,e,hl,k⟩:=k;refine⟨b,o,len,cap,e,hl,?_⟩;rcases k with rfl|⟨i,y,cs,hy,pV,hca,k⟩
  ·omega
  ·have hb:=h b ⟨b,o,len,cap,e,hl,.inl rfl⟩
   exact .inr ⟨i,y,cs,hy,pV,hca.of_block hb,qT (fun d hd=>h d ⟨b,o,len,cap,e,hl,.inr ⟨i,y,cs,hy,pV,hca,hd⟩⟩) k⟩
 | .cons _ _,_,_,h,k=>by
  simp only[RB]at h k|-;obtain⟨v,l,e,k⟩:=k;refine⟨v,l,e,k.elim (fun k=> .inl (qT (fun d hd=>h d ⟨v,l,e,.inl hd⟩) k)) (fun k=> .inr (qT (fun d hd=>h d ⟨v,l,e,.inr hd⟩) k))⟩
end Go.Fw
end
section
namespace Go.Fw
def CX{α β:Type}(R:α->β->Prop):List α->List β->Prop
 |[],[]=>True
 |a::l,b::m=>R a b/\CX R l m
 |_,_=>False
theorem CX.len{α β:Type}{R:α->β->Prop}:∀{l:List α} {m:List β},CX R l m->l.length=m.length
 |[],[],_=>rfl
 |_::_,_::_,h=>by simp[CX.len h.2]
theorem CX.get{α β:Type}{R:α->β->Prop}:∀{l:List α} {m:List β} {i:Nat} {a:α},CX R l m->l[i]? =some a-> ∃b,m[i]? =some b/\R a b
 |_::_,_::_,0,a,h,e=>by simp at e;subst e;exact⟨_,rfl,h.1⟩
 |_::_,_::_,i+1,a,h,e=>by
  obtain⟨b,hb,hr⟩:=CX.get (i:=i) h.2 (by simpa using e);simp_all
 |[],[],_,_,_,e=>by simp at e
theorem CX.imp{α β:Type}{R S:α->β->Prop}(h:∀a b,R a b->S a b):∀{l:List α} {m:List β},CX R l m->CX S l m
 |[],[],_=>trivial
 |_::_,_::_,k=>⟨h _ _ k.1,CX.imp h k.2⟩
structure Env where
 Hg:Nat->Nat
 Hi:Nat->Value
 T:Nat->Prop
 S:Nat->Prop
def I1(w:World):Value->List Xv->Option Value
 |h,[]=>some h
 | .slice (some a) _ _,s::p=>
  match w.cell? ⟨a.block,a.off+s.i*s.sz+s.j,none⟩with
  |some h=>I1 w h p
  |none=>none
 |_,_::_=>none
def DC:(r:Ty)->List r.D->List Xv->Prop
 |_,_,[]=>True
 |r,rows,s::p=>s.i<rows.length/\s.sz=r.n/\
  match BS r s.j (rowAt r rows s.i)with
  |some ⟨.sl q,x⟩=>DC q x p
  |_=>False
def WV(sz off n:Nat)(a:Option Addr)(cap:Nat):Value:=
 .slice (if cap=off then a else a.map (·.add (off*sz))) n (cap-off)
def isSlice:Value->Bool
 | .slice .. =>true
 |_=>false
def eM:Value->Bool
 | .pointer (some ⟨_,_,none⟩)=>true
 |_=>false
def RA(E:Env)(w:World)(q:(r:Ty)×r.D)(p:Value):Prop:= ∃bb o cs,p= .pointer (some ⟨bb,o,none⟩)/\E.T bb/\cs.length=q.1.n/\Be w bb o cs/\Rd w E.T q.1 cs q.2
def VR(E:Env)(w:World)(vw:List Bx):AV->Value->Prop
 | .v t x,v=>t.scalar=true/\Rd w (fun _=>False) t [v] x
 | .sl s r x,v=>Rd w (if s then E.S else E.T) (.sl r) [v] x
 | .nil,v=>v= .slice none 0 0
 | .ref b p,v=>isSlice v=true/\match vw[b]? with
  |some (.sl _ r rows)=>DC r rows p/\(∃q,Gu r rows p=some q)/\I1 w (E.Hi b) p=some v
  |some _=>True
  |none=>False
 | .win b p off n,v=>isSlice v=true/\match vw[b]? with
  |some (.sl _ r rows)=>DC r rows p/\ ∃q ys a len cap,Gu r rows p=some ⟨q,ys⟩/\off+n<=List.length ys/\I1 w (E.Hi b) p=some (.slice a len cap)/\v=WV q.n off n a cap
  |some _=>True
  |none=>False
 | .IX b j,v=>b<vw.length/\v= .pointer (some ⟨E.Hg b,j,none⟩)
 | .Js b p i sz j,v=>eM v=true/\match vw[b]? with
  |some (.sl _ r rows)=>DC r rows p/\ ∃q ys bb o len cap,Gu r rows p=some ⟨q,ys⟩/\i<List.length ys/\I1 w (E.Hi b) p=some (.slice (some ⟨bb,o,none⟩) len cap)/\v= .pointer (some ⟨bb,o+i*sz+j,none⟩)
  |some _=>True
  |none=>False
 | .Pv s r x j,v=> ∃bb o cs,v= .pointer (some ⟨bb,o+j,none⟩)/\(if s then E.S else E.T) bb/\cs.length=r.n/\Be w bb o cs/\Rd w (if s then E.S else E.T) r cs x
 | .fn f Ka,v=>(∀b∈Ka,b<vw.length)/\v= .func (.func f) #[] (Ka.map fun b=>Value.pointer (some ⟨E.Hg b,0,none⟩)).toArray
 | .ta f rows,v=> ∃ps:List Value,v= .func (.func f) #[] ps.toArray/\CX (RA E w) rows ps
 | .ABv,v=>v= .pointer none
 | .undef,_=>True
def jy(E:Env)(w:World)(vw:List Bx)(l:List AV)(vs:List Value):Prop:=CX (VR E w vw) l vs
def TR(E:Env)(w:World)(vw:List Bx):AV ⊕ List AV->Value->Prop
 | .inl x,v=>VR E w vw x v
 | .inr q,v=> ∃vs,v= .agg vs/\jy E w vw q vs.toList
def XR(E:Env)(w:World)(vw:List Bx):XV->Value->Prop
 | .c x,v=>VR E w vw x v
 | .agg l,v=> ∃vs,v= .agg vs/\jy E w vw l vs.toList
 | .MA l,v=> ∃vs,v= .tuple vs/\CX (TR E w vw) l vs.toList
def tP(E:Env)(w:World)(vw:List Bx)(k:Nat):Bx->List Nat->Prop
 | .mem cs,F=>F=[E.Hg k]/\ ∃arr ty fr,w.heap[E.Hg k]? =some (.cells arr ty fr)/\yx fr (arr.size+1)/\jy E w vw cs arr.toList
 | .sl d r rows,F=>1<=d/\Ow w E.S d (.sl r) [E.Hi k] rows F
 | .dead,F=>F=[]
def Gok(E:Env)(w:World):Prop:= ∀w':World,(∀c,E.T c->w'.heap[c]? =w.heap[c]?)->GI w'
theorem Gok.mono{E E':Env}{w w':World}(h:Gok E w)(hT:∀c,E.T c->E'.T c)(hw:∀c,E.T c->w'.heap[c]? =w.heap[c]?):Gok E' w':=
 fun v hv=>h v fun c hc=>(hv c (hT c hc)).trans (hw c hc)
structure Sep (E:Env) (w:World) (F:AAc):Prop where
 nodup:F.Nodup
 free:∀c∈F,¬E.T c
 lt:∀c∈F,c<w.heap.size
 st:∀c,E.S c->E.T c
 cI:∀c,E.T c->c<w.heap.size
 tu:Gok E w
def NU(E:Env)(w:World)(vw bx:List Bx)(Fs:List AAc):Prop:=
 Fs.length=bx.length/\ ∀k B F,bx[k]? =some B->Fs[k]? =some F->tP E w vw k B F
def C0(E:Env)(w:World)(vw bx:List Bx)(G:AAc):Prop:=
 ∃Fs,NU E w vw bx Fs/\Sep E w (Fs.flatten++G)
structure Le (E E':Env):Prop where
 Hg:E'.Hg=E.Hg
 Hi:E'.Hi=E.Hi
 T:∀c,E.T c->E'.T c
 S:∀c,E.S c->E'.S c
 Tof:∀c,E'.T c->E.T c\/E'.S c
 Sof:∀c,E'.S c->E.S c\/ ¬E.T c
theorem Le.refl(E:Env):Le E E:=⟨rfl,rfl,fun _ h=>h,fun _ h=>h,fun _ h=> .inl h,fun _ h=> .inl h⟩
theorem Le.trans{E E' E'':Env}(h:Le E E')(k:Le E' E''):Le E E'':=
 ⟨k.Hg.trans h.Hg,k.Hi.trans h.Hi,fun c hc=>k.T c (h.T c hc),fun c hc=>k.S c (h.S c hc),
  fun c hc=>(k.Tof c hc).elim (fun h' =>(h.Tof c h').imp id (k.S c)) .inr,
  fun c hc=>(k.Sof c hc).elim (h.Sof c) (fun h' => .inr fun ht=>h' (h.T c ht))⟩
theorem gU{w B}:∀{r:Ty} {cs x j t y},Rd w B r cs x->BS r j x=some ⟨t,y⟩-> ∃v,cs[j]? =some v/\Rd w B t [v] y
 | .cons c r,cs,x,0,t,y,h,e=>by
  simp only[Rd]at h;obtain⟨v,l,rfl,h1,h2⟩:=h;simp only[BS,AJL,AK7]at e;grind
 | .cons c r,cs,x,j+1,t,y,h,e=>by
  simp only[Rd]at h;obtain⟨v,l,rfl,h1,h2⟩:=h;simp only[BS]at e;obtain⟨u,hu,hr⟩:=gU h2 e;simp_all
 | .int k,cs,x,0,t,y,h,e=>by
  simp only[BS,AJL,AK7]at e;obtain⟨rfl,e⟩:=e;obtain rfl:=ANi e;simp only[Rd]at h;subst h;exact⟨_,rfl,by rfl⟩
 | .bool,cs,x,0,t,y,h,e=>by
  simp only[BS,AJL,AK7]at e;obtain⟨rfl,e⟩:=e;obtain rfl:=ANi e;simp only[Rd]at h;subst h;exact⟨_,rfl,by rfl⟩
 | .str,cs,x,0,t,y,h,e=>by
  simp only[BS,AJL,AK7]at e;obtain⟨rfl,e⟩:=e;obtain rfl:=ANi e;simp only[Rd]at h;subst h;exact⟨_,rfl,by rfl⟩
 | .sl r,cs,x,0,t,y,h,e=>by
  simp only[BS,AJL,AK7]at e;obtain⟨rfl,e⟩:=e;obtain rfl:=ANi e;have h':=h;simp only[Rd]at h;grind
 | .unit,_,_,_,_,_,_,e=>by simp[BS]at e
 | .int _,_,_,_+1,_,_,_,e=>by simp[BS]at e
 | .bool,_,_,_+1,_,_,_,e=>by simp[BS]at e
 | .str,_,_,_+1,_,_,_,e=>by simp[BS]at e
 | .sl _,_,_,_+1,_,_,_,e=>by simp[BS]at e
theorem Rh{r:Ty}{rows:List r.D}{i:Nat}(h:i<rows.length):rows[i]? =some (rowAt r rows i):=by
 simp[rowAt,h]
theorem qJ{w:World}{B:Nat->Prop}:∀{p:List Xv} {r:Ty} {h:Value} {rows:List r.D} {q:Ty} {ys:List q.D},
  Rd w B (.sl r) [h] rows->DC r rows p->Gu r rows p=some ⟨q,ys⟩->
  ∃h',(∀w':World,(∀b,B b->w'.heap[b]? =w.heap[b]?)->I1 w' h p=some h')/\Rd w B (.sl q) [h'] ys
 |[],r,h,rows,q,ys,hr,_,hg=>by
  simp only[Gu,AJL,AK7]at hg;obtain⟨rfl,e⟩:=hg;obtain rfl:=ANi e;exact⟨h,fun w' _=>by rfl,hr⟩
 |s::p,r,h,rows,q,ys,hr,hp,hg=>by
  simp only[DC]at hp;obtain⟨hi,K8,hp⟩:=hp;simp only[Gu]at hg;simp only[Rd]at hr;obtain⟨a,cap,hh,_,hr⟩:=hr;obtain rfl:=(AO6 hh).1;rcases hr with hr|⟨b,o,rfl,hb,hr⟩
  ·omega
  obtain⟨cs,hl,hc,hrow⟩:=hr s.i _ (Rh hi);split at hg
  ·rename_i q' x' jN
   rw[jN]at hp;obtain⟨v,hv,hrv⟩:=gU hrow jN;obtain⟨h',hh',ZN⟩:=qJ hrv hp hg;refine⟨h',fun w' oR=> ?_,ZN⟩;simp only[I1];have bQ:w'.cell? ⟨b,o+s.i*s.sz+s.j,none⟩=some v:=by
    rw[K8];exact(World.cell?_of_block (a:=⟨b,_,none⟩) (oR b hb)).trans (hc _ _ hv)
   simp_all
  simp_all
theorem Cv{w:World}{h:Value}:I1 w h []=some h:=by rfl
structure Tk (E:Env) (w:World) (vw:List Bx) (E':Env) (w':World) (vw':List Bx):Prop where
 len:vw.length<=vw'.length
 Hg:∀b,b<vw.length->E'.Hg b=E.Hg b
 T:∀b,E.T b->E'.T b
 S:∀b,E.S b->E'.S b
 st:∀b,E.S b->E.T b
 heap:∀b,E.T b->w'.heap[b]? =w.heap[b]?
 box:∀b d r rows,b<vw.length->vw'[b]? =some (.sl d r rows)-> ∃d0 Sh,vw[b]? =some (.sl d0 r Sh)/\
  ∀p,DC r Sh p-> ∀q ys,Gu r Sh p=some ⟨q,ys⟩->DC r rows p/\(∃xk,Gu r rows p=some ⟨q,xk⟩/\List.length xk=List.length ys)/\
   ∀h,I1 w (E.Hi b) p=some h->I1 w' (E'.Hi b) p=some h
theorem P6{α:Type}{l l':List α}{b:Nat}{x:α}(h:l.length<=l'.length)(e:l[b]? =some x):∃y,l'[b]? =some y:=
 ⟨l'[b]'(AOX (AJM.1 e).1 h),AJA _⟩
theorem GB{E E':Env}{w w':World}{vw vw':List Bx}(k:Tk E w vw E' w' vw'):∀{x:AV} {v:Value},VR E w vw x v->VR E' w' vw' x v:=by
 intro x v h;cases x with
 |v t x=>exact⟨h.1,Fe (fun _ h=>h) (fun _ h=>h.elim) h.2⟩
 |sl s r x=>
  simp only[VR]at h|-;cases s with
  |false=>exact Fe k.T k.heap (by simp_all)
  |true=>exact Fe k.S (fun b hb=>k.heap b (k.st b hb)) (by simp_all)
 |nil=>exact h
 |ref b p=>
  simp only[VR]at h|-;obtain⟨h0,h⟩:=h;refine⟨h0,?_⟩;cases e:vw[b]? with
  |none=>simp_all
  |some B=>
   rw[e]at h;have IQ:=(AJM.1 e).1;obtain⟨B',e'⟩:=P6 k.len e;rw[e'];cases B' with
   |mem cs=>trivial
   |dead=>trivial
   |sl d r rows=>
    obtain⟨d0,Sh,e0,hk⟩:=k.box b d r rows IQ e';grind
 |win b p off n=>
  simp only[VR]at h|-;obtain⟨h0,h⟩:=h;refine⟨h0,?_⟩;cases e:vw[b]? with
  |none=>simp_all
  |some B=>
   rw[e]at h;have IQ:=(AJM.1 e).1;obtain⟨B',e'⟩:=P6 k.len e;rw[e'];cases B' with
   |mem cs=>trivial
   |dead=>trivial
   |sl d r rows=>
    obtain⟨d0,Sh,e0,hk⟩:=k.box b d r rows IQ e';grind
 |IX b j=>exact⟨AOX h.1 k.len,by rw[h.2,k.Hg b h.1]⟩
 |Js b p i sz j=>
  simp only[VR]at h|-;obtain⟨h0,h⟩:=h;refine⟨h0,?_⟩;cases e:vw[b]? with
  |none=>simp_all
  |some B=>
   rw[e]at h;have IQ:=(AJM.1 e).1;obtain⟨B',e'⟩:=P6 k.len e;rw[e'];cases B' with
   |mem cs=>trivial
   |dead=>trivial
   |sl d r rows=>
    obtain⟨d0,Sh,e0,hk⟩:=k.box b d r rows IQ e';grind
 |Pv s r x j=>
  simp only[VR]at h|-;obtain⟨bb,o,cs,hv,hb,hl,hc,hr⟩:=h;cases s with
  |false=>exact⟨bb,o,cs,hv,k.T bb (by simp_all),hl,hc.of_block (k.heap bb (by simp_all)),Fe k.T k.heap (by simp_all)⟩
  |true=>exact⟨bb,o,cs,hv,k.S bb (by simp_all),hl,hc.of_block (k.heap bb (k.st bb (by simp_all))),Fe k.S (fun b hb=>k.heap b (k.st b hb)) (by simp_all)⟩
 |fn f Ka=>
  refine⟨fun b hb=>AOX (h.1 b hb) k.len,?_⟩;rw[h.2];congr 2;exact AO9 fun b hb=>by rw[k.Hg b (h.1 b hb)]
 |ta f rows=>
  obtain⟨ps,hv,h⟩:=h;exact⟨ps,hv,h.imp fun q p ⟨bb,o,cs,h1,h2,h3,h4,h5⟩=>⟨bb,o,cs,h1,k.T bb h2,h3,h4.of_block (k.heap bb h2),Fe k.T k.heap h5⟩⟩
 |ABv=>exact h
 |undef=>trivial
theorem Pc{E E':Env}{w w':World}{vw vw':List Bx}(k:Tk E w vw E' w' vw'):∀{x:XV} {v:Value},XR E w vw x v->XR E' w' vw' x v
 | .c _,_,h=>GB k h
 | .agg _,_,⟨vs,hv,h⟩=>⟨vs,hv,h.imp fun _ _ h=>GB k h⟩
 | .MA l,_,⟨vs,hv,h⟩=>⟨vs,hv,h.imp fun
  | .inl _,_,h=>GB k h
  | .inr _,_,⟨ws,hw,h⟩=>⟨ws,hw,h.imp fun _ _ h=>GB k h⟩⟩
theorem Tk.refl{E:Env}{w:World}{vw:List Bx}(st:∀b,E.S b->E.T b):Tk E w vw E w vw:=
 ⟨ALj _,fun _ _=>rfl,fun _ h=>h,fun _ h=>h,st,fun _ _=>rfl,fun b d r rows _ h=>⟨d,rows,h,fun p hp q ys hg=>⟨hp,⟨ys,hg,rfl⟩,fun _ h=>h⟩⟩⟩
theorem Tk.trans{E E' E'':Env}{w w' w'':World}{vw vw' APz:List Bx}(k:Tk E w vw E' w' vw')(k':Tk E' w' vw' E'' w'' APz):Tk E w vw E'' w'' APz where
 len:=AOT k.len k'.len
 Hg:=fun b hb=>(k'.Hg b (AOX hb k.len)).trans (k.Hg b hb)
 T:=fun b h=>k'.T b (k.T b h)
 S:=fun b h=>k'.S b (k.S b h)
 st:=k.st
 heap:=fun b h=>(k'.heap b (k.T b h)).trans (k.heap b h)
 box:=fun b d r rows hb h=>by
  obtain⟨d1,AKO,h1,k1⟩:=k'.box b d r rows (AOX hb k.len) h;obtain⟨d0,Sh,h0,k0⟩:=k.box b d1 r AKO hb h1;grind
theorem wy{w w':World}{S:Nat->Prop}{d:Nat}{r:Ty}{h:Value}{rows:List r.D}{F:AAc}(ho:Ow w S d (.sl r) [h] rows F)
  (hS:∀b,S b->w'.heap[b]? =w.heap[b]?) (hF:∀b∈F,w'.heap[b]? =w.heap[b]?) {p:List Xv} (hp:DC r rows p) {q:Ty} {ys:List q.D} (hg:Gu r rows p=some ⟨q,ys⟩)
  {h':Value} (hh:I1 w h p=some h'):I1 w' h p=some h':=by
 obtain⟨h1,k,_⟩:=qJ (ZJ ho) hp hg;grind
end Go.Fw
end
section
namespace Go.Fw
theorem CX.set{α β:Type}{R:α->β->Prop}:∀{l:List α} {m:List β} {i:Nat} {a:α} {b:β},CX R l m->R a b->CX R (l.set i a) (m.set i b)
 |[],[],_,_,_,_,_=>trivial
 |_::_,_::_,0,_,_,h,r=>⟨r,h.2⟩
 |_::_,_::_,i+1,_,_,h,r=>⟨h.1,CX.set h.2 r⟩
theorem CX.append{α β:Type}{R:α->β->Prop}:∀{l:List α} {m:List β} {l':List α} {m':List β},CX R l m->CX R l' m'->CX R (l++l') (m++m')
 |[],[],_,_,_,h=>h
 |_::_,_::_,_,_,h,k=>⟨h.1,CX.append h.2 k⟩
theorem CX.L3{α β γ:Type}{R:α->β->Prop}{S:γ->β->Prop}(f:α->γ)(h:∀a b,R a b->S (f a) b):∀{l:List α} {m:List β},CX R l m->CX S (l.map f) m
 |[],[],_=>trivial
 |_::_,_::_,k=>⟨h _ _ k.1,CX.L3 f h k.2⟩
theorem CX.drop{α β:Type}{R:α->β->Prop}:∀{l:List α} {m:List β} (n:Nat),CX R l m->CX R (l.drop n) (m.drop n)
 |_,_,0,h=>h
 |[],[],_+1,_=>trivial
 |_::_,_::_,n+1,h=>CX.drop n h.2
theorem CX.take{α β:Type}{R:α->β->Prop}:∀{l:List α} {m:List β} (n:Nat),CX R l m->CX R (l.take n) (m.take n)
 |[],[],0,_=>trivial
 |_::_,_::_,0,_=>trivial
 |[],[],_+1,_=>trivial
 |_::_,_::_,n+1,h=>⟨h.1,CX.take n h.2⟩
structure fb (E0:Env) (w0:World) (E:Env) (w:World):Prop where
 T:∀c,E0.T c->E.T c
 S:∀c,E0.S c->E.S c
 Tof:∀c,E.T c->E0.T c\/E.S c
 Sof:∀c,E.S c->E0.S c\/ ¬E0.T c
 heap:∀c,E0.T c->w.heap[c]? =w0.heap[c]?
 os:w.os=w0.os
 tape:w.tape=w0.tape
 output:w.output=w0.output
 size:w0.heap.size<=w.heap.size
theorem fb.refl(E:Env)(w:World):fb E w E w:=⟨fun _ h=>h,fun _ h=>h,fun _ h=> .inl h,fun _ h=> .inl h,fun _ _=>rfl,rfl,rfl,rfl,ALj _⟩
theorem fb.trans{E E' E'':Env}{w w' w'':World}(h:fb E w E' w')(k:fb E' w' E'' w''):fb E w E'' w'':=
 ⟨fun c hc=>k.T c (h.T c hc),fun c hc=>k.S c (h.S c hc),fun c hc=>(k.Tof c hc).elim (fun h' =>(h.Tof c h').imp id (k.S c)) .inr,
  fun c hc=>(k.Sof c hc).elim (h.Sof c) (fun h' => .inr fun ht=>h' (h.T c ht)),fun c hc=>(k.heap c (h.T c hc)).trans (h.heap c hc),
  k.os.trans h.os,k.tape.trans h.tape,k.output.trans h.output,AOT h.size k.size⟩
theorem Le.base{E E':Env}(h:Le E E')(w:World):fb E w E' w:=⟨h.T,h.S,h.Tof,h.Sof,fun _ _=>rfl,rfl,rfl,rfl,ALj _⟩
def BRB(E:Env)(w:World)(k:Nat):Bx->Nat->Prop
 | .mem _,c=>c=E.Hg k
 | .sl _ r rows,c=>RB w (.sl r) [E.Hi k] rows c
 | .dead,_=>False
def WQ:Bx->Bx->Prop
 | .mem _,.mem _=>True
 | .sl _ r x,.sl _ q y=>(⟨r,x⟩:(r:Ty)×List r.D)=⟨q,y⟩
 |_,_=>False
structure Rx (t:AAc) (E0:Env) (bx0:List Bx) (w0:World) (E:Env) (bx:List Bx) (w:World):Prop where
 base:fb E0 w0 E w
 len:bx0.length<=bx.length
 ids:∀b,b<bx0.length->E.Hg b=E0.Hg b/\E.Hi b=E0.Hi b
 dead:∀b:Nat,bx0[b]? =some Bx.dead->bx[b]? =some Bx.dead
 frame:∀(n:Nat) B B',n∉t->bx0[n]? =some B->bx[n]? =some B'->B'≠ .dead->WQ B B'/\ ∀c,BRB E0 w0 n B c->w.heap[c]? =w0.heap[c]?
theorem Rx.any{E E':Env}{bx RF:List Bx}{w w':World}(h:Rx [] E bx w E' RF w'){t:AAc}:Rx t E bx w E' RF w':=
 ⟨h.base,h.len,h.ids,h.dead,fun n B B' _=>h.frame n B B' (by simp)⟩
theorem WQ.refl{B:Bx}(h:B≠ .dead):WQ B B:=by cases B<;>simp_all[WQ]
theorem Rx.refl(t:AAc)(E:Env)(bx:List Bx)(w:World):Rx t E bx w E bx w:=⟨fb.refl E w,ALj _,fun _ _=>⟨rfl,rfl⟩,fun _ h=>h,fun n B B' _ h h' hd=>by
 rw[h]at h';cases h';exact⟨WQ.refl hd,fun _ _=>rfl⟩⟩
theorem gh{E:Env}{w:World}{vw:List Bx}{k:Nat}{B:Bx}{F:AAc}{c:Nat}(h:tP E w vw k B F)(hc:BRB E w k B c):E.S c\/c∈F:=by
 cases B with
 |mem cs=>obtain⟨rfl,_⟩:=h;grind[BRB]
 |sl d r rows=>exact xK (ZJ h.2) hc
 |dead=>exact hc.elim
structure Rel (E:Env) (σ:St) (a:Act) (w:World):Prop where
 N4:a.defers=[]
 tm:CX (XR E w σ.bx) σ.tm a.tmps.toList
 bx:C0 E w σ.bx σ.bx []
theorem Rel.put{E:Env}{σ:St}{a:Act}{w:World}(h:Rel E σ a w)(dst:Option Tmp){x:XV}{v:Value}(hx:XR E w σ.bx x v):Rel E (σ.put dst x) (a.put dst v) w:=by
 cases dst with
 |none=>exact h
 |some d=>exact⟨h.N4,by simpa[St.put,Act.put]using CX.set h.tm hx,h.bx⟩
theorem CX.ANY{E:Env}{w:World}{vw:List Bx}{l:List XV}{m:Array Value}(h:CX (XR E w vw) l m.toList)(t:Nat):XR E w vw (l.getD t (.c .undef)) (m.getD t undef):=by
 by_cases ht:t<l.length
 ·have e:l[t]? =some l[t]:=AJA ht
  obtain⟨b,hb,hr⟩:=h.get e;simp_all
 ·have e:l[t]? =none:=by simp_all
  simp only[List.getD_eq_getElem?_getD,e,Option.getD_none]
  trivial
theorem vY{E:Env}{w:World}{vw:List Bx}(v:Value):VR E w vw (qe v) v:=by
 unfold qe;split<;>first
  |trivial
  |exact⟨rfl,by simp[Rd]⟩
  |rfl
theorem oN{E:Env}{w:World}{vw:List Bx}:∀(l:List Value),jy E w vw (l.map qe) l
 |[]=>trivial
 |a::l=>⟨vY a,oN l⟩
theorem AA3{E:Env}{w:World}{vw:List Bx}(v:Value):XR E w vw (ofValue v) v:=by
 unfold ofValue;split
 ·rename_i cs
  exact⟨cs,rfl,oN cs.toList⟩
 ·exact vY v
theorem Rel.ev{E:Env}{σ:St}{a:Act}{w:World}(h:Rel E σ a w)(x:Operand):XR E w σ.bx (σ.ev x) (a.eval x):=by
 cases x with
 |tmp t=>exact CX.ANY h.tm t
 |const v=>exact AA3 v
 |global g=>trivial
 |func f=>exact⟨by simp,rfl⟩
theorem VY{b:Nat}:∀{Fs:List AAc} {F:AAc},Fs[b]? =some F->Fs.flatten.Perm (F++(Fs.set b []).flatten):=by
 induction b with
 |zero=>
  intro Fs F h;cases Fs with
  |nil=>simp at h
  |cons A l=>simp_all
 |succ b ih=>
  intro Fs F h;cases Fs with
  |nil=>simp at h
  |cons A l=>
   grind
theorem Sep.perm{E:Env}{w:World}{F F':AAc}(h:Sep E w F)(p:F.Perm F'):Sep E w F':=
 ⟨p.nodup_iff.1 h.nodup,fun c hc=>h.free c (p.mem_iff.2 hc),fun c hc=>h.lt c (p.mem_iff.2 hc),h.st,h.cI,h.tu⟩
theorem Sep.sub{E:Env}{w:World}{F F':AAc}(h:Sep E w (F++F')):Sep E w F:=
 ⟨(AKg.1 h.nodup).1,fun c hc=>h.free c (by simp[hc]),fun c hc=>h.lt c (by simp[hc]),h.st,h.cI,h.tu⟩
theorem C0.perm{E:Env}{w:World}{vw bx:List Bx}{G G':AAc}(h:C0 E w vw bx G)(p:G.Perm G'):C0 E w vw bx G':=
 let⟨Fs,h1,h2⟩:=h
 ⟨Fs,h1,h2.perm (APK _ p)⟩
theorem C0.drop{E:Env}{w:World}{vw bx:List Bx}{G G':AAc}(h:C0 E w vw bx (G++G')):C0 E w vw bx G:=
 let⟨Fs,h1,h2⟩:=h
 ⟨Fs,h1,by rw[<-AKK]at h2;exact h2.sub⟩
theorem C0.st{E:Env}{w:World}{vw bx:List Bx}{G:AAc}(h:C0 E w vw bx G):∀c,E.S c->E.T c:=let⟨_,_,h⟩:=h;h.st
theorem C0.cI{E:Env}{w:World}{vw bx:List Bx}{G:AAc}(h:C0 E w vw bx G):∀c,E.T c->c<w.heap.size:=let⟨_,_,h⟩:=h;h.cI
theorem C0.tu{E:Env}{w:World}{vw bx:List Bx}{G:AAc}(h:C0 E w vw bx G):Gok E w:=let⟨_,_,h⟩:=h;h.tu
theorem C0.AGV{E:Env}{w:World}{vw bx:List Bx}{G:AAc}(h:C0 E w vw bx G):∀c∈G,¬E.T c:=let⟨_,_,h⟩:=h;fun c hc=>h.free c (by simp[hc])
theorem C0.take{E:Env}{w:World}{vw bx:List Bx}{G:AAc}(h:C0 E w vw bx G){b:Nat}{B:Bx}(hb:bx[b]? =some B):
  ∃F,tP E w vw b B F/\C0 E w vw (bx.set b .dead) (F++G):=by
 obtain⟨Fs,⟨hl,h1⟩,h2⟩:=h;have IQ:=(AJM.1 hb).1;have hF:Fs[b]? =some (Fs[b]'(by omega)):=AJA _;refine⟨_,h1 b B _ hb hF,Fs.set b [],⟨by simp_all,fun k C F hk hkF=> ?_⟩,h2.perm ?_⟩
 ·by_cases e:k=b
  ·subst e
   rw[AMq (by omega)]at hk hkF;cases hk;cases hkF;rfl
  grind
 grind[List.Perm.append_right,VY,List.append_assoc,List.perm_append_comm,trans,List.Perm.append_left]
theorem C0.put{E:Env}{w:World}{vw bx:List Bx}{F G:AAc}(h:C0 E w vw bx (F++G)){b:Nat}{B:Bx}(hb:bx[b]? =some .dead)(hB:tP E w vw b B F):
  C0 E w vw (bx.set b B) G:=by
 obtain⟨Fs,⟨hl,h1⟩,h2⟩:=h;have IQ:=(AJM.1 hb).1;have hF:Fs[b]? =some (Fs[b]'(by omega)):=AJA _;have e0:Fs[b]'(by omega)=[]:=h1 b _ _ hb hF;refine⟨Fs.set b F,⟨by simp_all,fun k C F' hk hkF=> ?_⟩,h2.perm ?_⟩
 ·grind
 ·have p:(Fs.set b F).flatten.Perm (F++Fs.flatten):=by
   have p1:=VY (Fs:=Fs.set b F) (b:=b) (F:=F) (AMq (by omega));rw[ATJ]at p1;have p2:=VY hF;grind
  grind
theorem C0.push{E:Env}{w:World}{vw bx:List Bx}{F G:AAc}(h:C0 E w vw bx (F++G)){B:Bx}(hB:tP E w vw bx.length B F):
  C0 E w vw (bx++[B]) G:=by
 obtain⟨Fs,⟨hl,h1⟩,h2⟩:=h;refine⟨Fs++[F],⟨by simp[hl],fun k C F' hk hkF=> ?_⟩,h2.perm (by simp)⟩;grind
theorem C0.turn{E E':Env}{w w':World}{vw vw' bx:List Bx}{G:AAc}(h:C0 E w vw bx G)(k:∀x v,VR E w vw x v->VR E' w' vw' x v)
  (hS:∀c,E.S c->E'.S c) (AFi:∀b,b<bx.length->E'.Hg b=E.Hg b) (jj:∀b,b<bx.length->E'.Hi b=E.Hi b)
  (hw:∀c,(E.S c\/(¬E.T c/\c∉G))->c<w.heap.size->w'.heap[c]? =w.heap[c]?)
  (AFF:∀F,Sep E w (F++G)->Sep E' w' (F++G)):C0 E' w' vw' bx G:=by
 obtain⟨Fs,⟨hl,h1⟩,h2⟩:=h;refine⟨Fs,⟨hl,fun n B F hn hF=> ?_⟩,AFF _ h2⟩;have IQ:=(AJM.1 hn).1;have h3:=h1 n B F hn hF;have AOo:∀c∈F,c∈Fs.flatten:=fun c hc=>ANa.2 ⟨F,ALA hF,hc⟩
 have hFw:∀c∈F,w'.heap[c]? =w.heap[c]?:=fun c hc=>hw c (.inr ⟨h2.free c (by simp_all),fun hg=>by
  have:=(AKg.1 h2.nodup).2.2 c (AOo c hc) c hg;omega⟩) (h2.lt c (by simp_all))
 have vF:∀c,E.S c->w'.heap[c]? =w.heap[c]?:=fun c hc=>hw c (.inl hc) (h2.cI c (h2.st c hc))
 cases B with
 |mem cs=>
  obtain⟨rfl,arr,ty,fr,ha,hu,hv⟩:=h3;refine⟨by simp_all,arr,ty,fr,?_,hu,hv.imp k⟩;simp_all
 |sl d r rows=>
  obtain⟨hd,ho⟩:=h3;refine⟨hd,?_⟩;grind[EP]
 |dead=>exact h3
end Go.Fw
end
section
namespace Go.Fw
theorem IF{β:Ty->Type}{a b:Ty}{x:β a}{y:β b}(h:Q9 a b x=some y):∃e:a=b,e▸x=y:=by
 grind[Q9]
def FB(bk vw:List Bx):Prop:= ∀(b:Nat) (B:Bx),bk[b]? =some B->B= .dead\/vw[b]? =some B
theorem FB.refl(bx:List Bx):FB bx bx:=fun _ _ h=> .inr h
theorem Addr.add_eq(b o n:Nat):(⟨b,o,none⟩:Addr).add n=⟨b,o+n,none⟩:=by grind[Addr.add]
theorem AA5{w:World}{B:Nat->Prop}{r:Ty}{a:Option Addr}{len cap:Nat}{ys:List r.D}(h:Rd w B (.sl r) [.slice a len cap] ys){off n:Nat}(hn:off+n<=ys.length):
  Rd w B (.sl r) [WV r.n off n a cap] ((ys.drop off).take n):=by
 simp only[Rd]at h|-;obtain⟨a',cap',e,hc,h⟩:=h;simp only[AL9,Value.slice.injEq,AO1]at e;obtain⟨rfl,rfl,rfl⟩:=e;have hl:((ys.drop off).take n).length=n:=by grind
 refine⟨_,_,by unfold WV;rw[hl],by omega,?_⟩;rw[hl];by_cases h0:n=0
 ·omega
 ·rcases h with h|⟨b,o,rfl,hb,h⟩
  ·omega
  ·refine .inr ⟨b,o+off*r.n,?_,hb,fun i y hy=> ?_⟩
   ·rw[AJD (by omega)]
    simp[Addr.add_eq]
   grind
def sg(E:Env)(Fs:List AAc)(c:Nat):Prop:=E.T c\/c∈Fs.flatten
section
variable{E:Env} {w:World} {vw bk:List Bx} {Fs:List AAc}
theorem NU.get(h:NU E w vw bk Fs){b:Nat}{B:Bx}(e:bk[b]? =some B):∃F,tP E w vw b B F/\ ∀c∈F,c∈Fs.flatten:=by
 have IQ:=(AJM.1 e).1;have hF:Fs[b]? =some (Fs[b]'(by rw[h.1];omega)):=AJA _;exact⟨_,h.2 b B _ e hF,fun c hc=>ANa.2 ⟨_,ALA hF,hc⟩⟩
theorem fm(hs:FB bk vw)(h:NU E w vw bk Fs)(st:∀c,E.S c->E.T c){b d:Nat}{r:Ty}{rows:List r.D}(e:bk[b]? =some (.sl d r rows))
  {p:List Xv} (hp:DC r rows p) {q:Ty} {ys:List q.D} (hg:Gu r rows p=some ⟨q,ys⟩) {v:Value} (hh:I1 w (E.Hi b) p=some v):
  Rd w (sg E Fs) (.sl q) [v] ys:=by
 obtain⟨F,⟨_,ho⟩,hF⟩:=h.get e;obtain⟨h',k,hr⟩:=qJ (ZJ ho) hp hg;have:=k w (fun _ _=>rfl);rw[hh]at this;cases this;exact Fe (fun c hc=>hc.elim (fun hc=> .inl (st c hc)) (fun hc=> .inr (hF c hc))) (fun _ _=>rfl) hr
theorem aE(hs:FB bk vw){b d:Nat}{r:Ty}{rows:List r.D}(e:bk[b]? =some (.sl d r rows)):vw[b]? =some (.sl d r rows):=by
 rcases hs b _ e with h|h
 all_goals simp_all
theorem bd(hs:FB bk vw)(h:NU E w vw bk Fs)(st:∀c,E.S c->E.T c){x:AV}{v:Value}(hv:VR E w vw x v){q:Ty}{ys:List q.D}(e:NS bk x=some ⟨q,ys⟩):
  Rd w (sg E Fs) (.sl q) [v] ys:=by
 cases x with
 |sl s r x=>
  simp only[NS,AJL,AK7]at e;obtain⟨rfl,e⟩:=e;obtain rfl:=ANi e;simp only[VR]at hv;refine Fe (fun c hc=> ?_) (fun _ _=>rfl) hv;cases s
  ·exact .inl (by simp_all)
  ·exact .inl (st c (by simp_all))
 |ref b p=>
  grind[NS,VR,aE,fm]
 |win b p off n=>
  simp only[NS]at e;split at e
  ·rename_i d r rows hb
   simp only[VR,aE hs hb]at hv;obtain⟨_,hp,q',xk,a,len,cap,hg,hl,hh,rfl⟩:=hv;rw[hg]at e;simp only[AQn,AJL,AK7]at e;obtain⟨rfl,e⟩:=e;obtain rfl:=ANi e;grind[AA5,fm]
  simp_all
 |_=>simp[NS]at e
theorem Vz(hs:FB bk vw)(h:NU E w vw bk Fs)(st:∀c,E.S c->E.T c){t:Ty}{x:AV}{v:Value}(hv:VR E w vw x v){y:t.D}(e:Mx bk t x=some y):
  Rd w (sg E Fs) t [v] y:=by
 have sl:∀(r:Ty) (x:AV) (v:Value) (y:List r.D),VR E w vw x v->((NS bk x).bind fun q=>Q9 (β:=fun r=>List r.D) q.1 r q.2)=some y->Rd w (sg E Fs) (.sl r) [v] y:=by
  grind[Option.bind_eq_some_iff,IF,bd]
 cases x with
 |v u z=>
  simp only[Mx]at e;obtain⟨e1,e2⟩:=IF e;subst e1;subst e2;exact Fe (fun _ hc=>hc.elim) (fun _ hc=>hc.elim) hv.2
 |nil=>
  cases t with
  |sl r=>
   simp only[Mx,AJL]at e;subst e;simp only[VR]at hv;subst hv;simp only[Rd];simp_all
  |_=>simp[Mx]at e
 |_=>
  cases t with
  |sl r=>exact sl r _ _ y hv (by simpa only[Mx]using e)
  |_=>simp[Mx]at e
theorem jC(hs:FB bk vw)(h:NU E w vw bk Fs)(st:∀c,E.S c->E.T c):∀{r:Ty} {l:List AV} {vs:List Value} {x:r.D},jy E w vw l vs->H7 bk r l=some x->
  Rd w (sg E Fs) r vs x
 | .unit,[],[],x,_,_=>by rfl
 | .cons c r,a::l,v::vs,x,hv,e=>by
  simp only[H7,AJa,AJN]at e;obtain⟨y,e1,z,e2,rfl⟩:=e;simp only[Rd];exact⟨v,vs,rfl,Vz hs h st hv.1 e1,jC hs h st hv.2 e2⟩
 | .unit,_::_,_,_,_,e=>by simp[H7]at e
 | .unit,[],_::_,_,hv,_=>hv.elim
 | .cons _ _,[],_,_,_,e=>by simp[H7]at e
 | .cons _ _,_::_,[],_,hv,_=>hv.elim
 | .int _,_,_,_,_,e=>by simp[H7]at e
 | .bool,_,_,_,_,e=>by simp[H7]at e
 | .str,_,_,_,_,e=>by simp[H7]at e
 | .sl _,_,_,_,_,e=>by simp[H7]at e
theorem ln{E1:Env}{vw1:List Bx}(hs:FB bk vw)(h:NU E w vw bk Fs)(st:∀c,E.S c->E.T c)(hT:∀c,sg E Fs c->E1.T c):
  ∀{r:Ty} {l:List AV} {vs:List Value} {x:r.D},jy E w vw l vs->H7 bk r l=some x->jy E1 w vw1 (lA r x) vs
 | .unit,[],[],x,_,_=>trivial
 | .cons c r,a::l,v::vs,x,hv,e=>by
  simp only[H7,AJa,AJN]at e;obtain⟨y,e1,z,e2,rfl⟩:=e;have ZN:=Vz hs h st hv.1 e1;have tl:jy E1 w vw1 _ _:=ln hs h st hT hv.2 e2;cases c with
  |sl q=>
   refine⟨?_,tl⟩;simp only[VR];exact Fe hT (fun _ _=>rfl) (by omega)
  |int k=>exact⟨⟨rfl,by grind[Rd]⟩,tl⟩
  |bool=>exact⟨⟨rfl,by grind[Rd]⟩,tl⟩
  |str=>exact⟨⟨rfl,by grind[Rd]⟩,tl⟩
  |unit=>
   grind[Rd]
  |cons c' r' =>
   exfalso
   cases a with
   |v u z=>
    simp only[Mx]at e1;obtain⟨e3,_⟩:=IF e1;subst e3;exact absurd hv.1.1 (by simp[Ty.scalar])
   |_=>simp[Mx]at e1
 | .unit,_::_,_,_,_,e=>by simp[H7]at e
 | .unit,[],_::_,_,hv,_=>hv.elim
 | .cons _ _,[],_,_,_,e=>by simp[H7]at e
 | .cons _ _,_::_,[],_,hv,_=>hv.elim
 | .int _,_,_,_,_,e=>by simp[H7]at e
 | .bool,_,_,_,_,e=>by simp[H7]at e
 | .str,_,_,_,_,e=>by simp[H7]at e
 | .sl _,_,_,_,_,e=>by simp[H7]at e
end
end Go.Fw
end
section
namespace Go.Fw
def Ext(m m':P5):Prop:=m'.length=m.length/\ ∀(i b:Nat),m[i]? =some (some b)->m'[i]? =some (some b)
theorem Ext.refl(m:P5):Ext m m:=⟨rfl,fun _ _ h=>h⟩
theorem Ext.trans{m m' m'':P5}(h:Ext m m')(k:Ext m' m''):Ext m m'':=⟨k.1.trans h.1,fun i b e=>k.2 i b (h.2 i b e)⟩
def rm(m:P5):Prop:= ∀(i j b:Nat),m[i]? =some (some b)->m[j]? =some (some b)->i=j
theorem fL{m m':P5}{i b:Nat}(e:m.put i b=some m'):Ext m m'/\m'[i]? =some (some b)/\(rm m->rm m'):=by
 unfold P5.put at e;split at e
 ·rename_i h
  split at e
  ·cases e
  ·rename_i hc
   cases e;have IQ:=(AJM.1 h).1;have ASx:∀(k:Nat),m[k]?≠some (some b):=fun k hk=>hc (by
    grind)
   refine⟨⟨by simp,fun k c hk=> ?_⟩,by simp[IQ],fun hi j k c hj hk=> ?_⟩
   ·grind
   ·by_cases e1:j=i<;>by_cases e2:k=i
    ·omega
    ·grind
    ·grind
    ·rw[ALE (by omega)]at hj hk
     exact hi j k c hj hk
 all_goals grind[Ext.refl]
def SO(m:P5):List Nat->List Nat->Prop
 |[],[]=>True
 |i::is,b::bs=>m[i]? =some (some b)/\SO m is bs
 |_,_=>False
theorem SO.ext{m m':P5}(h:Ext m m'):∀{is bs},SO m is bs->SO m' is bs
 |[],[],_=>trivial
 |_::_,_::_,k=>⟨h.2 _ _ k.1,SO.ext h k.2⟩
theorem lj:∀{is bs:AAc} {m m':P5},dP m is bs=some m'->Ext m m'/\SO m' is bs/\(rm m->rm m')
 |[],[],m,m',e=>by simp only[dP,AJL]at e;subst e;exact⟨Ext.refl _,trivial,fun h=>h⟩
 |i::is,b::bs,m,m',e=>by
  simp only[dP,AJa]at e;obtain⟨m1,e1,e2⟩:=e;obtain⟨a1,a2,a3⟩:=fL e1;obtain⟨b1,b2,b3⟩:=lj e2;exact⟨a1.trans b1,⟨b1.2 _ _ a2,b2⟩,fun h=>b3 (a3 h)⟩
 |[],_::_,_,_,e=>by simp[dP]at e
 |_::_,[],_,_,e=>by simp[dP]at e
def TW(N:Nat)(m:P5):AP->AV->Prop
 | .ref i,x=> ∃b,(x= .ref b []\/(x= .nil/\b=N+i))/\m[i]? =some (some b)
 | .ptr i j,x=> ∃b,x= .IX b j/\m[i]? =some (some b)
 | .fn f Ka,x=> ∃bs,x= .fn f bs/\SO m Ka bs
 | .nil,x=>x= .nil
 | .mH i sz,x=> ∃b k j,x= .ref b [⟨k,sz,j⟩]/\m[i]? =some (some b)
 |_,_=>True
theorem TW.ext{N:Nat}{m m':P5}(h:Ext m m'){p:AP}{x:AV}(k:TW N m p x):TW N m' p x:=by
 cases p with
 |ref i=>obtain⟨b,hx,k⟩:=k;exact⟨b,hx,h.2 _ _ k⟩
 |ptr i j=>obtain⟨b,rfl,k⟩:=k;exact⟨b,rfl,h.2 _ _ k⟩
 |fn f Ka=>obtain⟨bs,rfl,k⟩:=k;exact⟨bs,rfl,k.ext h⟩
 |nil=>exact k
 |mH i sz=>obtain⟨b,q,j,rfl,k⟩:=k;exact⟨b,q,j,rfl,h.2 _ _ k⟩
 |_=>trivial
theorem fj{N:Nat}{m m':P5}{p:AP}{x:AV}(e:p.OA N m x=some m'):Ext m m'/\TW N m' p x/\(rm m->rm m'):=by
 cases p with
 |ref i=>
  cases x with
  |ref b q=>
   cases q with
   |nil=>
    obtain⟨a,b,c⟩:=fL (by simpa only[AP.OA]using e);exact⟨a,⟨_,.inl rfl,b⟩,c⟩
   |cons _ _=>simp[AP.OA]at e
  |nil=>
   obtain⟨a,b,c⟩:=fL (by simpa only[AP.OA]using e);exact⟨a,⟨_,.inr ⟨rfl,rfl⟩,b⟩,c⟩
  |_=>simp[AP.OA]at e
 |ptr i j=>
  cases x with
  |IX b j' =>
   simp only[AP.OA]at e;split at e
   ·rename_i hj
    subst hj;obtain⟨a,b,c⟩:=fL e;exact⟨a,⟨_,rfl,b⟩,c⟩
   simp_all
  |_=>simp[AP.OA]at e
 |fn f Ka=>
  cases x with
  |fn g bs=>
   simp only[AP.OA]at e;split at e
   ·rename_i hf
    subst hf;obtain⟨a,b,c⟩:=lj e;exact⟨a,⟨_,rfl,b⟩,c⟩
   simp_all
  |_=>simp[AP.OA]at e
 |nil=>
  cases x with
  |nil=>simp only[AP.OA,AJL]at e;subst e;exact⟨Ext.refl _,rfl,fun h=>h⟩
  |_=>simp[AP.OA]at e
 |mH i sz=>
  cases x with
  |ref b q=>
   cases q with
   |nil=>simp[AP.OA]at e
   |cons s q=>
    cases q with
    |nil=>
     simp only[AP.OA]at e;split at e
     ·rename_i hs
      obtain⟨a,b,c⟩:=fL e;obtain⟨k,z,y⟩:=s;dsimp only at hs;subst hs;exact⟨a,⟨_,k,y,rfl,b⟩,c⟩
     simp_all
    |cons _ _=>simp[AP.OA]at e
  |_=>simp[AP.OA]at e
 |_=>
  have:m=m':=by grind[AP.OA]
  subst this;exact⟨Ext.refl _,trivial,fun h=>h⟩
theorem XN{N:Nat}:∀{l:List AP} {xs:List AV} {m m':P5},ZL.OA N m l xs=some m'->Ext m m'/\CX (TW N m') l xs/\(rm m->rm m')
 |[],[],m,m',e=>by simp only[ZL.OA,AJL]at e;subst e;exact⟨Ext.refl _,trivial,fun h=>h⟩
 |p::l,x::xs,m,m',e=>by
  simp only[ZL.OA,AJa]at e;obtain⟨m1,e1,e2⟩:=e;obtain⟨a1,a2,a3⟩:=fj e1;obtain⟨b1,b2,b3⟩:=XN e2;exact⟨a1.trans b1,⟨a2.ext b1,b2⟩,fun h=>b3 (a3 h)⟩
 |[],_::_,_,_,e=>by simp[ZL.OA]at e
 |_::_,[],_,_,e=>by simp[ZL.OA]at e
def jP(N:Nat)(m:P5):AP ⊕ List AP->AV ⊕ List AV->Prop
 | .inl p,.inl x=>TW N m p x
 | .inr p,.inr x=>CX (TW N m) p x
 |_,_=>False
theorem jP.ext{N:Nat}{m m':P5}(h:Ext m m'):∀{p:AP ⊕ List AP} {x:AV ⊕ List AV},jP N m p x->jP N m' p x
 | .inl _,.inl _,k=>TW.ext h k
 | .inr _,.inr _,k=>CX.imp (fun _ _ k=>TW.ext h k) k
theorem dZ{N:Nat}:∀{l:List (AP ⊕ List AP)} {xs:List (AV ⊕ List AV)} {m m':P5},Zi.OA N m l xs=some m'->Ext m m'/\CX (jP N m') l xs/\(rm m->rm m')
 |[],[],m,m',e=>by simp only[Zi.OA,AJL]at e;subst e;exact⟨Ext.refl _,trivial,fun h=>h⟩
 | .inl p::l,.inl x::xs,m,m',e=>by
  simp only[Zi.OA,AJa]at e;obtain⟨m1,e1,e2⟩:=e;obtain⟨a1,a2,a3⟩:=fj e1;obtain⟨b1,b2,b3⟩:=dZ e2;exact⟨a1.trans b1,⟨TW.ext b1 a2,b2⟩,fun h=>b3 (a3 h)⟩
 | .inr p::l,.inr x::xs,m,m',e=>by
  simp only[Zi.OA,AJa]at e;obtain⟨m1,e1,e2⟩:=e;obtain⟨a1,a2,a3⟩:=XN e1;obtain⟨b1,b2,b3⟩:=dZ e2;exact⟨a1.trans b1,⟨CX.imp (fun _ _ k=>TW.ext b1 k) a2,b2⟩,fun h=>b3 (a3 h)⟩
 |[],_::_,_,_,e=>by simp[Zi.OA]at e
 | .inl _::_,[],_,_,e=>by simp[Zi.OA]at e
 | .inr _::_,[],_,_,e=>by simp[Zi.OA]at e
 | .inl _::_,.inr _::_,_,_,e=>by simp[Zi.OA]at e
 | .inr _::_,.inl _::_,_,_,e=>by simp[Zi.OA]at e
def dY(N:Nat)(m:P5):XP->XV->Prop
 | .c p,.c x=>TW N m p x
 | .agg l,.agg xs=>CX (TW N m) l xs
 | .row _,.agg _=>True
 | .MA l,.MA xs=>CX (jP N m) l xs
 |_,_=>False
theorem dY.ext{N:Nat}{m m':P5}(h:Ext m m'):∀{p:XP} {x:XV},dY N m p x->dY N m' p x
 | .c _,.c _,k=>TW.ext h k
 | .agg _,.agg _,k=>CX.imp (fun _ _ k=>TW.ext h k) k
 | .row _,.agg _,_=>trivial
 | .MA _,.MA _,k=>CX.imp (fun _ _ k=>jP.ext h k) k
theorem AAE{N:Nat}{m m':P5}:∀{p:XP} {x:XV},p.OA N m x=some m'->Ext m m'/\dY N m' p x/\(rm m->rm m')
 | .c p,.c x,e=>fj (by grind[XP.OA])
 | .agg l,.agg xs,e=>XN (by grind[XP.OA])
 | .row r,.agg xs,e=>by simp only[XP.OA,AJL]at e;subst e;exact⟨Ext.refl _,trivial,fun h=>h⟩
 | .MA l,.MA xs,e=>dZ (by grind[XP.OA])
 | .c _,.agg _,e=>by simp[XP.OA]at e
 | .c _,.MA _,e=>by simp[XP.OA]at e
 | .agg _,.c _,e=>by simp[XP.OA]at e
 | .agg _,.MA _,e=>by simp[XP.OA]at e
 | .row _,.c _,e=>by simp[XP.OA]at e
 | .row _,.MA _,e=>by simp[XP.OA]at e
 | .MA _,.c _,e=>by simp[XP.OA]at e
 | .MA _,.agg _,e=>by simp[XP.OA]at e
theorem fx{N:Nat}{tm:List XV}:∀{l:List (Nat×XP)} {m m':P5},GF.OA N tm m l=some m'->
  Ext m m'/\(∀q∈l,∃x,tm[q.1]? =some x/\dY N m' q.2 x)/\(rm m->rm m')
 |[],m,m',e=>by grind[GF.OA,Option.some.injEq,Ext.refl]
 |(i,p)::l,m,m',e=>by
  simp only[GF.OA]at e;split at e
  ·rename_i x hx
   simp only[AJa]at e;obtain⟨m1,e1,e2⟩:=e;obtain⟨a1,a2,a3⟩:=AAE e1;obtain⟨b1,b2,b3⟩:=fx e2;refine⟨a1.trans b1,?_,fun h=>b3 (a3 h)⟩;intro q hq;rcases ALa.1 hq with rfl|hq
   all_goals grind[dY.ext]
  simp_all
theorem XQ{N:Nat}{bx:List Bx}:∀{l:List BP} {i:Nat} {m m':P5},I8.OA N bx i m l=some m'->
  Ext m m'/\(∀(k:Nat) q,l[k]? =some (.mem q)-> ∃b cs,m'[i+k]? =some (some b)/\bx[b]? =some (.mem cs)/\CX (TW N m') q cs)/\
   (∀(k:Nat) d r,l[k]? =some (.sl d r)-> ∃b,m'[i+k]? =some (some b))/\(rm m->rm m')
 |[],i,m,m',e=>by grind[I8.OA,Option.some.injEq,Ext.refl]
 | .mem q::l,i,m,m',e=>by
  simp only[I8.OA]at e;split at e
  ·rename_i b hb
   split at e
   ·rename_i cs yc
    simp only[AJa]at e;obtain⟨m1,e1,e2⟩:=e;obtain⟨a1,a2,a3⟩:=XN e1;obtain⟨b1,b2,b4,b3⟩:=XQ e2;refine⟨a1.trans b1,?_,?_,fun h=>b3 (a3 h)⟩
    ·intro k q' hk
     cases k with
     |zero=>cases hk;exact⟨b,cs,b1.2 _ _ (a1.2 _ _ hb),yc,CX.imp (fun _ _ k=>TW.ext b1 k) a2⟩
     |succ k=>
      grind
    grind
   simp_all
  simp_all
 | .sl d r::l,i,m,m',e=>by
  simp only[I8.OA]at e;split at e
  ·rename_i b hb
   obtain⟨b1,b2,b4,b3⟩:=XQ e;refine⟨b1,?_,?_,b3⟩
   ·grind
   ·intro k d r hk
    cases k with
    |zero=>exact⟨b,b1.2 _ _ hb⟩
    |succ k=>
     grind
  simp_all
 | .gone::l,i,m,m',e=>by
  simp only[I8.OA]at e;obtain⟨b1,b2,b4,b3⟩:=XQ e;grind
theorem SA{bx bk:List Bx}{Jl:Nat->Nat}:∀{l:List BP} {m:P5} {x:I8.V l},I8.get bx bk m l=some x->(I8.mk Jl l x).length=l.length/\
  ∀(k:Nat) p,l[k]? =some p-> ∃y:p.V,(I8.mk Jl l x)[k]? =some (p.mk Jl y)/\
   match p,y with
   | .mem q,y=> ∃b cs,m[k]? =some (some b)/\bx[b]? =some (.mem cs)/\ZL.get bk q cs=some y
   | .sl d r,y=> ∃b d',m[k]? =some (some b)/\bx[b]? =some (.sl d' r y)/\1<=d/\d<=d'
   | .gone,_=>True
 |[],m,x,e=>⟨rfl,by simp⟩
 | .mem q::l,some b::m,x,e=>by
  simp only[I8.get]at e;split at e
  ·rename_i cs yc
   simp only[AJa,AJN]at e;obtain⟨a,e1,c,e2,rfl⟩:=e;obtain⟨h1,h2⟩:=SA (Jl:=Jl) e2;refine⟨by simp[I8.mk,h1],fun k p hk=> ?_⟩;cases k with
   |zero=>cases hk;exact⟨a,rfl,b,cs,rfl,yc,e1⟩
   |succ k=>
    grind[I8.mk]
  simp_all
 | .sl d r::l,some b::m,x,e=>by
  simp only[I8.get]at e;split at e
  ·rename_i d' q rows hb
   split at e
   ·rename_i hd
    simp only[AJa,AJN]at e;obtain⟨a,e1,c,e2,rfl⟩:=e;obtain⟨e3,e4⟩:=IF e1;subst e3;subst e4;obtain⟨h1,h2⟩:=SA (Jl:=Jl) e2;refine⟨by simp[I8.mk,h1],fun k p hk=> ?_⟩;cases k with
    |zero=>cases hk;exact⟨rows,rfl,b,d',rfl,hb,hd.1,hd.2⟩
    |succ k=>
     grind[I8.mk]
   simp_all
  simp_all
 | .gone::l,o::m,x,e=>by
  have e':(I8.get bx bk m l).map (fun c=>((),c))=some x:=by grind[I8.get]
  simp only[AJN]at e';obtain⟨c,e2,rfl⟩:=e';obtain⟨h1,h2⟩:=SA (Jl:=Jl) e2;refine⟨by simp[I8.mk,h1],fun k p hk=> ?_⟩;cases k with
  |zero=>cases hk;exact⟨(),rfl,trivial⟩
  |succ k=>
   grind[I8.mk]
 | .mem q::l,none::m,x,e=>by simp[I8.get]at e
 | .sl d r::l,none::m,x,e=>by simp[I8.get]at e
 | .mem _::_,[],x,e=>by simp[I8.get]at e
 | .sl _ _::_,[],x,e=>by simp[I8.get]at e
 | .gone::_,[],x,e=>by simp[I8.get]at e
theorem HZ:∀{m:P5} {bx:List Bx},(Cx bx m).length=bx.length
 |[],_=>rfl
 |some b::m,bx=>by simp[Cx,HZ]
 |none::m,bx=>by simp[Cx,HZ]
theorem SH:∀{m:P5} {bx vw:List Bx},FB bx vw->FB (Cx bx m) vw
 |[],_,_,h=>h
 |none::m,bx,vw,h=>by simp only[Cx];exact SH h
 |some b::m,bx,vw,h=>by
  simp only[Cx];refine SH fun k B hk=> ?_
  by_cases e:k=b
  ·grind
  ·rw[ALE (by omega)]at hk
   exact h k B hk
theorem Xp:∀{m:P5} {bx:List Bx} {b:Nat} {B:Bx},some b∈m->(Cx bx m)[b]? =some B->B= .dead
 |some c::m,bx,b,B,h,e=>by
  simp only[Cx]at e;by_cases hm:some b∈m
  ·exact Xp hm e
  ·have:c=b:=by
    simp_all
   subst this;have:∀{m:P5} {bx:List Bx},bx[c]? =some .dead->some c∉m->(Cx bx m)[c]? =some .dead:=by
    intro m
    induction m with
    |nil=>intro bx h _;exact h
    |cons o m ih=>
     intro bx h hn;cases o with
     |none=>grind[Cx,List.mem_cons_of_mem]
     |some d=>
      grind[Cx,List.mem_cons_of_mem,List.getElem?_set_ne]
   grind[List.getElem?_eq_some_iff,HZ]
 |none::m,bx,b,B,h,e=>by
  simp only[Cx]at e;exact Xp (by simp_all) e
theorem qU{E:Env}{w:World}{vw:List Bx}:∀{m:P5} {bx:List Bx} {G:AAc},rm m->C0 E w vw bx G->
  ∃Gs:List AAc,Gs.length=m.length/\(∀(k b:Nat) B F,m[k]? =some (some b)->bx[b]? =some B->Gs[k]? =some F->tP E w vw b B F)/\
   C0 E w vw (Cx bx m) (Gs.flatten++G)
 |[],bx,G,_,h=>⟨[],rfl,by simp,h⟩
 |none::m,bx,G,hi,h=>by
  obtain⟨Gs,h1,h2,h3⟩:=qU (m:=m) (fun i j b D7 hj=>by
   have:=hi (i+1) (j+1) b (by simp_all) (by simp_all);omega) h
  refine⟨[]::Gs,by simp[h1],fun k b B F hk hB hF=> ?_,by grind[Cx]⟩;grind
 |some b::m,bx,G,hi,h=>by
  have AIW:rm m:=fun i j b D7 hj=>by
   have:=hi (i+1) (j+1) b (by simp_all) (by simp_all);omega
  cases e:bx[b]? with
  |none=>
   have cl:bx.set b .dead=bx:=List.set_eq_of_length_le (by simp_all);obtain⟨Gs,h1,h2,h3⟩:=qU (m:=m) AIW h;refine⟨[]::Gs,by simp[h1],fun k b' B F hk hB hF=> ?_,by grind[Cx]⟩;grind
  |some B0=>
   obtain⟨F0,k1,k2⟩:=h.take e;obtain⟨Gs,h1,h2,h3⟩:=qU (m:=m) AIW k2;refine⟨F0::Gs,by simp[h1],fun k b' B F hk hB hF=> ?_,?_⟩
   ·cases k with
    |zero=>
     simp_all
    |succ k=>
     have WJ:b'≠b:=fun hh=>by
      have:=hi 0 (k+1) b (by simp) (by simp_all);omega
     grind
   ·simp only[Cx]
    refine h3.perm ?_
    grind
end Go.Fw
end
section
namespace Go.Fw
theorem q7{R:Nat->List Nat->List Nat->List Nat->Prop}:∀(Gs:List AAc) (o:Nat),(∀(k:Nat) G,Gs[k]? =some G-> ∃F W,G.Perm (F++W)/\R (o+k) G F W)->
  ∃Fs Ws:List AAc,Fs.length=Gs.length/\Ws.length=Gs.length/\Gs.flatten.Perm (Fs.flatten++Ws.flatten)/\
   ∀(k:Nat) G F W,Gs[k]? =some G->Fs[k]? =some F->Ws[k]? =some W->R (o+k) G F W
 |[],o,_=>⟨[],[],rfl,rfl,by simp,by simp⟩
 |G::Gs,o,h=>by
  obtain⟨F,W,hp,hr⟩:=h 0 G rfl;obtain⟨Fs,Ws,h1,h2,h3,h4⟩:=q7 Gs (o+1) (fun k G hk=>by
   have:=h (k+1) G (by simp_all)
   rwa [show o+1+k=o+(k+1)by omega])
  refine⟨F::Fs,W::Ws,by simp[h1],by simp[h2],?_,fun k G' F' W' hG hF hW=> ?_⟩
  all_goals grind
def Mm(E:Env)(w:World)(vw:List Bx)(Jl:Nat->Nat):(l:List (Nat×XP))->GF.V l->List Value->Prop
 |[],_,_=>True
 |(i,p)::l,x,vals=>(∃v,vals[i]? =some v/\XR E w vw (p.mk Jl x.1) v)/\Mm E w vw Jl l x.2 vals
section
variable{E E1:Env} {w:World} {bx bk vw1:List Bx} {Fk:List AAc} {m:P5}
theorem SO.map{f:Nat->Nat}(h:∀(i b:Nat),m[i]? =some (some b)->E1.Hg i=E.Hg b):∀{is bs:AAc},SO m is bs->
  (is.map fun b=>Value.pointer (some ⟨E1.Hg b,0,none⟩))=bs.map fun b=>Value.pointer (some ⟨E.Hg b,0,none⟩)
 |[],[],_=>rfl
 |i::is,b::bs,k=>by simp[h i b k.1,SO.map (f:=f) h k.2]
theorem SO.lt:∀{is bs:AAc},SO m is bs-> ∀i∈is,i<m.length
 |[],[],_,_,h=>by simp at h
 |i::is,b::bs,k,j,h=>by
  rcases ALa.1 h with rfl|h
  ·exact(AJM.1 k.1).1
  ·exact SO.lt k.2 j h
structure AFW (N:Nat) (E:Env) (w:World) (bx bk:List Bx) (Fk:List AAc) (m:P5) (E1:Env) (vw1:List Bx):Prop where
 within:FB bk bx
 boxes:NU E w bx bk Fk
 st:∀c,E.S c->E.T c
 T:∀c,sg E Fk c->E1.T c
 S:∀c,E.S c->E1.S c
 ids:∀(i b:Nat),m[i]? =some (some b)->E1.Hg i=E.Hg b/\E1.Hi i=E.Hi b
 len:m.length<=vw1.length
 nil:∀(i:Nat) d r rows,vw1[i]? =some (.sl d r rows)->E.Hi (N+i)= .slice none 0 0
 sl:∀(i:Nat) d r rows,i<m.length->vw1[i]? =some (.sl d r rows)-> ∃b d',m[i]? =some (some b)/\bx[b]? =some (.sl d' r rows)
variable{N:Nat} (k:AFW N E w bx bk Fk m E1 vw1)
include k
theorem ABC{p:AP}{x:AV}{v:Value}(hv:VR E w bx x v)(ha:TW N m p x){y:p.V}(e:p.get bk x=some y):VR E1 w vw1 (p.mk id y) v:=by
 cases p with
 |v t=>
  simp only[AP.get]at e;split at e
  ·rename_i hs
   have hr:=Vz k.within k.boxes k.st hv e;refine⟨hs,?_⟩;cases t with
   |int _=>grind[Rd]
   |bool=>grind[Rd]
   |str=>grind[Rd]
   |_=>simp[Ty.scalar]at hs
  simp_all
 |sl s r=>
  cases s with
  |false=>
   simp only[AP.get]at e;have hr:=Vz k.within k.boxes k.st hv e;simp only[AP.mk,VR];exact Fe k.T (fun _ _=>rfl) (by omega)
  |true=>
   simp only[AP.get]at e;split at e
   ·rename_i q z
    obtain⟨e1,e2⟩:=IF e;subst e1;subst e2;simp only[AP.mk,VR]at hv|-;exact Fe k.S (fun _ _=>rfl) (by simp_all)
   ·cases e
    simp only[AP.mk,VR]at hv|-;subst hv;simp only[Rd];simp_all
   simp_all
 |nil=>
  obtain rfl:=ha;exact hv
 |ref i=>
  obtain⟨b,hx,hm⟩:=ha;have hi:=(AJM.1 hm).1;simp only[AP.mk,id,VR];rcases hx with rfl|⟨rfl,rfl⟩
  ·have hsl:=hv.1
   refine⟨hsl,?_⟩;cases e1:vw1[i]? with
   |none=>simp at e1;have:=k.len;omega
   |some B=>
    cases B with
    |sl d r rows=>
     obtain⟨b',d',h1,h2⟩:=k.sl i d r rows hi e1;rw[hm]at h1;cases h1;simp only[VR,h2]at hv
     replace hv:=hv.2
     refine⟨by simp[DC],⟨_,rfl⟩,?_⟩;rw[(k.ids i b hm).2];simp_all
    |_=>trivial
  ·have aG:v= .slice none 0 0:=hv
   subst aG;refine⟨rfl,?_⟩;cases e1:vw1[i]? with
   |none=>simp at e1;have:=k.len;omega
   |some B=>
    cases B with
    |sl d r rows=>
     refine⟨by simp[DC],⟨_,rfl⟩,?_⟩;rw[(k.ids i _ hm).2,k.nil i d r rows e1,Cv]
    |_=>trivial
 |ptr i j=>
  obtain⟨b,rfl,hm⟩:=ha;have hi:=(AJM.1 hm).1;exact⟨AOX hi k.len,by rw[hv.2,id,(k.ids i b hm).1]⟩
 |pT r=>
  simp only[AP.get]at e;split at e
  ·rename_i s q z
   obtain⟨e1,e2⟩:=IF e;subst e1;subst e2;simp only[AP.mk,VR]at hv|-;obtain⟨bb,o,cs,h1,h2,h3,h4,h5⟩:=hv;have ANk:∀c,(if s=true then E.S else E.T) c->E1.T c:=by
    intro c hc;cases s
    ·exact k.T c (.inl (by simp_all))
    ·exact k.T c (.inl (k.st c (by simp_all)))
   exact⟨bb,o,cs,h1,by simp_all,h3,h4,by simpa using Fe ANk (fun _ _=>rfl) h5⟩
  ·rename_i b
   split at e
   ·rename_i cs hb
    obtain⟨F,⟨hF,arr,ty,fr,ha,hu,WN⟩,Pu⟩:=k.boxes.get hb;have ZN:=jC k.within k.boxes k.st WN e;simp only[AP.mk,VR];refine⟨E.Hg b,0,arr.toList,by simpa using hv.2,?_,nB ZN,?_,by simpa using Fe k.T (fun _ _=>rfl) ZN⟩
    ·simp only[AJn,AMd]
     exact k.T _ (.inr (Pu _ (by simp_all)))
    ·intro j u hj
     simp only[APB,World.cell?,ha,AO8,AJn,AMd];simp_all
   simp_all
  ·rename_i b p i sz
   split at e
   ·rename_i d q rows hb
    simp only[AJa]at e;obtain⟨⟨q',ys⟩,e1,e2⟩:=e;split at e2
    case isFalse=>cases e2
    rename_i K8;obtain⟨e3,e4⟩:=IF e2;dsimp only at e3;subst e3;subst e4;simp only[VR,aE k.within hb]at hv;obtain⟨_,hp,q1,ys1,bb,o,len,cap,hg,hi,hh,rfl⟩:=hv;rw[hg]at e1;simp only[AJL,AK7]at e1;obtain⟨e5,e6⟩:=e1;subst e5;obtain rfl:=ANi e6;have ZN:=fm k.within k.boxes k.st hb hp hg hh;simp only[Rd]at ZN;obtain⟨a',cap',ee,_,ZN⟩:=ZN;simp only[AL9,Value.slice.injEq,AO1]at ee;obtain⟨rfl,rfl,rfl⟩:=ee;rcases ZN with ZN|⟨b1,o1,e7,hb1,ZN⟩
    ·omega
    ·cases e7
     obtain⟨cs,c1,c2,c3⟩:=ZN i _ (Rh hi);simp only[AP.mk,VR];refine⟨bb,o+i*q1.n,cs,by rw[K8],by simpa using k.T _ hb1,c1,c2,by simpa using Fe k.T (fun _ _=>rfl) c3⟩
   simp_all
  simp_all
 |fn f Ka=>
  obtain⟨bs,rfl,hc⟩:=ha;refine⟨fun i hi=>AOX (hc.lt i (by simp_all)) k.len,?_⟩;rw[hv.2];simp only[AP.mk,ATo];rw[SO.map (f:=id) (fun i b h=>(k.ids i b h).1) hc]
 |ta f rs=>
  simp only[AP.get]at e;split at e
  ·rename_i g rows
   split at e
   case isFalse=>cases e
   rename_i hfg;subst hfg;obtain⟨ps,eE,bu⟩:=hv;refine⟨ps,eE,?_⟩;clear ha eE
   induction rs generalizing rows ps with
   |nil=>
    cases rows with
    |nil=>
     cases ps with
     |nil=>trivial
     |cons _ _=>exact bu.elim
    |cons _ _=>simp[bD.rS]at e
   |cons r rs ih=>
    cases rows with
    |nil=>simp[bD.rS]at e
    |cons q rows=>
     cases ps with
     |nil=>exact bu.elim
     |cons p ps=>
      simp only[bD.rS,AJa,AJN]at e;obtain⟨x1,e1,x2,e2,rfl⟩:=e;obtain⟨q1,q2⟩:=q;obtain⟨e3,e4⟩:=IF e1;dsimp only at e3;subst e3;subst e4;obtain⟨⟨bb,o,cs,h1,h2,h3,h4,h5⟩,bu⟩:=bu;exact⟨⟨bb,o,cs,h1,k.T bb (.inl h2),h3,h4,Fe (fun b hb=>k.T b (.inl hb)) (fun _ _=>rfl) h5⟩,ih rows e2 ps bu⟩
  ·rename_i g bs
   split at e
   case isFalse=>cases e
   rename_i hfg;subst hfg;obtain⟨eE,bu⟩:=hv;refine⟨bs.map fun b=>Value.pointer (some ⟨E.Hg b,0,none⟩),bu,?_⟩;clear ha eE bu
   induction rs generalizing bs with
   |nil=>
    cases bs with
    |nil=>trivial
    |cons _ _=>simp[bD.sO]at e
   |cons r rs ih=>
    cases bs with
    |nil=>simp[bD.sO]at e
    |cons b bs=>
     simp only[bD.sO,AJa,AJN]at e;obtain⟨x1,e1,x2,e2,rfl⟩:=e;split at e1
     case h_2=>cases e1
     rename_i cs hb;obtain⟨F,⟨hF,arr,ty,fr,ha,hu,WN⟩,Pu⟩:=k.boxes.get hb;have ZN:=jC k.within k.boxes k.st WN e1;refine⟨⟨E.Hg b,0,arr.toList,rfl,k.T _ (.inr (Pu _ (by simp_all))),nB ZN,?_,Fe k.T (fun _ _=>rfl) ZN⟩,ih bs e2⟩;intro j u hj;simp only[APB,World.cell?,ha,AO8,AJn,AMd];simp_all
  simp_all
 |any=>trivial
 |mH i sz=>
  obtain⟨b,q,j,rfl,hm⟩:=ha;have hi:=(AJM.1 hm).1;simp only[AP.get,AJL]at e;subst e;simp only[AP.mk,id,VR];have hsl:=hv.1;refine⟨hsl,?_⟩;cases e1:vw1[i]? with
  |none=>simp at e1;have:=k.len;omega
  |some B=>
   cases B with
   |sl d r rows=>
    obtain⟨b',d',h1,h2⟩:=k.sl i d r rows hi e1;rw[hm]at h1;cases h1;simp only[VR,h2]at hv
    replace hv:=hv.2
    refine⟨hv.1,hv.2.1,?_⟩;rw[(k.ids i b hm).2];simp_all
   |_=>trivial
theorem qS:∀{l:List AP} {xs:List AV} {vs:List Value},jy E w bx xs vs->CX (TW N m) l xs-> ∀{y:ZL.V l},ZL.get bk l xs=some y->jy E1 w vw1 (ZL.mk id l y) vs
 |[],[],[],_,_,_,_=>trivial
 |p::l,x::xs,v::vs,hv,ha,y,e=>by
  simp only[ZL.get,AJa,AJN]at e;obtain⟨a,e1,b,e2,rfl⟩:=e;exact⟨ABC k hv.1 ha.1 e1,qS hv.2 ha.2 e2⟩
 |[],[],_::_,hv,_,_,_=>hv.elim
 |_::_,_::_,[],hv,_,_,_=>hv.elim
 |[],_::_,_,_,ha,_,_=>ha.elim
 |_::_,[],_,_,ha,_,_=>ha.elim
theorem xQ:∀{l:List (AP ⊕ List AP)} {xs:List (AV ⊕ List AV)} {vs:List Value},CX (TR E w bx) xs vs->CX (jP N m) l xs-> ∀{y:Zi.V l},Zi.get bk l xs=some y->
  CX (TR E1 w vw1) (Zi.mk id l y) vs
 |[],[],[],_,_,_,_=>trivial
 | .inl p::l,.inl x::xs,v::vs,hv,ha,y,e=>by
  simp only[Zi.get,AJa,AJN]at e;obtain⟨a,e1,b,e2,rfl⟩:=e;exact⟨ABC k hv.1 ha.1 e1,xQ hv.2 ha.2 e2⟩
 | .inr p::l,.inr x::xs,v::vs,hv,ha,y,e=>by
  simp only[Zi.get,AJa,AJN]at e;obtain⟨a,e1,b,e2,rfl⟩:=e;obtain⟨⟨us,hu,hus⟩,h2⟩:=hv;exact⟨⟨us,hu,qS k hus ha.1 e1⟩,xQ h2 ha.2 e2⟩
 | .inl _::_,.inr _::_,_,_,ha,_,_=>ha.1.elim
 | .inr _::_,.inl _::_,_,_,ha,_,_=>ha.1.elim
 |[],[],_::_,hv,_,_,_=>hv.elim
 |_::_,_::_,[],hv,_,_,_=>hv.elim
 |[],_::_,_,_,ha,_,_=>ha.elim
 |_::_,[],_,_,ha,_,_=>ha.elim
theorem ALs{p:XP}{x:XV}{v:Value}(hv:XR E w bx x v)(ha:dY N m p x){y:p.V}(e:p.get bk x=some y):XR E1 w vw1 (p.mk id y) v:=by
 cases p with
 |c p=>cases x with
  |c x=>exact ABC k hv ha (by grind[XP.get])
  |_=>exact ha.elim
 |agg l=>cases x with
  |agg xs=>
   obtain⟨vs,rfl,WN⟩:=hv;exact⟨vs,rfl,qS k WN ha (by grind[XP.get])⟩
  |_=>exact ha.elim
 |row r=>cases x with
  |agg xs=>
   obtain⟨vs,rfl,WN⟩:=hv;exact⟨vs,rfl,ln k.within k.boxes k.st k.T WN (by grind[XP.get])⟩
  |_=>exact ha.elim
 |MA l=>cases x with
  |MA xs=>
   obtain⟨vs,rfl,WN⟩:=hv;exact⟨vs,rfl,xQ k WN ha (by grind[XP.get])⟩
  |_=>exact ha.elim
theorem vq{tm:List XV}{vals:List Value}(htm:CX (XR E w bx) tm vals):∀{l:List (Nat×XP)},(∀q∈l,∃x,tm[q.1]? =some x/\dY N m q.2 x)-> ∀{y:GF.V l},GF.get bk tm l=some y->
  Mm E1 w vw1 id l y vals
 |[],_,_,_=>trivial
 |(i,p)::l,ha,y,e=>by
  obtain⟨x,hx,hax⟩:=ha (i,p) (by simp);simp only[GF.get,hx,AJa,AJN]at e;obtain⟨a,e1,b,e2,rfl⟩:=e;obtain⟨v,hv,hr⟩:=htm.get hx;exact⟨⟨v,hv,ALs k hr hax e1⟩,vq htm (fun q hq=>ha q (by simp[hq])) e2⟩
end
structure wg (E:Env) (w:World) (bx:List Bx) (m:P5) (s:Bc) (x:s.V) (vals:List Value) (E1:Env):Prop where
 boxes:C0 E1 w (I8.mk id s.GG x.2) (I8.mk id s.GG x.2) []
 Dw:Mm E1 w (I8.mk id s.GG x.2) id s.Dw x.1 vals
 ids:∀(i b:Nat),m[i]? =some (some b)->E1.Hg i=E.Hg b/\E1.Hi i=E.Hi b
 inj:rm m
 len:m.length=s.GG.length
 S:∀c,E.S c->E1.S c
 Sof:∀c,E1.S c->E.S c\/ ¬E.T c
 T:∀c,E.T c->E1.T c
 rest:∃Fk,NU E w bx (Cx bx m) Fk/\Fk.flatten.Nodup/\(∀c∈Fk.flatten,¬E.T c/\ ¬E1.S c/\c<w.heap.size/\E1.T c)/\(∀c,E1.T c->E.T c\/E1.S c\/c∈Fk.flatten)
theorem mT{E:Env}{w:World}{bx:List Bx}{tm:List XV}{vals:List Value}(hB:C0 E w bx bx [])(htm:CX (XR E w bx) tm vals){s:Bc}{m0 m:P5}{x:s.V}
  {N:Nat} (AA9:∀(i:Nat) d r,s.GG[i]? =some (.sl d r)->E.Hi (N+i)= .slice none 0 0) (hlen:m0.length=s.GG.length) (AIW:rm m0) (e:s.fit N m0 tm bx=some (x,m)):Ext m0 m/\ ∃E1,wg E w bx m s x vals E1:=by
 simp only[Bc.fit,AJa,AJN]at e;obtain⟨m1,e1,m2,e2,a,e3,c,e4,e5⟩:=e;cases e5;obtain⟨a1,a2,a3⟩:=fx e1;obtain⟨b1,b2,b4,b3⟩:=XQ e2;have hi:rm m:=b3 (a3 AIW);have vi:m.length=s.GG.length:=by rw[b1.1,a1.1,hlen]
 refine⟨a1.trans b1,?_⟩;obtain⟨Gs,g1,g2,g3⟩:=qU hi hB;obtain⟨q1,q2⟩:=SA (Jl:=id) e4;have st:=hB.st
 let R:Nat->List Nat->List Nat->List Nat->Prop:=fun k G F W=>
  match s.GG[k]? with
  |some (.sl d r)=> ∀(b d':Nat) (rows:List r.D),m[k]? =some (some b)->bx[b]? =some (.sl d' r rows)->Ow w (fun c=>E.S c\/c∈W) d (.sl r) [E.Hi b] rows F
  |some (.mem q)=>F=G/\W=[]
  |_=>F=[]/\W=G
 have wo:∀(k:Nat) G,Gs[k]? =some G-> ∃F W,G.Perm (F++W)/\R (0+k) G F W:=by
  intro k G hG;rw[APB];have hk:k<s.GG.length:=by
   have:=(AJM.1 hG).1;omega
  have hp:s.GG[k]? =some s.GG[k]:=AJA hk;cases hb:s.GG[k]with
  |mem q=>exact⟨G,[],by simp,by simp[R,hp,hb]⟩
  |gone=>exact⟨[],G,by simp,by simp[R,hp,hb]⟩
  |sl d r=>
   obtain⟨y,y1,b,d',y2,y3,y4,y5⟩:=q2 k _ (hp.trans (by rw[hb]));obtain⟨_,ho⟩:=g2 k b _ G y2 y3 hG;obtain⟨F,W,w1,w2⟩:=KB y5 ho;refine⟨F,W,w1,?_⟩;simp only[R,hp,hb];intro b' d'' rows h1 h2;rw[y2]at h1;cases h1;rw[y3]at h2;cases h2;exact w2
 obtain⟨Fs,Ws,f1,f2,f3,f4⟩:=q7 Gs 0 wo;obtain⟨Fk,k1,k2⟩:=g3;simp only[AKX]at k2;have cR:Sep E w (Fk.flatten++(Fs.flatten++Ws.flatten)):=k2.perm (APK _ f3)
 let E1:Env:={
   Hg:=fun i=>match m[i]? with|some (some b)=>E.Hg b|_=>0
   Hi:=fun i=>match m[i]? with|some (some b)=>E.Hi b|_=> .nilFunc
   S:=fun c=>E.S c\/c∈Ws.flatten
   T:=fun c=>E.T c\/c∈Ws.flatten\/c∈Fk.flatten }
 have zQ:∀(i b:Nat),m[i]? =some (some b)->E1.Hg i=E.Hg b/\E1.Hi i=E.Hi b:=fun i b h=>by simp[E1,h]
 have fe:AFW N E w bx (Cx bx m) Fk m E1 (I8.mk id s.GG c):={
  within:=SH (FB.refl bx)
  boxes:=k1
  st:=st
  T:=fun d hd=>hd.elim .inl fun h=> .inr (.inr h)
  S:=fun d hd=> .inl hd
  ids:=zQ
  len:=by rw[q1,vi];exact ALj _
  nil:=fun i d r rows e=>by
   have hk:i<s.GG.length:=by
    have:=(AJM.1 e).1
    rwa [q1]at this
   obtain⟨y,y1,_⟩:=q2 i _ (AJA hk);have hp:=AJA hk;rw[e]at y1
   generalize s.GG[i]=P at y y1 hp
   cases P with
   |mem q=>cases y1
   |gone=>cases y1
   |sl d0 r0=>exact AA9 i d0 r0 hp
  sl:=fun i d r rows hi e=>by
   have hk:i<s.GG.length:=by omega
   obtain⟨y,y1,y2⟩:=q2 i _ (AJA hk);rw[e]at y1
   generalize s.GG[i]=P at y y1 y2
   cases P with
   |mem q=>cases y1
   |gone=>cases y1
   |sl d0 r0=>
    simp only[BP.mk,AJL,Bx.sl.injEq]at y1;obtain⟨rfl,rfl,y1⟩:=y1;obtain rfl:=ANi y1;obtain⟨b,d',z1,z2,_⟩:=y2;exact⟨b,d',z1,z2⟩ }
 have nd:=cR.nodup;have AFF:∀c∈Fs.flatten,¬E1.T c:=by
  intro d hd h;rcases h with h|h|h
  ·exact cR.free d (by simp[hd]) h
  ·have:=(AKg.1 (AKg.1 nd).2.1).2.2 d hd d h
   exact this rfl
  ·have:=(AKg.1 nd).2.2 d h d (by simp[hd])
   exact this rfl
 have AMU:Mm E1 w (I8.mk id s.GG c) id s.Dw a vals:=vq fe htm (fun q hq=>let⟨x,h1,h2⟩:=a2 q hq;⟨x,h1,dY.ext b1 h2⟩) e3;refine⟨E1,wg.mk ?_ AMU zQ hi vi (fun d hd=> .inl hd) ?_ (fun d hd=> .inl hd) ⟨Fk,k1,(AKg.1 nd).1,fun d hd=>⟨cR.free d (by simp[hd]),?_,cR.lt d (by simp[hd]),.inr (.inr hd)⟩,?_⟩⟩
 ·refine⟨Fs,⟨by rw[f1,g1,q1,vi],fun k B F hk hF=> ?_⟩,?_⟩
  ·have hkl:k<s.GG.length:=by
    have hk1:=(AJM.1 hk).1;rw[<-q1];exact hk1
   have hp:s.GG[k]? =some s.GG[k]:=AJA hkl;obtain⟨y,y1,y2⟩:=q2 k _ hp;rw[hk]at y1;cases y1;have hG:Gs[k]? =some (Gs[k]'(by omega)):=AJA _;have hW:Ws[k]? =some (Ws[k]'(by omega)):=AJA _;have hr:=f4 k _ F _ hG hF hW;rw[APB]at hr;have ARH:∀d∈Ws[k]'(by omega),d∈Ws.flatten:=fun d hd=>ANa.2 ⟨_,ALA hW,hd⟩
   generalize AZ5:s.GG[k]=P at y y2 hp
   have AQA:=fun q=>b2 k q
   simp only[R,hp]at hr;cases P with
   |mem q=>
    obtain⟨b,cs,z1,z2,z3⟩:=y2;obtain⟨rfl,hW0⟩:=hr;obtain⟨hFe,arr,ty,fr,h1,h2,h3⟩:=g2 k b _ _ z1 z2 hG;obtain⟨b',gF,t1,t2,t3⟩:=AQA q hp;rw[APB,z1]at t1;cases t1;rw[z2]at t2;cases t2;refine⟨by rw[hFe,(zQ k b z1).1],arr,ty,fr,by rw[(zQ k b z1).1];exact h1,h2,qS fe h3 t3 z3⟩
   |sl d r=>
    obtain⟨b,d',z1,z2,z3,z4⟩:=y2;have:=hr b d' y z1 z2;refine⟨z3,?_⟩;rw[(zQ k b z1).2];exact EP (fun d hd=>hd.elim .inl fun h=> .inr (ARH d h)) (fun _ _=>rfl) (fun _ _=>rfl) this
   |gone=>exact hr.1
  ·simp only[AKX]
   refine⟨(AKg.1 (AKg.1 nd).2.1).1,AFF,fun d hd=>cR.lt d (by simp[hd]),fun d hd=>hd.elim (fun h=> .inl (st d h)) (fun h=> .inr (.inl h)),fun d hd=> ?_,cR.tu.mono (fun _ h=> .inl h) (fun _ _=>rfl)⟩;rcases hd with hd|hd|hd
   ·exact cR.cI d hd
   ·exact cR.lt d (by simp[hd])
   ·exact cR.lt d (by simp[hd])
 ·intro d hd
  exact hd.elim .inl fun h=> .inr (cR.free d (by simp[h]))
 ·intro h
  rcases h with h|h
  ·exact cR.free d (by simp[hd]) (st d h)
  ·have:=(AKg.1 nd).2.2 d hd d (by simp[h])
   exact this rfl
 ·intro d hd
  rcases hd with hd|hd|hd
  ·exact .inl hd
  ·exact .inr (.inl (.inr hd))
  ·exact .inr (.inr hd)
end Go.Fw
end
section
namespace Go.Fw
def zv:Ty->Value
 | .int k=> .int k 0
 | .bool=> .bool false
 | .str=> .string ⟨#[]⟩
 |_=> .slice none 0 0
def Ek:Ty->List Value
 | .cons c r=>zv c::Ek r
 | .unit=>[]
 |t=>[zv t]
def Ty.cell:Ty->Bool
 | .unit| .cons _ _=>false
 |_=>true
def Ty.o5:Ty->Bool
 | .cons c r=>c.cell&&r.o5
 |_=>true
def eqZ:Value->Value->Bool
 | .int k n,.int k' n' =>decide (k=k')&&decide (n=n')
 | .bool a,.bool b=>decide (a=b)
 | .string a,.string b=>decide (a.data.toList=[])&&decide (b.data.toList=[])
 | .slice none a b,.slice none c d=>decide (a=c)&&decide (b=d)
 |_,_=>false
theorem ANu{a b:Value}(h:eqZ a b=true):a=b:=by
 unfold eqZ at h;split at h
 ·simp_all
 ·simp_all
 ·rename_i a b
  simp at h;obtain⟨h1,h2⟩:=h;cases a;cases b;simp_all
 all_goals simp_all
def AEQ:List Value->List Value->Bool
 |[],[]=>true
 |a::l,b::m=>eqZ a b&&AEQ l m
 |_,_=>false
theorem AC1:∀{l m:List Value},AEQ l m=true->l=m
 |[],[],_=>rfl
 |a::l,b::m,h=>by
  simp only[AEQ,AJR]at h;rw[ANu h.1,AC1 h.2]
 |[],_::_,h=>by simp[AEQ]at h
 |_::_,[],h=>by simp[AEQ]at h
def jG(P:Program)(t:Nat):TD->Prop
 | .int k=>P.underlying t=some (.int k)
 | .bool=>P.underlying t=some .bool
 | .str=>P.underlying t=some .string
 | .sl e=>P.underlying t=some (.slice e)
 | .ptr e=>P.underlying t=some (.pointer e)
 | .st fs=> ∃fields,P.underlying t=some (.struct fields)/\fields.toList.map (fun f=>(f.offset,f.type))=fs/\(∀f∈fields.toList,f.name≠ "_" /\ ∃i,P.info? f.type=some i/\i.size≠0)/\
  P.stoodInHeld t=false/\P.eqGuardType P.depth t=false
 | .other=> ∃d,P.underlying t=some d/\d.isRow=false
structure AQq (P:Program) (T:JR) (t:Nat) (ti:TI):Prop where
 info:∃i,P.info? t=some i/\i.size=ti.size/\i.bytes=ti.bytes/\(∀r,ti.row=some r->r.o5=true/\ ∃z,i.zero=some z/\z.cells.toList=Ek r)
 und:jG P t ti.desc
def ES(P:Program)(T:JR):Prop:= ∀t ti,T.get t=some ti->AQq P T t ti
def wv(P:Program)(T:JR)(t:Nat)(ti:TI):Bool:=
 (match P.info? t with
  |some i=>decide (i.size=ti.size)&&decide (i.bytes=ti.bytes)&&(match ti.row with
   |some r=>r.o5&&(match i.zero with
    |some z=>AEQ z.cells.toList (Ek r)
    |none=>false)
   |none=>true)
  |none=>false)&&
 (match ti.desc,P.underlying t with
  | .int k,some (.int k')=>decide (k=k')
  | .bool,some .bool=>true
  | .str,some .string=>true
  | .sl e,some (.slice e')=>decide (e=e')
  | .ptr e,some (.pointer e')=>decide (e=e')
  | .st fs,some (.struct fields)=>decide (fields.toList.map (fun f=>(f.offset,f.type))=fs)&&
    fields.toList.all (fun f=>decide (f.name≠ "_")&&(match P.info? f.type with|some i=>decide (i.size≠0)|none=>false))&&
    !P.stoodInHeld t&& !P.eqGuardType P.depth t
  | .other,some d=> !d.isRow
  |_,_=>false)
theorem xG{P:Program}{T:JR}{t:Nat}{ti:TI}(h:wv P T t ti=true):AQq P T t ti:=by
 unfold wv at h;rw[AJR]at h;obtain⟨h1,h2⟩:=h;constructor
 ·split at h1
  ·rename_i i hi
   simp only[AJR,AJr]at h1;refine⟨i,hi,h1.1.1,h1.1.2,fun r hr=> ?_⟩;obtain⟨_,h3⟩:=h1;rw[hr]at h3;dsimp only at h3;rw[AJR]at h3;grind[AC1]
  simp_all
 ·split at h2
  ·grind[jG]
  ·grind[jG]
  ·grind[jG]
  ·grind[jG]
  ·grind[jG]
  ·rename_i fs fields hd hu
   simp only[hd,jG];grind
  all_goals grind[jG]
def AGa(P:Program)(T:JR):Bool:=T.all fun q=>wv P T q.1 q.2
theorem JR.get_mem:∀{T:JR} {t:Nat} {ti:TI},T.get t=some ti->(t,ti)∈T
 |(u,i)::l,t,ti,h=>by
  simp only[JR.get]at h;split at h
  ·rename_i e;cases h;subst e;simp
  ·exact ATX _ (JR.get_mem h)
 |[],_,_,h=>by simp[JR.get]at h
theorem rI{P:Program}{T:JR}(h:AGa P T=true):ES P T:=fun t ti e=>
 xG (by simpa using APO.1 h (t,ti) (JR.get_mem e))
section
variable{P:Program} {T:JR} (hT:ES P T)
include hT
theorem ES.size{t:Nat}{ti:TI}(e:T.get t=some ti):(P.info? t).map (·.size)=some ti.size:=by
 obtain⟨i,h1,h2,_⟩:=(hT t ti e).info;simp_all
theorem ES.sizeOf{t:Nat}{ti:TI}(e:T.get t=some ti)(w:World):(Go.sizeOf t).run P w= .ok ti.size w:=by
 obtain⟨i,h1,h2,_⟩:=(hT t ti e).info;simp[Go.sizeOf,typeInfo,h1,h2]
omit hT in
theorem Bb{t:Nat}{d:TypeDesc}(h:P.underlying t=some d)(w:World):(Go.underlying t).run P w= .ok d w:=by
 simp[Go.underlying,h]
theorem ES.isAgg{t:Nat}{ti:TI}(e:T.get t=some ti)(w:World):(Go.isAgg t).run P w= .ok ti.desc.agg w:=by
 have hu:=(hT t ti e).und;unfold Go.isAgg;cases hd:ti.desc<;>rw[hd]at hu<;>simp only[jG]at hu
 case st fs=>
  obtain⟨fields,hu,_⟩:=hu;simp[Bb hu,TD.agg]
 case other=>
  obtain⟨d,hu,hd⟩:=hu;rw[Sem.run_bind,Bb hu];cases d<;>simp_all[TypeDesc.isRow,TD.agg]
 all_goals simp[Bb hu,TD.agg]
end
end Go.Fw
end
section
namespace Go.Fw
def Lo{Y:Type}(P:Program)(o:Oper)(E:Env)(σ:St)(a:Act)(w:World)(k:K Y)(y:Y):Prop:=
 ∃v w' E' x σ',((execOp a.eval o).run P w= .ok (.value v) w'\/((execOp a.eval o).run P w= .ok .skip w'/\v=undef))/\Rel E' σ' a w'/\XR E' w' σ'.bx x v/\Rx (KP (fun _=>none) σ o.op) E σ.bx w E' σ'.bx w'/\
  σ'.tm.length=σ.tm.length/\k x σ' =some y
section
variable{Y:Type} {P:Program} {T:JR} {o:Oper} {E:Env} {σ:St} {a:Act} {w:World} {k:K Y} {y:Y}
theorem Lo.same(h:Rel E σ a w){v:Value}{x:XV}(hr:(execOp a.eval o).run P w= .ok (.value v) w)(hx:XR E w σ.bx x v)(hk:k x σ=some y):Lo P o E σ a w k y:=
 ⟨v,w,E,x,σ,.inl hr,h,hx,Rx.refl _ E σ.bx w,rfl,hk⟩
theorem dI{vw:List Bx}{κ:IntKind}{n:Int}{v:Value}(h:VR E w vw (.v (.int κ) n) v):v= .int κ n:=by
 have:=h.2;grind[Rd]
theorem TT{vw:List Bx}{b:Bool}{v:Value}(h:VR E w vw (.v .bool b) v):v= .bool b:=by
 have:=h.2;grind[Rd]
theorem YY{vw:List Bx}{s:AAZ}{v:Value}(h:VR E w vw (.v .str s) v):v= .string ⟨s.toArray⟩:=by
 have:=h.2;grind[Rd]
theorem VR.int{vw:List Bx}(κ:IntKind)(n:Int):VR E w vw (.v (.int κ) n) (.int κ n):=⟨rfl,by rfl⟩
theorem VR.bool{vw:List Bx}(b:Bool):VR E w vw (.v .bool b) (.bool b):=⟨rfl,by rfl⟩
theorem VR.str{vw:List Bx}(s:AAZ):VR E w vw (.v .str s) (.string ⟨s.toArray⟩):=⟨rfl,by rfl⟩
theorem Xa(s:AAZ):ByteArray.toList ⟨s.toArray⟩=s:=by
 simp_all
theorem xI(a b:AAZ):(⟨a.toArray⟩:ByteArray)++⟨b.toArray⟩=⟨(a++b).toArray⟩:=by
 rfl
theorem zW(op:BinOp)(t:TypeId)(x y:Operand)(u v:Value)(hu:∀l,u≠ .agg l)(hn:u≠ .nilIface)(w:World):(eqGuard op t x y u v).run P w= .ok () w:=by
 unfold eqGuard;simp_all
theorem yS{op:BinOp}{κ:IntKind}{m n:Int}{k:AV->Option Y}{y:Y}(e:iM op κ m n k=some y)(t:TypeId)(w:World):
  ∃z v,k z=some y/\(binOp op t (.int κ m) (.int κ n)).run P w= .ok v w/\ ∀E vw,VR E w vw z v:=by
 cases op with
 |add=>exact⟨_,.int κ (κ.wrap (m+n)),e,by simp[binOp,Op.intArith],fun _ _=>VR.int _ _⟩
 |sub=>exact⟨_,.int κ (κ.wrap (m-n)),e,by simp[binOp,Op.intArith],fun _ _=>VR.int _ _⟩
 |mul=>exact⟨_,.int κ (κ.wrap (m*n)),e,by simp[binOp,Op.intArith],fun _ _=>VR.int _ _⟩
 |and=>exact⟨_,.int κ (κ.wrap (BitVec.ofInt κ.bits m &&& BitVec.ofInt κ.bits n).toNat),e,by simp[binOp,Op.intBits],fun _ _=>VR.int _ _⟩
 |or=>exact⟨_,.int κ (κ.wrap (BitVec.ofInt κ.bits m ||| BitVec.ofInt κ.bits n).toNat),e,by simp[binOp,Op.intBits],fun _ _=>VR.int _ _⟩
 |xor=>exact⟨_,.int κ (κ.wrap (BitVec.ofInt κ.bits m ^^^ BitVec.ofInt κ.bits n).toNat),e,by simp[binOp,Op.intBits],fun _ _=>VR.int _ _⟩
 |andNot=>exact⟨_,.int κ (κ.wrap (BitVec.ofInt κ.bits m &&& ~~~BitVec.ofInt κ.bits n).toNat),e,by simp[binOp,Op.intBits],fun _ _=>VR.int _ _⟩
 |eql=>exact⟨_,.bool (m==n),e,by simp[binOp,Op.intCmp],fun _ _=>VR.bool _⟩
 |neq=>exact⟨_,.bool (m !=n),e,by simp[binOp,Op.intCmp],fun _ _=>VR.bool _⟩
 |lss=>exact⟨_,.bool (decide (m<n)),e,by simp[binOp,Op.intCmp],fun _ _=>VR.bool _⟩
 |leq=>exact⟨_,.bool (decide (m<=n)),e,by simp[binOp,Op.intCmp],fun _ _=>VR.bool _⟩
 |gtr=>exact⟨_,.bool (decide (m>n)),e,by simp[binOp,Op.intCmp],fun _ _=>VR.bool _⟩
 |geq=>exact⟨_,.bool (decide (m>=n)),e,by simp[binOp,Op.intCmp],fun _ _=>VR.bool _⟩
 |quo=>
  simp only[iM]at e;split at e
  ·cases e
  ·rename_i hz
   exact⟨_,.int κ (κ.wrap (m.tdiv n)),e,by simp[binOp,Op.intDiv,hz],fun _ _=>VR.int _ _⟩
 |rem=>
  simp only[iM]at e;split at e
  ·cases e
  ·rename_i hz
   exact⟨_,.int κ (m.tmod n),e,by simp[binOp,Op.intDiv,hz],fun _ _=>VR.int _ _⟩
 |_=>simp[iM]at e
theorem iJ{op:BinOp}{κ κ':IntKind}{m n:Int}{k:AV->Option Y}{y:Y}(e:Zz op κ m n k=some y)(t:TypeId)(w:World):
  ∃z v,k z=some y/\(binOp op t (.int κ m) (.int κ' n)).run P w= .ok v w/\ ∀E vw,VR E w vw z v:=by
 unfold Zz at e;split at e
 ·cases e
 ·rename_i hn
  cases op with
  |shl=>exact⟨_,.int κ (κ.wrap (m*2^min n.toNat κ.bits)),e,by simp[binOp,Op.shift,hn],fun _ _=>VR.int _ _⟩
  |shr=>exact⟨_,.int κ (m.fdiv (2^min n.toNat κ.bits)),e,by simp[binOp,Op.shift,hn],fun _ _=>VR.int _ _⟩
  |_=>simp at e
theorem yJ{op:BinOp}{s u:AAZ}{k:AV->Option Y}{y:Y}(e:lI op s u k=some y)(t:TypeId)(w:World):
  ∃z v,k z=some y/\(binOp op t (.string ⟨s.toArray⟩) (.string ⟨u.toArray⟩)).run P w= .ok v w/\ ∀E vw,VR E w vw z v:=by
 have h1:=Xa s;have h2:=Xa u;cases op with
 |eql=>exact⟨_,.bool (s==u),e,by simp[binOp,Op.stringOp,h1,h2],fun _ _=>VR.bool _⟩
 |neq=>exact⟨_,.bool (!(s==u)),e,by simp[binOp,Op.stringOp,h1,h2],fun _ _=>VR.bool _⟩
 |lss=>exact⟨_,.bool (Op.bytesLess s u),e,by simp[binOp,Op.stringOp,h1,h2],fun _ _=>VR.bool _⟩
 |leq=>exact⟨_,.bool (Op.bytesLess s u||s==u),e,by simp[binOp,Op.stringOp,h1,h2],fun _ _=>VR.bool _⟩
 |gtr=>exact⟨_,.bool (!(Op.bytesLess s u||s==u)),e,by simp[binOp,Op.stringOp,h1,h2],fun _ _=>VR.bool _⟩
 |geq=>exact⟨_,.bool (!Op.bytesLess s u),e,by simp[binOp,Op.stringOp,h1,h2],fun _ _=>VR.bool _⟩
 |add=>
  simp only[lI]at e;split at e
  ·rename_i hl
   refine⟨_,.string ⟨(s++u).toArray⟩,e,?_,fun _ _=>VR.str _⟩;have hs:(⟨s.toArray⟩:ByteArray).size=s.length:=by rfl
   have hu:(⟨u.toArray⟩:ByteArray).size=u.length:=by rfl
   have ZR: ¬(((⟨s.toArray⟩:ByteArray).size+(⟨u.toArray⟩:ByteArray).size:Nat):Int)>IntKind.i64.max:=by
    grind[Cm,IntKind.max,IntKind.signed,IntKind.bits]
   simp only[binOp,Op.stringOp,Sem.run_ite,AJD ZR,xI];rfl
  simp_all
 |_=>simp[lI]at e
theorem w5{d:TD}{x z:AV}{p:Bool}(e:rK d x z=some p){E:Env}{w:World}{vw:List Bx}{v u:Value}(hx:VR E w vw x v)(hz:VR E w vw z u){t:TypeId}
  (hu:jG P t d) (n:Nat):(Op.equalIn (n+1) t v u).run P w= .ok p w/\d.agg=false:=by
 unfold rK at e;split at e
 ·rename_i κ j a k b
  split at e
  ·rename_i hj
   subst hj;cases e;rw[dI hx,dI hz];exact⟨run_equalIn_int (P:=P) w n t j κ a b hu,rfl⟩
  simp_all
 ·cases e
  rw[TT hx,TT hz];exact⟨run_equalIn_bool' (P:=P) w n t _ _ hu,rfl⟩
 ·cases e
  rename_i a b;rw[YY hx,YY hz];have q:=run_equalIn_string (P:=P) w n t ⟨a.toArray⟩ ⟨b.toArray⟩ hu;rw[Xa,Xa]at q;exact⟨q,rfl⟩
 simp_all
theorem iC{T:JR}(hT:ES P T){E:Env}{w:World}{vw:List Bx}{xs ys:Array Value}:∀{fields:List Field} {i:Nat} {l m:List AV} {vs us:List Value} {r:Bool},
  (∀f∈fields,f.name≠ "_")->jy E w vw l vs->jy E w vw m us->LC T i (fields.map fun f=>(f.offset,f.type)) l m=some r->
  (∀(j:Nat) v,vs[j]? =some v->xs[i+j]? =some v)->(∀(j:Nat) v,us[j]? =some v->ys[i+j]? =some v)->(Op.eqFields 9999 xs ys fields).run P w= .ok r w
 |[],i,[],[],_,_,r,_,_,_,e,_,_=>by
  simp only[ASr,LC,AJL]at e;subst e;rfl
 |f::fs,i,x::l,z::m,v::vs,u::us,r,hn,hx,hz,e,h1,h2=>by
  simp only[APX,LC]at e;split at e
  case isFalse=>cases e
  rename_i ho;have hv:=h1 0 v rfl;have hu:=h2 0 u rfl;simp only[APL]at hv hu;have AQy:=hn f (by simp);split at e
  case h_2=>cases e
  rename_i ti V9;split at e
  case h_2=>cases e
  rename_i p hp;simp only[AJN]at e;obtain⟨r',e',rfl⟩:=e;have AXA:=iC hT (fields:=fs) (i:=i+1) (l:=l) (m:=m) (vs:=vs) (us:=us) (r:=r') (fun f hf=>hn f (by simp[hf])) hx.2 hz.2 e'
   (fun j v' hj=>by have:=h1 (j+1) v' (by simp_all);rwa [show i+(j+1)=i+1+j by omega]at this)
   (fun j v' hj=>by have:=h2 (j+1) v' (by simp_all);rwa [show i+(j+1)=i+1+j by omega]at this)
  have lT:=(hT f.type ti V9).und;obtain⟨q,na⟩:=w5 (P:=P) hp hx.1 hz.1 (t:=f.type) lT 9998;have ld:=ES.isAgg hT V9 w;rw[na]at ld;have p1:(part f.type xs f.offset).run P w= .ok v w:=by simp[part,ld,ho,hv]
  have p2:(part f.type ys f.offset).run P w= .ok u w:=by simp[part,ld,ho,hu]
  simp only[Op.eqFields,AQy,ne_eq,not_false_eq_true,AOx,Sem.run_bind,p1,p2,Result.andThen_ok,q,AXA,Sem.run_ite,Sem.run_pure];grind
 |[],_,_::_,_,_,_,_,_,_,_,e,_,_=>by simp[LC]at e
 |[],_,[],_::_,_,_,_,_,_,_,e,_,_=>by simp[LC]at e
 |_::_,_,[],_,_,_,_,_,_,_,e,_,_=>by simp[LC]at e
 |_::_,_,x::_,[],_,_,_,_,_,_,e,_,_=>by simp[LC]at e
 |_::_,_,_::_,_::_,[],_,_,_,hx,_,_,_,_=>hx.elim
 |_::_,_,_::_,_::_,_::_,[],_,_,_,hz,_,_,_=>hz.elim
theorem rC(op:BinOp)(t:TypeId)(p q:Bool)(hu:P.underlying t=some .bool)(w:World):(op= .eql->(binOp op t (.bool p) (.bool q)).run P w= .ok (.bool (p==q)) w)/\
  (op= .neq->(binOp op t (.bool p) (.bool q)).run P w= .ok (.bool (!(p==q))) w):=by
 have h:=run_equalIn_bool' (P:=P) w 9999 t p q hu;constructor
 ·rintro rfl
  grind[binOp,Op.equal,Op.maxDepth,Sem.run_bind,Result.andThen_ok,Sem.run_pure]
 ·rintro rfl
  grind[binOp,Op.equal,Op.maxDepth,Sem.run_bind,Result.andThen_ok,Sem.run_pure]
theorem ja{T:JR}(hT:ES P T){t:Nat}{op:BinOp}{x z:XV}{k:AV->Option Y}{y:Y}(e:yQ T t op x z k=some y){E:Env}{w:World}{vw:List Bx}{v u:Value}
  (hx:XR E w vw x v) (hz:XR E w vw z u) (ox oz:Operand):
  ∃r val,k r=some y/\(do eqGuard op t ox oz v u;binOp op t v u:Sem Value).run P w= .ok val w/\VR E w vw r val:=by
 have guard:∀(v u:Value),(∀l,v≠ .agg l)->v≠ .nilIface-> ∀val,(binOp op t v u).run P w= .ok val w->(do eqGuard op t ox oz v u;binOp op t v u:Sem Value).run P w= .ok val w:=by
  grind[Sem.run_bind,zW,Result.andThen_ok]
 unfold yQ at e;split at e
 ·rename_i j m j' n
  have hv:=dI (E:=E) (vw:=vw) hx;have hu:=dI (E:=E) (vw:=vw) hz;subst hv hu;have done:∀(q:∃r val,k r=some y/\(binOp op t (.int j m) (.int j' n)).run P w= .ok val w/\ ∀E vw,VR E w vw r val),∃r val,k r=some y/\(do eqGuard op t ox oz (.int j m) (.int j' n);binOp op t (.int j m) (.int j' n):Sem Value).run P w= .ok val w/\VR E w vw r val:=by
   grind
  split at e
  ·exact done (iJ e t w)
  ·exact done (iJ e t w)
  ·split at e
   ·rename_i hj
    subst hj;exact done (yS e t w)
   simp_all
 ·rename_i s s'
  have hv:=YY (E:=E) (vw:=vw) hx;have hu:=YY (E:=E) (vw:=vw) hz;subst hv hu;obtain⟨r,val,h1,h2,h3⟩:=yJ (P:=P) e t w;grind
 ·rename_i p q
  have hv:=TT (E:=E) (vw:=vw) hx;have hu:=TT (E:=E) (vw:=vw) hz;subst hv hu;split at e
  ·rename_i ti V9
   have lT:=(hT t ti V9).und;split at e
   ·rename_i hd
    rw[hd]at lT;split at e
    ·exact⟨_,_,e,guard _ _ (by simp) (by simp) _ ((rC _ t p q lT w).1 rfl),VR.bool _⟩
    ·exact⟨_,_,e,guard _ _ (by simp) (by simp) _ ((rC _ t p q lT w).2 rfl),VR.bool _⟩
    simp_all
   simp_all
  simp_all
 ·rename_i l m
  obtain⟨vs,rfl,WN⟩:=hx;obtain⟨us,rfl,hus⟩:=hz;have key:∀r,((T.fields t).bind fun fs=>LC T 0 fs l m)=some r->(Op.equalIn 10000 t (.agg vs) (.agg us)).run P w= .ok r w/\P.eqGuardType P.depth t=false:=by
   intro r hr;simp only[AJa]at hr;obtain⟨fs,hf,hr⟩:=hr;unfold JR.fields at hf;split at hf
   ·rename_i fs' hd
    cases hf;simp only[AJN]at hd;obtain⟨ti,V9,hd⟩:=hd;have lT:=(hT t ti V9).und;rw[hd]at lT;obtain⟨fields,hu,hfs,hnm,tY,hg⟩:=lT;grind[Program.fieldsOf,run_equalIn_agg,iC]
   simp_all
  split at e
  ·rename_i r hr
   obtain⟨q,hg⟩:=key r hr;refine⟨_,_,e,?_,VR.bool r⟩;grind[Sem.run_bind,run_eqGuard_agg,Result.andThen_ok,run_eql_struct]
  ·rename_i r hr
   obtain⟨q,hg⟩:=key r hr;refine⟨_,_,e,?_,VR.bool (!r)⟩;grind[Sem.run_bind,run_eqGuard_agg,Result.andThen_ok,run_neq_struct]
  simp_all
 simp_all
end
end Go.Fw
end
section
namespace Go.Fw
section
variable{Y:Type} {P:Program} {T:JR} (hT:ES P T) {E:Env} {w:World} {vw:List Bx}
include hT
theorem AI2{t:Nat}{s b:Nat}{fs:List ACk}{rw:Option Ty}(e:T.get t=some ⟨s,b,.st fs,rw⟩):∃fields,P.underlying t=some (.struct fields)/\fields.toList.map (fun f=>(f.offset,f.type))=fs/\
  ∀f∈fields.toList,∃i,P.info? f.type=some i/\i.size≠0:=by
 obtain⟨fields,h1,h2,h3,_⟩:=(hT t _ e).und;simp_all
omit hT in
theorem qq{a:Addr}{f:Field}(h:∃i,P.info? f.type=some i/\i.size≠0):(fieldPlace a f).run P w= .ok (a.add f.offset) w:=by
 obtain⟨i,h1,h2⟩:=h;simp[fieldPlace,Go.sizeOf,typeInfo,h1,h2]
theorem V2{t:Nat}{s b:Nat}{fs:List ACk}{rw:Option Ty}(e:T.get t=some ⟨s,b,.st fs,rw⟩){f o u:Nat}(hf:fs[f]? =some (o,u)){a:Addr}:
  (Instr.fieldAt t (.pointer (some a)) f).run P w= .ok (.pointer (some (a.add o))) w:=by
 obtain⟨fields,h1,h2,h3⟩:=AI2 hT e;subst h2;simp only[ANd,AJN]at hf;obtain⟨fld,hfl,he⟩:=hf;have hm:=ALA hfl;have hfa:fields[f]? =some fld:=by simp_all
 simp only[ANx]at he;simp[Instr.fieldAt,Bb h1,hfa,Instr.sureAddr,qq (h3 fld hm),he.1]
theorem lY{t:Nat}{x z:XV}{f:Nat}(e:wO T t x f=some z){v:Value}(hx:XR E w vw x v):∃u,(Instr.fieldAt t v f).run P w= .ok u w/\XR E w vw z u:=by
 unfold wO at e;split at e
 case h_2=>cases e
 rename_i s b fs _ V9;split at e
 case h_2=>cases e
 rename_i o u hf;split at e
 ·rename_i b' j
  cases e;obtain⟨h1,rfl⟩:=hx;exact⟨_,V2 hT V9 hf,h1,by rw[Addr.add_eq]⟩
 ·rename_i b' p i sz j
  cases e;obtain⟨h0,h1⟩:=hx;cases v with
  |pointer oa=>
   cases oa with
   |none=>simp[eM]at h0
   |some a=>
    obtain⟨ab,ao,sp⟩:=a;cases sp with
    |some _=>simp[eM]at h0
    |none=>
     refine⟨_,V2 hT V9 hf,by rw[Addr.add_eq];rfl,?_⟩;revert h1;split
     ·rintro⟨hp,q,ys,bb,o',len,cap,g1,g2,g3,g4⟩
      refine⟨hp,q,ys,bb,o',len,cap,g1,g2,g3,?_⟩;simp only[Value.pointer.injEq,AJL,Addr.mk.injEq,AO1]at g4;grind[Addr.add_eq,Nat.add_assoc]
     all_goals simp_all
  |_=>simp[eM]at h0
 ·rename_i s r y j
  cases e;obtain⟨bb,o',cs,rfl,h2,h3,h4,h5⟩:=hx;refine⟨_,V2 hT V9 hf,bb,o',cs,?_,h2,h3,h4,h5⟩;rw[Addr.add_eq,APN]
 simp_all
theorem oI{t:Nat}{x z:XV}{f:Nat}(e:AHC T t x f=some z){v:Value}(hx:XR E w vw x v):∃u,(Instr.field t v f).run P w= .ok u w/\XR E w vw z u:=by
 unfold AHC at e;split at e
 case h_2=>cases e
 rename_i s b fs _ l V9;obtain⟨vs,rfl,WN⟩:=hx;split at e
 case h_2=>cases e
 rename_i o u hf;split at e
 case h_2=>cases e
 rename_i ti htu;obtain⟨fields,h1,h2,h3⟩:=AI2 hT V9;subst h2;simp only[ANd,AJN]at hf;obtain⟨fld,hfl,he⟩:=hf;have hfa:fields[f]? =some fld:=by simp_all
 simp only[ANx]at he;obtain⟨rfl,rfl⟩:=he;have ld:=ES.isAgg hT htu w;have K8:=ES.sizeOf hT htu w;split at e
 ·rename_i ha
  cases e;rw[ha]at ld;refine⟨.agg (vs.extract fld.offset (fld.offset+ti.size)),?_,_,rfl,?_⟩
  ·simp[Instr.field,Bb h1,hfa,asAgg,part,ld,K8]
  ·have:(vs.extract fld.offset (fld.offset+ti.size)).toList=(vs.toList.drop fld.offset).take ti.size:=by
    simp_all
   rw[this];exact CX.take _ (CX.drop _ WN)
 ·rename_i ha
  simp only[AMH]at ha;rw[ha]at ld;simp only[AJN]at e;obtain⟨y,hy,rfl⟩:=e;obtain⟨v,hv,hr⟩:=CX.get WN hy;refine⟨v,?_,hr⟩;have:vs[fld.offset]? =some v:=by simp_all
  simp[Instr.field,Bb h1,hfa,asAgg,part,ld,this]
theorem KR{t:Nat}{r:Ty}(h:T.NP t r=true):∃e ti,P.underlying t=some (.slice e)/\T.get e=some ti/\ti.size=r.n/\ti.bytes<=512/\ti.row=some r:=by
 unfold JR.NP at h;split at h
 ·rename_i ti V9
  simp only[AJR,AJr]at h;unfold JR.elem at V9;split at V9
  ·rename_i e hd
   simp only[AJN]at hd;obtain⟨tj,h1,h2⟩:=hd;have:=(hT t tj h1).und;rw[h2]at this;exact⟨e,ti,this,V9,h.1.1,h.1.2,h.2⟩
  simp_all
 simp_all
theorem YI{t:Nat}(h:T.isStr t=true):P.underlying t=some .string:=by
 unfold JR.isStr at h;split at h
 ·rename_i hd
  simp only[AJN]at hd;obtain⟨tj,h1,h2⟩:=hd;have:=(hT t tj h1).und;rw[h2]at this;exact this
 simp_all
theorem mN{t:Nat}(h:T.AIp t=true):∃e,P.underlying t=some (.slice e):=by
 unfold JR.AIp at h;split at h
 ·rename_i e hd
  simp only[AJN]at hd;obtain⟨tj,h1,h2⟩:=hd;have:=(hT t tj h1).und;rw[h2]at this;exact⟨e,this⟩
 simp_all
omit hT in
theorem Ig{x:XV}{n:Int}(e:fo x=some n){v:Value}(hx:XR E w vw x v):∃κ,v= .int κ n:=by
 unfold fo at e;split at e
 ·cases e;exact⟨_,dI (E:=E) (w:=w) (vw:=vw) hx⟩
 ·cases e
theorem fV{t:Nat}{r:Ty}(h:T.NP t r=true){κ:IntKind}{i:Int}{a:Addr}{len cap:Nat}(h0:0<=i)(h1:i<(len:Int)):
  (Instr.indexAt t (.slice (some a) len cap) (.int κ i)).run P w= .ok (.pointer (some (a.add (i.toNat*r.n)))) w:=by
 obtain⟨e,ti,hu,V9,hs,_⟩:=KR hT h;have K8:=ES.sizeOf hT V9 w;simp[Instr.indexAt,asIntOf,Bb hu,h0,h1,K8,hs]
omit hT in
theorem ABH{bx:List Bx}{Fs:List AAc}(hB:NU E w bx bx Fs)(st:∀c,E.S c->E.T c){x:AV}{v:Value}(hv:VR E w bx x v){q:Ty}{ys:List q.D}(e:NS bx x=some ⟨q,ys⟩):
  ∃a cap,v= .slice a ys.length cap/\ys.length<=cap/\(ys.length=0\/ ∃b o,a=some ⟨b,o,none⟩):=by
 have:=bd (FB.refl bx) hB st hv e;simp only[Rd]at this;obtain⟨a,cap,h1,h2,h3⟩:=this;simp only[AL9,AO1]at h1;exact⟨a,cap,h1,h2,h3.imp id fun⟨b,o,h,_⟩=>⟨b,o,h⟩⟩
theorem kb{σ:St}{Fs:List AAc}(hB:NU E w σ.bx σ.bx Fs)(st:∀c,E.S c->E.T c){t:Nat}{x i:XV}{k:K Y}{y:Y}(e:mu σ T t x i k=some y){v u:Value}
  (hx:XR E w σ.bx x v) (hi:XR E w σ.bx i u):∃z val,k z σ=some y/\(Instr.indexAt t v u).run P w= .ok val w/\XR E w σ.bx z val:=by
 unfold mu at e;split at e
 ·rename_i s r rows n hn
  obtain⟨κ,rfl⟩:=Ig hn hi;split at e
  case isFalse=>cases e
  rename_i U0;split at e
  case isFalse=>cases e
  rename_i hb;obtain⟨h0,h1⟩:=hb;simp only[XR,VR,Rd]at hx;obtain⟨a,cap,hv,hl,hx⟩:=hx;simp only[AL9,AO1]at hv;subst hv;rcases hx with hx|⟨b,o,rfl,hb,hx⟩
  ·omega
  ·have IQ:n.toNat<rows.length:=by omega
   obtain⟨cs,c1,c2,c3⟩:=hx n.toNat _ (Rh IQ);refine⟨_,_,e,fV hT U0 h0 h1,b,o+n.toNat*r.n,cs,?_,by omega,c1,c2,by omega⟩;rw[Addr.add_eq];rfl
 ·rename_i b p n hn
  obtain⟨κ,rfl⟩:=Ig hn hi;split at e
  case h_2=>cases e
  rename_i q hq;split at e
  case isFalse=>cases e
  rename_i U0;split at e
  case isFalse=>cases e
  rename_i hb;obtain⟨h0,h1⟩:=hb
  change VR E w σ.bx (.ref b p) v at hx
  obtain⟨a,cap,rfl,hl,ha⟩:=ABH hB st hx hq;rcases ha with ha|⟨b',o,rfl⟩
  ·omega
  ·refine⟨_,_,e,fV hT U0 h0 h1,by rw[Addr.add_eq];rfl,?_⟩
   simp only[NS]at hq;obtain⟨_,hx⟩:=hx;grind[Addr.add_eq]
 ·rename_i b p off n' n hn
  obtain⟨κ,rfl⟩:=Ig hn hi;split at e
  case h_2=>cases e
  rename_i q hq;split at e
  case isFalse=>cases e
  rename_i U0;split at e
  case isFalse=>cases e
  rename_i hb;obtain⟨h0,h1⟩:=hb;simp only[NS]at hq;obtain⟨h00,hx⟩:=hx;revert hx;split
  ·rename_i d r rows xn
   rw[xn]at hq;dsimp only at hq
   rintro⟨hp,q',ys,a,len,cap,g1,g2,g3,rfl⟩
   have ZN:=fm (FB.refl _) hB st xn hp g1 g3;simp only[Rd]at ZN;obtain⟨a',cap',ee,hle,ZN⟩:=ZN;simp only[AL9,Value.slice.injEq,AO1]at ee;obtain⟨rfl,rfl,rfl⟩:=ee;rcases ZN with ZN|⟨b',o,rfl,_,_⟩
   ·omega
   ·unfold WV
    rw[AJD (by omega)];have hq1:q.1=q':=by
     grind
    refine⟨_,_,e,fV hT U0 h0 h1,by simp only[Option.map];rw[Addr.add_eq,Addr.add_eq];rfl,?_⟩;grind[Addr.add_eq,Nat.add_assoc,Nat.add_mul]
  all_goals simp_all
 simp_all
theorem eR{σ:St}{t:Nat}{x i:XV}{k:K Y}{y:Y}(e:Xs T t σ x i k=some y){v u:Value}(hx:XR E w vw x v)(hi:XR E w vw i u):
  ∃z val,k z σ=some y/\(Instr.index t v u).run P w= .ok val w/\XR E w vw z val:=by
 unfold Xs at e;split at e
 ·rename_i s n hn
  obtain⟨κ,rfl⟩:=Ig hn hi;have hv:=YY (E:=E) (w:=w) (vw:=vw) hx;subst hv;split at e
  case isFalse=>cases e
  rename_i tY;split at e
  case isFalse=>cases e
  rename_i hb;obtain⟨h0,h1⟩:=hb;refine⟨_,.int .u8 ((s.getD n.toNat 0).toNat:Int),e,?_,VR.int (E:=E) (vw:=vw) _ _⟩;have IQ:n.toNat<s.length:=by omega
  have:(⟨s.toArray⟩:ByteArray)[n.toNat]? =some s[n.toNat]:=by
   rw[getElem?_pos _ _ (by grind[ByteArray.size])];rfl
  simp[Instr.index,asIntOf,Bb (YI hT tY),h0,this,IQ]
 simp_all
omit hT in
theorem fI{x z:XV}{i:Nat}(e:sC x i=some z){v:Value}(hx:XR E w vw x v):∃u,(Instr.extract v i).run P w= .ok u w/\XR E w vw z u:=by
 unfold sC at e;split at e
 case h_2=>cases e
 rename_i l;obtain⟨vs,rfl,WN⟩:=hx;split at e
 ·rename_i x hx
  cases e;obtain⟨v,hv,hr⟩:=WN.get hx;have:vs[i]? =some v:=by simpa using hv
  exact⟨v,by simp[Instr.extract,this],hr⟩
 ·rename_i q hx
  cases e;obtain⟨v,hv,ws,rfl,hr⟩:=WN.get hx;have:vs[i]? =some (.agg ws):=by simpa using hv
  exact⟨.agg ws,by simp[Instr.extract,this],ws,rfl,hr⟩
 ·cases e
omit hT in
theorem oL{bx:List Bx}{Fs:List AAc}(hB:NU E w bx bx Fs)(st:∀c,E.S c->E.T c){x:AV}{n:Nat}(e:lenOf bx x=some n){v:Value}(hx:VR E w bx x v):
  ∃a cap,v= .slice a n cap:=by
 cases x with
 |nil=>simp only[lenOf,AJL]at e;subst e;exact⟨_,_,hx⟩
 |sl s r x=>
  simp only[lenOf,AJL]at e;subst e;simp only[VR,Rd]at hx;obtain⟨a,cap,h,_⟩:=hx;simp only[AL9,AO1]at h;exact⟨a,cap,h⟩
 |ref b p=>
  simp only[lenOf]at e;split at e
  ·rename_i d r rows hb
   simp only[AJN]at e;obtain⟨q,hq,rfl⟩:=e;obtain⟨a,cap,h,_⟩:=ABH hB st hx (q:=q.1) (ys:=q.2) (by simp only[NS,hb];exact hq);exact⟨a,cap,h⟩
  ·cases e
 |win b p off m=>
  simp only[lenOf]at e;split at e
  ·rename_i d r rows hb
   cases e;simp only[VR,hb]at hx;obtain⟨_,_,q,ys,a,len,cap,_,_,_,rfl⟩:=hx;exact⟨_,_,rfl⟩
  ·cases e
 |_=>simp[lenOf]at e
omit hT in
theorem Ug{big:Bool}{x z:XV}{k:AV->Option Y}{y:Y}(e:wR big x z k=some y){v u:Value}(hx:XR E w vw x v)(hz:XR E w vw z u)(t s:Array TypeId)(tt:TypeId):
  ∃r val,k r=some y/\(if big then Builtin.max_ t tt #[v,u]else Builtin.min_ t tt #[v,u]).run P w= .ok val w/\VR E w vw r val:=by
 unfold wR at e;split at e
 ·rename_i j m j' n
  have hv:=dI (E:=E) (w:=w) (vw:=vw) hx;have hu:=dI (E:=E) (w:=w) (vw:=vw) hz;subst hv hu;split at e
  case isFalse=>cases e
  rename_i hj;subst hj;cases big with
  |true=>exact⟨_,.int j (if n>m then n else m),e,by simp[Builtin.max_,Builtin.max2],VR.int _ _⟩
  |false=>exact⟨_,.int j (if n<m then n else m),e,by simp[Builtin.min_,Builtin.min2],VR.int _ _⟩
 ·cases e
omit hT in
theorem nj{op:UnOp}{x:XV}{k:AV->Option Y}{y:Y}(e:unX op x k=some y){v:Value}(hx:XR E w vw x v):
  ∃r val,k r=some y/\(Op.unary op v).run P w= .ok val w/\VR E w vw r val:=by
 unfold unX at e;split at e
 ·have hv:=TT (E:=E) (w:=w) (vw:=vw) hx
  subst hv;exact⟨_,_,e,by simp[Op.unary],VR.bool _⟩
 ·rename_i j n
  have hv:=dI (E:=E) (w:=w) (vw:=vw) hx;subst hv;exact⟨_,.int j (j.wrap (0-n)),e,by simp[Op.unary,Op.intArith],VR.int _ _⟩
 ·cases e
end
end Go.Fw
end
section
namespace Go.Fw
theorem Rs{a:Ty}(x:a.D):si rfl x=x:=rfl
theorem gX{w:World}{S:Nat->Prop}:∀{r:Ty} {d j:Nat} {cs:List Value} {x:r.D} {F:AAc} {t:Ty} {y:t.D},Ow w S d r cs x F->BS r j x=some ⟨t,y⟩->
  ∃v F1 F2,cs[j]? =some v/\Ow w S d t [v] y F1/\F.Perm (F1++F2)/\
   ∀(w':World) (S':Nat->Prop) (v':Value) (y':t.D) (qN:AAc) (x':r.D),(∀b,S b->S' b)->(∀b,S b->w'.heap[b]? =w.heap[b]?)->(∀b∈F2,w'.heap[b]? =w.heap[b]?)->
    Ow w' S' d t [v'] y' qN->Dz r j x t y' =some x'-> ∃F',F'.Perm (qN++F2)/\Ow w' S' d r (cs.set j v') x' F'
 | .cons c r,d,0,cs,x,F,t,y,h,e=>by
  simp only[Ow]at h;obtain⟨v,l,A,B,rfl,rfl,h1,h2⟩:=h;simp only[BS,AJL,AK7]at e;obtain⟨rfl,e⟩:=e;obtain rfl:=ANi e;refine⟨v,A,B,rfl,h1,ATe _,fun w' S' v' y' qN x' hS vF hF ho hx=> ?_⟩;simp only[Dz,ATS,Rs,AJL]at hx;subst hx;refine⟨qN++B,ATe _,?_⟩;simp only[Ow,ATK];exact⟨v',l,qN,B,rfl,rfl,ho,EP hS vF hF h2⟩
 | .cons c r,d,j+1,cs,x,F,t,y,h,e=>by
  simp only[Ow]at h;obtain⟨v,l,A,B,rfl,rfl,h1,h2⟩:=h;simp only[BS]at e;obtain⟨u,F1,F2,k1,k2,k3,k4⟩:=gX h2 e;refine⟨u,F1,A++F2,by simp_all,k2,?_,fun w' S' v' y' qN x' hS vF hF ho hx=> ?_⟩
  ·grind
  ·simp only[Dz,AJN]at hx
   obtain⟨z,hz,rfl⟩:=hx;obtain⟨F',p1,p2⟩:=k4 w' S' v' y' qN z hS vF (fun b hb=>hF b (by simp[hb])) ho hz;refine⟨A++F',?_,?_⟩
   ·grind
   ·simp only[Ow,List.set_cons_succ]
    exact⟨v,_,A,F',rfl,rfl,EP hS vF (fun b hb=>hF b (by simp[hb])) h1,p2⟩
 | .int k,d,0,cs,x,F,t,y,h,e=>by
  simp only[BS,AJL,AK7]at e;obtain⟨rfl,e⟩:=e;obtain rfl:=ANi e;have hc:=YK h;obtain⟨v,rfl⟩:∃v,cs=[v]:=by
   cases cs with
   |nil=>simp[Ty.n]at hc
   |cons a l=>cases l with
    |nil=>simp_all
    |cons _ _=>simp[Ty.n]at hc
  refine⟨v,F,[],rfl,h,by simp,fun w' S' v' y' qN x' hS vF hF ho hx=>⟨qN,by simp,?_⟩⟩;simp only[Dz,ATS,Rs,AJL]at hx;simp_all
 | .bool,d,0,cs,x,F,t,y,h,e=>by
  simp only[BS,AJL,AK7]at e;obtain⟨rfl,e⟩:=e;obtain rfl:=ANi e;have hc:=YK h;obtain⟨v,rfl⟩:∃v,cs=[v]:=by
   cases cs with
   |nil=>simp[Ty.n]at hc
   |cons a l=>cases l with
    |nil=>simp_all
    |cons _ _=>simp[Ty.n]at hc
  refine⟨v,F,[],rfl,h,by simp,fun w' S' v' y' qN x' hS vF hF ho hx=>⟨qN,by simp,?_⟩⟩;simp only[Dz,ATS,Rs,AJL]at hx;simp_all
 | .str,d,0,cs,x,F,t,y,h,e=>by
  simp only[BS,AJL,AK7]at e;obtain⟨rfl,e⟩:=e;obtain rfl:=ANi e;have hc:=YK h;obtain⟨v,rfl⟩:∃v,cs=[v]:=by
   cases cs with
   |nil=>simp[Ty.n]at hc
   |cons a l=>cases l with
    |nil=>simp_all
    |cons _ _=>simp[Ty.n]at hc
  refine⟨v,F,[],rfl,h,by simp,fun w' S' v' y' qN x' hS vF hF ho hx=>⟨qN,by simp,?_⟩⟩;simp only[Dz,ATS,Rs,AJL]at hx;simp_all
 | .sl r,d,0,cs,x,F,t,y,h,e=>by
  simp only[BS,AJL,AK7]at e;obtain⟨rfl,e⟩:=e;obtain rfl:=ANi e;have hc:=YK h;obtain⟨v,rfl⟩:∃v,cs=[v]:=by
   cases cs with
   |nil=>simp[Ty.n]at hc
   |cons a l=>cases l with
    |nil=>simp_all
    |cons _ _=>simp[Ty.n]at hc
  refine⟨v,F,[],rfl,h,by simp,fun w' S' v' y' qN x' hS vF hF ho hx=>⟨qN,by simp,?_⟩⟩;simp only[Dz,ATS,Rs,AJL]at hx;simp_all
 | .unit,_,_,_,_,_,_,_,_,e=>by simp[BS]at e
 | .int _,_,_+1,_,_,_,_,_,_,e=>by simp[BS]at e
 | .bool,_,_+1,_,_,_,_,_,_,e=>by simp[BS]at e
 | .str,_,_+1,_,_,_,_,_,_,e=>by simp[BS]at e
 | .sl _,_,_+1,_,_,_,_,_,_,e=>by simp[BS]at e
theorem nH{Fs:List AAc}{i:Nat}{G G':AAc}(h:Fs[i]? =some G):(Fs.set i G').flatten.Perm (G'++(Fs.set i []).flatten):=by
 have IQ:=(AJM.1 h).1;have p1:=VY (Fs:=Fs.set i G') (b:=i) (F:=G') (AMq (by omega));simp_all
theorem xj{w:World}{S:Nat->Prop}{d:Nat}{q:Ty}{a:Option Addr}{len cap:Nat}{ys:List q.D}{F:AAc}(h:Ow w S (d+1) (.sl q) [.slice a len cap] ys F){i:Nat}(hi:i<ys.length):
  ∃b o arr ty fr cs G R,a=some ⟨b,o,none⟩/\w.heap[b]? =some (.cells arr ty fr)/\yx fr arr.size/\o+i*q.n+q.n<=arr.size/\cs.length=q.n/\Be w b (o+i*q.n) cs/\
   Ow w S d q cs (rowAt q ys i) G/\F.Perm (G++(b::R))/\
   ∀(w':World) (S':Nat->Prop) (KT:Array Value) (gF:List Value) (bN:q.D) (G':AAc),(∀c,S c->S' c)->(∀c,S c->w'.heap[c]? =w.heap[c]?)->(∀c∈R,w'.heap[c]? =w.heap[c]?)->
    w'.heap[b]? =some (.cells KT ty fr)->KT.size=arr.size->(∀k,(k<o+i*q.n\/o+i*q.n+q.n<=k)->KT[k]? =arr[k]?)->gF.length=q.n->Be w' b (o+i*q.n) gF->
    Ow w' S' d q gF bN G'-> ∃F',F'.Perm (G'++(b::R))/\Ow w' S' (d+1) (.sl q) [.slice a len cap] (ys.set i bN) F':=by
 simp only[Ow]at h;obtain⟨a',cap',e,hle,h⟩:=h;simp only[AL9,Value.slice.injEq,AO1]at e;obtain⟨rfl,rfl,rfl⟩:=e;rcases h with⟨h1,_⟩|⟨b,o,arr,ty,fr,Fs,rfl,hb,K8,hu,rfl,hFl,cA⟩
 ·omega
 ·have hG:Fs[i]? =some (Fs[i]'(by omega)):=AJA _
  generalize Fs[i]'(by omega)=G at hG
  obtain⟨cs,c1,c2,c3⟩:=cA i _ G (Rh hi) hG;have hbound:o+i*q.n+q.n<=arr.size:=by
   have:(i+1)*q.n<=cap*q.n:=ALR _ (by omega);grind
  refine⟨b,o,arr,ty,fr,cs,G,(Fs.set i []).flatten,rfl,hb,fun i hi=>hu i (by omega),hbound,c1,c2,c3,?_,?_⟩
  ·refine(List.Perm.cons b (VY hG)).trans ?_
   exact List.perm_middle.symm
  ·intro w' S' KT gF bN G' hS vF hR hb' hs' hk pV hca ho
   refine⟨b::(Fs.set i G').flatten,?_,?_⟩
   ·grind[List.Perm.cons,nH,trans]
   ·simp only[Ow]
    refine⟨_,cap,by simp,by simp_all,.inr ⟨b,o,KT,ty,fr,Fs.set i G',rfl,hb',by omega,by simp_all,rfl,by simp_all,fun k y H hy hH=> ?_⟩⟩;by_cases e:k=i
    ·grind
    ·rw[ALE (by omega)]at hy
     rw[ALE (by omega)]at hH;obtain⟨ds,d1,d2,d3⟩:=cA k y H hy hH;refine⟨ds,d1,fun j v hj=> ?_,EP hS vF (fun c hc=>hR c (ANa.2 ⟨H,ALA (by grind:(Fs.set i [])[k]? =some H),hc⟩)) d3⟩;have yV:=(AJM.1 hj).1;have hold:=d2 j v hj;simp only[World.cell?,hb,AO8,AJn,AMd]at hold;simp only[World.cell?,hb',AO8,AJn,AMd];rw[hk,hold];rcases Nat.lt_or_gt_of_ne e with e|e
     ·left
      have:(k+1)*q.n<=i*q.n:=ALR _ e;grind
     ·right
      have:(i+1)*q.n<=k*q.n:=ALR _ e;grind
theorem sw{w:World}{S:Nat->Prop}:∀{p:List Xv} {d:Nat} {r:Ty} {h:Value} {rows:List r.D} {F:AAc} {q:Ty} {ys:List q.D},Ow w S d (.sl r) [h] rows F->DC r rows p->
  Gu r rows p=some ⟨q,ys⟩->p.length<d-> ∃h' F1 F2,I1 w h p=some h'/\Ow w S (d-p.length) (.sl q) [h'] ys F1/\F.Perm (F1++F2)/\
   ∀(w':World) (S':Nat->Prop) (xk:List q.D) (qN:AAc) (rows':List r.D),(∀c,S c->S' c)->(∀c,S c->w'.heap[c]? =w.heap[c]?)->(∀c∈F2,w'.heap[c]? =w.heap[c]?)->
    Ow w' S' (d-p.length) (.sl q) [h'] xk qN->qw r rows p q xk=some rows'-> ∃F',F'.Perm (qN++F2)/\Ow w' S' d (.sl r) [h] rows' F'
 |[],d,r,h,rows,F,q,ys,ho,_,hg,_=>by
  simp only[Gu,AJL,AK7]at hg;obtain⟨rfl,e⟩:=hg;obtain rfl:=ANi e;refine⟨h,F,[],Cv,ho,by simp,fun w' S' xk qN rows' _ _ _ ho' hs=>⟨qN,by simp,?_⟩⟩;simp only[qw,ATS,Rs,AJL]at hs;simp_all
 |s::p,d,r,h,rows,F,q,ys,ho,hp,hg,hd=>by
  obtain⟨d,rfl⟩:∃n,d=n+1:=⟨d-1,by omega⟩;simp only[DC]at hp;obtain⟨hi,K8,hp⟩:=hp;simp only[Gu]at hg;obtain⟨a,len,cap,rfl⟩:∃a len cap,h= .slice a len cap:=by
   have:=ho;simp only[Ow]at this;grind
  split at hg
  case h_2=>cases hg
  rename_i q' x' jN;rw[jN]at hp;obtain⟨b,o,arr,ty,fr,cs,G,R,rfl,hb,hu,hbd,c1,c2,c3,sN,hback⟩:=xj ho hi;obtain⟨v,A1,A2,k1,k2,k3,k4⟩:=gX c3 jN;obtain⟨h',F1,F2,m1,m2,m3,m4⟩:=sw k2 hp hg (by simp_all);have ANk:d+1-(s::p).length=d-p.length:=by simp
  refine⟨h',F1,F2++A2++(b::R),?_,by simp_all,?_,?_⟩
  ·simp only[I1]
   rw[K8,c2 _ _ k1];omega
  ·grind
  ·intro w' S' xk qN rows' hS vF hF2 ho' cl
   rw[ANk]at ho';simp only[qw,jN]at cl;simp only[AJa,AJN]at cl;obtain⟨x2,hx2,bN,hrow,rfl⟩:=cl;obtain⟨B1,p1,p2⟩:=m4 w' S' xk qN x2 hS vF (fun c hc=>hF2 c (by simp[hc])) ho' hx2;obtain⟨B2,p3,p4⟩:=k4 w' S' v x2 B1 bN hS vF (fun c hc=>hF2 c (by simp[hc])) p2 hrow;have AIq:cs.set s.j v=cs:=by
    apply ASB;grind
   rw[AIq]at p4;have hbb:=hF2 b (by simp);obtain⟨F',p5,p6⟩:=hback w' S' arr cs bN B2 hS vF (fun c hc=>hF2 c (by simp[hc])) (hbb.trans hb) rfl (fun _ _=>rfl) c1 (c2.of_block hbb) p4;grind
end Go.Fw
end
section
namespace Go.Fw
def OR(E:Env)(w:World)(vw:List Bx):Option XV->Option Value->Prop
 |none,none=>True
 |some x,some v=>XR E w vw x v
 |_,_=>False
section
variable{Y:Type} {P:Program} {T:JR} (hT:ES P T) {E:Env} {w:World} {vw:List Bx}
theorem run_sliceBound{κ:IntKind}{i:Int}{y:Nat}{code:BoundsCode}(h0:0<=i)(h1:i<=(y:Int)):(Instr.sliceBound (.int κ i) y code).run P w= .ok i.toNat w:=by
 simp[Instr.sliceBound,asIntOf,h0,h1]
theorem UJ{len cap:Nat}(hc:len<=cap){lo hi:Option XV}{k:Nat->Nat->Option Y}{y:Y}(e:O9 len lo hi k=some y){lv hv:Option Value}
  (hl:OR E w vw lo lv) (hh:OR E w vw hi hv) (b:Bool):∃l h,k l h=some y/\l<=h/\h<=len/\(Instr.sliceBounds b len cap lv hv none).run P w= .ok (l,h,cap) w:=by
 unfold O9 at e;dsimp only at e;split at e
 case h_2=>cases e
 rename_i l h el eh;split at e
 case isFalse=>cases e
 rename_i hb;obtain⟨b1,b2,b3⟩:=hb;refine⟨l.toNat,h.toNat,e,by omega,by omega,?_⟩;cases hi with
 |none=>cases hv with
  |some _=>exact hh.elim
  |none=>
   simp only[AJL]at eh;subst eh;cases lo with
   |none=>cases lv with
    |some _=>exact hl.elim
    |none=>
     simp only[AJL]at el;subst el;rfl
   |some x=>cases lv with
    |none=>exact hl.elim
    |some v=>
     obtain⟨κ,rfl⟩:=Ig (E:=E) (w:=w) (vw:=vw) el hl;simp[Instr.sliceBounds,run_sliceBound (P:=P) (w:=w) (κ:=κ) (i:=l) (y:=len) b1 (by omega)]
 |some x=>cases hv with
  |none=>exact hh.elim
  |some v=>
   obtain⟨κ,rfl⟩:=Ig (E:=E) (w:=w) (vw:=vw) eh hh;have e1:=fun code=>run_sliceBound (P:=P) (w:=w) (κ:=κ) (i:=h) (y:=cap) (code:=code) (by omega) (by omega)
   cases lo with
   |none=>cases lv with
    |some _=>exact hl.elim
    |none=>
     simp only[AJL]at el;subst el;simp[Instr.sliceBounds,e1]
   |some x=>cases lv with
    |none=>exact hl.elim
    |some v=>
     obtain⟨κ',rfl⟩:=Ig (E:=E) (w:=w) (vw:=vw) el hl;have e2:=fun code=>run_sliceBound (P:=P) (w:=w) (κ:=κ') (i:=l) (y:=h.toNat) (code:=code) b1 (by omega)
     simp[Instr.sliceBounds,e1,e2]
theorem uR(s:AAZ)(l h:Nat):(⟨s.toArray⟩:ByteArray).extract l h=⟨((s.drop l).take (h-l)).toArray⟩:=by
 apply ByteArray.ext;simp[List.extract_eq_take_drop]
include hT
theorem kD{σ:St}{Fs:List AAc}(hB:NU E w σ.bx σ.bx Fs)(st:∀c,E.S c->E.T c){t:Nat}{x:XV}{lo hi:Option XV}{k:K Y}{y:Y}(e:nu T t σ x lo hi k=some y)
  {v:Value} {lv hv:Option Value} (hx:XR E w σ.bx x v) (hl:OR E w σ.bx lo lv) (hh:OR E w σ.bx hi hv):
  ∃z val,k z σ=some y/\(Instr.sliceAt t v lv hv none).run P w= .ok val w/\XR E w σ.bx z val:=by
 unfold nu at e;split at e
 ·rename_i s
  split at e
  case isFalse=>cases e
  rename_i tY;have hu:=YI hT tY;have aG:=YY (E:=E) (w:=w) (vw:=σ.bx) hx;subst aG;obtain⟨l,h,ek,h1,h2,hr⟩:=UJ (P:=P) (cap:=s.length) (ALj _) e hl hh false;refine⟨_,.string ⟨((s.drop l).take (h-l)).toArray⟩,ek,?_,VR.str (E:=E) (vw:=σ.bx) _⟩;have hs:(⟨s.toArray⟩:ByteArray).size=s.length:=by rfl
  simp[Instr.sliceAt,Bb hu,Instr.slice,hs,hr,uR]
 ·rename_i s r rows
  split at e
  case isFalse=>cases e
  rename_i U0;obtain⟨el,ti,hu,V9,hs,_⟩:=KR hT U0;have K8:=ES.sizeOf hT V9 w
  change VR E w σ.bx (.sl s r rows) v at hx
  have tW:=hx;simp only[VR,Rd]at tW;obtain⟨a,cap,aG,hle,_⟩:=tW;simp only[AL9,AO1]at aG;subst aG;obtain⟨l,h,ek,h1,h2,hr⟩:=UJ (P:=P) hle e hl hh true;refine⟨_,WV r.n l (h-l) a cap,ek,?_,?_⟩
  ·simp[Instr.sliceAt,Bb hu,Instr.slice,hr,K8,hs,WV]
  grind[XR,VR,AA5]
 ·rename_i b p
  split at e
  case h_2=>cases e
  rename_i q hq;split at e
  case isFalse=>cases e
  rename_i U0;obtain⟨el,ti,hu,V9,hs,_⟩:=KR hT U0;have K8:=ES.sizeOf hT V9 w
  change VR E w σ.bx (.ref b p) v at hx
  obtain⟨a,cap,rfl,hle,_⟩:=ABH hB st hx hq;obtain⟨l,h,ek,h1,h2,hr⟩:=UJ (P:=P) hle e hl hh true;refine⟨_,WV q.1.n l (h-l) a cap,ek,?_,?_⟩
  ·simp[Instr.sliceAt,Bb hu,Instr.slice,hr,K8,hs,WV]
  ·simp only[NS]at hq
   obtain⟨_,hx⟩:=hx;refine⟨by rfl,?_⟩;grind
 simp_all
omit hT in
theorem cf{f:Nat->Option AV}:∀{n j:Nat} {l:List AV},fU f j n=some l->l.length=n/\ ∀(i:Nat) x,l[i]? =some x->f (j+i)=some x
 |0,j,l,e=>by simp only[fU,AJL]at e;subst e;simp
 |n+1,j,l,e=>by
  simp only[fU,AJa,AJN]at e;obtain⟨x,hx,l',hl,rfl⟩:=e;obtain⟨h1,h2⟩:=cf hl;refine⟨by simp[h1],fun i z hz=> ?_⟩;cases i with
  |zero=>simp at hz;subst hz;exact hx
  |succ i=>
   have:=h2 i z (by simpa using hz)
   rwa [show j+1+i=j+(i+1)by omega]at this
omit hT in
theorem Xt{B:Nat->Prop}{t:Ty}{x:t.D}{v:Value}(h:Rd w B t [v] x)(hs:t.scalar=true):VR E w vw (.v t x) v:=by
 refine⟨hs,?_⟩;cases t<;>first
  |(simpa only[Rd]using h)
  |(simp[Ty.scalar]at hs)
omit hT in
theorem ADH{s:Bool}{t:Ty}{x:t.D}{v:Value}(h:Rd w (if s then E.S else E.T) t [v] x):VR E w vw (ABh s ⟨t,x⟩) v:=by
 cases t with
 |sl r=>simp only[ABh,VR];exact h
 |int k=>exact Xt h rfl
 |bool=>exact Xt h rfl
 |str=>exact Xt h rfl
 |unit=>trivial
 |cons c r=>trivial
omit hT in
theorem oP{s:Xv}:∀{p:List Xv} {r:Ty} {rows:List r.D} {q:Ty} {ys:List q.D} {t:Ty} {x:List t.D},DC r rows p->Gu r rows p=some ⟨q,ys⟩->s.i<ys.length->s.sz=q.n->
  BS q s.j (rowAt q ys s.i)=some ⟨.sl t,x⟩->DC r rows (p++[s])/\Gu r rows (p++[s])=some ⟨t,x⟩
 |[],r,rows,q,ys,t,x,_,hg,hi,hs,hc=>by
  simp only[Gu,AJL,AK7]at hg;obtain⟨rfl,e⟩:=hg;obtain rfl:=ANi e;refine⟨?_,?_⟩
  ·simp only[AOi,DC,hc]
   exact⟨hi,hs,trivial⟩
  ·simp only[AOi,Gu,hc]
 |s'::p,r,rows,q,ys,t,x,hp,hg,hi,hs,hc=>by
  simp only[DC]at hp;obtain⟨h1,h2,hp⟩:=hp;simp only[Gu]at hg;split at hg
  ·rename_i q' x' jN
   rw[jN]at hp;obtain⟨a,b⟩:=oP hp hg hi hs hc;refine⟨?_,?_⟩
   ·simp only[API,DC,jN]
    exact⟨h1,h2,a⟩
   ·simp only[API,Gu,jN]
    exact b
  ·cases hg
omit hT in
theorem sd{s:Xv}:∀{p:List Xv} {h:Value} {b o len cap:Nat} {v:Value},I1 w h p=some (.slice (some ⟨b,o,none⟩) len cap)->w.cell? ⟨b,o+s.i*s.sz+s.j,none⟩=some v->
  I1 w h (p++[s])=some v
 |[],h,b,o,len,cap,v,e,hc=>by
  rw[Cv]at e;cases e;simp[I1,hc,Cv]
 |s'::p,h,b,o,len,cap,v,e,hc=>by
  cases h with
  |slice a l c=>
   cases a with
   |none=>simp[I1]at e
   |some a=>
    simp only[I1]at e;split at e
    ·rename_i h' hh
     simp only[API,I1,hh];exact sd e hc
    ·cases e
  |_=>simp[I1]at e
omit hT in
theorem Lx{bx:List Bx}{Fs:List AAc}(hB:NU E w bx bx Fs)(st:∀c,E.S c->E.T c){x z:AV}{i:Nat}(e:Jk bx x i=some z){v:Value}(hx:VR E w bx x v):
  ∃b o u,v= .pointer (some ⟨b,o,none⟩)/\w.cell? ⟨b,o+i,none⟩=some u/\VR E w bx z u:=by
 cases x with
 |IX b j=>
  simp only[Jk]at e;split at e
  ·rename_i cs hb
   obtain⟨F,⟨_,arr,ty,fr,ha,hu,hv⟩,_⟩:=hB.get hb;obtain⟨u,h1,h2⟩:=CX.get hv e;refine⟨_,_,u,hx.2,?_,h2⟩;simp only[World.cell?,ha,AO8,AJn,AMd];simpa using h1
  ·cases e
 |Js b p r sz j=>
  simp only[Jk]at e;split at e
  ·rename_i d q rows hb
   split at e
   case isFalse=>cases e
   rename_i hd;simp only[AJa]at e;obtain⟨⟨q',xk⟩,hg,e⟩:=e;split at e
   case isFalse=>cases e
   rename_i K8;simp only[AJN]at e;obtain⟨⟨t,y⟩,hc,rfl⟩:=e;simp only[VR,hb]at hx;obtain⟨_,hp,q1,ys,bb,o,len,cap,g1,g2,g3,rfl⟩:=hx;rw[hg]at g1;simp only[AJL,AK7]at g1;obtain⟨rfl,g1⟩:=g1;obtain rfl:=ANi g1;dsimp only at K8 hc;obtain⟨F,⟨hd1,ho⟩,hF⟩:=hB.get hb;have ZN:=fm (FB.refl bx) hB st hb hp hg g3;have AZ_:=ZN;simp only[Rd]at ZN;obtain⟨a',cap',ee,hle,ZN⟩:=ZN;simp only[AL9,Value.slice.injEq,AO1]at ee;obtain⟨rfl,rfl,rfl⟩:=ee;rcases ZN with ZN|⟨b1,o1,e7,_,ZN⟩
   ·omega
   ·cases e7
    obtain⟨cs,c1,c2,c3⟩:=ZN r _ (Rh g2);obtain⟨u,hu,hur⟩:=gU c3 hc;have bQ:=c2 _ _ hu;rw[<-K8]at bQ;refine⟨_,_,u,rfl,by rw[APN];exact bQ,?_⟩;cases t with
    |sl t' =>
     simp only[AB9];split
     ·rename_i hdd
      obtain⟨h',F1,F2,m1,m2,_,_⟩:=sw ho hp hg hd;rw[g3]at m1;cases m1;rw[show d-p.length=0+1 by omega]at m2;obtain⟨b2,o2,arr,ty,fr,cs2,G,R,e2,_,_,_,_,k2,k3,_,_⟩:=xj m2 g2;cases e2;obtain⟨v2,A1,A2,z1,z2,_,_⟩:=gX k3 hc;have AEj:=k2 _ _ z1;rw[<-K8,bQ]at AEj;cases AEj;simp only[Ow]at z2;simp only[VR];exact z2.1
     ·simp only[VR,hb]
      have:=oP (s:=⟨r,sz,j+i⟩) hp hg g2 K8 hc;simp only[Rd]at hur;obtain⟨a2,cap2,e2,_⟩:=hur;simp only[AL9,AO1]at e2;refine⟨by rw[e2];rfl,this.1,⟨_,this.2⟩,sd g3 bQ⟩
    |int k=>exact Xt hur rfl
    |bool=>exact Xt hur rfl
    |str=>exact Xt hur rfl
    |unit=>trivial
    |cons c r=>trivial
  ·cases e
 |Pv s r y j=>
  simp only[Jk,AJN]at e;obtain⟨⟨t,y'⟩,hc,rfl⟩:=e;obtain⟨bb,o,cs,rfl,h2,h3,h4,h5⟩:=hx;obtain⟨u,hu,hur⟩:=gU h5 hc;refine⟨_,_,u,rfl,by rw[APN];exact h4 _ _ hu,ADH hur⟩
 |_=>simp[Jk]at e
omit hT in
theorem fK{bx:List Bx}{Fs:List AAc}(hB:NU E w bx bx Fs)(st:∀c,E.S c->E.T c){x:AV}{v:Value}(hx:VR E w bx x v){b o:Nat}(hv:v= .pointer (some ⟨b,o,none⟩)):
  ∀{l:List AV} {j:Nat},(∀(i:Nat) z,l[i]? =some z->Jk bx x (j+i)=some z)-> ∃cs:List Value,cs.length=l.length/\Be w b (o+j) cs/\jy E w bx l cs
 |[],_,_=>⟨[],rfl,fun _ _ h=>by simp at h,trivial⟩
 |z::l,j,h=>by
  obtain⟨b',o',u,e1,e2,e3⟩:=Lx hB st (h 0 z rfl) hx;subst hv;simp only[Value.pointer.injEq,AJL,Addr.mk.injEq,AO1]at e1;obtain⟨rfl,rfl⟩:=e1;obtain⟨cs,c1,c2,c3⟩:=fK hB st hx rfl (l:=l) (j:=j+1) (fun i y hy=>by
   have:=h (i+1) y (by simpa using hy)
   rwa [show j+1+i=j+(i+1)by omega])
  refine⟨u::cs,by simp[c1],fun i y hy=> ?_,e3,c3⟩;cases i with
  |zero=>simp at hy;subst hy;exact e2
  |succ i=>
   have:=c2 i y (by simpa using hy)
   rwa [show o+(j+1)+i=o+j+(i+1)by omega]at this
theorem ya{σ:St}{Fs:List AAc}(hB:NU E w σ.bx σ.bx Fs)(st:∀c,E.S c->E.T c){t:Nat}{x z:XV}(e:oh T t σ x=some z){v:Value}(hx:XR E w σ.bx x v):
  ∃u,(Instr.loadAt t v).run P w= .ok u w/\XR E w σ.bx z u:=by
 unfold oh at e;split at e
 case h_2=>cases e
 rename_i x ti V9;split at e
 case isTrue=>cases e
 rename_i K8;have ld:=ES.isAgg hT V9 w;split at e
 ·rename_i ha
  rw[ha]at ld;simp only[AJN]at e;obtain⟨l,hl,rfl⟩:=e;obtain⟨h1,h2⟩:=cf hl;have h0:0<l.length:=by omega
  obtain⟨b,o,u,hv,_,_⟩:=Lx hB st (h2 0 _ (AJA h0)) hx;obtain⟨cs,c1,c2,c3⟩:=fK hB st hx hv (l:=l) (j:=0) (fun i y hy=>by simp_all);subst hv;have lT:=(hT t ti V9).und;cases hd:ti.desc with
  |st fs=>
   rw[hd]at lT;obtain⟨fields,hu,_⟩:=lT;refine⟨.agg cs.toArray,run_loadAt_mid w b o t cs _ (by grind[Be,World.rangeAt]) hu rfl ?_,cs.toArray,rfl,by omega⟩;grind[ES.size]
  |_=>grind[TD.agg]
 ·rename_i ha
  simp only[AMH]at ha;rw[ha]at ld;simp only[AJN]at e;obtain⟨y,hy,rfl⟩:=e;obtain⟨b,o,u,hv,hc,hr⟩:=Lx hB st hy hx;subst hv;refine⟨u,?_,hr⟩;simp only[APL]at hc;simp[Instr.loadAt,Instr.sureAddr,loadVar,ld,hc]
end
end Go.Fw
end
section
namespace Go.Fw
theorem rE{w:World}{S:Nat->Prop}{d:Nat}{q:Ty}:Ow w S d (.sl q) [.slice none 0 0] [] []:=by
 cases d with
 |zero=>simp only[Ow,Rd];simp_all
 |succ d=>simp only[Ow];simp_all
theorem AGx{w:World}{S:Nat->Prop}{d:Nat}{r:Ty}{a:Option Addr}{len cap:Nat}{ys:List r.D}{F:AAc}(h:Ow w S (d+1) (.sl r) [.slice a len cap] ys F){off n:Nat}(hn:off+n<=ys.length):
  ∃F1 F2,F.Perm (F1++F2)/\Ow w S (d+1) (.sl r) [WV r.n off n a cap] ((ys.drop off).take n) F1:=by
 simp only[Ow]at h|-;obtain⟨a',cap',e,hc,h⟩:=h;simp only[AL9,Value.slice.injEq,AO1]at e;obtain⟨rfl,rfl,rfl⟩:=e;have hl:((ys.drop off).take n).length=n:=by grind
 by_cases h0:cap=off
 ·subst h0
  refine⟨[],F,by simp,a,0,by simp[WV,hl],by omega,.inl ⟨rfl,rfl⟩⟩
 ·rcases h with⟨h,rfl⟩|⟨b,o,arr,ty,fr,Fs,rfl,hb,K8,hu,rfl,hFl,hr⟩
  ·omega
  ·have p:Fs.flatten.Perm (((Fs.drop off).take n).flatten++((Fs.take off).flatten++(Fs.drop (off+n)).flatten)):=by
    grind[List.drop_drop,List.take_append_drop,List.flatten_append,List.append_assoc,List.Perm.append_right,List.perm_append_comm]
   refine⟨b::((Fs.drop off).take n).flatten,(Fs.take off).flatten++(Fs.drop (off+n)).flatten,List.Perm.cons b p,some ⟨b,o+off*r.n,none⟩,cap-off,?_,by omega,.inr ⟨b,o+off*r.n,arr,ty,fr,_,rfl,hb,?_,hu,rfl,?_,?_⟩⟩
   ·grind[WV,Addr.add_eq]
   ·have:off*r.n+(cap-off)*r.n=cap*r.n:=by rw[<-APH];grind
    omega
   all_goals grind
theorem Le.keep{E E':Env}(h:Le E E'){w:World}{vw:List Bx}(st:∀c,E.S c->E.T c):Tk E w vw E' w vw:=
 ⟨ALj _,fun b _=>by rw[h.Hg],h.T,h.S,st,fun _ _=>rfl,fun b d r rows _ e=>⟨d,rows,e,fun p hp q ys hg=>⟨hp,⟨ys,hg,rfl⟩,fun h' hh=>by rw[h.Hi];exact hh⟩⟩⟩
theorem C0.share{E:Env}{w:World}{vw bx:List Bx}{F W G:AAc}(h:C0 E w vw bx (F++W++G)):
  let E':Env:={ E with S:=fun c=>E.S c\/c∈W,T:=fun c=>E.T c\/c∈W }
  Le E E'/\C0 E' w vw bx (F++G):=by
 intro E';have st:=h.st;have hle:Le E E':=⟨rfl,rfl,fun c hc=> .inl hc,fun c hc=> .inl hc,fun c hc=>hc.elim .inl fun h' => .inr (.inr h'),fun c hc=>hc.elim .inl fun h' => .inr (h.AGV c (by simp[h']))⟩;refine⟨hle,?_⟩;obtain⟨Fs,⟨h1,h2⟩,h3⟩:=h;refine⟨Fs,⟨h1,fun k B F' hk hF=> ?_⟩,?_⟩
 ·have:=h2 k B F' hk hF
  cases B with
  |mem cs=>
   obtain⟨rfl,arr,ty,fr,a1,a2,a3⟩:=this;exact⟨rfl,arr,ty,fr,a1,a2,a3.imp fun _ _ hv=>GB (hle.keep st) hv⟩
  |sl d r rows=>exact⟨this.1,EP hle.S (fun _ _=>rfl) (fun _ _=>rfl) this.2⟩
  |dead=>exact this
 ·have h4:Sep E w (W++(Fs.flatten++(F++G))):=h3.perm (by
   rw[AKK F W G,<-AKK Fs.flatten,<-AKK (Fs.flatten++F),<-AKK Fs.flatten F G,<-AKK W];exact APR _ ARl)
  refine⟨(AKg.1 h4.nodup).2.1,fun c hc ht=> ?_,fun c hc=>h4.lt c (by simp only[ALk];exact .inr (by simpa using hc)),fun c hc=>hc.imp (st c) id,fun c hc=>hc.elim (h4.cI c) fun h' =>h4.lt c (by simp[h']),h4.tu.mono (fun _ h=> .inl h) (fun _ _=>rfl)⟩;rcases ht with ht|ht
  ·exact h4.free c (ALk.2 (.inr hc)) ht
  ·exact(AKg.1 h4.nodup).2.2 c ht c hc rfl
structure G4 (E:Env) (w:World) (vw bx:List Bx) (G:AAc) (E':Env) (RF:List Bx) (F:AAc):Prop where
 le:Le E E'
 len:RF.length=bx.length
 within:∀(b:Nat) (B:Bx),RF[b]? =some B->B= .dead\/bx[b]? =some B
 boxes:C0 E' w vw RF (F++G)
theorem G4.refl{E:Env}{w:World}{vw bx:List Bx}{G:AAc}(h:C0 E w vw bx G):G4 E w vw bx G E bx []:=
 ⟨Le.refl E,rfl,fun _ _ h=> .inr h,h⟩
theorem FB.rW{E E':Env}{w:World}{vw bx RF:List Bx}{G F:AAc}(h:FB bx vw)(k:G4 E w vw bx G E' RF F):FB RF vw:=fun b B e=>
 (k.within b B e).elim .inl (h b B)
theorem dR{E:Env}{w:World}{vw bx:List Bx}{G:AAc}(h:C0 E w vw bx G)(hw:FB bx vw){d:Nat}(hd:1<=d){t:Ty}{x:AV}{v:Value}(hv:VR E w vw x v){y:t.D}{RF:List Bx}{d':Nat}
  (e:fT d t x bx=some (y,RF,d')):1<=d'/\d'<=d/\ ∃E' F,G4 E w vw bx G E' RF F/\Ow w E'.S (d'-1) t [v] y F:=by
 unfold fT at e;split at e
 ·rename_i u z
  simp only[AJN,ANx]at e;obtain⟨z',e1,rfl,rfl,rfl⟩:=e;obtain⟨e2,e3⟩:=IF e1;subst e2;subst e3;refine⟨hd,ALj _,E,[],G4.refl h,?_⟩;obtain⟨hs,hr⟩:=hv;cases u<;>simp_all[Ty.scalar,Ow,Rd]
 ·split at e
  ·simp only[AJL,ANx]at e
   obtain⟨rfl,rfl,rfl⟩:=e;simp only[VR]at hv;subst hv;exact⟨hd,ALj _,E,[],G4.refl h,rE⟩
  simp_all
 ·rename_i r z
  split at e
  ·rename_i q
   simp only[AJN,ANx]at e;obtain⟨z',e1,rfl,rfl,rfl⟩:=e;obtain⟨e2,e3⟩:=IF e1;subst e2;subst e3;refine⟨ALj _,hd,E,[],G4.refl h,?_⟩;simp only[VR]at hv;simp only[ATT,Ow];simp_all
  simp_all
 ·rename_i b
  split at e
  case h_2=>cases e
  rename_i q;split at e
  case h_2=>cases e
  rename_i db r z hb;simp only[AJN,ANx]at e;obtain⟨z',e1,rfl,rfl,rfl⟩:=e;obtain⟨e2,e3⟩:=IF e1;subst e2;subst e3;obtain⟨F0,⟨hd1,ho⟩,hB⟩:=h.take hb;have hvv:v=E.Hi b:=by
   grind[VR,aE,Cv]
  subst hvv;obtain⟨F1,W,hp,ho'⟩:=KB (d:=min d (db+1)-1) (by omega) ho;have Ti:=hB.perm (APR G hp);obtain⟨hle,Xw⟩:=Ti.share;refine⟨by omega,Nat.min_le_left _ _,_,F1,⟨hle,by simp,fun k B hk=> ?_,Xw⟩,ho'⟩;grind
 ·rename_i b off n
  split at e
  case h_2=>cases e
  rename_i q;split at e
  case h_2=>cases e
  rename_i db r z hb;simp only[AJN,ANx]at e;obtain⟨z',e1,rfl,rfl,rfl⟩:=e;obtain⟨e2,e3⟩:=IF e1;subst e2;subst e3;obtain⟨F0,⟨hd1,ho⟩,hB⟩:=h.take hb;simp only[VR,aE hw hb,Cv]at hv;obtain⟨_,_,q',ys,a,len,cap,hg,hn,hh,rfl⟩:=hv;simp only[Gu,AJL,AK7]at hg;obtain⟨rfl,hg⟩:=hg;obtain rfl:=ANi hg;simp only[AJL]at hh;rw[hh]at ho;obtain⟨db,rfl⟩:∃m,db=m+1:=⟨db-1,by omega⟩;obtain⟨A1,A2,hp0,ho0⟩:=AGx ho hn;obtain⟨F1,W,hp,ho'⟩:=KB (d:=min d (db+1+1)-1) (by omega) ho0;have hB1:C0 E w vw (bx.set b .dead) (A1++G):=by
   refine C0.drop (G':=A2) (hB.perm ?_);grind
  have Ti:=hB1.perm (APR G hp);obtain⟨hle,Xw⟩:=Ti.share;refine⟨by omega,Nat.min_le_left _ _,_,F1,⟨hle,by simp,fun k B hk=> ?_,Xw⟩,ho'⟩;grind
 simp_all
theorem ax{w:World}{vw:List Bx}:∀{r:Ty} {E:Env} {bx:List Bx} {G:AAc} {d:Nat} {l:List AV} {vs:List Value} {y:r.D} {RF:List Bx} {d':Nat},C0 E w vw bx G->FB bx vw->1<=d->
  jy E w vw l vs->cellsIn d r l bx=some (y,RF,d')->1<=d'/\d'<=d/\ ∃E' F,G4 E w vw bx G E' RF F/\Ow w E'.S (d'-1) r vs y F
 | .unit,E,bx,G,d,[],[],y,RF,d',h,hw,hd,_,e=>by
  simp only[cellsIn,AJL,ANx]at e;obtain⟨_,rfl,rfl⟩:=e;exact⟨hd,ALj _,E,[],G4.refl h,by simp only[Ow];simp_all⟩
 | .cons c r,E,bx,G,d,x::l,v::vs,y,RF,d',h,hw,hd,hv,e=>by
  simp only[cellsIn,AJa,AJN,ANx]at e;obtain⟨⟨y1,kh,d1⟩,e1,⟨y2,bJ,d2⟩,e2,rfl,rfl,rfl⟩:=e;dsimp only at e2|-;obtain⟨a1,a2,E1,F1,k1,o1⟩:=dR h hw hd hv.1 e1;have yU:=k1.le.keep (w:=w) (vw:=vw) h.st;obtain⟨b1,b2,E2,F2,k2,o2⟩:=ax (G:=F1++G) k1.boxes (hw.rW k1) a1 (hv.2.imp fun _ _ h=>GB yU h) e2;obtain⟨A,W,hp,o1'⟩:=KB (d:=d'-1) (by omega) o1;have hB:=k2.boxes.perm (G':=(F2++A)++W++G) (by
   grind)
  obtain⟨hle,Xw⟩:=hB.share;refine⟨b1,AOT b2 a2,_,A++F2,⟨(k1.le.trans k2.le).trans hle,k2.len.trans k1.len,fun b B hb=>(k2.within b B hb).elim .inl (k1.within b B),Xw.perm (APR _ ARl)⟩,?_⟩;simp only[Ow];refine⟨v,vs,A,F2,rfl,rfl,?_,?_⟩
  ·refine EP (S:=fun b=>E1.S b\/b∈W) ?_ (fun _ _=>rfl) (fun _ _=>rfl) o1'
   intro c hc;exact hc.elim (fun h=> .inl (k2.le.S c h)) .inr
  ·refine EP (S:=E2.S) ?_ (fun _ _=>rfl) (fun _ _=>rfl) o2
   simp_all
 | .unit,_,_,_,_,_::_,_,_,_,_,_,_,_,_,e=>by simp[cellsIn]at e
 | .unit,_,_,_,_,[],_::_,_,_,_,_,_,_,hv,_=>hv.elim
 | .cons _ _,_,_,_,_,[],_,_,_,_,_,_,_,_,e=>by simp[cellsIn]at e
 | .cons _ _,_,_,_,_,_::_,[],_,_,_,_,_,_,hv,_=>hv.elim
 | .int _,_,_,_,_,_,_,_,_,_,_,_,_,_,e=>by simp[cellsIn]at e
 | .bool,_,_,_,_,_,_,_,_,_,_,_,_,_,e=>by simp[cellsIn]at e
 | .str,_,_,_,_,_,_,_,_,_,_,_,_,_,e=>by simp[cellsIn]at e
 | .sl _,_,_,_,_,_,_,_,_,_,_,_,_,_,e=>by simp[cellsIn]at e
theorem wJ{E:Env}{w:World}{vw:List Bx}{x:AV}{v:Value}(h:VR E w vw x v)(hk:x.known=true):v.oneCell' =true/\v.cells= #[v]:=by
 have aux:∀{v:Value},isSlice v=true->v.oneCell' =true/\v.cells= #[v]:=by intro v h;cases v<;>simp_all[isSlice,Value.oneCell',Value.cells]
 have ATu:∀{v:Value},eM v=true->v.oneCell' =true/\v.cells= #[v]:=by intro v h;cases v<;>simp_all[eM,Value.oneCell',Value.cells]
 cases x with
 |v t y=>
  obtain⟨hs,hr⟩:=h;cases t<;>simp[Ty.scalar]at hs<;>simp only[Rd,AL9,AO1]at hr<;>subst hr<;>exact⟨rfl,rfl⟩
 |sl s r y=>
  simp only[VR,Rd]at h;obtain⟨a,cap,h,_⟩:=h;simp only[AL9,AO1]at h;subst h;exact⟨rfl,rfl⟩
 |nil=>simp only[VR]at h;subst h;exact⟨rfl,rfl⟩
 |ref b p=>exact aux h.1
 |win b p off n=>exact aux h.1
 |IX b j=>rw[h.2];exact⟨rfl,rfl⟩
 |Js b p i sz j=>exact ATu h.1
 |Pv s r y j=>obtain⟨bb,o,cs,rfl,_⟩:=h;exact⟨rfl,rfl⟩
 |fn f Ka=>rw[h.2];exact⟨rfl,rfl⟩
 |ta f rows=>obtain⟨ps,rfl,_⟩:=h;exact⟨rfl,rfl⟩
 |ABv=>simp only[VR]at h;subst h;exact⟨rfl,rfl⟩
 |undef=>simp[AV.known]at hk
theorem ACY{E:Env}{w:World}{vw:List Bx}:∀{l:List AV} {vs:List Value},jy E w vw l vs->l.all AV.known=true-> ∀v∈vs,v.oneCell' =true
 |[],[],_,_=>by simp
 |x::l,v::vs,h,hk=>by
  simp only[APD,AJR]at hk;intro u hu;rcases ALa.1 hu with rfl|hu
  ·exact(wJ h.1 hk.1).1
  ·exact ACY h.2 hk.2 u hu
theorem q9{E:Env}{w:World}{vw:List Bx}{x:XV}{v:Value}(h:XR E w vw x v)(hk:x.cells.all AV.known=true)(hn:x.cells≠[]):jy E w vw x.cells v.cells.toList/\ ∀u∈v.cells.toList,u.oneCell' =true:=by
 cases x with
 |c x=>
  have h':VR E w vw x v:=h;obtain⟨h1,h2⟩:=wJ h' (by grind[XV.cells]);rw[h2];exact⟨⟨h',trivial⟩,by simp_all⟩
 |agg l=>
  obtain⟨vs,rfl,WN⟩:=h;exact⟨WN,ACY WN hk⟩
 |MA l=>simp[XV.cells]at hn
theorem yL{w:World}{vw:List Bx}{r:Ty}{E:Env}{bx:List Bx}{G:AAc}{d:Nat}{x:XV}{v:Value}{y:r.D}{RF:List Bx}{d':Nat}(h:C0 E w vw bx G)(hw:FB bx vw)(hd:1<=d)
  (hv:XR E w vw x v) (e:AGs d r x bx=some (y,RF,d')):1<=d'/\d'<=d/\ ∃E' F,G4 E w vw bx G E' RF F/\Ow w E'.S (d'-1) r v.cells.toList y F:=by
 unfold AGs at e;split at e
 ·rename_i l
  obtain⟨vs,rfl,WN⟩:=hv;exact ax h hw hd WN e
 ·rename_i x
  have aG:VR E w vw x v:=hv;have hk:x.known=true:=by grind[AV.known,fT]
  rw[(wJ aG hk).2];exact dR h hw hd aG e
 simp_all
end Go.Fw
end
section
namespace Go.Fw
def Env.ct(E:Env)(n:Nat)(h:Value):Env:={ E with Hi:=fun k=>if k=n then h else E.Hi k }
def Env.gN(E:Env)(n b:Nat):Env:={ E with Hg:=fun k=>if k=n then b else E.Hg k }
theorem iX{E E1 E':Env}{w w':World}{vw kh RF:List Bx}{F:AAc}(k:G4 E w vw vw [] E1 kh F)(st:∀c,E.S c->E.T c)(hlen:vw.length<=RF.length)
  (xn:∀b B,b<vw.length->RF[b]? =some B->kh[b]? =some B) (AFi:∀b,b<vw.length->E'.Hg b=E1.Hg b) (jj:∀b,b<vw.length->E'.Hi b=E1.Hi b) (hT:E'.T=E1.T) (hS:E'.S=E1.S)
  (hw:∀c,c<w.heap.size->c∉F->w'.heap[c]? =w.heap[c]?):Tk E w vw E' w' RF:=by
 have hB:=k.boxes;obtain⟨Fs,⟨h1,h2⟩,h3⟩:=hB;simp only[AKX]at h3;have z8:∀c,E1.T c->w'.heap[c]? =w.heap[c]?:=fun c hc=>hw c (h3.cI c hc) fun hf=>h3.free c (by simp[hf]) hc
 refine⟨hlen,fun b hb=>by rw[AFi b hb,k.le.Hg],fun c hc=>by rw[hT];exact k.le.T c hc,fun c hc=>by rw[hS];exact k.le.S c hc,st,fun c hc=>z8 c (k.le.T c hc),fun b d r rows hb e=> ?_⟩;have e1:=xn b _ hb e;rcases k.within b _ e1 with e2|e2
 ·cases e2
 ·refine⟨d,rows,e2,fun p hp q ys hg=>⟨hp,⟨ys,hg,rfl⟩,fun h' hh=> ?_⟩⟩
  have hF:Fs[b]? =some (Fs[b]'(by grind)):=AJA _;obtain⟨hd,ho⟩:=h2 b _ _ e1 hF;rw[jj b hb];rw[<-k.le.Hi]at hh;refine wy ho (fun c hc=>z8 c (h3.st c hc)) (fun c hc=> ?_) hp hg hh;have Pu:c∈Fs.flatten:=ANa.2 ⟨_,ALA hF,hc⟩;exact hw c (h3.lt c (by simp[Pu])) fun hf=>(AKg.1 h3.nodup).2.2 c Pu c hf rfl
structure Grown (w w':World):Prop where
 os:w'.os=w.os
 tape:w'.tape=w.tape
 output:w'.output=w.output
 size:w.heap.size<=w'.heap.size
theorem UC{E E1:Env}{σ:St}{a:Act}{w w':World}{kh:List Bx}{F F':AAc}(h:Rel E σ a w)(k:G4 E w σ.bx σ.bx [] E1 kh F){v:Value}{d:Nat}{r:Ty}{rows:List r.D}(hd:1<=d)
  (ho:Ow w' E1.S d (.sl r) [v] rows F') (hF':∀c∈F',c∈F\/w.heap.size<=c) (nd:F'.Nodup) (IQ:∀c∈F',c<w'.heap.size) (hw:∀c,c<w.heap.size->c∉F->w'.heap[c]? =w.heap[c]?) (g:Grown w w'):
  let E':=E1.ct kh.length v
  Rel E' { σ with bx:=kh++[.sl d r rows] } a w'/\Rx [] E σ.bx w E' (kh++[.sl d r rows]) w'/\XR E' w' (kh++[.sl d r rows]) (.c (.ref kh.length [])) v:=by
 intro E';have st:=h.bx.st;have hn:=k.len;have keep:Tk E w σ.bx E' w' (kh++[.sl d r rows]):=iX k st (by simp[hn]) (fun b B hb e=>by
   rw[AKW (by omega)]at e;exact e) (fun b _=>rfl) (fun b hb=>by simp[E',Env.ct];intro e;omega) rfl rfl hw
 have yU:Tk E1 w σ.bx E' w' (kh++[.sl d r rows]):=by
  have k':G4 E1 w σ.bx σ.bx [] E1 kh F:=⟨Le.refl _,k.len,k.within,k.boxes⟩;exact iX k' k.boxes.st (by simp[hn]) (fun b B hb e=>by
   rw[AKW (by omega)]at e;exact e) (fun b _=>rfl) (fun b hb=>by simp[E',Env.ct];intro e;omega) rfl rfl hw
 obtain⟨Fs,⟨h1,h2⟩,h3⟩:=k.boxes;simp only[AKX]at h3;have z8:∀c,E1.T c->w'.heap[c]? =w.heap[c]?:=fun c hc=>hw c (h3.cI c hc) fun hf=>h3.free c (by simp[hf]) hc
 have hF0:∀c∈Fs.flatten,w'.heap[c]? =w.heap[c]?:=fun c hc=>hw c (h3.lt c (by simp[hc])) fun hf=>(AKg.1 h3.nodup).2.2 c hc c hf rfl
 refine⟨⟨h.N4,h.tm.imp fun _ _ hx=>Pc keep hx,?_⟩,?_,?_⟩
 ·refine⟨Fs++[F'],⟨by simp[h1],fun n B G hB hG=> ?_⟩,?_⟩
  ·by_cases wu:n<kh.length
   ·rw[AKW wu]at hB
    rw[AKW (by omega)]at hG;have:=h2 n B G hB hG;have hGw:∀c∈G,w'.heap[c]? =w.heap[c]?:=fun c hc=>hF0 c (ANa.2 ⟨G,ALA hG,hc⟩)
    cases B with
    |mem cs=>
     obtain⟨rfl,arr,ty,fr,a1,a2,a3⟩:=this;exact⟨rfl,arr,ty,fr,(hGw (E1.Hg n) (by simp)).trans a1,a2,a3.imp fun _ _ hv=>GB yU hv⟩
    |sl d0 r0 Sh=>
     refine⟨this.1,?_⟩;have e0:E'.Hi n=E1.Hi n:=by simp[E',Env.ct];intro e;omega
     rw[e0];exact EP (fun _ hc=>hc) (fun c hc=>z8 c (h3.st c hc)) hGw this.2
    |dead=>exact this
   ·have hnn:=(AJM.1 hB).1
    simp at hnn;obtain rfl:n=kh.length:=by omega
    rw[ALb (by omega)]at hB hG;simp[h1]at hB hG;subst hB hG;refine⟨hd,?_⟩;have e0:E'.Hi kh.length=v:=by simp[E',Env.ct]
    rw[e0];exact ho
  ·simp only[APJ,APT,ASi,AKX]
   have nd0:=AKg.1 h3.nodup;refine⟨AKg.2 ⟨nd0.1,nd,fun x hx y hy e=> ?_⟩,fun c hc ht=> ?_,fun c hc=> ?_,h3.st,fun c hc=>AOX (h3.cI c hc) g.size,h3.tu.mono (fun _ h=>h) z8⟩
   ·subst e
    rcases hF' x hy with h|h
    ·exact nd0.2.2 x hx x h rfl
    ·have:=h3.lt x (by simp[hx]);omega
   ·rcases ALk.1 hc with hc|hc
    ·exact h3.free c (by simp[hc]) ht
    ·rcases hF' c hc with h|h
     ·exact h3.free c (by simp[h]) ht
     ·have:=h3.cI c ht;omega
   ·rcases ALk.1 hc with hc|hc
    ·exact AOX (h3.lt c (by simp[hc])) g.size
    ·exact IQ c hc
 ·refine⟨⟨k.le.T,k.le.S,k.le.Tof,k.le.Sof,fun c hc=>z8 c (k.le.T c hc),g.os,g.tape,g.output,g.size⟩,by simp[hn],fun b hb=>⟨by show E1.Hg b=_;rw[k.le.Hg],?_⟩,fun b hb=> ?_,fun n B B' _ hB Ti hnd=> ?_⟩
  ·have:E'.Hi b=E1.Hi b:=by simp[E',Env.ct];intro e;omega
   rw[this,k.le.Hi]
  ·have hbl:=(AJM.1 hb).1
   rw[AKW (by omega)];obtain⟨B,hB⟩:∃B,kh[b]? =some B:=⟨_,AJA (by omega)⟩;rcases k.within b B hB with e|e
   ·rw[hB,e]
   ·rw[hb]at e;rw[hB];exact e.symm
  ·have wu:=(AJM.1 hB).1
   rw[AKW (by omega)]at Ti;rcases k.within n B' Ti with e|e
   ·exact absurd e hnd
   rw[hB]at e;cases e;refine⟨WQ.refl hnd,fun c hc=> ?_⟩;have hF:Fs[n]? =some (Fs[n]'(by have:=(AJM.1 Ti).1;omega)):=AJA _;have hR:=h2 n B _ Ti hF;have eY:BRB E1 w n B c:=by
    cases B with
    |mem cs=>simp only[BRB]at hc|-;rw[k.le.Hg];exact hc
    |sl d r rows=>simp only[BRB]at hc|-;rw[k.le.Hi];exact hc
    |dead=>exact hc
   rcases gh hR eY with hs|hs
   ·exact z8 c (h3.st c hs)
   ·exact hF0 c (ANa.2 ⟨_,ALA hF,hs⟩)
 ·have e0:E'.Hi kh.length=v:=by simp[E',Env.ct]
  refine⟨?_,?_⟩
  ·have:=ZJ ho
   simp only[Rd]at this;obtain⟨_,_,e,_⟩:=this;simp only[AL9,AO1]at e;rw[e];rfl
  ·have:(kh++[Bx.sl d r rows])[kh.length]? =some (.sl d r rows):=by simp
   rw[this];exact⟨by simp[DC],⟨_,rfl⟩,by rw[e0,Cv]⟩
theorem sv{E:Env}{σ:St}{a:Act}{w:World}(h:Rel E σ a w){cs:List AV}{arr:Array Value}(ty:TypeId)(hv:jy E w σ.bx cs arr.toList):
  let E':=E.gN σ.bx.length w.heap.size
  let w':=w.alloc (.cells arr ty)
  Rel E' (σ.new (.mem cs)) a w'/\Rx [] E σ.bx w E' (σ.new (.mem cs)).bx w'/\XR E' w' (σ.new (.mem cs)).bx (.c (.IX σ.bx.length 0)) (.pointer (some ⟨w.heap.size,0,none⟩)):=by
 intro E' w';have st:=h.bx.st;have hw:∀c,c<w.heap.size->c∉([]:AAc)->w'.heap[c]? =w.heap[c]?:=fun c hc _=>by
  show(w.heap.push (.cells arr ty))[c]? =_
  rw[Array.getElem?_push,AJD (by omega)]
 have hB0:=h.bx;have keep:Tk E w σ.bx E' w' (σ.bx++[.mem cs]):=iX (G4.refl hB0) st (by simp) (fun b B hb e=>by
   rw[AKW (by omega)]at e;exact e) (fun b hb=>by simp[E',Env.gN];intro e;omega) (fun b _=>rfl) rfl rfl hw
 obtain⟨Fs,⟨h1,h2⟩,h3⟩:=h.bx;simp only[AKX]at h3;have new:w'.heap[w.heap.size]? =some (.cells arr ty):=by
  show(w.heap.push (.cells arr ty))[w.heap.size]? =_
  simp
 refine⟨⟨h.N4,h.tm.imp fun _ _ hx=>Pc keep hx,?_⟩,?_,?_⟩
 ·refine⟨Fs++[[w.heap.size]],⟨by simp[St.new,h1],fun n B G hB hG=> ?_⟩,?_⟩
  ·simp only[St.new]at hB
   by_cases wu:n<σ.bx.length
   ·rw[AKW wu]at hB
    rw[AKW (by omega)]at hG;have:=h2 n B G hB hG;have hGw:∀c∈G,w'.heap[c]? =w.heap[c]?:=fun c hc=>hw c (h3.lt c (by simp;exact⟨G,ALA hG,hc⟩)) (by simp)
    have eb:E'.Hg n=E.Hg n:=by simp[E',Env.gN];intro e;omega
    cases B with
    |mem cs0=>
     obtain⟨rfl,arr0,ty0,fr,a1,a2,a3⟩:=this;refine⟨by rw[eb],arr0,ty0,fr,?_,a2,a3.imp fun _ _ hv=>GB keep hv⟩;rw[eb];exact(hGw (E.Hg n) (by simp)).trans a1
    |sl d0 r0 Sh=>exact⟨this.1,EP (fun _ hc=>hc) (fun c hc=>hw c (h3.cI c (st c hc)) (by simp)) hGw this.2⟩
    |dead=>exact this
   ·have hnn:=(AJM.1 hB).1
    simp at hnn;obtain rfl:n=σ.bx.length:=by omega
    rw[ALb (by omega)]at hB hG;simp[h1]at hB hG;subst hB hG;have eb:E'.Hg σ.bx.length=w.heap.size:=by simp[E',Env.gN]
    refine⟨by rw[eb],arr,ty,(0,0),by rw[eb];exact new,fun i _ h=>by omega,hv.imp fun _ _ hv=>GB keep hv⟩
  ·simp only[APJ,APT,ASi,AKX]
   refine⟨AKg.2 ⟨h3.nodup,by simp,fun x hx y hy e=> ?_⟩,fun c hc ht=> ?_,fun c hc=> ?_,h3.st,fun c hc=> ?_,h3.tu.mono (fun _ h=>h) (fun c hc=>hw c (h3.cI c hc) (by simp))⟩
   ·subst e
    simp at hy;have:=h3.lt x hx;omega
   ·rcases ALk.1 hc with hc|hc
    ·exact h3.free c hc ht
    ·simp at hc;have:=h3.cI c ht;omega
   ·rcases ALk.1 hc with hc|hc
    ·have:=h3.lt c hc;simp[w'];omega
    ·simp at hc;simp[w'];omega
   ·have:=h3.cI c hc;simp[w'];omega
 ·refine⟨⟨fun _ h=>h,fun _ h=>h,fun _ h=> .inl h,fun _ h=> .inl h,fun c hc=>hw c (h3.cI c hc) (by simp),rfl,rfl,rfl,by simp[w']⟩,by simp[St.new],fun b hb=>⟨?_,rfl⟩,fun b hb=> ?_,fun n B B' _ hB Ti hnd=> ?_⟩
  ·simp[E',Env.gN];intro e;omega
  ·have hbl:=(AJM.1 hb).1
   simp only[St.new];rw[AKW hbl];exact hb
  ·have wu:=(AJM.1 hB).1
   simp only[St.new]at Ti;rw[AKW wu,hB]at Ti;cases Ti;refine⟨WQ.refl hnd,fun c hc=> ?_⟩;have hF:Fs[n]? =some (Fs[n]'(by omega)):=AJA _;rcases gh (h2 n B _ hB hF) hc with hs|hs
   ·exact hw c (h3.cI c (st c hs)) (by simp)
   ·exact hw c (h3.lt c (ANa.2 ⟨_,ALA hF,hs⟩)) (by simp)
 ·refine⟨by simp[St.new],?_⟩
  simp[E',Env.gN]
end Go.Fw
end
section
namespace Go.Fw
theorem Gr:∀r:Ty,(Ek r).length=r.n
 | .cons c r=>by simp[Ek,Ty.n,Gr r]
 | .unit=>rfl
 | .int _=>rfl
 | .bool=>rfl
 | .str=>rfl
 | .sl _=>rfl
theorem cD{E:Env}{w:World}{vw:List Bx}(t:Ty):VR E w vw (ABr t) (zv t):=by
 cases t<;>first
  |exact VR.int _ _
  |exact VR.bool _
  |exact VR.str _
  |rfl
  |trivial
theorem ZV{E:Env}{w:World}{vw:List Bx}:∀r:Ty,jy E w vw (cg r) (Ek r)
 | .cons c r=>⟨cD c,ZV r⟩
 | .unit=>trivial
 | .int k=>⟨cD (.int k),trivial⟩
 | .bool=>⟨cD .bool,trivial⟩
 | .str=>⟨cD .str,trivial⟩
 | .sl r=>⟨cD (.sl r),trivial⟩
theorem ga{w:World}{S:Nat->Prop}{d:Nat}:∀{r:Ty},r.o5=true->Ow w S d r (Ek r) r.z []
 | .cons c r,h=>by
  simp only[Ty.o5,AJR]at h;simp only[Ow,Ek];refine⟨_,_,[],[],rfl,rfl,?_,ga h.2⟩;cases c with
  |sl q=>exact rE
  |int k=>simp[Ow,zv,Ty.z]
  |bool=>simp[Ow,zv,Ty.z]
  |str=>simp[Ow,zv,Ty.z]
  |unit=>simp[Ty.cell]at h
  |cons _ _=>simp[Ty.cell]at h
 | .unit,_=>by simp[Ow,Ek]
 | .int k,_=>by simp[Ow,Ek,zv,Ty.z]
 | .bool,_=>by simp[Ow,Ek,zv,Ty.z]
 | .str,_=>by simp[Ow,Ek,zv,Ty.z]
 | .sl q,_=>rE
theorem Zy{n:Nat}:∀{css:List (List Value)} {ex:List Value} {i j:Nat} {cs:List Value},(∀c∈css,c.length=n)->css[i]? =some cs->j<n->(css.flatten++ex)[i*n+j]? =cs[j]?
 |[],_,_,_,_,_,h,_=>by simp at h
 |c::css,ex,0,j,cs,hl,h,hj=>by
  grind
 |c::css,ex,i+1,j,cs,hl,h,hj=>by
  have hc:=hl c (by simp);have ih:=Zy (css:=css) (ex:=ex) (i:=i) (j:=j) (cs:=cs) (fun c' eY=>hl c' (ATX _ eY)) (by simp_all) hj;simp only[APT,AKK];rw[ALb (by grind),<-ih];congr 1;grind
theorem pN{w:World}{b:Nat}{arr:Array Value}{ty:TypeId}{fr:ACk}(hb:w.heap[b]? =some (.cells arr ty fr)){n:Nat}{css:List (List Value)}{ex:List Value}(ha:arr.toList=css.flatten++ex)
  (hl:∀c∈css,c.length=n) {i:Nat} {cs:List Value} (h:css[i]? =some cs):Be w b (i*n) cs:=by
 intro j v hj;have hjn:j<n:=by
  grind
 simp only[World.cell?,hb,AO8,AJn,AMd];rw[<-Array.getElem?_toList,ha,Zy hl h hjn,hj]
theorem fW{w:World}{S:Nat->Prop}{d b cap:Nat}{r:Ty}{rows:List r.D}{arr:Array Value}{ty:TypeId}{fr:ACk}(hb:w.heap[b]? =some (.cells arr ty fr)){css:List (List Value)}{ex:List Value}
  (ha:arr.toList=css.flatten++ex) (hc:css.length=rows.length) (AAs:rows.length<=cap) (K8:cap*r.n<=arr.size) (hu:yx fr (arr.size+mk r)) {Fs:List AAc} (hF:Fs.length=rows.length)
  (cA:∀(i:Nat) cs y G,css[i]? =some cs->rows[i]? =some y->Fs[i]? =some G->Ow w S d r cs y G):
  Ow w S (d+1) (.sl r) [.slice (some ⟨b,0,none⟩) rows.length cap] rows (b::Fs.flatten):=by
 have hl:∀c∈css,c.length=r.n:=by
  intro c eY;obtain⟨i,hi,rfl⟩:=AOq eY;exact YK (cA i _ _ _ (AJA hi) (AJA (by omega)) (AJA (by omega)))
 simp only[Ow];refine⟨_,cap,rfl,AAs,.inr ⟨b,0,arr,ty,fr,Fs,rfl,hb,by omega,hu,rfl,hF,fun i y G hy hG=> ?_⟩⟩;have hi:i<css.length:=by
  grind
 refine⟨css[i],hl _ (AJ7 hi),?_,cA i _ y G (AJA hi) hy hG⟩;rw[APB];grind[pN,List.getElem?_eq_getElem]
theorem Xu(n:Nat):yx (0,0) n:=fun i _ h=>by omega
theorem Iu{w:World}{o:Obj}{c:Nat}(h:c<w.heap.size):(w.heap.push o)[c]? =w.heap[c]?:=by
 grind
section
variable{Y:Type} {P:Program} {T:JR} (hT:ES P T) {o:Oper} {E:Env} {σ:St} {a:Act} {w:World} {k:K Y} {y:Y}
theorem AGB(h:Rel E σ a w){t:TypeId}{x:Operand}(ho:o.op= .box t x)(hk:(σ.ev x).cells.all AV.known=true)(hn:(σ.ev x).cells≠[])(e:k (.c (.IX σ.bx.length 0)) (σ.new (.mem (σ.ev x).cells))=some y):
  Lo P o E σ a w k y:=by
 obtain⟨h1,h2⟩:=q9 (h.ev x) hk hn;obtain⟨r1,r2,r3⟩:=sv h t h1;refine⟨_,_,_,_,_,.inl ?_,r1,r3,r2.any,rfl,e⟩;simp only[execOp,ho,Instr.box,newVar,newRow,Sem.run_bind,run_newObj,Result.andThen_ok,Sem.run_pure];rfl
include hT
theorem row_zero{t:Nat}{r:Ty}(e:T.kp t=some r):∃i z,P.info? t=some i/\i.zero=some z/\z.cells.toList=Ek r/\r.o5=true:=by
 unfold JR.kp at e;split at e
 ·rename_i ti V9
  obtain⟨i,h1,_,_,h2⟩:=(hT t ti V9).info;simp_all
 simp_all
theorem ABw(h:Rel E σ a w){t:TypeId}(ho:o.op= .alloc t){r:Ty}(hr:T.kp t=some r)(e:k (.c (.IX σ.bx.length 0)) (σ.new (.mem (cg r)))=some y):Lo P o E σ a w k y:=by
 obtain⟨i,z,h1,h2,h3,_⟩:=row_zero hT hr;obtain⟨r1,r2,r3⟩:=sv (arr:=z.cells) h t (by rw[h3];exact ZV r);refine⟨_,_,_,_,_,.inl ?_,r1,r3,r2.any,rfl,e⟩;simp only[execOp,ho,Instr.alloc,zeroValue,typeInfo,newVar,newRow,Sem.run_bind,run_program,Result.andThen_ok,h1,h2,run_newObj,Sem.run_pure];rfl
end
end Go.Fw
end
section
namespace Go.Fw
def E_(arr:Array Value):Nat->List Value->Array Value
 |_,[]=>arr
 |o,c::l=>E_ (arr.setIfInBounds o c) (o+1) l
theorem FV:∀(l:List Value) (o:Nat) (arr:Array Value),(E_ arr o l).size=arr.size
 |[],_,_=>rfl
 |c::l,o,arr=>by simp[E_,FV l]
theorem qk(off:Nat):∀(l:List Value) (k:Nat) (arr:Array Value),(l.zipIdx k).foldl (fun cs (q:Value×Nat)=>cs.setIfInBounds (off+q.2) q.1) arr=E_ arr (off+k) l
 |[],_,_=>rfl
 |c::l,k,arr=>by
  simp only[List.zipIdx_cons,ATL,E_];rw[qk off l (k+1)];rfl
theorem X2{E:Env}{w:World}{vw:List Bx}:∀{xs:List AV} {vs:List Value} {cs gF:List AV} {arr:Array Value} {o:Nat},jy E w vw cs arr.toList->jy E w vw xs vs->YH cs o xs=some gF->
  jy E w vw gF (E_ arr o vs).toList/\o+xs.length<=cs.length\/(xs=[]/\gF=cs)
 |[],[],cs,gF,arr,o,h,_,e=>by simp only[YH,AJL]at e;simp_all
 |x::xs,v::vs,cs,gF,arr,o,h,hx,e=>by
  simp only[YH]at e;split at e
  case isFalse=>cases e
  rename_i ho;have h1:jy E w vw (cs.set o x) (arr.setIfInBounds o v).toList:=by
   rw[Array.toList_setIfInBounds];exact CX.set h hx.1
  rcases X2 h1 hx.2 e with⟨h2,h3⟩|⟨rfl,rfl⟩
  ·refine .inl ⟨h2,?_⟩
   grind
  ·cases vs with
   |nil=>exact .inl ⟨h1,by grind⟩
   |cons _ _=>exact hx.2.elim
 |[],_::_,_,_,_,_,_,hx,_=>hx.elim
 |_::_,[],_,_,_,_,_,hx,_=>hx.elim
section
variable{Y:Type} {P:Program} {T:JR} (hT:ES P T) {o:Oper} {E:Env} {σ:St} {a:Act} {w:World} {k:K Y} {y:Y}
def AAm(E:Env)(w:World)(vw:List Bx)(l:List (Nat×XV))(m:List (Nat×Value)):Prop:=CX (fun x v=>x.1=v.1/\XR E w vw x.2 v.2) l m
theorem rJ(h:Rel E σ a w)(ps:Array (Nat×Operand)):AAm E w σ.bx (ps.toList.map fun q=>(q.1,σ.ev q.2)) (ps.map fun(i,x)=>(i,a.eval x)).toList:=by
 rw[Array.toList_map]
 generalize ps.toList=l
 induction l with
 |nil=>trivial
 |cons q l ih=>exact⟨⟨rfl,h.ev q.2⟩,ih⟩
theorem vk{place:Nat->Option ACk}{i off size:Nat}(hp:place i=some (off,size)){cells:Array Value}{v:Value}{rest:List (Nat×Value)}(h1:v.cells.size=size)(h2:off+v.cells.size<=cells.size):
  Instr.fill place cells ((i,v)::rest)=Instr.fill place (E_ cells off v.cells.toList) rest:=by
 have e:v.cells.zipIdx.foldl (fun cs (q:Value×Nat)=>cs.setIfInBounds (off+q.2) q.1) cells=E_ cells off v.cells.toList:=by
  rw[<-Array.foldl_toList];have:(v.cells.zipIdx).toList=v.cells.toList.zipIdx:=by simp
  rw[this];exact qk off v.cells.toList 0 cells
 conv=>lhs;unfold Instr.fill
 grind
theorem rO{α β:Type}{f:α->Option β}{g:α->β}:∀{l:List α},(∀x∈l,f x=some (g x))->l.mapM f=some (l.map g)
 |[],_=>rfl
 |x::l,h=>by
  simp only[ATf,h x (by simp),rO (l:=l) (g:=g) (fun y hy=>h y (by simp[hy]))];rfl
include hT
theorem ck{fs:List ACk}{vw:List Bx}:∀{parts:List (Nat×XV)} {vals:List (Nat×Value)} {cs gF:List AV} {arr:Array Value},AAm E w vw parts vals->jy E w vw cs arr.toList->jO T fs cs parts=some gF->
  ∃KT:Array Value,Instr.fill (fun i=>(fs[i]?).bind fun q=>((P.info? q.2).map fun i=>(q.1,i.size))) arr vals=some KT/\jy E w vw gF KT.toList
 |[],[],cs,gF,arr,_,h,e=>by
  simp only[jO,AJL]at e;subst e;exact⟨arr,rfl,h⟩
 |(i,x)::ps,(j,v)::vs,cs,gF,arr,hp,h,e=>by
  obtain⟨⟨hij,hx⟩,hp⟩:=hp;simp only at hij hx;subst hij;simp only[jO]at e;split at e
  case h_2=>cases e
  rename_i off u hf;split at e
  case h_2=>cases e
  rename_i ti V9;split at e
  case isFalse=>cases e
  rename_i hc;obtain⟨c1,c2,c3⟩:=hc;simp only[AJa]at e;obtain⟨cs1,e1,e2⟩:=e;have WJ:x.cells≠[]:=by grind
  obtain⟨x1,x2⟩:=q9 hx c3 WJ;rcases X2 h x1 e1 with⟨s1,s2⟩|⟨s1,_⟩
  ·have K8:v.cells.size=ti.size:=by
    have:=x1.len;simp_all
   have hlen:=h.len;obtain⟨KT,f1,f2⟩:=ck hp s1 e2;refine⟨KT,?_,f2⟩;have AXS:(fun i=>(fs[i]?).bind fun q=>((P.info? q.2).map fun i=>(q.1,i.size))) i=some (off,ti.size):=by
    have:=ES.size hT V9;simp_all
   grind[vk]
  simp_all
 |[],_::_,_,_,_,hp,_,_=>hp.elim
 |_::_,[],_,_,_,hp,_,_=>hp.elim
theorem AAz(h:Rel E σ a w){t:TypeId}{ps:Array (Nat×Operand)}(ho:o.op= .build t ps){s b:Nat}{fs:List ACk}{rw:Option Ty}(V9:T.get t=some ⟨s,b,.st fs,rw⟩){r:Ty}(hr:T.kp t=some r)
  {cs:List AV} (hb:jO T fs (cg r) (ps.toList.map fun q=>(q.1,σ.ev q.2))=some cs) (e:k (.agg cs) σ=some y):Lo P o E σ a w k y:=by
 obtain⟨i,z,h1,h2,h3,_⟩:=row_zero hT hr;obtain⟨fields,hu,hfs,K8⟩:=AI2 hT V9;obtain⟨KT,f1,f2⟩:=ck hT (rJ h ps) (arr:=z.cells) (by grind[ZV]) hb;refine Lo.same h (v:= .agg KT) (x:= .agg cs) ?_ ⟨KT,rfl,f2⟩ e
 have hb:P.built t (ps.map fun(i,x)=>(i,a.eval x)).toList=some KT:=by
  unfold Program.built;simp only[h1,hu,h2];have hm:fields.toList.mapM (fun f=>(P.info? f.type).map fun i=>(f.offset,i.size))=some (fields.toList.map fun f=>(f.offset,((P.info? f.type).map (·.size)).getD 0)):=by
   grind[rO]
  simp only[hm];rw[<-f1];congr 1;funext n;subst hfs;simp only[List.getElem?_toArray,ANd];cases hn:fields.toList[n]? with
  |none=>simp
  |some f=>
   obtain⟨i',D7,_⟩:=K8 f (ALA hn);simp[D7]
 grind[run_build,execOp,Sem.run_bind,Result.andThen_ok,Sem.run_pure]
end
end Go.Fw
end
section
namespace Go.Fw
theorem wrap_small{n:Int}(h0:0<=n)(h1:n<=(Cm:Int)):IntKind.i64.wrap n=n:=by
 simp only[Cm]at h1;unfold IntKind.wrap;simp only[IntKind.bits,IntKind.signed];grind
theorem FP{m:Nat}{zl:List Value}:((List.replicate m zl).flatten).length=m*zl.length:=by
 simp_all
theorem NV{zl:List Value}:∀{m i:Nat},i<m*zl.length->((List.replicate m zl).flatten)[i]? =zl[i%zl.length]?
 |0,i,h=>by omega
 |m+1,i,h=>by
  simp only[ATZ,APT];by_cases hi:i<zl.length
  ·rw[AKW hi,Nat.mod_eq_of_lt hi]
  ·have D7:zl.length<=i:=by omega
   rw[ALb D7,NV (by grind),<-Nat.mod_eq_sub_mod D7]
theorem Xc{zero:Array Value}{zl:List Value}(hz:zero.toList=zl)(m:Nat)(h0:zl≠[]):((Array.range (m*zl.length)).map (fun i=>zero[i%zero.size]!)).toList=(List.replicate m zl).flatten:=by
 have hs:zero.size=zl.length:=by grind
 have AGe:0<zl.length:=ATI.2 h0;apply ASB;intro i;by_cases hi:i<m*zl.length
 ·grind[NV,Nat.mod_lt,Array.toList_map,Array.toList_range,List.getElem?_range,List.getElem?_eq_getElem]
 simp_all
section
variable{Y:Type} {P:Program} {T:JR} (hT:ES P T) {o:Oper} {E:Env} {σ:St} {a:Act} {w:World} {k:K Y} {y:Y}
include hT
theorem Xx{e:Nat}{ti:TI}{r:Ty}(he:T.get e=some ti)(hr:ti.row=some r):∃i z,P.info? e=some i/\i.size=ti.size/\i.bytes=ti.bytes/\i.zero=some z/\z.cells.toList=Ek r/\r.o5=true:=by
 obtain⟨i,h1,h2,h3,h4⟩:=(hT e ti he).info;simp_all
theorem ADl(h:Rel E σ a w){t:TypeId}{l c:Operand}(ho:o.op= .makeSlice t l c)(e:vT T t σ (σ.ev l) (σ.ev c) k=some y):Lo P o E σ a w k y:=by
 unfold vT at e;split at e
 case h_2=>cases e
 rename_i el n m hd hl hc;split at e
 case h_2=>cases e
 rename_i r hr;split at e
 case isFalse=>cases e
 rename_i U0;split at e
 case isFalse=>cases e
 rename_i hb;obtain⟨b0,b1,b2⟩:=hb;obtain⟨el',ti,hu,V9,hs,hby,hrow⟩:=KR hT U0;obtain⟨i,z,i1,i2,i3,i4,i5,hg⟩:=Xx hT V9 hrow;obtain⟨κ1,e1⟩:=Ig hl (h.ev l);obtain⟨κ2,e2⟩:=Ig hc (h.ev c);have w1:=wrap_small b0 (by omega);have w2:=wrap_small (n:=m) (by omega) b2
 let arr:Array Value:=(Array.range (m.toNat*r.n)).map (fun j=>(if m.toNat*r.n=0 then #[]else z.cells)[j%(if m.toNat*r.n=0 then(#[]:Array Value)else z.cells).size]!)
 have ef:arr.toList=(List.replicate n.toNat (Ek r)).flatten++(List.replicate (m.toNat-n.toNat) (Ek r)).flatten:=by
  have hz:=Gr r;have split:(List.replicate n.toNat (Ek r)).flatten++(List.replicate (m.toNat-n.toNat) (Ek r)).flatten=(List.replicate m.toNat (Ek r)).flatten:=by
   grind[List.flatten_append,List.replicate_append_replicate]
  rw[split];by_cases h0:m.toNat*r.n=0
  ·grind[List.length_eq_zero_iff,FP]
  ·have WJ:Ek r≠[]:=by
    grind
   have:=Xc i5 m.toNat WJ;grind
 let w':=w.alloc (.cells arr el')
 have new:w'.heap[w.heap.size]? =some (.cells arr el'):=by
  show(w.heap.push (.cells arr el'))[w.heap.size]? =_
  simp
 have AJb:arr.size=m.toNat*r.n:=by simp[arr]
 have how:Ow w' E.S (8+1) (.sl r) [.slice (some ⟨w.heap.size,0,none⟩) (List.replicate n.toNat r.z).length m.toNat] (List.replicate n.toNat r.z) (w.heap.size::(List.replicate n.toNat ([]:AAc)).flatten):=by
  refine fW new ef (by simp) (by grind) (by omega) (Xu _) (by simp) fun i cs y G h1 h2 h3=> ?_
  simp only[List.getElem?_replicate]at h1 h2 h3;split at h1
  ·rename_i hi
   rw[AI9 hi]at h2 h3;grind[ga]
  simp_all
 have hF:(List.replicate n.toNat ([]:AAc)).flatten=[]:=by simp
 rw[hF]at how;simp only[ASv]at how;obtain⟨r1,r2,r3⟩:=UC h (G4.refl h.bx) (w':=w') (d:=9) (by omega) how (by simp) (by simp) (by simp[w']) (fun c hc _=>Iu hc) ⟨rfl,rfl,rfl,by simp[w']⟩;refine⟨_,_,_,_,_,.inl ?_,r1,r3,r2.any,rfl,e⟩;have AUB:(i.bytes:Int)*m<=2^48:=by
  have h1:(i.bytes:Int)<=512:=by omega
  have h2:(i.bytes:Int)*m<=512*m:=Int.mul_le_mul_of_nonneg_right h1 (by omega);grind[Cm]
 simp only[execOp,ho,Instr.makeSlice,e1,e2,Sem.run_bind,Bb hu,Result.andThen_ok,asInt,asIntOf,Sem.run_pure,typeInfo,run_program,i1,w1,w2];rw[AJD (by grind)];by_cases h0:m.toNat*r.n=0
 ·have e3:arr=(Array.range (m.toNat*r.n)).map (fun j=>(#[]:Array Value)[j%(#[]:Array Value).size]!):=by simp_all
  simp only[Sem.run_bind,run_askRoom,Result.andThen_ok,sizeOf,typeInfo,run_program,i1,Sem.run_pure,i2,hs,h0,AOx,newRow,run_newObj];simp only[w',e3,h0];rfl
 ·have e3:arr=(Array.range (m.toNat*r.n)).map (fun j=>z.cells[j%z.cells.size]!):=by grind
  simp only[Sem.run_bind,run_askRoom,Result.andThen_ok,sizeOf,typeInfo,run_program,i1,Sem.run_pure,i2,hs,h0,AMd,newRow,run_newObj,zeroValue,i4];simp only[w',e3];rfl
end
end Go.Fw
end
section
namespace Go.Fw
theorem lO{w:World}{B S:Nat->Prop}{d:Nat}:∀{r:Ty} {cs:List Value} {x:r.D},r.flat=true->Rd w B r cs x->Ow w S d r cs x []
 | .cons c r,cs,x,h,hr=>by
  simp only[Ty.flat,AJR]at h;simp only[Rd]at hr;obtain⟨v,l,rfl,h1,h2⟩:=hr;simp only[Ow];exact⟨v,l,[],[],rfl,rfl,lO h.1 h1,lO h.2 h2⟩
 | .unit,_,_,_,hr=>by grind[Rd,Ow]
 | .int k,_,_,_,hr=>by grind[Rd,Ow]
 | .bool,_,_,_,hr=>by grind[Rd,Ow]
 | .str,_,_,_,hr=>by grind[Rd,Ow]
 | .sl q,_,_,h,_=>by simp[Ty.flat]at h
theorem Lm{P:Program}{w:World}{b o:Nat}{cs:List Value}(h:Be w b o cs):(loadCells ⟨b,o,none⟩ cs.length).run P w= .ok cs.toArray w:=
 run_loadCells_list (P:=P) w ⟨b,o,none⟩ cs fun j v hv=>by rw[Addr.add_eq];exact h j v hv
theorem Yl{l:List Value}:(l.map fun v=>[v]).flatten=l:=by
 induction l with
 |nil=>rfl
 |cons a l ih=>simp[ih]
theorem sk{w:World}{B:Nat->Prop}{r:Ty}{b o:Nat}{ys:List r.D}(h:∀(i:Nat) (y:r.D),ys[i]? =some y-> ∃cs,cs.length=r.n/\Be w b (o+i*r.n) cs/\Rd w B r cs y):
  ∃css:List (List Value),css.length=ys.length/\(∀c∈css,c.length=r.n)/\Be w b o css.flatten/\ ∀(i:Nat) cs y,css[i]? =some cs->ys[i]? =some y->Rd w B r cs y:=by
 induction ys generalizing o with
 |nil=>exact⟨[],rfl,by simp,fun _ _ h=>by simp at h,fun i cs y h=>by simp at h⟩
 |cons y ys ih=>
  obtain⟨cs,c1,c2,c3⟩:=h 0 y rfl;obtain⟨css,d1,d2,d3,d4⟩:=ih (o:=o+r.n) (fun i z hz=>by
   obtain⟨cs,e1,e2,e3⟩:=h (i+1) z (by simp_all);grind)
  refine⟨cs::css,by simp[d1],by simp_all,?_,?_⟩
  ·intro j v hj
   simp only[APT]at hj;by_cases yV:j<cs.length
   ·rw[AKW yV]at hj
    have:=c2 j v hj;simp_all
   ·rw[ALb (by omega)]at hj
    have:=d3 _ v hj;grind
  grind
theorem Be.append{w:World}{b o:Nat}{l m:List Value}(h:Be w b o l)(k:Be w b (o+l.length) m):Be w b o (l++m):=by
 intro j v hj;by_cases yV:j<l.length
 ·rw[AKW yV]at hj
  exact h j v hj
 ·rw[ALb (by omega)]at hj
  have:=k _ v hj;grind
section
variable{Y:Type} {P:Program} {T:JR} (hT:ES P T) {o:Oper} {E:Env} {σ:St} {a:Act} {w:World} {k:K Y} {y:Y}
theorem Iv(hT:ES P T){t:Nat}{d:TD}(e:(T.get t).map TI.desc=some d):jG P t d:=by
 simp only[AJN]at e;obtain⟨ti,h1,rfl⟩:=e;exact(hT t ti h1).und
theorem rT{src dst e:Nat}(hs:P.underlying src=some (.slice e))(he:P.underlying e=some (.int .u8))(hd:P.underlying dst=some .string){x:Value}{l:AAN}{B:Nat->Prop}
  (h:Rd w B (.sl (.int .u8)) [x] l):(convert src dst x).run P w= .ok (.string ⟨(l.map fun n:Int=>UInt8.ofNat n.toNat).toArray⟩) w:=by
 simp only[Rd]at h;obtain⟨a,cap,hx,hle,h⟩:=h;simp only[AL9,AO1]at hx;subst hx;rcases h with h|⟨b,o,rfl,_,h⟩
 ·obtain rfl:=AMk h
  cases a with
  |none=>exact run_convert_bytes_nil w src e hs he _ _ dst hd
  |some a=>
   rw[run_convert_bytes_string w src dst e _ _ cap hs he hd];rfl
 ·refine run_convert_bytes_arg w src e hs he b o _ cap l rfl (fun i hi=> ?_) dst hd
  obtain⟨cs,c1,c2,c3⟩:=h i _ (AJA hi);subst c3;have:=c2 0 _ rfl;grind
include hT in
theorem ADg(h:Rel E σ a w){src dst:Nat}{x:Operand}(ho:o.op= .convert src dst x)(e:vE T src dst σ (σ.ev x) k=some y):Lo P o E σ a w k y:=by
 have hx:=h.ev x;unfold vE at e;split at e
 ·rename_i κ0 κ j n hs hd hv
  have h1:=Iv hT hs;have h2:=Iv hT hd;rw[hv]at hx;have aG:=dI (E:=E) (w:=w) (vw:=σ.bx) hx;refine Lo.same h (v:= .int κ (κ.wrap n)) (x:= .c (.v (.int κ) (κ.wrap n))) ?_ (VR.int (E:=E) (vw:=σ.bx) _ _) e
  simp only[jG]at h1 h2;simp only[execOp,ho,aG,convert,Sem.run_bind,Bb h1,Bb h2,Result.andThen_ok,Conv.intToInt,Sem.run_pure]
 ·rename_i s hs hd hv
  have h1:=Iv hT hs;have h2:=Iv hT hd;rw[hv]at hx;have aG:=YY (E:=E) (w:=w) (vw:=σ.bx) hx;refine Lo.same h (v:= .string ⟨s.toArray⟩) (x:= .c (.v .str s)) ?_ (VR.str (E:=E) (vw:=σ.bx) _) e
  simp only[jG]at h1 h2;simp only[execOp,ho,aG,convert,Sem.run_bind,Bb h1,Bb h2,Result.andThen_ok,Sem.run_pure]
 ·rename_i el s hs hd hv
  have h1:=Iv hT hs;have h2:=Iv hT hd;rw[hv]at hx;have aG:=YY (E:=E) (w:=w) (vw:=σ.bx) hx;split at e
  case h_2=>cases e
  rename_i U0;have h3:=Iv hT U0;split at e
  case isFalse=>cases e
  rename_i ZR;simp only[jG]at h1 h2 h3
  let S0:ByteArray:=⟨s.toArray⟩
  have K8:S0.size=s.length:=by simp[S0,ByteArray.size]
  have mV:=Lib.run_convert_string_bytes (P:=P) w src dst el S0 h1 h2 h3;have AAs:s.length<=grownCap w S0.size 0 el:=by rw[K8];exact grownCap_ge _ _ _ _
  have new:=Lib.bytesWorld_at_new w el S0;have ef:(Lib.bytesCells w el S0).toList=(s.map fun c=>[Value.int .u8 (c.toNat:Int)]).flatten++List.replicate (grownCap w S0.size 0 el-S0.size) (.int .u8 0):=by
   have:(s.map fun c=>[Value.int .u8 (c.toNat:Int)]).flatten=s.map fun c=>Value.int .u8 (c.toNat:Int):=by
    have:=Yl (l:=s.map fun c=>Value.int .u8 (c.toNat:Int));simpa[ARo,Function.comp_def]using this
   rw[this];simp[Lib.bytesCells,S0]
  have AJb:(Lib.bytesCells w el S0).size=grownCap w S0.size 0 el:=by
   rw[<-AQu,ef];have:((s.map fun c=>[Value.int .u8 (c.toNat:Int)]).flatten).length=s.length:=by
    have:=Yl (l:=s.map fun c=>Value.int .u8 (c.toNat:Int));rw[ARo]at this;have e2:(s.map fun c=>[Value.int .u8 (c.toNat:Int)])=s.map ((fun v=>[v])∘fun c=>Value.int .u8 (c.toNat:Int)):=rfl;rw[e2,this];simp
   rw[AKN,this,ASv];omega
  have how:Ow (Lib.bytesWorld w el S0) E.S (8+1) (.sl (.int .u8)) [.slice (some ⟨w.heap.size,0,none⟩) (s.map fun c=>(c.toNat:Int)).length (grownCap w S0.size 0 el)] (s.map fun c=>(c.toNat:Int))
    (w.heap.size::(List.replicate s.length ([]:AAc)).flatten):=by
   refine fW (css:=s.map fun c=>[Value.int .u8 (c.toNat:Int)]) new ef (by simp) (by simpa using AAs) (by simp[Ty.n];omega) (fun i hi hh=>by simp only[mk]at hi;omega) (by simp) fun i cs y G q1 q2 q3=> ?_
   simp only[ANd,AJN]at q1 q2;obtain⟨c1,z1,rfl⟩:=q1;obtain⟨c2,z2,rfl⟩:=q2;rw[z1]at z2;cases z2;have:G=[]:=AO7 (ALA q3);subst this;simp[Ow]
  have hF:(List.replicate s.length ([]:AAc)).flatten=[]:=by simp
  rw[hF]at how;obtain⟨r1,r2,r3⟩:=UC h (G4.refl h.bx) (w':=Lib.bytesWorld w el S0) (d:=9) (by omega) how (by simp) (by simp) (by simp[Lib.bytesWorld_size]) (fun c hc _=>Lib.bytesWorld_at_old w el S0 c hc)
   ⟨by simp[Lib.bytesWorld,World.freeze]<;>rfl,by simp[Lib.bytesWorld,World.freeze]<;>rfl,by simp[Lib.bytesWorld,World.freeze]<;>rfl,by rw[Lib.bytesWorld_size];omega⟩
  refine⟨_,_,_,_,_,.inl ?_,r1,r3,r2.any,rfl,e⟩;simp only[execOp,ho,aG,Sem.run_bind];have e5:=mV;simp only[S0]at e5;rw[e5];simp only[Result.andThen_ok,Sem.run_pure,AQx];rfl
 ·rename_i el z hs hd hv
  have h1:=Iv hT hs;have h2:=Iv hT hd;rw[hv]at hx;split at e
  case h_2=>cases e
  rename_i l U0 hl;have h3:=Iv hT U0;simp only[jG]at h1 h2 h3;obtain⟨Fs,hB,hS⟩:=h.bx;have ZN:=Vz (FB.refl σ.bx) hB hS.st hx hl;have hr:=rT (P:=P) h1 h3 h2 ZN;refine Lo.same h (v:= .string ⟨(l.map fun n:Int=>UInt8.ofNat n.toNat).toArray⟩) (x:= .c (.v .str (l.map fun n:Int=>UInt8.ofNat n.toNat))) ?_ (VR.str (E:=E) (vw:=σ.bx) _) e
  simp only[execOp,ho,Sem.run_bind,hr,Result.andThen_ok,Sem.run_pure]
 ·cases e
end
end Go.Fw
end
section
namespace Go.Fw
theorem eC:∀(l:List Value) (o:Nat) (arr:Array Value) (p q:List Value),p.length=o->(∃m:List Value,m.length=l.length/\arr.toList=p++m++q)->(E_ arr o l).toList=p++l++q
 |[],o,arr,p,q,hp,⟨m,hm,h⟩=>by
  grind[List.eq_nil_of_length_eq_zero,E_]
 |c::l,o,arr,p,q,hp,⟨m,hm,h⟩=>by
  cases m with
  |nil=>simp_all
  |cons b m=>
   simp only[E_];have:=eC l (o+1) (arr.setIfInBounds o c) (p++[c]) q (by simp[hp]) ⟨m,by simp_all,by
    simp_all⟩
   simp_all
theorem G4.more{E E1 E2:Env}{w:World}{vw bx kh bJ:List Bx}{G F1 F2 A W:AAc}(k1:G4 E w vw bx G E1 kh F1)(k2:G4 E1 w vw kh (F1++G) E2 bJ F2)(hp:F1.Perm (A++W)):
  let E3:Env:={ E2 with S:=fun c=>E2.S c\/c∈W,T:=fun c=>E2.T c\/c∈W }
  G4 E w vw bx G E3 bJ (A++F2):=by
 intro E3;have hB:=k2.boxes.perm (G':=(F2++A)++W++G) (by
  grind)
 obtain⟨hle,Xw⟩:=hB.share;exact⟨(k1.le.trans k2.le).trans hle,k2.len.trans k1.len,fun b B hb=>(k2.within b B hb).elim .inl (k1.within b B),Xw.perm (APR _ ARl)⟩
theorem bA{w:World}{vw:List Bx}{r:Ty}(hg:r.o5=true):∀{n i:Nat} {parts:List (Nat×XV)} {vals:List (Nat×Value)} {E:Env} {bx:List Bx} {G:AAc} {d:Nat} {rows:List r.D} {RF:List Bx} {d':Nat},
  C0 E w vw bx G->FB bx vw->1<=d->AAm E w vw parts vals->Z9 r i n parts bx d=some (rows,RF,d')->1<=d'/\d'<=d/\rows.length=n/\ ∃(E':Env) (Fs:List AAc) (css:List (List Value)),
   G4 E w vw bx G E' RF Fs.flatten/\css.length=n/\Fs.length=n/\(∀(k:Nat) cs y G,css[k]? =some cs->rows[k]? =some y->Fs[k]? =some G->Ow w E'.S (d'-1) r cs y G)/\
   ∀(pre:List (List Value)) (arr:Array Value),pre.length=i->(∀c∈pre,c.length=r.n)->arr.toList=pre.flatten++(List.replicate n (Ek r)).flatten->
    ∃KT,Instr.fill (fun i=>some (i*r.n,r.n)) arr vals=some KT/\KT.toList=pre.flatten++css.flatten
 |0,i,[],[],E,bx,G,d,rows,RF,d',h,hw,hd,hp,e=>by
  simp only[Z9,AJL,ANx]at e;obtain⟨rfl,rfl,rfl⟩:=e;refine⟨hd,ALj _,rfl,E,[],[],G4.refl h,rfl,rfl,by simp,fun pre arr _ _ ha=>⟨arr,rfl,by simp_all⟩⟩
 |n+1,i,(j,x)::l,(j',v)::m,E,bx,G,d,rows,RF,d',h,hw,hd,hp,e=>by
  obtain⟨⟨hj,hx⟩,hp⟩:=hp;simp only at hj hx;subst hj;simp only[Z9]at e;split at e
  case isFalse=>cases e
  rename_i hij;subst hij;simp only[AJa,AJN,ANx]at e;obtain⟨⟨y1,kh,d1⟩,e1,⟨y2,bJ,d2⟩,e2,rfl,rfl,rfl⟩:=e;dsimp only at e2|-;obtain⟨a1,a2,E1,F1,k1,o1⟩:=yL h hw hd hx e1;have yU:=k1.le.keep (w:=w) (vw:=vw) h.st;obtain⟨b1,b2,b3,E2,Fs,css,k2,c1,c2,c3,c4⟩:=bA hg (G:=F1++G) k1.boxes (hw.rW k1) a1 (hp.imp fun _ _ q=>⟨q.1,Pc yU q.2⟩) e2;obtain⟨A,W,sN,o1'⟩:=KB (d:=d'-1) (by omega) o1;refine⟨b1,AOT b2 a2,by simp[b3],_,A::Fs,v.cells.toList::css,G4.more k1 k2 sN,by simp[c1],by simp[c2],fun k cs y G' q1 q2 q3=> ?_,fun pre arr xp hpn ha=> ?_⟩
  ·cases k with
   |zero=>
    simp at q1 q2 q3;subst q1 q2 q3;refine EP (S:=fun b=>E1.S b\/b∈W) ?_ (fun _ _=>rfl) (fun _ _=>rfl) o1'
    intro c hc;exact hc.elim (fun h=> .inl (k2.le.S c h)) .inr
   |succ k=>
    refine EP (S:=E2.S) ?_ (fun _ _=>rfl) (fun _ _=>rfl) (c3 k cs y G' (by simp_all) (by simp_all) (by simp_all))
    simp_all
  ·have hlen:v.cells.toList.length=r.n:=YK o1
   have hpf:pre.flatten.length=i*r.n:=by
    clear ha c4
    subst xp;clear e1 e2
    induction pre with
    |nil=>simp
    |cons c pre ih=>grind
   have cl:(E_ arr (i*r.n) v.cells.toList).toList=pre.flatten++v.cells.toList++(List.replicate n (Ek r)).flatten:=
    eC _ _ _ _ _ hpf ⟨Ek r,by rw[Gr,hlen],by grind⟩
   obtain⟨KT,f1,f2⟩:=c4 (pre++[v.cells.toList]) (E_ arr (i*r.n) v.cells.toList) (by simp[xp]) (by
    grind) (by simp_all)
   refine⟨KT,?_,by simp_all⟩;rw[vk (i:=i) (off:=i*r.n) (size:=r.n) rfl (by omega) ?_]
   all_goals grind[List.length_append,FP,Gr,Nat.succ_mul]
 |n+1,i,[],[],E,bx,G,d,rows,RF,d',h,hw,hd,hp,e=>by
  simp only[Z9,AJN,ANx]at e;obtain⟨⟨y2,bJ,d2⟩,e2,rfl,rfl,rfl⟩:=e;obtain⟨b1,b2,b3,E2,Fs,css,k2,c1,c2,c3,c4⟩:=bA hg (G:=G) h hw hd (parts:=[]) (vals:=[]) trivial e2;refine⟨b1,b2,by simp[b3],E2,[]::Fs,Ek r::css,by simp_all,by simp[c1],by simp[c2],fun k cs y G' q1 q2 q3=> ?_,fun pre arr xp hpn ha=> ?_⟩
  ·grind[ga]
  ·obtain⟨KT,f1,f2⟩:=c4 (pre++[Ek r]) arr (by simp[xp]) (by
    grind[Gr]) (by grind)
   simp_all
 |0,_,_::_,_,_,_,_,_,_,_,_,_,_,_,_,e=>by simp[Z9]at e
 |0,_,[],_::_,_,_,_,_,_,_,_,_,_,_,hp,_=>hp.elim
 |_+1,_,[],_::_,_,_,_,_,_,_,_,_,_,_,hp,_=>hp.elim
 |_+1,_,_::_,[],_,_,_,_,_,_,_,_,_,_,hp,_=>hp.elim
section
variable{Y:Type} {P:Program} {T:JR} (hT:ES P T) {o:Oper} {E:Env} {σ:St} {a:Act} {w:World} {k:K Y} {y:Y}
include hT
theorem ph(h:Rel E σ a w){t n:Nat}{ps:Array (Nat×Operand)}(ho:o.op= .buildSlice t n ps)(e:Rr T t n (ps.toList.map fun q=>(q.1,σ.ev q.2)) σ k=some y):Lo P o E σ a w k y:=by
 unfold Rr at e;split at e
 case h_2=>cases e
 rename_i el hd;split at e
 case h_2=>cases e
 rename_i r hr;split at e
 case isFalse=>cases e
 rename_i hc;simp only[AJR,AJr]at hc;obtain⟨⟨U0,hn⟩,hrn⟩:=hc;simp only[AJa]at e;obtain⟨⟨rows,RF,d'⟩,e1,e⟩:=e;dsimp only at e;obtain⟨el',ti,hu,V9,hs,hby,hrow⟩:=KR hT U0;obtain⟨i,z,i1,i2,i3,i4,i5,hg⟩:=Xx hT V9 hrow;have ANt:=rJ h ps;obtain⟨b1,b2,b3,E',Fs,css,k2,c1,c2,c3,c4⟩:=bA hg h.bx (FB.refl _) (by omega) ANt e1
 let zero:Array Value:=if n*r.n=0 then #[]else z.cells
 have hz:((Array.range (n*r.n)).map (fun j=>zero[j%zero.size]!)).toList=(List.replicate n (Ek r)).flatten:=by
  by_cases h0:n*r.n=0
  ·have h1:(List.replicate n (Ek r)).flatten=[]:=by
    rw[<-ATM,FP,Gr,h0]
   rw[h1];simp[h0]
  ·have WJ:Ek r≠[]:=by
    intro he;have:=Gr r;rw[he]at this;simp at this;rw[<-this]at h0;simp at h0
   have:=Xc i5 n WJ;rw[Gr]at this;simp only[zero,AJD h0];exact this
 obtain⟨KT,f1,f2⟩:=c4 [] _ rfl (by simp) (by rw[hz];simp);simp only[ASi,AOi]at f2
 let w':=w.alloc (.cells KT el')
 have new:w'.heap[w.heap.size]? =some (.cells KT el'):=by
  show(w.heap.push (.cells KT el'))[w.heap.size]? =_
  simp
 obtain⟨d,rfl⟩:∃m,d' =m+1:=⟨d'-1,by omega⟩;have hl:∀c∈css,c.length=r.n:=by
  intro c hc;obtain⟨j,hj,rfl⟩:=AOq hc;exact YK (c3 j _ _ _ (AJA hj) (AJA (by omega)) (AJA (by omega)))
 have hfl:css.flatten.length=n*r.n:=by
  rw[<-c1];clear f2 c3 c4 c1
  induction css with
  |nil=>simp
  |cons c l ih=>simp[hl c (by simp),ih (fun c hc=>hl c (by simp[hc])),ATd];omega
 have AJb:KT.size=n*r.n:=by rw[<-AQu,f2,hfl]
 obtain⟨Fs0,hB1,Xw⟩:=k2.boxes;simp only[AKX]at Xw;have how:Ow w' E'.S (d+1) (.sl r) [.slice (some ⟨w.heap.size,0,none⟩) rows.length n] rows (w.heap.size::Fs.flatten):=by
  refine fW (css:=css) (ex:=[]) new (by simpa using f2) (by omega) (by omega) (by omega) (Xu _) (by omega) fun k cs y G q1 q2 q3=> ?_
  have Pu:∀c∈G,c∈Fs.flatten:=fun c hc=>ANa.2 ⟨G,ALA q3,hc⟩
  exact EP (fun _ h=>h) (fun c hc=>Iu (Xw.cI c (Xw.st c hc))) (fun c hc=>Iu (Xw.lt c (by simp only[ALk];exact .inr (Pu c hc)))) (by simpa using c3 k cs y G q1 q2 q3)
 rw[b3]at how;obtain⟨r1,r2,r3⟩:=UC h k2 (w':=w') (d:=d+1) (by omega) how (by
   intro c hc;rcases ALa.1 hc with rfl|hc
   ·exact .inr (ALj _)
   ·exact .inl hc) (by
   refine AS4.2 ⟨fun hc=> ?_,(AKg.1 Xw.nodup).2.1⟩;have:=Xw.lt w.heap.size (by simp only[ALk];exact .inr hc);omega) (by
   intro c hc;rcases ALa.1 hc with rfl|hc
   ·simp[w']
   ·have:=Xw.lt c (by simp only[ALk];exact .inr hc)
    simp[w'];omega) (fun c hc _=>Iu hc) ⟨rfl,rfl,rfl,by simp[w']⟩
 refine⟨_,_,_,_,_,.inl ?_,r1,r3,r2.any,rfl,e⟩;have ZR: ¬(n*r.n>2^24):=by
  have:n*r.n<=1024*1024:=ATg hn hrn;omega
 simp only[execOp,ho,Instr.buildSlice,Sem.run_bind,Bb hu,Result.andThen_ok,sizeOf,typeInfo,run_program,i1,Sem.run_pure,i2,hs,ZR,AMd];by_cases h0:n*r.n=0
 ·have hz0:zero= #[]:=by simp only[zero,AI9 h0]
  rw[hz0]at f1;simp only[h0,AOx,Sem.run_bind,Sem.run_pure,Result.andThen_ok];rw[h0]at f1;simp only[f1,newRow,Sem.run_bind,run_newObj,Result.andThen_ok,Sem.run_pure];rfl
 ·have hz0:zero=z.cells:=by simp only[zero,AJD h0]
  rw[hz0]at f1;simp only[h0,AMd,Sem.run_bind,zeroValue,typeInfo,run_program,Result.andThen_ok,i1,Sem.run_pure,i4];simp only[f1,newRow,Sem.run_bind,run_newObj,Result.andThen_ok,Sem.run_pure];rfl
end
end Go.Fw
end
section
namespace Go.Fw
theorem dG(w:World)(b o:Nat)(v:Value):(w.setCell ⟨b,o,none⟩ v).heap=w.heap.modify b fun
 | .cells c elem frozen=> .cells (c.setIfInBounds o v) elem frozen
 |o=>o:=rfl
theorem FW:∀(vs:List Value) (o:Nat) (w:World) (b:Nat) (arr:Array Value) (ty:TypeId) (fr:ACk),w.heap[b]? =some (.cells arr ty fr)->
  (w.setCells b o vs).heap[b]? =some (.cells (E_ arr o vs) ty fr)
 |[],_,_,_,_,_,_,h=>h
 |v::l,o,w,b,arr,ty,fr,h=>by
  simp only[World.setCells,E_];refine FW l (o+1) _ b _ ty fr ?_
  rw[dG,Array.getElem?_modify,AI9 rfl,h];rfl
theorem DW:∀(vs:List Value) (o:Nat) (w:World) (b:Nat),(w.setCells b o vs).heap.size=w.heap.size
 |[],_,_,_=>rfl
 |v::l,o,w,b=>by
  simp only[World.setCells];rw[DW l,dG,Array.size_modify]
theorem DM:∀(vs:List Value) (o:Nat) (w:World) (b c:Nat),c≠b->(w.setCells b o vs).heap[c]? =w.heap[c]?
 |[],_,_,_,_,_=>rfl
 |v::l,o,w,b,c,h=>by
  simp only[World.setCells];rw[DM l _ _ _ _ h,dG,Array.getElem?_modify,AJD (fun e=>h e.symm)]
theorem B8:∀(vs:List Value) (o:Nat) (w:World) (b:Nat),Grown w (w.setCells b o vs)
 |[],_,_,_=>⟨rfl,rfl,rfl,ALj _⟩
 |v::l,o,w,b=>by
  have:=B8 l (o+1) (w.setCell ⟨b,o,none⟩ v) b;refine⟨this.os,this.tape,this.output,?_⟩;rw[DW];omega
theorem Xn{arr:Array Value}:∀{l:List Value} {o j:Nat},o+l.length<=arr.size->(E_ arr o l)[j]? =if o<=j/\j<o+l.length then l[j-o]? else arr[j]?:=by
 intro l
 induction l generalizing arr with
 |nil=>intro o j _;rw[AJD (fun hh=>by grind)];rfl
 |cons c l ih=>
  intro o j h;simp only[AJq]at h;simp only[E_];grind
theorem Kw{w:World}{b o:Nat}{arr:Array Value}{ty:TypeId}{fr:ACk}(h:w.heap[b]? =some (.cells arr ty fr)):w.cell? ⟨b,o,none⟩=arr[o]?:=by
 simp[World.cell?,h]
theorem OQ{w:World}{b o:Nat}{vs:List Value}{arr:Array Value}{ty:TypeId}{fr:ACk}(h:w.heap[b]? =some (.cells arr ty fr))(hs:o+vs.length<=arr.size):Be (w.setCells b o vs) b o vs:=by
 intro j v hj;have hl:=(AJM.1 hj).1;rw[Kw (FW vs o w b arr ty fr h),Xn hs,AI9 (by omega),show o+j-o=j by omega,hj]
theorem VC{w:World}{b b' o o':Nat}{vs cs:List Value}{arr:Array Value}{ty:TypeId}{fr:ACk}(hc:Be w b' o' cs)(h:w.heap[b]? =some (.cells arr ty fr))(hs:o+vs.length<=arr.size)
  (ha:b'≠b\/o'+cs.length<=o\/o+vs.length<=o'):Be (w.setCells b o vs) b' o' cs:=by
 intro j v hj;have hl:=(AJM.1 hj).1;by_cases hb:b' =b
 ·subst hb
  have:=hc j v hj;rw[Kw h]at this;rw[Kw (FW vs o w b' arr ty fr h),Xn hs,AJD (by omega),this]
 ·rw[World.cell?_of_block (a:=⟨b',o'+j,none⟩) (DM vs o w b b' hb)]
  exact hc j v hj
theorem WI{w:World}{b o n k:Nat}{arr:Array Value}{ty:TypeId}{fr:ACk}(h:w.heap[b]? =some (.cells arr ty fr))(hs:o+n<=arr.size)(hu:yx fr (arr.size+k)):w.there b o n:=by
 intro j hj;refine⟨?_,?_⟩
 ·rw[Kw h]
  grind
 ·have:=hu (o+j) (by omega)
  grind[World.frozen?]
theorem mn{w:World}{S:Nat->Prop}:∀{r:Ty} {d:Nat} {cs:List Value} {y:r.D} {F:AAc},Ow w S d r cs y F-> ∀v∈cs,v.oneCell' =true
 | .int _,_,_,_,_,h,v,hv=>by simp only[Ow]at h;rw[h.1]at hv;simp at hv;subst hv;rfl
 | .bool,_,_,_,_,h,v,hv=>by simp only[Ow]at h;rw[h.1]at hv;simp at hv;subst hv;rfl
 | .str,_,_,_,_,h,v,hv=>by simp only[Ow]at h;rw[h.1]at hv;simp at hv;subst hv;rfl
 | .unit,_,_,_,_,h,v,hv=>by grind[Ow]
 | .sl _,0,_,_,_,h,v,hv=>by
  simp only[Ow,Rd]at h;obtain⟨⟨_,_,rfl,_⟩,_⟩:=h;simp at hv;subst hv;rfl
 | .sl _,_+1,_,_,_,h,v,hv=>by
  simp only[Ow]at h;obtain⟨_,_,rfl,_⟩:=h;simp at hv;subst hv;rfl
 | .cons _ _,_,_,_,_,h,v,hv=>by
  simp only[Ow]at h;obtain⟨u,l,F1,F2,rfl,_,h1,h2⟩:=h;rcases ALa.1 hv with rfl|hv
  ·exact mn h1 _ (by simp)
  ·exact mn h2 _ hv
section
variable{P:Program} {w:World}
structure nc (P:Program) (w:World) (size n:Nat) (x:Value) (news:List Value):Prop where
 len:∀w',(Builtin.lenOf x).run P w' = .ok n w'
 cells:∀w',w'.heap=w.heap->(Builtin.firstCells size n x).run P w' = .ok news.toArray w'
theorem iP{ts:Array TypeId}{t u ty e:TypeId}(xN:ts[0]? =some t)(ht1:ts[1]? =some u){i:TypeInfo}{size:Nat}(ht:P.underlying t=some (.slice e))(hu:(∃e,P.underlying u=some (.slice e))\/P.underlying u=some .string)(hi:P.info? e=some i)(K8:i.size=size)
  {b o WY kV n:Nat} {x:Value} {news:List Value} (hn:nc P w size n x news) (T7:WY+n<=kV) (sj:w.there b (o+WY*size) news.length) (h1:∀v∈news,v.oneCell' =true):
  (Builtin.append_ ts ty #[.slice (some ⟨b,o,none⟩) WY kV,x]).run P w= .ok (.slice (some ⟨b,o,none⟩) (WY+n) kV) (w.setCells b (o+WY*size) news):=by
 subst K8;have tY:=run_storeCells_cells (P:=P) b (o+WY*i.size) news 0 w (fun j hj=>by simpa using(sj j hj).1) (fun j hj=>by simpa using(sj j hj).2) h1;simp only[APL]at tY;have hl:=hn.len w;have hf:=hn.cells w rfl;rcases hu with⟨e',hu⟩|hu
 ·simp[Builtin.append_,xN,ht1,run_underlying ht,run_underlying hu,sizeOf,typeInfo,hi,hl,T7,hf,Addr.add_eq,tY]
 ·simp[Builtin.append_,xN,ht1,run_underlying ht,run_underlying hu,sizeOf,typeInfo,hi,hl,T7,hf,Addr.add_eq,tY]
theorem px{ts:Array TypeId}{t u ty e:TypeId}(xN:ts[0]? =some t)(ht1:ts[1]? =some u){i:TypeInfo}{size:Nat}(ht:P.underlying t=some (.slice e))(hu:(∃e,P.underlying u=some (.slice e))\/P.underlying u=some .string)(hi:P.info? e=some i)(K8:i.size=size)
  {a:Option Addr} {x:Value} (hn:nc P w size 0 x []):
  (Builtin.append_ ts ty #[.slice a 0 0,x]).run P w= .ok (.slice a 0 0) w:=by
 subst K8;have hl:=hn.len w;have hf:=hn.cells w rfl;cases a with
 |none=>
  rcases hu with⟨e',hu⟩|hu
  ·simp[Builtin.append_,xN,ht1,run_underlying ht,run_underlying hu,sizeOf,typeInfo,hi,hl,hf]
  ·simp[Builtin.append_,xN,ht1,run_underlying ht,run_underlying hu,sizeOf,typeInfo,hi,hl,hf]
 |some a=>
  have tY:(storeCells (a.add (0*i.size)) [] 0).run P w= .ok () w:=rfl;rcases hu with⟨e',hu⟩|hu
  ·simp[Builtin.append_,xN,ht1,run_underlying ht,run_underlying hu,sizeOf,typeInfo,hi,hl,hf,storeCells]
  ·simp[Builtin.append_,xN,ht1,run_underlying ht,run_underlying hu,sizeOf,typeInfo,hi,hl,hf,storeCells]
theorem eL{ts:Array TypeId}{t u ty e:TypeId}(xN:ts[0]? =some t)(ht1:ts[1]? =some u){i:TypeInfo}{z:Value}{size:Nat}(ht:P.underlying t=some (.slice e))(hu:(∃e,P.underlying u=some (.slice e))\/P.underlying u=some .string)(hi:P.info? e=some i)(hz:i.zero=some z)(K8:i.size=size)
  {a:Option Addr} {WY kV n:Nat} {x:Value} {ASP news:List Value} (ho:∀w',w'.heap=w.heap->(Builtin.firstCells size WY (.slice a WY kV)).run P w' = .ok ASP.toArray w')
  (hn:nc P w size n x news) (AQG:kV<WY+n) (h63:WY+n<=Cm) (hby:i.bytes<=512):
  (Builtin.append_ ts ty #[.slice a WY kV,x]).run P w= .ok (.slice (some ⟨w.heap.size,0,none⟩) (WY+n) (grownCap w (WY+n) kV e))
   (w.drew.alloc (.cells (ASP.toArray++news.toArray++Builtin.zeroCells z.cells (grownCap w (WY+n) kV e-(WY+n))) e)):=by
 subst K8;have hl:=hn.len w;have hf:=hn.cells w.drew rfl;have hfo:=ho w.drew rfl;have hno: ¬(WY+n<=kV):=by omega
 have hb:(WY+n)*i.bytes<=140737488355328:=by
  have:(WY+n)*i.bytes<=Cm*512:=ATg h63 hby;grind[Cm]
 have h48:=growslice_fits AQG hb;have AQz: ¬(281474976710656<Builtin.nextslicecap (WY+n) kV*i.bytes):=by omega
 have ARR: ¬(9223372036854775807<((WY:Int)+(n:Int))):=by grind[Cm]
 rcases hu with⟨e',hu⟩|hu
 ·simp[Builtin.append_,xN,ht1,run_underlying ht,run_underlying hu,sizeOf,typeInfo,zeroValue,hi,hz,hl,hno,ARR,AQz,Question.forced,hf,hfo,newRow,grownCap]
  grind
 ·simp[Builtin.append_,xN,ht1,run_underlying ht,run_underlying hu,sizeOf,typeInfo,zeroValue,hi,hz,hl,hno,ARR,AQz,Question.forced,hf,hfo,newRow,grownCap]
  grind
end
end Go.Fw
end
section
namespace Go.Fw
def FD(w:World)(S:Nat->Prop)(d:Nat)(r:Ty)(css:List (List Value))(rows:List r.D)(Fs:List AAc):Prop:=
 css.length=rows.length/\Fs.length=rows.length/\(∀c∈css,c.length=r.n)/\ ∀(i:Nat) cs y G,css[i]? =some cs->rows[i]? =some y->Fs[i]? =some G->Ow w S d r cs y G
theorem FD.mono{w w':World}{S S':Nat->Prop}{d:Nat}{r:Ty}{css:List (List Value)}{rows:List r.D}{Fs:List AAc}(h:FD w S d r css rows Fs)(hS:∀c,S c->S' c)(hw:∀c,S c->w'.heap[c]? =w.heap[c]?)
  (hF:∀c∈Fs.flatten,w'.heap[c]? =w.heap[c]?):FD w' S' d r css rows Fs:=
 ⟨h.1,h.2.1,h.2.2.1,fun i cs y G a b c=>EP hS hw (fun x hx=>hF x (ANa.2 ⟨G,ALA c,hx⟩)) (h.2.2.2 i cs y G a b c)⟩
theorem FD.append{w:World}{S:Nat->Prop}{d:Nat}{r:Ty}{css ARu:List (List Value)}{rows rows':List r.D}{Fs Fs':List AAc}(h:FD w S d r css rows Fs)(k:FD w S d r ARu rows' Fs'):
  FD w S d r (css++ARu) (rows++rows') (Fs++Fs'):=by
 refine⟨by simp[h.1,k.1],by simp[h.2.1,k.2.1],fun c hc=>(ALk.1 hc).elim (h.2.2.1 c) (k.2.2.1 c),fun i cs y G a b c=> ?_⟩;by_cases hi:i<rows.length
 ·rw[AKW (by rw[h.1];omega)]at a
  rw[AKW hi]at b;rw[AKW (by rw[h.2.1];omega)]at c;exact h.2.2.2 i cs y G a b c
 ·rw[ALb (by rw[h.1];omega)]at a
  rw[ALb (by omega)]at b;rw[ALb (by rw[h.2.1];omega)]at c;rw[h.1]at a;rw[h.2.1]at c;exact k.2.2.2 _ cs y G a b c
theorem FD.weaken{w:World}{S:Nat->Prop}{d d':Nat}{r:Ty}{css:List (List Value)}{rows:List r.D}{Fs:List AAc}(h:FD w S d r css rows Fs)(hd:d'<=d):
  ∃(Gs:List AAc) (W:AAc),Fs.flatten.Perm (Gs.flatten++W)/\FD w (fun c=>S c\/c∈W) d' r css rows Gs:=by
 obtain⟨Gs,Ws,h1,h2,h3,h4⟩:=q7 (R:=fun i G F W=> ∀cs y,css[i]? =some cs->rows[i]? =some y->Ow w (fun c=>S c\/c∈W) d' r cs y F) Fs 0 (fun i G hG=>by
  rw[APB];have hi:=(AJM.1 hG).1;have h1:=h.1;have h2:=h.2.1;obtain⟨F,W,hp,ho⟩:=KB hd (h.2.2.2 i _ _ G (AJA (by omega)) (AJA (by omega)) hG);grind)
 refine⟨Gs,Ws.flatten,h3,h.1,h1.trans h.2.1,h.2.2.1,fun i cs y G a b c=> ?_⟩;have hi:=(AJM.1 c).1;have hw:Ws[i]? =some (Ws[i]'(by omega)):=AJA _;have hf:Fs[i]? =some (Fs[i]'(by omega)):=AJA _;have:=h4 i _ _ _ hf c hw cs y (by simp_all) (by simp_all);exact EP (fun x hx=>hx.imp id fun hx=>ANa.2 ⟨_,ALA hw,hx⟩) (fun _ _=>rfl) (fun _ _=>rfl) this
theorem Hr{n:Nat}:∀{css:List (List Value)},(∀c∈css,c.length=n)->css.flatten.length=css.length*n
 |[],_=>by simp
 |c::l,h=>by simp[h c (by simp),Hr (css:=l) (fun c hc=>h c (by simp[hc])),ATd];omega
theorem FD.one{w:World}{S:Nat->Prop}{d:Nat}{r:Ty}{css:List (List Value)}{rows:List r.D}{Fs:List AAc}(h:FD w S d r css rows Fs):∀v∈css.flatten,v.oneCell' =true:=by
 intro v hv;obtain⟨c,hc,hv⟩:=ANa.1 hv;obtain⟨i,hi,rfl⟩:=AOq hc;have h1:=h.1;have h2:=h.2.1;exact mn (h.2.2.2 i _ _ _ (AJA hi) (AJA (by omega)) (AJA (by omega))) v hv
theorem FD.flat{w:World}{B S:Nat->Prop}{d:Nat}{r:Ty}(hf:r.flat=true){css:List (List Value)}{rows:List r.D}(h1:css.length=rows.length)(h2:∀c∈css,c.length=r.n)
  (h3:∀(i:Nat) cs y,css[i]? =some cs->rows[i]? =some y->Rd w B r cs y):FD w S d r css rows (List.replicate rows.length []):=by
 refine⟨h1,by simp,h2,fun i cs y G a b c=> ?_⟩;grind[List.mem_of_getElem?,lO]
theorem Be.heap{w w':World}{b o:Nat}{cs:List Value}(h:Be w b o cs)(e:w'.heap=w.heap):Be w' b o cs:=h.of_block (by rw[e])
theorem RJ{P:Program}{w:World}{a:Option Addr}{n cap size:Nat}{css:List (List Value)}(hl:css.length=n)(hc:∀c∈css,c.length=size)
  (h:n=0\/ ∃b o,a=some ⟨b,o,none⟩/\Be w b o css.flatten):nc P w size n (.slice a n cap) css.flatten:=by
 refine⟨fun w' =>rfl,fun w' e=> ?_⟩;have hlen:css.flatten.length=n*size:=by rw[Hr hc,hl]
 rcases h with rfl|⟨b,o,rfl,h⟩
 ·have:css=[]:=AMk hl
  subst this;cases a with
  |none=>rfl
  |some a=>
   simp only[Builtin.firstCells,Nat.zero_mul,ASi];rfl
 ·simp only[Builtin.firstCells]
  rw[<-hlen];exact Lm (h.heap e)
theorem AFT{P:Program}{w:World}{s:AAZ}:nc P w 1 s.length (.string ⟨s.toArray⟩) (s.map fun c=>[Value.int .u8 (c.toNat:Int)]).flatten:=by
 refine⟨fun w' =>rfl,fun w' _=> ?_⟩;have K8:(⟨s.toArray⟩:ByteArray).size=s.length:=by rfl
 have e1:(⟨s.toArray⟩:ByteArray).extract 0 s.length=⟨s.toArray⟩:=by
  rw[<-K8];apply ByteArray.ext;simp
 simp only[Builtin.firstCells,e1,Sem.run_pure];have:(s.map fun c=>[Value.int .u8 (c.toNat:Int)]).flatten=s.map fun c=>Value.int .u8 (c.toNat:Int):=by
  have:=Yl (l:=s.map fun c=>Value.int .u8 (c.toNat:Int));grind[List.map_map,Function.comp_def]
 simp_all
theorem qP{w:World}{S:Nat->Prop}{d:Nat}{r:Ty}{v:Value}{rows:List r.D}{F:AAc}(h:Ow w S (d+1) (.sl r) [v] rows F):
  ∃a cap css Fs R,v= .slice a rows.length cap/\rows.length<=cap/\FD w S d r css rows Fs/\F.Perm (Fs.flatten++R)/\
   ((cap=0/\F=[])\/ ∃b o arr ty fr,a=some ⟨b,o,none⟩/\w.heap[b]? =some (.cells arr ty fr)/\o+cap*r.n<=arr.size/\yx fr (arr.size+mk r)/\F=b::Fs.flatten/\Be w b o css.flatten):=by
 simp only[Ow]at h;obtain⟨a,cap,e,hle,h⟩:=h;simp only[AL9,AO1]at e;subst e;rcases h with⟨h,rfl⟩|⟨b,o,arr,ty,fr,Fs,rfl,hb,K8,hu,rfl,hFl,hr⟩
 ·have:rows=[]:=AMk (by omega)
  subst this;exact⟨a,cap,[],[],[],rfl,hle,⟨rfl,rfl,by simp,fun i cs y G h=>by simp at h⟩,by simp,.inl ⟨h,rfl⟩⟩
 ·
  have key:∀(n o:Nat) (ys:List r.D) (Fs:List AAc),ys.length=n->Fs.length=n->(∀(i:Nat) (y:r.D) (G:AAc),ys[i]? =some y->Fs[i]? =some G-> ∃cs,cs.length=r.n/\Be w b (o+i*r.n) cs/\Ow w S d r cs y G)->
    ∃css,FD w S d r css ys Fs/\Be w b o css.flatten:=by
   intro n
   induction n with
   |zero=>
    intro o ys Fs h1 h2 _;obtain rfl:=AMk h1;obtain rfl:=AMk h2;exact⟨[],⟨rfl,rfl,by simp,fun i cs y G h=>by simp at h⟩,fun _ _ h=>by simp at h⟩
   |succ n ih=>
    intro o ys Fs h1 h2 hh;obtain⟨y,ys,rfl⟩:=ATD h1;obtain⟨G,Fs,rfl⟩:=ATD h2;obtain⟨cs,c1,c2,c3⟩:=hh 0 y G rfl rfl;obtain⟨css,d1,d2⟩:=ih (o+r.n) ys Fs (by simp_all) (by simp_all) (fun i z G hz hG=>by
     obtain⟨cs,e1,e2,e3⟩:=hh (i+1) z G (by simp_all) (by simp_all);grind)
    refine⟨cs::css,⟨by simp[d1.1],by omega,fun c hc=> ?_,fun i gF y' G' a b c=> ?_⟩,?_⟩
    ·rcases ALa.1 hc with rfl|hc
     ·omega
     ·exact d1.2.2.1 c hc
    ·cases i with
     |zero=>simp_all
     |succ i=>exact d1.2.2.2 i gF y' G' (by simp_all) (by simp_all) (by simp_all)
    grind[List.flatten_cons,Be.append]
  obtain⟨css,k1,k2⟩:=key rows.length o rows Fs rfl hFl hr;refine⟨_,cap,css,Fs,[b],rfl,hle,k1,?_,.inr ⟨b,o,arr,ty,fr,rfl,hb,K8,hu,rfl,k2⟩⟩;grind
theorem mG{w:World}{S:Nat->Prop}:∀{r:Ty} {cs:List Value} {x:r.D},Rd w S r cs x->Ow w S 0 r cs x []
 | .cons c r,cs,x,hr=>by
  simp only[Rd]at hr;obtain⟨v,l,rfl,h1,h2⟩:=hr;simp only[Ow];exact⟨v,l,[],[],rfl,rfl,mG h1,mG h2⟩
 | .unit,_,_,hr=>by grind[Rd,Ow]
 | .int k,_,_,hr=>by grind[Rd,Ow]
 | .bool,_,_,hr=>by grind[Rd,Ow]
 | .str,_,_,hr=>by grind[Rd,Ow]
 | .sl q,_,_,hr=>by simp only[Ow];simp_all
theorem iK{P:Program}{E:Env}{w:World}{vw bx:List Bx}{G:AAc}(h:C0 E w vw bx G)(hw:FB bx vw){x:AV}{v:Value}(hv:VR E w vw x v){r:Ty}{rows:List r.D}{RF:List Bx}{d:Nat}
  (e:qL bx x=some ⟨r,rows,RF,d⟩):1<=d/\ ∃E' F css Fs R,G4 E w vw bx G E' RF F/\F.Perm (List.flatten Fs++R)/\FD w E'.S (d-1) r css rows Fs/\nc P w r.n rows.length v css.flatten:=by
 have plain:∀{B:Nat->Prop} {ys:List r.D},r.flat=true->Rd w B (.sl r) [v] ys-> ∀S:Nat->Prop,∃css,FD w S 8 r css ys (List.replicate ys.length [])/\nc P w r.n ys.length v css.flatten:=by
  intro B ys hf hr S;simp only[Rd]at hr;obtain⟨a,cap,e1,hle,hr⟩:=hr;simp only[AL9,AO1]at e1;subst e1;rcases hr with hr|⟨b,o,rfl,_,hr⟩
  ·have:ys=[]:=AMk hr
   subst this;exact⟨[],⟨rfl,rfl,by simp,fun i cs y G h=>by simp at h⟩,RJ (css:=[]) rfl (by simp) (.inl rfl)⟩
  ·obtain⟨css,c1,c2,c3,c4⟩:=sk hr
   exact⟨css,FD.flat hf c1 c2 c4,RJ c1 c2 (.inr ⟨b,o,rfl,c3⟩)⟩
 have done:∀{B:Nat->Prop} {ys:List r.D},r.flat=true->Rd w B (.sl r) [v] ys->rows=ys->RF=bx->d=9->
   1<=d/\ ∃E' F css Fs R,G4 E w vw bx G E' RF F/\F.Perm (List.flatten Fs++R)/\FD w E'.S (d-1) r css rows Fs/\nc P w r.n rows.length v css.flatten:=by
  intro B ys hf hr e1 e2 e3;subst e1 e2 e3;obtain⟨css,k1,k2⟩:=plain hf hr E.S;exact⟨by omega,E,[],css,_,[],G4.refl h,by simp,k1,k2⟩
 unfold qL at e;split at e
 ·rename_i s
  simp only[AJL,AK7]at e;obtain⟨rfl,e⟩:=e;have e:=ANi e;simp only[ANx]at e;obtain⟨rfl,rfl,rfl⟩:=e;have aG:=YY hv;subst aG;refine⟨by omega,E,[],s.map fun c=>[Value.int .u8 (c.toNat:Int)],_,[],G4.refl h,?_,FD.flat (B:=fun _=>False) rfl (by simp) (by simp[Ty.n]) (fun i cs y a b=> ?_),?_⟩
  ·simp
  ·simp only[ANd,AJN]at a b
   obtain⟨c1,z1,rfl⟩:=a;obtain⟨c2,z2,rfl⟩:=b;grind[Rd]
  grind[AFT,Ty.n]
 ·rename_i s q ys
  split at e
  ·rename_i hf
   simp only[AJL,AK7]at e;obtain⟨rfl,e⟩:=e;have e:=ANi e;simp only[ANx]at e;obtain⟨rfl,rfl,rfl⟩:=e;exact done hf hv rfl rfl rfl
  ·split at e
   case isFalse=>cases e
   rename_i hs;simp only[AJL,AK7]at e;obtain⟨rfl,e⟩:=e;have e:=ANi e;simp only[ANx]at e;obtain⟨rfl,rfl,rfl⟩:=e;subst hs;simp only[VR,AOx]at hv;simp only[Rd]at hv;obtain⟨a,cap,e1,hle,hr⟩:=hv;simp only[AL9,AO1]at e1;subst e1;have key:∃css:List (List Value),List.length css=ys.length/\(∀c∈css,c.length=q.n)/\(∀(i:Nat) cs y,css[i]? =some cs->ys[i]? =some y->Rd w E.S q cs y)/\nc P w q.n ys.length (.slice a ys.length cap) css.flatten:=by
    rcases hr with hr|⟨b,o,rfl,_,hr⟩
    ·have:ys=[]:=AMk hr
     subst this;exact⟨[],rfl,by simp,fun i cs y h=>by simp at h,RJ (css:=[]) rfl (by simp) (.inl rfl)⟩
    ·obtain⟨css,c1,c2,c3,c4⟩:=sk hr
     exact⟨css,c1,c2,c4,RJ c1 c2 (.inr ⟨b,o,rfl,c3⟩)⟩
   obtain⟨css,c1,c2,c3,c4⟩:=key;refine⟨ALj _,E,[],css,List.replicate ys.length [],[],G4.refl h,by simp,⟨c1,by simp,c2,fun i cs y G a b c=> ?_⟩,c4⟩;grind[List.mem_of_getElem?,mG]
 ·rename_i b
  split at e
  case h_2=>cases e
  rename_i d0 q ys hb;split at e
  ·rename_i hf
   simp only[AJL,AK7]at e;obtain⟨rfl,e⟩:=e;have e:=ANi e;simp only[ANx]at e;obtain⟨rfl,rfl,rfl⟩:=e;obtain⟨Fs,hB,hS⟩:=h;exact done hf (bd hw hB hS.st hv (q:=q) (ys:=ys) (by simp[NS,hb,Gu])) rfl rfl rfl
  ·simp only[AJL,AK7]at e
   obtain⟨rfl,e⟩:=e;have e:=ANi e;simp only[ANx]at e;obtain⟨rfl,rfl,rfl⟩:=e;obtain⟨F,⟨hd,ho⟩,hB⟩:=h.take hb;have hvw:=aE hw hb;simp only[VR,hvw,Cv,AJL]at hv;obtain⟨_,_,_,rfl⟩:=hv;obtain⟨m,rfl⟩:∃m,d0=m+1:=⟨d0-1,by omega⟩;obtain⟨a,cap,css,Fs,R,e1,hle,cA,hp,hcase⟩:=qP ho;refine⟨hd,E,F,css,Fs,R,⟨Le.refl _,by simp,fun n B hn=> ?_,hB⟩,hp,cA,?_⟩
   ·grind
   ·rw[e1]
    refine RJ cA.1 cA.2.2.1 ?_
    grind
 ·rename_i b p _
  split at e
  case h_2=>cases e
  rename_i d0 q ys hb;simp only[AJa]at e;obtain⟨⟨q',zs⟩,e1,e⟩:=e;dsimp only at e;split at e
  case isFalse=>cases e
  rename_i hf;simp only[AJL,AK7]at e;obtain⟨rfl,e⟩:=e;have e:=ANi e;simp only[ANx]at e;obtain⟨rfl,rfl,rfl⟩:=e;obtain⟨Fs,hB,hS⟩:=h;exact done hf (bd hw hB hS.st hv (q:=q') (ys:=zs) (by simp[NS,hb,e1])) rfl rfl rfl
 ·rename_i b p off n
  split at e
  case h_2=>cases e
  rename_i d0 q ys hb;simp only[AJa]at e;obtain⟨⟨q',zs⟩,e1,e⟩:=e;dsimp only at e;split at e
  case isFalse=>cases e
  rename_i hf;simp only[AJL,AK7]at e;obtain⟨rfl,e⟩:=e;have e:=ANi e;simp only[ANx]at e;obtain⟨rfl,rfl,rfl⟩:=e;obtain⟨Fs,hB,hS⟩:=h;exact done hf (bd hw hB hS.st hv (q:=q') (ys:=(zs.drop off).take n) (by simp[NS,hb,e1])) rfl rfl rfl
 simp_all
theorem iI{E:Env}{w:World}{vw bx:List Bx}{G:AAc}(h:C0 E w vw bx G)(hw:FB bx vw){x:AV}{v:Value}(hv:VR E w vw x v){r:Ty}{rows:List r.D}{RF:List Bx}{d:Nat}
  (e:qa bx x=some ⟨r,rows,RF,d⟩):1<=d/\ ∃F1 F2,G4 E w vw bx G E RF (F1++F2)/\Ow w E.S d (.sl r) [v] rows F1:=by
 have tk:∀{b d0:Nat} {q:Ty} {ys:List q.D},bx[b]? =some (.sl d0 q ys)-> ∃F,1<=d0/\Ow w E.S d0 (.sl q) [E.Hi b] ys F/\G4 E w vw bx G E (bx.set b .dead) F:=by
  intro b d0 q ys hb;obtain⟨F,⟨hd,ho⟩,hB⟩:=h.take hb;refine⟨F,hd,ho,⟨Le.refl _,by simp,fun n B hn=> ?_,hB⟩⟩;grind
 unfold qa at e;split at e
 ·rename_i b
  split at e
  case h_2=>cases e
  rename_i d0 q ys hb;simp only[AJL,AK7]at e;obtain⟨rfl,e⟩:=e;have e:=ANi e;simp only[ANx]at e;obtain⟨rfl,rfl,rfl⟩:=e;obtain⟨F,hd,ho,hT⟩:=tk hb;have hvw:=aE hw hb;simp only[VR,hvw,Cv,AJL]at hv;obtain⟨_,_,_,rfl⟩:=hv;exact⟨hd,F,[],by simp_all,ho⟩
 ·rename_i b off n
  split at e
  case h_2=>cases e
  rename_i d0 q ys hb;simp only[AJL,AK7]at e;obtain⟨rfl,e⟩:=e;have e:=ANi e;simp only[ANx]at e;obtain⟨rfl,rfl,rfl⟩:=e;obtain⟨F,hd,ho,hT⟩:=tk hb;have hvw:=aE hw hb;simp only[VR,hvw,Cv,AJL]at hv;obtain⟨_,_,q',zs,a,len,cap,h1,h2,h3,rfl⟩:=hv;simp only[Gu,AJL,AK7]at h1;obtain⟨rfl,h1⟩:=h1;obtain rfl:=ANi h1;rw[h3]at ho;obtain⟨m,rfl⟩:∃m,d0=m+1:=⟨d0-1,by omega⟩;obtain⟨F1,F2,hp,ho'⟩:=AGx ho h2;exact⟨hd,F1,F2,⟨hT.le,hT.len,hT.within,hT.boxes.perm (APR _ hp)⟩,ho'⟩
 simp_all
end Go.Fw
end
section
namespace Go.Fw
theorem iF{P:Program}{w:World}{a:Option Addr}{n cap size:Nat}{css:List (List Value)}(hl:css.length=n)(hc:∀c∈css,c.length=size)
  (h:n=0\/ ∃b o,a=some ⟨b,o,none⟩/\Be w b o css.flatten):∀w',w'.heap=w.heap->(Builtin.firstCells size n (.slice a n cap)).run P w' = .ok css.flatten.toArray w':=
 (RJ (P:=P) (cap:=cap) hl hc h).cells
theorem aZ{z:Array Value}{n:Nat}:(Builtin.zeroCells z n).size=n*z.size:=size_zeroCells z n
section
variable{Y:Type} {P:Program} {T:JR} (hT:ES P T) {o:Oper} {E:Env} {σ:St} {a:Act} {w:World} {k:K Y} {y:Y}
include hT
theorem ou(h:Rel E σ a w){E2:Env}{bJ:List Bx}{F Fd R:AAc}{t u ty:TypeId}{ts:Array TypeId}(xN:ts[0]? =some t)(ht1:ts[1]? =some u)
  (hu:(∃e,P.underlying u=some (.slice e))\/P.underlying u=some .string) {m:Nat} {r:Ty} (U0:T.NP t r=true)
  (kT:G4 E w σ.bx σ.bx [] E2 bJ F) {v1 v2:Value} {drows TY:List r.D} {css:List (List Value)} {Fs:List AAc}
  (ho:Ow w E2.S (m+1) (.sl r) [v1] drows Fd) (hs:FD w E2.S m r css TY Fs) (hn:nc P w r.n TY.length v2 css.flatten) (hp:F.Perm (Fd++Fs.flatten++R)) (ZR:drows.length+TY.length<=Cm):
  ∃v w' E',(Builtin.append_ ts ty #[v1,v2]).run P w= .ok v w'/\Rel E' { σ with bx:=bJ++[.sl (m+1) r (drows++TY)] } a w'/\Rx [] E σ.bx w E' (bJ++[.sl (m+1) r (drows++TY)]) w'/\
   XR E' w' (bJ++[.sl (m+1) r (drows++TY)]) (.c (.ref bJ.length [])) v:=by
 obtain⟨e,ti,hut,V9,hs1,hby,hrow⟩:=KR hT U0;obtain⟨i,z,i1,i2,i3,i4,i5,hg⟩:=Xx hT V9 hrow;rw[hs1]at i2;obtain⟨Fs0,hB1,Xw⟩:=kT.boxes;simp only[AKX]at Xw;have hdF:∀c∈Fd,c∈F:=fun c hc=>hp.mem_iff.2 (by simp[hc])
 have hsF:∀c∈Fs.flatten,c∈F:=fun c hc=>hp.mem_iff.2 (by simp_all)
 have ndF:=(AKg.1 (hp.nodup_iff.1 (AKg.1 Xw.nodup).2.1)).1;have ltF:∀c∈F,c<w.heap.size:=fun c hc=>Xw.lt c (by simp_all)
 have AYR:∀c∈F,¬E2.S c:=fun c hc hS=>Xw.free c (by simp_all) (Xw.st c hS)
 have ho0:=ho;obtain⟨ad,cap,dcss,Fs1,R1,rfl,hle,hd,hp1,hcase⟩:=qP ho;have pV:css.flatten.length=TY.length*r.n:=by rw[Hr hs.2.2.1,hs.1]
 have hdl:dcss.flatten.length=drows.length*r.n:=by rw[Hr hd.2.2.1,hd.1]
 by_cases T7:drows.length+TY.length<=cap
 ·rcases hcase with⟨h0,hF0⟩|⟨b,of,arr,ty0,fr,rfl,hb,K8,hunf,rfl,hc⟩
  ·
   have hd0:drows=[]:=AMk (by omega);have hs0:TY=[]:=AMk (by omega);subst hd0 hs0;have hc0:css=[]:=AMk hs.1;subst hc0 h0;have mV:=px (P:=P) (w:=w) (ty:=ty) xN ht1 hut hu i1 i2 (a:=ad) (x:=v2) (by simp_all);obtain⟨r1,r2,r3⟩:=UC h kT (w':=w) (d:=m+1) (by omega) ho0 (fun c hc=> .inl (hdF c hc)) (AKg.1 ndF).1 (fun c hc=>ltF c (hdF c hc)) (fun _ _ _=>rfl) ⟨rfl,rfl,rfl,ALj _⟩;grind
  ·
   have eV:of+drows.length*r.n+css.flatten.length<=arr.size:=by
    have:(drows.length+TY.length)*r.n<=cap*r.n:=ALR _ T7;grind
   have mV:=iP (P:=P) (w:=w) (ty:=ty) xN ht1 hut hu i1 i2 (b:=b) (o:=of) hn T7 (WI hb eV hunf) hs.one;have hbF:b∈F:=hdF b (by simp);have WJ:∀c,c∈Fs1.flatten\/c∈Fs.flatten\/E2.S c->c≠b:=by
    grind
   have eZ:∀c,c≠b->(w.setCells b (of+drows.length*r.n) css.flatten).heap[c]? =w.heap[c]?:=fun c hc=>DM _ _ _ _ _ hc
   have zx:=hd.mono (w':=w.setCells b (of+drows.length*r.n) css.flatten) (S':=E2.S) (fun _ h=>h) (fun c hc=>eZ c (WJ c (.inr (.inr hc)))) (fun c hc=>eZ c (WJ c (.inl hc)));have hs':=hs.mono (w':=w.setCells b (of+drows.length*r.n) css.flatten) (S':=E2.S) (fun _ h=>h) (fun c hc=>eZ c (WJ c (.inr (.inr hc)))) (fun c hc=>eZ c (WJ c (.inr (.inl hc))));have X0:=zx.append hs';have AEm:Be (w.setCells b (of+drows.length*r.n) css.flatten) b of (dcss++css).flatten:=by
    grind[List.flatten_append,Be.append,VC,OQ]
   have how:Ow (w.setCells b (of+drows.length*r.n) css.flatten) E2.S (m+1) (.sl r) [.slice (some ⟨b,of,none⟩) (drows.length+TY.length) cap] (drows++TY) (b::(Fs1++Fs).flatten):=by
    simp only[Ow];refine⟨_,cap,by rw[AKN],by simp_all,.inr ⟨b,of,_,ty0,fr,Fs1++Fs,rfl,FW _ _ _ _ _ _ _ hb,by rw[FV];omega,by rw[FV];omega,rfl,X0.2.1,fun j q G hq hG=> ?_⟩⟩;have hj:=(AJM.1 hq).1;have h1:=X0.1;have yV:j<(dcss++css).length:=by omega
    refine⟨(dcss++css)[j],X0.2.2.1 _ (AJ7 _),fun x u hx=> ?_,X0.2.2.2 j _ _ _ (AJA yV) hq hG⟩;have hxl:=(AJM.1 hx).1;rw[X0.2.2.1 _ (AJ7 _)]at hxl;have:=Zy (n:=r.n) (css:=dcss++css) (ex:=[]) (i:=j) X0.2.2.1 (AJA yV) hxl;rw[AKX,hx]at this;have:=AEm _ _ this;grind
   have sN:(b::(Fs1++Fs).flatten)=(b::Fs1.flatten)++Fs.flatten:=by simp
   rw[sN]at how;obtain⟨r1,r2,r3⟩:=UC h kT (w':=w.setCells b (of+drows.length*r.n) css.flatten) (d:=m+1) (by omega) how (fun c hc=> .inl ((ALk.1 hc).elim (hdF c) (hsF c))) ndF
    (fun c hc=>by grind[DW]) (fun c hc hcF=>eZ c (fun e=>hcF (e▸hbF))) (B8 _ _ _ _)
   grind
 ·
  have hold:drows.length=0\/ ∃b o,ad=some ⟨b,o,none⟩/\Be w b o dcss.flatten:=by
   grind
  have mV:=eL (P:=P) (w:=w) (ty:=ty) xN ht1 hut hu i1 i4 i2 (iF (P:=P) (cap:=cap) hd.1 hd.2.2.1 hold) hn (by omega) ZR (by omega);have hge:=grownCap_ge w (drows.length+TY.length) cap e
  generalize hgc:grownCap w (drows.length+TY.length) cap e=gc at mV hge
  let arr:Array Value:=dcss.flatten.toArray++css.flatten.toArray++Builtin.zeroCells z.cells (gc-(drows.length+TY.length))
  have ef:arr.toList=(dcss++css).flatten++(Builtin.zeroCells z.cells (gc-(drows.length+TY.length))).toList:=by simp[arr]
  have hzl:z.cells.size=r.n:=by rw[<-AQu,i5,Gr]
  have AVu:arr.size=gc*r.n:=by
   simp only[arr,ATQ,ATR,aZ,hzl,pV,hdl,<-APH];simp_all
  let w':=w.drew.alloc (.cells arr e)
  have new:w'.heap[w.heap.size]? =some (.cells arr e):=by
   show(w.heap.push (.cells arr e))[w.heap.size]? =_
   simp
  have AEx:∀c,c<w.heap.size->w'.heap[c]? =w.heap[c]?:=fun c hc=>Iu (w:=w) (o:= .cells arr e) hc
  have hR1:∀c∈Fs1.flatten,c∈Fd:=fun c hc=>hp1.mem_iff.2 (by simp_all)
  have zx:=hd.mono (w':=w') (S':=E2.S) (fun _ h=>h) (fun c hc=>AEx c (Xw.cI c (Xw.st c hc))) (fun c hc=>AEx c (ltF c (hdF c (hR1 c hc))));have hs':=hs.mono (w':=w') (S':=E2.S) (fun _ h=>h) (fun c hc=>AEx c (Xw.cI c (Xw.st c hc))) (fun c hc=>AEx c (ltF c (hsF c hc)));have X0:=zx.append hs';have how:Ow w' E2.S (m+1) (.sl r) [.slice (some ⟨w.heap.size,0,none⟩) (drows++TY).length gc] (drows++TY) (w.heap.size::(Fs1++Fs).flatten):=
   fW new ef X0.1 (by simp_all) (by omega) (Xu _) X0.2.1 X0.2.2.2
  rw[AKN]at how;have Pu:∀c∈(Fs1++Fs).flatten,c∈Fd++Fs.flatten:=by
   grind
  have nd1:(Fs1++Fs).flatten.Nodup:=by
   grind
  have AbB:∀c∈(Fs1++Fs).flatten,c∈F:=fun c hc=>(ALk.1 (Pu c hc)).elim (hdF c) (hsF c)
  obtain⟨r1,r2,r3⟩:=UC h kT (w':=w') (d:=m+1) (by omega) how (by
    simp_all) (by
    grind) (by
    grind) (fun c hc _=>AEx c hc) ⟨rfl,rfl,rfl,by simp[w']⟩
  grind
end
end Go.Fw
end
section
namespace Go.Fw
theorem Y_{α β:Type}{args:Array α}{f:α->β}{x y:β}(h:args.toList.map f=[x,y]):∃a b,args= #[a,b]/\f a=x/\f b=y:=by
 obtain⟨l⟩:=args
 match l,h with
 |[a,b],h=>grind
theorem Yn{α β:Type}{args:Array α}{f:α->β}{x:β}(h:args.toList.map f=[x]):∃a,args= #[a]/\f a=x:=by
 obtain⟨l⟩:=args;simp_all
section
variable{Y:Type} {P:Program} {T:JR} (hT:ES P T) {o:Oper} {E:Env} {σ:St} {a:Act} {w:World} {k:K Y} {y:Y}
include hT
theorem yM(h:Rel E σ a w){c:Call}{x1 x2:XV}(ho:o.op= .call c)(hc:c.callee= .builtin .append)(IV:c.args.toList.map σ.ev=[x1,x2])(e:gP T c.argTypes σ x1 x2 k=some y):Lo P o E σ a w k y:=by
 obtain⟨o1,o2,hargs',rfl,rfl⟩:=Y_ IV;have eE:=h.ev o1;have bu:=h.ev o2;have exec:∀{v w'},(Builtin.append_ c.argTypes o.type #[a.eval o1,a.eval o2]).run P w= .ok v w'->(execOp a.eval o).run P w= .ok (.value v) w':=by
  intro v w' hr;simp only[execOp,ho,resolve,hc,hargs',invoke,builtin,Sem.run_bind,Sem.run_pure,Result.andThen_ok,List.map_toArray,APX,ASr,hr]
 unfold gP at e;split at e
 case h_2=>cases e
 rename_i t u xN ht1;split at e
 case isFalse=>cases e
 rename_i hu;have hu':(∃e,P.underlying u=some (.slice e))\/P.underlying u=some .string:=by
  rw[AOy]at hu;grind[mN,YI]
 split at e
 ·
  rename_i z hz1 hz2;rw[hz1]at eE;rw[hz2]at bu;simp only[AJa]at e;obtain⟨⟨r,rows,RF,d⟩,e1,e⟩:=e;dsimp only at e;split at e
  case isFalse=>cases e
  rename_i U0;split at e
  case isFalse=>cases e
  rename_i ZR;obtain⟨hd,E',F,css,Fs,R,kT,hp,hs,hn⟩:=iK (P:=P) h.bx (FB.refl _) bu e1;obtain⟨m,rfl⟩:∃m,d=m+1:=⟨d-1,by omega⟩;have AUk:a.eval o1= .slice none 0 0:=eE;obtain⟨v,w',E3,hr,r1,r2,r3⟩:=ou hT h (ty:=o.type) xN ht1 hu' U0 kT (v1:= .slice none 0 0) (Fd:=[]) (drows:=[]) rE hs hn (R:=R) (by simp_all) (by simp_all);rw[<-AUk]at hr;simp only[AOi]at r1 r3;exact⟨_,_,_,_,_,.inl (exec hr),r1,r3,r2.any,rfl,e⟩
 ·rename_i z1 z2 hnn hz1 hz2
  rw[hz1]at eE;rw[hz2]at bu;simp only[AJa]at e;obtain⟨⟨r,rows,kh,d⟩,e1,e⟩:=e;dsimp only at e;split at e
  case isFalse=>cases e
  rename_i U0;simp only[AJa]at e;obtain⟨⟨q,srows0,bJ,ds⟩,e2,TY,e3,e⟩:=e;dsimp only at e e3;obtain⟨hqr,e4⟩:=IF e3;subst hqr;subst e4;dsimp only at e;split at e
  case isFalse=>cases e
  rename_i ZR;obtain⟨hd,F1,F2,k1,ho1⟩:=iI h.bx (FB.refl _) eE e1;obtain⟨hds,E',F3,css,Fs,R,k2,hp,hs,hn⟩:=iK (P:=P) k1.boxes ((FB.refl _).rW k1) bu e2;obtain⟨m,hm⟩:∃m,min d ds=m+1:=⟨min d ds-1,by omega⟩;rw[hm]at e;obtain⟨A,W1,p1,ho1'⟩:=KB (d:=m+1) (by omega) ho1;obtain⟨Gs,W2,p2,hs'⟩:=hs.weaken (d':=m) (by omega);have hB:=k2.boxes.perm (G':=(A++Gs.flatten++(R++F2))++(W1++W2)++[]) (by
   grind)
  obtain⟨hle,Xw⟩:=hB.share;have kT:G4 E w σ.bx σ.bx [] _ bJ (A++Gs.flatten++(R++F2)):=⟨(k1.le.trans k2.le).trans hle,k2.len.trans k1.len,fun b B hb=>(k2.within b B hb).elim .inl (k1.within b B),Xw⟩;have ho2:Ow w (fun c=>E'.S c\/c∈W1++W2) (m+1) (.sl q) [a.eval o1] rows A:=
   EP (fun c hc=>hc.imp (k2.le.S c) (by simp_all)) (fun _ _=>rfl) (fun _ _=>rfl) ho1'
  have hs2:FD w (fun c=>E'.S c\/c∈W1++W2) m q css srows0 Gs:=hs'.mono (fun c hc=>hc.imp id (by simp_all)) (fun _ _=>rfl) (fun _ _=>rfl);obtain⟨v,w',E3,hr,r1,r2,r3⟩:=ou hT h (ty:=o.type) xN ht1 hu' U0 kT ho2 hs2 hn (ATe _) ZR;exact⟨_,_,_,_,_,.inl (exec hr),r1,r3,r2.any,rfl,e⟩
 simp_all
end
end Go.Fw
end
section
namespace Go.Fw
theorem qI{P:Program}{w:World}{b o:Nat}{ty:TypeId}{v:Value}(ht:w.there b o v.cells.toList.length)(hi:(P.info? ty).map (·.size)=some v.cells.toList.length)(h1:∀u∈v.cells.toList,u.oneCell' =true):
  (Instr.storeAt ty (.pointer (some ⟨b,o,none⟩)) v).run P w= .ok () (w.setCells b o v.cells.toList):=by
 have:=run_storeCells_cells (P:=P) b o v.cells.toList 0 w (fun j hj=>by simpa using(ht j hj).1) (fun j hj=>by simpa using(ht j hj).2) h1;cases hq:P.info? ty with
 |none=>simp_all
 |some i=>
  have hs:v.cells.size=i.size:=by simp_all
  simp only[APL]at this;simp[Instr.storeAt,Instr.sureAddr,storeVar,sizeOf,typeInfo,hq,hs,this]
theorem dU{E E1 E':Env}{w w':World}{vw kh RF:List Bx}{F:AAc}(b0:Nat)(k:G4 E w vw vw [] E1 kh F)(st:∀c,E.S c->E.T c)(hlen:vw.length<=RF.length)
  (xn:∀b d r rows,b≠b0->b<vw.length->RF[b]? =some (.sl d r rows)->kh[b]? =some (.sl d r rows)) (AFi:∀b,b<vw.length->E'.Hg b=E1.Hg b) (jj:∀b,b<vw.length->E'.Hi b=E1.Hi b) (hT:E'.T=E1.T) (hS:E'.S=E1.S)
  (hw:∀c,c<w.heap.size->c∉F->w'.heap[c]? =w.heap[c]?)
  (h0:∀d r rows,RF[b0]? =some (.sl d r rows)-> ∃d0 Sh,vw[b0]? =some (.sl d0 r Sh)/\
   ∀p,DC r Sh p-> ∀q ys,Gu r Sh p=some ⟨q,ys⟩->DC r rows p/\(∃xk,Gu r rows p=some ⟨q,xk⟩/\List.length xk=List.length ys)/\
    ∀h,I1 w (E.Hi b0) p=some h->I1 w' (E'.Hi b0) p=some h):Tk E w vw E' w' RF:=by
 have hB:=k.boxes;obtain⟨Fs,⟨h1,h2⟩,h3⟩:=hB;simp only[AKX]at h3;have z8:∀c,E1.T c->w'.heap[c]? =w.heap[c]?:=fun c hc=>hw c (h3.cI c hc) fun hf=>h3.free c (by simp[hf]) hc
 refine⟨hlen,fun b hb=>by rw[AFi b hb,k.le.Hg],fun c hc=>by rw[hT];exact k.le.T c hc,fun c hc=>by rw[hS];exact k.le.S c hc,st,fun c hc=>z8 c (k.le.T c hc),fun b d r rows hb e=> ?_⟩;by_cases hb0:b=b0
 ·simp_all
 have e1:=xn b _ _ _ hb0 hb e;rcases k.within b _ e1 with e2|e2
 ·cases e2
 ·refine⟨d,rows,e2,fun p hp q ys hg=>⟨hp,⟨ys,hg,rfl⟩,fun h' hh=> ?_⟩⟩
  have hF:Fs[b]? =some (Fs[b]'(by grind)):=AJA _;obtain⟨hd,ho⟩:=h2 b _ _ e1 hF;rw[jj b hb];rw[<-k.le.Hi]at hh;refine wy ho (fun c hc=>z8 c (h3.st c hc)) (fun c hc=> ?_) hp hg hh;have Pu:c∈Fs.flatten:=ANa.2 ⟨_,ALA hF,hc⟩;exact hw c (h3.lt c (by simp[Pu])) fun hf=>(AKg.1 h3.nodup).2.2 c Pu c hf rfl
def Bx.map(f:AV->AV):Bx->Bx
 | .mem cs=> .mem (cs.map f)
 |B=>B
theorem C0.APi{E E':Env}{w w':World}{vw vw' bx:List Bx}{G:AAc}(f:AV->AV)(h:C0 E w vw bx G)(k:∀x v,VR E w vw x v->VR E' w' vw' (f x) v)
  (hS:∀c,E.S c->E'.S c) (AFi:∀b,b<bx.length->E'.Hg b=E.Hg b) (jj:∀b,b<bx.length->E'.Hi b=E.Hi b)
  (hw:∀c,(E.S c\/(¬E.T c/\c∉G))->c<w.heap.size->w'.heap[c]? =w.heap[c]?)
  (AFF:∀F,Sep E w (F++G)->Sep E' w' (F++G)):C0 E' w' vw' (bx.map (Bx.map f)) G:=by
 obtain⟨Fs,⟨hl,h1⟩,h2⟩:=h;refine⟨Fs,⟨by simp_all,fun n B F hn hF=> ?_⟩,AFF _ h2⟩;rw[ANd,AJN]at hn;obtain⟨B,hn,rfl⟩:=hn;have IQ:=(AJM.1 hn).1;have h3:=h1 n B F hn hF;have AOo:∀c∈F,c∈Fs.flatten:=fun c hc=>ANa.2 ⟨F,ALA hF,hc⟩
 have hFw:∀c∈F,w'.heap[c]? =w.heap[c]?:=fun c hc=>hw c (.inr ⟨h2.free c (by simp_all),fun hg=>by
  have:=(AKg.1 h2.nodup).2.2 c (AOo c hc) c hg;omega⟩) (h2.lt c (by simp_all))
 have vF:∀c,E.S c->w'.heap[c]? =w.heap[c]?:=fun c hc=>hw c (.inl hc) (h2.cI c (h2.st c hc))
 cases B with
 |mem cs=>
  obtain⟨rfl,arr,ty,fr,ha,hu,hv⟩:=h3;refine⟨by simp_all,arr,ty,fr,?_,hu,CX.L3 f k hv⟩;simp_all
 |sl d r rows=>
  obtain⟨hd,ho⟩:=h3;refine⟨hd,?_⟩;grind[EP]
 |dead=>exact h3
theorem Bx.map_id:∀B:Bx,Bx.map id B=B
 | .mem cs=>by simp[Bx.map]
 | .sl _ _ _=>rfl
 | .dead=>rfl
theorem bX(bx:List Bx):bx.map (Bx.map id)=bx:=by
 induction bx with
 |nil=>rfl
 |cons B l ih=>simp[ih,Bx.map_id]
theorem oA(b:Nat)(bx:List Bx):bx.map (ACy b)=bx.map (Bx.map (Jw b)):=by
 rfl
theorem ADh{E:Env}{σ:St}{a:Act}{w:World}(h:Rel E σ a w){b j:Nat}{cs gF:List AV}(hb:σ.bx[b]? =some (.mem cs)){xs:List AV}{vs:List Value}(hx:jy E w σ.bx xs vs)(WJ:xs≠[])
  (e:YH cs j xs=some gF):
  w.there (E.Hg b) j vs.length/\Rel E { σ with bx:=σ.bx.set b (.mem gF) } a (w.setCells (E.Hg b) j vs)/\Rx [b] E σ.bx w E (σ.bx.set b (.mem gF)) (w.setCells (E.Hg b) j vs):=by
 have st:=h.bx.st;obtain⟨F,⟨rfl,arr,ty,fr,ha,hu,hv⟩,hB⟩:=h.bx.take hb;simp only[AKX]at hB;have IQ:=(AJM.1 hb).1;rcases X2 hv hx e with⟨h1,h2⟩|⟨h1,_⟩
 case inr=>exact absurd h1 WJ
 have eV:j+vs.length<=arr.size:=by
  have l1:=CX.len hv;have l2:=CX.len hx;simp only[AQu]at l1;omega
 have Tb: ¬E.T (E.Hg b):=hB.AGV _ (by simp);have hB0:=hB;have eZ:∀c,c≠E.Hg b->(w.setCells (E.Hg b) j vs).heap[c]? =w.heap[c]?:=fun c hc=>DM _ _ _ _ _ hc
 have hw:∀c,c<w.heap.size->c∉[E.Hg b]->(w.setCells (E.Hg b) j vs).heap[c]? =w.heap[c]?:=fun c _ hc=>eZ c (by simpa using hc)
 have kT:G4 E w σ.bx σ.bx [] E (σ.bx.set b .dead) [E.Hg b]:=⟨Le.refl _,by simp,fun n B hn=>by
  by_cases en:n=b
  ·subst en
   rw[AMq IQ]at hn;exact .inl (by simpa using hn.symm)
  ·rw[ALE (fun h=>en h.symm)]at hn
   exact .inr hn,by simpa using hB⟩
 have keep:Tk E w σ.bx E (w.setCells (E.Hg b) j vs) (σ.bx.set b (.mem gF)):=dU b kT st (by simp) (fun n d r rows hn _ hq=>by
   rw[ALE (by omega)]at hq|-;exact hq) (fun _ _=>rfl) (fun _ _=>rfl) rfl rfl hw (fun d r rows hq=>by
   rw[AMq IQ]at hq;cases hq)
 refine⟨WI ha eV hu,⟨h.N4,h.tm.imp fun _ _ hq=>Pc keep hq,?_⟩,⟨⟨fun _ h=>h,fun _ h=>h,fun _ h=> .inl h,fun _ h=> .inl h,fun c hc=>eZ c (fun e=>Tb (e▸hc)),(B8 _ _ _ _).os,(B8 _ _ _ _).tape,(B8 _ _ _ _).output,(B8 _ _ _ _).size⟩,by simp,fun _ _=>⟨rfl,rfl⟩,fun n hn=>by
  rw[ALE (fun e=>by subst e;rw[hb]at hn;cases hn)];exact hn,fun n B B' qY hB Ti hnd=>by
  simp at qY;rw[ALE (fun e=>qY e.symm),hB]at Ti;cases Ti;refine⟨WQ.refl hnd,fun c hc=>eZ c (fun e=> ?_)⟩;obtain⟨Fs,⟨f1,f2⟩,f3⟩:=hB0;have Xw:(σ.bx.set b .dead)[n]? =some B:=by rw[ALE (fun e=>qY e.symm)];exact hB
  have hF:Fs[n]? =some (Fs[n]'(by have:=(AJM.1 Xw).1;omega)):=AJA _;rcases gh (f2 n B _ Xw hF) hc with hs|hs
  ·exact Tb (e▸st c hs)
  ·exact(AKg.1 f3.nodup).2.2 c (ANa.2 ⟨_,ALA hF,hs⟩) (E.Hg b) (by simp) e⟩⟩
 have hT:=hB.turn (E':=E) (w':=w.setCells (E.Hg b) j vs) (vw':=σ.bx.set b (.mem gF)) (fun x v hq=>GB keep hq) (fun _ h=>h) (fun _ _=>rfl) (fun _ _=>rfl) (fun c hc _=>eZ c (fun e=>by
   rcases hc with hc|hc
   ·exact Tb (e▸st c hc)
   ·exact hc.2 (by simp[e]))) (fun F hF=>⟨hF.nodup,hF.free,fun c hc=>by rw[DW];exact hF.lt c hc,hF.st,fun c hc=>by rw[DW];exact hF.cI c hc,hF.tu.mono (fun _ h=>h) (fun c hc=>eZ c (fun e=>Tb (e▸hc)))⟩)
 have:=C0.put (b:=b) (B:= .mem gF) (F:=[E.Hg b]) (G:=[]) (by simpa using hT) (by rw[AMq IQ]) ⟨rfl,E_ arr j vs,ty,fr,FW _ _ _ _ _ _ _ ha,by rw[FV];exact hu,h1.imp fun _ _ hq=>GB keep hq⟩;rw[ATJ]at this;exact this
theorem YC:∀{r:Ty} {j j':Nat} {x:r.D} {t:Ty} {y:t.D} {x':r.D},Dz r j x t y=some x'->j'≠j->BS r j' x' =BS r j' x
 | .cons c r,0,j',x,t,y,x',e,hj=>by
  simp only[Dz]at e;split at e
  ·rename_i h
   subst h;simp only[AJL]at e;subst e;cases j' with
   |zero=>omega
   |succ j' =>rfl
  simp_all
 | .cons c r,j+1,j',x,t,y,x',e,hj=>by
  simp only[Dz,AJN]at e;obtain⟨z,e1,rfl⟩:=e;cases j' with
  |zero=>rfl
  |succ j' =>
   simp only[BS];exact YC e1 (by omega)
 | .unit,_,_,_,_,_,_,e,_=>by rfl
 | .int k,0,j',x,t,y,x',e,hj=>by cases j' with
  |zero=>omega
  |succ j' =>rfl
 | .bool,0,j',x,t,y,x',e,hj=>by cases j' with
  |zero=>omega
  |succ j' =>rfl
 | .str,0,j',x,t,y,x',e,hj=>by cases j' with
  |zero=>omega
  |succ j' =>rfl
 | .sl _,0,j',x,t,y,x',e,hj=>by cases j' with
  |zero=>omega
  |succ j' =>rfl
 | .int _,_+1,_,_,_,_,_,e,_=>by simp[Dz]at e
 | .bool,_+1,_,_,_,_,_,e,_=>by simp[Dz]at e
 | .str,_+1,_,_,_,_,_,e,_=>by simp[Dz]at e
 | .sl _,_+1,_,_,_,_,_,e,_=>by simp[Dz]at e
theorem V_:∀{r:Ty} {j:Nat} {x:r.D} {t:Ty} {y:t.D} {x':r.D},Dz r j x t y=some x'->BS r j x' =some ⟨t,y⟩/\ ∃y0:t.D,BS r j x=some ⟨t,y0⟩
 | .cons c r,0,x,t,y,x',e=>by
  simp only[Dz]at e;split at e
  ·rename_i h
   subst h;simp only[AJL]at e;subst e;exact⟨rfl,_,rfl⟩
  simp_all
 | .cons c r,j+1,x,t,y,x',e=>by
  simp only[Dz,AJN]at e;obtain⟨z,e1,rfl⟩:=e;simp only[BS];exact V_ e1
 | .unit,_,_,_,_,_,e=>by simp[Dz]at e
 | .int k,0,x,t,y,x',e=>by
  simp only[Dz]at e;split at e
  ·rename_i h;subst h;cases e;exact⟨rfl,_,rfl⟩
  simp_all
 | .bool,0,x,t,y,x',e=>by
  simp only[Dz]at e;split at e
  ·rename_i h;subst h;cases e;exact⟨rfl,_,rfl⟩
  simp_all
 | .str,0,x,t,y,x',e=>by
  simp only[Dz]at e;split at e
  ·rename_i h;subst h;cases e;exact⟨rfl,_,rfl⟩
  simp_all
 | .sl _,0,x,t,y,x',e=>by
  simp only[Dz]at e;split at e
  ·rename_i h;subst h;cases e;exact⟨rfl,_,rfl⟩
  simp_all
 | .int _,_+1,_,_,_,_,e=>by simp[Dz]at e
 | .bool,_+1,_,_,_,_,e=>by simp[Dz]at e
 | .str,_+1,_,_,_,_,e=>by simp[Dz]at e
 | .sl _,_+1,_,_,_,_,e=>by simp[Dz]at e
theorem mK{r:Ty}{rows:List r.D}{i k:Nat}{x:r.D}(hi:i<rows.length):rowAt r (rows.set i x) k=if k=i then x else rowAt r rows k:=by
 unfold rowAt;grind
theorem sM:∀{p:List Xv} {r:Ty} {rows rows':List r.D} {q:Ty} {ys xk:List q.D},Gu r rows p=some ⟨q,ys⟩->xk.length=ys.length->qw r rows p q xk=some rows'->rows'.length=rows.length
 |[],r,rows,rows',q,ys,xk,h1,h2,h3=>by
  simp only[Gu,AJL,AK7]at h1;obtain⟨rfl,h1⟩:=h1;obtain rfl:=ANi h1;simp only[qw,ATS,Rs,AJL]at h3;simp_all
 |s::p,r,rows,rows',q,ys,xk,h1,h2,h3=>by
  simp only[qw]at h3;split at h3
  ·simp only[AJa,AJN]at h3
   grind
  simp_all
theorem oW{t:Ty}(ht:t.scalar=true){y:t.D}{q:Ty}{i j:Nat}:∀{p':List Xv} {r:Ty} {rows rows':List r.D} {p:List Xv} {ys:List q.D} {bN:q.D},DC r rows p->Gu r rows p=some ⟨q,ys⟩->i<ys.length->
  Dz q j (rowAt q ys i) t y=some bN->qw r rows p q (ys.set i bN)=some rows'->DC r rows p'-> ∀q' zs,Gu r rows p' =some ⟨q',zs⟩->
   DC r rows' p'/\ ∃zs',Gu r rows' p' =some ⟨q',zs'⟩/\List.length zs' =List.length zs
 |[],r,rows,rows',p,ys,bN,_,hg,hi,hc,hs,_,q',zs,hg' =>by
  simp only[Gu,AJL,AK7]at hg';obtain⟨rfl,hg'⟩:=hg';obtain rfl:=ANi hg';exact⟨by simp[DC],rows',by rfl,sM hg (by simp) hs⟩
 |s'::p',r,rows,rows',p,ys,bN,hp,hg,hi,hc,hs,hp',q',zs,hg' =>by
  have hlen:=sM hg (by simp) hs;simp only[DC]at hp'|-;obtain⟨g1,g2,g3⟩:=hp';simp only[Gu]at hg'|-;split at hg'
  case h_2=>cases hg'
  rename_i q0 x0 jN;rw[jN]at g3;dsimp only at g3;have key:∃x1,BS r s'.j (rowAt r rows' s'.i)=some ⟨.sl q0,x1⟩/\DC q0 x1 p'/\ ∃zs',Gu q0 x1 p' =some ⟨q',zs'⟩/\List.length zs' =List.length zs:=by
   have same:BS r s'.j (rowAt r rows' s'.i)=some ⟨.sl q0,x0⟩-> ∃x1,BS r s'.j (rowAt r rows' s'.i)=some ⟨.sl q0,x1⟩/\DC q0 x1 p'/\ ∃zs',Gu q0 x1 p' =some ⟨q',zs'⟩/\List.length zs' =List.length zs:=
    fun h=>⟨x0,h,g3,zs,hg',rfl⟩
   cases p with
   |nil=>
    simp only[Gu,AJL,AK7]at hg;obtain⟨rfl,hg⟩:=hg;obtain rfl:=ANi hg;simp only[qw,ATS,Rs,AJL]at hs;subst hs;apply same;rw[mK hi];split
    ·rename_i e
     subst e;by_cases ej:s'.j=j
     ·obtain⟨_,y0,h0⟩:=V_ hc
      rw[ej,h0]at jN;simp only[AJL,AK7]at jN;obtain⟨rfl,_⟩:=jN;simp[Ty.scalar]at ht
     grind[YC]
    omega
   |cons s p=>
    simp only[DC]at hp;obtain⟨k1,k2,k3⟩:=hp;simp only[Gu]at hg;split at hg
    case h_2=>cases hg
    rename_i r' x hcx;rw[hcx]at k3;dsimp only at k3;simp only[qw,hcx,AJa,AJN]at hs;obtain⟨x',hs1,row2,hs2,rfl⟩:=hs;rw[mK k1];rw[mK k1]at same;split
    ·rename_i e
     rw[AI9 e]at same;rw[e]at jN;by_cases ej:s'.j=s.j
     ·rw[ej]at jN|-
      rw[hcx]at jN;simp only[AJL,AK7,Ty.sl.injEq]at jN;obtain⟨rfl,jN⟩:=jN;obtain rfl:=ANi jN;obtain⟨m1,m2⟩:=oW ht k3 hg hi hc hs1 g3 q' zs hg';grind[V_]
     grind[YC]
    simp_all
  grind
theorem uy{w w':World}{B:Nat->Prop}(bQ:∀A,w'.cell? A=w.cell? A\/ ∃v,w'.cell? A=some v/\isSlice v=false):∀{p:List Xv} {r:Ty} {h:Value} {rows:List r.D} {hh:Value},
  Rd w' B (.sl r) [h] rows->DC r rows p->I1 w h p=some hh->I1 w' h p=some hh
 |[],_,h,_,hh,_,_,e=>by grind[Cv]
 |s::p,r,h,rows,hh,hr,hp,e=>by
  simp only[DC]at hp;obtain⟨hi,K8,hp⟩:=hp;simp only[Rd]at hr;obtain⟨a,cap,e1,_,hr⟩:=hr;obtain rfl:=(AO6 e1).1;rcases hr with hr|⟨b,o,rfl,hb,hr⟩
  ·omega
  obtain⟨cs,hl,hc,hrow⟩:=hr s.i _ (Rh hi);split at hp
  case h_2=>exact hp.elim
  rename_i q x jN;obtain⟨v,hv,hrv⟩:=gU hrow jN;have hcv:=hc _ _ hv;rw[<-K8]at hcv;simp only[I1]at e|-;split at e
  case h_2=>cases e
  rename_i v0 hv0;rcases bQ ⟨b,o+s.i*s.sz+s.j,none⟩with h1|⟨u,h1,h2⟩
  ·rw[h1,hv0]
   rw[h1,hv0]at hcv;cases hcv;exact uy bQ hrv hp e
  ·rw[hcv]at h1
   cases h1;simp only[Rd]at hrv;obtain⟨_,_,e2,_⟩:=hrv;simp only[AL9,AO1]at e2;grind[isSlice]
theorem AFQ{E E':Env}{w w':World}{vw vw':List Bx}{b d d':Nat}{r:Ty}{rows rows':List r.D}(k:Tk E w vw E' w' (vw'.set b .dead))(hb:vw[b]? =some (.sl d r rows))(hb':vw'[b]? =some (.sl d' r rows'))(hl:rows'.length=rows.length)
  (hh:E'.Hi b=E.Hi b) {x:AV} {v:Value} (h:VR E w vw x v):VR E' w' vw' (Jw b x) v:=by
 have h1:=GB k h;have eZ:∀{b'},b'≠b->(vw'.set b .dead)[b']? =vw'[b']?:=fun e=>ALE (fun h=>e h.symm)
 cases x with
 |v t x=>exact h1
 |sl s r x=>exact h1
 |nil=>exact h1
 |IX c j=>exact⟨by simpa using h1.1,h1.2⟩
 |Pv s r x j=>exact h1
 |fn f Ka=>exact⟨fun c hc=>by simpa using h1.1 c hc,h1.2⟩
 |ta f rows=>exact h1
 |ABv=>exact h1
 |undef=>trivial
 |ref c p=>
  cases p with
  |nil=>
   simp only[Jw];by_cases e:c=b
   ·subst e
    simp only[VR,hb,hb']at h|-;refine⟨h.1,by simp[DC],⟨_,rfl⟩,?_⟩;grind[Cv]
   grind[VR]
  |cons s p=>
   grind[Jw,VR]
 |win c p off n=>
  cases p with
  |nil=>
   simp only[Jw];by_cases e:c=b
   ·subst e
    simp only[VR,hb,hb']at h|-;obtain⟨h0,_,q,ys,a,len,cap,e1,e2,e3,e4⟩:=h;simp only[Gu,AJL,AK7]at e1;obtain⟨rfl,e1⟩:=e1;obtain rfl:=ANi e1;refine⟨h0,by simp[DC],r,rows',a,len,cap,rfl,by omega,?_,e4⟩;grind[Cv]
   grind[VR]
  |cons s p=>
   grind[Jw,VR]
 |Js c p i sz j=>
  cases p with
  |nil=>
   simp only[Jw];by_cases e:c=b
   ·subst e
    simp only[VR,hb,hb']at h|-;obtain⟨h0,_,q,ys,bb,o,len,cap,e1,e2,e3,e4⟩:=h;simp only[Gu,AJL,AK7]at e1;obtain⟨rfl,e1⟩:=e1;obtain rfl:=ANi e1;refine⟨h0,by simp[DC],r,rows',bb,o,len,cap,rfl,by omega,?_,e4⟩;grind[Cv]
   grind[VR]
  |cons s p=>
   grind[Jw,VR]
theorem AHE{E E':Env}{w w':World}{vw vw':List Bx}{b:Nat}(k:∀x v,VR E w vw x v->VR E' w' vw' (Jw b x) v){x:XV}{v:Value}(h:XR E w vw x v):XR E' w' vw' (xA b x) v:=by
 cases x with
 |c x=>exact k x v h
 |agg l=>
  obtain⟨vs,rfl,WN⟩:=h;exact⟨vs,rfl,CX.L3 _ k WN⟩
 |MA l=>
  obtain⟨vs,rfl,WN⟩:=h;refine⟨vs,rfl,CX.L3 _ (fun x v hx=> ?_) WN⟩;cases x with
  |inl x=>exact k x v hx
  |inr q=>
   obtain⟨us,rfl,hus⟩:=hx;exact⟨us,rfl,CX.L3 _ k hus⟩
end Go.Fw
end
section
namespace Go.Fw
theorem tD{w:World}{vw:List Bx}{E:Env}{bx:List Bx}{G:AAc}(h:C0 E w vw bx G)(hw:FB bx vw){d:Nat}(hd:1<=d){q:Ty}{old:q.D}{j:Nat}{x:XV}{v:Value}(hv:XR E w vw x v){bN:q.D}{RF:List Bx}{d':Nat}
  (e:qv d q old j x bx=some (bN,RF,d')):1<=d'/\d'<=d/\ ∃E' F,G4 E w vw bx G E' RF F/\
   ((j=0/\x.plain=false/\Ow w E'.S (d'-1) q v.cells.toList bN F)\/(∃t y,v.cells.toList=[v]/\Ow w E'.S (d'-1) t [v] y F/\Dz q j old t y=some bN/\(x.plain=true->t.scalar=true/\isSlice v=false))):=by
 unfold qv at e;split at e
 ·rename_i l
  split at e
  case isFalse=>cases e
  rename_i hj;obtain⟨vs,rfl,WN⟩:=hv;obtain⟨h1,h2,E',F,h3,h4⟩:=ax h hw hd WN e;exact⟨h1,h2,E',F,h3,.inl ⟨hj,rfl,h4⟩⟩
 ·rename_i x
  split at e
  case h_2=>cases e
  rename_i t y0 hc;simp only[AJa,AJN,ANx]at e;obtain⟨⟨y,kh,d1⟩,e1,row,e2,rfl,rfl,rfl⟩:=e;dsimp only at e2;have aG:VR E w vw x v:=hv;have hk:x.known=true:=by grind[AV.known,fT]
  obtain⟨h1,h2,E',F,h3,h4⟩:=dR h hw hd aG e1;refine⟨h1,h2,E',F,h3,.inr ⟨t,y,by rw[(wJ aG hk).2],h4,e2,fun hp=> ?_⟩⟩;cases x with
  |v u z=>
   simp only[fT,AJN,ANx]at e1;obtain⟨z',e3,_⟩:=e1;obtain⟨rfl,_⟩:=IF e3;obtain⟨hs,hr⟩:=aG;refine⟨hs,?_⟩;cases u<;>simp_all[Ty.scalar,Rd]<;>rfl
  |_=>simp[XV.plain]at hp
 simp_all
theorem sU{f:AV->AV}{bx:List Bx}{b d:Nat}{r:Ty}{rows:List r.D}:(bx.set b (.sl d r rows)).map (Bx.map f)=(bx.map (Bx.map f)).set b (.sl d r rows):=by
 rw[List.map_set];rfl
theorem AGX{f:AV->AV}{bx:List Bx}{n d:Nat}{r:Ty}{rows:List r.D}(h:(bx.map (Bx.map f))[n]? =some (.sl d r rows)):bx[n]? =some (.sl d r rows):=by
 rw[ANd,AJN]at h;obtain⟨B,h1,h2⟩:=h;cases B with
 |mem cs=>simp[Bx.map]at h2
 |sl d' r' rows' =>rw[h1];exact congrArg some h2
 |dead=>simp[Bx.map]at h2
theorem v_{E:Env}{σ:St}{a:Act}{w:World}(h:Rel E σ a w){b i sz j:Nat}{p:List Xv}{va v:Value}(hva:VR E w σ.bx (.Js b p i sz j) va){x:XV}(hv:XR E w σ.bx x v)(h1c:∀u∈v.cells.toList,u.oneCell' =true)
  {σ':St} (e:je σ (.c (.Js b p i sz j)) x=some σ'):
  ∃bb oo E',va= .pointer (some ⟨bb,oo,none⟩)/\w.there bb oo v.cells.toList.length/\Rel E' σ' a (w.setCells bb oo v.cells.toList)/\Rx [b] E σ.bx w E' σ'.bx (w.setCells bb oo v.cells.toList)/\σ'.tm.length=σ.tm.length:=by
 simp only[je]at e;split at e
 case h_2=>cases e
 rename_i d r rows hb;split at e
 case isFalse=>cases e
 rename_i xp;simp only[AJa]at e;obtain⟨⟨q,ys⟩,hg,e⟩:=e;dsimp only at e;split at e
 case isFalse=>cases e
 rename_i K8;simp only[AJa,AJN]at e;obtain⟨⟨bN,bJ,d2⟩,e1,rows',e2,e3⟩:=e;dsimp only at e1 e2 e3;have st:=h.bx.st;simp only[VR,hb]at hva;obtain⟨_,hp,q1,ys1,bb,o,len,cap,g1,hi,g3,rfl⟩:=hva;rw[hg]at g1;simp only[AJL,AK7]at g1;obtain⟨rfl,g1⟩:=g1;obtain rfl:=ANi g1;have IQ:=(AJM.1 hb).1;obtain⟨Gb,⟨hd1,ho⟩,hB⟩:=h.bx.take hb;have Xj:FB (σ.bx.set b .dead) σ.bx:=fun n B hn=>by
  by_cases en:n=b
  ·subst en
   rw[AMq IQ]at hn;exact .inl (by simpa using hn.symm)
  ·rw[ALE (fun h=>en h.symm)]at hn
   exact .inr hn
 obtain⟨hd2,hd3,E1,Fx,k1,hrow⟩:=tD hB Xj (by omega) hv e1;obtain⟨A,W,pG,ho2⟩:=KB (d:=d2+p.length) (by omega) ho;have Xw:=k1.boxes.perm (G':=(Fx++A)++W++[]) (by
  rw[AKX,AKX,AKK];exact APK _ pG)
 obtain⟨hle,hB3⟩:=Xw.share;simp only[AKX]at hB3
 generalize hE3:({ E1 with S:=fun c=>E1.S c\/c∈W,T:=fun c=>E1.T c\/c∈W }:Env)=E3 at hle hB3
 have o6:Le E E3:=k1.le.trans hle;have ho3:Ow w E3.S (d2+p.length) (.sl r) [E.Hi b] rows A:=EP (fun c hc=>by
  subst hE3;exact hc.imp (k1.le.S c) id) (fun _ _=>rfl) (fun _ _=>rfl) ho2
 obtain⟨h',F1,F2,m1,m2,m3,m4⟩:=sw ho3 hp hg (by omega);rw[g3]at m1;cases m1;obtain⟨m,rfl⟩:∃m,d2=m+1:=⟨d2-1,by omega⟩;rw[show m+1+p.length-p.length=m+1 by omega]at m2 m4;simp only[Nat.add_sub_cancel]at hrow;obtain⟨b1,o1,arr,ty,fr,cs,G,R,n1,n2,n3,n4,n5,n6,n7,n8,n9⟩:=xj m2 hi;simp only[AJL,Addr.mk.injEq,AO1]at n1;obtain⟨rfl,rfl⟩:=n1;subst K8;have hAp:A.Perm (G++(bb::R)++F2):=m3.trans (n8.append_right F2);obtain⟨Fs,hFs1,hFs2⟩:=hB3;have hbA:bb∈A:=hAp.mem_iff.2 (by simp);have Tb: ¬E3.T bb:=hFs2.free bb (by simp[hbA]);have qi: ¬E3.S bb:=fun hc=>Tb (hFs2.st bb hc)
 have nd:(Fx++(G++(bb::R)++F2)).Nodup:=(APK Fx hAp).nodup_iff.1 (AKg.1 hFs2.nodup).2.1;have hnx:bb∉Fx:=fun hc=>(AKg.1 nd).2.2 bb hc bb (by simp) rfl
 have hnG:bb∉G:=fun hc=>(AKg.1 (AKg.1 (AKg.1 nd).2.1).1).2.2 bb hc bb (by simp) rfl
 have hnR:bb∉R:=(AS4.1 (AKg.1 (AKg.1 (AKg.1 nd).2.1).1).2.1).1;have hn2:bb∉F2:=fun hc=>(AKg.1 (AKg.1 nd).2.1).2.2 bb (by simp) bb hc rfl
 have pV:j+v.cells.toList.length<=q.n:=by
  rcases hrow with⟨rfl,_,ho4⟩|⟨t,y,hc1,ho4,cl,_⟩
  ·rw[YK ho4];omega
  ·rw[hc1]
   obtain⟨_,y0,hc0⟩:=V_ cl;obtain⟨u,_,_,hu,_⟩:=gX n7 hc0;have:=(AJM.1 hu).1;simp;omega
 have eV:o+i*q.n+j+v.cells.toList.length<=arr.size:=by omega
 let w':=w.setCells bb (o+i*q.n+j) v.cells.toList
 have eZ:∀c,c≠bb->w'.heap[c]? =w.heap[c]?:=fun c hc=>DM _ _ _ _ _ hc
 have vF:∀c,E3.S c->w'.heap[c]? =w.heap[c]?:=fun c hc=>eZ c (fun e=>qi (e▸hc))
 have hb':=FW v.cells.toList (o+i*q.n+j) w bb arr ty fr n2;have bQ:∃gF G' D0,gF.length=q.n/\Be w' bb (o+i*q.n) gF/\Ow w' E3.S m q gF bN G'/\(Fx++G).Perm (G'++D0):=by
  rcases hrow with⟨rfl,_,ho4⟩|⟨t,y,hc1,ho4,cl,_⟩
  ·refine⟨v.cells.toList,Fx,G,YK ho4,OQ n2 eV,EP (fun c hc=>hle.S c hc) (fun c hc=>eZ c (fun e=>qi (e▸hle.S c hc))) (fun c hc=>eZ c (fun e=>hnx (e▸hc))) ho4,ATe _⟩
  ·obtain⟨_,y0,hc0⟩:=V_ cl
   obtain⟨u,K1,K2,z1,z2,z3,z4⟩:=gX n7 hc0;have AXe:bb∉K2:=fun hc=>hnG (z3.mem_iff.2 (by simp[hc]))
   obtain⟨F',f1,f2⟩:=z4 w' E3.S v y Fx bN (fun _ hc=>hc) vF (fun c hc=>eZ c (fun e=>AXe (e▸hc)))
    (EP (fun c hc=>hle.S c hc) (fun c hc=>eZ c (fun e=>qi (e▸hle.S c hc))) (fun c hc=>eZ c (fun e=>hnx (e▸hc))) ho4) cl
   refine⟨cs.set j v,F',K1,by simpa using n5,fun x u' hx=> ?_,f2,?_⟩
   ·rw[List.getElem?_set]at hx
    split at hx
    ·rename_i ejx
     subst ejx;split at hx
     ·cases hx
      have:=OQ (w:=w) (b:=bb) (o:=o+i*q.n+j) (vs:=v.cells.toList) n2 eV 0 v (by rw[hc1];rfl);simpa using this
     ·cases hx
    ·rename_i ejx
     have hold:=n6 x u' hx;rw[Kw n2]at hold;rw[Kw hb',Xn eV,AJD (fun hh=>by rw[hc1]at hh;simp only[AJq,AKx]at hh;omega),hold]
   ·refine(APK Fx z3).trans ?_
    refine List.Perm.trans ?_ (f1.symm.append_right K1)
    rw[AKK];exact APK _ ARl
 obtain⟨gF,G',D0,c1,c2,c3,c4⟩:=bQ;obtain⟨qN,f1,f2⟩:=n9 w' E3.S (E_ arr (o+i*q.n+j) v.cells.toList) gF bN G' (fun _ hc=>hc) vF (fun c hc=>eZ c (fun e=>hnR (e▸hc))) hb' (FV _ _ _) (fun k hk=>by
  rw[Xn eV,AJD (by omega)]) c1 c2 c3
 obtain⟨F',f3,f4⟩:=m4 w' E3.S (ys.set i bN) qN rows' (fun _ hc=>hc) vF (fun c hc=>eZ c (fun e=>hn2 (e▸hc))) f2 e2;have sN:(Fx++A).Perm (F'++D0):=by
  have p1:F'.Perm (G'++(bb::R)++F2):=f3.trans (f1.append_right F2);refine(APK Fx hAp).trans (List.Perm.trans ?_ (p1.symm.append_right D0))
  classical
  rw[List.perm_iff_count];intro c;have h4:=(List.perm_iff_count.1 c4) c;simp only[List.count_append]at h4|-;omega
 have AUG:bb∈F':=(f3.trans (f1.append_right F2)).mem_iff.2 (by simp);have hB4:C0 E3 w σ.bx bJ F':=by
  have:C0 E3 w σ.bx bJ (F'++D0):=C0.perm (G:=Fx++A) ⟨Fs,hFs1,hFs2⟩ sN;exact this.drop
 have oB:bJ.length=σ.bx.length:=by rw[k1.len];simp
 have AQX:bJ[b]? =some .dead:=by
  obtain⟨B,hB⟩:∃B,bJ[b]? =some B:=⟨_,AJA (by omega)⟩;rcases k1.within b B hB with e|e
  ·rw[hB,e]
  ·rw[AMq IQ]at e;rw[hB];exact e.symm
 have hrl:rows'.length=rows.length:=sM hg (by simp) e2;have kT:∀E0,Le E0 E3->G4 E0 w σ.bx σ.bx [] E3 bJ (Fx++A):=fun E0 hl=>⟨hl,oB,fun n B hn=>by
  rcases k1.within n B hn with e|e
  ·exact .inl e
  ·exact(Xj n B e),⟨Fs,hFs1,by simpa using hFs2⟩⟩
 have jj:∀n,E3.Hi n=E.Hi n:=fun n=>by rw[o6.Hi]
 have hww:∀c,c<w.heap.size->c∉Fx++A->w'.heap[c]? =w.heap[c]?:=fun c _ hc=>eZ c (fun e=>hc (by rw[e];simp[hbA]))
 have base:fb E w E3 w':=⟨o6.T,o6.S,o6.Tof,o6.Sof,fun c hc=>eZ c (fun e=>Tb (e▸o6.T c hc)),(B8 _ _ _ _).os,(B8 _ _ _ _).tape,(B8 _ _ _ _).output,(B8 _ _ _ _).size⟩;have finish:∀(f:AV->AV) (g:XV->XV),(∀E0,Le E0 E3->(∀c,E0.S c->E0.T c)-> ∀x v,VR E0 w σ.bx x v->VR E3 w' ((bJ.map (Bx.map f)).set b (.sl (m+1+p.length) r rows')) (f x) v)->
   (∀x v,XR E w σ.bx x v->XR E3 w' ((bJ.map (Bx.map f)).set b (.sl (m+1+p.length) r rows')) (g x) v)->
   Rel E3 { tm:=σ.tm.map g,bx:=(bJ.map (Bx.map f)).set b (.sl (m+1+p.length) r rows') } a w':=by
  intro f g hf hg;refine⟨h.N4,CX.L3 _ hg h.tm,?_⟩;have hT:=hB4.APi (E':=E3) (w':=w') (vw':=(bJ.map (Bx.map f)).set b (.sl (m+1+p.length) r rows')) f (hf E3 (Le.refl _) hFs2.st) (fun _ h=>h) (fun _ _=>rfl) (fun _ _=>rfl) (fun c hc _=>eZ c (fun e=>by
    rcases hc with hc|hc
    ·exact qi (e▸hc)
    ·exact hc.2 (by rw[e];exact AUG))) (fun F hF=>⟨hF.nodup,hF.free,fun c hc=>by rw[DW];exact hF.lt c hc,hF.st,fun c hc=>by rw[DW];exact hF.cI c hc,hF.tu.mono (fun _ h=>h) (fun c hc=>eZ c (fun e=>Tb (e▸hc)))⟩)
  refine C0.put (F:=F') (G:=[]) (by simpa using hT) (by rw[ANd,AQX];rfl) ⟨by omega,?_⟩;rw[jj];exact f4
 have AHs:∀f:AV->AV,Rx [b] E σ.bx w E3 ((bJ.map (Bx.map f)).set b (.sl (m+1+p.length) r rows')) w':=fun f=>⟨base,by simp[oB],fun n _=>⟨by rw[o6.Hg],jj n⟩,fun n hn=>by
  have qY:n≠b:=fun e=>by subst e;rw[hb]at hn;cases hn
  have wu:=(AJM.1 hn).1;rw[ALE (fun e=>qY e.symm),ANd];obtain⟨B,hB⟩:∃B,bJ[n]? =some B:=⟨_,AJA (by omega)⟩;have hBd:B= .dead:=by
   rcases(kT E o6).within n B hB with e|e
   ·exact e
   ·rw[hn]at e;cases e;rfl
  rw[hB,hBd];rfl,fun n B B' qY hB Ti hnd=>by
  simp at qY;have wu:=(AJM.1 hB).1;rw[ALE (fun e=>qY e.symm),ANd]at Ti;obtain⟨B2,Xw⟩:∃B2,bJ[n]? =some B2:=⟨_,AJA (by omega)⟩;rw[Xw]at Ti;have Ti:Bx.map f B2=B':=by simpa using Ti
  have hBB:B2=B:=by
   rcases(kT E o6).within n B2 Xw with e|e
   ·subst e;exact absurd Ti.symm hnd
   ·rw[hB]at e;cases e;rfl
  subst hBB;refine⟨?_,fun c hc=>eZ c (fun e=> ?_)⟩
  ·subst Ti
   cases B2 with
   |mem cs=>trivial
   |sl d r rows=>rfl
   |dead=>exact absurd rfl hnd
  ·have hF:Fs[n]? =some (Fs[n]'(by have:=(AJM.1 Xw).1;rw[hFs1.1];exact this)):=AJA _
   have eY:BRB E3 w n B2 c:=by
    cases B2 with
    |mem cs=>simp only[BRB]at hc|-;rw[o6.Hg];exact hc
    |sl d r rows=>simp only[BRB]at hc|-;rw[jj];exact hc
    |dead=>exact hc
   rcases gh (hFs1.2 n B2 _ Xw hF) eY with hs|hs
   ·exact qi (e▸hs)
   ·exact(AKg.1 hFs2.nodup).2.2 c (ANa.2 ⟨_,ALA hF,hs⟩) bb (by simp[hbA]) e⟩
 refine⟨bb,o+i*q.n+j,E3,rfl,WI (k:=0) n2 eV n3,?_,?_,?_⟩
 ·split at e3
  ·rename_i APf
   have h0:∀E0,Le E0 E3->(∀c,E0.S c->E0.T c)->Tk E0 w σ.bx E3 w' (bJ.set b (.sl (m+1+p.length) r rows')):=by
    intro E0 hl st0;refine dU b (kT E0 hl) st0 (by simp[oB]) (fun n d r rows hn _ hq=>by
      rw[ALE (fun e=>hn e.symm)]at hq;exact hq) (fun _ _=>rfl) (fun _ _=>rfl) rfl rfl hww (fun d0 r0 Sh hq=> ?_)
    rw[AMq (by omega)]at hq;simp only[AJL,Bx.sl.injEq]at hq;obtain⟨rfl,rfl,hq⟩:=hq;obtain rfl:=ANi hq;refine⟨d,rows,hb,fun p' hp' q' zs hg' => ?_⟩;rcases hrow with⟨_,hpf,_⟩|⟨t,y,hc1,ho4,cl,hsc⟩
    ·rw[APf]at hpf;cases hpf
    obtain⟨hs1,hs2⟩:=hsc APf;have hk:=oW hs1 hp hg hi cl e2 hp' q' zs hg';refine⟨hk.1,hk.2,fun hh hhe=> ?_⟩;rw[jj];rw[<-hl.Hi,jj]at hhe;refine uy (fun Ad=> ?_) (ZJ f4) hk.1 hhe;by_cases eA:Ad.block=bb/\Ad.spot=none/\Ad.off=o+i*q.n+j
    ·right
     obtain⟨ab,ao,asp⟩:=Ad;simp only at eA;rw[eA.1,eA.2.1,eA.2.2];refine⟨v,?_,hs2⟩;have:=OQ (w:=w) (b:=bb) (o:=o+i*q.n+j) (vs:=v.cells.toList) n2 eV 0 v (by rw[hc1];rfl);simpa using this
    ·left
     refine World.cell?_setCells_out bb v.cells.toList (o+i*q.n+j) w Ad (fun q1 q2=> ?_)
     rw[hc1];simp only[AJq,AKx];have:Ad.off≠o+i*q.n+j:=fun q3=>eA ⟨q1,q2,q3⟩
     omega
   have:=finish id id (fun E0 hl st0 x v hx=>by rw[bX];exact GB (h0 E0 hl st0) hx) (fun x v hx=>by rw[bX];exact Pc (h0 E o6 st) hx);rw[bX,ATo]at this;rw[<-e3];exact this
  ·have h0:∀E0,Le E0 E3->(∀c,E0.S c->E0.T c)-> ∀x v,VR E0 w σ.bx x v->VR E3 w' ((bJ.map (Bx.map (Jw b))).set b (.sl (m+1+p.length) r rows')) (Jw b x) v:=by
    intro E0 hl st0 x v hx;have keep:Tk E0 w σ.bx E3 w' (((bJ.map (Bx.map (Jw b))).set b (.sl (m+1+p.length) r rows')).set b .dead):=by
     refine dU b (kT E0 hl) st0 (by simp[oB]) (fun n d r rows hn _ hq=>by
      rw[ALE (fun e=>hn e.symm),ALE (fun e=>hn e.symm)]at hq;exact AGX hq) (fun _ _=>rfl) (fun _ _=>rfl) rfl rfl hww (fun d0 r0 Sh hq=> ?_)
     rw[AMq (by simp;omega)]at hq;cases hq
    exact AFQ keep hb (by rw[AMq (by simp;omega)]) hrl (by rw[hl.Hi]) hx
   have:=finish (Jw b) (xA b) h0 (fun x v hx=>AHE (h0 E o6 st) hx);rw[<-e3];simp only[St.ACL];rw[oA,sU];exact this
 ·rw[<-e3]
  split
  ·have:=AHs id
   rw[bX]at this;exact this
  ·simp only[St.ACL]
   rw[oA,sU];exact AHs _
 ·rw[<-e3]
  split<;>simp[St.ACL]
end Go.Fw
end
section
namespace Go.Fw
theorem gi{w w':World}{B B':Nat->Prop}:∀{r:Ty} {cs:List Value} {x:r.D},r.flat=true->Rd w B r cs x->Rd w' B' r cs x
 | .cons c r,cs,x,h,hr=>by
  simp only[Ty.flat,AJR]at h;simp only[Rd]at hr|-;obtain⟨v,l,rfl,h1,h2⟩:=hr;exact⟨v,l,rfl,gi h.1 h1,gi h.2 h2⟩
 | .unit,_,_,_,hr=>by grind[Rd]
 | .int k,_,_,_,hr=>by grind[Rd]
 | .bool,_,_,_,hr=>by grind[Rd]
 | .str,_,_,_,hr=>by grind[Rd]
 | .sl q,_,_,h,_=>by simp[Ty.flat]at h
theorem fR{w:World}{S:Nat->Prop}{d:Nat}:∀{r:Ty} {cs:List Value} {y:r.D} {F:AAc},r.flat=true->Ow w S d r cs y F->F=[]
 | .int k,_,_,_,_,h=>by grind[Ow]
 | .bool,_,_,_,_,h=>by grind[Ow]
 | .str,_,_,_,_,h=>by grind[Ow]
 | .unit,_,_,_,_,h=>by grind[Ow]
 | .cons c r,_,_,_,hf,h=>by
  simp only[Ty.flat,AJR]at hf;simp only[Ow]at h;obtain⟨v,l,F1,F2,_,rfl,h1,h2⟩:=h;rw[fR hf.1 h1,fR hf.2 h2];rfl
 | .sl q,_,_,_,hf,_=>by simp[Ty.flat]at hf
theorem zk{w w':World}{S S':Nat->Prop}{d d':Nat}{r:Ty}(hr:r.flat=true){cs:List Value}{y:r.D}{F:AAc}(h:Ow w S d r cs y F):F=[]/\cs.length=r.n/\Ow w' S' d' r cs y []:=
 ⟨fR hr h,YK h,lO hr (gi (B':=fun _=>False) hr (ZJ h))⟩
theorem kK:∀{r:Ty} {j:Nat} {x:r.D} {t:Ty} {y:t.D},r.flat=true->BS r j x=some ⟨t,y⟩->t.flat=true
 | .cons c r,0,x,t,y,h,e=>by
  simp only[Ty.flat,AJR]at h;simp only[BS,AJL,AK7]at e;simp_all
 | .cons c r,j+1,x,t,y,h,e=>by
  simp only[Ty.flat,AJR]at h;simp only[BS]at e;exact kK h.2 e
 | .unit,_,_,_,_,_,e=>by simp[BS]at e
 | .int k,0,x,t,y,_,e=>by simp only[BS,AJL,AK7]at e;simp_all
 | .bool,0,x,t,y,_,e=>by simp only[BS,AJL,AK7]at e;simp_all
 | .str,0,x,t,y,_,e=>by simp only[BS,AJL,AK7]at e;simp_all
 | .sl _,_,_,_,_,h,_=>by simp[Ty.flat]at h
 | .int _,_+1,_,_,_,_,e=>by simp[BS]at e
 | .bool,_+1,_,_,_,_,e=>by simp[BS]at e
 | .str,_+1,_,_,_,_,e=>by simp[BS]at e
theorem ADY{r:Ty}(hr:r.flat=true){rows:List r.D}:∀{p:List Xv},DC r rows p->p=[]
 |[],_=>rfl
 |s::p,h=>by
  simp only[DC]at h;obtain⟨_,_,h⟩:=h;exfalso;cases hc:BS r s.j (rowAt r rows s.i)with
  |none=>simp_all
  |some tx=>
   obtain⟨t,x⟩:=tx;have hf:=kK hr hc;grind[Ty.flat]
theorem flatten_nil{l:List AAc}(h:∀x∈l,x=[]):l.flatten=[]:=by
 simp_all;omega
theorem ADZ{E:Env}{σ:St}{a:Act}{w:World}(h:Rel E σ a w){b d off n:Nat}{r:Ty}{rows:List r.D}(hb:σ.bx[b]? =some (.sl d r rows))(hr:r.flat=true)(hgd:r.o5=true)(hk:0<r.n)(hl:off+n<=rows.length)(hn:0<n):
  ∃bb o cap,E.Hi b= .slice (some ⟨bb,o,none⟩) rows.length cap/\rows.length<=cap/\w.there bb (o+off*r.n) (n*r.n)/\
   Rel E { σ with bx:=σ.bx.set b (.sl d r ((rows.take off++List.replicate n r.z)++rows.drop (off+n))) } a (w.setCells bb (o+off*r.n) (List.replicate n (Ek r)).flatten)/\
   Rx [b] E σ.bx w E (σ.bx.set b (.sl d r ((rows.take off++List.replicate n r.z)++rows.drop (off+n)))) (w.setCells bb (o+off*r.n) (List.replicate n (Ek r)).flatten):=by
 have st:=h.bx.st;obtain⟨F,⟨hd,ho⟩,hB⟩:=h.bx.take hb;simp only[AKX]at hB;have IQ:=(AJM.1 hb).1;obtain⟨d',rfl⟩:∃m,d=m+1:=⟨d-1,by omega⟩;simp only[Ow]at ho;obtain⟨ad,cap,hh,AAs,ho⟩:=ho;simp only[AL9,AO1]at hh;rcases ho with⟨rfl,_⟩|⟨bb,o,arr,ty,fr,Fs,rfl,ha,K8,hu,rfl,hFl,cA⟩
 ·omega
 have hFn:List.flatten Fs=[]:=flatten_nil fun x hx=>by
  obtain⟨i,hi,hxi⟩:=AOq hx;obtain⟨cs,_,_,h3⟩:=cA i (rows[i]'(by omega)) x (AJA _) (by rw[AJA hi,hxi]);exact(zk (w':=w) (S':=E.S) (d':=0) hr h3).1
 rw[hFn]at hB;have hzl:(Ek r).length=r.n:=Gr r;have hvl:((List.replicate n (Ek r)).flatten).length=n*r.n:=by rw[FP,hzl]
 have hm1:(off+n)*r.n<=cap*r.n:=ALR _ (by omega);have hm2:(off+n)*r.n=off*r.n+n*r.n:=APH ..;have eV:o+off*r.n+((List.replicate n (Ek r)).flatten).length<=arr.size:=by omega
 generalize WN:(List.replicate n (Ek r)).flatten=vs at hvl eV
 refine⟨bb,o,cap,hh,AAs,WI ha (by omega) hu,?_⟩;have Tb: ¬E.T bb:=hB.AGV _ (by simp);have hB0:=hB;have eZ:∀c,c≠bb->(w.setCells bb (o+off*r.n) vs).heap[c]? =w.heap[c]?:=fun c hc=>DM _ _ _ _ _ hc
 have hw:∀c,c<w.heap.size->c∉[bb]->(w.setCells bb (o+off*r.n) vs).heap[c]? =w.heap[c]?:=fun c _ hc=>eZ c (by simpa using hc)
 have kT:G4 E w σ.bx σ.bx [] E (σ.bx.set b .dead) [bb]:=⟨Le.refl _,by simp,fun n B hn=>by
  by_cases en:n=b
  ·subst en
   rw[AMq IQ]at hn;exact .inl (by simpa using hn.symm)
  ·rw[ALE (fun h=>en h.symm)]at hn
   exact .inr hn,by simpa using hB⟩
 generalize AAw:(rows.take off++List.replicate n r.z)++rows.drop (off+n)=rows'
 have AJ4:rows'.length=rows.length:=by
  rw[<-AAw];simp;omega
 have keep:Tk E w σ.bx E (w.setCells bb (o+off*r.n) vs) (σ.bx.set b (.sl (d'+1) r rows')):=dU b kT st (by simp) (fun n d r rows hn _ hq=>by
   rw[ALE (by omega)]at hq|-;exact hq) (fun _ _=>rfl) (fun _ _=>rfl) rfl rfl hw (fun d1 r1 AKO hq=>by
   rw[AMq IQ]at hq;simp only[AJL,Bx.sl.injEq]at hq;obtain⟨rfl,rfl,hq⟩:=hq;obtain rfl:=ANi hq;refine⟨d'+1,rows,hb,fun p hp q ys hg=> ?_⟩;obtain rfl:=ADY hr hp;simp only[Gu,AJL,AK7]at hg;obtain⟨rfl,hg⟩:=hg;obtain rfl:=ANi hg;exact⟨by simp[DC],⟨rows',by simp[Gu],AJ4⟩,fun h' hh' =>hh'⟩)
 refine⟨⟨h.N4,h.tm.imp fun _ _ hq=>Pc keep hq,?_⟩,⟨⟨fun _ h=>h,fun _ h=>h,fun _ h=> .inl h,fun _ h=> .inl h,fun c hc=>eZ c (fun e=>Tb (e▸hc)),(B8 _ _ _ _).os,(B8 _ _ _ _).tape,(B8 _ _ _ _).output,(B8 _ _ _ _).size⟩,by simp,fun _ _=>⟨rfl,rfl⟩,fun n hn=>by
  rw[ALE (fun e=>by subst e;rw[hb]at hn;cases hn)];exact hn,fun n B B' qY hB Ti hnd=>by
  simp at qY;rw[ALE (fun e=>qY e.symm),hB]at Ti;cases Ti;refine⟨WQ.refl hnd,fun c hc=>eZ c (fun e=> ?_)⟩;obtain⟨Fs,⟨f1,f2⟩,f3⟩:=hB0;have Xw:(σ.bx.set b .dead)[n]? =some B:=by rw[ALE (fun e=>qY e.symm)];exact hB
  have hF:Fs[n]? =some (Fs[n]'(by have:=(AJM.1 Xw).1;omega)):=AJA _;rcases gh (f2 n B _ Xw hF) hc with hs|hs
  ·exact Tb (e▸st c hs)
  ·exact(AKg.1 f3.nodup).2.2 c (ANa.2 ⟨_,ALA hF,hs⟩) bb (by simp) e⟩⟩
 have hT:=hB.turn (E':=E) (w':=w.setCells bb (o+off*r.n) vs) (vw':=σ.bx.set b (.sl (d'+1) r rows')) (fun x v hq=>GB keep hq) (fun _ h=>h) (fun _ _=>rfl) (fun _ _=>rfl) (fun c hc _=>eZ c (fun e=>by
   rcases hc with hc|hc
   ·exact Tb (e▸st c hc)
   ·exact hc.2 (by simp[e]))) (fun F hF=>⟨hF.nodup,hF.free,fun c hc=>by rw[DW];exact hF.lt c hc,hF.st,fun c hc=>by rw[DW];exact hF.cI c hc,hF.tu.mono (fun _ h=>h) (fun c hc=>eZ c (fun e=>Tb (e▸hc)))⟩)
 have AFZ:tP E (w.setCells bb (o+off*r.n) vs) (σ.bx.set b (.sl (d'+1) r rows')) b (.sl (d'+1) r rows') [bb]:=by
  refine⟨hd,?_⟩;simp only[Ow];refine⟨_,cap,by rw[hh,AJ4],by omega,.inr ⟨bb,o,E_ arr (o+off*r.n) vs,ty,fr,List.replicate rows'.length [],rfl,FW _ _ _ _ _ _ _ ha,by rw[FV];omega,by rw[FV];exact hu,by simp,by simp,fun i y G hy hG=> ?_⟩⟩;have hG':G=[]:=AO7 (ALA hG);subst hG';have hil:i<rows.length:=by have:=(AJM.1 hy).1;omega
  by_cases Pu:off<=i/\i<off+n
  ·have hyz:y=r.z:=by
    rw[<-AAw,AKW (by simp;omega),ALb (by simp;omega)]at hy;exact AO7 (ALA hy)
   subst hyz;refine⟨Ek r,hzl,fun j v hj=> ?_,ga hgd⟩;have yV:j<r.n:=by have:=(AJM.1 hj).1;omega
   have e1:(i-off)*r.n=i*r.n-off*r.n:=ASQ ..;have e2:off*r.n<=i*r.n:=ALR _ Pu.1;have e3:(i-off+1)*r.n<=n*r.n:=ALR _ (by omega);rw[APH,Nat.one_mul]at e3;have:=OQ ha eV ((i-off)*r.n+j) v (by
    rw[<-WN,NV (by rw[hzl];omega),hzl,Nat.mul_comm (i-off),Nat.mul_add_mod,Nat.mod_eq_of_lt yV];exact hj)
   rw[show o+off*r.n+((i-off)*r.n+j)=o+i*r.n+j by omega]at this;exact this
  ·have hyo:rows[i]? =some y:=by
    rw[<-AAw]at hy;by_cases h1:i<off
    ·rw[AKW (by simp;omega),AKW (by simp;omega),ARw,AI9 h1]at hy
     exact hy
    ·rw[ALb (by simp;omega),AP4]at hy
     rw[<-hy];congr 1;simp;omega
   obtain⟨cs,c1,c2,c3⟩:=cA i y (Fs[i]'(by omega)) hyo (AJA _);obtain⟨_,c4,c5⟩:=zk (w':=w.setCells bb (o+off*r.n) vs) (S':=E.S) (d':=d') hr c3;refine⟨cs,c4,VC c2 ha eV (.inr ?_),c5⟩;by_cases h1:i<off
   ·have:(i+1)*r.n<=off*r.n:=ALR _ h1
    rw[APH,Nat.one_mul]at this;omega
   ·have:(off+n)*r.n<=i*r.n:=ALR _ (by omega)
    omega
 have:=C0.put (b:=b) (B:= .sl (d'+1) r rows') (F:=[bb]) (G:=[]) (by simpa using hT) (by rw[AMq IQ]) AFZ;rw[ATJ]at this;exact this
section
variable{Y:Type} {P:Program} {T:JR} (hT:ES P T) {o:Oper} {E:Env} {σ:St} {a:Act} {w:World} {k:K Y} {y:Y}
include hT
theorem AAt(h:Rel E σ a w){c:Call}{x:XV}(ho:o.op= .call c)(hc:c.callee= .builtin .clear)(IV:c.args.toList.map σ.ev=[x])(e:nA T c.argTypes σ x k=some y)
  (AXK:∀b p off n,x= .c (.win b p off n)->KP (fun _=>none) σ o.op=[b]):∃v w' E' xv σ',((execOp a.eval o).run P w= .ok (.value v) w'\/((execOp a.eval o).run P w= .ok .skip w'/\v=undef))/\Rel E' σ' a w'/\XR E' w' σ'.bx xv v/\
   Rx (KP (fun _=>none) σ o.op) E σ.bx w E' σ'.bx w'/\σ'.tm.length=σ.tm.length/\k xv σ' =some y:=by
 obtain⟨o1,hargs',rfl⟩:=Yn IV;have eE:=h.ev o1;unfold nA at e;split at e
 case h_2=>cases e
 rename_i t b off n ht hx;rw[hx]at eE;rw[AXK b [] off n hx];split at e
 case h_2=>cases e
 rename_i d r rows hb;split at e
 case isFalse=>cases e
 rename_i U0;rw[AJR]at U0;obtain⟨U0,hr⟩:=U0;rw[AJR,AJr]at hr;obtain⟨hr,hk⟩:=hr;obtain⟨el,ti,hu,V9,hs,hby,hrow⟩:=KR hT U0;obtain⟨i,z,i1,i2,i3,i4,i5,hg⟩:=Xx hT V9 hrow;have bu:VR E w σ.bx (.win b [] off n) (a.eval o1):=eE;simp only[VR,hb]at bu;obtain⟨_,_,q,ys,ad,len,cap,hgp,hl,hh,hv⟩:=bu;simp only[Gu,AJL,AK7]at hgp;obtain⟨rfl,hgp⟩:=hgp;obtain rfl:=ANi hgp;simp only[I1,AJL]at hh;by_cases hn:n=0
 ·subst hn
  have AS5:(rows.take off++List.replicate 0 r.z)++rows.drop (off+0)=rows:=by simp
  rw[AS5]at e;have cl:σ.bx.set b (.sl d r rows)=σ.bx:=by
   apply ASB;grind
  rw[cl]at e;refine⟨.tuple #[],w,E,.c .undef,σ,.inl ?_,h,trivial,Rx.refl _ _ _ _,rfl,e⟩;have hz:∃a' c',a.eval o1= .slice a' 0 c':=⟨_,_,by rw[hv];rfl⟩;obtain⟨a',c',hz⟩:=hz;simp only[execOp,ho,resolve,hc,hargs',invoke,builtin,Sem.run_bind,Sem.run_pure,Result.andThen_ok,List.map_toArray,APX,ASr,Builtin.clear_,ht,hz];cases a'<;>simp[Bb hu]
 ·obtain⟨bb,oo,cap',g1,g2,g3,g4,g5⟩:=ADZ h (d:=d) hb hr hg hk hl (by omega)
  rw[g1]at hh;simp only[Value.slice.injEq]at hh;obtain⟨rfl,rfl,rfl⟩:=hh;have aG:a.eval o1= .slice (some ⟨bb,oo+off*r.n,none⟩) n (cap'-off):=by
   rw[hv];unfold WV;rw[AJD (by omega)];simp[Addr.add]
  refine⟨.tuple #[],_,E,.c .undef,_,.inl ?_,g4,trivial,g5,rfl,e⟩;have hz:(Builtin.zeroCells z.cells n).toList=(List.replicate n (Ek r)).flatten:=by
   grind[Builtin.zeroCells,Ek,Xc,Gr]
  have h1:∀v∈(List.replicate n (Ek r)).flatten,v.oneCell' =true:=fun v hv=>by
   obtain⟨l,hl1,hl2⟩:=ANa.1 hv;rw[AO7 hl1]at hl2;exact mn (w:=w) (S:=E.S) (d:=0) (ga hg) v hl2
  have hvl:((List.replicate n (Ek r)).flatten).length=n*r.n:=by rw[FP,Gr]
  have tY:=run_storeCells_cells (P:=P) bb (oo+off*r.n) (List.replicate n (Ek r)).flatten 0 w (fun j hj=>by simpa using(g3 j (by omega)).1) (fun j hj=>by simpa using(g3 j (by omega)).2) h1;rw[APL]at tY;obtain⟨n',rfl⟩:∃n',n=n'+1:=⟨n-1,by omega⟩;simp only[execOp,ho,resolve,hc,hargs',invoke,builtin,Sem.run_bind,Sem.run_pure,Result.andThen_ok,List.map_toArray,APX,ASr,Builtin.clear_,ht,aG];simp[Bb hu,zeroValue,typeInfo,i1,i4,hz,tY]
end
end Go.Fw
end
section
namespace Go.Fw
theorem rf{E:Env}{w:World}{vw:List Bx}:∀{l:List XV} {bs:AAc} {vs:List Value},zE l=some bs->CX (XR E w vw) l vs->(∀b∈bs,b<vw.length)/\vs=bs.map fun b=>Value.pointer (some ⟨E.Hg b,0,none⟩)
 |[],bs,vs,e,h=>by
  simp only[zE,AJL]at e;subst e;cases vs with
  |nil=>simp_all
  |cons _ _=>exact h.elim
 |x::l,bs,vs,e,h=>by
  unfold zE at e;split at e
  ·simp_all
  ·rename_i b l' heq
   cases heq;simp only[AJN]at e;obtain⟨r,e1,rfl⟩:=e;cases vs with
   |nil=>exact h.elim
   |cons v vs=>
    obtain⟨h1,h2⟩:=h;obtain⟨k1,k2⟩:=rf e1 h2;obtain⟨h3,h4⟩:b<vw.length/\v= .pointer (some ⟨E.Hg b,0,none⟩):=h1;simp_all
  simp_all
theorem evs{E:Env}{σ:St}{a:Act}{w:World}(h:Rel E σ a w):∀l:List Operand,CX (XR E w σ.bx) (l.map σ.ev) (l.map a.eval)
 |[]=>trivial
 |x::l=>⟨h.ev x,evs h l⟩
theorem ACC{E:Env}{σ:St}{a:Act}{w:World}(h:Rel E σ a w):∀o:Option Operand,OR E w σ.bx (o.map σ.ev) (o.map a.eval)
 |none=>trivial
 |some x=>h.ev x
theorem zj{w:World}{S:Nat->Prop}:∀{p:List Xv} {d:Nat} {r:Ty} {h:Value} {rows:List r.D} {F:AAc} {q:Ty} {ys:List q.D} {v:Value},Ow w S d (.sl r) [h] rows F->DC r rows p->
  Gu r rows p=some ⟨q,ys⟩->d<=p.length->I1 w h p=some v->Rd w S (.sl q) [v] ys
 |p,0,r,h,rows,F,q,ys,v,ho,hp,hg,_,hv=>by
  simp only[Ow]at ho;obtain⟨h',k,hr⟩:=qJ ho.1 hp hg;simp_all
 |[],d+1,r,h,rows,F,q,ys,v,ho,hp,hg,hd,hv=>by simp_all
 |s::p,d+1,r,h,rows,F,q,ys,v,ho,hp,hg,hd,hv=>by
  simp only[DC]at hp;obtain⟨hi,K8,hp⟩:=hp;simp only[Gu]at hg;obtain⟨a,len,cap,rfl⟩:∃a len cap,h= .slice a len cap:=by
   have:=ho;simp only[Ow]at this;grind
  split at hg
  case h_2=>cases hg
  rename_i q' x' jN;rw[jN]at hp;obtain⟨b,o,arr,ty,fr,cs,G,R,rfl,hb,hu,hbd,c1,c2,c3,sN,hback⟩:=xj ho hi;obtain⟨u,A1,A2,k1,k2,k3,k4⟩:=gX c3 jN;simp only[I1]at hv;rw[K8,c2 _ _ k1]at hv;exact zj k2 hp hg (by simp_all) hv
theorem AB2{E:Env}{σ:St}{a:Act}{w:World}(h:Rel E σ a w){b i sz j:Nat}{p:List Xv}{va v:Value}(hva:VR E w σ.bx (.Js b p i sz j) va){x:XV}(hv:XR E w σ.bx x v)(h1c:∀u∈v.cells.toList,u.oneCell' =true)
  {σ':St} (e:Lv σ (.c (.Js b p i sz j)) x=some σ'):
  ∃bb oo E',va= .pointer (some ⟨bb,oo,none⟩)/\w.there bb oo v.cells.toList.length/\Rel E' σ' a (w.setCells bb oo v.cells.toList)/\Rx [b] E σ.bx w E' σ'.bx (w.setCells bb oo v.cells.toList)/\σ'.tm.length=σ.tm.length:=by
 unfold Lv bM at e;split at e
 ·rename_i b0 _ _ _ _ b' s p' off n heq
  cases heq;split at e
  case isFalse=>cases e
  rename_i hbb;subst hbb;split at e
  case h_2=>cases e
  rename_i d r rows hb;simp only[AJa,AJN]at e;obtain⟨q,⟨⟨q0,ys⟩,hg,rfl⟩,e⟩:=e;dsimp only at e;have IQ:=(AJM.1 hb).1;obtain⟨F,⟨hd1,ho⟩,hB⟩:=h.bx.take hb;obtain⟨A,W,pF,ho2⟩:=KB (d:=min d (p'.length+1)) (by omega) ho;have Xw:=hB.perm (G':=A++W++[]) (by simp_all);obtain⟨hle,hB3⟩:=Xw.share
  generalize hE1:({ E with S:=fun c=>E.S c\/c∈W,T:=fun c=>E.T c\/c∈W }:Env)=E1 at hle hB3
  have ho3:Ow w E1.S (min d (p'.length+1)) (.sl r) [E1.Hi b'] rows A:=by
   rw[hle.Hi];grind
  have hB4:=hB3.put (b:=b') (B:= .sl (min d (p'.length+1)) r rows) (by simp_all) ⟨by omega,ho3⟩;rw[ATJ]at hB4;have hk:Tk E w σ.bx E1 w (σ.bx.set b' (.sl (min d (p'.length+1)) r rows)):=by
   refine⟨by simp,fun _ _=>by rw[hle.Hg],hle.T,hle.S,h.bx.st,fun _ _=>rfl,fun c d' r' rows' hc e=> ?_⟩;by_cases hcb:b' =c
   ·subst hcb
    rw[AMq IQ]at e;simp only[AJL,Bx.sl.injEq]at e;obtain⟨rfl,rfl,e⟩:=e;obtain rfl:=ANi e;exact⟨d,rows,hb,fun p hp q ys hg=>⟨hp,⟨ys,hg,rfl⟩,fun h' hh=>by rw[hle.Hi];omega⟩⟩
   ·rw[ALE hcb]at e
    exact⟨d',rows',e,fun p hp q ys hg=>⟨hp,⟨ys,hg,rfl⟩,fun h' hh=>by rw[hle.Hi];omega⟩⟩
  have eE:VR E w σ.bx (.win b' (s::p') off n) v:=hv;have bu:XR E1 w (σ.bx.set b' (.sl (min d (p'.length+1)) r rows)) (.c (.sl true q0 ((ys.drop off).take n))) v:=by
   simp only[VR,hb]at eE;obtain⟨_,hp,q1,ys1,a1,len,cap,g1,g2,g3,rfl⟩:=eE;rw[hg]at g1;simp only[AJL,AK7]at g1;obtain⟨rfl,g1⟩:=g1;obtain rfl:=ANi g1;have:=zj ho3 hp hg (by grind) (by rw[hle.Hi];omega);exact AA5 this g2
  have hr:Rel E1 { σ with bx:=σ.bx.set b' (.sl (min d (p'.length+1)) r rows) } a w:=
   ⟨h.N4,h.tm.imp fun _ _ hx=>Pc hk hx,hB4.turn (E':=E1) (w':=w) (fun _ _ hv=>GB ⟨by simp,fun _ _=>rfl,fun _ h=>h,fun _ h=>h,hB3.st,fun _ _=>rfl,fun c d' r' rows' hc e=>by
    grind⟩ hv) (fun _ h=>h) (fun _ _=>rfl) (fun _ _=>rfl) (fun _ _ _=>rfl) fun F hF=>hF⟩
  obtain⟨bb,oo,E',q1,q2,q3,q4,q5⟩:=v_ hr (GB hk hva) bu h1c e;refine⟨bb,oo,E',q1,q2,q3,⟨(hle.base w).trans q4.base,by simpa using q4.len,fun c hc=> ?_,fun c hc=> ?_,fun c B B' hct hB Ti hd=> ?_⟩,q5⟩
  ·have:=q4.ids c (by simp_all)
   exact⟨this.1.trans (by rw[hle.Hg]),this.2.trans (by rw[hle.Hi])⟩
  ·refine q4.dead c ?_
   grind
  ·have hcb:b'≠c:=fun e=>hct (by simp[e])
   obtain⟨f1,f2⟩:=q4.frame c B B' hct (by simp_all) Ti hd;refine⟨f1,fun c' eY=>f2 c' ?_⟩;cases B with
   |mem cs=>exact eY.trans (by rw[hle.Hg])
   |sl d0 r0 Sh=>simp only[BRB]at eY|-;rw[hle.Hi];omega
   |dead=>exact eY
 grind[v_]
def tH:Op->Bool
 | .call { callee:= .value _,.. }=>true
 |_=>false
section
variable{Y:Type} {P:Program} {T:JR} (hT:ES P T) {o:Oper} {E:Env} {σ:St} {a:Act} {w:World} {k:K Y} {y:Y}
include hT
theorem ABN(h:Rel E σ a w){t:TypeId}{oa ox:Operand}(ho:o.op= .store t oa ox){ti:TI}(V9:T.get t=some ti)
  (hc:(σ.ev ox).cells.length=ti.size/\ti.size≠0/\(σ.ev ox).cells.all AV.known=true) {σ':St} (hs:Lv σ (σ.ev oa) (σ.ev ox)=some σ') (e:k (.c .undef) σ' =some y):Lo P o E σ a w k y:=by
 obtain⟨c1,c2,c3⟩:=hc;have WJ:(σ.ev ox).cells≠[]:=fun hh=>by simp_all
 obtain⟨WN,h1c⟩:=q9 (h.ev ox) c3 WJ;have hlen:(a.eval ox).cells.toList.length=ti.size:=by rw[<-CX.len WN];omega
 have hi:(P.info? t).map (·.size)=some (a.eval ox).cells.toList.length:=by grind[ES.size]
 have hva:=h.ev oa;have fin:∀{bb oo:Nat} {E':Env},a.eval oa= .pointer (some ⟨bb,oo,none⟩)->w.there bb oo (a.eval ox).cells.toList.length->Rel E' σ' a (w.setCells bb oo (a.eval ox).cells.toList)->
   Rx (KP (fun _=>none) σ o.op) E σ.bx w E' σ'.bx (w.setCells bb oo (a.eval ox).cells.toList)->σ'.tm.length=σ.tm.length->Lo P o E σ a w k y:=by
  intro bb oo E' e1 e2 e3 e4 e5;have hr:=qI (P:=P) e2 hi h1c;refine⟨undef,_,E',.c .undef,σ',.inr ⟨?_,rfl⟩,e3,trivial,e4,e5,e⟩;grind[execOp,Sem.run_bind,Result.andThen_ok,Sem.run_pure]
 generalize hxa:σ.ev oa=xa at hs hva
 cases xa with
 |agg l=>simp[Lv,bM,je]at hs
 |MA l=>simp[Lv,bM,je]at hs
 |c x=>
  cases x with
  |IX b j=>
   simp only[Lv,bM,AKD,je]at hs;split at hs
   case h_2=>cases hs
   rename_i cs hb;simp only[AJN]at hs;obtain⟨gF,hs,rfl⟩:=hs;have AT7:b<σ.bx.length/\a.eval oa= .pointer (some ⟨E.Hg b,j,none⟩):=hva;obtain⟨q1,q2,q3⟩:=ADh h hb WN WJ hs;exact fin AT7.2 q1 q2 (by grind[KP]) rfl
  |Js b p i sz j=>
   obtain⟨bb,oo,E',q1,q2,q3,q4,q5⟩:=AB2 h hva (h.ev ox) h1c hs;grind[KP]
  |_=>simp[Lv,bM,je]at hs
omit hT in
theorem yN(h:Rel E σ a w){x:Operand}(ho:o.op= .assign x)(e:cj σ (σ.ev x) k=some y):Lo P o E σ a w k y:=by
 have hr:(execOp a.eval o).run P w= .ok (.value (a.eval x)) w:=by simp only[execOp,ho,Sem.run_pure]
 have hv:=h.ev x;unfold cj at e;split at e
 ·rename_i b off n hx
  rw[hx]at hv;simp only[AJa]at e;obtain⟨⟨r,rows,bx,d⟩,e1,e⟩:=e;dsimp only at e;have aG:VR E w σ.bx (.win b [] off n) (a.eval x):=hv;obtain⟨hd,F1,F2,k1,ho1⟩:=iI h.bx (FB.refl _) aG e1;obtain⟨Fs0,hB1,Xw⟩:=k1.boxes;simp only[AKX]at Xw;have nd:=(AKg.1 (AKg.1 Xw.nodup).2.1).1;obtain⟨r1,r2,r3⟩:=UC h k1 (w':=w) hd ho1 (fun c hc=> .inl (ALk.2 (.inl hc))) nd (fun c hc=>Xw.lt c (by simp[hc])) (fun _ _ _=>rfl) ⟨rfl,rfl,rfl,ALj _⟩;exact⟨_,_,_,_,_,.inl hr,r1,r3,r2.any,rfl,e⟩
 ·exact Lo.same h hr hv e
theorem ADb{Γ:Nat->Option Qv}(h:Rel E σ a w)(e:ZC T Γ o σ k=some y)(vN:tH o.op=false):Lo P o E σ a w k y:=by
 have same:∀{v:Value} {x:XV},(execOp a.eval o).run P w= .ok (.value v) w->XR E w σ.bx x v->k x σ=some y->Lo P o E σ a w k y:=fun h1 h2 h3=>Lo.same h h1 h2 h3
 obtain⟨Fs,hB,hS⟩:=h.bx;have st:=hS.st;unfold ZC at e;split at e
 ·rename_i x ho
  exact same (v:=a.eval x) (by grind[execOp,Sem.run_pure]) (h.ev x) e
 ·grind[yN]
 ·rename_i c xa xb ho
  split at e
  case h_2=>cases e
  rename_i p hp;have hc:=h.ev c;rw[hp]at hc;have eY:=TT (E:=E) (w:=w) (vw:=σ.bx) hc;refine same (v:=if p then a.eval xa else a.eval xb) (x:=if p then σ.ev xa else σ.ev xb) (by simp[execOp,ho,eY,asBool]) (by cases p<;>simp[h.ev]) ?_
  grind[AF5]
 ·grind[ABw]
 ·grind[AGB]
 ·grind[AAz]
 ·grind[ph]
 ·rename_i t x ho
  split at e
  case h_2=>cases e
  rename_i z hz;obtain⟨u,h1,h2⟩:=ya hT hB st hz (h.ev x);grind[execOp,Sem.run_bind,Result.andThen_ok,Sem.run_pure]
 ·grind[ABN]
 ·rename_i x ho
  have hx:=h.ev x;split at e
  ·rename_i b j hp
   rw[hp]at hx;have tW:b<σ.bx.length/\a.eval x= .pointer (some ⟨E.Hg b,j,none⟩):=hx;grind[execOp,Sem.run_pure]
  ·rename_i b p i sz j hp
   rw[hp]at hx;have hpt:eM (a.eval x)=true:=hx.1;grind[eM,execOp,Sem.run_pure]
  ·rename_i s r z j hp
   rw[hp]at hx;obtain⟨bb,oo,cs,hv,hrest⟩:=hx;exact same (v:=a.eval x) (x:= .c (.Pv s r z j)) (by grind[execOp,Sem.run_pure]) ⟨bb,oo,cs,hv,hrest⟩ e
  ·rename_i f Ka hp
   rw[hp]at hx;have tW:(∀b∈Ka,b<σ.bx.length)/\a.eval x= .func (.func f) #[] (Ka.map fun b=>Value.pointer (some ⟨E.Hg b,0,none⟩)).toArray:=hx;grind[execOp,Sem.run_pure]
  simp_all
 ·rename_i op t x z s ho
  obtain⟨r,val,h1,h2,h3⟩:=ja hT e (h.ev x) (h.ev z) x z;exact same (v:=val) (x:= .c r) (by
   simp only[execOp,ho,Sem.run_bind];simp_all) h3 h1
 ·rename_i op t x ho
  obtain⟨r,val,h1,h2,h3⟩:=nj (P:=P) e (h.ev x);exact same (v:=val) (x:= .c r) (by grind[execOp,Sem.run_bind,Result.andThen_ok,Sem.run_pure]) h3 h1
 ·grind[ADg]
 ·rename_i f first Ka ho
  split at e
  case isFalse=>cases e
  rename_i hf;split at e
  case h_2=>cases e
  rename_i bs hbs;obtain⟨q1,q2⟩:=rf hbs (evs h Ka.toList);have AVN:first.map a.eval= #[]:=by
   simp_all
  have AYp:Ka.map a.eval=(bs.map fun b=>Value.pointer (some ⟨E.Hg b,0,none⟩)).toArray:=by
   grind
  refine same (v:= .func (.func f) #[] (bs.map fun b=>Value.pointer (some ⟨E.Hg b,0,none⟩)).toArray) ?_ (x:= .c (.fn f bs)) ⟨q1,rfl⟩ e
  grind[execOp,Instr.makeFunc,Sem.run_bind,Sem.run_pure,Result.andThen_ok]
 ·grind[ADl]
 ·rename_i t x lo hi ho
  obtain⟨z,val,h1,h2,h3⟩:=kD hT hB st e (h.ev x) (ACC h lo) (ACC h hi);grind[execOp,Sem.run_bind,Result.andThen_ok,Sem.run_pure]
 ·rename_i t x f ho
  split at e
  case h_2=>cases e
  rename_i z hz;obtain⟨u,h1,h2⟩:=lY hT hz (h.ev x);grind[execOp,Sem.run_bind,Result.andThen_ok,Sem.run_pure]
 ·rename_i t x f ho
  split at e
  case h_2=>cases e
  rename_i z hz;obtain⟨u,h1,h2⟩:=oI hT hz (h.ev x);grind[execOp,Sem.run_bind,Result.andThen_ok,Sem.run_pure]
 ·rename_i t x i ho
  obtain⟨z,val,h1,h2,h3⟩:=kb hT hB st e (h.ev x) (h.ev i);grind[execOp,Sem.run_bind,Result.andThen_ok,Sem.run_pure]
 ·rename_i t x i ho
  obtain⟨z,val,h1,h2,h3⟩:=eR hT e (h.ev x) (h.ev i);grind[execOp,Sem.run_bind,Result.andThen_ok,Sem.run_pure]
 ·rename_i x i ho
  split at e
  case h_2=>cases e
  rename_i z hz;obtain⟨u,h1,h2⟩:=fI (P:=P) hz (h.ev x);grind[execOp,Sem.run_bind,Result.andThen_ok,Sem.run_pure]
 ·rename_i f args uZ ho
  rw[ho]at vN;cases vN
 ·rename_i args uZ ho
  split at e
  ·rename_i s t IV hts
   obtain⟨x,rfl,hx⟩:=Yn IV;have hv:=h.ev x;rw[hx]at hv;have aG:=YY (E:=E) (w:=w) (vw:=σ.bx) hv;split at e
   case isFalse=>cases e
   rename_i hs;have hu:=YI hT hs;refine same (v:= .int .i64 (s.length:Int)) (x:= .c (.v (.int .i64) (s.length:Int))) ?_ (VR.int (E:=E) (vw:=σ.bx) _ _) e
   have K8:(⟨s.toArray⟩:ByteArray).size=s.length:=by rfl
   simp[execOp,ho,resolve,invoke,builtin,Builtin.len_,hts,aG,Bb hu,goInt,K8]
  ·rename_i z t _ IV hts
   obtain⟨x,rfl,hx⟩:=Yn IV;have hv:=h.ev x;rw[hx]at hv;split at e
   case isFalse=>cases e
   rename_i hs;split at e
   case h_2=>cases e
   rename_i n hn;obtain⟨el,hu⟩:=mN hT hs;obtain⟨ad,cap,aG⟩:=oL hB st hn hv;refine same (v:= .int .i64 (n:Int)) (x:= .c (.v (.int .i64) (n:Int))) ?_ (VR.int (E:=E) (vw:=σ.bx) _ _) e
   simp[execOp,ho,resolve,invoke,builtin,Builtin.len_,hts,aG,Bb hu,goInt]
  simp_all
 ·rename_i args uZ ho
  split at e
  case h_2=>cases e
  rename_i x1 x2 IV;exact yM hT h ho rfl IV e
 ·rename_i args uZ ho
  split at e
  case h_2=>cases e
  rename_i x IV;exact AAt hT h ho rfl IV e (fun b p off n hx=>by grind[KP])
 ·rename_i args uZ ho
  split at e
  case h_2=>cases e
  rename_i x1 x2 IV;obtain⟨o1,o2,rfl,hx1,hx2⟩:=Y_ IV;have eE:=h.ev o1;have bu:=h.ev o2;rw[hx1]at eE;rw[hx2]at bu;obtain⟨r,val,h1,h2,h3⟩:=Ug (P:=P) (big:=true) e eE bu uZ #[] o.type;simp only[AOx]at h2;exact same (v:=val) (x:= .c r) (by simp[execOp,ho,resolve,invoke,builtin,h2]) h3 h1
 ·rename_i args uZ ho
  split at e
  case h_2=>cases e
  rename_i x1 x2 IV;obtain⟨o1,o2,rfl,hx1,hx2⟩:=Y_ IV;have eE:=h.ev o1;have bu:=h.ev o2;rw[hx1]at eE;rw[hx2]at bu;obtain⟨r,val,h1,h2,h3⟩:=Ug (P:=P) (big:=false) e eE bu uZ #[] o.type;simp only[AJn,AMd]at h2;exact same (v:=val) (x:= .c r) (by simp[execOp,ho,resolve,invoke,builtin,h2]) h3 h1
 simp_all
end
end Go.Fw
end
