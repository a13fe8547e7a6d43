/- The framework, part 1: a checked interpreter of the model's code over abstract states; no claim is made here. -/
import Derived.Lib.LaidTab
import Derived.Lib.ItoaNum
import Derived.Calls
import Derived.Still
import Derived.Laws.World
import Derived.Laws.AppendOwn
import Derived.RowKit3
import Derived.Deep.MidRow
import Derived.Laws.StructEq
import Derived.Lib.ConvBytes
import Derived.Laws.BytesArg
import Derived.Tactics
import Derived.OrdersHeld
import Derived.ChangeArms
import Derived.ChangeOld
import Derived.DataReads
import Derived.Below
import Derived.Shelf.Spec.SlicesInsertGrow
import Derived.Shelf.Slices.Delete
import Derived.Lib.AtoiAll
import Derived.Lib.IndexMore
import Derived.Lib.Strings
import Derived.Lib.SlicesS
import Derived.Shelf.Strconv.Itoa3
import Derived.Shelf.Strings.Cut
import Derived.Shelf.Strings.Search3
import Derived.Shelf.Strings.Prefix
import Derived.Shelf.Slices.Turned
import Derived.Handed
import Derived.Stop.LaidErr
import Derived.MakeChecks
import Derived.LaidLaws
set_option linter.unusedVariables false
set_option linter.unusedSimpArgs false
set_option linter.unusedSectionVars false
abbrev ABW:Type:=Int × Int × Bool × List UInt8 × Unit
abbrev ADz:Type:=List UInt8 × List Int × Bool × Unit
abbrev ABL:Type:=List Int × Bool × Int × Unit
abbrev ACW:Type:=Int × Int × List UInt8 × Unit
abbrev ABN:Type:=Int × List UInt8 × Bool × Unit
abbrev AB0:Type:=Unit × Int × Unit × Unit × Unit × Int × Unit × Unit × Unit × Unit × Bool × Unit
abbrev AAQ:Type:=List Int
abbrev ABT:Type:=List Int × Int × Int × Unit
abbrev AD1:Type:=Int × Bool × Int × Int × Bool × List UInt8 × Unit
abbrev ABJ:Type:=Int × Int × Int × Int × List UInt8 × Unit
abbrev ABH:Type:=Bool × Unit
abbrev ABD:Type:=List Int × Int × Unit
abbrev ACu:Type:=Int × Int × Unit × Unit × Bool × Unit × Unit
abbrev ABC:Type:=List Nat
abbrev ABR:Type:=List UInt8 × Unit
abbrev ADI:Type:=Unit × Unit × Int × Unit
abbrev ABO:Type:=Int × Unit
abbrev ABQ:Type:=Unit × Unit
abbrev AAh:Type:=List UInt8
abbrev AB8:Type:=Unit × Int × Unit
abbrev ABP:Type:=Nat × Nat
abbrev ABd:Type:=List Int × Unit
abbrev ADQ:Type:=Int × Int × Unit × Unit
abbrev ACm:Type:=Int × Unit × Unit
abbrev AD0:Type:=Int × Bool × Unit
abbrev ADu:Type:=List UInt8 × Bool × Unit
abbrev ACa:Type:=Nat × List Nat
abbrev ABE:Type:=Int × Int × List Int × List ABW × Bool × List AAQ × Unit
abbrev ABG:Type:=List ABW × List ABW × Int × Unit
abbrev ABI:Type:=Int × Int × List ACW × Unit
abbrev ABF:Type:=Int × List ADz × Unit
abbrev ABB:Type:=List ABW
abbrev AAY:Type:=List ABL
abbrev AA8:Type:=List ABN
abbrev ABK:Type:=List ABL × Int × Unit
abbrev AD2:Type:=AB0 × Int × Unit
abbrev ABU:Type:=ABT × Unit
abbrev AD3:Type:=ADI × Bool × Unit
abbrev ABM:Type:=List ADz
abbrev AD4:Type:=ACu × Bool × Unit
abbrev ABh:Type:=ABJ × Unit
abbrev ACe:Type:=ABT × List Int × Unit
abbrev ABv:Type:=AD0 × Unit
abbrev AD6:Type:=ACm × Bool × Unit
abbrev AD5:Type:=AB8 × Bool × Unit
abbrev ADF:Type:=List ACW
abbrev ADs:Type:=AB0 × Unit × AB0 × Unit
abbrev ADH:Type:=ADu × Unit
abbrev ACj:Type:=ADQ × Unit
abbrev ABX:Type:=List AD1
abbrev ACx:Type:=AB0 × Unit
abbrev ADt:Type:=ABJ × Bool × Unit
abbrev ADJ:Type:=ABW × Bool × Unit
abbrev AAX:Type:=List ABG
abbrev AA9:Type:=List ABF
abbrev ABA:Type:=List ABI
abbrev AA_:Type:=List ABE
abbrev ABt:Type:=List Int × ABB × List AAQ × Unit
abbrev ABS:Type:=AD2 × Unit
abbrev ABo:Type:=ABB × ABB × Unit
abbrev ABj:Type:=AD3 × Unit
abbrev AB4:Type:=AD4 × Unit
abbrev ACE:Type:=ADF × Unit
abbrev ACR:Type:=ABM × Unit
abbrev ACP:Type:=AAY × Unit
abbrev AC_:Type:=AD5 × Unit
abbrev AC9:Type:=AD6 × Unit
abbrev AC7:Type:=ABB × Unit
abbrev ABV:Type:=List Int × AAX × List Int × AAY × AA9 × AA_ × ABA × AA8 × Unit
abbrev ADN:Type:=List Int × AAX × Unit × AAY × AA9 × AA_ × ABA × AA8 × List Int × Unit
abbrev AD7:=@List.getElem?_eq_some_iff
abbrev AD8:=@Bool.eq_false_or_eq_true
abbrev AD9:=@List.getElem?_eq_getElem
abbrev AD_:=@Option.some.injEq
abbrev AEA:=@if_pos
abbrev AEB:=@if_neg
abbrev AEC:=@Option.map_eq_some_iff
abbrev AED:=@Option.bind_eq_some_iff
abbrev AEE:=@List.append_assoc
abbrev AEF:=@Bool.and_eq_true
abbrev AEG:=@List.getElem?_append_left
abbrev AEH:=@List.getElem?_set_ne
abbrev AEI:=@List.length_cons
abbrev AEJ:=@List.nodup_append
abbrev AEK:=@decide_eq_true_eq
abbrev AEL:=@cond_false
abbrev AEM:=@List.length_append
abbrev AEN:=@List.mem_of_getElem?
abbrev AEO:=@beq_eq_false_iff_ne
abbrev AEP:=@Sigma.mk.injEq
abbrev AEQ:=@List.getElem?_set_self
abbrev AER:=@Bool.false_eq_true
abbrev AES:=@List.getElem?_append_right
abbrev AET:=@Bool.not_true
abbrev AEU:=@List.drop_eq_nil_of_le
abbrev AEV:=@Option.bind_some
abbrev AEW:=@List.Perm.append_right
abbrev AEX:=@List.append_nil
abbrev AEZ:=@List.mem_append
abbrev AEa:=@List.getElem_mem
abbrev AEb:=@cond_true
abbrev AEc:=@List.length_nil
abbrev AEd:=@List.mem_cons
abbrev AEg:=@List.eq_nil_of_length_eq_zero
abbrev AEh:=@Bool.true_and
abbrev AEk:=@List.cons.injEq
abbrev AEq:=@Int.toNat_natCast
abbrev AEt:=@Bool.not_eq_false'
abbrev AEz:=@Bool.not_eq_true
abbrev AE0:=@List.Perm.append_left
abbrev AE4:=@List.perm_append_comm
abbrev AE5:=@List.mem_flatten
abbrev AE7:=@Nat.le_refl
abbrev AE9:=@eq_of_heq
abbrev AFG:=@List.getElem?_map
abbrev AFH:=@Prod.mk.injEq
abbrev AFI:=@Nat.lt_of_lt_of_le
abbrev AFJ:=@if_false
abbrev AFM:=@decide_eq_true
abbrev AFO:=@List.flatten_cons
abbrev AFP:=@Option.bind_assoc
abbrev AFQ:=@Nat.mul_le_mul_right
abbrev AFR:=@and_true
abbrev AFS:=@Nat.le_trans
abbrev AFa:=@List.nil_append
abbrev AFk:=@List.pairwise_cons
abbrev AFp:=@List.mem_singleton
abbrev AFq:=@List.drop_eq_getElem_cons
abbrev AFr:=@List.getElem_of_mem
abbrev AFs:=@List.cons.inj
abbrev AFy:=@List.eq_of_mem_replicate
abbrev AF0:=@decide_eq_false
abbrev AF2:=@List.getElem?_eq_none
abbrev AF3:=@List.length_filter_le
abbrev AF5:=@List.all_eq_true
abbrev AF6:=@Bool.or_eq_true
abbrev AF7:=@List.take_of_length_le
abbrev AF_:=@List.flatten_append
abbrev AGB:=@Nat.zero_add
abbrev AGC:=@Option.getD_some
abbrev AGD:=@List.cons_append
abbrev AGE:=@Option.isSome_none
abbrev AGF:=@Option.isSome_some
abbrev AGG:=@if_true
abbrev AGH:=@List.drop_zero
abbrev AGI:=@Nat.add_mul
abbrev AGK:=@Bool.not_eq_true'
abbrev AGN:=@List.getElem?_set
abbrev AGO:=@Bool.false_or
abbrev AGP:=@Bool.not_false
abbrev AGQ:=@List.mem_or_eq_of_mem_set
abbrev AGR:=@Option.some.inj
abbrev AGS:=@Nat.add_zero
abbrev AGT:=@List.mem_cons_of_mem
abbrev AGU:=@Array.getD_eq_getD_getElem?
abbrev AGV:=@Option.map_some
abbrev AGW:=@List.nodup_cons
abbrev AGX:=@List.getD_eq_getElem?_getD
abbrev AGY:=@List.map_cons
abbrev AGZ:=@List.length_replicate
abbrev AGa:=@List.mem_map
abbrev AGb:=@List.ext_getElem?
abbrev AGc:=@List.length_map
abbrev AGd:=@List.map_congr_left
abbrev AGe:=@Nat.add_assoc
abbrev AGf:=@List.all_cons
abbrev AGg:=@List.replicate_succ
abbrev AGh:=@Array.length_toList
abbrev AGj:=@decide_eq_false_iff_not
abbrev AGk:=@List.filter_cons
abbrev AGl:=@beq_self_eq_true
abbrev AGm:=@List.length_take
abbrev AGn:=@List.getElem?_drop
abbrev AGo:=@List.contains_iff_mem
abbrev AGp:=@List.map_map
abbrev AGr:=@List.length_set
abbrev AGs:=@List.singleton_append
abbrev AGt:=@Bool.and_true
abbrev AGu:=@beq_iff_eq
abbrev AGv:=@Bool.eq_false_iff
abbrev AGw:=@Int.tmod_eq_emod_of_nonneg
abbrev AGx:=@List.exists_cons_of_length_eq_add_one
abbrev AGy:=@List.flatten_nil
abbrev AGz:=@Nat.le_of_lt
abbrev AG0:=@List.set_cons_zero
abbrev AG1:=@List.foldl_cons
abbrev AG2:=@List.length_eq_zero_iff
abbrev AG3:=@List.getElem?_replicate
abbrev AG4:=@Nat.one_mul
abbrev AG5:=@Decidable.not_not
abbrev AG6:=@List.pairwise_map
abbrev AG7:=@Nat.zero_le
abbrev AG8:=@List.set_set
abbrev AG9:=@List.map_nil
abbrev AG_:=@List.take_append_drop
abbrev AHA:=@Nat.succ_mul
abbrev AHB:=@List.set_append_right
abbrev AHC:=@List.length_drop
abbrev AHD:=@List.not_mem_nil
abbrev AHE:=@dite_true
abbrev AHG:=@List.length_pos_iff
abbrev AHH:=@List.perm_iff_count
abbrev AHI:=@Nat.sub_self
abbrev AHJ:=@List.Perm.refl
abbrev AHK:=@List.drop_drop
abbrev AHL:=@List.mapM_cons
abbrev AHM:=@Bool.false_and
abbrev AHN:=@Array.ext'
abbrev AHO:=@not_or
section
namespace Go.Fw
open Go
def kz:Nat:=3
def sW:Nat:=0
def gE1:Nat:=1
def gE2:Nat:=2
def Sn(w:World)(g:Nat):Prop:= ∃ev,w.cell? ⟨g,0,none⟩=some ev∧(ev= .nilIface∨ ∃te pe,ev= .iface te pe)
def GI(w:World):Prop:=(∃t fr,w.heap[kz]? =some (.cells (Go.Lib.pow10Tab.map fun z=>Value.int .u64 z).toArray t fr))∧(∃m,w.cell? ⟨sW,0,none⟩=some (.int .i64 m))∧Sn w gE1∧Sn w gE2
theorem GI.tab{P:Program}{w:World}(h:GI w)(hg:P.globalNamed "internal/strconv.uint64pow10" =some kz):Go.Lib.TabIs P w "internal/strconv.uint64pow10" .u64 Go.Lib.pow10Tab:=by
 obtain⟨⟨t,fr,h1⟩,_⟩:=h;unfold Go.Lib.TabIs World.var?;rw[hg];simp only[AEV,h1]
theorem GI.of{P:Program}{w w':World}(hg:P.globalNamed "internal/strconv.uint64pow10" =some kz)(ht:Go.Lib.TabIs P w "internal/strconv.uint64pow10" .u64 Go.Lib.pow10Tab)(hm:∃m,w.cell? ⟨sW,0,none⟩=some (.int .i64 m))(h1:Sn w gE1)(h2:Sn w gE2)
  (hw:∀c,c<w.heap.size→w'.heap[c]? =w.heap[c]?):GI w':=by
 have lt:∀b o,w.heap[b]? =some o→b<w.heap.size:=fun b o h=>by
  by_cases hb:b<w.heap.size
  ·exact hb
  ·rw[Array.getElem?_eq_none (by omega)]at h;cases h
 unfold Go.Lib.TabIs World.var? at ht;rw[hg]at ht;simp only[AEV]at ht;have same:∀g v,w.cell? ⟨g,0,none⟩=some v→w'.cell? ⟨g,0,none⟩=some v:=fun g v h=>by
  have hb:w'.heap[g]? =w.heap[g]?:=by
   cases ho:w.heap[g]? with
   |none=>simp[World.cell?,ho]at h
   |some o=>rw[hw _ (lt _ _ ho),ho]
  rw[←h];simp only[World.cell?,hb]
 refine⟨?_,hm.imp fun m h=>same _ _ h,h1.imp fun v h=>⟨same _ _ h.1,h.2⟩,h2.imp fun v h=>⟨same _ _ h.1,h.2⟩⟩
 ·cases ho:w.heap[kz]? with
  |none=>rw[ho]at ht;cases ht
  |some o=>
   rw[ho]at ht;cases o with
   |cells cs t fr=>
    simp only[AD_]at ht;exact⟨t,fr,by rw[hw _ (lt _ _ ho),ho,ht]⟩
   |_=>cases ht
end Go.Fw
end
section
namespace Go.Fw
inductive Ty where
 |int (k:IntKind)|bool|str|sl (r:Ty)|unit|cons (c r:Ty)
 deriving DecidableEq
@[reducible] def Ty.D:Ty→Type
 | .int _=>Int
 | .bool=>Bool
 | .str=>List UInt8
 | .sl r=>List r.D
 | .unit=>Unit
 | .cons c r=>c.D×r.D
def Ty.n:Ty→Nat
 | .unit=>0
 | .cons _ r=>r.n+1
 |_=>1
def Ty.z:(t:Ty)→t.D
 | .int _=>(0:Int)
 | .bool=>false
 | .str=>[]
 | .sl _=>[]
 | .unit=>()
 | .cons c r=>(c.z,r.z)
def Ty.flat:Ty→Bool
 | .sl _=>false
 | .cons c r=>c.flat&&r.flat
 |_=>true
def Ty.scalar:Ty→Bool
 | .int _| .bool| .str=>true
 |_=>false
structure Xm where
 i:Nat
 sz:Nat
 j:Nat
inductive AV where
 |v (t:Ty) (x:t.D)
 |sl (s:Bool) (r:Ty) (x:List r.D)
 |nil
 |ref (b:Nat) (p:List Xm)
 |win (b:Nat) (p:List Xm) (off n:Nat)
 |Eb (b j:Nat)
 |FP (b:Nat) (p:List Xm) (i sz j:Nat)
 |Iv (s:Bool) (r:Ty) (x:r.D) (j:Nat)
 |fn (f:Nat) (Fq:ABC)
 |dI (f:Nat) (rows:List ((r:Ty)×r.D))
 |iQ
 |undef
def AV.known:AV→Bool
 | .undef=>false
 |_=>true
inductive XV where
 |c (x:AV)
 |agg (l:List AV)
 |Hd (l:List (AV ⊕ List AV))
inductive Bx where
 |mem (cs:List AV)
 |sl (d:Nat) (r:Ty) (rows:List r.D)
 |dead
structure St where
 tm:List XV
 bx:List Bx
def AY:(r:Ty)→(j:Nat)→r.D→Option ((t:Ty)×t.D)
 | .cons c _,0,x=>some ⟨c,x.1⟩
 | .cons _ r,j+1,x=>AY r j x.2
 | .unit,_,_=>none
 | .int k,0,x=>some ⟨.int k,x⟩
 | .bool,0,x=>some ⟨.bool,x⟩
 | .str,0,x=>some ⟨.str,x⟩
 | .sl r,0,x=>some ⟨.sl r,x⟩
 |_,_+1,_=>none
def Yr{a b:Ty}(h:a=b)(x:a.D):b.D:=h▸x
def CH:(r:Ty)→(j:Nat)→r.D→(t:Ty)→t.D→Option r.D
 | .cons c _,0,x,t,y=>if h:t=c then some (Yr h y,x.2)else none
 | .cons _ r,j+1,x,t,y=>(CH r j x.2 t y).map fun z=>(x.1,z)
 | .unit,_,_,_,_=>none
 | .int k,0,_,t,y=>if h:t= .int k then some (Yr h y)else none
 | .bool,0,_,t,y=>if h:t= .bool then some (Yr h y)else none
 | .str,0,_,t,y=>if h:t= .str then some (Yr h y)else none
 | .sl r,0,_,t,y=>if h:t= .sl r then some (Yr h y)else none
 |_,_+1,_,_,_=>none
def rowAt(r:Ty)(rows:List r.D)(i:Nat):r.D:=rows.getD i r.z
def Dl:(r:Ty)→List r.D→List Xm→Option ((q:Ty)×List q.D)
 |r,rows,[]=>some ⟨r,rows⟩
 |r,rows,s::p=>
  match AY r s.j (rowAt r rows s.i)with
  |some ⟨.sl q,x⟩=>Dl q x p
  |_=>none
def Zl:(r:Ty)→List r.D→List Xm→(q:Ty)→List q.D→Option (List r.D)
 |r,_,[],q,y=>if h:q=r then some (Yr (congrArg Ty.sl h) y)else none
 |r,rows,s::p,q,y=>
  match AY r s.j (rowAt r rows s.i)with
  |some ⟨.sl r',x⟩=>(Zl r' x p q y).bind fun x' =>(CH r s.j (rowAt r rows s.i) (.sl r') x').map fun row=>rows.set s.i row
  |_=>none
inductive TD where
 |int (k:IntKind)|bool|str|sl (e:Nat)|st (fs:List ABP)|ptr (e:Nat)|other
structure TI where
 size:Nat
 bytes:Nat
 desc:TD
 row:Option Ty
abbrev F9:=List (Nat×TI)
def F9.get:F9→Nat→Option TI
 |[],_=>none
 |(u,i)::l,t=>if u=t then some i else F9.get l t
def TD.agg:TD→Bool
 | .st _=>true
 |_=>false
def F9.Vt(T:F9)(t:Nat):Option Ty:=
 match T.get t with
 |some ti=>ti.row
 |none=>none
def iZ:Ty→AV
 | .int k=> .v (.int k) (0:Int)
 | .bool=> .v .bool false
 | .str=> .v .str []
 | .sl _=> .nil
 |_=> .undef
def Rw:Ty→List AV
 | .cons c r=>iZ c::Rw r
 | .unit=>[]
 |t=>[iZ t]
def Ym:Value→AV
 | .int k n=> .v (.int k) n
 | .bool b=> .v .bool b
 | .string s=> .v .str s.data.toList
 | .slice none 0 0=> .nil
 | .pointer none=> .iQ
 |_=> .undef
def ofValue:Value→XV
 | .agg cs=> .agg (cs.toList.map Ym)
 |v=> .c (Ym v)
def St.ev(σ:St):Operand→XV
 | .tmp t=>σ.tm.getD t (.c .undef)
 | .const v=>ofValue v
 | .global _=> .c .undef
 | .func f=> .c (.fn f [])
def St.put(σ:St)(dst:Option Tmp)(x:XV):St:=
 match dst with
 |some d=>{ σ with tm:=σ.tm.set d x }
 |none=>σ
def XV.cells:XV→List AV
 | .c x=>[x]
 | .agg l=>l
 | .Hd _=>[]
def Jz{β:Ty→Type}(a b:Ty)(x:β a):Option (β b):=if h:a=b then some (h▸x)else none
def Hv(bx:List Bx):AV→Option ((r:Ty)×List r.D)
 | .sl _ r x=>some ⟨r,x⟩
 | .ref b p=>
  match bx[b]? with
  |some (.sl _ r rows)=>Dl r rows p
  |_=>none
 | .win b p off n=>
  match bx[b]? with
  |some (.sl _ r rows)=>(Dl r rows p).map fun q=>⟨q.1,(q.2.drop off).take n⟩
  |_=>none
 |_=>none
def Hm(bx:List Bx)(t:Ty)(x:AV):Option t.D:=
 match x with
 | .v u y=>Jz (β:=Ty.D) u t y
 | .nil=>match t with
  | .sl _=>some []
  |_=>none
 |x=>match t with
  | .sl r=>(Hv bx x).bind fun q=>Jz (β:=fun r=>List r.D) q.1 r q.2
  |_=>none
def EZ(bx:List Bx):(r:Ty)→List AV→Option r.D
 | .unit,[]=>some ()
 | .cons c r,x::l=>(Hm bx c x).bind fun a=>(EZ bx r l).map fun b=>(a,b)
 |_,_=>none
def lenOf(bx:List Bx):AV→Option Nat
 | .nil=>some 0
 | .sl _ _ x=>some x.length
 | .ref b p=>
  match bx[b]? with
  |some (.sl _ r rows)=>(Dl r rows p).map fun q=>q.2.length
  |_=>none
 | .win b _ _ n=>
  match bx[b]? with
  |some (.sl _ _ _)=>some n
  |_=>none
 |_=>none
inductive AP where
 |v (t:Ty)
 |sl (s:Bool) (r:Ty)
 |nil
 |ref (i:Nat)
 |ptr (i j:Nat)
 |fW (r:Ty)
 |fn (f:Nat) (Fq:ABC)
 |dI (f:Nat) (rs:List Ty)
 |any
 |Wm (i sz:Nat)
inductive XP where
 |c (p:AP)
 |agg (l:List AP)
 |row (r:Ty)
 |Hd (l:List (AP ⊕ List AP))
inductive BP where
 |mem (l:List AP)
 |sl (d:Nat) (r:Ty)
 |gone
structure CI where
 CJ:List (Nat×XP)
 Dk:List BP
@[reducible] def QC:List Ty→Type
 |[]=>Unit
 |r::l=>r.D×QC l
def QC.mk:(l:List Ty)→QC l→List ((r:Ty)×r.D)
 |[],_=>[]
 |r::l,x=>⟨r,x.1⟩::QC.mk l x.2
@[reducible] def AP.V:AP→Type
 | .dI _ rs=>QC rs
 | .v t=>t.D
 | .sl _ r=>List r.D
 | .fW r=>r.D
 | .Wm _ _=>Nat×Nat
 |_=>Unit
@[reducible] def PQ.V:List AP→Type
 |[]=>Unit
 |p::l=>p.V×PQ.V l
@[reducible] def PV.V:List (AP ⊕ List AP)→Type
 |[]=>Unit
 | .inl p::l=>p.V×PV.V l
 | .inr q::l=>PQ.V q×PV.V l
@[reducible] def XP.V:XP→Type
 | .c p=>p.V
 | .agg l=>PQ.V l
 | .row r=>r.D
 | .Hd l=>PV.V l
@[reducible] def BP.V:BP→Type
 | .mem l=>PQ.V l
 | .sl _ r=>List r.D
 | .gone=>Unit
@[reducible] def DR.V:List (Nat×XP)→Type
 |[]=>Unit
 |(_,p)::l=>p.V×DR.V l
@[reducible] def FM.V:List BP→Type
 |[]=>Unit
 |p::l=>p.V×FM.V l
@[reducible] def CI.V (s:CI):Type:=DR.V s.CJ×FM.V s.Dk
def AP.mk(m:Nat→Nat):(p:AP)→p.V→AV
 | .v t,x=> .v t x
 | .sl s r,x=> .sl s r x
 | .nil,_=> .nil
 | .ref i,_=> .ref (m i) []
 | .ptr i j,_=> .Eb (m i) j
 | .fW r,x=> .Iv false r x 0
 | .fn f Fq,_=> .fn f (Fq.map m)
 | .dI f rs,x=> .dI f (QC.mk rs x)
 | .any,_=> .undef
 | .Wm i sz,k=> .ref (m i) [⟨k.1,sz,k.2⟩]
def PQ.mk(m:Nat→Nat):(l:List AP)→PQ.V l→List AV
 |[],_=>[]
 |p::l,x=>p.mk m x.1::PQ.mk m l x.2
def Y_:(r:Ty)→r.D→List AV
 | .unit,_=>[]
 | .cons c r,x=>(match c,x.1 with
  | .sl q,y=>AV.sl false q y
  |c,y=> .v c y)::Y_ r x.2
 | .sl q,x=>[.sl false q x]
 | .int k,x=>[.v (.int k) x]
 | .bool,x=>[.v .bool x]
 | .str,x=>[.v .str x]
def PV.mk(m:Nat→Nat):(l:List (AP ⊕ List AP))→PV.V l→List (AV ⊕ List AV)
 |[],_=>[]
 | .inl p::l,x=> .inl (p.mk m x.1)::PV.mk m l x.2
 | .inr q::l,x=> .inr (PQ.mk m q x.1)::PV.mk m l x.2
def XP.mk(m:Nat→Nat):(p:XP)→p.V→XV
 | .c p,x=> .c (p.mk m x)
 | .agg l,x=> .agg (PQ.mk m l x)
 | .row r,x=> .agg (Y_ r x)
 | .Hd l,x=> .Hd (PV.mk m l x)
def BP.mk(m:Nat→Nat):(p:BP)→p.V→Bx
 | .mem l,x=> .mem (PQ.mk m l x)
 | .sl d r,x=> .sl d r x
 | .gone,_=> .dead
def DR.mk(m:Nat→Nat):(l:List (Nat×XP))→DR.V l→List XV→List XV
 |[],_,tm=>tm
 |(i,p)::l,x,tm=>DR.mk m l x.2 (tm.set i (p.mk m x.1))
def FM.mk(m:Nat→Nat):(l:List BP)→FM.V l→List Bx
 |[],_=>[]
 |p::l,x=>p.mk m x.1::FM.mk m l x.2
def CI.st(s:CI)(n:Nat)(x:s.V):St:=
 { tm:=DR.mk id s.CJ x.1 (List.replicate n (.c .undef)),bx:=FM.mk id s.Dk x.2 }
abbrev JN:=List (Option Nat)
def JN.put(m:JN)(i b:Nat):Option JN:=
 match m[i]? with
 |some none=>if m.contains (some b)then none else some (m.set i (some b))
 |some (some b')=>if b' =b then some m else none
 |none=>none
def Re:JN→List Nat→List Nat→Option JN
 |m,[],[]=>some m
 |m,i::is,b::bs=>(m.put i b).bind fun m=>Re m is bs
 |_,_,_=>none
def AP.IJ(N:Nat)(m:JN):AP→AV→Option JN
 | .ref i,.ref b []=>m.put i b
 | .ref i,.nil=>m.put i (N+i)
 | .ref _,_=>none
 | .Wm i sz,.ref b [s]=>if s.sz=sz then m.put i b else none
 | .Wm _ _,_=>none
 | .ptr i j,.Eb b j' =>if j=j' then m.put i b else none
 | .ptr _ _,_=>none
 | .fn f Fq,.fn g bs=>if f=g then Re m Fq bs else none
 | .fn _ _,_=>none
 | .nil,.nil=>some m
 | .nil,_=>none
 |_,_=>some m
def PQ.IJ(N:Nat):JN→List AP→List AV→Option JN
 |m,[],[]=>some m
 |m,p::l,x::xs=>(p.IJ N m x).bind fun m=>PQ.IJ N m l xs
 |_,_,_=>none
def PV.IJ(N:Nat):JN→List (AP ⊕ List AP)→List (AV ⊕ List AV)→Option JN
 |m,[],[]=>some m
 |m,.inl p::l,.inl x::xs=>(p.IJ N m x).bind fun m=>PV.IJ N m l xs
 |m,.inr p::l,.inr x::xs=>(PQ.IJ N m p x).bind fun m=>PV.IJ N m l xs
 |_,_,_=>none
def XP.IJ(N:Nat)(m:JN):XP→XV→Option JN
 | .c p,.c x=>p.IJ N m x
 | .agg l,.agg xs=>PQ.IJ N m l xs
 | .row _,.agg _=>some m
 | .Hd l,.Hd xs=>PV.IJ N m l xs
 |_,_=>none
def DR.IJ(N:Nat)(tm:List XV):JN→List (Nat×XP)→Option JN
 |m,[]=>some m
 |m,(i,p)::l=>
  match tm[i]? with
  |some x=>(p.IJ N m x).bind fun m=>DR.IJ N tm m l
  |none=>none
def FM.IJ(N:Nat)(bx:List Bx):Nat→JN→List BP→Option JN
 |_,m,[]=>some m
 |i,m,.mem l::ps=>
  match m[i]? with
  |some (some b)=>
   match bx[b]? with
   |some (.mem cs)=>(PQ.IJ N m l cs).bind fun m=>FM.IJ N bx (i+1) m ps
   |_=>none
  |_=>none
 |i,m,.sl _ _::ps=>
  match m[i]? with
  |some (some _)=>FM.IJ N bx (i+1) m ps
  |_=>none
 |i,m,.gone::ps=>FM.IJ N bx (i+1) m ps
def Bh(bx:List Bx):JN→List Bx
 |[]=>bx
 |some b::m=>Bh (bx.set b .dead) m
 |none::m=>Bh bx m
def QC.Yp:(l:List Ty)→List ((r:Ty)×r.D)→Option (QC l)
 |[],[]=>some ()
 |r::l,q::qs=>(Jz (β:=Ty.D) q.1 r q.2).bind fun a=>(QC.Yp l qs).map fun b=>(a,b)
 |_,_=>none
def QC.Z5(bx:List Bx):(l:List Ty)→List Nat→Option (QC l)
 |[],[]=>some ()
 |r::l,b::bs=>(match bx[b]? with
  |some (.mem cs)=>EZ bx r cs
  |_=>none).bind fun a=>(QC.Z5 bx l bs).map fun c=>(a,c)
 |_,_=>none
def AP.get(bx:List Bx):(p:AP)→AV→Option p.V
 | .dI f rs,x=>match x with
  | .dI g rows=>if f=g then QC.Yp rs rows else none
  | .fn g bs=>if f=g then QC.Z5 bx rs bs else none
  |_=>none
 | .v t,x=>if t.scalar then Hm bx t x else none
 | .sl false r,x=>Hm bx (.sl r) x
 | .sl true r,x=>match x with
  | .sl true q y=>Jz (β:=fun r=>List r.D) q r y
  | .nil=>some []
  |_=>none
 | .fW r,x=>match x with
  | .Iv _ q y 0=>Jz (β:=Ty.D) q r y
  | .Eb b 0=>match bx[b]? with
   |some (.mem cs)=>EZ bx r cs
   |_=>none
  | .FP b p i sz 0=>match bx[b]? with
   |some (.sl _ q rows)=>(Dl q rows p).bind fun s=>if sz=s.1.n then Jz (β:=Ty.D) s.1 r (rowAt s.1 s.2 i)else none
   |_=>none
  |_=>none
 | .nil,_=>some ()
 | .ref _,_=>some ()
 | .ptr _ _,_=>some ()
 | .fn _ _,_=>some ()
 | .any,_=>some ()
 | .Wm _ _,x=>match x with
  | .ref _ [s]=>some (s.i,s.j)
  |_=>none
def PQ.get(bx:List Bx):(l:List AP)→List AV→Option (PQ.V l)
 |[],[]=>some ()
 |p::l,x::xs=>(p.get bx x).bind fun a=>(PQ.get bx l xs).map fun b=>(a,b)
 |_,_=>none
def PV.get(bx:List Bx):(l:List (AP ⊕ List AP))→List (AV ⊕ List AV)→Option (PV.V l)
 |[],[]=>some ()
 | .inl p::l,.inl x::xs=>(p.get bx x).bind fun a=>(PV.get bx l xs).map fun b=>(a,b)
 | .inr p::l,.inr x::xs=>(PQ.get bx p x).bind fun a=>(PV.get bx l xs).map fun b=>(a,b)
 |_,_=>none
def XP.get(bx:List Bx):(p:XP)→XV→Option p.V
 | .c p,.c x=>p.get bx x
 | .agg l,.agg xs=>PQ.get bx l xs
 | .row r,.agg xs=>EZ bx r xs
 | .Hd l,.Hd xs=>PV.get bx l xs
 |_,_=>none
def DR.get(bx:List Bx)(tm:List XV):(l:List (Nat×XP))→Option (DR.V l)
 |[]=>some ()
 |(i,p)::l=>
  match tm[i]? with
  |some x=>(p.get bx x).bind fun a=>(DR.get bx tm l).map fun b=>(a,b)
  |none=>none
def FM.get(bx bk:List Bx):(m:JN)→(l:List BP)→Option (FM.V l)
 |_,[]=>some ()
 |some b::m,.mem l::ps=>
  match bx[b]? with
  |some (.mem cs)=>(PQ.get bk l cs).bind fun a=>(FM.get bx bk m ps).map fun c=>(a,c)
  |_=>none
 |some b::m,.sl d r::ps=>
  match bx[b]? with
  |some (.sl d' q rows)=>if 1≤d∧d≤d' then(Jz (β:=fun r=>List r.D) q r rows).bind fun a=>(FM.get bx bk m ps).map fun c=>(a,c)else none
  |_=>none
 |_::m,.gone::ps=>(FM.get bx bk m ps).map fun c=>((),c)
 |_,_=>none
def CI.fit(s:CI)(N:Nat)(m0:JN)(tm:List XV)(bx:List Bx):Option (s.V×JN):=
 (DR.IJ N tm m0 s.CJ).bind fun m=>(FM.IJ N bx 0 m s.Dk).bind fun m=>
  let bk:=Bh bx m
  (DR.get bk tm s.CJ).bind fun a=>(FM.get bx bk m s.Dk).map fun c=>((a,c),m)
def BP.opened:BP→Bx
 | .sl d r=> .sl (d+1) r []
 |_=> .dead
def CI.opens(s:CI)(bx:List Bx):List Bx:=bx++s.Dk.map BP.opened
def CI.m0(s:CI):JN:=List.replicate s.Dk.length none
structure NK where
 ins:CI
 outs:CI
 g:ins.V→Option outs.V
def QA(m:JN)(n:Nat)(i:Nat):Nat:=
 match m[i]? with
 |some (some b)=>b
 |_=>n+(i-m.length)
def Qx(Fo:Nat→Nat):Nat→(l:List BP)→FM.V l→List Bx→List Bx
 |_,[],_,bx=>bx
 |i,p::l,x,bx=>Qx Fo (i+1) l x.2 (if Fo i<bx.length then bx.set (Fo i) (p.mk Fo x.1)else bx++[p.mk Fo x.1])
def Tq:(l:List (Nat×XP))→DR.V l→(Nat→Nat)→XV
 |(_,p)::_,x,Fo=>p.mk Fo x.1
 |[],_,_=> .c .undef
def Cg:Nat:=2^36
section ops
variable{Y:Type}
abbrev K(Y:Type):=XV→St→Option Y
def St.new(σ:St)(b:Bx):St:={ σ with bx:=σ.bx++[b] }
def lq(x:Bool)(a b:XV)(σ:St)(k:K Y):Option Y:=cond x (k a σ) (k b σ)
def UH(op:BinOp)(κ:IntKind)(a b:Int)(k:AV→Option Y):Option Y:=
 match op with
 | .add=>k (.v (.int κ) (κ.wrap (a+b)))
 | .sub=>k (.v (.int κ) (κ.wrap (a-b)))
 | .mul=>k (.v (.int κ) (κ.wrap (a*b)))
 | .quo=>if b=0 then none else k (.v (.int κ) (κ.wrap (a.tdiv b)))
 | .rem=>if b=0 then none else k (.v (.int κ) (a.tmod b))
 | .and=>k (.v (.int κ) (κ.wrap (BitVec.ofInt κ.bits a &&& BitVec.ofInt κ.bits b).toNat))
 | .or=>k (.v (.int κ) (κ.wrap (BitVec.ofInt κ.bits a ||| BitVec.ofInt κ.bits b).toNat))
 | .xor=>k (.v (.int κ) (κ.wrap (BitVec.ofInt κ.bits a ^^^ BitVec.ofInt κ.bits b).toNat))
 | .andNot=>k (.v (.int κ) (κ.wrap (BitVec.ofInt κ.bits a &&& ~~~BitVec.ofInt κ.bits b).toNat))
 | .eql=>k (.v .bool (a==b))
 | .neq=>k (.v .bool (a !=b))
 | .lss=>k (.v .bool (decide (a<b)))
 | .leq=>k (.v .bool (decide (a≤b)))
 | .gtr=>k (.v .bool (decide (a>b)))
 | .geq=>k (.v .bool (decide (a≥b)))
 |_=>none
def PY(op:BinOp)(κ:IntKind)(a b:Int)(k:AV→Option Y):Option Y:=
 if b<0 then none else
 match op with
 | .shl=>k (.v (.int κ) (κ.wrap (a*2^min b.toNat κ.bits)))
 | .shr=>k (.v (.int κ) (a.fdiv (2^min b.toNat κ.bits)))
 |_=>none
def VL(op:BinOp)(a b:AAh)(k:AV→Option Y):Option Y:=
 match op with
 | .add=>if a.length+b.length≤Cg then k (.v .str (a++b))else none
 | .eql=>k (.v .bool (a==b))
 | .neq=>k (.v .bool (!(a==b)))
 | .lss=>k (.v .bool (Op.bytesLess a b))
 | .leq=>k (.v .bool (Op.bytesLess a b||a==b))
 | .gtr=>k (.v .bool (!(Op.bytesLess a b||a==b)))
 | .geq=>k (.v .bool (!Op.bytesLess a b))
 |_=>none
def ZC:TD→AV→AV→Option Bool
 | .int _,.v (.int j) a,.v (.int k) b=>if j=k then some (a==b)else none
 | .bool,.v .bool a,.v .bool b=>some (a==b)
 | .str,.v .str a,.v .str b=>some (a==b)
 |_,_,_=>none
def Gj(T:F9):Nat→List ABP→List AV→List AV→Option Bool
 |_,[],[],[]=>some true
 |i,(o,t)::fs,x::l,z::m=>
  if o=i then
   match T.get t with
   |some ti=>match ZC ti.desc x z with
    |some p=>(Gj T (i+1) fs l m).map fun r=>p&&r
    |none=>none
   |none=>none
  else none
 |_,_,_,_=>none
def F9.fields(T:F9)(t:Nat):Option (List ABP):=
 match(T.get t).map TI.desc with
 |some (.st fs)=>some fs
 |_=>none
def fJ(T:F9)(t:Nat)(op:BinOp)(a b:XV)(k:AV→Option Y):Option Y:=
 match a,b with
 | .c (.v (.int j) x),.c (.v (.int j') y)=>
  match op with
  | .shl| .shr=>PY op j x y k
  |_=>if j=j' then UH op j x y k else none
 | .c (.v .str x),.c (.v .str y)=>VL op x y k
 | .c (.v .bool x),.c (.v .bool y)=>
  match T.get t with
  |some ti=>match ti.desc with
   | .bool=>match op with
    | .eql=>k (.v .bool (x==y))
    | .neq=>k (.v .bool (!(x==y)))
    |_=>none
   |_=>none
  |none=>none
 | .agg l,.agg m=>
  match op,(T.fields t).bind fun fs=>Gj T 0 fs l m with
  | .eql,some r=>k (.v .bool r)
  | .neq,some r=>k (.v .bool (!r))
  |_,_=>none
 |_,_=>none
def vB(op:UnOp)(a:XV)(k:AV→Option Y):Option Y:=
 match op,a with
 | .not,.c (.v .bool x)=>k (.v .bool (!x))
 | .neg,.c (.v (.int j) x)=>k (.v (.int j) (j.wrap (0-x)))
 |_,_=>none
def jn(d b:Nat)(p:List Xm)(s:Xm):((t:Ty)×t.D)→AV
 |⟨.sl r,x⟩=>if d≤1 then .sl true r x else .ref b (p++[s])
 |⟨t,x⟩=>if t.scalar then .v t x else .undef
def iB(s:Bool):((t:Ty)×t.D)→AV
 |⟨.sl r,x⟩=> .sl s r x
 |⟨t,x⟩=>if t.scalar then .v t x else .undef
def TK(f:Nat→Option AV):Nat→Nat→Option (List AV)
 |_,0=>some []
 |j,n+1=>(f j).bind fun x=>(TK f (j+1) n).map fun l=>x::l
def FV(bx:List Bx):AV→Nat→Option AV
 | .Eb b j,i=>
  match bx[b]? with
  |some (.mem cs)=>cs[j+i]?
  |_=>none
 | .FP b p r sz j,i=>
  match bx[b]? with
  |some (.sl d q rows)=>if p.length<d then(Dl q rows p).bind fun s=>if sz=s.1.n then(AY s.1 (j+i) (rowAt s.1 s.2 r)).map (jn (d-p.length) b p ⟨r,sz,j+i⟩)else none else none
  |_=>none
 | .Iv s r x j,i=>(AY r (j+i) x).map (iB s)
 |_,_=>none
def XS(T:F9)(t:Nat)(σ:St)(a:XV):Option XV:=
 match a,T.get t with
 | .c a,some ti=>if ti.size=0 then none else if ti.desc.agg then(TK (FV σ.bx a) 0 ti.size).map .agg else(FV σ.bx a 0).map .c
 |_,_=>none
def S7(d:Nat)(t:Ty)(x:AV)(bx:List Bx):Option (t.D×List Bx×Nat):=
 match x with
 | .v u y=>(Jz (β:=Ty.D) u t y).map fun y=>(y,bx,d)
 | .nil=>match t with
  | .sl _=>some ([],bx,d)
  |_=>none
 | .sl true r y=>match t with
  | .sl q=>(Jz (β:=fun r=>List r.D) r q y).map fun y=>(y,bx,1)
  |_=>none
 | .ref b []=>match t with
  | .sl q=>
   match bx[b]? with
   |some (.sl d' r y)=>(Jz (β:=fun r=>List r.D) r q y).map fun y=>(y,bx.set b .dead,min d (d'+1))
   |_=>none
  |_=>none
 | .win b [] off n=>match t with
  | .sl q=>
   match bx[b]? with
   |some (.sl d' r y)=>(Jz (β:=fun r=>List r.D) r q ((y.drop off).take n)).map fun y=>(y,bx.set b .dead,min d (d'+1))
   |_=>none
  |_=>none
 |_=>none
def cellsIn(d:Nat):(r:Ty)→List AV→List Bx→Option (r.D×List Bx×Nat)
 | .unit,[],bx=>some ((),bx,d)
 | .cons c r,x::l,bx=>(S7 d c x bx).bind fun a=>(cellsIn a.2.2 r l a.2.1).map fun b=>((a.1,b.1),b.2)
 |_,_,_=>none
def mr(d:Nat)(r:Ty)(x:XV)(bx:List Bx):Option (r.D×List Bx×Nat):=
 match x with
 | .agg l=>cellsIn d r l bx
 | .c x=>S7 d r x bx
 |_=>none
def Fj(b:Nat):AV→AV
 | .ref b' (s::p)=>if b' =b then .undef else .ref b' (s::p)
 | .win b' (s::p) i n=>if b' =b then .undef else .win b' (s::p) i n
 | .FP b' (s::p) i sz j=>if b' =b then .undef else .FP b' (s::p) i sz j
 |x=>x
def cv(b:Nat):XV→XV
 | .c x=> .c (Fj b x)
 | .agg l=> .agg (l.map (Fj b))
 | .Hd l=> .Hd (l.map fun| .inl x=> .inl (Fj b x)| .inr q=> .inr (q.map (Fj b)))
def jQ(b:Nat):Bx→Bx
 | .mem cs=> .mem (cs.map (Fj b))
 |x=>x
def St.ji(b:Nat)(σ:St):St:={ tm:=σ.tm.map (cv b),bx:=σ.bx.map (jQ b) }
def Og(cs:List AV):Nat→List AV→Option (List AV)
 |_,[]=>some cs
 |j,x::l=>if j<cs.length then Og (cs.set j x) (j+1) l else none
def Yu(d:Nat)(r:Ty)(old:r.D)(j:Nat)(x:XV)(bx:List Bx):Option (r.D×List Bx×Nat):=
 match x with
 | .agg l=>if j=0 then cellsIn d r l bx else none
 | .c x=>
  match AY r j old with
  |some ⟨t,_⟩=>(S7 d t x bx).bind fun a=>(CH r j old t a.1).map fun row=>(row,a.2)
  |none=>none
 |_=>none
def XV.plain:XV→Bool
 | .c (.v _ _)=>true
 |_=>false
def Uo(σ:St)(a:XV)(x:XV):Option St:=
 match a with
 | .c (.Eb b j)=>
  match σ.bx[b]? with
  |some (.mem cs)=>(Og cs j x.cells).map fun cs=>{ σ with bx:=σ.bx.set b (.mem cs) }
  |_=>none
 | .c (.FP b p i sz j)=>
  match σ.bx[b]? with
  |some (.sl d r rows)=>if p.length<d then
   (Dl r rows p).bind fun s=>if sz=s.1.n then(Yu (d-p.length) s.1 (rowAt s.1 s.2 i) j x (σ.bx.set b .dead)).bind fun w=>
    (Zl r rows p s.1 (s.2.set i w.1)).map fun rows=>
     let σ':St:={ σ with bx:=w.2.1.set b (.sl (w.2.2+p.length) r rows) }
     if x.plain then σ' else σ'.ji b
    else none
   else none
  |_=>none
 |_=>none
def Q3(σ:St)(a x:XV):Option (St×XV):=
 match a,x with
 | .c (.FP b _ _ _ _),.c (.win b' (s::p') off n)=>
  if b' =b then
   match σ.bx[b]? with
   |some (.sl d r rows)=>(Dl r rows (s::p')).map fun q=>({ σ with bx:=σ.bx.set b (.sl (min d (p'.length+1)) r rows) },.c (.sl true q.1 ((q.2.drop off).take n)))
   |_=>none
  else none
 |_,_=>some (σ,x)
def Kr(σ:St)(a x:XV):Option St:=(Q3 σ a x).bind fun q=>Uo q.1 a q.2
def Yi(bx:List Bx)(x:AV):Option ((r:Ty)×(List r.D×List Bx×Nat)):=
 match x with
 | .v .str s=>some ⟨.int .u8,s.map (fun c=>(c.toNat:Int)),bx,9⟩
 | .sl s r rows=>if r.flat then some ⟨r,rows,bx,9⟩else if s then some ⟨r,rows,bx,1⟩else none
 | .ref b []=>
  match bx[b]? with
  |some (.sl d r rows)=>if r.flat then some ⟨r,rows,bx,9⟩else some ⟨r,rows,bx.set b .dead,d⟩
  |_=>none
 | .ref b p=>
  match bx[b]? with
  |some (.sl _ r rows)=>(Dl r rows p).bind fun q=>if q.1.flat then some ⟨q.1,q.2,bx,9⟩else none
  |_=>none
 | .win b p off n=>
  match bx[b]? with
  |some (.sl _ r rows)=>(Dl r rows p).bind fun q=>if q.1.flat then some ⟨q.1,(q.2.drop off).take n,bx,9⟩else none
  |_=>none
 |_=>none
def Yl(bx:List Bx)(x:AV):Option ((r:Ty)×(List r.D×List Bx×Nat)):=
 match x with
 | .ref b []=>
  match bx[b]? with
  |some (.sl d r rows)=>some ⟨r,rows,bx.set b .dead,d⟩
  |_=>none
 | .win b [] off n=>
  match bx[b]? with
  |some (.sl d r rows)=>some ⟨r,(rows.drop off).take n,bx.set b .dead,d⟩
  |_=>none
 |_=>none
def F9.elem(T:F9)(t:Nat):Option TI:=
 match(T.get t).map TI.desc with
 |some (.sl e)=>T.get e
 |_=>none
def F9.Lc(T:F9)(t:Nat)(r:Ty):Bool:=
 match T.elem t with
 |some ti=>decide (ti.size=r.n)&&decide (ti.bytes≤512)&&decide (ti.row=some r)
 |none=>false
def F9.isStr(T:F9)(t:Nat):Bool:=
 match(T.get t).map TI.desc with
 |some .str=>true
 |_=>false
def F9.qu(T:F9)(t:Nat):Bool:=
 match(T.get t).map TI.desc with
 |some (.sl _)=>true
 |_=>false
def Te(T:F9)(ts:Array TypeId)(σ:St)(a x:XV)(k:K Y):Option Y:=
 match ts[0]?,ts[1]? with
 |some t,some u=>
  if T.qu u||T.isStr u then
   match a,x with
   | .c .nil,.c y=>
    (Yi σ.bx y).bind fun s=>if T.Lc t s.1 then
     if s.2.1.length≤Cg then k (.c (.ref s.2.2.1.length [])) { σ with bx:=s.2.2.1++[.sl s.2.2.2 s.1 s.2.1] }else none
     else none
   | .c a,.c y=>
    (Yl σ.bx a).bind fun d=>if T.Lc t d.1 then(Yi d.2.2.1 y).bind fun s=>
     (Jz (β:=fun r=>List r.D) s.1 d.1 s.2.1).bind fun rows=>
      if d.2.1.length+rows.length≤Cg then
       k (.c (.ref s.2.2.1.length [])) { σ with bx:=s.2.2.1++[.sl (min d.2.2.2 s.2.2.2) d.1 (d.2.1++rows)] }
      else none
     else none
   |_,_=>none
  else none
 |_,_=>none
def WM(T:F9)(ts:Array TypeId)(σ:St)(x:XV)(k:K Y):Option Y:=
 match ts[0]?,x with
 |some t,.c (.win b [] off n)=>
  match σ.bx[b]? with
  |some (.sl d r rows)=>if T.Lc t r&&(r.flat&&decide (0<r.n))then k (.c .undef) { σ with bx:=σ.bx.set b (.sl d r ((rows.take off++List.replicate n r.z)++rows.drop (off+n))) }else none
  |_=>none
 |_,_=>none
def S3:XV→Option Int
 | .c (.v (.int _) n)=>some n
 |_=>none
def Ip(len:Nat)(lo hi:Option XV)(k:Nat→Nat→Option Y):Option Y:=
 let h:Option Int:=match hi with
  |none=>some (len:Int)
  |some x=>S3 x
 let l:Option Int:=match lo with
  |none=>some 0
  |some x=>S3 x
 match l,h with
 |some l,some h=>if 0≤l∧l≤h∧h≤(len:Int)then k l.toNat h.toNat else none
 |_,_=>none
def Wg(T:F9)(t:Nat)(σ:St)(x:XV)(lo hi:Option XV)(k:K Y):Option Y:=
 match x with
 | .c (.v .str s)=>if T.isStr t then Ip s.length lo hi fun l h=>k (.c (.v .str ((s.drop l).take (h-l)))) σ else none
 | .c (.sl s r rows)=>if T.Lc t r then Ip rows.length lo hi fun l h=>k (.c (.sl s r ((rows.drop l).take (h-l)))) σ else none
 | .c (.ref b p)=>
  match Hv σ.bx (.ref b p)with
  |some q=>if T.Lc t q.1 then Ip q.2.length lo hi fun l h=>k (.c (.win b p l (h-l))) σ else none
  |none=>none
 |_=>none
def Wf(σ:St)(T:F9)(t:Nat)(x i:XV)(k:K Y):Option Y:=
 match x,S3 i with
 | .c (.sl s r rows),some i=>if T.Lc t r then(if 0≤i∧i<(rows.length:Int)then k (.c (.Iv s r (rowAt r rows i.toNat) 0)) σ else none)else none
 | .c (.ref b p),some i=>
  match Hv σ.bx (.ref b p)with
  |some q=>if T.Lc t q.1 then(if 0≤i∧i<(q.2.length:Int)then k (.c (.FP b p i.toNat q.1.n 0)) σ else none)else none
  |none=>none
 | .c (.win b p off n),some i=>
  match Hv σ.bx (.ref b p)with
  |some q=>if T.Lc t q.1 then(if 0≤i∧i<(n:Int)then k (.c (.FP b p (off+i.toNat) q.1.n 0)) σ else none)else none
  |none=>none
 |_,_=>none
def dp(T:F9)(t:Nat)(x:XV)(f:Nat):Option XV:=
 match T.get t with
 |some ⟨_,_,.st fs,_⟩=>
  match fs[f]? with
  |some (o,_)=>match x with
   | .c (.Eb b j)=>some (.c (.Eb b (j+o)))
   | .c (.FP b p i sz j)=>some (.c (.FP b p i sz (j+o)))
   | .c (.Iv s r y j)=>some (.c (.Iv s r y (j+o)))
   |_=>none
  |none=>none
 |_=>none
def nP(T:F9)(t:Nat)(x:XV)(f:Nat):Option XV:=
 match T.get t,x with
 |some ⟨_,_,.st fs,_⟩,.agg l=>
  match fs[f]? with
  |some (o,u)=>
   match T.get u with
   |some ti=>if ti.desc.agg then some (.agg ((l.drop o).take ti.size))else(l[o]?).map .c
   |none=>none
  |none=>none
 |_,_=>none
def bq(T:F9)(src dst:Nat)(σ:St)(x:XV)(k:K Y):Option Y:=
 match(T.get src).map TI.desc,(T.get dst).map TI.desc,x with
 |some (.int _),some (.int κ),.c (.v (.int _) n)=>k (.c (.v (.int κ) (κ.wrap n))) σ
 |some .str,some .str,.c (.v .str s)=>k (.c (.v .str s)) σ
 |some .str,some (.sl e),.c (.v .str s)=>
  match(T.get e).map TI.desc with
  |some (.int .u8)=>if s.length≤Cg then k (.c (.ref σ.bx.length [])) (σ.new (.sl 9 (.int .u8) (s.map fun c=>(c.toNat:Int))))else none
  |_=>none
 |some (.sl e),some .str,.c x=>
  match(T.get e).map TI.desc,Hm σ.bx (.sl (.int .u8)) x with
  |some (.int .u8),some l=>k (.c (.v .str (l.map fun n:Int=>UInt8.ofNat n.toNat))) σ
  |_,_=>none
 |_,_,_=>none
def bw(T:F9)(t:Nat)(σ:St)(l c:XV)(k:K Y):Option Y:=
 match(T.get t).map TI.desc,S3 l,S3 c with
 |some (.sl e),some n,some m=>
  match F9.Vt T e with
  |some r=>if T.Lc t r then(if 0≤n∧n≤m∧m≤(Cg:Int)then k (.c (.ref σ.bx.length [])) (σ.new (.sl 9 r (List.replicate n.toNat r.z)))else none)else none
  |none=>none
 |_,_,_=>none
def UZ(T:F9)(fs:List ABP):List AV→List (Nat×XV)→Option (List AV)
 |cs,[]=>some cs
 |cs,(i,x)::l=>
  match fs[i]? with
  |some (o,u)=>
   match T.get u with
   |some ti=>if x.cells.length=ti.size∧ti.size≠0∧x.cells.all AV.known=true then(Og cs o x.cells).bind fun cs=>UZ T fs cs l else none
   |none=>none
  |none=>none
def Ps(r:Ty):Nat→Nat→List (Nat×XV)→List Bx→Nat→Option (List r.D×List Bx×Nat)
 |_,0,[],bx,d=>some ([],bx,d)
 |i,n+1,(j,x)::l,bx,d=>
  if i=j then(mr d r x bx).bind fun a=>(Ps r (i+1) n l a.2.1 a.2.2).map fun b=>(a.1::b.1,b.2)else none
 |i,n+1,[],bx,d=>(Ps r (i+1) n [] bx d).map fun b=>(r.z::b.1,b.2)
 |_,0,_::_,_,_=>none
def KX(T:F9)(t n:Nat)(parts:List (Nat×XV))(σ:St)(k:K Y):Option Y:=
 match(T.get t).map TI.desc with
 |some (.sl e)=>
  match F9.Vt T e with
  |some r=>if T.Lc t r&&decide (n≤1024)&&decide (r.n≤1024)then(Ps r 0 n parts σ.bx 9).bind fun a=>k (.c (.ref a.2.1.length [])) { σ with bx:=a.2.1++[.sl a.2.2 r a.1] }else none
  |none=>none
 |_=>none
def OQ(T:F9)(t:Nat)(σ:St)(x i:XV)(k:K Y):Option Y:=
 match x,S3 i with
 | .c (.v .str s),some i=>if T.isStr t then if 0≤i∧i<(s.length:Int)then k (.c (.v (.int .u8) ((s.getD i.toNat 0).toNat:Int))) σ else none else none
 |_,_=>none
def aN(x:XV)(i:Nat):Option XV:=
 match x with
 | .Hd l=>match l[i]? with
  |some (.inl a)=>some (.c a)
  |some (.inr q)=>some (.agg q)
  |none=>none
 |_=>none
def Cn(m:JN):AV→AV
 | .ref b (s::p)=>if m.contains (some b)then .undef else .ref b (s::p)
 | .win b (s::p) i n=>if m.contains (some b)then .undef else .win b (s::p) i n
 | .FP b (s::p) i sz j=>if m.contains (some b)then .undef else .FP b (s::p) i sz j
 |x=>x
def M4(m:JN):XV→XV
 | .c x=> .c (Cn m x)
 | .agg l=> .agg (l.map (Cn m))
 | .Hd l=> .Hd (l.map fun| .inl x=> .inl (Cn m x)| .inr q=> .inr (q.map (Cn m)))
def mG(m:JN):Bx→Bx
 | .mem cs=> .mem (cs.map (Cn m))
 |x=>x
def St.O8(m:JN)(σ:St):St:=
 match m with
 |[]=>σ
 |_::_=>{ tm:=σ.tm.map (M4 m),bx:=σ.bx.map (mG m) }
def Xn(c:NK)(args:List XV)(σ:St)(k:K Y):Option Y:=
 if args.length=c.ins.CJ.length then
  match c.ins.fit σ.bx.length c.ins.m0 args (c.ins.opens σ.bx)with
  |some (v,m)=>(c.g v).bind fun u=>
   let Fo:=QA m (c.ins.opens σ.bx).length
   let σ1:=({ σ with bx:=c.ins.opens σ.bx }:St).O8 m
   k (Tq c.outs.CJ u.1 Fo) { σ1 with bx:=Qx Fo 0 c.outs.Dk u.2 (Bh σ1.bx m) }
  |none=>none
 else none
def RY(σ:St)(x:XV)(k:K Y):Option Y:=
 match x with
 | .c (.win b [] off n)=>
  (Yl σ.bx (.win b [] off n)).bind fun s=>k (.c (.ref s.2.2.1.length [])) { σ with bx:=s.2.2.1++[.sl s.2.2.2 s.1 s.2.1] }
 |x=>k x σ
def fX(l:List XV):Option ABC:=
 match l with
 |[]=>some []
 | .c (.Eb b 0)::l=>(fX l).map fun r=>b::r
 |_=>none
def du(big:Bool)(a b:XV)(k:AV→Option Y):Option Y:=
 match a,b with
 | .c (.v (.int j) x),.c (.v (.int j') y)=>
  if j=j' then(if big then k (.v (.int j) (if y>x then y else x))else k (.v (.int j) (if y<x then y else x)))else none
 |_,_=>none
def PJ(T:F9)(Γ:Nat→Option NK)(o:Oper)(σ:St)(k:K Y):Option Y:=
 match o.op with
 | .move x=>k (σ.ev x) σ
 | .assign x=>RY σ (σ.ev x) k
 | .pick c a b=>match σ.ev c with
  | .c (.v .bool x)=>lq x (σ.ev a) (σ.ev b) σ k
  |_=>none
 | .alloc t=>match F9.Vt T t with
  |some r=>k (.c (.Eb σ.bx.length 0)) (σ.new (.mem (Rw r)))
  |none=>none
 | .box t x=>match T.get t with
  |some ti=>if(σ.ev x).cells.length=ti.size∧ti.size≠0∧(σ.ev x).cells.all AV.known=true then k (.c (.Eb σ.bx.length 0)) (σ.new (.mem (σ.ev x).cells))else none
  |none=>none
 | .build t parts=>match T.get t,F9.Vt T t with
  |some ⟨_,_,.st fs,_⟩,some r=>match UZ T fs (Rw r) (parts.toList.map fun q=>(q.1,σ.ev q.2))with
   |some cs=>k (.agg cs) σ
   |none=>none
  |_,_=>none
 | .buildSlice t n parts=>KX T t n (parts.toList.map fun q=>(q.1,σ.ev q.2)) σ k
 | .load t a=>match XS T t σ (σ.ev a)with
  |some x=>k x σ
  |none=>none
 | .store t a x=>match T.get t with
  |some ti=>if(σ.ev x).cells.length=ti.size∧ti.size≠0∧(σ.ev x).cells.all AV.known=true then(match Kr σ (σ.ev a) (σ.ev x)with
   |some σ=>k (.c .undef) σ
   |none=>none)else none
  |none=>none
 | .nilCheck x=>match σ.ev x with
  | .c (.Eb b j)=>k (.c (.Eb b j)) σ
  | .c (.FP b p i sz j)=>k (.c (.FP b p i sz j)) σ
  | .c (.Iv s r y j)=>k (.c (.Iv s r y j)) σ
  | .c (.fn f Fq)=>k (.c (.fn f Fq)) σ
  |_=>none
 | .binOp op t x y _=>fJ T t op (σ.ev x) (σ.ev y) fun a=>k (.c a) σ
 | .unOp op _ x=>vB op (σ.ev x) fun a=>k (.c a) σ
 | .convert s d x=>bq T s d σ (σ.ev x) k
 | .makeFunc (.func f) first Fq=>if first.size=0 then(match fX (Fq.toList.map σ.ev)with
  |some bs=>k (.c (.fn f bs)) σ
  |none=>none)else none
 | .makeSlice t l c=>bw T t σ (σ.ev l) (σ.ev c) k
 | .slice t x lo hi none=>Wg T t σ (σ.ev x) (lo.map σ.ev) (hi.map σ.ev) k
 | .fieldAddr t x f=>match dp T t (σ.ev x) f with
  |some y=>k y σ
  |none=>none
 | .field t x f=>match nP T t (σ.ev x) f with
  |some y=>k y σ
  |none=>none
 | .indexAddr t x i=>Wf σ T t (σ.ev x) (σ.ev i) k
 | .index t x i=>OQ T t σ (σ.ev x) (σ.ev i) k
 | .extract x i=>match aN (σ.ev x) i with
  |some y=>k y σ
  |none=>none
 | .call { callee:= .value f,args,.. }=>match σ.ev f with
  | .c (.fn f Fq)=>match Γ f with
   |some c=>Xn c (args.toList.map σ.ev++Fq.map fun b=> .c (.Eb b 0)) σ k
   |none=>none
  | .c (.dI f rows)=>match Γ f with
   |some c=>Xn c (args.toList.map σ.ev++rows.map fun q=> .c (.Iv false q.1 q.2 0)) σ k
   |none=>none
  |_=>none
 | .call { callee:= .builtin .len,args,argTypes }=>match args.toList.map σ.ev,argTypes[0]? with
  |[.c (.v .str s)],some t=>if T.isStr t then k (.c (.v (.int .i64) (s.length:Int))) σ else none
  |[.c x],some t=>if T.qu t then(match lenOf σ.bx x with
   |some n=>k (.c (.v (.int .i64) (n:Int))) σ
   |none=>none)else none
  |_,_=>none
 | .call { callee:= .builtin .append,args,argTypes }=>match args.toList.map σ.ev with
  |[a,x]=>Te T argTypes σ a x k
  |_=>none
 | .call { callee:= .builtin .clear,args,argTypes }=>match args.toList.map σ.ev with
  |[x]=>WM T argTypes σ x k
  |_=>none
 | .call { callee:= .builtin .max,args,.. }=>match args.toList.map σ.ev with
  |[a,x]=>du true a x fun a=>k (.c a) σ
  |_=>none
 | .call { callee:= .builtin .min,args,.. }=>match args.toList.map σ.ev with
  |[a,x]=>du false a x fun a=>k (.c a) σ
  |_=>none
 |_=>none
end ops
end Go.Fw
end
section
namespace Go.Fw
section
variable{Y:Type}
structure V_ where
 T:F9
 Γ:Nat→Option NK
 hint:Nat→List Nat
def U4(hint:ABC):XV→Bool
 | .c (.Eb b _)=>hint.contains b
 | .c (.FP b _ _ _ _)=>hint.contains b
 | .c (.Iv _ _ _ _)=>true
 |_=>false
def Vu(hint:ABC)(σ:St):Op→Bool
 | .assign x=>match σ.ev x with
  | .c (.win _ [] _ _)=>false
  |_=>true
 | .move _| .pick .. | .nilCheck _| .binOp .. | .unOp .. | .fieldAddr .. | .field .. | .indexAddr .. | .index .. | .extract .. | .build .. =>true
 | .slice _ _ _ _ none=>true
 | .load _ a=>U4 hint (σ.ev a)
 | .call { callee:= .builtin .len,.. }=>true
 | .call { callee:= .builtin .max,.. }=>true
 | .call { callee:= .builtin .min,.. }=>true
 |_=>false
def Eu(Γ:Nat→Option NK)(σ:St):Op→List Nat
 | .store _ a _=>match σ.ev a with
  | .c (.Eb b _)=>[b]
  | .c (.FP b _ _ _ _)=>[b]
  |_=>[]
 | .call { callee:= .value f,args,.. }=>match σ.ev f with
  | .c (.fn f Fq)=>match Γ f with
   |some c=>match c.ins.fit σ.bx.length c.ins.m0 (args.toList.map σ.ev++Fq.map fun b=> .c (.Eb b 0)) (c.ins.opens σ.bx)with
    |some (_,m)=>m.filterMap id
    |none=>[]
   |none=>[]
  | .c (.dI f rows)=>match Γ f with
   |some c=>match c.ins.fit σ.bx.length c.ins.m0 (args.toList.map σ.ev++rows.map fun q=> .c (.Iv false q.1 q.2 0)) (c.ins.opens σ.bx)with
    |some (_,m)=>m.filterMap id
    |none=>[]
   |none=>[]
  |_=>[]
 | .call { callee:= .builtin .clear,args,.. }=>match args.toList.map σ.ev with
  |[.c (.win b _ _ _)]=>[b]
  |_=>[]
 |_=>[]
def tt:XV:= .c (.v .bool true)
def ff:XV:= .c (.v .bool false)
def jd(C:V_)(ops:Array Oper)(o:Oper)(kn:St→Option Y)(σ:St):Option Y:=
 match o.guard with
 |none=>PJ C.T C.Γ o σ fun x σ' =>kn (σ'.put o.dst x)
 |some (j,want)=>
  match(ops[j]?).bind (·.dst)with
  |some t=>
   match σ.tm[t]? with
   |some (.c (.v .bool b))=>
    let yes (σ:St):Option Y:=PJ C.T C.Γ o σ fun x σ' =>kn (σ'.put o.dst x)
    let no (σ:St):Option Y:=kn (σ.put o.dst (.Hd []))
    cond b ((if want then yes else no) (σ.put (some t) tt)) ((if want then no else yes) (σ.put (some t) ff))
   |some (.Hd [])=>kn (σ.put o.dst (.Hd []))
   |_=>none
  |none=>none
def dG(C:V_)(all:Array Oper):List Oper→(St→Option Y)→St→Option Y
 |[],kn,σ=>kn σ
 |o::rest,kn,σ=>jd C all o (fun σ' =>dG C all rest kn σ') σ
def jY(C:V_)(ops:Array Oper)(i:Nat)(kn:St→Option Y)(σ:St):Option Y:=
 match ops[i]? with
 |none=>none
 |some o=>jd C ops o kn σ
def WJ(bx:List Bx)(b:Nat):Bool:=
 match bx[b]? with
 |some .dead=>true
 |some _=>false
 |none=>true
def idle(ops:Array Oper)(σ:St)(o:Oper):Bool:=
 match o.guard with
 |none=>false
 |some (j,want)=>
  match(ops[j]?).bind (·.dst)with
  |some t=>
   match σ.tm[t]? with
   |some (.c (.v .bool b))=>b !=want
   |some (.Hd [])=>true
   |_=>false
  |none=>false
def aB(hint:ABC)(ops:Array Oper)(listed:Array Bool)(σ:St)(i:Nat):Bool:=
 match ops[i]? with
 |some o=>(Vu hint σ o.op||idle ops σ o)&&Region.free .any ops listed i
 |none=>false
def dh(f:Nat→List Bool→Option Y):List Nat→List Bool→Option Y
 |[],_=>none
 |[i],ω=>f i ω
 |i::_::_,[]=>f i []
 |i::_::_,true::ω=>f i ω
 |_::j::r,false::ω=>dh f (j::r) ω
def MK(C:V_)(hint:ABC)(ops:Array Oper)(kn:List Bool→St→Option Y):Nat→Array Bool→List Bool→St→Option Y
 |fuel,listed,ω,σ=>
  if hint.all (fun b=> !WJ σ.bx b)then
   match Region.ready .any ops listed with
   |[]=>kn ω σ
   |rs=>
    match fuel with
    |0=>none
    |fuel+1=>
     match rs.find? (aB hint ops listed σ)with
     |some i=>jY C ops i (fun σ' =>MK C hint ops kn fuel (listed.setIfInBounds i true) ω σ') σ
     |none=>dh (fun i ω=>
      match ops[i]? with
      |some o=>if(Eu C.Γ σ o.op).all (fun b=> !hint.contains b)then jY C ops i (fun σ' =>MK C hint ops kn fuel (listed.setIfInBounds i true) ω σ') σ else none
      |none=>none) rs ω
  else none
def first:Code→Nat
 | .region id _ _=>id
 | .seq a _=>first a
 | .cond _ a _=>first a
 | .block _ a=>first a
 | .loop a=>first a
 | .scope a=>first a
 |_=>0
abbrev KN(Y:Type):=List Bool→St→Option Y
def run(C:V_)(J:Nat→St→Option Y):Code→KN Y→(Nat→KN Y)→KN Y→KN Y
 | .skip,kn,_,_,ω,σ=>kn ω σ
 | .region id ops draw,kn,_,_,ω,σ=>
  if draw then(if Region.noSelect ops then MK C (C.hint id) ops kn ops.size (Array.replicate ops.size false) ω σ else none)else dG C ops ops.toList (kn ω) σ
 | .seq a b,kn,kx,kr,ω,σ=>run C J a (fun ω σ=>run C J b kn kx kr ω σ) kx kr ω σ
 | .cond (.tmp t) a b,kn,kx,kr,ω,σ=>
  match σ.tm[t]? with
  |some (.c (.v .bool x))=>cond x (run C J a kn kx kr ω (σ.put (some t) tt)) (run C J b kn kx kr ω (σ.put (some t) ff))
  |_=>none
 | .block id body,kn,kx,kr,ω,σ=>run C J body kn (fun j ω σ=>if j=id then kn ω σ else kx j ω σ) kr ω σ
 | .loop body,_,_,_,_,σ=>J (first body) σ
 | .exit id,_,kx,_,ω,σ=>kx id ω σ
 | .ret,_,_,kr,ω,σ=>kr ω σ
 |_,_,_,_,_,_=>none
def find(C:V_)(J:Nat→St→Option Y)(ℓ :Nat):Code→KN Y→(Nat→KN Y)→KN Y→Option (KN Y)
 | .seq a b,kn,kx,kr=>
  match find C J ℓ a (fun ω σ=>run C J b kn kx kr ω σ) kx kr with
  |some f=>some f
  |none=>find C J ℓ b kn kx kr
 | .cond _ a b,kn,kx,kr=>
  match find C J ℓ a kn kx kr with
  |some f=>some f
  |none=>find C J ℓ b kn kx kr
 | .block id body,kn,kx,kr=>find C J ℓ body kn (fun j ω σ=>if j=id then kn ω σ else kx j ω σ) kr
 | .loop body,_,kx,kr=>
  if first body= ℓ then some (fun ω σ=>run C J body (fun _ σ=>J ℓ σ) kx kr ω σ)else find C J ℓ body (fun _ σ=>J (first body) σ) kx kr
 |_,_,_,_=>none
def l9(T:F9)(σ:St):ResultVar→Option XV
 | .tmp t=>σ.tm[t]?
 | .cell a t=>match σ.tm[a]? with
  |some x=>XS T t σ x
  |none=>none
def ft:List XV→Option (List (AV ⊕ List AV))
 |[]=>some []
 | .c x::l=>(ft l).map fun r=> .inl x::r
 | .agg q::l=>(ft l).map fun r=> .inr q::r
 |_=>none
def V0(T:F9)(σ:St)(rs:List ResultVar):Option XV:=
 match rs.mapM (l9 T σ)with
 |some [x]=>some x
 |some l=>(ft l).map .Hd
 |none=>none
def Lt:Nat→Nat→List BP→JN
 |_,_,[]=>[]
 |i,n,p::l=>(match p with| .gone=>none|_=>if i<n then some i else none)::Lt (i+1) n l
def AV.aR(b:Nat)(r:Ty)(rows:List r.D):AV→AV
 | .ref k []=>if k=b then .sl true r rows else .ref k []
 |x=>x
def XV.aR(b:Nat)(r:Ty)(rows:List r.D):XV→XV
 | .c x=> .c (x.aR b r rows)
 |x=>x
def Bx.aR(b:Nat)(r:Ty)(rows:List r.D):Bx→Bx
 | .mem cs=> .mem (cs.map (AV.aR b r rows))
 |x=>x
def St.aR(b:Nat)(σ:St):St:=
 match σ.bx[b]? with
 |some (.sl _ r rows)=>{ tm:=σ.tm.map (XV.aR b r rows),bx:=(σ.bx.set b .dead).map (Bx.aR b r rows) }
 |_=>σ
def Du:List AP→List AV→St→St
 | .sl true _::l,.ref b []::xs,σ=>Du l xs (σ.aR b)
 |_::l,_::xs,σ=>Du l xs σ
 |_,_,σ=>σ
def RM:List (AP ⊕ List AP)→List (AV ⊕ List AV)→St→St
 | .inl p::l,.inl x::xs,σ=>RM l xs (Du [p] [x] σ)
 | .inr p::l,.inr x::xs,σ=>RM l xs (Du p x σ)
 |_::l,_::xs,σ=>RM l xs σ
 |_,_,σ=>σ
def ADE:XP→XV→St→St
 | .c p,.c x,σ=>Du [p] [x] σ
 | .agg l,.agg xs,σ=>Du l xs σ
 | .Hd l,.Hd xs,σ=>RM l xs σ
 |_,_,σ=>σ
def W8(l:List (Nat×XP))(x:XV)(σ:St):St:=
 match l with
 |(_,p)::_=>ADE p x σ
 |[]=>σ
def bd(T:F9)(c:NK)(rs:List ResultVar)(σ:St):Option c.outs.V:=
 (V0 T σ rs).bind fun x=>
  let σ:=W8 c.outs.CJ x σ
  (V0 T σ rs).bind fun x=>(c.outs.fit σ.bx.length (Lt 0 c.ins.Dk.length c.outs.Dk) [x] (c.outs.opens σ.bx)).map fun q=>q.1
def HJ(C:V_)(c:NK)(fn:Func)(J:Nat→St→Option c.outs.V)(ω:List Bool)(v:c.ins.V):Option c.outs.V:=
 match fn.body with
 |some code=>run C J code (fun _=>bd C.T c fn.results.toList) (fun _ _ _=>none) (fun _=>bd C.T c fn.results.toList) ω (c.ins.st fn.ntmps v)
 |none=>none
def Hn(C:V_)(c:NK)(fn:Func)(J:Nat→St→Option c.outs.V)(ℓ :Nat)(ω:List Bool)(σ:St):Option c.outs.V:=
 match fn.body with
 |some code=>
  match find C J ℓ code (fun _=>bd C.T c fn.results.toList) (fun _ _ _=>none) (fun _=>bd C.T c fn.results.toList)with
  |some f=>f ω σ
  |none=>none
 |none=>none
def JX(bs:List BP):List (Nat×XP)→St→St
 |[],σ=>σ
 |(i,.c (.sl true r))::l,σ=>
  match σ.tm[i]? with
  |some (.c x)=>JX bs l (Du [.sl true r] [x] σ)
  |_=>JX bs l σ
 |(i,.c (.ptr k _))::l,σ=>
  match bs[k]?,σ.tm[i]? with
  |some (.mem ps),some (.c (.Eb b _))=>
   match σ.bx[b]? with
   |some (.mem cs)=>JX bs l (Du ps cs σ)
   |_=>JX bs l σ
  |_,_=>JX bs l σ
 |_::l,σ=>JX bs l σ
def AV.cJ:AV→Bool
 | .ref _ _| .win _ _ _ _| .sl _ _ _| .nil=>true
 |_=>false
def St.forget(b j:Nat)(σ:St):St:=
 match σ.bx[b]? with
 |some (.mem cs)=>
  match cs[j]? with
  |some x=>if x.cJ then{ σ with bx:=σ.bx.set b (.mem (cs.set j (.ref σ.bx.length [])))++[.dead] }else σ
  |none=>σ
 |_=>σ
def Oj(bs:List BP)(b:Nat):Nat→List AP→St→St
 |_,[],σ=>σ
 |j,p::l,σ=>Oj bs b (j+1) l (match p with
  | .ref q=>match bs[q]? with
   |some .gone=>σ.forget b j
   |_=>σ
  |_=>σ)
def TL(bs:List BP):List (Nat×XP)→St→St
 |[],σ=>σ
 |(i,p)::l,σ=>TL bs l (match p with
  | .c (.ptr k _)=>match bs[k]?,σ.tm[i]? with
   |some (.mem ps),some (.c (.Eb b _))=>Oj bs b 0 ps σ
   |_,_=>σ
  |_=>σ)
def jump(nb:Nat)(s:CI)(f:s.V→Option Y)(σ:St):Option Y:=
 if nb≤s.Dk.length then
  let σ:=TL s.Dk s.CJ (JX s.Dk s.CJ σ)
  (s.fit σ.bx.length (Lt 0 nb s.Dk) σ.tm (s.opens σ.bx)).bind fun q=>f q.1
 else none
end
end Go.Fw
end
section
namespace Go.Fw
def Bb(w:World)(b o:Nat)(cs:List Value):Prop:= ∀j v,cs[j]? =some v→w.cell? ⟨b,o+j,none⟩=some v
def Rd(w:World)(B:Nat→Prop):(t:Ty)→List Value→t.D→Prop
 | .int k,vs,x=>vs=[.int k x]
 | .bool,vs,x=>vs=[.bool x]
 | .str,vs,x=>vs=[.string ⟨x.toArray⟩]
 | .sl r,vs,x=> ∃a cap,vs=[.slice a (List.length x) cap]∧List.length x≤cap∧(List.length x=0∨ ∃b o,a=some ⟨b,o,none⟩∧B b∧
  ∀(i:Nat) (y:r.D),x[i]? =some y→ ∃cs,cs.length=r.n∧Bb w b (o+i*r.n) cs∧Rd w B r cs y)
 | .unit,vs,_=>vs=[]
 | .cons c r,vs,x=> ∃v l,vs=v::l∧Rd w B c [v] x.1∧Rd w B r l x.2
def iF(fr:ABP)(n:Nat):Prop:= ∀i,i<n→ ¬(fr.1≤i∧i<fr.2)
def mk:Ty→Nat
 | .int .u8=>0
 |_=>1
def Ow(w:World)(S:Nat→Prop):(d:Nat)→(t:Ty)→List Value→t.D→List Nat→Prop
 |0,.sl r,vs,x,F=>Rd w S (.sl r) vs x∧F=[]
 |d+1,.sl r,vs,x,F=> ∃a cap,vs=[.slice a (List.length x) cap]∧List.length x≤cap∧
  ((
   cap=0∧F=[])∨ ∃b o arr ty fr Fs,a=some ⟨b,o,none⟩∧w.heap[b]? =some (.cells arr ty fr)∧o+cap*r.n≤arr.size∧iF fr (arr.size+mk r)∧
   F=b::List.flatten Fs∧Fs.length=List.length x∧
   ∀(i:Nat) (y:r.D) (G:ABC),x[i]? =some y→Fs[i]? =some G→ ∃cs,cs.length=r.n∧Bb w b (o+i*r.n) cs∧Ow w S d r cs y G)
 |d,.cons c r,vs,x,F=> ∃v l F1 F2,vs=v::l∧F=F1++F2∧Ow w S d c [v] x.1 F1∧Ow w S d r l x.2 F2
 |_,.unit,vs,_,F=>vs=[]∧F=[]
 |_,.int k,vs,x,F=>vs=[.int k x]∧F=[]
 |_,.bool,vs,x,F=>vs=[.bool x]∧F=[]
 |_,.str,vs,x,F=>vs=[.string ⟨x.toArray⟩]∧F=[]
theorem WL{w B}:∀{t:Ty} {vs x},Rd w B t vs x→vs.length=t.n
 | .int _,_,_,h=>by simp only[Rd]at h;subst h;rfl
 | .bool,_,_,h=>by simp only[Rd]at h;subst h;rfl
 | .str,_,_,h=>by simp only[Rd]at h;subst h;rfl
 | .sl _,_,_,h=>by simp only[Rd]at h;obtain⟨_,_,h,_⟩:=h;subst h;rfl
 | .unit,_,_,h=>by simp only[Rd]at h;subst h;rfl
 | .cons _ _,_,_,h=>by
  simp only[Rd]at h;obtain⟨_,_,rfl,_,h⟩:=h;simp[Ty.n,WL h]
theorem Od{w S}:∀{d} {t:Ty} {vs x F},Ow w S d t vs x F→vs.length=t.n
 |_,.int _,_,_,_,h=>by simp only[Ow]at h;rw[h.1];rfl
 |_,.bool,_,_,_,h=>by simp only[Ow]at h;rw[h.1];rfl
 |_,.str,_,_,_,h=>by simp only[Ow]at h;rw[h.1];rfl
 |0,.sl _,_,_,_,h=>by simp only[Ow]at h;exact WL h.1
 |_+1,.sl _,_,_,_,h=>by simp only[Ow]at h;obtain⟨_,_,h,_⟩:=h;subst h;rfl
 |_,.unit,_,_,_,h=>by simp only[Ow]at h;rw[h.1];rfl
 |_,.cons _ _,_,_,_,h=>by
  simp only[Ow]at h;obtain⟨_,_,_,_,rfl,_,_,h⟩:=h;simp[Ty.n,Od h]
theorem Bb.of_block{w w':World}{b o:Nat}{cs:List Value}(h:Bb w b o cs)(hb:w'.heap[b]? =w.heap[b]?):Bb w' b o cs:=
 fun j v hj=>(World.cell?_of_block (a:=⟨b,o+j,none⟩) hb).trans (h j v hj)
theorem Cv{w w':World}{B B':Nat→Prop}(hB:∀b,B b→B' b)(hw:∀b,B b→w'.heap[b]? =w.heap[b]?):∀{t:Ty} {vs x},Rd w B t vs x→Rd w' B' t vs x
 | .int _,_,_,h=>by simpa only[Rd]using h
 | .bool,_,_,h=>by simpa only[Rd]using h
 | .str,_,_,h=>by simpa only[Rd]using h
 | .unit,_,_,h=>by simpa only[Rd]using h
 | .sl r,_,_,h=>by
  simp only[Rd]at h⊢;obtain⟨a,cap,h1,h2,h3⟩:=h;refine⟨a,cap,h1,h2,h3.imp id ?_⟩
  rintro⟨b,o,ha,hb,h⟩
  refine⟨b,o,ha,hB b hb,fun i y hy=> ?_⟩;obtain⟨cs,hl,hc,hr⟩:=h i y hy;exact⟨cs,hl,hc.of_block (hw b hb),Cv hB hw hr⟩
 | .cons _ _,_,_,h=>by
  simp only[Rd]at h⊢;obtain⟨v,l,h1,h2,h3⟩:=h;exact⟨v,l,h1,Cv hB hw h2,Cv hB hw h3⟩
theorem CT{w w':World}{S S':Nat→Prop}(hS:∀b,S b→S' b)(hw:∀b,S b→w'.heap[b]? =w.heap[b]?):
  ∀{d} {t:Ty} {vs x F},(∀b∈F,w'.heap[b]? =w.heap[b]?)→Ow w S d t vs x F→Ow w' S' d t vs x F
 |_,.int _,_,_,_,_,h=>by simpa only[Ow]using h
 |_,.bool,_,_,_,_,h=>by simpa only[Ow]using h
 |_,.str,_,_,_,_,h=>by simpa only[Ow]using h
 |_,.unit,_,_,_,_,h=>by simpa only[Ow]using h
 |0,.sl r,_,_,_,_,h=>by
  simp only[Ow]at h⊢;exact⟨Cv hS hw h.1,h.2⟩
 |d+1,.sl r,_,x,F,hF,h=>by
  simp only[Ow]at h⊢;obtain⟨a,cap,h1,h2,h3⟩:=h;refine⟨a,cap,h1,h2,h3.imp id ?_⟩
  rintro⟨b,o,arr,ty,fr,Fs,ha,hb,h4,h5,h6,h7,h⟩
  subst h6;have oF:=hF b (by simp);refine⟨b,o,arr,ty,fr,Fs,ha,oF.trans hb,h4,h5,rfl,h7,fun i y G hy hG=> ?_⟩;obtain⟨cs,hl,hc,hr⟩:=h i y G hy hG;refine⟨cs,hl,hc.of_block oF,CT hS hw (fun c hc=>hF c ?_) hr⟩;exact AGT _ (AE5.2 ⟨G,AEN hG,hc⟩)
 |_,.cons _ _,_,_,_,hF,h=>by
  simp only[Ow]at h⊢;obtain⟨v,l,F1,F2,h1,h2,h3,h4⟩:=h;subst h2;exact⟨v,l,F1,F2,h1,rfl,CT hS hw (fun c hc=>hF c (by simp[hc])) h3,CT hS hw (fun c hc=>hF c (by simp[hc])) h4⟩
theorem Pj{w:World}{S:Nat→Prop}:∀{d} {t:Ty} {vs x F},Ow w S d t vs x F→Rd w (fun b=>S b∨b∈F) t vs x
 |_,.int _,_,_,_,h=>by simp only[Ow]at h;simp only[Rd];exact h.1
 |_,.bool,_,_,_,h=>by simp only[Ow]at h;simp only[Rd];exact h.1
 |_,.str,_,_,_,h=>by simp only[Ow]at h;simp only[Rd];exact h.1
 |_,.unit,_,_,_,h=>by simp only[Ow]at h;simp only[Rd];exact h.1
 |0,.sl r,_,_,_,h=>by
  simp only[Ow]at h;exact Cv (fun b hb=> .inl hb) (fun _ _=>rfl) h.1
 |d+1,.sl r,_,x,F,h=>by
  simp only[Ow]at h;simp only[Rd];obtain⟨a,cap,h1,h2,h3⟩:=h;refine⟨a,cap,h1,h2,?_⟩;rcases h3 with⟨hc,_⟩|⟨b,o,arr,ty,fr,Fs,ha,hb,h4,h5,h6,h7,h⟩
  ·exact .inl (by omega)
  ·refine .inr ⟨b,o,ha,.inr (by simp[h6]),fun i y hy=> ?_⟩
   have hi:i<Fs.length:=by
    have:=(AD7.1 hy).1;omega
   obtain⟨cs,hl,hc,hr⟩:=h i y Fs[i] hy (AD9 hi);refine⟨cs,hl,hc,Cv ?_ (fun _ _=>rfl) (Pj hr)⟩;intro c UK;rcases UK with UK|UK
   ·exact .inl UK
   ·exact .inr (by rw[h6];exact AGT _ (AE5.2 ⟨_,AEa hi,UK⟩))
 |_,.cons _ _,_,_,_,h=>by
  simp only[Ow]at h;simp only[Rd];obtain⟨v,l,F1,F2,h1,h2,h3,h4⟩:=h;subst h2;refine⟨v,l,h1,Cv ?_ (fun _ _=>rfl) (Pj h3),Cv ?_ (fun _ _=>rfl) (Pj h4)⟩
  ·intro c hc;exact hc.imp id (by simp_all)
  ·intro c hc;exact hc.imp id (by simp_all)
theorem Fv{w:World}{S:Nat→Prop}:∀{d d'} {t:Ty} {vs x F},d≤d'→Ow w S d' t vs x F→
  ∃F1 F2,F.Perm (F1++F2)∧Ow w (fun b=>S b∨b∈F2) d t vs x F1
 |_,_,.int _,_,_,_,_,h=>by simp only[Ow]at h⊢;exact⟨[],[],by rw[h.2];simp,h.1,rfl⟩
 |_,_,.bool,_,_,_,_,h=>by simp only[Ow]at h⊢;exact⟨[],[],by rw[h.2];simp,h.1,rfl⟩
 |_,_,.str,_,_,_,_,h=>by simp only[Ow]at h⊢;exact⟨[],[],by rw[h.2];simp,h.1,rfl⟩
 |_,_,.unit,_,_,_,_,h=>by simp only[Ow]at h⊢;exact⟨[],[],by rw[h.2];simp,h.1,rfl⟩
 |0,d',.sl r,_,x,F,_,h=>by
  refine⟨[],F,by simp,?_⟩;simp only[Ow];exact⟨Pj h,trivial⟩
 |d+1,0,.sl r,_,x,F,hd,h=>by omega
 |d+1,d'+1,.sl r,_,x,F,hd,h=>by
  simp only[Ow]at h⊢;obtain⟨a,cap,h1,h2,h3⟩:=h;rcases h3 with⟨hc,hF⟩|⟨b,o,arr,ty,fr,Fs,ha,hb,h4,h5,h6,h7,h⟩
  ·exact⟨[],[],by simp[hF],a,cap,h1,h2,.inl ⟨hc,rfl⟩⟩
  ·have key:∀(n:Nat) (Fs:List ABC) (y:List r.D),Fs.length=n→y.length=n→(∀(i:Nat) (z:r.D) (G:ABC),y[i]? =some z→Fs[i]? =some G→ ∃cs,cs.length=r.n∧Bb w b (o+i*r.n) cs∧Ow w S d' r cs z G)→
     ∃(Gs:List ABC) (F2:ABC),Fs.flatten.Perm (Gs.flatten++F2)∧Gs.length=n∧ ∀(i:Nat) (z:r.D) (G:ABC),y[i]? =some z→Gs[i]? =some G→ ∃cs,cs.length=r.n∧Bb w b (o+i*r.n) cs∧Ow w (fun b=>S b∨b∈F2) d r cs z G:=by
    intro n
    induction n with
    |zero=>
     intro Fs y hF hy _;obtain rfl:=AEg hF;exact⟨[],[],by simp,rfl,fun i z G _ hG=>by simp at hG⟩
    |succ n ih=>
     intro Fs y hF hy hh;obtain⟨Fs',G0,rfl⟩:∃l a,Fs=l++[a]:=⟨Fs.dropLast,Fs.getLast (by intro e;simp[e]at hF),(List.dropLast_concat_getLast _).symm⟩;obtain⟨y',z0,rfl⟩:∃l a,y=l++[a]:=⟨y.dropLast,y.getLast (by intro e;simp[e]at hy),(List.dropLast_concat_getLast _).symm⟩;simp only[AEM,AEI,AEc]at hF hy;obtain⟨Gs,F2,hp,hl,hg⟩:=ih Fs' y' (by omega) (by omega) (fun i z G hz hG=>hh i z G
      (by rw[AEG (AD7.1 hz).1];exact hz) (by rw[AEG (AD7.1 hG).1];exact hG))
     obtain⟨cs,cT,hc,ho⟩:=hh n z0 G0 (by rw[AES (by omega)];simp[show n-y'.length=0 by omega]) (by rw[AES (by omega)];simp[show n-Fs'.length=0 by omega]);obtain⟨H1,H2,hhp,hho⟩:=Fv (d:=d) (d':=d') (by omega) ho;refine⟨Gs++[H1],F2++H2,?_,by simp[hl],?_⟩
     ·simp only[AF_,AFO,AGy,AEX]
      refine(hp.append hhp).trans ?_
      rw[AEE,AEE];refine AE0 _ ?_
      rw[←AEE,←AEE];exact AEW _ AE4
     ·intro i z G hz hG
      by_cases hi:i<n
      ·rw[AEG (by omega)]at hz hG
       obtain⟨cs,e1,e2,e3⟩:=hg i z G hz hG;exact⟨cs,e1,e2,CT (by intro c hc;exact hc.imp id (by simp_all)) (fun _ _=>rfl) (fun _ _=>rfl) e3⟩
      ·have:i=n:=by
        have:=(AD7.1 hz).1;simp at this;omega
       subst this;rw[AES (by omega)]at hz hG;simp[show i-y'.length=0 by omega,show i-Gs.length=0 by omega]at hz hG;subst hz hG;exact⟨cs,cT,hc,CT (by intro c hc;exact hc.imp id (by simp_all)) (fun _ _=>rfl) (fun _ _=>rfl) hho⟩
   obtain⟨Gs,F2,hp,hl,hg⟩:=key _ Fs x h7 rfl h;refine⟨b::Gs.flatten,F2,?_,a,cap,h1,h2,.inr ⟨b,o,arr,ty,fr,Gs,ha,hb,h4,h5,rfl,hl,hg⟩⟩;rw[h6];exact List.Perm.cons _ hp
 |d,d',.cons _ _,_,_,_,hd,h=>by
  simp only[Ow]at h⊢;obtain⟨v,l,F1,F2,h1,h2,h3,h4⟩:=h;obtain⟨A1,A2,pa,oa⟩:=Fv hd h3;obtain⟨B1,B2,pb,ob⟩:=Fv hd h4;refine⟨A1++B1,A2++B2,?_,v,l,A1,B1,h1,rfl,CT (by intro c hc;exact hc.imp id (by simp_all)) (fun _ _=>rfl) (fun _ _=>rfl) oa,CT (by intro c hc;exact hc.imp id (by simp_all)) (fun _ _=>rfl) (fun _ _=>rfl) ob⟩;rw[h2];refine(pa.append pb).trans ?_
  rw[AEE,AEE];refine AE0 _ ?_
  rw[←AEE,←AEE];exact AEW _ AE4
def RB(w:World):(t:Ty)→List Value→t.D→Nat→Prop
 | .sl r,vs,x,c=> ∃b o len cap,vs=[.slice (some ⟨b,o,none⟩) len cap]∧0<List.length x∧
  (c=b∨ ∃(i:Nat) (y:r.D) (cs:List Value),x[i]? =some y∧cs.length=r.n∧Bb w b (o+i*r.n) cs∧RB w r cs y c)
 | .cons c r,vs,x,d=> ∃v l,vs=v::l∧(RB w c [v] x.1 d∨RB w r l x.2 d)
 |_,_,_,_=>False
theorem Bb.unique{w:World}{b o:Nat}{cs ds:List Value}(h:Bb w b o cs)(k:Bb w b o ds)(hl:cs.length=ds.length):cs=ds:=by
 apply List.ext_getElem hl;intro i h1 h2;have e1:=h i _ (AD9 h1);have e2:=k i _ (AD9 h2);rw[e1]at e2;exact AGR e2
theorem ck{w:World}{B:Nat→Prop}{c:Nat}:∀{t:Ty} {vs x},Rd w B t vs x→RB w t vs x c→B c
 | .int _,_,_,_,h=>by simp[RB]at h
 | .bool,_,_,_,h=>by simp[RB]at h
 | .str,_,_,_,h=>by simp[RB]at h
 | .unit,_,_,_,h=>by simp[RB]at h
 | .sl r,_,x,h,k=>by
  simp only[Rd]at h;simp only[RB]at k;obtain⟨a,cap,rfl,_,h⟩:=h;obtain⟨b,o,len,cap',e,hl,k⟩:=k;simp only[AEk,Value.slice.injEq,AFR]at e;obtain⟨rfl,rfl,rfl⟩:=e;rcases h with h|⟨b',o',e,hb,h⟩
  ·omega
  simp only[AD_,Addr.mk.injEq,AFR]at e;obtain⟨rfl,rfl⟩:=e;rcases k with rfl|⟨i,y,cs,hy,cT,hca,k⟩
  ·exact hb
  ·obtain⟨ds,d1,d2,d3⟩:=h i y hy
   have:=hca.unique d2 (by omega);subst this;exact ck d3 k
 | .cons _ _,_,_,h,k=>by
  simp only[Rd]at h;simp only[RB]at k;obtain⟨v,l,rfl,h1,h2⟩:=h;obtain⟨v',l',e,k⟩:=k;cases e;exact k.elim (ck h1) (ck h2)
theorem Ya{w w':World}{c:Nat}:∀{t:Ty} {vs x},(∀d,RB w t vs x d→w'.heap[d]? =w.heap[d]?)→RB w t vs x c→RB w' t vs x c
 | .int _,_,_,_,h=>by simp[RB]at h
 | .bool,_,_,_,h=>by simp[RB]at h
 | .str,_,_,_,h=>by simp[RB]at h
 | .unit,_,_,_,h=>by simp[RB]at h
 | .sl r,_,x,h,k=>by
  simp only[RB]at h k⊢;obtain⟨b,o,len,cap,e,hl,k⟩:=k;refine⟨b,o,len,cap,e,hl,?_⟩;rcases k with rfl|⟨i,y,cs,hy,cT,hca,k⟩
  ·exact .inl rfl
  ·have hb:=h b ⟨b,o,len,cap,e,hl,.inl rfl⟩
   exact .inr ⟨i,y,cs,hy,cT,hca.of_block hb,Ya (fun d hd=>h d ⟨b,o,len,cap,e,hl,.inr ⟨i,y,cs,hy,cT,hca,hd⟩⟩) k⟩
 | .cons _ _,_,_,h,k=>by
  simp only[RB]at h k⊢;obtain⟨v,l,e,k⟩:=k;refine⟨v,l,e,k.elim (fun k=> .inl (Ya (fun d hd=>h d ⟨v,l,e,.inl hd⟩) k)) (fun k=> .inr (Ya (fun d hd=>h d ⟨v,l,e,.inr hd⟩) k))⟩
end Go.Fw
end
section
namespace Go.Fw
def BU{α β:Type}(R:α→β→Prop):List α→List β→Prop
 |[],[]=>True
 |a::l,b::m=>R a b∧BU R l m
 |_,_=>False
theorem BU.len{α β:Type}{R:α→β→Prop}:∀{l:List α} {m:List β},BU R l m→l.length=m.length
 |[],[],_=>rfl
 |_::_,_::_,h=>by simp[BU.len h.2]
theorem BU.get{α β:Type}{R:α→β→Prop}:∀{l:List α} {m:List β} {i:Nat} {a:α},BU R l m→l[i]? =some a→ ∃b,m[i]? =some b∧R a b
 |_::_,_::_,0,a,h,e=>by simp at e;subst e;exact⟨_,rfl,h.1⟩
 |_::_,_::_,i+1,a,h,e=>by
  obtain⟨b,hb,hr⟩:=BU.get (i:=i) h.2 (by simpa using e);exact⟨b,by simpa using hb,hr⟩
 |[],[],_,_,_,e=>by simp at e
theorem BU.imp{α β:Type}{R S:α→β→Prop}(h:∀a b,R a b→S a b):∀{l:List α} {m:List β},BU R l m→BU S l m
 |[],[],_=>trivial
 |_::_,_::_,k=>⟨h _ _ k.1,BU.imp h k.2⟩
structure Env where
 EY:Nat→Nat
 Ei:Nat→Value
 T:Nat→Prop
 S:Nat→Prop
def Fb(w:World):Value→List Xm→Option Value
 |h,[]=>some h
 | .slice (some a) _ _,s::p=>
  match w.cell? ⟨a.block,a.off+s.i*s.sz+s.j,none⟩with
  |some h=>Fb w h p
  |none=>none
 |_,_::_=>none
def Bt:(r:Ty)→List r.D→List Xm→Prop
 |_,_,[]=>True
 |r,rows,s::p=>s.i<rows.length∧s.sz=r.n∧
  match AY r s.j (rowAt r rows s.i)with
  |some ⟨.sl q,x⟩=>Bt q x p
  |_=>False
def LJ(sz off n:Nat)(a:Option Addr)(cap:Nat):Value:=
 .slice (if cap=off then a else a.map (·.add (off*sz))) n (cap-off)
def isSlice:Value→Bool
 | .slice .. =>true
 |_=>false
def SM:Value→Bool
 | .pointer (some ⟨_,_,none⟩)=>true
 |_=>false
def RA(E:Env)(w:World)(q:(r:Ty)×r.D)(p:Value):Prop:= ∃bb o cs,p= .pointer (some ⟨bb,o,none⟩)∧E.T bb∧cs.length=q.1.n∧Bb w bb o cs∧Rd w E.T q.1 cs q.2
def VR(E:Env)(w:World)(vw:List Bx):AV→Value→Prop
 | .v t x,v=>t.scalar=true∧Rd w (fun _=>False) t [v] x
 | .sl s r x,v=>Rd w (if s then E.S else E.T) (.sl r) [v] x
 | .nil,v=>v= .slice none 0 0
 | .ref b p,v=>isSlice v=true∧match vw[b]? with
  |some (.sl _ r rows)=>Bt r rows p∧(∃q,Dl r rows p=some q)∧Fb w (E.Ei b) p=some v
  |some _=>True
  |none=>False
 | .win b p off n,v=>isSlice v=true∧match vw[b]? with
  |some (.sl _ r rows)=>Bt r rows p∧ ∃q ys a len cap,Dl r rows p=some ⟨q,ys⟩∧off+n≤List.length ys∧Fb w (E.Ei b) p=some (.slice a len cap)∧v=LJ q.n off n a cap
  |some _=>True
  |none=>False
 | .Eb b j,v=>b<vw.length∧v= .pointer (some ⟨E.EY b,j,none⟩)
 | .FP b p i sz j,v=>SM v=true∧match vw[b]? with
  |some (.sl _ r rows)=>Bt r rows p∧ ∃q ys bb o len cap,Dl r rows p=some ⟨q,ys⟩∧i<List.length ys∧Fb w (E.Ei b) p=some (.slice (some ⟨bb,o,none⟩) len cap)∧v= .pointer (some ⟨bb,o+i*sz+j,none⟩)
  |some _=>True
  |none=>False
 | .Iv s r x j,v=> ∃bb o cs,v= .pointer (some ⟨bb,o+j,none⟩)∧(if s then E.S else E.T) bb∧cs.length=r.n∧Bb w bb o cs∧Rd w (if s then E.S else E.T) r cs x
 | .fn f Fq,v=>(∀b∈Fq,b<vw.length)∧v= .func (.func f) #[] (Fq.map fun b=>Value.pointer (some ⟨E.EY b,0,none⟩)).toArray
 | .dI f rows,v=> ∃ps:List Value,v= .func (.func f) #[] ps.toArray∧BU (RA E w) rows ps
 | .iQ,v=>v= .pointer none
 | .undef,_=>True
def VF(E:Env)(w:World)(vw:List Bx)(l:List AV)(vs:List Value):Prop:=BU (VR E w vw) l vs
def TR(E:Env)(w:World)(vw:List Bx):AV ⊕ List AV→Value→Prop
 | .inl x,v=>VR E w vw x v
 | .inr q,v=> ∃vs,v= .agg vs∧VF E w vw q vs.toList
def XR(E:Env)(w:World)(vw:List Bx):XV→Value→Prop
 | .c x,v=>VR E w vw x v
 | .agg l,v=> ∃vs,v= .agg vs∧VF E w vw l vs.toList
 | .Hd l,v=> ∃vs,v= .tuple vs∧BU (TR E w vw) l vs.toList
def ZH(E:Env)(w:World)(vw:List Bx)(k:Nat):Bx→List Nat→Prop
 | .mem cs,F=>F=[E.EY k]∧ ∃arr ty fr,w.heap[E.EY k]? =some (.cells arr ty fr)∧iF fr (arr.size+1)∧VF E w vw cs arr.toList
 | .sl d r rows,F=>1≤d∧Ow w E.S d (.sl r) [E.Ei k] rows F
 | .dead,F=>F=[]
def Gok(E:Env)(w:World):Prop:= ∀w':World,(∀c,E.T c→w'.heap[c]? =w.heap[c]?)→GI w'
theorem Gok.mono{E E':Env}{w w':World}(h:Gok E w)(hT:∀c,E.T c→E'.T c)(hw:∀c,E.T c→w'.heap[c]? =w.heap[c]?):Gok E' w':=
 fun v hv=>h v fun c hc=>(hv c (hT c hc)).trans (hw c hc)
structure Sep (E:Env) (w:World) (F:ABC):Prop where
 nodup:F.Nodup
 free:∀c∈F,¬E.T c
 lt:∀c∈F,c<w.heap.size
 st:∀c,E.S c→E.T c
 TN:∀c,E.T c→c<w.heap.size
 eK:Gok E w
def H0(E:Env)(w:World)(vw bx:List Bx)(Fs:List ABC):Prop:=
 Fs.length=bx.length∧ ∀k B F,bx[k]? =some B→Fs[k]? =some F→ZH E w vw k B F
def Bm(E:Env)(w:World)(vw bx:List Bx)(G:ABC):Prop:=
 ∃Fs,H0 E w vw bx Fs∧Sep E w (Fs.flatten++G)
structure Le (E E':Env):Prop where
 EY:E'.EY=E.EY
 Ei:E'.Ei=E.Ei
 T:∀c,E.T c→E'.T c
 S:∀c,E.S c→E'.S c
 ru:∀c,E'.T c→E.T c∨E'.S c
 jL:∀c,E'.S c→E.S c∨ ¬E.T c
theorem Le.refl(E:Env):Le E E:=⟨rfl,rfl,fun _ h=>h,fun _ h=>h,fun _ h=> .inl h,fun _ h=> .inl h⟩
theorem Le.trans{E E' nv:Env}(h:Le E E')(k:Le E' nv):Le E nv:=
 ⟨k.EY.trans h.EY,k.Ei.trans h.Ei,fun c hc=>k.T c (h.T c hc),fun c hc=>k.S c (h.S c hc),
  fun c hc=>(k.ru c hc).elim (fun h' =>(h.ru c h').imp id (k.S c)) .inr,
  fun c hc=>(k.jL c hc).elim (h.jL c) (fun h' => .inr fun ht=>h' (h.T c ht))⟩
theorem Tm{w B}:∀{r:Ty} {cs x j t y},Rd w B r cs x→AY r j x=some ⟨t,y⟩→ ∃v,cs[j]? =some v∧Rd w B t [v] y
 | .cons c r,cs,x,0,t,y,h,e=>by
  simp only[Rd]at h;obtain⟨v,l,rfl,h1,h2⟩:=h;simp only[AY,AD_,AEP]at e;obtain⟨rfl,e⟩:=e;obtain rfl:=AE9 e;exact⟨v,rfl,h1⟩
 | .cons c r,cs,x,j+1,t,y,h,e=>by
  simp only[Rd]at h;obtain⟨v,l,rfl,h1,h2⟩:=h;simp only[AY]at e;obtain⟨u,hu,hr⟩:=Tm h2 e;exact⟨u,by simpa using hu,hr⟩
 | .int k,cs,x,0,t,y,h,e=>by
  simp only[AY,AD_,AEP]at e;obtain⟨rfl,e⟩:=e;obtain rfl:=AE9 e;simp only[Rd]at h;subst h;exact⟨_,rfl,by simp only[Rd]⟩
 | .bool,cs,x,0,t,y,h,e=>by
  simp only[AY,AD_,AEP]at e;obtain⟨rfl,e⟩:=e;obtain rfl:=AE9 e;simp only[Rd]at h;subst h;exact⟨_,rfl,by simp only[Rd]⟩
 | .str,cs,x,0,t,y,h,e=>by
  simp only[AY,AD_,AEP]at e;obtain⟨rfl,e⟩:=e;obtain rfl:=AE9 e;simp only[Rd]at h;subst h;exact⟨_,rfl,by simp only[Rd]⟩
 | .sl r,cs,x,0,t,y,h,e=>by
  simp only[AY,AD_,AEP]at e;obtain⟨rfl,e⟩:=e;obtain rfl:=AE9 e;have h':=h;simp only[Rd]at h;obtain⟨a,cap,rfl,_⟩:=h;exact⟨_,rfl,h'⟩
 | .unit,_,_,_,_,_,_,e=>by simp[AY]at e
 | .int _,_,_,_+1,_,_,_,e=>by simp[AY]at e
 | .bool,_,_,_+1,_,_,_,e=>by simp[AY]at e
 | .str,_,_,_+1,_,_,_,e=>by simp[AY]at e
 | .sl _,_,_,_+1,_,_,_,e=>by simp[AY]at e
theorem KR{r:Ty}{rows:List r.D}{i:Nat}(h:i<rows.length):rows[i]? =some (rowAt r rows i):=by
 simp[rowAt,h]
theorem Yj{w:World}{B:Nat→Prop}:∀{p:List Xm} {r:Ty} {h:Value} {rows:List r.D} {q:Ty} {ys:List q.D},
  Rd w B (.sl r) [h] rows→Bt r rows p→Dl r rows p=some ⟨q,ys⟩→
  ∃h',(∀w':World,(∀b,B b→w'.heap[b]? =w.heap[b]?)→Fb w' h p=some h')∧Rd w B (.sl q) [h'] ys
 |[],r,h,rows,q,ys,hr,_,hg=>by
  simp only[Dl,AD_,AEP]at hg;obtain⟨rfl,e⟩:=hg;obtain rfl:=AE9 e;exact⟨h,fun w' _=>by cases h<;>rfl,hr⟩
 |s::p,r,h,rows,q,ys,hr,hp,hg=>by
  simp only[Bt]at hp;obtain⟨hi,He,hp⟩:=hp;simp only[Dl]at hg;simp only[Rd]at hr;obtain⟨a,cap,hh,_,hr⟩:=hr;obtain rfl:=(AFs hh).1;rcases hr with hr|⟨b,o,rfl,hb,hr⟩
  ·omega
  obtain⟨cs,hl,hc,hrow⟩:=hr s.i _ (KR hi);split at hg
  ·rename_i q' x' Sw
   rw[Sw]at hp;obtain⟨v,hv,hrv⟩:=Tm hrow Sw;obtain⟨h',hh',PS⟩:=Yj hrv hp hg;refine⟨h',fun w' oC=> ?_,PS⟩;simp only[Fb];have Pn:w'.cell? ⟨b,o+s.i*s.sz+s.j,none⟩=some v:=by
    rw[He];exact(World.cell?_of_block (a:=⟨b,_,none⟩) (oC b hb)).trans (hc _ _ hv)
   rw[Pn];exact hh' w' oC
  ·cases hg
theorem Bi{w:World}{h:Value}:Fb w h []=some h:=by cases h<;>rfl
structure Ld (E:Env) (w:World) (vw:List Bx) (E':Env) (w':World) (vw':List Bx):Prop where
 len:vw.length≤vw'.length
 EY:∀b,b<vw.length→E'.EY b=E.EY b
 T:∀b,E.T b→E'.T b
 S:∀b,E.S b→E'.S b
 st:∀b,E.S b→E.T b
 heap:∀b,E.T b→w'.heap[b]? =w.heap[b]?
 box:∀b d r rows,b<vw.length→vw'[b]? =some (.sl d r rows)→ ∃d0 KW,vw[b]? =some (.sl d0 r KW)∧
  ∀p,Bt r KW p→ ∀q ys,Dl r KW p=some ⟨q,ys⟩→Bt r rows p∧(∃ZL,Dl r rows p=some ⟨q,ZL⟩∧List.length ZL=List.length ys)∧
   ∀h,Fb w (E.Ei b) p=some h→Fb w' (E'.Ei b) p=some h
theorem JQ{α:Type}{l l':List α}{b:Nat}{x:α}(h:l.length≤l'.length)(e:l[b]? =some x):∃y,l'[b]? =some y:=
 ⟨l'[b]'(AFI (AD7.1 e).1 h),AD9 _⟩
theorem DN{E E':Env}{w w':World}{vw vw':List Bx}(k:Ld E w vw E' w' vw'):∀{x:AV} {v:Value},VR E w vw x v→VR E' w' vw' x v:=by
 intro x v h;cases x with
 |v t x=>exact⟨h.1,Cv (fun _ h=>h) (fun _ h=>h.elim) h.2⟩
 |sl s r x=>
  simp only[VR]at h⊢;cases s with
  |false=>exact Cv k.T k.heap (by simpa using h)
  |true=>exact Cv k.S (fun b hb=>k.heap b (k.st b hb)) (by simpa using h)
 |nil=>exact h
 |ref b p=>
  simp only[VR]at h⊢;obtain⟨h0,h⟩:=h;refine⟨h0,?_⟩;cases e:vw[b]? with
  |none=>rw[e]at h;exact h.elim
  |some B=>
   rw[e]at h;have Er:=(AD7.1 e).1;obtain⟨B',e'⟩:=JQ k.len e;rw[e'];cases B' with
   |mem cs=>trivial
   |dead=>trivial
   |sl d r rows=>
    obtain⟨d0,KW,e0,hk⟩:=k.box b d r rows Er e';rw[e]at e0;cases e0;simp only at h;obtain⟨hp,⟨⟨q,ys⟩,hg⟩,hh⟩:=h;obtain⟨k1,⟨ZL,k2,_⟩,k3⟩:=hk p hp q ys hg;exact⟨k1,⟨_,k2⟩,k3 _ hh⟩
 |win b p off n=>
  simp only[VR]at h⊢;obtain⟨h0,h⟩:=h;refine⟨h0,?_⟩;cases e:vw[b]? with
  |none=>rw[e]at h;exact h.elim
  |some B=>
   rw[e]at h;have Er:=(AD7.1 e).1;obtain⟨B',e'⟩:=JQ k.len e;rw[e'];cases B' with
   |mem cs=>trivial
   |dead=>trivial
   |sl d r rows=>
    obtain⟨d0,KW,e0,hk⟩:=k.box b d r rows Er e';rw[e]at e0;cases e0;simp only at h;obtain⟨hp,q,ys,a,len,cap,hg,hl,hh,hv⟩:=h;obtain⟨k1,⟨ZL,k2,k4⟩,k3⟩:=hk p hp q ys hg;exact⟨k1,q,ZL,a,len,cap,k2,by omega,k3 _ hh,hv⟩
 |Eb b j=>exact⟨AFI h.1 k.len,by rw[h.2,k.EY b h.1]⟩
 |FP b p i sz j=>
  simp only[VR]at h⊢;obtain⟨h0,h⟩:=h;refine⟨h0,?_⟩;cases e:vw[b]? with
  |none=>rw[e]at h;exact h.elim
  |some B=>
   rw[e]at h;have Er:=(AD7.1 e).1;obtain⟨B',e'⟩:=JQ k.len e;rw[e'];cases B' with
   |mem cs=>trivial
   |dead=>trivial
   |sl d r rows=>
    obtain⟨d0,KW,e0,hk⟩:=k.box b d r rows Er e';rw[e]at e0;cases e0;simp only at h;obtain⟨hp,q,ys,bb,o,len,cap,hg,hl,hh,hv⟩:=h;obtain⟨k1,⟨ZL,k2,k4⟩,k3⟩:=hk p hp q ys hg;exact⟨k1,q,ZL,bb,o,len,cap,k2,by omega,k3 _ hh,hv⟩
 |Iv s r x j=>
  simp only[VR]at h⊢;obtain⟨bb,o,cs,hv,hb,hl,hc,hr⟩:=h;cases s with
  |false=>exact⟨bb,o,cs,hv,k.T bb (by simpa using hb),hl,hc.of_block (k.heap bb (by simpa using hb)),Cv k.T k.heap (by simpa using hr)⟩
  |true=>exact⟨bb,o,cs,hv,k.S bb (by simpa using hb),hl,hc.of_block (k.heap bb (k.st bb (by simpa using hb))),Cv k.S (fun b hb=>k.heap b (k.st b hb)) (by simpa using hr)⟩
 |fn f Fq=>
  refine⟨fun b hb=>AFI (h.1 b hb) k.len,?_⟩;rw[h.2];congr 2;exact AGd fun b hb=>by rw[k.EY b (h.1 b hb)]
 |dI f rows=>
  obtain⟨ps,hv,h⟩:=h;exact⟨ps,hv,h.imp fun q p ⟨bb,o,cs,h1,h2,h3,h4,h5⟩=>⟨bb,o,cs,h1,k.T bb h2,h3,h4.of_block (k.heap bb h2),Cv k.T k.heap h5⟩⟩
 |iQ=>exact h
 |undef=>trivial
theorem JH{E E':Env}{w w':World}{vw vw':List Bx}(k:Ld E w vw E' w' vw'):∀{x:XV} {v:Value},XR E w vw x v→XR E' w' vw' x v
 | .c _,_,h=>DN k h
 | .agg _,_,⟨vs,hv,h⟩=>⟨vs,hv,h.imp fun _ _ h=>DN k h⟩
 | .Hd l,_,⟨vs,hv,h⟩=>⟨vs,hv,h.imp fun
  | .inl _,_,h=>DN k h
  | .inr _,_,⟨ws,hw,h⟩=>⟨ws,hw,h.imp fun _ _ h=>DN k h⟩⟩
theorem Ld.refl{E:Env}{w:World}{vw:List Bx}(st:∀b,E.S b→E.T b):Ld E w vw E w vw:=
 ⟨AE7 _,fun _ _=>rfl,fun _ h=>h,fun _ h=>h,st,fun _ _=>rfl,fun b d r rows _ h=>⟨d,rows,h,fun p hp q ys hg=>⟨hp,⟨ys,hg,rfl⟩,fun _ h=>h⟩⟩⟩
theorem Ld.trans{E E' nv:Env}{w w' w'':World}{vw vw' ABx:List Bx}(k:Ld E w vw E' w' vw')(k':Ld E' w' vw' nv w'' ABx):Ld E w vw nv w'' ABx where
 len:=AFS k.len k'.len
 EY:=fun b hb=>(k'.EY b (AFI hb k.len)).trans (k.EY b hb)
 T:=fun b h=>k'.T b (k.T b h)
 S:=fun b h=>k'.S b (k.S b h)
 st:=k.st
 heap:=fun b h=>(k'.heap b (k.T b h)).trans (k.heap b h)
 box:=fun b d r rows hb h=>by
  obtain⟨d1,vA,h1,k1⟩:=k'.box b d r rows (AFI hb k.len) h;obtain⟨d0,KW,h0,k0⟩:=k.box b d1 r vA hb h1;refine⟨d0,KW,h0,fun p hp q ys hg=> ?_⟩;obtain⟨a1,⟨ys1,a2,a3⟩,a4⟩:=k0 p hp q ys hg;obtain⟨b1,⟨ys2,b2,b3⟩,b4⟩:=k1 p a1 q ys1 a2;exact⟨b1,⟨ys2,b2,b3.trans a3⟩,fun h hh=>b4 h (a4 h hh)⟩
theorem eH{w w':World}{S:Nat→Prop}{d:Nat}{r:Ty}{h:Value}{rows:List r.D}{F:ABC}(ho:Ow w S d (.sl r) [h] rows F)
  (hS:∀b,S b→w'.heap[b]? =w.heap[b]?) (hF:∀b∈F,w'.heap[b]? =w.heap[b]?) {p:List Xm} (hp:Bt r rows p) {q:Ty} {ys:List q.D} (hg:Dl r rows p=some ⟨q,ys⟩)
  {h':Value} (hh:Fb w h p=some h'):Fb w' h p=some h':=by
 obtain⟨h1,k,_⟩:=Yj (Pj ho) hp hg;have e1:=k w (fun _ _=>rfl);rw[hh]at e1;cases e1;exact k w' fun b hb=>hb.elim (hS b) (hF b)
end Go.Fw
end
section
namespace Go.Fw
theorem BU.set{α β:Type}{R:α→β→Prop}:∀{l:List α} {m:List β} {i:Nat} {a:α} {b:β},BU R l m→R a b→BU R (l.set i a) (m.set i b)
 |[],[],_,_,_,_,_=>trivial
 |_::_,_::_,0,_,_,h,r=>⟨r,h.2⟩
 |_::_,_::_,i+1,_,_,h,r=>⟨h.1,BU.set h.2 r⟩
theorem BU.append{α β:Type}{R:α→β→Prop}:∀{l:List α} {m:List β} {l':List α} {m':List β},BU R l m→BU R l' m'→BU R (l++l') (m++m')
 |[],[],_,_,_,h=>h
 |_::_,_::_,_,_,h,k=>⟨h.1,BU.append h.2 k⟩
theorem BU.Gw{α β γ:Type}{R:α→β→Prop}{S:γ→β→Prop}(f:α→γ)(h:∀a b,R a b→S (f a) b):∀{l:List α} {m:List β},BU R l m→BU S (l.map f) m
 |[],[],_=>trivial
 |_::_,_::_,k=>⟨h _ _ k.1,BU.Gw f h k.2⟩
theorem BU.drop{α β:Type}{R:α→β→Prop}:∀{l:List α} {m:List β} (n:Nat),BU R l m→BU R (l.drop n) (m.drop n)
 |_,_,0,h=>h
 |[],[],_+1,_=>trivial
 |_::_,_::_,n+1,h=>BU.drop n h.2
theorem BU.take{α β:Type}{R:α→β→Prop}:∀{l:List α} {m:List β} (n:Nat),BU R l m→BU R (l.take n) (m.take n)
 |[],[],0,_=>trivial
 |_::_,_::_,0,_=>trivial
 |[],[],_+1,_=>trivial
 |_::_,_::_,n+1,h=>⟨h.1,BU.take n h.2⟩
structure T3 (E0:Env) (w0:World) (E:Env) (w:World):Prop where
 T:∀c,E0.T c→E.T c
 S:∀c,E0.S c→E.S c
 ru:∀c,E.T c→E0.T c∨E.S c
 jL:∀c,E.S c→E0.S c∨ ¬E0.T c
 heap:∀c,E0.T c→w.heap[c]? =w0.heap[c]?
 os:w.os=w0.os
 tape:w.tape=w0.tape
 output:w.output=w0.output
 size:w0.heap.size≤w.heap.size
theorem T3.refl(E:Env)(w:World):T3 E w E w:=⟨fun _ h=>h,fun _ h=>h,fun _ h=> .inl h,fun _ h=> .inl h,fun _ _=>rfl,rfl,rfl,rfl,AE7 _⟩
theorem T3.trans{E E' nv:Env}{w w' w'':World}(h:T3 E w E' w')(k:T3 E' w' nv w''):T3 E w nv w'':=
 ⟨fun c hc=>k.T c (h.T c hc),fun c hc=>k.S c (h.S c hc),fun c hc=>(k.ru c hc).elim (fun h' =>(h.ru c h').imp id (k.S c)) .inr,
  fun c hc=>(k.jL c hc).elim (h.jL c) (fun h' => .inr fun ht=>h' (h.T c ht)),fun c hc=>(k.heap c (h.T c hc)).trans (h.heap c hc),
  k.os.trans h.os,k.tape.trans h.tape,k.output.trans h.output,AFS h.size k.size⟩
theorem Le.base{E E':Env}(h:Le E E')(w:World):T3 E w E' w:=⟨h.T,h.S,h.ru,h.jL,fun _ _=>rfl,rfl,rfl,rfl,AE7 _⟩
def gR(E:Env)(w:World)(k:Nat):Bx→Nat→Prop
 | .mem _,c=>c=E.EY k
 | .sl _ r rows,c=>RB w (.sl r) [E.Ei k] rows c
 | .dead,_=>False
def ND:Bx→Bx→Prop
 | .mem _,.mem _=>True
 | .sl _ r x,.sl _ q y=>(⟨r,x⟩:(r:Ty)×List r.D)=⟨q,y⟩
 |_,_=>False
structure Ka (t:ABC) (E0:Env) (bx0:List Bx) (w0:World) (E:Env) (bx:List Bx) (w:World):Prop where
 base:T3 E0 w0 E w
 len:bx0.length≤bx.length
 ids:∀b,b<bx0.length→E.EY b=E0.EY b∧E.Ei b=E0.Ei b
 dead:∀b:Nat,bx0[b]? =some Bx.dead→bx[b]? =some Bx.dead
 frame:∀(n:Nat) B B',n∉t→bx0[n]? =some B→bx[n]? =some B'→B'≠ .dead→ND B B'∧ ∀c,gR E0 w0 n B c→w.heap[c]? =w0.heap[c]?
theorem Ka.any{E E':Env}{bx J0:List Bx}{w w':World}(h:Ka [] E bx w E' J0 w'){t:ABC}:Ka t E bx w E' J0 w':=
 ⟨h.base,h.len,h.ids,h.dead,fun n B B' _=>h.frame n B B' (by simp)⟩
theorem ND.refl{B:Bx}(h:B≠ .dead):ND B B:=by cases B<;>simp_all[ND]
theorem Ka.refl(t:ABC)(E:Env)(bx:List Bx)(w:World):Ka t E bx w E bx w:=⟨T3.refl E w,AE7 _,fun _ _=>⟨rfl,rfl⟩,fun _ h=>h,fun n B B' _ h h' hd=>by
 rw[h]at h';cases h';exact⟨ND.refl hd,fun _ _=>rfl⟩⟩
theorem Tt{E:Env}{w:World}{vw:List Bx}{k:Nat}{B:Bx}{F:ABC}{c:Nat}(h:ZH E w vw k B F)(hc:gR E w k B c):E.S c∨c∈F:=by
 cases B with
 |mem cs=>obtain⟨rfl,_⟩:=h;right;simp[gR]at hc;simp[hc]
 |sl d r rows=>exact ck (Pj h.2) hc
 |dead=>exact hc.elim
structure Rel (E:Env) (σ:St) (a:Act) (w:World):Prop where
 ID:a.defers=[]
 tm:BU (XR E w σ.bx) σ.tm a.tmps.toList
 bx:Bm E w σ.bx σ.bx []
theorem Rel.put{E:Env}{σ:St}{a:Act}{w:World}(h:Rel E σ a w)(dst:Option Tmp){x:XV}{v:Value}(hx:XR E w σ.bx x v):Rel E (σ.put dst x) (a.put dst v) w:=by
 cases dst with
 |none=>exact h
 |some d=>exact⟨h.ID,by simpa[St.put,Act.put]using BU.set h.tm hx,h.bx⟩
theorem BU.vq{E:Env}{w:World}{vw:List Bx}{l:List XV}{m:Array Value}(h:BU (XR E w vw) l m.toList)(t:Nat):XR E w vw (l.getD t (.c .undef)) (m.getD t undef):=by
 by_cases ht:t<l.length
 ·have e:l[t]? =some l[t]:=AD9 ht
  obtain⟨b,hb,hr⟩:=h.get e;have:m[t]? =some b:=by simpa using hb
  simp only[AGX,e,AGC,AGU,this];exact hr
 ·have e:l[t]? =none:=by simp;omega
  simp only[AGX,e,Option.getD_none]
  trivial
theorem cN{E:Env}{w:World}{vw:List Bx}(v:Value):VR E w vw (Ym v) v:=by
 unfold Ym;split<;>first
  |trivial
  |exact⟨rfl,by simp[Rd]⟩
  |rfl
theorem Xb{E:Env}{w:World}{vw:List Bx}:∀(l:List Value),VF E w vw (l.map Ym) l
 |[]=>trivial
 |a::l=>⟨cN a,Xb l⟩
theorem iw{E:Env}{w:World}{vw:List Bx}(v:Value):XR E w vw (ofValue v) v:=by
 unfold ofValue;split
 ·rename_i cs
  exact⟨cs,rfl,Xb cs.toList⟩
 ·exact cN v
theorem Rel.ev{E:Env}{σ:St}{a:Act}{w:World}(h:Rel E σ a w)(x:Operand):XR E w σ.bx (σ.ev x) (a.eval x):=by
 cases x with
 |tmp t=>exact BU.vq h.tm t
 |const v=>exact iw v
 |global g=>trivial
 |func f=>exact⟨by simp,rfl⟩
theorem Mz{b:Nat}:∀{Fs:List ABC} {F:ABC},Fs[b]? =some F→Fs.flatten.Perm (F++(Fs.set b []).flatten):=by
 induction b with
 |zero=>
  intro Fs F h;cases Fs with
  |nil=>simp at h
  |cons A l=>simp at h;subst h;simp
 |succ b ih=>
  intro Fs F h;cases Fs with
  |nil=>simp at h
  |cons A l=>
   have:=ih (Fs:=l) (F:=F) (by simpa using h);simp only[List.set_cons_succ,AFO];refine(AE0 A this).trans ?_
   rw[←AEE,←AEE];exact AEW _ AE4
theorem Sep.perm{E:Env}{w:World}{F F':ABC}(h:Sep E w F)(p:F.Perm F'):Sep E w F':=
 ⟨p.nodup_iff.1 h.nodup,fun c hc=>h.free c (p.mem_iff.2 hc),fun c hc=>h.lt c (p.mem_iff.2 hc),h.st,h.TN,h.eK⟩
theorem Sep.sub{E:Env}{w:World}{F F':ABC}(h:Sep E w (F++F')):Sep E w F:=
 ⟨(AEJ.1 h.nodup).1,fun c hc=>h.free c (by simp[hc]),fun c hc=>h.lt c (by simp[hc]),h.st,h.TN,h.eK⟩
theorem Bm.perm{E:Env}{w:World}{vw bx:List Bx}{G G':ABC}(h:Bm E w vw bx G)(p:G.Perm G'):Bm E w vw bx G':=
 let⟨Fs,h1,h2⟩:=h
 ⟨Fs,h1,h2.perm (AE0 _ p)⟩
theorem Bm.drop{E:Env}{w:World}{vw bx:List Bx}{G G':ABC}(h:Bm E w vw bx (G++G')):Bm E w vw bx G:=
 let⟨Fs,h1,h2⟩:=h
 ⟨Fs,h1,by rw[←AEE]at h2;exact h2.sub⟩
theorem Bm.st{E:Env}{w:World}{vw bx:List Bx}{G:ABC}(h:Bm E w vw bx G):∀c,E.S c→E.T c:=let⟨_,_,h⟩:=h;h.st
theorem Bm.TN{E:Env}{w:World}{vw bx:List Bx}{G:ABC}(h:Bm E w vw bx G):∀c,E.T c→c<w.heap.size:=let⟨_,_,h⟩:=h;h.TN
theorem Bm.eK{E:Env}{w:World}{vw bx:List Bx}{G:ABC}(h:Bm E w vw bx G):Gok E w:=let⟨_,_,h⟩:=h;h.eK
theorem Bm.mf{E:Env}{w:World}{vw bx:List Bx}{G:ABC}(h:Bm E w vw bx G):∀c∈G,¬E.T c:=let⟨_,_,h⟩:=h;fun c hc=>h.free c (by simp[hc])
theorem Bm.take{E:Env}{w:World}{vw bx:List Bx}{G:ABC}(h:Bm E w vw bx G){b:Nat}{B:Bx}(hb:bx[b]? =some B):
  ∃F,ZH E w vw b B F∧Bm E w vw (bx.set b .dead) (F++G):=by
 obtain⟨Fs,⟨hl,h1⟩,h2⟩:=h;have Er:=(AD7.1 hb).1;have hF:Fs[b]? =some (Fs[b]'(by omega)):=AD9 _;refine⟨_,h1 b B _ hb hF,Fs.set b [],⟨by simpa using hl,fun k C F hk ig=> ?_⟩,h2.perm ?_⟩
 ·by_cases e:k=b
  ·subst e
   rw[AEQ (by omega)]at hk ig;cases hk;cases ig;rfl
  ·rw[AEH (by omega)]at hk ig
   exact h1 k C F hk ig
 ·have:=AEW G (Mz hF)
  refine this.trans ?_
  rw[AEE,←AEE (List.flatten _)];refine(AE4 (l₁:=Fs[b]'(by omega))).trans ?_
  rw[AEE,AEE];exact AE0 _ AE4
theorem Bm.put{E:Env}{w:World}{vw bx:List Bx}{F G:ABC}(h:Bm E w vw bx (F++G)){b:Nat}{B:Bx}(hb:bx[b]? =some .dead)(hB:ZH E w vw b B F):
  Bm E w vw (bx.set b B) G:=by
 obtain⟨Fs,⟨hl,h1⟩,h2⟩:=h;have Er:=(AD7.1 hb).1;have hF:Fs[b]? =some (Fs[b]'(by omega)):=AD9 _;have e0:Fs[b]'(by omega)=[]:=h1 b _ _ hb hF;refine⟨Fs.set b F,⟨by simpa using hl,fun k C F' hk ig=> ?_⟩,h2.perm ?_⟩
 ·by_cases e:k=b
  ·subst e
   rw[AEQ (by omega)]at hk ig;cases hk;cases ig;exact hB
  ·rw[AEH (by omega)]at hk ig
   exact h1 k C F' hk ig
 ·have p:(Fs.set b F).flatten.Perm (F++Fs.flatten):=by
   have p1:=Mz (Fs:=Fs.set b F) (b:=b) (F:=F) (AEQ (by omega));rw[AG8]at p1;have p2:=Mz hF;rw[e0,AFa]at p2;exact p1.trans (AE0 _ p2.symm)
  refine List.Perm.symm ?_
  refine(AEW G p).trans ?_
  rw[←AEE];exact AEW _ AE4
theorem Bm.push{E:Env}{w:World}{vw bx:List Bx}{F G:ABC}(h:Bm E w vw bx (F++G)){B:Bx}(hB:ZH E w vw bx.length B F):
  Bm E w vw (bx++[B]) G:=by
 obtain⟨Fs,⟨hl,h1⟩,h2⟩:=h;refine⟨Fs++[F],⟨by simp[hl],fun k C F' hk ig=> ?_⟩,h2.perm (by simp)⟩;by_cases e:k<bx.length
 ·rw[AEG (by omega)]at hk ig
  exact h1 k C F' hk ig
 ·have hk':=(AD7.1 hk).1
  simp at hk';obtain rfl:k=bx.length:=by omega
  rw[AES (by omega)]at hk ig;simp[hl]at hk ig;subst hk ig;exact hB
theorem Bm.turn{E E':Env}{w w':World}{vw vw' bx:List Bx}{G:ABC}(h:Bm E w vw bx G)(k:∀x v,VR E w vw x v→VR E' w' vw' x v)
  (hS:∀c,E.S c→E'.S c) (eJ:∀b,b<bx.length→E'.EY b=E.EY b) (Sv:∀b,b<bx.length→E'.Ei b=E.Ei b)
  (hw:∀c,(E.S c∨(¬E.T c∧c∉G))→c<w.heap.size→w'.heap[c]? =w.heap[c]?)
  (l3:∀F,Sep E w (F++G)→Sep E' w' (F++G)):Bm E' w' vw' bx G:=by
 obtain⟨Fs,⟨hl,h1⟩,h2⟩:=h;refine⟨Fs,⟨hl,fun n B F hn hF=> ?_⟩,l3 _ h2⟩;have Er:=(AD7.1 hn).1;have h3:=h1 n B F hn hF;have gf:∀c∈F,c∈Fs.flatten:=fun c hc=>AE5.2 ⟨F,AEN hF,hc⟩
 have vG:∀c∈F,w'.heap[c]? =w.heap[c]?:=fun c hc=>hw c (.inr ⟨h2.free c (by simp[gf c hc]),fun hg=>by
  have:=(AEJ.1 h2.nodup).2.2 c (gf c hc) c hg;exact this rfl⟩) (h2.lt c (by simp[gf c hc]))
 have aj:∀c,E.S c→w'.heap[c]? =w.heap[c]?:=fun c hc=>hw c (.inl hc) (h2.TN c (h2.st c hc))
 cases B with
 |mem cs=>
  obtain⟨rfl,arr,ty,fr,ha,hu,hv⟩:=h3;refine⟨by rw[eJ n Er],arr,ty,fr,?_,hu,hv.imp k⟩;rw[eJ n Er,vG _ (by simp),ha]
 |sl d r rows=>
  obtain⟨hd,ho⟩:=h3;refine⟨hd,?_⟩;rw[Sv n Er];exact CT hS aj vG ho
 |dead=>exact h3
end Go.Fw
end
section
namespace Go.Fw
theorem Ed{β:Ty→Type}{a b:Ty}{x:β a}{y:β b}(h:Jz a b x=some y):∃e:a=b,e▸x=y:=by
 unfold Jz at h;split at h
 ·rename_i e
  exact⟨e,by simpa using h⟩
 ·cases h
def Cs(bk vw:List Bx):Prop:= ∀(b:Nat) (B:Bx),bk[b]? =some B→B= .dead∨vw[b]? =some B
theorem Cs.refl(bx:List Bx):Cs bx bx:=fun _ _ h=> .inr h
theorem Addr.add_eq(b o n:Nat):(⟨b,o,none⟩:Addr).add n=⟨b,o+n,none⟩:=by unfold Addr.add;split<;>simp_all
theorem iX{w:World}{B:Nat→Prop}{r:Ty}{a:Option Addr}{len cap:Nat}{ys:List r.D}(h:Rd w B (.sl r) [.slice a len cap] ys){off n:Nat}(hn:off+n≤ys.length):
  Rd w B (.sl r) [LJ r.n off n a cap] ((ys.drop off).take n):=by
 simp only[Rd]at h⊢;obtain⟨a',cap',e,hc,h⟩:=h;simp only[AEk,Value.slice.injEq,AFR]at e;obtain⟨rfl,rfl,rfl⟩:=e;have hl:((ys.drop off).take n).length=n:=by simp;omega
 refine⟨_,_,by unfold LJ;rw[hl],by rw[hl];omega,?_⟩;rw[hl];by_cases h0:n=0
 ·exact .inl h0
 ·rcases h with h|⟨b,o,rfl,hb,h⟩
  ·omega
  ·refine .inr ⟨b,o+off*r.n,?_,hb,fun i y hy=> ?_⟩
   ·rw[AEB (by omega)]
    simp[Addr.add_eq]
   ·have hi:=(AD7.1 hy).1
    rw[hl]at hi;rw[List.getElem?_take_of_lt hi,AGn]at hy;obtain⟨cs,e1,e2,e3⟩:=h (off+i) y hy;refine⟨cs,e1,?_,e3⟩;rw[AGI,←AGe]at e2;exact e2
def Ys(E:Env)(Fs:List ABC)(c:Nat):Prop:=E.T c∨c∈Fs.flatten
section
variable{E:Env} {w:World} {vw bk:List Bx} {Fs:List ABC}
theorem H0.get(h:H0 E w vw bk Fs){b:Nat}{B:Bx}(e:bk[b]? =some B):∃F,ZH E w vw b B F∧ ∀c∈F,c∈Fs.flatten:=by
 have Er:=(AD7.1 e).1;have hF:Fs[b]? =some (Fs[b]'(by rw[h.1];exact Er)):=AD9 _;exact⟨_,h.2 b B _ e hF,fun c hc=>AE5.2 ⟨_,AEN hF,hc⟩⟩
theorem S2(hs:Cs bk vw)(h:H0 E w vw bk Fs)(st:∀c,E.S c→E.T c){b d:Nat}{r:Ty}{rows:List r.D}(e:bk[b]? =some (.sl d r rows))
  {p:List Xm} (hp:Bt r rows p) {q:Ty} {ys:List q.D} (hg:Dl r rows p=some ⟨q,ys⟩) {v:Value} (hh:Fb w (E.Ei b) p=some v):
  Rd w (Ys E Fs) (.sl q) [v] ys:=by
 obtain⟨F,⟨_,ho⟩,hF⟩:=h.get e;obtain⟨h',k,hr⟩:=Yj (Pj ho) hp hg;have:=k w (fun _ _=>rfl);rw[hh]at this;cases this;exact Cv (fun c hc=>hc.elim (fun hc=> .inl (st c hc)) (fun hc=> .inr (hF c hc))) (fun _ _=>rfl) hr
theorem P9(hs:Cs bk vw){b d:Nat}{r:Ty}{rows:List r.D}(e:bk[b]? =some (.sl d r rows)):vw[b]? =some (.sl d r rows):=by
 rcases hs b _ e with h|h
 ·cases h
 ·exact h
theorem Qi(hs:Cs bk vw)(h:H0 E w vw bk Fs)(st:∀c,E.S c→E.T c){x:AV}{v:Value}(hv:VR E w vw x v){q:Ty}{ys:List q.D}(e:Hv bk x=some ⟨q,ys⟩):
  Rd w (Ys E Fs) (.sl q) [v] ys:=by
 cases x with
 |sl s r x=>
  simp only[Hv,AD_,AEP]at e;obtain⟨rfl,e⟩:=e;obtain rfl:=AE9 e;simp only[VR]at hv;refine Cv (fun c hc=> ?_) (fun _ _=>rfl) hv;cases s
  ·exact .inl (by simpa using hc)
  ·exact .inl (st c (by simpa using hc))
 |ref b p=>
  simp only[Hv]at e;split at e
  ·rename_i d r rows hb
   simp only[VR,P9 hs hb]at hv
   replace hv:=hv.2
   exact S2 hs h st hb hv.1 e hv.2.2
  ·cases e
 |win b p off n=>
  simp only[Hv]at e;split at e
  ·rename_i d r rows hb
   simp only[VR,P9 hs hb]at hv;obtain⟨_,hp,q',ZL,a,len,cap,hg,hl,hh,rfl⟩:=hv;rw[hg]at e;simp only[AGV,AD_,AEP]at e;obtain⟨rfl,e⟩:=e;obtain rfl:=AE9 e;exact iX (S2 hs h st hb hp hg hh) hl
  ·cases e
 |_=>simp[Hv]at e
theorem Mt(hs:Cs bk vw)(h:H0 E w vw bk Fs)(st:∀c,E.S c→E.T c){t:Ty}{x:AV}{v:Value}(hv:VR E w vw x v){y:t.D}(e:Hm bk t x=some y):
  Rd w (Ys E Fs) t [v] y:=by
 have sl:∀(r:Ty) (x:AV) (v:Value) (y:List r.D),VR E w vw x v→((Hv bk x).bind fun q=>Jz (β:=fun r=>List r.D) q.1 r q.2)=some y→Rd w (Ys E Fs) (.sl r) [v] y:=by
  intro r x v y hv e;rw[AED]at e;obtain⟨⟨q,ys⟩,e1,e2⟩:=e;obtain⟨e3,e4⟩:=Ed e2;dsimp only at e3;subst e3;subst e4;exact Qi hs h st hv e1
 cases x with
 |v u z=>
  simp only[Hm]at e;obtain⟨e1,e2⟩:=Ed e;subst e1;subst e2;exact Cv (fun _ hc=>hc.elim) (fun _ hc=>hc.elim) hv.2
 |nil=>
  cases t with
  |sl r=>
   simp only[Hm,AD_]at e;subst e;simp only[VR]at hv;subst hv;simp only[Rd];exact⟨none,0,rfl,by simp,.inl rfl⟩
  |_=>simp[Hm]at e
 |_=>
  cases t with
  |sl r=>exact sl r _ _ y hv (by simpa only[Hm]using e)
  |_=>simp[Hm]at e
theorem U0(hs:Cs bk vw)(h:H0 E w vw bk Fs)(st:∀c,E.S c→E.T c):∀{r:Ty} {l:List AV} {vs:List Value} {x:r.D},VF E w vw l vs→EZ bk r l=some x→
  Rd w (Ys E Fs) r vs x
 | .unit,[],[],x,_,_=>by simp only[Rd]
 | .cons c r,a::l,v::vs,x,hv,e=>by
  simp only[EZ,AED,AEC]at e;obtain⟨y,e1,z,e2,rfl⟩:=e;simp only[Rd];exact⟨v,vs,rfl,Mt hs h st hv.1 e1,U0 hs h st hv.2 e2⟩
 | .unit,_::_,_,_,_,e=>by simp[EZ]at e
 | .unit,[],_::_,_,hv,_=>hv.elim
 | .cons _ _,[],_,_,_,e=>by simp[EZ]at e
 | .cons _ _,_::_,[],_,hv,_=>hv.elim
 | .int _,_,_,_,_,e=>by simp[EZ]at e
 | .bool,_,_,_,_,e=>by simp[EZ]at e
 | .str,_,_,_,_,e=>by simp[EZ]at e
 | .sl _,_,_,_,_,e=>by simp[EZ]at e
theorem V2{E1:Env}{gY:List Bx}(hs:Cs bk vw)(h:H0 E w vw bk Fs)(st:∀c,E.S c→E.T c)(hT:∀c,Ys E Fs c→E1.T c):
  ∀{r:Ty} {l:List AV} {vs:List Value} {x:r.D},VF E w vw l vs→EZ bk r l=some x→VF E1 w gY (Y_ r x) vs
 | .unit,[],[],x,_,_=>trivial
 | .cons c r,a::l,v::vs,x,hv,e=>by
  simp only[EZ,AED,AEC]at e;obtain⟨y,e1,z,e2,rfl⟩:=e;have PS:=Mt hs h st hv.1 e1;have tl:VF E1 w gY _ _:=V2 hs h st hT hv.2 e2;cases c with
  |sl q=>
   refine⟨?_,tl⟩;simp only[VR];exact Cv hT (fun _ _=>rfl) (by simpa using PS)
  |int k=>exact⟨⟨rfl,by simpa only[Rd]using PS⟩,tl⟩
  |bool=>exact⟨⟨rfl,by simpa only[Rd]using PS⟩,tl⟩
  |str=>exact⟨⟨rfl,by simpa only[Rd]using PS⟩,tl⟩
  |unit=>
   exfalso
   simp only[Rd]at PS;cases PS
  |cons c' r' =>
   exfalso
   cases a with
   |v u z=>
    simp only[Hm]at e1;obtain⟨e3,_⟩:=Ed e1;subst e3;exact absurd hv.1.1 (by simp[Ty.scalar])
   |_=>simp[Hm]at e1
 | .unit,_::_,_,_,_,e=>by simp[EZ]at e
 | .unit,[],_::_,_,hv,_=>hv.elim
 | .cons _ _,[],_,_,_,e=>by simp[EZ]at e
 | .cons _ _,_::_,[],_,hv,_=>hv.elim
 | .int _,_,_,_,_,e=>by simp[EZ]at e
 | .bool,_,_,_,_,e=>by simp[EZ]at e
 | .str,_,_,_,_,e=>by simp[EZ]at e
 | .sl _,_,_,_,_,e=>by simp[EZ]at e
end
end Go.Fw
end
section
namespace Go.Fw
def Ext(m m':JN):Prop:=m'.length=m.length∧ ∀(i b:Nat),m[i]? =some (some b)→m'[i]? =some (some b)
theorem Ext.refl(m:JN):Ext m m:=⟨rfl,fun _ _ h=>h⟩
theorem Ext.trans{m m' m'':JN}(h:Ext m m')(k:Ext m' m''):Ext m m'':=⟨k.1.trans h.1,fun i b e=>k.2 i b (h.2 i b e)⟩
def Zw(m:JN):Prop:= ∀(i j b:Nat),m[i]? =some (some b)→m[j]? =some (some b)→i=j
theorem Sq{m m':JN}{i b:Nat}(e:m.put i b=some m'):Ext m m'∧m'[i]? =some (some b)∧(Zw m→Zw m'):=by
 unfold JN.put at e;split at e
 ·rename_i h
  split at e
  ·cases e
  ·rename_i hc
   cases e;have Er:=(AD7.1 h).1;have uP:∀(k:Nat),m[k]?≠some (some b):=fun k hk=>hc (by
    rw[AGo];exact AEN hk)
   refine⟨⟨by simp,fun k c hk=> ?_⟩,by simp[Er],fun hi j k c hj hk=> ?_⟩
   ·by_cases e:k=i
    ·subst e;rw[h]at hk;cases hk
    ·rw[AEH (by omega)];exact hk
   ·by_cases e1:j=i<;>by_cases e2:k=i
    ·omega
    ·subst e1
     rw[AEQ Er]at hj;rw[AEH (by omega)]at hk;cases hj;exact absurd hk (uP k)
    ·subst e2
     rw[AEQ Er]at hk;rw[AEH (by omega)]at hj;cases hk;exact absurd hj (uP j)
    ·rw[AEH (by omega)]at hj hk
     exact hi j k c hj hk
 ·rename_i b' h
  split at e
  ·rename_i hb
   cases e;subst hb;exact⟨Ext.refl _,h,fun h=>h⟩
  ·cases e
 ·cases e
def Kc(m:JN):List Nat→List Nat→Prop
 |[],[]=>True
 |i::is,b::bs=>m[i]? =some (some b)∧Kc m is bs
 |_,_=>False
theorem Kc.ext{m m':JN}(h:Ext m m'):∀{is bs},Kc m is bs→Kc m' is bs
 |[],[],_=>trivial
 |_::_,_::_,k=>⟨h.2 _ _ k.1,Kc.ext h k.2⟩
theorem Va:∀{is bs:ABC} {m m':JN},Re m is bs=some m'→Ext m m'∧Kc m' is bs∧(Zw m→Zw m')
 |[],[],m,m',e=>by simp only[Re,AD_]at e;subst e;exact⟨Ext.refl _,trivial,fun h=>h⟩
 |i::is,b::bs,m,m',e=>by
  simp only[Re,AED]at e;obtain⟨m1,e1,e2⟩:=e;obtain⟨a1,a2,a3⟩:=Sq e1;obtain⟨b1,b2,b3⟩:=Va e2;exact⟨a1.trans b1,⟨b1.2 _ _ a2,b2⟩,fun h=>b3 (a3 h)⟩
 |[],_::_,_,_,e=>by simp[Re]at e
 |_::_,[],_,_,e=>by simp[Re]at e
def Kh(N:Nat)(m:JN):AP→AV→Prop
 | .ref i,x=> ∃b,(x= .ref b []∨(x= .nil∧b=N+i))∧m[i]? =some (some b)
 | .ptr i j,x=> ∃b,x= .Eb b j∧m[i]? =some (some b)
 | .fn f Fq,x=> ∃bs,x= .fn f bs∧Kc m Fq bs
 | .nil,x=>x= .nil
 | .Wm i sz,x=> ∃b k j,x= .ref b [⟨k,sz,j⟩]∧m[i]? =some (some b)
 |_,_=>True
theorem Kh.ext{N:Nat}{m m':JN}(h:Ext m m'){p:AP}{x:AV}(k:Kh N m p x):Kh N m' p x:=by
 cases p with
 |ref i=>obtain⟨b,hx,k⟩:=k;exact⟨b,hx,h.2 _ _ k⟩
 |ptr i j=>obtain⟨b,rfl,k⟩:=k;exact⟨b,rfl,h.2 _ _ k⟩
 |fn f Fq=>obtain⟨bs,rfl,k⟩:=k;exact⟨bs,rfl,k.ext h⟩
 |nil=>exact k
 |Wm i sz=>obtain⟨b,q,j,rfl,k⟩:=k;exact⟨b,q,j,rfl,h.2 _ _ k⟩
 |_=>trivial
theorem TV{N:Nat}{m m':JN}{p:AP}{x:AV}(e:p.IJ N m x=some m'):Ext m m'∧Kh N m' p x∧(Zw m→Zw m'):=by
 cases p with
 |ref i=>
  cases x with
  |ref b q=>
   cases q with
   |nil=>
    obtain⟨a,b,c⟩:=Sq (by simpa only[AP.IJ]using e);exact⟨a,⟨_,.inl rfl,b⟩,c⟩
   |cons _ _=>simp[AP.IJ]at e
  |nil=>
   obtain⟨a,b,c⟩:=Sq (by simpa only[AP.IJ]using e);exact⟨a,⟨_,.inr ⟨rfl,rfl⟩,b⟩,c⟩
  |_=>simp[AP.IJ]at e
 |ptr i j=>
  cases x with
  |Eb b j' =>
   simp only[AP.IJ]at e;split at e
   ·rename_i hj
    subst hj;obtain⟨a,b,c⟩:=Sq e;exact⟨a,⟨_,rfl,b⟩,c⟩
   ·cases e
  |_=>simp[AP.IJ]at e
 |fn f Fq=>
  cases x with
  |fn g bs=>
   simp only[AP.IJ]at e;split at e
   ·rename_i hf
    subst hf;obtain⟨a,b,c⟩:=Va e;exact⟨a,⟨_,rfl,b⟩,c⟩
   ·cases e
  |_=>simp[AP.IJ]at e
 |nil=>
  cases x with
  |nil=>simp only[AP.IJ,AD_]at e;subst e;exact⟨Ext.refl _,rfl,fun h=>h⟩
  |_=>simp[AP.IJ]at e
 |Wm i sz=>
  cases x with
  |ref b q=>
   cases q with
   |nil=>simp[AP.IJ]at e
   |cons s q=>
    cases q with
    |nil=>
     simp only[AP.IJ]at e;split at e
     ·rename_i hs
      obtain⟨a,b,c⟩:=Sq e;obtain⟨k,z,y⟩:=s;dsimp only at hs;subst hs;exact⟨a,⟨_,k,y,rfl,b⟩,c⟩
     ·cases e
    |cons _ _=>simp[AP.IJ]at e
  |_=>simp[AP.IJ]at e
 |_=>
  have:m=m':=by cases x<;>simpa[AP.IJ]using e
  subst this;exact⟨Ext.refl _,trivial,fun h=>h⟩
theorem Nv{N:Nat}:∀{l:List AP} {xs:List AV} {m m':JN},PQ.IJ N m l xs=some m'→Ext m m'∧BU (Kh N m') l xs∧(Zw m→Zw m')
 |[],[],m,m',e=>by simp only[PQ.IJ,AD_]at e;subst e;exact⟨Ext.refl _,trivial,fun h=>h⟩
 |p::l,x::xs,m,m',e=>by
  simp only[PQ.IJ,AED]at e;obtain⟨m1,e1,e2⟩:=e;obtain⟨a1,a2,a3⟩:=TV e1;obtain⟨b1,b2,b3⟩:=Nv e2;exact⟨a1.trans b1,⟨a2.ext b1,b2⟩,fun h=>b3 (a3 h)⟩
 |[],_::_,_,_,e=>by simp[PQ.IJ]at e
 |_::_,[],_,_,e=>by simp[PQ.IJ]at e
def Ur(N:Nat)(m:JN):AP ⊕ List AP→AV ⊕ List AV→Prop
 | .inl p,.inl x=>Kh N m p x
 | .inr p,.inr x=>BU (Kh N m) p x
 |_,_=>False
theorem Ur.ext{N:Nat}{m m':JN}(h:Ext m m'):∀{p:AP ⊕ List AP} {x:AV ⊕ List AV},Ur N m p x→Ur N m' p x
 | .inl _,.inl _,k=>Kh.ext h k
 | .inr _,.inr _,k=>BU.imp (fun _ _ k=>Kh.ext h k) k
theorem Ry{N:Nat}:∀{l:List (AP ⊕ List AP)} {xs:List (AV ⊕ List AV)} {m m':JN},PV.IJ N m l xs=some m'→Ext m m'∧BU (Ur N m') l xs∧(Zw m→Zw m')
 |[],[],m,m',e=>by simp only[PV.IJ,AD_]at e;subst e;exact⟨Ext.refl _,trivial,fun h=>h⟩
 | .inl p::l,.inl x::xs,m,m',e=>by
  simp only[PV.IJ,AED]at e;obtain⟨m1,e1,e2⟩:=e;obtain⟨a1,a2,a3⟩:=TV e1;obtain⟨b1,b2,b3⟩:=Ry e2;exact⟨a1.trans b1,⟨Kh.ext b1 a2,b2⟩,fun h=>b3 (a3 h)⟩
 | .inr p::l,.inr x::xs,m,m',e=>by
  simp only[PV.IJ,AED]at e;obtain⟨m1,e1,e2⟩:=e;obtain⟨a1,a2,a3⟩:=Nv e1;obtain⟨b1,b2,b3⟩:=Ry e2;exact⟨a1.trans b1,⟨BU.imp (fun _ _ k=>Kh.ext b1 k) a2,b2⟩,fun h=>b3 (a3 h)⟩
 |[],_::_,_,_,e=>by simp[PV.IJ]at e
 | .inl _::_,[],_,_,e=>by simp[PV.IJ]at e
 | .inr _::_,[],_,_,e=>by simp[PV.IJ]at e
 | .inl _::_,.inr _::_,_,_,e=>by simp[PV.IJ]at e
 | .inr _::_,.inl _::_,_,_,e=>by simp[PV.IJ]at e
def Ra(N:Nat)(m:JN):XP→XV→Prop
 | .c p,.c x=>Kh N m p x
 | .agg l,.agg xs=>BU (Kh N m) l xs
 | .row _,.agg _=>True
 | .Hd l,.Hd xs=>BU (Ur N m) l xs
 |_,_=>False
theorem Ra.ext{N:Nat}{m m':JN}(h:Ext m m'):∀{p:XP} {x:XV},Ra N m p x→Ra N m' p x
 | .c _,.c _,k=>Kh.ext h k
 | .agg _,.agg _,k=>BU.imp (fun _ _ k=>Kh.ext h k) k
 | .row _,.agg _,_=>trivial
 | .Hd _,.Hd _,k=>BU.imp (fun _ _ k=>Ur.ext h k) k
theorem eQ{N:Nat}{m m':JN}:∀{p:XP} {x:XV},p.IJ N m x=some m'→Ext m m'∧Ra N m' p x∧(Zw m→Zw m')
 | .c p,.c x,e=>TV (by simpa only[XP.IJ]using e)
 | .agg l,.agg xs,e=>Nv (by simpa only[XP.IJ]using e)
 | .row r,.agg xs,e=>by simp only[XP.IJ,AD_]at e;subst e;exact⟨Ext.refl _,trivial,fun h=>h⟩
 | .Hd l,.Hd xs,e=>Ry (by simpa only[XP.IJ]using e)
 | .c _,.agg _,e=>by simp[XP.IJ]at e
 | .c _,.Hd _,e=>by simp[XP.IJ]at e
 | .agg _,.c _,e=>by simp[XP.IJ]at e
 | .agg _,.Hd _,e=>by simp[XP.IJ]at e
 | .row _,.c _,e=>by simp[XP.IJ]at e
 | .row _,.Hd _,e=>by simp[XP.IJ]at e
 | .Hd _,.c _,e=>by simp[XP.IJ]at e
 | .Hd _,.agg _,e=>by simp[XP.IJ]at e
theorem Sp{N:Nat}{tm:List XV}:∀{l:List (Nat×XP)} {m m':JN},DR.IJ N tm m l=some m'→
  Ext m m'∧(∀q∈l,∃x,tm[q.1]? =some x∧Ra N m' q.2 x)∧(Zw m→Zw m')
 |[],m,m',e=>by simp only[DR.IJ,AD_]at e;subst e;exact⟨Ext.refl _,by simp,fun h=>h⟩
 |(i,p)::l,m,m',e=>by
  simp only[DR.IJ]at e;split at e
  ·rename_i x hx
   simp only[AED]at e;obtain⟨m1,e1,e2⟩:=e;obtain⟨a1,a2,a3⟩:=eQ e1;obtain⟨b1,b2,b3⟩:=Sp e2;refine⟨a1.trans b1,?_,fun h=>b3 (a3 h)⟩;intro q hq;rcases AEd.1 hq with rfl|hq
   ·exact⟨x,hx,Ra.ext b1 a2⟩
   ·exact b2 q hq
  ·cases e
theorem Nx{N:Nat}{bx:List Bx}:∀{l:List BP} {i:Nat} {m m':JN},FM.IJ N bx i m l=some m'→
  Ext m m'∧(∀(k:Nat) q,l[k]? =some (.mem q)→ ∃b cs,m'[i+k]? =some (some b)∧bx[b]? =some (.mem cs)∧BU (Kh N m') q cs)∧
   (∀(k:Nat) d r,l[k]? =some (.sl d r)→ ∃b,m'[i+k]? =some (some b))∧(Zw m→Zw m')
 |[],i,m,m',e=>by simp only[FM.IJ,AD_]at e;subst e;exact⟨Ext.refl _,by simp,by simp,fun h=>h⟩
 | .mem q::l,i,m,m',e=>by
  simp only[FM.IJ]at e;split at e
  ·rename_i b hb
   split at e
   ·rename_i cs lW
    simp only[AED]at e;obtain⟨m1,e1,e2⟩:=e;obtain⟨a1,a2,a3⟩:=Nv e1;obtain⟨b1,b2,b4,b3⟩:=Nx e2;refine⟨a1.trans b1,?_,?_,fun h=>b3 (a3 h)⟩
    ·intro k q' hk
     cases k with
     |zero=>cases hk;exact⟨b,cs,b1.2 _ _ (a1.2 _ _ hb),lW,BU.imp (fun _ _ k=>Kh.ext b1 k) a2⟩
     |succ k=>
      have:=b2 k q' (by simpa using hk)
      rwa [show i+1+k=i+(k+1)by omega]at this
    ·intro k d r hk
     cases k with
     |zero=>cases hk
     |succ k=>
      have:=b4 k d r (by simpa using hk)
      rwa [show i+1+k=i+(k+1)by omega]at this
   ·cases e
  ·cases e
 | .sl d r::l,i,m,m',e=>by
  simp only[FM.IJ]at e;split at e
  ·rename_i b hb
   obtain⟨b1,b2,b4,b3⟩:=Nx e;refine⟨b1,?_,?_,b3⟩
   ·intro k q' hk
    cases k with
    |zero=>cases hk
    |succ k=>
     have:=b2 k q' (by simpa using hk)
     rwa [show i+1+k=i+(k+1)by omega]at this
   ·intro k d r hk
    cases k with
    |zero=>exact⟨b,b1.2 _ _ hb⟩
    |succ k=>
     have:=b4 k d r (by simpa using hk)
     rwa [show i+1+k=i+(k+1)by omega]at this
  ·cases e
 | .gone::l,i,m,m',e=>by
  simp only[FM.IJ]at e;obtain⟨b1,b2,b4,b3⟩:=Nx e;refine⟨b1,?_,?_,b3⟩
  ·intro k q' hk
   cases k with
   |zero=>cases hk
   |succ k=>
    have:=b2 k q' (by simpa using hk)
    rwa [show i+1+k=i+(k+1)by omega]at this
  ·intro k d r hk
   cases k with
   |zero=>cases hk
   |succ k=>
    have:=b4 k d r (by simpa using hk)
    rwa [show i+1+k=i+(k+1)by omega]at this
theorem LC{bx bk:List Bx}{Fo:Nat→Nat}:∀{l:List BP} {m:JN} {x:FM.V l},FM.get bx bk m l=some x→(FM.mk Fo l x).length=l.length∧
  ∀(k:Nat) p,l[k]? =some p→ ∃y:p.V,(FM.mk Fo l x)[k]? =some (p.mk Fo y)∧
   match p,y with
   | .mem q,y=> ∃b cs,m[k]? =some (some b)∧bx[b]? =some (.mem cs)∧PQ.get bk q cs=some y
   | .sl d r,y=> ∃b d',m[k]? =some (some b)∧bx[b]? =some (.sl d' r y)∧1≤d∧d≤d'
   | .gone,_=>True
 |[],m,x,e=>⟨rfl,by simp⟩
 | .mem q::l,some b::m,x,e=>by
  simp only[FM.get]at e;split at e
  ·rename_i cs lW
   simp only[AED,AEC]at e;obtain⟨a,e1,c,e2,rfl⟩:=e;obtain⟨h1,h2⟩:=LC (Fo:=Fo) e2;refine⟨by simp[FM.mk,h1],fun k p hk=> ?_⟩;cases k with
   |zero=>cases hk;exact⟨a,rfl,b,cs,rfl,lW,e1⟩
   |succ k=>
    obtain⟨y,k1,k2⟩:=h2 k p (by simpa using hk);exact⟨y,by simpa[FM.mk]using k1,by simpa using k2⟩
  ·cases e
 | .sl d r::l,some b::m,x,e=>by
  simp only[FM.get]at e;split at e
  ·rename_i d' q rows hb
   split at e
   ·rename_i hd
    simp only[AED,AEC]at e;obtain⟨a,e1,c,e2,rfl⟩:=e;obtain⟨e3,e4⟩:=Ed e1;subst e3;subst e4;obtain⟨h1,h2⟩:=LC (Fo:=Fo) e2;refine⟨by simp[FM.mk,h1],fun k p hk=> ?_⟩;cases k with
    |zero=>cases hk;exact⟨rows,rfl,b,d',rfl,hb,hd.1,hd.2⟩
    |succ k=>
     obtain⟨y,k1,k2⟩:=h2 k p (by simpa using hk);exact⟨y,by simpa[FM.mk]using k1,by simpa using k2⟩
   ·cases e
  ·cases e
 | .gone::l,o::m,x,e=>by
  have e':(FM.get bx bk m l).map (fun c=>((),c))=some x:=by cases o<;>simpa only[FM.get]using e
  simp only[AEC]at e';obtain⟨c,e2,rfl⟩:=e';obtain⟨h1,h2⟩:=LC (Fo:=Fo) e2;refine⟨by simp[FM.mk,h1],fun k p hk=> ?_⟩;cases k with
  |zero=>cases hk;exact⟨(),rfl,trivial⟩
  |succ k=>
   obtain⟨y,k1,k2⟩:=h2 k p (by simpa using hk);exact⟨y,by simpa[FM.mk]using k1,by simpa using k2⟩
 | .mem q::l,none::m,x,e=>by simp[FM.get]at e
 | .sl d r::l,none::m,x,e=>by simp[FM.get]at e
 | .mem _::_,[],x,e=>by simp[FM.get]at e
 | .sl _ _::_,[],x,e=>by simp[FM.get]at e
 | .gone::_,[],x,e=>by simp[FM.get]at e
theorem EC:∀{m:JN} {bx:List Bx},(Bh bx m).length=bx.length
 |[],_=>rfl
 |some b::m,bx=>by simp[Bh,EC]
 |none::m,bx=>by simp[Bh,EC]
theorem LH:∀{m:JN} {bx vw:List Bx},Cs bx vw→Cs (Bh bx m) vw
 |[],_,_,h=>h
 |none::m,bx,vw,h=>by simp only[Bh];exact LH h
 |some b::m,bx,vw,h=>by
  simp only[Bh];refine LH fun k B hk=> ?_
  by_cases e:k=b
  ·subst e
   have Er:=(AD7.1 hk).1;rw[AEQ (by simpa using Er)]at hk;cases hk;exact .inl rfl
  ·rw[AEH (by omega)]at hk
   exact h k B hk
theorem OI:∀{m:JN} {bx:List Bx} {b:Nat} {B:Bx},some b∈m→(Bh bx m)[b]? =some B→B= .dead
 |some c::m,bx,b,B,h,e=>by
  simp only[Bh]at e;by_cases hm:some b∈m
  ·exact OI hm e
  ·have:c=b:=by
    rcases AEd.1 h with h|h
    ·cases h;rfl
    ·exact absurd h hm
   subst this;have:∀{m:JN} {bx:List Bx},bx[c]? =some .dead→some c∉m→(Bh bx m)[c]? =some .dead:=by
    intro m
    induction m with
    |nil=>intro bx h _;exact h
    |cons o m ih=>
     intro bx h hn;cases o with
     |none=>simp only[Bh];exact ih h (fun hh=>hn (AGT _ hh))
     |some d=>
      simp only[Bh];refine ih ?_ (fun hh=>hn (AGT _ hh))
      have:d≠c:=fun hh=>hn (by subst hh;simp)
      rw[AEH (by omega)];exact h
   have Er:c<bx.length:=by
    have:=(AD7.1 e).1;simpa[EC]using this
   have:=this (m:=m) (bx:=bx.set c .dead) (by simp[Er]) hm;rw[this]at e;cases e;rfl
 |none::m,bx,b,B,h,e=>by
  simp only[Bh]at e;exact OI (by simpa using h) e
theorem YW{E:Env}{w:World}{vw:List Bx}:∀{m:JN} {bx:List Bx} {G:ABC},Zw m→Bm E w vw bx G→
  ∃Gs:List ABC,Gs.length=m.length∧(∀(k b:Nat) B F,m[k]? =some (some b)→bx[b]? =some B→Gs[k]? =some F→ZH E w vw b B F)∧
   Bm E w vw (Bh bx m) (Gs.flatten++G)
 |[],bx,G,_,h=>⟨[],rfl,by simp,h⟩
 |none::m,bx,G,hi,h=>by
  obtain⟨Gs,h1,h2,h3⟩:=YW (m:=m) (fun i j b Dg hj=>by
   have:=hi (i+1) (j+1) b (by simpa using Dg) (by simpa using hj);omega) h
  refine⟨[]::Gs,by simp[h1],fun k b B F hk hB hF=> ?_,by simpa[Bh]using h3⟩;cases k with
  |zero=>simp at hk
  |succ k=>exact h2 k b B F (by simpa using hk) hB (by simpa using hF)
 |some b::m,bx,G,hi,h=>by
  have uR:Zw m:=fun i j b Dg hj=>by
   have:=hi (i+1) (j+1) b (by simpa using Dg) (by simpa using hj);omega
  cases e:bx[b]? with
  |none=>
   have QV:bx.set b .dead=bx:=List.set_eq_of_length_le (by simpa using e);obtain⟨Gs,h1,h2,h3⟩:=YW (m:=m) uR h;refine⟨[]::Gs,by simp[h1],fun k b' B F hk hB hF=> ?_,by simpa[Bh,QV]using h3⟩;cases k with
   |zero=>simp at hk;subst hk;rw[e]at hB;cases hB
   |succ k=>exact h2 k b' B F (by simpa using hk) hB (by simpa using hF)
  |some B0=>
   obtain⟨F0,k1,k2⟩:=h.take e;obtain⟨Gs,h1,h2,h3⟩:=YW (m:=m) uR k2;refine⟨F0::Gs,by simp[h1],fun k b' B F hk hB hF=> ?_,?_⟩
   ·cases k with
    |zero=>
     simp at hk hF;subst hk hF;rw[e]at hB;cases hB;exact k1
    |succ k=>
     have SY:b'≠b:=fun hh=>by
      have:=hi 0 (k+1) b (by simp) (by subst hh;simpa using hk);omega
     exact h2 k b' B F (by simpa using hk) (by rw[AEH (by omega)];exact hB) (by simpa using hF)
   ·simp only[Bh]
    refine h3.perm ?_
    rw[AFO,←AEE];exact AEW _ AE4
end Go.Fw
end
section
namespace Go.Fw
theorem Zn{R:Nat→List Nat→List Nat→List Nat→Prop}:∀(Gs:List ABC) (o:Nat),(∀(k:Nat) G,Gs[k]? =some G→ ∃F W,G.Perm (F++W)∧R (o+k) G F W)→
  ∃Fs Ws:List ABC,Fs.length=Gs.length∧Ws.length=Gs.length∧Gs.flatten.Perm (Fs.flatten++Ws.flatten)∧
   ∀(k:Nat) G F W,Gs[k]? =some G→Fs[k]? =some F→Ws[k]? =some W→R (o+k) G F W
 |[],o,_=>⟨[],[],rfl,rfl,by simp,by simp⟩
 |G::Gs,o,h=>by
  obtain⟨F,W,hp,hr⟩:=h 0 G rfl;obtain⟨Fs,Ws,h1,h2,h3,h4⟩:=Zn Gs (o+1) (fun k G hk=>by
   have:=h (k+1) G (by simpa using hk)
   rwa [show o+1+k=o+(k+1)by omega])
  refine⟨F::Fs,W::Ws,by simp[h1],by simp[h2],?_,fun k G' F' W' hG hF hW=> ?_⟩
  ·simp only[AFO]
   refine(hp.append h3).trans ?_
   rw[AEE,AEE];refine AE0 _ ?_
   rw[←AEE,←AEE];exact AEW _ AE4
  ·cases k with
   |zero=>simp at hG hF hW;subst hG hF hW;exact hr
   |succ k=>
    have:=h4 k G' F' W' (by simpa using hG) (by simpa using hF) (by simpa using hW)
    rwa [show o+1+k=o+(k+1)by omega]at this
def Hw(E:Env)(w:World)(vw:List Bx)(Fo:Nat→Nat):(l:List (Nat×XP))→DR.V l→List Value→Prop
 |[],_,_=>True
 |(i,p)::l,x,vals=>(∃v,vals[i]? =some v∧XR E w vw (p.mk Fo x.1) v)∧Hw E w vw Fo l x.2 vals
section
variable{E E1:Env} {w:World} {bx bk gY:List Bx} {Fk:List ABC} {m:JN}
theorem Kc.map{f:Nat→Nat}(h:∀(i b:Nat),m[i]? =some (some b)→E1.EY i=E.EY b):∀{is bs:ABC},Kc m is bs→
  (is.map fun b=>Value.pointer (some ⟨E1.EY b,0,none⟩))=bs.map fun b=>Value.pointer (some ⟨E.EY b,0,none⟩)
 |[],[],_=>rfl
 |i::is,b::bs,k=>by simp[h i b k.1,Kc.map (f:=f) h k.2]
theorem Kc.lt:∀{is bs:ABC},Kc m is bs→ ∀i∈is,i<m.length
 |[],[],_,_,h=>by simp at h
 |i::is,b::bs,k,j,h=>by
  rcases AEd.1 h with rfl|h
  ·exact(AD7.1 k.1).1
  ·exact Kc.lt k.2 j h
structure nY (N:Nat) (E:Env) (w:World) (bx bk:List Bx) (Fk:List ABC) (m:JN) (E1:Env) (gY:List Bx):Prop where
 within:Cs bk bx
 boxes:H0 E w bx bk Fk
 st:∀c,E.S c→E.T c
 T:∀c,Ys E Fk c→E1.T c
 S:∀c,E.S c→E1.S c
 ids:∀(i b:Nat),m[i]? =some (some b)→E1.EY i=E.EY b∧E1.Ei i=E.Ei b
 len:m.length≤gY.length
 nil:∀(i:Nat) d r rows,gY[i]? =some (.sl d r rows)→E.Ei (N+i)= .slice none 0 0
 sl:∀(i:Nat) d r rows,i<m.length→gY[i]? =some (.sl d r rows)→ ∃b d',m[i]? =some (some b)∧bx[b]? =some (.sl d' r rows)
variable{N:Nat} (k:nY N E w bx bk Fk m E1 gY)
include k
theorem h_{p:AP}{x:AV}{v:Value}(hv:VR E w bx x v)(ha:Kh N m p x){y:p.V}(e:p.get bk x=some y):VR E1 w gY (p.mk id y) v:=by
 cases p with
 |v t=>
  simp only[AP.get]at e;split at e
  ·rename_i hs
   have hr:=Mt k.within k.boxes k.st hv e;refine⟨hs,?_⟩;cases t with
   |int _=>simpa only[Rd]using hr
   |bool=>simpa only[Rd]using hr
   |str=>simpa only[Rd]using hr
   |_=>simp[Ty.scalar]at hs
  ·cases e
 |sl s r=>
  cases s with
  |false=>
   simp only[AP.get]at e;have hr:=Mt k.within k.boxes k.st hv e;simp only[AP.mk,VR];exact Cv k.T (fun _ _=>rfl) (by simpa using hr)
  |true=>
   simp only[AP.get]at e;split at e
   ·rename_i q z
    obtain⟨e1,e2⟩:=Ed e;subst e1;subst e2;simp only[AP.mk,VR]at hv⊢;exact Cv k.S (fun _ _=>rfl) (by simpa using hv)
   ·cases e
    simp only[AP.mk,VR]at hv⊢;subst hv;simp only[Rd];exact⟨none,0,rfl,by simp,.inl rfl⟩
   ·cases e
 |nil=>
  obtain rfl:=ha;exact hv
 |ref i=>
  obtain⟨b,hx,hm⟩:=ha;have hi:=(AD7.1 hm).1;simp only[AP.mk,id,VR];rcases hx with rfl|⟨rfl,rfl⟩
  ·have hsl:=hv.1
   refine⟨hsl,?_⟩;cases e1:gY[i]? with
   |none=>simp at e1;have:=k.len;omega
   |some B=>
    cases B with
    |sl d r rows=>
     obtain⟨b',d',h1,h2⟩:=k.sl i d r rows hi e1;rw[hm]at h1;cases h1;simp only[VR,h2]at hv
     replace hv:=hv.2
     refine⟨by simp[Bt],⟨_,rfl⟩,?_⟩;rw[(k.ids i b hm).2];exact hv.2.2
    |_=>trivial
  ·have SF:v= .slice none 0 0:=hv
   subst SF;refine⟨rfl,?_⟩;cases e1:gY[i]? with
   |none=>simp at e1;have:=k.len;omega
   |some B=>
    cases B with
    |sl d r rows=>
     refine⟨by simp[Bt],⟨_,rfl⟩,?_⟩;rw[(k.ids i _ hm).2,k.nil i d r rows e1,Bi]
    |_=>trivial
 |ptr i j=>
  obtain⟨b,rfl,hm⟩:=ha;have hi:=(AD7.1 hm).1;exact⟨AFI hi k.len,by rw[hv.2,id,(k.ids i b hm).1]⟩
 |fW r=>
  simp only[AP.get]at e;split at e
  ·rename_i s q z
   obtain⟨e1,e2⟩:=Ed e;subst e1;subst e2;simp only[AP.mk,VR]at hv⊢;obtain⟨bb,o,cs,h1,h2,h3,h4,h5⟩:=hv;have nQ:∀c,(if s=true then E.S else E.T) c→E1.T c:=by
    intro c hc;cases s
    ·exact k.T c (.inl (by simpa using hc))
    ·exact k.T c (.inl (k.st c (by simpa using hc)))
   exact⟨bb,o,cs,h1,by simpa using nQ bb h2,h3,h4,by simpa using Cv nQ (fun _ _=>rfl) h5⟩
  ·rename_i b
   split at e
   ·rename_i cs hb
    obtain⟨F,⟨hF,arr,ty,fr,ha,hu,O7⟩,RE⟩:=k.boxes.get hb;have PS:=U0 k.within k.boxes k.st O7 e;simp only[AP.mk,VR];refine⟨E.EY b,0,arr.toList,by simpa using hv.2,?_,WL PS,?_,by simpa using Cv k.T (fun _ _=>rfl) PS⟩
    ·simp only[AER,AFJ]
     exact k.T _ (.inr (RE _ (by rw[hF];simp)))
    ·intro j u hj
     simp only[AGB,World.cell?,ha,AGE,AER,AFJ];simpa using hj
   ·cases e
  ·rename_i b p i sz
   split at e
   ·rename_i d q rows hb
    simp only[AED]at e;obtain⟨⟨q',ys⟩,e1,e2⟩:=e;split at e2
    case isFalse=>cases e2
    rename_i He;obtain⟨e3,e4⟩:=Ed e2;dsimp only at e3;subst e3;subst e4;simp only[VR,P9 k.within hb]at hv;obtain⟨_,hp,q1,ys1,bb,o,len,cap,hg,hi,hh,rfl⟩:=hv;rw[hg]at e1;simp only[AD_,AEP]at e1;obtain⟨e5,e6⟩:=e1;subst e5;obtain rfl:=AE9 e6;have PS:=S2 k.within k.boxes k.st hb hp hg hh;simp only[Rd]at PS;obtain⟨a',cap',ee,_,PS⟩:=PS;simp only[AEk,Value.slice.injEq,AFR]at ee;obtain⟨rfl,rfl,rfl⟩:=ee;rcases PS with PS|⟨b1,o1,e7,hb1,PS⟩
    ·omega
    ·cases e7
     obtain⟨cs,c1,c2,c3⟩:=PS i _ (KR hi);simp only[AP.mk,VR];refine⟨bb,o+i*q1.n,cs,by rw[He],by simpa using k.T _ hb1,c1,c2,by simpa using Cv k.T (fun _ _=>rfl) c3⟩
   ·cases e
  ·cases e
 |fn f Fq=>
  obtain⟨bs,rfl,hc⟩:=ha;refine⟨fun i hi=>AFI (hc.lt i (by simpa[AP.mk]using hi)) k.len,?_⟩;rw[hv.2];simp only[AP.mk,List.map_id];rw[Kc.map (f:=id) (fun i b h=>(k.ids i b h).1) hc]
 |dI f rs=>
  simp only[AP.get]at e;split at e
  ·rename_i g rows
   split at e
   case isFalse=>cases e
   rename_i hfg;subst hfg;obtain⟨ps,SK,RD⟩:=hv;refine⟨ps,SK,?_⟩;clear ha SK
   induction rs generalizing rows ps with
   |nil=>
    cases rows with
    |nil=>
     cases ps with
     |nil=>trivial
     |cons _ _=>exact RD.elim
    |cons _ _=>simp[QC.Yp]at e
   |cons r rs ih=>
    cases rows with
    |nil=>simp[QC.Yp]at e
    |cons q rows=>
     cases ps with
     |nil=>exact RD.elim
     |cons p ps=>
      simp only[QC.Yp,AED,AEC]at e;obtain⟨x1,e1,x2,e2,rfl⟩:=e;obtain⟨q1,q2⟩:=q;obtain⟨e3,e4⟩:=Ed e1;dsimp only at e3;subst e3;subst e4;obtain⟨⟨bb,o,cs,h1,h2,h3,h4,h5⟩,RD⟩:=RD;exact⟨⟨bb,o,cs,h1,k.T bb (.inl h2),h3,h4,Cv (fun b hb=>k.T b (.inl hb)) (fun _ _=>rfl) h5⟩,ih rows e2 ps RD⟩
  ·rename_i g bs
   split at e
   case isFalse=>cases e
   rename_i hfg;subst hfg;obtain⟨SK,RD⟩:=hv;refine⟨bs.map fun b=>Value.pointer (some ⟨E.EY b,0,none⟩),RD,?_⟩;clear ha SK RD
   induction rs generalizing bs with
   |nil=>
    cases bs with
    |nil=>trivial
    |cons _ _=>simp[QC.Z5]at e
   |cons r rs ih=>
    cases bs with
    |nil=>simp[QC.Z5]at e
    |cons b bs=>
     simp only[QC.Z5,AED,AEC]at e;obtain⟨x1,e1,x2,e2,rfl⟩:=e;split at e1
     case h_2=>cases e1
     rename_i cs hb;obtain⟨F,⟨hF,arr,ty,fr,ha,hu,O7⟩,RE⟩:=k.boxes.get hb;have PS:=U0 k.within k.boxes k.st O7 e1;refine⟨⟨E.EY b,0,arr.toList,rfl,k.T _ (.inr (RE _ (by rw[hF];simp))),WL PS,?_,Cv k.T (fun _ _=>rfl) PS⟩,ih bs e2⟩;intro j u hj;simp only[AGB,World.cell?,ha,AGE,AER,AFJ];simpa using hj
  ·cases e
 |any=>trivial
 |Wm i sz=>
  obtain⟨b,q,j,rfl,hm⟩:=ha;have hi:=(AD7.1 hm).1;simp only[AP.get,AD_]at e;subst e;simp only[AP.mk,id,VR];have hsl:=hv.1;refine⟨hsl,?_⟩;cases e1:gY[i]? with
  |none=>simp at e1;have:=k.len;omega
  |some B=>
   cases B with
   |sl d r rows=>
    obtain⟨b',d',h1,h2⟩:=k.sl i d r rows hi e1;rw[hm]at h1;cases h1;simp only[VR,h2]at hv
    replace hv:=hv.2
    refine⟨hv.1,hv.2.1,?_⟩;rw[(k.ids i b hm).2];exact hv.2.2
   |_=>trivial
theorem Yf:∀{l:List AP} {xs:List AV} {vs:List Value},VF E w bx xs vs→BU (Kh N m) l xs→ ∀{y:PQ.V l},PQ.get bk l xs=some y→VF E1 w gY (PQ.mk id l y) vs
 |[],[],[],_,_,_,_=>trivial
 |p::l,x::xs,v::vs,hv,ha,y,e=>by
  simp only[PQ.get,AED,AEC]at e;obtain⟨a,e1,b,e2,rfl⟩:=e;exact⟨h_ k hv.1 ha.1 e1,Yf hv.2 ha.2 e2⟩
 |[],[],_::_,hv,_,_,_=>hv.elim
 |_::_,_::_,[],hv,_,_,_=>hv.elim
 |[],_::_,_,_,ha,_,_=>ha.elim
 |_::_,[],_,_,ha,_,_=>ha.elim
theorem cx:∀{l:List (AP ⊕ List AP)} {xs:List (AV ⊕ List AV)} {vs:List Value},BU (TR E w bx) xs vs→BU (Ur N m) l xs→ ∀{y:PV.V l},PV.get bk l xs=some y→
  BU (TR E1 w gY) (PV.mk id l y) vs
 |[],[],[],_,_,_,_=>trivial
 | .inl p::l,.inl x::xs,v::vs,hv,ha,y,e=>by
  simp only[PV.get,AED,AEC]at e;obtain⟨a,e1,b,e2,rfl⟩:=e;exact⟨h_ k hv.1 ha.1 e1,cx hv.2 ha.2 e2⟩
 | .inr p::l,.inr x::xs,v::vs,hv,ha,y,e=>by
  simp only[PV.get,AED,AEC]at e;obtain⟨a,e1,b,e2,rfl⟩:=e;obtain⟨⟨us,hu,hus⟩,h2⟩:=hv;exact⟨⟨us,hu,Yf k hus ha.1 e1⟩,cx h2 ha.2 e2⟩
 | .inl _::_,.inr _::_,_,_,ha,_,_=>ha.1.elim
 | .inr _::_,.inl _::_,_,_,ha,_,_=>ha.1.elim
 |[],[],_::_,hv,_,_,_=>hv.elim
 |_::_,_::_,[],hv,_,_,_=>hv.elim
 |[],_::_,_,_,ha,_,_=>ha.elim
 |_::_,[],_,_,ha,_,_=>ha.elim
theorem wz{p:XP}{x:XV}{v:Value}(hv:XR E w bx x v)(ha:Ra N m p x){y:p.V}(e:p.get bk x=some y):XR E1 w gY (p.mk id y) v:=by
 cases p with
 |c p=>cases x with
  |c x=>exact h_ k hv ha (by simpa only[XP.get]using e)
  |_=>exact ha.elim
 |agg l=>cases x with
  |agg xs=>
   obtain⟨vs,rfl,O7⟩:=hv;exact⟨vs,rfl,Yf k O7 ha (by simpa only[XP.get]using e)⟩
  |_=>exact ha.elim
 |row r=>cases x with
  |agg xs=>
   obtain⟨vs,rfl,O7⟩:=hv;exact⟨vs,rfl,V2 k.within k.boxes k.st k.T O7 (by simpa only[XP.get]using e)⟩
  |_=>exact ha.elim
 |Hd l=>cases x with
  |Hd xs=>
   obtain⟨vs,rfl,O7⟩:=hv;exact⟨vs,rfl,cx k O7 ha (by simpa only[XP.get]using e)⟩
  |_=>exact ha.elim
theorem bm{tm:List XV}{vals:List Value}(w5:BU (XR E w bx) tm vals):∀{l:List (Nat×XP)},(∀q∈l,∃x,tm[q.1]? =some x∧Ra N m q.2 x)→ ∀{y:DR.V l},DR.get bk tm l=some y→
  Hw E1 w gY id l y vals
 |[],_,_,_=>trivial
 |(i,p)::l,ha,y,e=>by
  obtain⟨x,hx,hax⟩:=ha (i,p) (by simp);simp only[DR.get,hx,AED,AEC]at e;obtain⟨a,e1,b,e2,rfl⟩:=e;obtain⟨v,hv,hr⟩:=w5.get hx;exact⟨⟨v,hv,wz k hr hax e1⟩,bm w5 (fun q hq=>ha q (by simp[hq])) e2⟩
end
structure dE (E:Env) (w:World) (bx:List Bx) (m:JN) (s:CI) (x:s.V) (vals:List Value) (E1:Env):Prop where
 boxes:Bm E1 w (FM.mk id s.Dk x.2) (FM.mk id s.Dk x.2) []
 CJ:Hw E1 w (FM.mk id s.Dk x.2) id s.CJ x.1 vals
 ids:∀(i b:Nat),m[i]? =some (some b)→E1.EY i=E.EY b∧E1.Ei i=E.Ei b
 inj:Zw m
 len:m.length=s.Dk.length
 S:∀c,E.S c→E1.S c
 jL:∀c,E1.S c→E.S c∨ ¬E.T c
 T:∀c,E.T c→E1.T c
 rest:∃Fk,H0 E w bx (Bh bx m) Fk∧Fk.flatten.Nodup∧(∀c∈Fk.flatten,¬E.T c∧ ¬E1.S c∧c<w.heap.size∧E1.T c)∧(∀c,E1.T c→E.T c∨E1.S c∨c∈Fk.flatten)
theorem W7{E:Env}{w:World}{bx:List Bx}{tm:List XV}{vals:List Value}(hB:Bm E w bx bx [])(w5:BU (XR E w bx) tm vals){s:CI}{m0 m:JN}{x:s.V}
  {N:Nat} (dz:∀(i:Nat) d r,s.Dk[i]? =some (.sl d r)→E.Ei (N+i)= .slice none 0 0) (hlen:m0.length=s.Dk.length) (uR:Zw m0) (e:s.fit N m0 tm bx=some (x,m)):Ext m0 m∧ ∃E1,dE E w bx m s x vals E1:=by
 simp only[CI.fit,AED,AEC]at e;obtain⟨m1,e1,m2,e2,a,e3,c,e4,e5⟩:=e;cases e5;obtain⟨a1,a2,a3⟩:=Sp e1;obtain⟨b1,b2,b4,b3⟩:=Nx e2;have hi:Zw m:=b3 (a3 uR);have gV:m.length=s.Dk.length:=by rw[b1.1,a1.1,hlen]
 refine⟨a1.trans b1,?_⟩;obtain⟨Gs,g1,g2,g3⟩:=YW hi hB;obtain⟨q1,q2⟩:=LC (Fo:=id) e4;have st:=hB.st
 let R:Nat→List Nat→List Nat→List Nat→Prop:=fun k G F W=>
  match s.Dk[k]? with
  |some (.sl d r)=> ∀(b d':Nat) (rows:List r.D),m[k]? =some (some b)→bx[b]? =some (.sl d' r rows)→Ow w (fun c=>E.S c∨c∈W) d (.sl r) [E.Ei b] rows F
  |some (.mem q)=>F=G∧W=[]
  |_=>F=[]∧W=G
 have y7:∀(k:Nat) G,Gs[k]? =some G→ ∃F W,G.Perm (F++W)∧R (0+k) G F W:=by
  intro k G hG;rw[AGB];have hk:k<s.Dk.length:=by
   have:=(AD7.1 hG).1;omega
  have hp:s.Dk[k]? =some s.Dk[k]:=AD9 hk;cases hb:s.Dk[k]with
  |mem q=>exact⟨G,[],by simp,by simp[R,hp,hb]⟩
  |gone=>exact⟨[],G,by simp,by simp[R,hp,hb]⟩
  |sl d r=>
   obtain⟨y,y1,b,d',y2,y3,y4,y5⟩:=q2 k _ (hp.trans (by rw[hb]));obtain⟨_,ho⟩:=g2 k b _ G y2 y3 hG;obtain⟨F,W,w1,w2⟩:=Fv y5 ho;refine⟨F,W,w1,?_⟩;simp only[R,hp,hb];intro b' d'' rows h1 h2;rw[y2]at h1;cases h1;rw[y3]at h2;cases h2;exact w2
 obtain⟨Fs,Ws,f1,f2,f3,f4⟩:=Zn Gs 0 y7;obtain⟨Fk,k1,k2⟩:=g3;simp only[AEX]at k2;have X8:Sep E w (Fk.flatten++(Fs.flatten++Ws.flatten)):=k2.perm (AE0 _ f3)
 let E1:Env:={
   EY:=fun i=>match m[i]? with|some (some b)=>E.EY b|_=>0
   Ei:=fun i=>match m[i]? with|some (some b)=>E.Ei b|_=> .nilFunc
   S:=fun c=>E.S c∨c∈Ws.flatten
   T:=fun c=>E.T c∨c∈Ws.flatten∨c∈Fk.flatten }
 have eT:∀(i b:Nat),m[i]? =some (some b)→E1.EY i=E.EY b∧E1.Ei i=E.Ei b:=fun i b h=>by simp[E1,h]
 have fe:nY N E w bx (Bh bx m) Fk m E1 (FM.mk id s.Dk c):={
  within:=LH (Cs.refl bx)
  boxes:=k1
  st:=st
  T:=fun d hd=>hd.elim .inl fun h=> .inr (.inr h)
  S:=fun d hd=> .inl hd
  ids:=eT
  len:=by rw[q1,gV];exact AE7 _
  nil:=fun i d r rows e=>by
   have hk:i<s.Dk.length:=by
    have:=(AD7.1 e).1
    rwa [q1]at this
   obtain⟨y,y1,_⟩:=q2 i _ (AD9 hk);have hp:=AD9 hk;rw[e]at y1
   generalize s.Dk[i]=P at y y1 hp
   cases P with
   |mem q=>cases y1
   |gone=>cases y1
   |sl d0 r0=>exact dz i d0 r0 hp
  sl:=fun i d r rows hi e=>by
   have hk:i<s.Dk.length:=by omega
   obtain⟨y,y1,y2⟩:=q2 i _ (AD9 hk);rw[e]at y1
   generalize s.Dk[i]=P at y y1 y2
   cases P with
   |mem q=>cases y1
   |gone=>cases y1
   |sl d0 r0=>
    simp only[BP.mk,AD_,Bx.sl.injEq]at y1;obtain⟨rfl,rfl,y1⟩:=y1;obtain rfl:=AE9 y1;obtain⟨b,d',z1,z2,_⟩:=y2;exact⟨b,d',z1,z2⟩ }
 have nd:=X8.nodup;have l3:∀c∈Fs.flatten,¬E1.T c:=by
  intro d hd h;rcases h with h|h|h
  ·exact X8.free d (by simp[hd]) h
  ·have:=(AEJ.1 (AEJ.1 nd).2.1).2.2 d hd d h
   exact this rfl
  ·have:=(AEJ.1 nd).2.2 d h d (by simp[hd])
   exact this rfl
 have wb:Hw E1 w (FM.mk id s.Dk c) id s.CJ a vals:=bm fe w5 (fun q hq=>let⟨x,h1,h2⟩:=a2 q hq;⟨x,h1,Ra.ext b1 h2⟩) e3;refine⟨E1,dE.mk ?_ wb eT hi gV (fun d hd=> .inl hd) ?_ (fun d hd=> .inl hd) ⟨Fk,k1,(AEJ.1 nd).1,fun d hd=>⟨X8.free d (by simp[hd]),?_,X8.lt d (by simp[hd]),.inr (.inr hd)⟩,?_⟩⟩
 ·refine⟨Fs,⟨by rw[f1,g1,q1,gV],fun k B F hk hF=> ?_⟩,?_⟩
  ·have hkl:k<s.Dk.length:=by
    have hk1:=(AD7.1 hk).1;rw[←q1];exact hk1
   have hp:s.Dk[k]? =some s.Dk[k]:=AD9 hkl;obtain⟨y,y1,y2⟩:=q2 k _ hp;rw[hk]at y1;cases y1;have hG:Gs[k]? =some (Gs[k]'(by omega)):=AD9 _;have hW:Ws[k]? =some (Ws[k]'(by omega)):=AD9 _;have hr:=f4 k _ F _ hG hF hW;rw[AGB]at hr;have ADG:∀d∈Ws[k]'(by omega),d∈Ws.flatten:=fun d hd=>AE5.2 ⟨_,AEN hW,hd⟩
   generalize AIk:s.Dk[k]=P at y y2 hp
   have ABp:=fun q=>b2 k q
   simp only[R,hp]at hr;cases P with
   |mem q=>
    obtain⟨b,cs,z1,z2,z3⟩:=y2;obtain⟨rfl,hW0⟩:=hr;obtain⟨hFe,arr,ty,fr,h1,h2,h3⟩:=g2 k b _ _ z1 z2 hG;obtain⟨b',SW,t1,t2,t3⟩:=ABp q hp;rw[AGB,z1]at t1;cases t1;rw[z2]at t2;cases t2;refine⟨by rw[hFe,(eT k b z1).1],arr,ty,fr,by rw[(eT k b z1).1];exact h1,h2,Yf fe h3 t3 z3⟩
   |sl d r=>
    obtain⟨b,d',z1,z2,z3,z4⟩:=y2;have:=hr b d' y z1 z2;refine⟨z3,?_⟩;rw[(eT k b z1).2];exact CT (fun d hd=>hd.elim .inl fun h=> .inr (ADG d h)) (fun _ _=>rfl) (fun _ _=>rfl) this
   |gone=>exact hr.1
  ·simp only[AEX]
   refine⟨(AEJ.1 (AEJ.1 nd).2.1).1,l3,fun d hd=>X8.lt d (by simp[hd]),fun d hd=>hd.elim (fun h=> .inl (st d h)) (fun h=> .inr (.inl h)),fun d hd=> ?_,X8.eK.mono (fun _ h=> .inl h) (fun _ _=>rfl)⟩;rcases hd with hd|hd|hd
   ·exact X8.TN d hd
   ·exact X8.lt d (by simp[hd])
   ·exact X8.lt d (by simp[hd])
 ·intro d hd
  exact hd.elim .inl fun h=> .inr (X8.free d (by simp[h]))
 ·intro h
  rcases h with h|h
  ·exact X8.free d (by simp[hd]) (st d h)
  ·have:=(AEJ.1 nd).2.2 d hd d (by simp[h])
   exact this rfl
 ·intro d hd
  rcases hd with hd|hd|hd
  ·exact .inl hd
  ·exact .inr (.inl (.inr hd))
  ·exact .inr (.inr hd)
end Go.Fw
end
section
namespace Go.Fw
def zv:Ty→Value
 | .int k=> .int k 0
 | .bool=> .bool false
 | .str=> .string ⟨#[]⟩
 |_=> .slice none 0 0
def DP:Ty→List Value
 | .cons c r=>zv c::DP r
 | .unit=>[]
 |t=>[zv t]
def Ty.cell:Ty→Bool
 | .unit| .cons _ _=>false
 |_=>true
def Ty.X0:Ty→Bool
 | .cons c r=>c.cell&&r.X0
 |_=>true
def eqZ:Value→Value→Bool
 | .int k n,.int k' n' =>decide (k=k')&&decide (n=n')
 | .bool a,.bool b=>decide (a=b)
 | .string a,.string b=>decide (a.data.toList=[])&&decide (b.data.toList=[])
 | .slice none a b,.slice none c d=>decide (a=c)&&decide (b=d)
 |_,_=>false
theorem zq{a b:Value}(h:eqZ a b=true):a=b:=by
 unfold eqZ at h;split at h
 ·simp at h;rw[h.1,h.2]
 ·simp at h;rw[h]
 ·rename_i a b
  simp at h;obtain⟨h1,h2⟩:=h;cases a;cases b;simp at h1 h2;subst h1 h2;rfl
 ·simp at h;rw[h.1,h.2]
 ·cases h
def kd:List Value→List Value→Bool
 |[],[]=>true
 |a::l,b::m=>eqZ a b&&kd l m
 |_,_=>false
theorem jM:∀{l m:List Value},kd l m=true→l=m
 |[],[],_=>rfl
 |a::l,b::m,h=>by
  simp only[kd,AEF]at h;rw[zq h.1,jM h.2]
 |[],_::_,h=>by simp[kd]at h
 |_::_,[],h=>by simp[kd]at h
def Uv(P:Program)(t:Nat):TD→Prop
 | .int k=>P.underlying t=some (.int k)
 | .bool=>P.underlying t=some .bool
 | .str=>P.underlying t=some .string
 | .sl e=>P.underlying t=some (.slice e)
 | .ptr e=>P.underlying t=some (.pointer e)
 | .st fs=> ∃fields,P.underlying t=some (.struct fields)∧fields.toList.map (fun f=>(f.offset,f.type))=fs∧(∀f∈fields.toList,f.name≠ "_" ∧ ∃i,P.info? f.type=some i∧i.size≠0)∧
  P.stoodInHeld t=false∧P.eqGuardType P.depth t=false
 | .other=> ∃d,P.underlying t=some d∧d.isRow=false
structure ACf (P:Program) (T:F9) (t:Nat) (ti:TI):Prop where
 info:∃i,P.info? t=some i∧i.size=ti.size∧i.bytes=ti.bytes∧(∀r,ti.row=some r→r.X0=true∧ ∃z,i.zero=some z∧z.cells.toList=DP r)
 nS:Uv P t ti.desc
def C2(P:Program)(T:F9):Prop:= ∀t ti,T.get t=some ti→ACf P T t ti
def dF(P:Program)(T:F9)(t:Nat)(ti:TI):Bool:=
 (match P.info? t with
  |some i=>decide (i.size=ti.size)&&decide (i.bytes=ti.bytes)&&(match ti.row with
   |some r=>r.X0&&(match i.zero with
    |some z=>kd z.cells.toList (DP r)
    |none=>false)
   |none=>true)
  |none=>false)&&
 (match ti.desc,P.underlying t with
  | .int k,some (.int k')=>decide (k=k')
  | .bool,some .bool=>true
  | .str,some .string=>true
  | .sl e,some (.slice e')=>decide (e=e')
  | .ptr e,some (.pointer e')=>decide (e=e')
  | .st fs,some (.struct fields)=>decide (fields.toList.map (fun f=>(f.offset,f.type))=fs)&&
    fields.toList.all (fun f=>decide (f.name≠ "_")&&(match P.info? f.type with|some i=>decide (i.size≠0)|none=>false))&&
    !P.stoodInHeld t&& !P.eqGuardType P.depth t
  | .other,some d=> !d.isRow
  |_,_=>false)
theorem dq{P:Program}{T:F9}{t:Nat}{ti:TI}(h:dF P T t ti=true):ACf P T t ti:=by
 unfold dF at h;rw[AEF]at h;obtain⟨h1,h2⟩:=h;constructor
 ·split at h1
  ·rename_i i hi
   simp only[AEF,AEK]at h1;refine⟨i,hi,h1.1.1,h1.1.2,fun r hr=> ?_⟩;obtain⟨_,h3⟩:=h1;rw[hr]at h3;dsimp only at h3;rw[AEF]at h3;obtain⟨hg,h3⟩:=h3;refine⟨hg,?_⟩;split at h3
   ·rename_i z hz
    exact⟨z,hz,jM h3⟩
   ·cases h3
  ·cases h1
 ·split at h2
  ·rename_i hd hu;simp only[hd,Uv];simp at h2;rw[hu,h2]
  ·rename_i hd hu;simp only[hd,Uv];exact hu
  ·rename_i hd hu;simp only[hd,Uv];exact hu
  ·rename_i hd hu;simp only[hd,Uv];simp at h2;rw[hu,h2]
  ·rename_i hd hu;simp only[hd,Uv];simp at h2;rw[hu,h2]
  ·rename_i fs fields hd hu
   simp only[hd,Uv];simp only[AEF,AEK,AF5,AGK]at h2;refine⟨fields,hu,h2.1.1.1,fun f hf=> ?_,h2.1.2,h2.2⟩;have:=h2.1.1.2 f hf;refine⟨this.1,?_⟩;have h4:=this.2;split at h4
   ·rename_i i hi
    exact⟨i,hi,by simpa using h4⟩
   ·cases h4
  ·rename_i d hd hu;simp only[hd,Uv]
   exact⟨d,hu,by simpa using h2⟩
  ·cases h2
def ni(P:Program)(T:F9):Bool:=T.all fun q=>dF P T q.1 q.2
theorem F9.get_mem:∀{T:F9} {t:Nat} {ti:TI},T.get t=some ti→(t,ti)∈T
 |(u,i)::l,t,ti,h=>by
  simp only[F9.get]at h;split at h
  ·rename_i e;cases h;subst e;simp
  ·exact AGT _ (F9.get_mem h)
 |[],_,_,h=>by simp[F9.get]at h
theorem aC{P:Program}{T:F9}(h:ni P T=true):C2 P T:=fun t ti e=>
 dq (by simpa using AF5.1 h (t,ti) (F9.get_mem e))
section
variable{P:Program} {T:F9} (hT:C2 P T)
include hT
theorem C2.size{t:Nat}{ti:TI}(e:T.get t=some ti):(P.info? t).map (·.size)=some ti.size:=by
 obtain⟨i,h1,h2,_⟩:=(hT t ti e).info;simp[h1,h2]
theorem C2.sizeOf{t:Nat}{ti:TI}(e:T.get t=some ti)(w:World):(Go.sizeOf t).run P w= .ok ti.size w:=by
 obtain⟨i,h1,h2,_⟩:=(hT t ti e).info;simp[Go.sizeOf,typeInfo,h1,h2]
omit hT in
theorem Am{t:Nat}{d:TypeDesc}(h:P.underlying t=some d)(w:World):(Go.underlying t).run P w= .ok d w:=by
 simp[Go.underlying,h]
theorem C2.isAgg{t:Nat}{ti:TI}(e:T.get t=some ti)(w:World):(Go.isAgg t).run P w= .ok ti.desc.agg w:=by
 have hu:=(hT t ti e).nS;unfold Go.isAgg;cases hd:ti.desc<;>rw[hd]at hu<;>simp only[Uv]at hu
 case st fs=>
  obtain⟨fields,hu,_⟩:=hu;simp[Am hu,TD.agg]
 case other=>
  obtain⟨d,hu,hd⟩:=hu;rw[Sem.run_bind,Am hu];cases d<;>simp_all[TypeDesc.isRow,TD.agg]
 all_goals simp[Am hu,TD.agg]
end
end Go.Fw
end
section
namespace Go.Fw
def Gl{Y:Type}(P:Program)(o:Oper)(E:Env)(σ:St)(a:Act)(w:World)(k:K Y)(y:Y):Prop:=
 ∃v w' E' x σ',((execOp a.eval o).run P w= .ok (.value v) w'∨((execOp a.eval o).run P w= .ok .skip w'∧v=undef))∧Rel E' σ' a w'∧XR E' w' σ'.bx x v∧Ka (Eu (fun _=>none) σ o.op) E σ.bx w E' σ'.bx w'∧
  σ'.tm.length=σ.tm.length∧k x σ' =some y
section
variable{Y:Type} {P:Program} {T:F9} {o:Oper} {E:Env} {σ:St} {a:Act} {w:World} {k:K Y} {y:Y}
theorem Gl.same(h:Rel E σ a w){v:Value}{x:XV}(hr:(execOp a.eval o).run P w= .ok (.value v) w)(hx:XR E w σ.bx x v)(hk:k x σ=some y):Gl P o E σ a w k y:=
 ⟨v,w,E,x,σ,.inl hr,h,hx,Ka.refl _ E σ.bx w,rfl,hk⟩
theorem RP{vw:List Bx}{κ:IntKind}{n:Int}{v:Value}(h:VR E w vw (.v (.int κ) n) v):v= .int κ n:=by
 have:=h.2;simpa[Rd]using this
theorem LB{vw:List Bx}{b:Bool}{v:Value}(h:VR E w vw (.v .bool b) v):v= .bool b:=by
 have:=h.2;simpa[Rd]using this
theorem PM{vw:List Bx}{s:AAh}{v:Value}(h:VR E w vw (.v .str s) v):v= .string ⟨s.toArray⟩:=by
 have:=h.2;simpa[Rd]using this
theorem VR.int{vw:List Bx}(κ:IntKind)(n:Int):VR E w vw (.v (.int κ) n) (.int κ n):=⟨rfl,by simp[Rd]⟩
theorem VR.bool{vw:List Bx}(b:Bool):VR E w vw (.v .bool b) (.bool b):=⟨rfl,by simp[Rd]⟩
theorem VR.str{vw:List Bx}(s:AAh):VR E w vw (.v .str s) (.string ⟨s.toArray⟩):=⟨rfl,by simp[Rd]⟩
theorem Ni(s:AAh):ByteArray.toList ⟨s.toArray⟩=s:=by
 have:∀(n i:Nat) (r:AAh),n=s.length-i→ByteArray.toList.loop ⟨s.toArray⟩ i r=r.reverse++s.drop i:=by
  intro n
  induction n with
  |zero=>
   intro i r hn;unfold ByteArray.toList.loop;rw[AEB (by simp[ByteArray.size];omega),List.drop_of_length_le (by omega)];simp
  |succ n ih=>
   intro i r hn;unfold ByteArray.toList.loop;have hi:i<s.length:=by omega
   rw[AEA (by simpa[ByteArray.size]using hi),ih (i+1) _ (by omega)];have:(⟨s.toArray⟩:ByteArray).get! i=s[i]:=by
    simp[ByteArray.get!,hi]
   rw[this,AFq hi];simp
 unfold ByteArray.toList;rw[this _ 0 [] rfl];simp
theorem dZ(a b:AAh):(⟨a.toArray⟩:ByteArray)++⟨b.toArray⟩=⟨(a++b).toArray⟩:=by
 apply ByteArray.ext;simp
theorem fH(op:BinOp)(t:TypeId)(x y:Operand)(u v:Value)(hu:∀l,u≠ .agg l)(hn:u≠ .nilIface)(w:World):(eqGuard op t x y u v).run P w= .ok () w:=by
 unfold eqGuard;by_cases h:(op matches .eql| .neq)=true
 ·cases u<;>first
   |(exfalso;exact hn rfl)
   |(exfalso;exact hu _ rfl)
   |(cases v<;>simp[h])
 ·simp[h]
  exact fun hh=>absurd hh h
theorem fz{op:BinOp}{κ:IntKind}{m n:Int}{k:AV→Option Y}{y:Y}(e:UH op κ m n k=some y)(t:TypeId)(w:World):
  ∃z v,k z=some y∧(binOp op t (.int κ m) (.int κ n)).run P w= .ok v w∧ ∀E vw,VR E w vw z v:=by
 cases op with
 |add=>exact⟨_,.int κ (κ.wrap (m+n)),e,by simp[binOp,Op.intArith],fun _ _=>VR.int _ _⟩
 |sub=>exact⟨_,.int κ (κ.wrap (m-n)),e,by simp[binOp,Op.intArith],fun _ _=>VR.int _ _⟩
 |mul=>exact⟨_,.int κ (κ.wrap (m*n)),e,by simp[binOp,Op.intArith],fun _ _=>VR.int _ _⟩
 |and=>exact⟨_,.int κ (κ.wrap (BitVec.ofInt κ.bits m &&& BitVec.ofInt κ.bits n).toNat),e,by simp[binOp,Op.intBits],fun _ _=>VR.int _ _⟩
 |or=>exact⟨_,.int κ (κ.wrap (BitVec.ofInt κ.bits m ||| BitVec.ofInt κ.bits n).toNat),e,by simp[binOp,Op.intBits],fun _ _=>VR.int _ _⟩
 |xor=>exact⟨_,.int κ (κ.wrap (BitVec.ofInt κ.bits m ^^^ BitVec.ofInt κ.bits n).toNat),e,by simp[binOp,Op.intBits],fun _ _=>VR.int _ _⟩
 |andNot=>exact⟨_,.int κ (κ.wrap (BitVec.ofInt κ.bits m &&& ~~~BitVec.ofInt κ.bits n).toNat),e,by simp[binOp,Op.intBits],fun _ _=>VR.int _ _⟩
 |eql=>exact⟨_,.bool (m==n),e,by simp[binOp,Op.intCmp],fun _ _=>VR.bool _⟩
 |neq=>exact⟨_,.bool (m !=n),e,by simp[binOp,Op.intCmp],fun _ _=>VR.bool _⟩
 |lss=>exact⟨_,.bool (decide (m<n)),e,by simp[binOp,Op.intCmp],fun _ _=>VR.bool _⟩
 |leq=>exact⟨_,.bool (decide (m≤n)),e,by simp[binOp,Op.intCmp],fun _ _=>VR.bool _⟩
 |gtr=>exact⟨_,.bool (decide (m>n)),e,by simp[binOp,Op.intCmp],fun _ _=>VR.bool _⟩
 |geq=>exact⟨_,.bool (decide (m≥n)),e,by simp[binOp,Op.intCmp],fun _ _=>VR.bool _⟩
 |quo=>
  simp only[UH]at e;split at e
  ·cases e
  ·rename_i hz
   exact⟨_,.int κ (κ.wrap (m.tdiv n)),e,by simp[binOp,Op.intDiv,hz],fun _ _=>VR.int _ _⟩
 |rem=>
  simp only[UH]at e;split at e
  ·cases e
  ·rename_i hz
   exact⟨_,.int κ (m.tmod n),e,by simp[binOp,Op.intDiv,hz],fun _ _=>VR.int _ _⟩
 |_=>simp[UH]at e
theorem UJ{op:BinOp}{κ κ':IntKind}{m n:Int}{k:AV→Option Y}{y:Y}(e:PY op κ m n k=some y)(t:TypeId)(w:World):
  ∃z v,k z=some y∧(binOp op t (.int κ m) (.int κ' n)).run P w= .ok v w∧ ∀E vw,VR E w vw z v:=by
 unfold PY at e;split at e
 ·cases e
 ·rename_i hn
  cases op with
  |shl=>exact⟨_,.int κ (κ.wrap (m*2^min n.toNat κ.bits)),e,by simp[binOp,Op.shift,hn],fun _ _=>VR.int _ _⟩
  |shr=>exact⟨_,.int κ (m.fdiv (2^min n.toNat κ.bits)),e,by simp[binOp,Op.shift,hn],fun _ _=>VR.int _ _⟩
  |_=>simp at e
theorem fg{op:BinOp}{s u:AAh}{k:AV→Option Y}{y:Y}(e:VL op s u k=some y)(t:TypeId)(w:World):
  ∃z v,k z=some y∧(binOp op t (.string ⟨s.toArray⟩) (.string ⟨u.toArray⟩)).run P w= .ok v w∧ ∀E vw,VR E w vw z v:=by
 have h1:=Ni s;have h2:=Ni u;cases op with
 |eql=>exact⟨_,.bool (s==u),e,by simp[binOp,Op.stringOp,h1,h2],fun _ _=>VR.bool _⟩
 |neq=>exact⟨_,.bool (!(s==u)),e,by simp[binOp,Op.stringOp,h1,h2],fun _ _=>VR.bool _⟩
 |lss=>exact⟨_,.bool (Op.bytesLess s u),e,by simp[binOp,Op.stringOp,h1,h2],fun _ _=>VR.bool _⟩
 |leq=>exact⟨_,.bool (Op.bytesLess s u||s==u),e,by simp[binOp,Op.stringOp,h1,h2],fun _ _=>VR.bool _⟩
 |gtr=>exact⟨_,.bool (!(Op.bytesLess s u||s==u)),e,by simp[binOp,Op.stringOp,h1,h2],fun _ _=>VR.bool _⟩
 |geq=>exact⟨_,.bool (!Op.bytesLess s u),e,by simp[binOp,Op.stringOp,h1,h2],fun _ _=>VR.bool _⟩
 |add=>
  simp only[VL]at e;split at e
  ·rename_i hl
   refine⟨_,.string ⟨(s++u).toArray⟩,e,?_,fun _ _=>VR.str _⟩;have hs:(⟨s.toArray⟩:ByteArray).size=s.length:=by simp[ByteArray.size]
   have hu:(⟨u.toArray⟩:ByteArray).size=u.length:=by simp[ByteArray.size]
   have X5: ¬(((⟨s.toArray⟩:ByteArray).size+(⟨u.toArray⟩:ByteArray).size:Nat):Int)>IntKind.i64.max:=by
    rw[hs,hu];simp only[Cg,IntKind.max,IntKind.signed,IntKind.bits]at hl⊢;simp;omega
   simp only[binOp,Op.stringOp,Sem.run_ite,AEB X5,dZ];rfl
  ·cases e
 |_=>simp[VL]at e
theorem cu{d:TD}{x z:AV}{p:Bool}(e:ZC d x z=some p){E:Env}{w:World}{vw:List Bx}{v u:Value}(hx:VR E w vw x v)(hz:VR E w vw z u){t:TypeId}
  (hu:Uv P t d) (n:Nat):(Op.equalIn (n+1) t v u).run P w= .ok p w∧d.agg=false:=by
 unfold ZC at e;split at e
 ·rename_i κ j a k b
  split at e
  ·rename_i hj
   subst hj;cases e;rw[RP hx,RP hz];exact⟨run_equalIn_int (P:=P) w n t j κ a b hu,rfl⟩
  ·cases e
 ·cases e
  rw[LB hx,LB hz];exact⟨run_equalIn_bool' (P:=P) w n t _ _ hu,rfl⟩
 ·cases e
  rename_i a b;rw[PM hx,PM hz];have q:=run_equalIn_string (P:=P) w n t ⟨a.toArray⟩ ⟨b.toArray⟩ hu;rw[Ni,Ni]at q;exact⟨q,rfl⟩
 ·cases e
theorem UD{T:F9}(hT:C2 P T){E:Env}{w:World}{vw:List Bx}{xs ys:Array Value}:∀{fields:List Field} {i:Nat} {l m:List AV} {vs us:List Value} {r:Bool},
  (∀f∈fields,f.name≠ "_")→VF E w vw l vs→VF E w vw m us→Gj T i (fields.map fun f=>(f.offset,f.type)) l m=some r→
  (∀(j:Nat) v,vs[j]? =some v→xs[i+j]? =some v)→(∀(j:Nat) v,us[j]? =some v→ys[i+j]? =some v)→(Op.eqFields 9999 xs ys fields).run P w= .ok r w
 |[],i,[],[],_,_,r,_,_,_,e,_,_=>by
  simp only[AG9,Gj,AD_]at e;subst e;simp[Op.eqFields]
 |f::fs,i,x::l,z::m,v::vs,u::us,r,hn,hx,hz,e,h1,h2=>by
  simp only[AGY,Gj]at e;split at e
  case isFalse=>cases e
  rename_i ho;have hv:=h1 0 v rfl;have hu:=h2 0 u rfl;simp only[AGS]at hv hu;have ACT:=hn f (by simp);split at e
  case h_2=>cases e
  rename_i ti Kq;split at e
  case h_2=>cases e
  rename_i p hp;simp only[AEC]at e;obtain⟨r',e',rfl⟩:=e;have AFb:=UD hT (fields:=fs) (i:=i+1) (l:=l) (m:=m) (vs:=vs) (us:=us) (r:=r') (fun f hf=>hn f (by simp[hf])) hx.2 hz.2 e'
   (fun j v' hj=>by have:=h1 (j+1) v' (by simpa using hj);rwa [show i+(j+1)=i+1+j by omega]at this)
   (fun j v' hj=>by have:=h2 (j+1) v' (by simpa using hj);rwa [show i+(j+1)=i+1+j by omega]at this)
  have Vj:=(hT f.type ti Kq).nS;obtain⟨q,na⟩:=cu (P:=P) hp hx.1 hz.1 (t:=f.type) Vj 9998;have VG:=C2.isAgg hT Kq w;rw[na]at VG;have p1:(part f.type xs f.offset).run P w= .ok v w:=by simp[part,VG,ho,hv]
  have p2:(part f.type ys f.offset).run P w= .ok u w:=by simp[part,VG,ho,hu]
  simp only[Op.eqFields,ACT,ne_eq,not_false_eq_true,AGG,Sem.run_bind,p1,p2,Result.andThen_ok,q,AFb,Sem.run_ite,Sem.run_pure];cases p<;>simp
 |[],_,_::_,_,_,_,_,_,_,_,e,_,_=>by simp[Gj]at e
 |[],_,[],_::_,_,_,_,_,_,_,e,_,_=>by simp[Gj]at e
 |_::_,_,[],_,_,_,_,_,_,_,e,_,_=>by simp[Gj]at e
 |_::_,_,x::_,[],_,_,_,_,_,_,e,_,_=>by simp[Gj]at e
 |_::_,_,_::_,_::_,[],_,_,_,hx,_,_,_,_=>hx.elim
 |_::_,_,_::_,_::_,_::_,[],_,_,_,hz,_,_,_=>hz.elim
theorem Zp(op:BinOp)(t:TypeId)(p q:Bool)(hu:P.underlying t=some .bool)(w:World):(op= .eql→(binOp op t (.bool p) (.bool q)).run P w= .ok (.bool (p==q)) w)∧
  (op= .neq→(binOp op t (.bool p) (.bool q)).run P w= .ok (.bool (!(p==q))) w):=by
 have h:=run_equalIn_bool' (P:=P) w 9999 t p q hu;constructor
 ·rintro rfl
  simp only[binOp,Op.equal,Op.maxDepth,Sem.run_bind,h,Result.andThen_ok,Sem.run_pure]
 ·rintro rfl
  simp only[binOp,Op.equal,Op.maxDepth,Sem.run_bind,h,Result.andThen_ok,Sem.run_pure]
theorem Uf{T:F9}(hT:C2 P T){t:Nat}{op:BinOp}{x z:XV}{k:AV→Option Y}{y:Y}(e:fJ T t op x z k=some y){E:Env}{w:World}{vw:List Bx}{v u:Value}
  (hx:XR E w vw x v) (hz:XR E w vw z u) (ox oz:Operand):
  ∃r val,k r=some y∧(do eqGuard op t ox oz v u;binOp op t v u:Sem Value).run P w= .ok val w∧VR E w vw r val:=by
 have guard:∀(v u:Value),(∀l,v≠ .agg l)→v≠ .nilIface→ ∀val,(binOp op t v u).run P w= .ok val w→(do eqGuard op t ox oz v u;binOp op t v u:Sem Value).run P w= .ok val w:=by
  intro v u h1 h2 val h;rw[Sem.run_bind,fH op t ox oz v u h1 h2 w,Result.andThen_ok,h]
 unfold fJ at e;split at e
 ·rename_i j m j' n
  have hv:=RP (E:=E) (vw:=vw) hx;have hu:=RP (E:=E) (vw:=vw) hz;subst hv hu;have done:∀(q:∃r val,k r=some y∧(binOp op t (.int j m) (.int j' n)).run P w= .ok val w∧ ∀E vw,VR E w vw r val),∃r val,k r=some y∧(do eqGuard op t ox oz (.int j m) (.int j' n);binOp op t (.int j m) (.int j' n):Sem Value).run P w= .ok val w∧VR E w vw r val:=by
   rintro⟨r,val,h1,h2,h3⟩
   exact⟨r,val,h1,guard _ _ (by simp) (by simp) _ h2,h3 _ _⟩
  split at e
  ·exact done (UJ e t w)
  ·exact done (UJ e t w)
  ·split at e
   ·rename_i hj
    subst hj;exact done (fz e t w)
   ·cases e
 ·rename_i s s'
  have hv:=PM (E:=E) (vw:=vw) hx;have hu:=PM (E:=E) (vw:=vw) hz;subst hv hu;obtain⟨r,val,h1,h2,h3⟩:=fg (P:=P) e t w;exact⟨r,val,h1,guard _ _ (by simp) (by simp) _ h2,h3 _ _⟩
 ·rename_i p q
  have hv:=LB (E:=E) (vw:=vw) hx;have hu:=LB (E:=E) (vw:=vw) hz;subst hv hu;split at e
  ·rename_i ti Kq
   have Vj:=(hT t ti Kq).nS;split at e
   ·rename_i hd
    rw[hd]at Vj;split at e
    ·exact⟨_,_,e,guard _ _ (by simp) (by simp) _ ((Zp _ t p q Vj w).1 rfl),VR.bool _⟩
    ·exact⟨_,_,e,guard _ _ (by simp) (by simp) _ ((Zp _ t p q Vj w).2 rfl),VR.bool _⟩
    ·cases e
   ·cases e
  ·cases e
 ·rename_i l m
  obtain⟨vs,rfl,O7⟩:=hx;obtain⟨us,rfl,hus⟩:=hz;have key:∀r,((T.fields t).bind fun fs=>Gj T 0 fs l m)=some r→(Op.equalIn 10000 t (.agg vs) (.agg us)).run P w= .ok r w∧P.eqGuardType P.depth t=false:=by
   intro r hr;simp only[AED]at hr;obtain⟨fs,hf,hr⟩:=hr;unfold F9.fields at hf;split at hf
   ·rename_i fs' hd
    cases hf;simp only[AEC]at hd;obtain⟨ti,Kq,hd⟩:=hd;have Vj:=(hT t ti Kq).nS;rw[hd]at Vj;obtain⟨fields,hu,zI,ve,iL,hg⟩:=Vj;have hfo:P.fieldsOf t=fields:=by simp[Program.fieldsOf,hu]
    have q:=run_equalIn_agg (P:=P) w 9999 t vs us (by rw[hfo];exact hu) iL;rw[hfo]at q;refine⟨q.trans ?_,hg⟩;subst zI;exact UD hT (fun f hf=>(ve f hf).1) O7 hus hr (fun j v hj=>by simpa using hj) (fun j v hj=>by simpa using hj)
   ·cases hf
  split at e
  ·rename_i r hr
   obtain⟨q,hg⟩:=key r hr;refine⟨_,_,e,?_,VR.bool r⟩;rw[Sem.run_bind,run_eqGuard_agg (P:=P) w _ t ox oz vs us hg,Result.andThen_ok,run_eql_struct (P:=P) w t vs us,q];rfl
  ·rename_i r hr
   obtain⟨q,hg⟩:=key r hr;refine⟨_,_,e,?_,VR.bool (!r)⟩;rw[Sem.run_bind,run_eqGuard_agg (P:=P) w _ t ox oz vs us hg,Result.andThen_ok,run_neq_struct (P:=P) w t vs us,q];rfl
  ·cases e
 ·cases e
end
end Go.Fw
end
section
namespace Go.Fw
section
variable{Y:Type} {P:Program} {T:F9} (hT:C2 P T) {E:Env} {w:World} {vw:List Bx}
include hT
theorem rX{t:Nat}{s b:Nat}{fs:List ABP}{rw:Option Ty}(e:T.get t=some ⟨s,b,.st fs,rw⟩):∃fields,P.underlying t=some (.struct fields)∧fields.toList.map (fun f=>(f.offset,f.type))=fs∧
  ∀f∈fields.toList,∃i,P.info? f.type=some i∧i.size≠0:=by
 obtain⟨fields,h1,h2,h3,_⟩:=(hT t _ e).nS;exact⟨fields,h1,h2,fun f hf=>(h3 f hf).2⟩
omit hT in
theorem Ze{a:Addr}{f:Field}(h:∃i,P.info? f.type=some i∧i.size≠0):(fieldPlace a f).run P w= .ok (a.add f.offset) w:=by
 obtain⟨i,h1,h2⟩:=h;simp[fieldPlace,Go.sizeOf,typeInfo,h1,h2]
theorem Ml{t:Nat}{s b:Nat}{fs:List ABP}{rw:Option Ty}(e:T.get t=some ⟨s,b,.st fs,rw⟩){f o u:Nat}(hf:fs[f]? =some (o,u)){a:Addr}:
  (Instr.fieldAt t (.pointer (some a)) f).run P w= .ok (.pointer (some (a.add o))) w:=by
 obtain⟨fields,h1,h2,h3⟩:=rX hT e;subst h2;simp only[AFG,AEC]at hf;obtain⟨fld,w9,he⟩:=hf;have hm:=AEN w9;have hfa:fields[f]? =some fld:=by simpa using w9
 simp only[AFH]at he;simp[Instr.fieldAt,Am h1,hfa,Instr.sureAddr,Ze (h3 fld hm),he.1]
theorem Vs{t:Nat}{x z:XV}{f:Nat}(e:dp T t x f=some z){v:Value}(hx:XR E w vw x v):∃u,(Instr.fieldAt t v f).run P w= .ok u w∧XR E w vw z u:=by
 unfold dp at e;split at e
 case h_2=>cases e
 rename_i s b fs _ Kq;split at e
 case h_2=>cases e
 rename_i o u hf;split at e
 ·rename_i b' j
  cases e;obtain⟨h1,rfl⟩:=hx;exact⟨_,Ml hT Kq hf,h1,by rw[Addr.add_eq]⟩
 ·rename_i b' p i sz j
  cases e;obtain⟨h0,h1⟩:=hx;cases v with
  |pointer oa=>
   cases oa with
   |none=>simp[SM]at h0
   |some a=>
    obtain⟨ab,ao,sp⟩:=a;cases sp with
    |some _=>simp[SM]at h0
    |none=>
     refine⟨_,Ml hT Kq hf,by rw[Addr.add_eq];rfl,?_⟩;revert h1;split
     ·rintro⟨hp,q,ys,bb,o',len,cap,g1,g2,g3,g4⟩
      refine⟨hp,q,ys,bb,o',len,cap,g1,g2,g3,?_⟩;simp only[Value.pointer.injEq,AD_,Addr.mk.injEq,AFR]at g4;rw[Addr.add_eq,g4.1,g4.2,AGe]
     ·exact fun h=>h
     ·exact fun h=>h
  |_=>simp[SM]at h0
 ·rename_i s r y j
  cases e;obtain⟨bb,o',cs,rfl,h2,h3,h4,h5⟩:=hx;refine⟨_,Ml hT Kq hf,bb,o',cs,?_,h2,h3,h4,h5⟩;rw[Addr.add_eq,AGe]
 ·cases e
theorem Xk{t:Nat}{x z:XV}{f:Nat}(e:nP T t x f=some z){v:Value}(hx:XR E w vw x v):∃u,(Instr.field t v f).run P w= .ok u w∧XR E w vw z u:=by
 unfold nP at e;split at e
 case h_2=>cases e
 rename_i s b fs _ l Kq;obtain⟨vs,rfl,O7⟩:=hx;split at e
 case h_2=>cases e
 rename_i o u hf;split at e
 case h_2=>cases e
 rename_i ti htu;obtain⟨fields,h1,h2,h3⟩:=rX hT Kq;subst h2;simp only[AFG,AEC]at hf;obtain⟨fld,w9,he⟩:=hf;have hfa:fields[f]? =some fld:=by simpa using w9
 simp only[AFH]at he;obtain⟨rfl,rfl⟩:=he;have VG:=C2.isAgg hT htu w;have He:=C2.sizeOf hT htu w;split at e
 ·rename_i ha
  cases e;rw[ha]at VG;refine⟨.agg (vs.extract fld.offset (fld.offset+ti.size)),?_,_,rfl,?_⟩
  ·simp[Instr.field,Am h1,hfa,asAgg,part,VG,He]
  ·have:(vs.extract fld.offset (fld.offset+ti.size)).toList=(vs.toList.drop fld.offset).take ti.size:=by
    rw[Array.toList_extract,List.extract_eq_take_drop];simp
   rw[this];exact BU.take _ (BU.drop _ O7)
 ·rename_i ha
  simp only[AEz]at ha;rw[ha]at VG;simp only[AEC]at e;obtain⟨y,hy,rfl⟩:=e;obtain⟨v,hv,hr⟩:=BU.get O7 hy;refine⟨v,?_,hr⟩;have:vs[fld.offset]? =some v:=by simpa using hv
  simp[Instr.field,Am h1,hfa,asAgg,part,VG,this]
theorem Ix{t:Nat}{r:Ty}(h:T.Lc t r=true):∃e ti,P.underlying t=some (.slice e)∧T.get e=some ti∧ti.size=r.n∧ti.bytes≤512∧ti.row=some r:=by
 unfold F9.Lc at h;split at h
 ·rename_i ti Kq
  simp only[AEF,AEK]at h;unfold F9.elem at Kq;split at Kq
  ·rename_i e hd
   simp only[AEC]at hd;obtain⟨tj,h1,h2⟩:=hd;have:=(hT t tj h1).nS;rw[h2]at this;exact⟨e,ti,this,Kq,h.1.1,h.1.2,h.2⟩
  ·cases Kq
 ·cases h
theorem O1{t:Nat}(h:T.isStr t=true):P.underlying t=some .string:=by
 unfold F9.isStr at h;split at h
 ·rename_i hd
  simp only[AEC]at hd;obtain⟨tj,h1,h2⟩:=hd;have:=(hT t tj h1).nS;rw[h2]at this;exact this
 ·cases h
theorem Wo{t:Nat}(h:T.qu t=true):∃e,P.underlying t=some (.slice e):=by
 unfold F9.qu at h;split at h
 ·rename_i e hd
  simp only[AEC]at hd;obtain⟨tj,h1,h2⟩:=hd;have:=(hT t tj h1).nS;rw[h2]at this;exact⟨e,this⟩
 ·cases h
omit hT in
theorem E4{x:XV}{n:Int}(e:S3 x=some n){v:Value}(hx:XR E w vw x v):∃κ,v= .int κ n:=by
 unfold S3 at e;split at e
 ·cases e;exact⟨_,RP (E:=E) (w:=w) (vw:=vw) hx⟩
 ·cases e
theorem TB{t:Nat}{r:Ty}(h:T.Lc t r=true){κ:IntKind}{i:Int}{a:Addr}{len cap:Nat}(h0:0≤i)(h1:i<(len:Int)):
  (Instr.indexAt t (.slice (some a) len cap) (.int κ i)).run P w= .ok (.pointer (some (a.add (i.toNat*r.n)))) w:=by
 obtain⟨e,ti,hu,Kq,hs,_⟩:=Ix hT h;have He:=C2.sizeOf hT Kq w;simp[Instr.indexAt,asIntOf,Am hu,h0,h1,He,hs]
omit hT in
theorem ij{bx:List Bx}{Fs:List ABC}(hB:H0 E w bx bx Fs)(st:∀c,E.S c→E.T c){x:AV}{v:Value}(hv:VR E w bx x v){q:Ty}{ys:List q.D}(e:Hv bx x=some ⟨q,ys⟩):
  ∃a cap,v= .slice a ys.length cap∧ys.length≤cap∧(ys.length=0∨ ∃b o,a=some ⟨b,o,none⟩):=by
 have:=Qi (Cs.refl bx) hB st hv e;simp only[Rd]at this;obtain⟨a,cap,h1,h2,h3⟩:=this;simp only[AEk,AFR]at h1;exact⟨a,cap,h1,h2,h3.imp id fun⟨b,o,h,_⟩=>⟨b,o,h⟩⟩
theorem Vz{σ:St}{Fs:List ABC}(hB:H0 E w σ.bx σ.bx Fs)(st:∀c,E.S c→E.T c){t:Nat}{x i:XV}{k:K Y}{y:Y}(e:Wf σ T t x i k=some y){v u:Value}
  (hx:XR E w σ.bx x v) (hi:XR E w σ.bx i u):∃z val,k z σ=some y∧(Instr.indexAt t v u).run P w= .ok val w∧XR E w σ.bx z val:=by
 unfold Wf at e;split at e
 ·rename_i s r rows n hn
  obtain⟨κ,rfl⟩:=E4 hn hi;split at e
  case isFalse=>cases e
  rename_i RF;split at e
  case isFalse=>cases e
  rename_i hb;obtain⟨h0,h1⟩:=hb;simp only[XR,VR,Rd]at hx;obtain⟨a,cap,hv,hl,hx⟩:=hx;simp only[AEk,AFR]at hv;subst hv;rcases hx with hx|⟨b,o,rfl,hb,hx⟩
  ·omega
  ·have Er:n.toNat<rows.length:=by omega
   obtain⟨cs,c1,c2,c3⟩:=hx n.toNat _ (KR Er);refine⟨_,_,e,TB hT RF h0 h1,b,o+n.toNat*r.n,cs,?_,by simpa using hb,c1,c2,by simpa using c3⟩;rw[Addr.add_eq];rfl
 ·rename_i b p n hn
  obtain⟨κ,rfl⟩:=E4 hn hi;split at e
  case h_2=>cases e
  rename_i q hq;split at e
  case isFalse=>cases e
  rename_i RF;split at e
  case isFalse=>cases e
  rename_i hb;obtain⟨h0,h1⟩:=hb
  change VR E w σ.bx (.ref b p) v at hx
  obtain⟨a,cap,rfl,hl,ha⟩:=ij hB st hx hq;rcases ha with ha|⟨b',o,rfl⟩
  ·omega
  ·refine⟨_,_,e,TB hT RF h0 h1,by rw[Addr.add_eq];rfl,?_⟩
   simp only[Hv]at hq;obtain⟨_,hx⟩:=hx;revert hx;split
   ·rename_i d r rows Ve
    rw[Ve]at hq;dsimp only at hq
    rintro⟨hp,hg,hh⟩
    exact⟨hp,q.1,q.2,b',o,_,cap,hq,by omega,hh,by rw[Addr.add_eq];rfl⟩
   ·rename_i Ve
    intro _
    trivial
   ·exact fun h=>h
 ·rename_i b p off n' n hn
  obtain⟨κ,rfl⟩:=E4 hn hi;split at e
  case h_2=>cases e
  rename_i q hq;split at e
  case isFalse=>cases e
  rename_i RF;split at e
  case isFalse=>cases e
  rename_i hb;obtain⟨h0,h1⟩:=hb;simp only[Hv]at hq;obtain⟨h00,hx⟩:=hx;revert hx;split
  ·rename_i d r rows Ve
   rw[Ve]at hq;dsimp only at hq
   rintro⟨hp,q',ys,a,len,cap,g1,g2,g3,rfl⟩
   have PS:=S2 (Cs.refl _) hB st Ve hp g1 g3;simp only[Rd]at PS;obtain⟨a',cap',ee,hle,PS⟩:=PS;simp only[AEk,Value.slice.injEq,AFR]at ee;obtain⟨rfl,rfl,rfl⟩:=ee;rcases PS with PS|⟨b',o,rfl,_,_⟩
   ·omega
   ·unfold LJ
    rw[AEB (by omega)];have hq1:q.1=q':=by
     rw[g1]at hq;simp only[AGV,AD_]at hq;rw[←hq]
    refine⟨_,_,e,TB hT RF h0 h1,by simp only[Option.map];rw[Addr.add_eq,Addr.add_eq];rfl,?_⟩;rw[Ve];refine⟨hp,q',ys,b',o,_,cap,g1,by omega,g3,?_⟩;dsimp only;rw[Addr.add_eq,Addr.add_eq,hq1,AGe,←AGI];rfl
  ·rename_i B Ve jW
   exfalso
   cases B with
   |sl d r rows=>exact Ve d r rows rfl
   |_=>rw[jW]at hq;simp at hq
  ·exact fun h=>h.elim
 ·cases e
theorem SA{σ:St}{t:Nat}{x i:XV}{k:K Y}{y:Y}(e:OQ T t σ x i k=some y){v u:Value}(hx:XR E w vw x v)(hi:XR E w vw i u):
  ∃z val,k z σ=some y∧(Instr.index t v u).run P w= .ok val w∧XR E w vw z val:=by
 unfold OQ at e;split at e
 ·rename_i s n hn
  obtain⟨κ,rfl⟩:=E4 hn hi;have hv:=PM (E:=E) (w:=w) (vw:=vw) hx;subst hv;split at e
  case isFalse=>cases e
  rename_i iL;split at e
  case isFalse=>cases e
  rename_i hb;obtain⟨h0,h1⟩:=hb;refine⟨_,.int .u8 ((s.getD n.toNat 0).toNat:Int),e,?_,VR.int (E:=E) (vw:=vw) _ _⟩;have Er:n.toNat<s.length:=by omega
  have:(⟨s.toArray⟩:ByteArray)[n.toNat]? =some s[n.toNat]:=by
   rw[getElem?_pos _ _ (by simpa[ByteArray.size]using Er)];rfl
  simp[Instr.index,asIntOf,Am (O1 hT iL),h0,this,Er]
 ·cases e
omit hT in
theorem TO{x z:XV}{i:Nat}(e:aN x i=some z){v:Value}(hx:XR E w vw x v):∃u,(Instr.extract v i).run P w= .ok u w∧XR E w vw z u:=by
 unfold aN at e;split at e
 case h_2=>cases e
 rename_i l;obtain⟨vs,rfl,O7⟩:=hx;split at e
 ·rename_i x hx
  cases e;obtain⟨v,hv,hr⟩:=O7.get hx;have:vs[i]? =some v:=by simpa using hv
  exact⟨v,by simp[Instr.extract,this],hr⟩
 ·rename_i q hx
  cases e;obtain⟨v,hv,ws,rfl,hr⟩:=O7.get hx;have:vs[i]? =some (.agg ws):=by simpa using hv
  exact⟨.agg ws,by simp[Instr.extract,this],ws,rfl,hr⟩
 ·cases e
omit hT in
theorem XK{bx:List Bx}{Fs:List ABC}(hB:H0 E w bx bx Fs)(st:∀c,E.S c→E.T c){x:AV}{n:Nat}(e:lenOf bx x=some n){v:Value}(hx:VR E w bx x v):
  ∃a cap,v= .slice a n cap:=by
 cases x with
 |nil=>simp only[lenOf,AD_]at e;subst e;exact⟨_,_,hx⟩
 |sl s r x=>
  simp only[lenOf,AD_]at e;subst e;simp only[VR,Rd]at hx;obtain⟨a,cap,h,_⟩:=hx;simp only[AEk,AFR]at h;exact⟨a,cap,h⟩
 |ref b p=>
  simp only[lenOf]at e;split at e
  ·rename_i d r rows hb
   simp only[AEC]at e;obtain⟨q,hq,rfl⟩:=e;obtain⟨a,cap,h,_⟩:=ij hB st hx (q:=q.1) (ys:=q.2) (by simp only[Hv,hb];exact hq);exact⟨a,cap,h⟩
  ·cases e
 |win b p off m=>
  simp only[lenOf]at e;split at e
  ·rename_i d r rows hb
   cases e;simp only[VR,hb]at hx;obtain⟨_,_,q,ys,a,len,cap,_,_,_,rfl⟩:=hx;exact⟨_,_,rfl⟩
  ·cases e
 |_=>simp[lenOf]at e
omit hT in
theorem L6{big:Bool}{x z:XV}{k:AV→Option Y}{y:Y}(e:du big x z k=some y){v u:Value}(hx:XR E w vw x v)(hz:XR E w vw z u)(t s:Array TypeId)(tt:TypeId):
  ∃r val,k r=some y∧(if big then Builtin.max_ t tt #[v,u]else Builtin.min_ t tt #[v,u]).run P w= .ok val w∧VR E w vw r val:=by
 unfold du at e;split at e
 ·rename_i j m j' n
  have hv:=RP (E:=E) (w:=w) (vw:=vw) hx;have hu:=RP (E:=E) (w:=w) (vw:=vw) hz;subst hv hu;split at e
  case isFalse=>cases e
  rename_i hj;subst hj;cases big with
  |true=>exact⟨_,.int j (if n>m then n else m),e,by simp[Builtin.max_,Builtin.max2],VR.int _ _⟩
  |false=>exact⟨_,.int j (if n<m then n else m),e,by simp[Builtin.min_,Builtin.min2],VR.int _ _⟩
 ·cases e
omit hT in
theorem WD{op:UnOp}{x:XV}{k:AV→Option Y}{y:Y}(e:vB op x k=some y){v:Value}(hx:XR E w vw x v):
  ∃r val,k r=some y∧(Op.unary op v).run P w= .ok val w∧VR E w vw r val:=by
 unfold vB at e;split at e
 ·have hv:=LB (E:=E) (w:=w) (vw:=vw) hx
  subst hv;exact⟨_,_,e,by simp[Op.unary],VR.bool _⟩
 ·rename_i j n
  have hv:=RP (E:=E) (w:=w) (vw:=vw) hx;subst hv;exact⟨_,.int j (j.wrap (0-n)),e,by simp[Op.unary,Op.intArith],VR.int _ _⟩
 ·cases e
end
end Go.Fw
end
section
namespace Go.Fw
theorem KU{a:Ty}(x:a.D):Yr rfl x=x:=rfl
theorem Tg{w:World}{S:Nat→Prop}:∀{r:Ty} {d j:Nat} {cs:List Value} {x:r.D} {F:ABC} {t:Ty} {y:t.D},Ow w S d r cs x F→AY r j x=some ⟨t,y⟩→
  ∃v F1 F2,cs[j]? =some v∧Ow w S d t [v] y F1∧F.Perm (F1++F2)∧
   ∀(w':World) (S':Nat→Prop) (v':Value) (y':t.D) (XI:ABC) (x':r.D),(∀b,S b→S' b)→(∀b,S b→w'.heap[b]? =w.heap[b]?)→(∀b∈F2,w'.heap[b]? =w.heap[b]?)→
    Ow w' S' d t [v'] y' XI→CH r j x t y' =some x'→ ∃F',F'.Perm (XI++F2)∧Ow w' S' d r (cs.set j v') x' F'
 | .cons c r,d,0,cs,x,F,t,y,h,e=>by
  simp only[Ow]at h;obtain⟨v,l,A,B,rfl,rfl,h1,h2⟩:=h;simp only[AY,AD_,AEP]at e;obtain⟨rfl,e⟩:=e;obtain rfl:=AE9 e;refine⟨v,A,B,rfl,h1,AHJ _,fun w' S' v' y' XI x' hS aj hF ho hx=> ?_⟩;simp only[CH,AHE,KU,AD_]at hx;subst hx;refine⟨XI++B,AHJ _,?_⟩;simp only[Ow,AG0];exact⟨v',l,XI,B,rfl,rfl,ho,CT hS aj hF h2⟩
 | .cons c r,d,j+1,cs,x,F,t,y,h,e=>by
  simp only[Ow]at h;obtain⟨v,l,A,B,rfl,rfl,h1,h2⟩:=h;simp only[AY]at e;obtain⟨u,F1,F2,k1,k2,k3,k4⟩:=Tg h2 e;refine⟨u,F1,A++F2,by simpa using k1,k2,?_,fun w' S' v' y' XI x' hS aj hF ho hx=> ?_⟩
  ·refine(AE0 A k3).trans ?_
   rw[←AEE,←AEE];exact AEW _ AE4
  ·simp only[CH,AEC]at hx
   obtain⟨z,hz,rfl⟩:=hx;obtain⟨F',p1,p2⟩:=k4 w' S' v' y' XI z hS aj (fun b hb=>hF b (by simp[hb])) ho hz;refine⟨A++F',?_,?_⟩
   ·refine(AE0 A p1).trans ?_
    rw[←AEE,←AEE];exact AEW _ AE4
   ·simp only[Ow,List.set_cons_succ]
    exact⟨v,_,A,F',rfl,rfl,CT hS aj (fun b hb=>hF b (by simp[hb])) h1,p2⟩
 | .int k,d,0,cs,x,F,t,y,h,e=>by
  simp only[AY,AD_,AEP]at e;obtain⟨rfl,e⟩:=e;obtain rfl:=AE9 e;have hc:=Od h;obtain⟨v,rfl⟩:∃v,cs=[v]:=by
   cases cs with
   |nil=>simp[Ty.n]at hc
   |cons a l=>cases l with
    |nil=>exact⟨a,rfl⟩
    |cons _ _=>simp[Ty.n]at hc
  refine⟨v,F,[],rfl,h,by simp,fun w' S' v' y' XI x' hS aj hF ho hx=>⟨XI,by simp,?_⟩⟩;simp only[CH,AHE,KU,AD_]at hx;subst hx;exact ho
 | .bool,d,0,cs,x,F,t,y,h,e=>by
  simp only[AY,AD_,AEP]at e;obtain⟨rfl,e⟩:=e;obtain rfl:=AE9 e;have hc:=Od h;obtain⟨v,rfl⟩:∃v,cs=[v]:=by
   cases cs with
   |nil=>simp[Ty.n]at hc
   |cons a l=>cases l with
    |nil=>exact⟨a,rfl⟩
    |cons _ _=>simp[Ty.n]at hc
  refine⟨v,F,[],rfl,h,by simp,fun w' S' v' y' XI x' hS aj hF ho hx=>⟨XI,by simp,?_⟩⟩;simp only[CH,AHE,KU,AD_]at hx;subst hx;exact ho
 | .str,d,0,cs,x,F,t,y,h,e=>by
  simp only[AY,AD_,AEP]at e;obtain⟨rfl,e⟩:=e;obtain rfl:=AE9 e;have hc:=Od h;obtain⟨v,rfl⟩:∃v,cs=[v]:=by
   cases cs with
   |nil=>simp[Ty.n]at hc
   |cons a l=>cases l with
    |nil=>exact⟨a,rfl⟩
    |cons _ _=>simp[Ty.n]at hc
  refine⟨v,F,[],rfl,h,by simp,fun w' S' v' y' XI x' hS aj hF ho hx=>⟨XI,by simp,?_⟩⟩;simp only[CH,AHE,KU,AD_]at hx;subst hx;exact ho
 | .sl r,d,0,cs,x,F,t,y,h,e=>by
  simp only[AY,AD_,AEP]at e;obtain⟨rfl,e⟩:=e;obtain rfl:=AE9 e;have hc:=Od h;obtain⟨v,rfl⟩:∃v,cs=[v]:=by
   cases cs with
   |nil=>simp[Ty.n]at hc
   |cons a l=>cases l with
    |nil=>exact⟨a,rfl⟩
    |cons _ _=>simp[Ty.n]at hc
  refine⟨v,F,[],rfl,h,by simp,fun w' S' v' y' XI x' hS aj hF ho hx=>⟨XI,by simp,?_⟩⟩;simp only[CH,AHE,KU,AD_]at hx;subst hx;exact ho
 | .unit,_,_,_,_,_,_,_,_,e=>by simp[AY]at e
 | .int _,_,_+1,_,_,_,_,_,_,e=>by simp[AY]at e
 | .bool,_,_+1,_,_,_,_,_,_,e=>by simp[AY]at e
 | .str,_,_+1,_,_,_,_,_,_,e=>by simp[AY]at e
 | .sl _,_,_+1,_,_,_,_,_,_,e=>by simp[AY]at e
theorem Wl{Fs:List ABC}{i:Nat}{G G':ABC}(h:Fs[i]? =some G):(Fs.set i G').flatten.Perm (G'++(Fs.set i []).flatten):=by
 have Er:=(AD7.1 h).1;have p1:=Mz (Fs:=Fs.set i G') (b:=i) (F:=G') (AEQ (by omega));rw[AG8]at p1;exact p1
theorem dV{w:World}{S:Nat→Prop}{d:Nat}{q:Ty}{a:Option Addr}{len cap:Nat}{ys:List q.D}{F:ABC}(h:Ow w S (d+1) (.sl q) [.slice a len cap] ys F){i:Nat}(hi:i<ys.length):
  ∃b o arr ty fr cs G R,a=some ⟨b,o,none⟩∧w.heap[b]? =some (.cells arr ty fr)∧iF fr arr.size∧o+i*q.n+q.n≤arr.size∧cs.length=q.n∧Bb w b (o+i*q.n) cs∧
   Ow w S d q cs (rowAt q ys i) G∧F.Perm (G++(b::R))∧
   ∀(w':World) (S':Nat→Prop) (Hy:Array Value) (SW:List Value) (Qh:q.D) (G':ABC),(∀c,S c→S' c)→(∀c,S c→w'.heap[c]? =w.heap[c]?)→(∀c∈R,w'.heap[c]? =w.heap[c]?)→
    w'.heap[b]? =some (.cells Hy ty fr)→Hy.size=arr.size→(∀k,(k<o+i*q.n∨o+i*q.n+q.n≤k)→Hy[k]? =arr[k]?)→SW.length=q.n→Bb w' b (o+i*q.n) SW→
    Ow w' S' d q SW Qh G'→ ∃F',F'.Perm (G'++(b::R))∧Ow w' S' (d+1) (.sl q) [.slice a len cap] (ys.set i Qh) F':=by
 simp only[Ow]at h;obtain⟨a',cap',e,hle,h⟩:=h;simp only[AEk,Value.slice.injEq,AFR]at e;obtain⟨rfl,rfl,rfl⟩:=e;rcases h with⟨h1,_⟩|⟨b,o,arr,ty,fr,Fs,rfl,hb,He,hu,rfl,hFl,Qm⟩
 ·omega
 ·have hG:Fs[i]? =some (Fs[i]'(by omega)):=AD9 _
  generalize Fs[i]'(by omega)=G at hG
  obtain⟨cs,c1,c2,c3⟩:=Qm i _ G (KR hi) hG;have hbound:o+i*q.n+q.n≤arr.size:=by
   have:(i+1)*q.n≤cap*q.n:=AFQ _ (by omega);rw[AGI,AG4]at this;omega
  refine⟨b,o,arr,ty,fr,cs,G,(Fs.set i []).flatten,rfl,hb,fun i hi=>hu i (by omega),hbound,c1,c2,c3,?_,?_⟩
  ·refine(List.Perm.cons b (Mz hG)).trans ?_
   exact List.perm_middle.symm
  ·intro w' S' Hy SW Qh G' hS aj hR l8 rF hk cT hca ho
   refine⟨b::(Fs.set i G').flatten,?_,?_⟩
   ·refine(List.Perm.cons b (Wl hG)).trans ?_
    exact List.perm_middle.symm
   ·simp only[Ow]
    refine⟨_,cap,by simp,by simpa using hle,.inr ⟨b,o,Hy,ty,fr,Fs.set i G',rfl,l8,by omega,by rw[rF];exact hu,rfl,by simpa using hFl,fun k y H hy hH=> ?_⟩⟩;by_cases e:k=i
    ·subst e
     rw[AEQ hi]at hy;rw[AEQ (by omega)]at hH;cases hy;cases hH;exact⟨SW,cT,hca,ho⟩
    ·rw[AEH (by omega)]at hy
     rw[AEH (by omega)]at hH;obtain⟨ds,d1,d2,d3⟩:=Qm k y H hy hH;refine⟨ds,d1,fun j v hj=> ?_,CT hS aj (fun c hc=>hR c (AE5.2 ⟨H,AEN (by rw[AEH (by omega)];exact hH:(Fs.set i [])[k]? =some H),hc⟩)) d3⟩;have jB:=(AD7.1 hj).1;have hold:=d2 j v hj;simp only[World.cell?,hb,AGE,AER,AFJ]at hold;simp only[World.cell?,l8,AGE,AER,AFJ];rw[hk,hold];rcases Nat.lt_or_gt_of_ne e with e|e
     ·left
      have:(k+1)*q.n≤i*q.n:=AFQ _ e;rw[AGI,AG4]at this;omega
     ·right
      have:(i+1)*q.n≤k*q.n:=AFQ _ e;rw[AGI,AG4]at this;omega
theorem Zs{w:World}{S:Nat→Prop}:∀{p:List Xm} {d:Nat} {r:Ty} {h:Value} {rows:List r.D} {F:ABC} {q:Ty} {ys:List q.D},Ow w S d (.sl r) [h] rows F→Bt r rows p→
  Dl r rows p=some ⟨q,ys⟩→p.length<d→ ∃h' F1 F2,Fb w h p=some h'∧Ow w S (d-p.length) (.sl q) [h'] ys F1∧F.Perm (F1++F2)∧
   ∀(w':World) (S':Nat→Prop) (ZL:List q.D) (XI:ABC) (rows':List r.D),(∀c,S c→S' c)→(∀c,S c→w'.heap[c]? =w.heap[c]?)→(∀c∈F2,w'.heap[c]? =w.heap[c]?)→
    Ow w' S' (d-p.length) (.sl q) [h'] ZL XI→Zl r rows p q ZL=some rows'→ ∃F',F'.Perm (XI++F2)∧Ow w' S' d (.sl r) [h] rows' F'
 |[],d,r,h,rows,F,q,ys,ho,_,hg,_=>by
  simp only[Dl,AD_,AEP]at hg;obtain⟨rfl,e⟩:=hg;obtain rfl:=AE9 e;refine⟨h,F,[],Bi,ho,by simp,fun w' S' ZL XI rows' _ _ _ hY hs=>⟨XI,by simp,?_⟩⟩;simp only[Zl,AHE,KU,AD_]at hs;subst hs;exact hY
 |s::p,d,r,h,rows,F,q,ys,ho,hp,hg,hd=>by
  obtain⟨d,rfl⟩:∃n,d=n+1:=⟨d-1,by simp at hd;omega⟩;simp only[Bt]at hp;obtain⟨hi,He,hp⟩:=hp;simp only[Dl]at hg;obtain⟨a,len,cap,rfl⟩:∃a len cap,h= .slice a len cap:=by
   have:=ho;simp only[Ow]at this;obtain⟨a,cap,e,_⟩:=this;simp only[AEk,AFR]at e;exact⟨_,_,_,e⟩
  split at hg
  case h_2=>cases hg
  rename_i q' x' Sw;rw[Sw]at hp;obtain⟨b,o,arr,ty,fr,cs,G,R,rfl,hb,hu,hbd,c1,c2,c3,Xc,hback⟩:=dV ho hi;obtain⟨v,A1,A2,k1,k2,k3,k4⟩:=Tg c3 Sw;obtain⟨h',F1,F2,m1,m2,m3,m4⟩:=Zs k2 hp hg (by simp at hd;omega);have nQ:d+1-(s::p).length=d-p.length:=by simp
  refine⟨h',F1,F2++A2++(b::R),?_,by rw[nQ];exact m2,?_,?_⟩
  ·simp only[Fb]
   rw[He,c2 _ _ k1];exact m1
  ·refine Xc.trans ?_
   rw[AEE F2,←AEE F1];refine(AEW _ k3).trans ?_
   rw[←AEE (F1++F2)];exact AEW _ (AEW _ m3)
  ·intro w' S' ZL XI rows' hS aj hF2 hY QV
   rw[nQ]at hY;simp only[Zl,Sw]at QV;simp only[AED,AEC]at QV;obtain⟨x2,hx2,Qh,hrow,rfl⟩:=QV;obtain⟨B1,p1,p2⟩:=m4 w' S' ZL XI x2 hS aj (fun c hc=>hF2 c (by simp[hc])) hY hx2;obtain⟨B2,p3,p4⟩:=k4 w' S' v x2 B1 Qh hS aj (fun c hc=>hF2 c (by simp[hc])) p2 hrow;have rj:cs.set s.j v=cs:=by
    apply AGb;intro k;by_cases e:k=s.j
    ·subst e
     rw[AEQ (AD7.1 k1).1,k1]
    ·rw[AEH (by omega)]
   rw[rj]at p4;have oF:=hF2 b (by simp);obtain⟨F',p5,p6⟩:=hback w' S' arr cs Qh B2 hS aj (fun c hc=>hF2 c (by simp[hc])) (oF.trans hb) rfl (fun _ _=>rfl) c1 (c2.of_block oF) p4;refine⟨F',?_,p6⟩;refine p5.trans ?_
   rw[AEE F2,←AEE XI];refine(AEW _ p3).trans ?_
   rw[←AEE (XI++F2)];exact AEW _ (AEW _ p1)
end Go.Fw
end
section
namespace Go.Fw
def OR(E:Env)(w:World)(vw:List Bx):Option XV→Option Value→Prop
 |none,none=>True
 |some x,some v=>XR E w vw x v
 |_,_=>False
section
variable{Y:Type} {P:Program} {T:F9} (hT:C2 P T) {E:Env} {w:World} {vw:List Bx}
theorem run_sliceBound{κ:IntKind}{i:Int}{y:Nat}{code:BoundsCode}(h0:0≤i)(h1:i≤(y:Int)):(Instr.sliceBound (.int κ i) y code).run P w= .ok i.toNat w:=by
 simp[Instr.sliceBound,asIntOf,h0,h1]
theorem Lx{len cap:Nat}(hc:len≤cap){lo hi:Option XV}{k:Nat→Nat→Option Y}{y:Y}(e:Ip len lo hi k=some y){lv hv:Option Value}
  (hl:OR E w vw lo lv) (hh:OR E w vw hi hv) (b:Bool):∃l h,k l h=some y∧l≤h∧h≤len∧(Instr.sliceBounds b len cap lv hv none).run P w= .ok (l,h,cap) w:=by
 unfold Ip at e;dsimp only at e;split at e
 case h_2=>cases e
 rename_i l h el eh;split at e
 case isFalse=>cases e
 rename_i hb;obtain⟨b1,b2,b3⟩:=hb;refine⟨l.toNat,h.toNat,e,by omega,by omega,?_⟩;cases hi with
 |none=>cases hv with
  |some _=>exact hh.elim
  |none=>
   simp only[AD_]at eh;subst eh;cases lo with
   |none=>cases lv with
    |some _=>exact hl.elim
    |none=>
     simp only[AD_]at el;subst el;simp[Instr.sliceBounds]
   |some x=>cases lv with
    |none=>exact hl.elim
    |some v=>
     obtain⟨κ,rfl⟩:=E4 (E:=E) (w:=w) (vw:=vw) el hl;simp[Instr.sliceBounds,run_sliceBound (P:=P) (w:=w) (κ:=κ) (i:=l) (y:=len) b1 (by omega)]
 |some x=>cases hv with
  |none=>exact hh.elim
  |some v=>
   obtain⟨κ,rfl⟩:=E4 (E:=E) (w:=w) (vw:=vw) eh hh;have e1:=fun code=>run_sliceBound (P:=P) (w:=w) (κ:=κ) (i:=h) (y:=cap) (code:=code) (by omega) (by omega)
   cases lo with
   |none=>cases lv with
    |some _=>exact hl.elim
    |none=>
     simp only[AD_]at el;subst el;simp[Instr.sliceBounds,e1]
   |some x=>cases lv with
    |none=>exact hl.elim
    |some v=>
     obtain⟨κ',rfl⟩:=E4 (E:=E) (w:=w) (vw:=vw) el hl;have e2:=fun code=>run_sliceBound (P:=P) (w:=w) (κ:=κ') (i:=l) (y:=h.toNat) (code:=code) b1 (by omega)
     simp[Instr.sliceBounds,e1,e2]
theorem av(s:AAh)(l h:Nat):(⟨s.toArray⟩:ByteArray).extract l h=⟨((s.drop l).take (h-l)).toArray⟩:=by
 apply ByteArray.ext;simp[List.extract_eq_take_drop]
include hT
theorem Vw{σ:St}{Fs:List ABC}(hB:H0 E w σ.bx σ.bx Fs)(st:∀c,E.S c→E.T c){t:Nat}{x:XV}{lo hi:Option XV}{k:K Y}{y:Y}(e:Wg T t σ x lo hi k=some y)
  {v:Value} {lv hv:Option Value} (hx:XR E w σ.bx x v) (hl:OR E w σ.bx lo lv) (hh:OR E w σ.bx hi hv):
  ∃z val,k z σ=some y∧(Instr.sliceAt t v lv hv none).run P w= .ok val w∧XR E w σ.bx z val:=by
 unfold Wg at e;split at e
 ·rename_i s
  split at e
  case isFalse=>cases e
  rename_i iL;have hu:=O1 hT iL;have SF:=PM (E:=E) (w:=w) (vw:=σ.bx) hx;subst SF;obtain⟨l,h,ek,h1,h2,hr⟩:=Lx (P:=P) (cap:=s.length) (AE7 _) e hl hh false;refine⟨_,.string ⟨((s.drop l).take (h-l)).toArray⟩,ek,?_,VR.str (E:=E) (vw:=σ.bx) _⟩;have hs:(⟨s.toArray⟩:ByteArray).size=s.length:=by simp[ByteArray.size]
  simp[Instr.sliceAt,Am hu,Instr.slice,hs,hr,av]
 ·rename_i s r rows
  split at e
  case isFalse=>cases e
  rename_i RF;obtain⟨el,ti,hu,Kq,hs,_⟩:=Ix hT RF;have He:=C2.sizeOf hT Kq w
  change VR E w σ.bx (.sl s r rows) v at hx
  have gU:=hx;simp only[VR,Rd]at gU;obtain⟨a,cap,SF,hle,_⟩:=gU;simp only[AEk,AFR]at SF;subst SF;obtain⟨l,h,ek,h1,h2,hr⟩:=Lx (P:=P) hle e hl hh true;refine⟨_,LJ r.n l (h-l) a cap,ek,?_,?_⟩
  ·simp[Instr.sliceAt,Am hu,Instr.slice,hr,He,hs,LJ]
  ·simp only[XR,VR]at hx⊢
   exact iX hx (by omega)
 ·rename_i b p
  split at e
  case h_2=>cases e
  rename_i q hq;split at e
  case isFalse=>cases e
  rename_i RF;obtain⟨el,ti,hu,Kq,hs,_⟩:=Ix hT RF;have He:=C2.sizeOf hT Kq w
  change VR E w σ.bx (.ref b p) v at hx
  obtain⟨a,cap,rfl,hle,_⟩:=ij hB st hx hq;obtain⟨l,h,ek,h1,h2,hr⟩:=Lx (P:=P) hle e hl hh true;refine⟨_,LJ q.1.n l (h-l) a cap,ek,?_,?_⟩
  ·simp[Instr.sliceAt,Am hu,Instr.slice,hr,He,hs,LJ]
  ·simp only[Hv]at hq
   obtain⟨_,hx⟩:=hx;refine⟨by simp[LJ,isSlice],?_⟩;revert hx;split
   ·rename_i d r rows Ve
    rw[Ve]at hq;dsimp only at hq
    rintro⟨hp,hg,hh⟩
    exact⟨hp,q.1,q.2,a,_,cap,hq,by omega,hh,rfl⟩
   ·exact fun _=>trivial
   ·exact fun h=>h
 ·cases e
omit hT in
theorem RQ{f:Nat→Option AV}:∀{n j:Nat} {l:List AV},TK f j n=some l→l.length=n∧ ∀(i:Nat) x,l[i]? =some x→f (j+i)=some x
 |0,j,l,e=>by simp only[TK,AD_]at e;subst e;simp
 |n+1,j,l,e=>by
  simp only[TK,AED,AEC]at e;obtain⟨x,hx,l',hl,rfl⟩:=e;obtain⟨h1,h2⟩:=RQ hl;refine⟨by simp[h1],fun i z hz=> ?_⟩;cases i with
  |zero=>simp at hz;subst hz;exact hx
  |succ i=>
   have:=h2 i z (by simpa using hz)
   rwa [show j+1+i=j+(i+1)by omega]at this
omit hT in
theorem OT{B:Nat→Prop}{t:Ty}{x:t.D}{v:Value}(h:Rd w B t [v] x)(hs:t.scalar=true):VR E w vw (.v t x) v:=by
 refine⟨hs,?_⟩;cases t<;>first
  |(simpa only[Rd]using h)
  |(simp[Ty.scalar]at hs)
omit hT in
theorem kC{s:Bool}{t:Ty}{x:t.D}{v:Value}(h:Rd w (if s then E.S else E.T) t [v] x):VR E w vw (iB s ⟨t,x⟩) v:=by
 cases t with
 |sl r=>simp only[iB,VR];exact h
 |int k=>exact OT h rfl
 |bool=>exact OT h rfl
 |str=>exact OT h rfl
 |unit=>trivial
 |cons c r=>trivial
omit hT in
theorem XW{s:Xm}:∀{p:List Xm} {r:Ty} {rows:List r.D} {q:Ty} {ys:List q.D} {t:Ty} {x:List t.D},Bt r rows p→Dl r rows p=some ⟨q,ys⟩→s.i<ys.length→s.sz=q.n→
  AY q s.j (rowAt q ys s.i)=some ⟨.sl t,x⟩→Bt r rows (p++[s])∧Dl r rows (p++[s])=some ⟨t,x⟩
 |[],r,rows,q,ys,t,x,_,hg,hi,hs,hc=>by
  simp only[Dl,AD_,AEP]at hg;obtain⟨rfl,e⟩:=hg;obtain rfl:=AE9 e;refine⟨?_,?_⟩
  ·simp only[AFa,Bt,hc]
   exact⟨hi,hs,trivial⟩
  ·simp only[AFa,Dl,hc]
 |s'::p,r,rows,q,ys,t,x,hp,hg,hi,hs,hc=>by
  simp only[Bt]at hp;obtain⟨h1,h2,hp⟩:=hp;simp only[Dl]at hg;split at hg
  ·rename_i q' x' Sw
   rw[Sw]at hp;obtain⟨a,b⟩:=XW hp hg hi hs hc;refine⟨?_,?_⟩
   ·simp only[AGD,Bt,Sw]
    exact⟨h1,h2,a⟩
   ·simp only[AGD,Dl,Sw]
    exact b
  ·cases hg
omit hT in
theorem aH{s:Xm}:∀{p:List Xm} {h:Value} {b o len cap:Nat} {v:Value},Fb w h p=some (.slice (some ⟨b,o,none⟩) len cap)→w.cell? ⟨b,o+s.i*s.sz+s.j,none⟩=some v→
  Fb w h (p++[s])=some v
 |[],h,b,o,len,cap,v,e,hc=>by
  rw[Bi]at e;cases e;simp[Fb,hc,Bi]
 |s'::p,h,b,o,len,cap,v,e,hc=>by
  cases h with
  |slice a l c=>
   cases a with
   |none=>simp[Fb]at e
   |some a=>
    simp only[Fb]at e;split at e
    ·rename_i h' hh
     simp only[AGD,Fb,hh];exact aH e hc
    ·cases e
  |_=>simp[Fb]at e
omit hT in
theorem Gu{bx:List Bx}{Fs:List ABC}(hB:H0 E w bx bx Fs)(st:∀c,E.S c→E.T c){x z:AV}{i:Nat}(e:FV bx x i=some z){v:Value}(hx:VR E w bx x v):
  ∃b o u,v= .pointer (some ⟨b,o,none⟩)∧w.cell? ⟨b,o+i,none⟩=some u∧VR E w bx z u:=by
 cases x with
 |Eb b j=>
  simp only[FV]at e;split at e
  ·rename_i cs hb
   obtain⟨F,⟨_,arr,ty,fr,ha,hu,hv⟩,_⟩:=hB.get hb;obtain⟨u,h1,h2⟩:=BU.get hv e;refine⟨_,_,u,hx.2,?_,h2⟩;simp only[World.cell?,ha,AGE,AER,AFJ];simpa using h1
  ·cases e
 |FP b p r sz j=>
  simp only[FV]at e;split at e
  ·rename_i d q rows hb
   split at e
   case isFalse=>cases e
   rename_i hd;simp only[AED]at e;obtain⟨⟨q',ZL⟩,hg,e⟩:=e;split at e
   case isFalse=>cases e
   rename_i He;simp only[AEC]at e;obtain⟨⟨t,y⟩,hc,rfl⟩:=e;simp only[VR,hb]at hx;obtain⟨_,hp,q1,ys,bb,o,len,cap,g1,g2,g3,rfl⟩:=hx;rw[hg]at g1;simp only[AD_,AEP]at g1;obtain⟨rfl,g1⟩:=g1;obtain rfl:=AE9 g1;dsimp only at He hc;obtain⟨F,⟨hd1,ho⟩,hF⟩:=hB.get hb;have PS:=S2 (Cs.refl bx) hB st hb hp hg g3;have AH5:=PS;simp only[Rd]at PS;obtain⟨a',cap',ee,hle,PS⟩:=PS;simp only[AEk,Value.slice.injEq,AFR]at ee;obtain⟨rfl,rfl,rfl⟩:=ee;rcases PS with PS|⟨b1,o1,e7,_,PS⟩
   ·omega
   ·cases e7
    obtain⟨cs,c1,c2,c3⟩:=PS r _ (KR g2);obtain⟨u,hu,hur⟩:=Tm c3 hc;have Pn:=c2 _ _ hu;rw[←He]at Pn;refine⟨_,_,u,rfl,by rw[AGe];exact Pn,?_⟩;cases t with
    |sl t' =>
     simp only[jn];split
     ·rename_i ln
      obtain⟨h',F1,F2,m1,m2,_,_⟩:=Zs ho hp hg hd;rw[g3]at m1;cases m1;rw[show d-p.length=0+1 by omega]at m2;obtain⟨b2,o2,arr,ty,fr,cs2,G,R,e2,_,_,_,_,k2,k3,_,_⟩:=dV m2 g2;cases e2;obtain⟨v2,A1,A2,z1,z2,_,_⟩:=Tg k3 hc;have mJ:=k2 _ _ z1;rw[←He,Pn]at mJ;cases mJ;simp only[Ow]at z2;simp only[VR];exact z2.1
     ·simp only[VR,hb]
      have:=XW (s:=⟨r,sz,j+i⟩) hp hg g2 He hc;simp only[Rd]at hur;obtain⟨a2,cap2,e2,_⟩:=hur;simp only[AEk,AFR]at e2;refine⟨by rw[e2];rfl,this.1,⟨_,this.2⟩,aH g3 Pn⟩
    |int k=>exact OT hur rfl
    |bool=>exact OT hur rfl
    |str=>exact OT hur rfl
    |unit=>trivial
    |cons c r=>trivial
  ·cases e
 |Iv s r y j=>
  simp only[FV,AEC]at e;obtain⟨⟨t,y'⟩,hc,rfl⟩:=e;obtain⟨bb,o,cs,rfl,h2,h3,h4,h5⟩:=hx;obtain⟨u,hu,hur⟩:=Tm h5 hc;refine⟨_,_,u,rfl,by rw[AGe];exact h4 _ _ hu,kC hur⟩
 |_=>simp[FV]at e
omit hT in
theorem Tb{bx:List Bx}{Fs:List ABC}(hB:H0 E w bx bx Fs)(st:∀c,E.S c→E.T c){x:AV}{v:Value}(hx:VR E w bx x v){b o:Nat}(hv:v= .pointer (some ⟨b,o,none⟩)):
  ∀{l:List AV} {j:Nat},(∀(i:Nat) z,l[i]? =some z→FV bx x (j+i)=some z)→ ∃cs:List Value,cs.length=l.length∧Bb w b (o+j) cs∧VF E w bx l cs
 |[],_,_=>⟨[],rfl,fun _ _ h=>by simp at h,trivial⟩
 |z::l,j,h=>by
  obtain⟨b',o',u,e1,e2,e3⟩:=Gu hB st (h 0 z rfl) hx;subst hv;simp only[Value.pointer.injEq,AD_,Addr.mk.injEq,AFR]at e1;obtain⟨rfl,rfl⟩:=e1;obtain⟨cs,c1,c2,c3⟩:=Tb hB st hx rfl (l:=l) (j:=j+1) (fun i y hy=>by
   have:=h (i+1) y (by simpa using hy)
   rwa [show j+1+i=j+(i+1)by omega])
  refine⟨u::cs,by simp[c1],fun i y hy=> ?_,e3,c3⟩;cases i with
  |zero=>simp at hy;subst hy;exact e2
  |succ i=>
   have:=c2 i y (by simpa using hy)
   rwa [show o+(j+1)+i=o+j+(i+1)by omega]at this
theorem gJ{σ:St}{Fs:List ABC}(hB:H0 E w σ.bx σ.bx Fs)(st:∀c,E.S c→E.T c){t:Nat}{x z:XV}(e:XS T t σ x=some z){v:Value}(hx:XR E w σ.bx x v):
  ∃u,(Instr.loadAt t v).run P w= .ok u w∧XR E w σ.bx z u:=by
 unfold XS at e;split at e
 case h_2=>cases e
 rename_i x ti Kq;split at e
 case isTrue=>cases e
 rename_i He;have VG:=C2.isAgg hT Kq w;split at e
 ·rename_i ha
  rw[ha]at VG;simp only[AEC]at e;obtain⟨l,hl,rfl⟩:=e;obtain⟨h1,h2⟩:=RQ hl;have h0:0<l.length:=by omega
  obtain⟨b,o,u,hv,_,_⟩:=Gu hB st (h2 0 _ (AD9 h0)) hx;obtain⟨cs,c1,c2,c3⟩:=Tb hB st hx hv (l:=l) (j:=0) (fun i y hy=>by simpa using h2 i y hy);subst hv;have Vj:=(hT t ti Kq).nS;cases hd:ti.desc with
  |st fs=>
   rw[hd]at Vj;obtain⟨fields,hu,_⟩:=Vj;refine⟨.agg cs.toArray,run_loadAt_mid w b o t cs _ (by simpa[Bb,World.rangeAt]using c2) hu rfl ?_,cs.toArray,rfl,by simpa using c3⟩;rw[C2.size hT Kq,c1,h1]
  |_=>rw[hd]at ha;simp[TD.agg]at ha
 ·rename_i ha
  simp only[AEz]at ha;rw[ha]at VG;simp only[AEC]at e;obtain⟨y,hy,rfl⟩:=e;obtain⟨b,o,u,hv,hc,hr⟩:=Gu hB st hy hx;subst hv;refine⟨u,?_,hr⟩;simp only[AGS]at hc;simp[Instr.loadAt,Instr.sureAddr,loadVar,VG,hc]
end
end Go.Fw
end
section
namespace Go.Fw
theorem Z3{w:World}{S:Nat→Prop}{d:Nat}{q:Ty}:Ow w S d (.sl q) [.slice none 0 0] [] []:=by
 cases d with
 |zero=>simp only[Ow,Rd];exact⟨⟨none,0,rfl,by simp,.inl rfl⟩,trivial⟩
 |succ d=>simp only[Ow];exact⟨none,0,rfl,by simp,.inl ⟨rfl,trivial⟩⟩
theorem mq{w:World}{S:Nat→Prop}{d:Nat}{r:Ty}{a:Option Addr}{len cap:Nat}{ys:List r.D}{F:ABC}(h:Ow w S (d+1) (.sl r) [.slice a len cap] ys F){off n:Nat}(hn:off+n≤ys.length):
  ∃F1 F2,F.Perm (F1++F2)∧Ow w S (d+1) (.sl r) [LJ r.n off n a cap] ((ys.drop off).take n) F1:=by
 simp only[Ow]at h⊢;obtain⟨a',cap',e,hc,h⟩:=h;simp only[AEk,Value.slice.injEq,AFR]at e;obtain⟨rfl,rfl,rfl⟩:=e;have hl:((ys.drop off).take n).length=n:=by simp;omega
 by_cases h0:cap=off
 ·subst h0
  refine⟨[],F,by simp,a,0,by simp[LJ,hl],by rw[hl];omega,.inl ⟨rfl,rfl⟩⟩
 ·rcases h with⟨h,rfl⟩|⟨b,o,arr,ty,fr,Fs,rfl,hb,He,hu,rfl,hFl,hr⟩
  ·refine⟨[],[],by simp,a.map (·.add (off*r.n)),cap-off,by simp[LJ,hl,h0],by rw[hl];omega,.inl ⟨by omega,rfl⟩⟩
  ·have p:Fs.flatten.Perm (((Fs.drop off).take n).flatten++((Fs.take off).flatten++(Fs.drop (off+n)).flatten)):=by
    have e:Fs=Fs.take off++(((Fs.drop off).take n)++Fs.drop (off+n)):=by
     rw[←AHK,AG_,AG_]
    conv=>lhs;rw[e]
    rw[AF_,AF_,←AEE,←AEE];exact AEW _ AE4
   refine⟨b::((Fs.drop off).take n).flatten,(Fs.take off).flatten++(Fs.drop (off+n)).flatten,List.Perm.cons b p,some ⟨b,o+off*r.n,none⟩,cap-off,?_,by rw[hl];omega,.inr ⟨b,o+off*r.n,arr,ty,fr,_,rfl,hb,?_,hu,rfl,?_,?_⟩⟩
   ·simp[LJ,h0,hl,Addr.add_eq]
   ·have:off*r.n+(cap-off)*r.n=cap*r.n:=by rw[←AGI];congr 1;omega
    omega
   ·rw[hl];simp;omega
   ·intro i y G hy hG
    have hi:=(AD7.1 hy).1;rw[hl]at hi;rw[List.getElem?_take_of_lt hi,AGn]at hy hG;obtain⟨cs,c1,c2,c3⟩:=hr (off+i) y G hy hG;refine⟨cs,c1,?_,c3⟩;rw[AGI,←AGe]at c2;exact c2
theorem Le.keep{E E':Env}(h:Le E E'){w:World}{vw:List Bx}(st:∀c,E.S c→E.T c):Ld E w vw E' w vw:=
 ⟨AE7 _,fun b _=>by rw[h.EY],h.T,h.S,st,fun _ _=>rfl,fun b d r rows _ e=>⟨d,rows,e,fun p hp q ys hg=>⟨hp,⟨ys,hg,rfl⟩,fun h' hh=>by rw[h.Ei];exact hh⟩⟩⟩
theorem Bm.share{E:Env}{w:World}{vw bx:List Bx}{F W G:ABC}(h:Bm E w vw bx (F++W++G)):
  let E':Env:={ E with S:=fun c=>E.S c∨c∈W,T:=fun c=>E.T c∨c∈W }
  Le E E'∧Bm E' w vw bx (F++G):=by
 intro E';have st:=h.st;have hle:Le E E':=⟨rfl,rfl,fun c hc=> .inl hc,fun c hc=> .inl hc,fun c hc=>hc.elim .inl fun h' => .inr (.inr h'),fun c hc=>hc.elim .inl fun h' => .inr (h.mf c (by simp[h']))⟩;refine⟨hle,?_⟩;obtain⟨Fs,⟨h1,h2⟩,h3⟩:=h;refine⟨Fs,⟨h1,fun k B F' hk hF=> ?_⟩,?_⟩
 ·have:=h2 k B F' hk hF
  cases B with
  |mem cs=>
   obtain⟨rfl,arr,ty,fr,a1,a2,a3⟩:=this;exact⟨rfl,arr,ty,fr,a1,a2,a3.imp fun _ _ hv=>DN (hle.keep st) hv⟩
  |sl d r rows=>exact⟨this.1,CT hle.S (fun _ _=>rfl) (fun _ _=>rfl) this.2⟩
  |dead=>exact this
 ·have h4:Sep E w (W++(Fs.flatten++(F++G))):=h3.perm (by
   rw[AEE F W G,←AEE Fs.flatten,←AEE (Fs.flatten++F),←AEE Fs.flatten F G,←AEE W];exact AEW _ AE4)
  refine⟨(AEJ.1 h4.nodup).2.1,fun c hc ht=> ?_,fun c hc=>h4.lt c (by simp only[AEZ];exact .inr (by simpa using hc)),fun c hc=>hc.imp (st c) id,fun c hc=>hc.elim (h4.TN c) fun h' =>h4.lt c (by simp[h']),h4.eK.mono (fun _ h=> .inl h) (fun _ _=>rfl)⟩;rcases ht with ht|ht
  ·exact h4.free c (AEZ.2 (.inr hc)) ht
  ·exact(AEJ.1 h4.nodup).2.2 c ht c hc rfl
structure Dv (E:Env) (w:World) (vw bx:List Bx) (G:ABC) (E':Env) (J0:List Bx) (F:ABC):Prop where
 le:Le E E'
 len:J0.length=bx.length
 within:∀(b:Nat) (B:Bx),J0[b]? =some B→B= .dead∨bx[b]? =some B
 boxes:Bm E' w vw J0 (F++G)
theorem Dv.refl{E:Env}{w:World}{vw bx:List Bx}{G:ABC}(h:Bm E w vw bx G):Dv E w vw bx G E bx []:=
 ⟨Le.refl E,rfl,fun _ _ h=> .inr h,h⟩
theorem Cs.Z7{E E':Env}{w:World}{vw bx J0:List Bx}{G F:ABC}(h:Cs bx vw)(k:Dv E w vw bx G E' J0 F):Cs J0 vw:=fun b B e=>
 (k.within b B e).elim .inl (h b B)
theorem Rp{E:Env}{w:World}{vw bx:List Bx}{G:ABC}(h:Bm E w vw bx G)(hw:Cs bx vw){d:Nat}(hd:1≤d){t:Ty}{x:AV}{v:Value}(hv:VR E w vw x v){y:t.D}{J0:List Bx}{d':Nat}
  (e:S7 d t x bx=some (y,J0,d')):1≤d'∧d'≤d∧ ∃E' F,Dv E w vw bx G E' J0 F∧Ow w E'.S (d'-1) t [v] y F:=by
 unfold S7 at e;split at e
 ·rename_i u z
  simp only[AEC,AFH]at e;obtain⟨z',e1,rfl,rfl,rfl⟩:=e;obtain⟨e2,e3⟩:=Ed e1;subst e2;subst e3;refine⟨hd,AE7 _,E,[],Dv.refl h,?_⟩;obtain⟨hs,hr⟩:=hv;cases u<;>simp_all[Ty.scalar,Ow,Rd]
 ·split at e
  ·simp only[AD_,AFH]at e
   obtain⟨rfl,rfl,rfl⟩:=e;simp only[VR]at hv;subst hv;exact⟨hd,AE7 _,E,[],Dv.refl h,Z3⟩
  ·cases e
 ·rename_i r z
  split at e
  ·rename_i q
   simp only[AEC,AFH]at e;obtain⟨z',e1,rfl,rfl,rfl⟩:=e;obtain⟨e2,e3⟩:=Ed e1;subst e2;subst e3;refine⟨AE7 _,hd,E,[],Dv.refl h,?_⟩;simp only[VR]at hv;simp only[AHI,Ow];exact⟨by simpa using hv,trivial⟩
  ·cases e
 ·rename_i b
  split at e
  case h_2=>cases e
  rename_i q;split at e
  case h_2=>cases e
  rename_i db r z hb;simp only[AEC,AFH]at e;obtain⟨z',e1,rfl,rfl,rfl⟩:=e;obtain⟨e2,e3⟩:=Ed e1;subst e2;subst e3;obtain⟨F0,⟨hd1,ho⟩,hB⟩:=h.take hb;have hvv:v=E.Ei b:=by
   simp only[VR,P9 hw hb,Bi]at hv;simpa using hv.2.2.2.symm
  subst hvv;obtain⟨F1,W,hp,hY⟩:=Fv (d:=min d (db+1)-1) (by omega) ho;have Kt:=hB.perm (AEW G hp);obtain⟨hle,OP⟩:=Kt.share;refine⟨by omega,Nat.min_le_left _ _,_,F1,⟨hle,by simp,fun k B hk=> ?_,OP⟩,hY⟩;by_cases ek:k=b
  ·subst ek
   rw[AEQ (AD7.1 hb).1]at hk;cases hk;exact .inl rfl
  ·rw[AEH (by omega)]at hk;exact .inr hk
 ·rename_i b off n
  split at e
  case h_2=>cases e
  rename_i q;split at e
  case h_2=>cases e
  rename_i db r z hb;simp only[AEC,AFH]at e;obtain⟨z',e1,rfl,rfl,rfl⟩:=e;obtain⟨e2,e3⟩:=Ed e1;subst e2;subst e3;obtain⟨F0,⟨hd1,ho⟩,hB⟩:=h.take hb;simp only[VR,P9 hw hb,Bi]at hv;obtain⟨_,_,q',ys,a,len,cap,hg,hn,hh,rfl⟩:=hv;simp only[Dl,AD_,AEP]at hg;obtain⟨rfl,hg⟩:=hg;obtain rfl:=AE9 hg;simp only[AD_]at hh;rw[hh]at ho;obtain⟨db,rfl⟩:∃m,db=m+1:=⟨db-1,by omega⟩;obtain⟨A1,A2,hp0,ho0⟩:=mq ho hn;obtain⟨F1,W,hp,hY⟩:=Fv (d:=min d (db+1+1)-1) (by omega) ho0;have hB1:Bm E w vw (bx.set b .dead) (A1++G):=by
   refine Bm.drop (G':=A2) (hB.perm ?_);refine(AEW G hp0).trans ?_
   rw[AEE,AEE];exact AE0 _ AE4
  have Kt:=hB1.perm (AEW G hp);obtain⟨hle,OP⟩:=Kt.share;refine⟨by omega,Nat.min_le_left _ _,_,F1,⟨hle,by simp,fun k B hk=> ?_,OP⟩,hY⟩;by_cases ek:k=b
  ·subst ek
   rw[AEQ (AD7.1 hb).1]at hk;cases hk;exact .inl rfl
  ·rw[AEH (by omega)]at hk;exact .inr hk
 ·cases e
theorem QI{w:World}{vw:List Bx}:∀{r:Ty} {E:Env} {bx:List Bx} {G:ABC} {d:Nat} {l:List AV} {vs:List Value} {y:r.D} {J0:List Bx} {d':Nat},Bm E w vw bx G→Cs bx vw→1≤d→
  VF E w vw l vs→cellsIn d r l bx=some (y,J0,d')→1≤d'∧d'≤d∧ ∃E' F,Dv E w vw bx G E' J0 F∧Ow w E'.S (d'-1) r vs y F
 | .unit,E,bx,G,d,[],[],y,J0,d',h,hw,hd,_,e=>by
  simp only[cellsIn,AD_,AFH]at e;obtain⟨_,rfl,rfl⟩:=e;exact⟨hd,AE7 _,E,[],Dv.refl h,by simp only[Ow];exact⟨trivial,trivial⟩⟩
 | .cons c r,E,bx,G,d,x::l,v::vs,y,J0,d',h,hw,hd,hv,e=>by
  simp only[cellsIn,AED,AEC,AFH]at e;obtain⟨⟨y1,VT,d1⟩,e1,⟨y2,Qc,d2⟩,e2,rfl,rfl,rfl⟩:=e;dsimp only at e2⊢;obtain⟨a1,a2,E1,F1,k1,o1⟩:=Rp h hw hd hv.1 e1;have fp:=k1.le.keep (w:=w) (vw:=vw) h.st;obtain⟨b1,b2,E2,F2,k2,o2⟩:=QI (G:=F1++G) k1.boxes (hw.Z7 k1) a1 (hv.2.imp fun _ _ h=>DN fp h) e2;obtain⟨A,W,hp,o1'⟩:=Fv (d:=d'-1) (by omega) o1;have hB:=k2.boxes.perm (G':=(F2++A)++W++G) (by
   rw[AEE F2 A W,AEE F2];exact AE0 _ (AEW _ hp))
  obtain⟨hle,OP⟩:=hB.share;refine⟨b1,AFS b2 a2,_,A++F2,⟨(k1.le.trans k2.le).trans hle,k2.len.trans k1.len,fun b B hb=>(k2.within b B hb).elim .inl (k1.within b B),OP.perm (AEW _ AE4)⟩,?_⟩;simp only[Ow];refine⟨v,vs,A,F2,rfl,rfl,?_,?_⟩
  ·refine CT (S:=fun b=>E1.S b∨b∈W) ?_ (fun _ _=>rfl) (fun _ _=>rfl) o1'
   intro c hc;exact hc.elim (fun h=> .inl (k2.le.S c h)) .inr
  ·refine CT (S:=E2.S) ?_ (fun _ _=>rfl) (fun _ _=>rfl) o2
   intro c hc;exact .inl hc
 | .unit,_,_,_,_,_::_,_,_,_,_,_,_,_,_,e=>by simp[cellsIn]at e
 | .unit,_,_,_,_,[],_::_,_,_,_,_,_,_,hv,_=>hv.elim
 | .cons _ _,_,_,_,_,[],_,_,_,_,_,_,_,_,e=>by simp[cellsIn]at e
 | .cons _ _,_,_,_,_,_::_,[],_,_,_,_,_,_,hv,_=>hv.elim
 | .int _,_,_,_,_,_,_,_,_,_,_,_,_,_,e=>by simp[cellsIn]at e
 | .bool,_,_,_,_,_,_,_,_,_,_,_,_,_,e=>by simp[cellsIn]at e
 | .str,_,_,_,_,_,_,_,_,_,_,_,_,_,e=>by simp[cellsIn]at e
 | .sl _,_,_,_,_,_,_,_,_,_,_,_,_,_,e=>by simp[cellsIn]at e
theorem eF{E:Env}{w:World}{vw:List Bx}{x:AV}{v:Value}(h:VR E w vw x v)(hk:x.known=true):v.oneCell' =true∧v.cells= #[v]:=by
 have aux:∀{v:Value},isSlice v=true→v.oneCell' =true∧v.cells= #[v]:=by intro v h;cases v<;>simp_all[isSlice,Value.oneCell',Value.cells]
 have AEY:∀{v:Value},SM v=true→v.oneCell' =true∧v.cells= #[v]:=by intro v h;cases v<;>simp_all[SM,Value.oneCell',Value.cells]
 cases x with
 |v t y=>
  obtain⟨hs,hr⟩:=h;cases t<;>simp[Ty.scalar]at hs<;>simp only[Rd,AEk,AFR]at hr<;>subst hr<;>exact⟨rfl,rfl⟩
 |sl s r y=>
  simp only[VR,Rd]at h;obtain⟨a,cap,h,_⟩:=h;simp only[AEk,AFR]at h;subst h;exact⟨rfl,rfl⟩
 |nil=>simp only[VR]at h;subst h;exact⟨rfl,rfl⟩
 |ref b p=>exact aux h.1
 |win b p off n=>exact aux h.1
 |Eb b j=>rw[h.2];exact⟨rfl,rfl⟩
 |FP b p i sz j=>exact AEY h.1
 |Iv s r y j=>obtain⟨bb,o,cs,rfl,_⟩:=h;exact⟨rfl,rfl⟩
 |fn f Fq=>rw[h.2];exact⟨rfl,rfl⟩
 |dI f rows=>obtain⟨ps,rfl,_⟩:=h;exact⟨rfl,rfl⟩
 |iQ=>simp only[VR]at h;subst h;exact⟨rfl,rfl⟩
 |undef=>simp[AV.known]at hk
theorem jg{E:Env}{w:World}{vw:List Bx}:∀{l:List AV} {vs:List Value},VF E w vw l vs→l.all AV.known=true→ ∀v∈vs,v.oneCell' =true
 |[],[],_,_=>by simp
 |x::l,v::vs,h,hk=>by
  simp only[AGf,AEF]at hk;intro u hu;rcases AEd.1 hu with rfl|hu
  ·exact(eF h.1 hk.1).1
  ·exact jg h.2 hk.2 u hu
theorem aT{E:Env}{w:World}{vw:List Bx}{x:XV}{v:Value}(h:XR E w vw x v)(hk:x.cells.all AV.known=true)(hn:x.cells≠[]):VF E w vw x.cells v.cells.toList∧ ∀u∈v.cells.toList,u.oneCell' =true:=by
 cases x with
 |c x=>
  have h':VR E w vw x v:=h;obtain⟨h1,h2⟩:=eF h' (by simpa[XV.cells]using hk);rw[h2];exact⟨⟨h',trivial⟩,by simpa using h1⟩
 |agg l=>
  obtain⟨vs,rfl,O7⟩:=h;exact⟨O7,jg O7 hk⟩
 |Hd l=>simp[XV.cells]at hn
theorem fc{w:World}{vw:List Bx}{r:Ty}{E:Env}{bx:List Bx}{G:ABC}{d:Nat}{x:XV}{v:Value}{y:r.D}{J0:List Bx}{d':Nat}(h:Bm E w vw bx G)(hw:Cs bx vw)(hd:1≤d)
  (hv:XR E w vw x v) (e:mr d r x bx=some (y,J0,d')):1≤d'∧d'≤d∧ ∃E' F,Dv E w vw bx G E' J0 F∧Ow w E'.S (d'-1) r v.cells.toList y F:=by
 unfold mr at e;split at e
 ·rename_i l
  obtain⟨vs,rfl,O7⟩:=hv;exact QI h hw hd O7 e
 ·rename_i x
  have SF:VR E w vw x v:=hv;have hk:x.known=true:=by cases x<;>simp_all[AV.known,S7]
  rw[(eF SF hk).2];exact Rp h hw hd SF e
 ·cases e
end Go.Fw
end
section
namespace Go.Fw
def Env.Rq(E:Env)(n:Nat)(h:Value):Env:={ E with Ei:=fun k=>if k=n then h else E.Ei k }
def Env.Tp(E:Env)(n b:Nat):Env:={ E with EY:=fun k=>if k=n then b else E.EY k }
theorem U1{E E1 E':Env}{w w':World}{vw VT J0:List Bx}{F:ABC}(k:Dv E w vw vw [] E1 VT F)(st:∀c,E.S c→E.T c)(hlen:vw.length≤J0.length)
  (Ve:∀b B,b<vw.length→J0[b]? =some B→VT[b]? =some B) (eJ:∀b,b<vw.length→E'.EY b=E1.EY b) (Sv:∀b,b<vw.length→E'.Ei b=E1.Ei b) (hT:E'.T=E1.T) (hS:E'.S=E1.S)
  (hw:∀c,c<w.heap.size→c∉F→w'.heap[c]? =w.heap[c]?):Ld E w vw E' w' J0:=by
 have hB:=k.boxes;obtain⟨Fs,⟨h1,h2⟩,h3⟩:=hB;simp only[AEX]at h3;have n_:∀c,E1.T c→w'.heap[c]? =w.heap[c]?:=fun c hc=>hw c (h3.TN c hc) fun hf=>h3.free c (by simp[hf]) hc
 refine⟨hlen,fun b hb=>by rw[eJ b hb,k.le.EY],fun c hc=>by rw[hT];exact k.le.T c hc,fun c hc=>by rw[hS];exact k.le.S c hc,st,fun c hc=>n_ c (k.le.T c hc),fun b d r rows hb e=> ?_⟩;have e1:=Ve b _ hb e;rcases k.within b _ e1 with e2|e2
 ·cases e2
 ·refine⟨d,rows,e2,fun p hp q ys hg=>⟨hp,⟨ys,hg,rfl⟩,fun h' hh=> ?_⟩⟩
  have hF:Fs[b]? =some (Fs[b]'(by have:=(AD7.1 e1).1;omega)):=AD9 _;obtain⟨hd,ho⟩:=h2 b _ _ e1 hF;rw[Sv b hb];rw[←k.le.Ei]at hh;refine eH ho (fun c hc=>n_ c (h3.st c hc)) (fun c hc=> ?_) hp hg hh;have RE:c∈Fs.flatten:=AE5.2 ⟨_,AEN hF,hc⟩;exact hw c (h3.lt c (by simp[RE])) fun hf=>(AEJ.1 h3.nodup).2.2 c RE c hf rfl
structure Grown (w w':World):Prop where
 os:w'.os=w.os
 tape:w'.tape=w.tape
 output:w'.output=w.output
 size:w.heap.size≤w'.heap.size
theorem Lq{E E1:Env}{σ:St}{a:Act}{w w':World}{VT:List Bx}{F F':ABC}(h:Rel E σ a w)(k:Dv E w σ.bx σ.bx [] E1 VT F){v:Value}{d:Nat}{r:Ty}{rows:List r.D}(hd:1≤d)
  (ho:Ow w' E1.S d (.sl r) [v] rows F') (hF':∀c∈F',c∈F∨w.heap.size≤c) (nd:F'.Nodup) (Er:∀c∈F',c<w'.heap.size) (hw:∀c,c<w.heap.size→c∉F→w'.heap[c]? =w.heap[c]?) (g:Grown w w'):
  let E':=E1.Rq VT.length v
  Rel E' { σ with bx:=VT++[.sl d r rows] } a w'∧Ka [] E σ.bx w E' (VT++[.sl d r rows]) w'∧XR E' w' (VT++[.sl d r rows]) (.c (.ref VT.length [])) v:=by
 intro E';have st:=h.bx.st;have hn:=k.len;have keep:Ld E w σ.bx E' w' (VT++[.sl d r rows]):=U1 k st (by simp[hn]) (fun b B hb e=>by
   rw[AEG (by omega)]at e;exact e) (fun b _=>rfl) (fun b hb=>by simp[E',Env.Rq];intro e;omega) rfl rfl hw
 have fp:Ld E1 w σ.bx E' w' (VT++[.sl d r rows]):=by
  have k':Dv E1 w σ.bx σ.bx [] E1 VT F:=⟨Le.refl _,k.len,k.within,k.boxes⟩;exact U1 k' k.boxes.st (by simp[hn]) (fun b B hb e=>by
   rw[AEG (by omega)]at e;exact e) (fun b _=>rfl) (fun b hb=>by simp[E',Env.Rq];intro e;omega) rfl rfl hw
 obtain⟨Fs,⟨h1,h2⟩,h3⟩:=k.boxes;simp only[AEX]at h3;have n_:∀c,E1.T c→w'.heap[c]? =w.heap[c]?:=fun c hc=>hw c (h3.TN c hc) fun hf=>h3.free c (by simp[hf]) hc
 have hF0:∀c∈Fs.flatten,w'.heap[c]? =w.heap[c]?:=fun c hc=>hw c (h3.lt c (by simp[hc])) fun hf=>(AEJ.1 h3.nodup).2.2 c hc c hf rfl
 refine⟨⟨h.ID,h.tm.imp fun _ _ hx=>JH keep hx,?_⟩,?_,?_⟩
 ·refine⟨Fs++[F'],⟨by simp[h1],fun n B G hB hG=> ?_⟩,?_⟩
  ·by_cases eM:n<VT.length
   ·rw[AEG eM]at hB
    rw[AEG (by omega)]at hG;have:=h2 n B G hB hG;have hGw:∀c∈G,w'.heap[c]? =w.heap[c]?:=fun c hc=>hF0 c (AE5.2 ⟨G,AEN hG,hc⟩)
    cases B with
    |mem cs=>
     obtain⟨rfl,arr,ty,fr,a1,a2,a3⟩:=this;exact⟨rfl,arr,ty,fr,(hGw (E1.EY n) (by simp)).trans a1,a2,a3.imp fun _ _ hv=>DN fp hv⟩
    |sl d0 r0 KW=>
     refine⟨this.1,?_⟩;have e0:E'.Ei n=E1.Ei n:=by simp[E',Env.Rq];intro e;omega
     rw[e0];exact CT (fun _ hc=>hc) (fun c hc=>n_ c (h3.st c hc)) hGw this.2
    |dead=>exact this
   ·have jW:=(AD7.1 hB).1
    simp at jW;obtain rfl:n=VT.length:=by omega
    rw[AES (by omega)]at hB hG;simp[h1]at hB hG;subst hB hG;refine⟨hd,?_⟩;have e0:E'.Ei VT.length=v:=by simp[E',Env.Rq]
    rw[e0];exact ho
  ·simp only[AF_,AFO,AGy,AEX]
   have nd0:=AEJ.1 h3.nodup;refine⟨AEJ.2 ⟨nd0.1,nd,fun x hx y hy e=> ?_⟩,fun c hc ht=> ?_,fun c hc=> ?_,h3.st,fun c hc=>AFI (h3.TN c hc) g.size,h3.eK.mono (fun _ h=>h) n_⟩
   ·subst e
    rcases hF' x hy with h|h
    ·exact nd0.2.2 x hx x h rfl
    ·have:=h3.lt x (by simp[hx]);omega
   ·rcases AEZ.1 hc with hc|hc
    ·exact h3.free c (by simp[hc]) ht
    ·rcases hF' c hc with h|h
     ·exact h3.free c (by simp[h]) ht
     ·have:=h3.TN c ht;omega
   ·rcases AEZ.1 hc with hc|hc
    ·exact AFI (h3.lt c (by simp[hc])) g.size
    ·exact Er c hc
 ·refine⟨⟨k.le.T,k.le.S,k.le.ru,k.le.jL,fun c hc=>n_ c (k.le.T c hc),g.os,g.tape,g.output,g.size⟩,by simp[hn],fun b hb=>⟨by show E1.EY b=_;rw[k.le.EY],?_⟩,fun b hb=> ?_,fun n B B' _ hB Kt jv=> ?_⟩
  ·have:E'.Ei b=E1.Ei b:=by simp[E',Env.Rq];intro e;omega
   rw[this,k.le.Ei]
  ·have l4:=(AD7.1 hb).1
   rw[AEG (by omega)];obtain⟨B,hB⟩:∃B,VT[b]? =some B:=⟨_,AD9 (by omega)⟩;rcases k.within b B hB with e|e
   ·rw[hB,e]
   ·rw[hb]at e;rw[hB];exact e.symm
  ·have eM:=(AD7.1 hB).1
   rw[AEG (by omega)]at Kt;rcases k.within n B' Kt with e|e
   ·exact absurd e jv
   rw[hB]at e;cases e;refine⟨ND.refl jv,fun c hc=> ?_⟩;have hF:Fs[n]? =some (Fs[n]'(by have:=(AD7.1 Kt).1;omega)):=AD9 _;have hR:=h2 n B _ Kt hF;have UK:gR E1 w n B c:=by
    cases B with
    |mem cs=>simp only[gR]at hc⊢;rw[k.le.EY];exact hc
    |sl d r rows=>simp only[gR]at hc⊢;rw[k.le.Ei];exact hc
    |dead=>exact hc
   rcases Tt hR UK with hs|hs
   ·exact n_ c (h3.st c hs)
   ·exact hF0 c (AE5.2 ⟨_,AEN hF,hs⟩)
 ·have e0:E'.Ei VT.length=v:=by simp[E',Env.Rq]
  refine⟨?_,?_⟩
  ·have:=Pj ho
   simp only[Rd]at this;obtain⟨_,_,e,_⟩:=this;simp only[AEk,AFR]at e;rw[e];rfl
  ·have:(VT++[Bx.sl d r rows])[VT.length]? =some (.sl d r rows):=by simp
   rw[this];exact⟨by simp[Bt],⟨_,rfl⟩,by rw[e0,Bi]⟩
theorem aL{E:Env}{σ:St}{a:Act}{w:World}(h:Rel E σ a w){cs:List AV}{arr:Array Value}(ty:TypeId)(hv:VF E w σ.bx cs arr.toList):
  let E':=E.Tp σ.bx.length w.heap.size
  let w':=w.alloc (.cells arr ty)
  Rel E' (σ.new (.mem cs)) a w'∧Ka [] E σ.bx w E' (σ.new (.mem cs)).bx w'∧XR E' w' (σ.new (.mem cs)).bx (.c (.Eb σ.bx.length 0)) (.pointer (some ⟨w.heap.size,0,none⟩)):=by
 intro E' w';have st:=h.bx.st;have hw:∀c,c<w.heap.size→c∉([]:ABC)→w'.heap[c]? =w.heap[c]?:=fun c hc _=>by
  show(w.heap.push (.cells arr ty))[c]? =_
  rw[Array.getElem?_push,AEB (by omega)]
 have hB0:=h.bx;have keep:Ld E w σ.bx E' w' (σ.bx++[.mem cs]):=U1 (Dv.refl hB0) st (by simp) (fun b B hb e=>by
   rw[AEG (by omega)]at e;exact e) (fun b hb=>by simp[E',Env.Tp];intro e;omega) (fun b _=>rfl) rfl rfl hw
 obtain⟨Fs,⟨h1,h2⟩,h3⟩:=h.bx;simp only[AEX]at h3;have new:w'.heap[w.heap.size]? =some (.cells arr ty):=by
  show(w.heap.push (.cells arr ty))[w.heap.size]? =_
  simp
 refine⟨⟨h.ID,h.tm.imp fun _ _ hx=>JH keep hx,?_⟩,?_,?_⟩
 ·refine⟨Fs++[[w.heap.size]],⟨by simp[St.new,h1],fun n B G hB hG=> ?_⟩,?_⟩
  ·simp only[St.new]at hB
   by_cases eM:n<σ.bx.length
   ·rw[AEG eM]at hB
    rw[AEG (by omega)]at hG;have:=h2 n B G hB hG;have hGw:∀c∈G,w'.heap[c]? =w.heap[c]?:=fun c hc=>hw c (h3.lt c (by simp;exact⟨G,AEN hG,hc⟩)) (by simp)
    have eb:E'.EY n=E.EY n:=by simp[E',Env.Tp];intro e;omega
    cases B with
    |mem cs0=>
     obtain⟨rfl,arr0,ty0,fr,a1,a2,a3⟩:=this;refine⟨by rw[eb],arr0,ty0,fr,?_,a2,a3.imp fun _ _ hv=>DN keep hv⟩;rw[eb];exact(hGw (E.EY n) (by simp)).trans a1
    |sl d0 r0 KW=>exact⟨this.1,CT (fun _ hc=>hc) (fun c hc=>hw c (h3.TN c (st c hc)) (by simp)) hGw this.2⟩
    |dead=>exact this
   ·have jW:=(AD7.1 hB).1
    simp at jW;obtain rfl:n=σ.bx.length:=by omega
    rw[AES (by omega)]at hB hG;simp[h1]at hB hG;subst hB hG;have eb:E'.EY σ.bx.length=w.heap.size:=by simp[E',Env.Tp]
    refine⟨by rw[eb],arr,ty,(0,0),by rw[eb];exact new,fun i _ h=>by omega,hv.imp fun _ _ hv=>DN keep hv⟩
  ·simp only[AF_,AFO,AGy,AEX]
   refine⟨AEJ.2 ⟨h3.nodup,by simp,fun x hx y hy e=> ?_⟩,fun c hc ht=> ?_,fun c hc=> ?_,h3.st,fun c hc=> ?_,h3.eK.mono (fun _ h=>h) (fun c hc=>hw c (h3.TN c hc) (by simp))⟩
   ·subst e
    simp at hy;have:=h3.lt x hx;omega
   ·rcases AEZ.1 hc with hc|hc
    ·exact h3.free c hc ht
    ·simp at hc;have:=h3.TN c ht;omega
   ·rcases AEZ.1 hc with hc|hc
    ·have:=h3.lt c hc;simp[w'];omega
    ·simp at hc;simp[w'];omega
   ·have:=h3.TN c hc;simp[w'];omega
 ·refine⟨⟨fun _ h=>h,fun _ h=>h,fun _ h=> .inl h,fun _ h=> .inl h,fun c hc=>hw c (h3.TN c hc) (by simp),rfl,rfl,rfl,by simp[w']⟩,by simp[St.new],fun b hb=>⟨?_,rfl⟩,fun b hb=> ?_,fun n B B' _ hB Kt jv=> ?_⟩
  ·simp[E',Env.Tp];intro e;omega
  ·have l4:=(AD7.1 hb).1
   simp only[St.new];rw[AEG l4];exact hb
  ·have eM:=(AD7.1 hB).1
   simp only[St.new]at Kt;rw[AEG eM,hB]at Kt;cases Kt;refine⟨ND.refl jv,fun c hc=> ?_⟩;have hF:Fs[n]? =some (Fs[n]'(by omega)):=AD9 _;rcases Tt (h2 n B _ hB hF) hc with hs|hs
   ·exact hw c (h3.TN c (st c hs)) (by simp)
   ·exact hw c (h3.lt c (AE5.2 ⟨_,AEN hF,hs⟩)) (by simp)
 ·refine⟨by simp[St.new],?_⟩
  simp[E',Env.Tp]
end Go.Fw
end
section
namespace Go.Fw
theorem F8:∀r:Ty,(DP r).length=r.n
 | .cons c r=>by simp[DP,Ty.n,F8 r]
 | .unit=>rfl
 | .int _=>rfl
 | .bool=>rfl
 | .str=>rfl
 | .sl _=>rfl
theorem Qe{E:Env}{w:World}{vw:List Bx}(t:Ty):VR E w vw (iZ t) (zv t):=by
 cases t<;>first
  |exact VR.int _ _
  |exact VR.bool _
  |exact VR.str _
  |rfl
  |trivial
theorem Pr{E:Env}{w:World}{vw:List Bx}:∀r:Ty,VF E w vw (Rw r) (DP r)
 | .cons c r=>⟨Qe c,Pr r⟩
 | .unit=>trivial
 | .int k=>⟨Qe (.int k),trivial⟩
 | .bool=>⟨Qe .bool,trivial⟩
 | .str=>⟨Qe .str,trivial⟩
 | .sl r=>⟨Qe (.sl r),trivial⟩
theorem VQ{w:World}{S:Nat→Prop}{d:Nat}:∀{r:Ty},r.X0=true→Ow w S d r (DP r) r.z []
 | .cons c r,h=>by
  simp only[Ty.X0,AEF]at h;simp only[Ow,DP];refine⟨_,_,[],[],rfl,rfl,?_,VQ h.2⟩;cases c with
  |sl q=>exact Z3
  |int k=>simp[Ow,zv,Ty.z]
  |bool=>simp[Ow,zv,Ty.z]
  |str=>simp[Ow,zv,Ty.z]
  |unit=>simp[Ty.cell]at h
  |cons _ _=>simp[Ty.cell]at h
 | .unit,_=>by simp[Ow,DP]
 | .int k,_=>by simp[Ow,DP,zv,Ty.z]
 | .bool,_=>by simp[Ow,DP,zv,Ty.z]
 | .str,_=>by simp[Ow,DP,zv,Ty.z]
 | .sl q,_=>Z3
theorem TX{n:Nat}:∀{css:List (List Value)} {ex:List Value} {i j:Nat} {cs:List Value},(∀c∈css,c.length=n)→css[i]? =some cs→j<n→(css.flatten++ex)[i*n+j]? =cs[j]?
 |[],_,_,_,_,_,h,_=>by simp at h
 |c::css,ex,0,j,cs,hl,h,hj=>by
  simp at h;subst h;have:=hl c (by simp);simp only[AFO,AEE,Nat.zero_mul,AGB];rw[AEG (by omega)]
 |c::css,ex,i+1,j,cs,hl,h,hj=>by
  have hc:=hl c (by simp);have ih:=TX (css:=css) (ex:=ex) (i:=i) (j:=j) (cs:=cs) (fun c' UK=>hl c' (AGT _ UK)) (by simpa using h) hj;simp only[AFO,AEE];rw[AES (by rw[AGI];omega),←ih];congr 1;rw[AGI,hc];omega
theorem Xx{w:World}{b:Nat}{arr:Array Value}{ty:TypeId}{fr:ABP}(hb:w.heap[b]? =some (.cells arr ty fr)){n:Nat}{css:List (List Value)}{ex:List Value}(ha:arr.toList=css.flatten++ex)
  (hl:∀c∈css,c.length=n) {i:Nat} {cs:List Value} (h:css[i]? =some cs):Bb w b (i*n) cs:=by
 intro j v hj;have hjn:j<n:=by
  have:=(AD7.1 hj).1;rw[hl cs (AEN h)]at this;exact this
 simp only[World.cell?,hb,AGE,AER,AFJ];rw[←Array.getElem?_toList,ha,TX hl h hjn,hj]
theorem U8{w:World}{S:Nat→Prop}{d b cap:Nat}{r:Ty}{rows:List r.D}{arr:Array Value}{ty:TypeId}{fr:ABP}(hb:w.heap[b]? =some (.cells arr ty fr)){css:List (List Value)}{ex:List Value}
  (ha:arr.toList=css.flatten++ex) (hc:css.length=rows.length) (nz:rows.length≤cap) (He:cap*r.n≤arr.size) (hu:iF fr (arr.size+mk r)) {Fs:List ABC} (hF:Fs.length=rows.length)
  (Qm:∀(i:Nat) cs y G,css[i]? =some cs→rows[i]? =some y→Fs[i]? =some G→Ow w S d r cs y G):
  Ow w S (d+1) (.sl r) [.slice (some ⟨b,0,none⟩) rows.length cap] rows (b::Fs.flatten):=by
 have hl:∀c∈css,c.length=r.n:=by
  intro c UK;obtain⟨i,hi,rfl⟩:=AFr UK;exact Od (Qm i _ _ _ (AD9 hi) (AD9 (by omega)) (AD9 (by omega)))
 simp only[Ow];refine⟨_,cap,rfl,nz,.inr ⟨b,0,arr,ty,fr,Fs,rfl,hb,by omega,hu,rfl,hF,fun i y G hy hG=> ?_⟩⟩;have hi:i<css.length:=by
  have:=(AD7.1 hy).1;omega
 refine⟨css[i],hl _ (AEa hi),?_,Qm i _ y G (AD9 hi) hy hG⟩;rw[AGB];exact Xx hb ha hl (AD9 hi)
theorem We(n:Nat):iF (0,0) n:=fun i _ h=>by omega
theorem JY{w:World}{o:Obj}{c:Nat}(h:c<w.heap.size):(w.heap.push o)[c]? =w.heap[c]?:=by
 rw[Array.getElem?_push,AEB (by omega)]
section
variable{Y:Type} {P:Program} {T:F9} (hT:C2 P T) {o:Oper} {E:Env} {σ:St} {a:Act} {w:World} {k:K Y} {y:Y}
theorem nE(h:Rel E σ a w){t:TypeId}{x:Operand}(ho:o.op= .box t x)(hk:(σ.ev x).cells.all AV.known=true)(hn:(σ.ev x).cells≠[])(e:k (.c (.Eb σ.bx.length 0)) (σ.new (.mem (σ.ev x).cells))=some y):
  Gl P o E σ a w k y:=by
 obtain⟨h1,h2⟩:=aT (h.ev x) hk hn;obtain⟨r1,r2,r3⟩:=aL h t h1;refine⟨_,_,_,_,_,.inl ?_,r1,r3,r2.any,rfl,e⟩;simp only[execOp,ho,Instr.box,newVar,newRow,Sem.run_bind,run_newObj,Result.andThen_ok,Sem.run_pure];rfl
include hT
theorem row_zero{t:Nat}{r:Ty}(e:T.Vt t=some r):∃i z,P.info? t=some i∧i.zero=some z∧z.cells.toList=DP r∧r.X0=true:=by
 unfold F9.Vt at e;split at e
 ·rename_i ti Kq
  obtain⟨i,h1,_,_,h2⟩:=(hT t ti Kq).info;obtain⟨hg,z,h3,h4⟩:=h2 r e;exact⟨i,z,h1,h3,h4,hg⟩
 ·cases e
theorem iv(h:Rel E σ a w){t:TypeId}(ho:o.op= .alloc t){r:Ty}(hr:T.Vt t=some r)(e:k (.c (.Eb σ.bx.length 0)) (σ.new (.mem (Rw r)))=some y):Gl P o E σ a w k y:=by
 obtain⟨i,z,h1,h2,h3,_⟩:=row_zero hT hr;obtain⟨r1,r2,r3⟩:=aL (arr:=z.cells) h t (by rw[h3];exact Pr r);refine⟨_,_,_,_,_,.inl ?_,r1,r3,r2.any,rfl,e⟩;simp only[execOp,ho,Instr.alloc,zeroValue,typeInfo,newVar,newRow,Sem.run_bind,run_program,Result.andThen_ok,h1,h2,run_newObj,Sem.run_pure];rfl
end
end Go.Fw
end
section
namespace Go.Fw
def DL(arr:Array Value):Nat→List Value→Array Value
 |_,[]=>arr
 |o,c::l=>DL (arr.setIfInBounds o c) (o+1) l
theorem GY:∀(l:List Value) (o:Nat) (arr:Array Value),(DL arr o l).size=arr.size
 |[],_,_=>rfl
 |c::l,o,arr=>by simp[DL,GY l]
theorem ZZ(off:Nat):∀(l:List Value) (k:Nat) (arr:Array Value),(l.zipIdx k).foldl (fun cs (q:Value×Nat)=>cs.setIfInBounds (off+q.2) q.1) arr=DL arr (off+k) l
 |[],_,_=>rfl
 |c::l,k,arr=>by
  simp only[List.zipIdx_cons,AG1,DL];rw[ZZ off l (k+1)];rfl
theorem O_{E:Env}{w:World}{vw:List Bx}:∀{xs:List AV} {vs:List Value} {cs SW:List AV} {arr:Array Value} {o:Nat},VF E w vw cs arr.toList→VF E w vw xs vs→Og cs o xs=some SW→
  VF E w vw SW (DL arr o vs).toList∧o+xs.length≤cs.length∨(xs=[]∧SW=cs)
 |[],[],cs,SW,arr,o,h,_,e=>by simp only[Og,AD_]at e;exact .inr ⟨rfl,e.symm⟩
 |x::xs,v::vs,cs,SW,arr,o,h,hx,e=>by
  simp only[Og]at e;split at e
  case isFalse=>cases e
  rename_i ho;have h1:VF E w vw (cs.set o x) (arr.setIfInBounds o v).toList:=by
   rw[Array.toList_setIfInBounds];exact BU.set h hx.1
  rcases O_ h1 hx.2 e with⟨h2,h3⟩|⟨rfl,rfl⟩
  ·refine .inl ⟨h2,?_⟩
   simp at h3⊢;omega
  ·cases vs with
   |nil=>exact .inl ⟨h1,by simp;omega⟩
   |cons _ _=>exact hx.2.elim
 |[],_::_,_,_,_,_,_,hx,_=>hx.elim
 |_::_,[],_,_,_,_,_,hx,_=>hx.elim
section
variable{Y:Type} {P:Program} {T:F9} (hT:C2 P T) {o:Oper} {E:Env} {σ:St} {a:Act} {w:World} {k:K Y} {y:Y}
def gg(E:Env)(w:World)(vw:List Bx)(l:List (Nat×XV))(m:List (Nat×Value)):Prop:=BU (fun x v=>x.1=v.1∧XR E w vw x.2 v.2) l m
theorem Z6(h:Rel E σ a w)(ps:Array (Nat×Operand)):gg E w σ.bx (ps.toList.map fun q=>(q.1,σ.ev q.2)) (ps.map fun(i,x)=>(i,a.eval x)).toList:=by
 rw[Array.toList_map]
 generalize ps.toList=l
 induction l with
 |nil=>trivial
 |cons q l ih=>exact⟨⟨rfl,h.ev q.2⟩,ih⟩
theorem bt{place:Nat→Option ABP}{i off size:Nat}(hp:place i=some (off,size)){cells:Array Value}{v:Value}{rest:List (Nat×Value)}(h1:v.cells.size=size)(h2:off+v.cells.size≤cells.size):
  Instr.fill place cells ((i,v)::rest)=Instr.fill place (DL cells off v.cells.toList) rest:=by
 have e:v.cells.zipIdx.foldl (fun cs (q:Value×Nat)=>cs.setIfInBounds (off+q.2) q.1) cells=DL cells off v.cells.toList:=by
  rw[←Array.foldl_toList];have:(v.cells.zipIdx).toList=v.cells.toList.zipIdx:=by simp
  rw[this];exact ZZ off v.cells.toList 0 cells
 conv=>lhs;unfold Instr.fill
 simp only[hp];rw[AEB (by simp;omega)];exact congrArg (fun c=>Instr.fill place c rest) e
theorem Zr{α β:Type}{f:α→Option β}{g:α→β}:∀{l:List α},(∀x∈l,f x=some (g x))→l.mapM f=some (l.map g)
 |[],_=>rfl
 |x::l,h=>by
  simp only[AHL,h x (by simp),Zr (l:=l) (g:=g) (fun y hy=>h y (by simp[hy]))];rfl
include hT
theorem Rx{fs:List ABP}{vw:List Bx}:∀{parts:List (Nat×XV)} {vals:List (Nat×Value)} {cs SW:List AV} {arr:Array Value},gg E w vw parts vals→VF E w vw cs arr.toList→UZ T fs cs parts=some SW→
  ∃Hy:Array Value,Instr.fill (fun i=>(fs[i]?).bind fun q=>((P.info? q.2).map fun i=>(q.1,i.size))) arr vals=some Hy∧VF E w vw SW Hy.toList
 |[],[],cs,SW,arr,_,h,e=>by
  simp only[UZ,AD_]at e;subst e;exact⟨arr,rfl,h⟩
 |(i,x)::ps,(j,v)::vs,cs,SW,arr,hp,h,e=>by
  obtain⟨⟨vU,hx⟩,hp⟩:=hp;simp only at vU hx;subst vU;simp only[UZ]at e;split at e
  case h_2=>cases e
  rename_i off u hf;split at e
  case h_2=>cases e
  rename_i ti Kq;split at e
  case isFalse=>cases e
  rename_i hc;obtain⟨c1,c2,c3⟩:=hc;simp only[AED]at e;obtain⟨cs1,e1,e2⟩:=e;have SY:x.cells≠[]:=by intro h0;rw[h0]at c1;simp at c1;omega
  obtain⟨x1,x2⟩:=aT hx c3 SY;rcases O_ h x1 e1 with⟨s1,s2⟩|⟨s1,_⟩
  ·have He:v.cells.size=ti.size:=by
    have:=x1.len;rw[←c1,this];simp
   have hlen:=h.len;obtain⟨Hy,f1,f2⟩:=Rx hp s1 e2;refine⟨Hy,?_,f2⟩;have xj:(fun i=>(fs[i]?).bind fun q=>((P.info? q.2).map fun i=>(q.1,i.size))) i=some (off,ti.size):=by
    have:=C2.size hT Kq;cases hq:P.info? u with
    |none=>simp[hq]at this
    |some iu=>simp[hq]at this;simp[hf,hq,this]
   rw[bt (i:=i) (off:=off) (size:=ti.size) xj He (by simp at hlen;omega)];exact f1
  ·exact absurd s1 SY
 |[],_::_,_,_,_,hp,_,_=>hp.elim
 |_::_,[],_,_,_,hp,_,_=>hp.elim
theorem iV(h:Rel E σ a w){t:TypeId}{ps:Array (Nat×Operand)}(ho:o.op= .build t ps){s b:Nat}{fs:List ABP}{rw:Option Ty}(Kq:T.get t=some ⟨s,b,.st fs,rw⟩){r:Ty}(hr:T.Vt t=some r)
  {cs:List AV} (hb:UZ T fs (Rw r) (ps.toList.map fun q=>(q.1,σ.ev q.2))=some cs) (e:k (.agg cs) σ=some y):Gl P o E σ a w k y:=by
 obtain⟨i,z,h1,h2,h3,_⟩:=row_zero hT hr;obtain⟨fields,hu,zI,He⟩:=rX hT Kq;obtain⟨Hy,f1,f2⟩:=Rx hT (Z6 h ps) (arr:=z.cells) (by rw[h3];exact Pr r) hb;refine Gl.same h (v:= .agg Hy) (x:= .agg cs) ?_ ⟨Hy,rfl,f2⟩ e
 have hb:P.built t (ps.map fun(i,x)=>(i,a.eval x)).toList=some Hy:=by
  unfold Program.built;simp only[h1,hu,h2];have hm:fields.toList.mapM (fun f=>(P.info? f.type).map fun i=>(f.offset,i.size))=some (fields.toList.map fun f=>(f.offset,((P.info? f.type).map (·.size)).getD 0)):=by
   refine Zr fun f hf=> ?_
   obtain⟨i',Dg,_⟩:=He f hf;simp[Dg]
  simp only[hm];rw[←f1];congr 1;funext n;subst zI;simp only[List.getElem?_toArray,AFG];cases hn:fields.toList[n]? with
  |none=>simp
  |some f=>
   obtain⟨i',Dg,_⟩:=He f (AEN hn);simp[Dg]
 have:=run_build (P:=P) w t (ps.map fun(i,x)=>(i,a.eval x)) Hy hb;simp only[execOp,ho,Sem.run_bind,this,Result.andThen_ok,Sem.run_pure]
end
end Go.Fw
end
section
namespace Go.Fw
theorem wrap_small{n:Int}(h0:0≤n)(h1:n≤(Cg:Int)):IntKind.i64.wrap n=n:=by
 simp only[Cg]at h1;unfold IntKind.wrap;simp only[IntKind.bits,IntKind.signed];have e:n%(2^64:Int)=n:=Int.emod_eq_of_lt h0 (by omega);simp only[e];rw[AEB (by simp;omega)]
theorem Cx{m:Nat}{zl:List Value}:((List.replicate m zl).flatten).length=m*zl.length:=by
 induction m with
 |zero=>simp
 |succ m ih=>simp only[AGg,AFO,AEM,ih,AHA];omega
theorem Hz{zl:List Value}:∀{m i:Nat},i<m*zl.length→((List.replicate m zl).flatten)[i]? =zl[i%zl.length]?
 |0,i,h=>by simp at h
 |m+1,i,h=>by
  simp only[AGg,AFO];by_cases hi:i<zl.length
  ·rw[AEG hi,Nat.mod_eq_of_lt hi]
  ·have Dg:zl.length≤i:=by omega
   rw[AES Dg,Hz (by rw[AHA]at h;omega),←Nat.mod_eq_sub_mod Dg]
theorem Rs{zero:Array Value}{zl:List Value}(hz:zero.toList=zl)(m:Nat)(h0:zl≠[]):((Array.range (m*zl.length)).map (fun i=>zero[i%zero.size]!)).toList=(List.replicate m zl).flatten:=by
 have hs:zero.size=zl.length:=by rw[←hz];simp
 have AAS:0<zl.length:=AHG.2 h0;apply AGb;intro i;by_cases hi:i<m*zl.length
 ·rw[Hz hi]
  have ACA:i%zl.length<zl.length:=Nat.mod_lt _ AAS;simp only[Array.toList_map,Array.toList_range,AFG,List.getElem?_range hi,AGV,hs];rw[AD9 ACA];congr 1;subst hz;have pt:i%zero.size<zero.size:=by rw[hs];exact ACA
  simp[pt,←hs]
 ·have h1:((Array.range (m*zl.length)).map (fun i=>zero[i%zero.size]!)).toList.length≤i:=by simp;omega
  rw[AF2 h1,AF2 (by rw[Cx];omega)]
section
variable{Y:Type} {P:Program} {T:F9} (hT:C2 P T) {o:Oper} {E:Env} {σ:St} {a:Act} {w:World} {k:K Y} {y:Y}
include hT
theorem Th{e:Nat}{ti:TI}{r:Ty}(he:T.get e=some ti)(hr:ti.row=some r):∃i z,P.info? e=some i∧i.size=ti.size∧i.bytes=ti.bytes∧i.zero=some z∧z.cells.toList=DP r∧r.X0=true:=by
 obtain⟨i,h1,h2,h3,h4⟩:=(hT e ti he).info;obtain⟨hg,z,h5,h6⟩:=h4 r hr;exact⟨i,z,h1,h2,h3,h5,h6,hg⟩
theorem jz(h:Rel E σ a w){t:TypeId}{l c:Operand}(ho:o.op= .makeSlice t l c)(e:bw T t σ (σ.ev l) (σ.ev c) k=some y):Gl P o E σ a w k y:=by
 unfold bw at e;split at e
 case h_2=>cases e
 rename_i el n m hd hl hc;split at e
 case h_2=>cases e
 rename_i r hr;split at e
 case isFalse=>cases e
 rename_i RF;split at e
 case isFalse=>cases e
 rename_i hb;obtain⟨b0,b1,b2⟩:=hb;obtain⟨el',ti,hu,Kq,hs,hby,hrow⟩:=Ix hT RF;obtain⟨i,z,i1,i2,i3,i4,i5,hg⟩:=Th hT Kq hrow;obtain⟨κ1,e1⟩:=E4 hl (h.ev l);obtain⟨κ2,e2⟩:=E4 hc (h.ev c);have w1:=wrap_small b0 (by omega);have w2:=wrap_small (n:=m) (by omega) b2
 let arr:Array Value:=(Array.range (m.toNat*r.n)).map (fun j=>(if m.toNat*r.n=0 then #[]else z.cells)[j%(if m.toNat*r.n=0 then(#[]:Array Value)else z.cells).size]!)
 have Ua:arr.toList=(List.replicate n.toNat (DP r)).flatten++(List.replicate (m.toNat-n.toNat) (DP r)).flatten:=by
  have hz:=F8 r;have split:(List.replicate n.toNat (DP r)).flatten++(List.replicate (m.toNat-n.toNat) (DP r)).flatten=(List.replicate m.toNat (DP r)).flatten:=by
   rw[←AF_,List.replicate_append_replicate];congr 2;omega
  rw[split];by_cases h0:m.toNat*r.n=0
  ·have:arr.toList=[]:=by simp[arr,h0]
   rw[this]
   symm
   rw[←AG2,Cx,hz,h0]
  ·have SY:DP r≠[]:=by
    intro he;rw[he]at hz;simp at hz;rw[←hz]at h0;simp at h0
   have:=Rs i5 m.toNat SY;rw[hz]at this;simp only[arr,AEB h0];exact this
 let w':=w.alloc (.cells arr el')
 have new:w'.heap[w.heap.size]? =some (.cells arr el'):=by
  show(w.heap.push (.cells arr el'))[w.heap.size]? =_
  simp
 have vb:arr.size=m.toNat*r.n:=by simp[arr]
 have how:Ow w' E.S (8+1) (.sl r) [.slice (some ⟨w.heap.size,0,none⟩) (List.replicate n.toNat r.z).length m.toNat] (List.replicate n.toNat r.z) (w.heap.size::(List.replicate n.toNat ([]:ABC)).flatten):=by
  refine U8 new Ua (by simp) (by simp;omega) (by omega) (We _) (by simp) fun i cs y G h1 h2 h3=> ?_
  simp only[AG3]at h1 h2 h3;split at h1
  ·rename_i hi
   rw[AEA hi]at h2 h3;cases h1;cases h2;cases h3;exact VQ hg
  ·cases h1
 have hF:(List.replicate n.toNat ([]:ABC)).flatten=[]:=by simp
 rw[hF]at how;simp only[AGZ]at how;obtain⟨r1,r2,r3⟩:=Lq h (Dv.refl h.bx) (w':=w') (d:=9) (by omega) how (by simp) (by simp) (by simp[w']) (fun c hc _=>JY hc) ⟨rfl,rfl,rfl,by simp[w']⟩;refine⟨_,_,_,_,_,.inl ?_,r1,r3,r2.any,rfl,e⟩;have AFF:(i.bytes:Int)*m≤2^48:=by
  have h1:(i.bytes:Int)≤512:=by omega
  have h2:(i.bytes:Int)*m≤512*m:=Int.mul_le_mul_of_nonneg_right h1 (by omega);simp only[Cg]at b2;omega
 simp only[execOp,ho,Instr.makeSlice,e1,e2,Sem.run_bind,Am hu,Result.andThen_ok,asInt,asIntOf,Sem.run_pure,typeInfo,run_program,i1,w1,w2];rw[AEB (by simp;omega)];by_cases h0:m.toNat*r.n=0
 ·have e3:arr=(Array.range (m.toNat*r.n)).map (fun j=>(#[]:Array Value)[j%(#[]:Array Value).size]!):=by simp only[arr,AEA h0]
  simp only[Sem.run_bind,run_askRoom,Result.andThen_ok,sizeOf,typeInfo,run_program,i1,Sem.run_pure,i2,hs,h0,AGG,newRow,run_newObj];simp only[w',e3,h0];rfl
 ·have e3:arr=(Array.range (m.toNat*r.n)).map (fun j=>z.cells[j%z.cells.size]!):=by simp only[arr,AEB h0]
  simp only[Sem.run_bind,run_askRoom,Result.andThen_ok,sizeOf,typeInfo,run_program,i1,Sem.run_pure,i2,hs,h0,AFJ,newRow,run_newObj,zeroValue,i4];simp only[w',e3];rfl
end
end Go.Fw
end
section
namespace Go.Fw
theorem V3{w:World}{B S:Nat→Prop}{d:Nat}:∀{r:Ty} {cs:List Value} {x:r.D},r.flat=true→Rd w B r cs x→Ow w S d r cs x []
 | .cons c r,cs,x,h,hr=>by
  simp only[Ty.flat,AEF]at h;simp only[Rd]at hr;obtain⟨v,l,rfl,h1,h2⟩:=hr;simp only[Ow];exact⟨v,l,[],[],rfl,rfl,V3 h.1 h1,V3 h.2 h2⟩
 | .unit,_,_,_,hr=>by simp only[Rd]at hr;simp[Ow,hr]
 | .int k,_,_,_,hr=>by simp only[Rd]at hr;simp[Ow,hr]
 | .bool,_,_,_,hr=>by simp only[Rd]at hr;simp[Ow,hr]
 | .str,_,_,_,hr=>by simp only[Rd]at hr;simp[Ow,hr]
 | .sl q,_,_,h,_=>by simp[Ty.flat]at h
theorem XD{P:Program}{w:World}{b o:Nat}{cs:List Value}(h:Bb w b o cs):(loadCells ⟨b,o,none⟩ cs.length).run P w= .ok cs.toArray w:=
 run_loadCells_list (P:=P) w ⟨b,o,none⟩ cs fun j v hv=>by rw[Addr.add_eq];exact h j v hv
theorem Oo{P:Program}{w:World}(a:Addr):(loadCells a 0).run P w= .ok #[] w:=by
 simpa using run_loadCells_list (P:=P) w a [] (by simp)
theorem OV{l:List Value}:(l.map fun v=>[v]).flatten=l:=by
 induction l with
 |nil=>rfl
 |cons a l ih=>simp[ih]
theorem gK{w:World}{B:Nat→Prop}{r:Ty}{b o:Nat}{ys:List r.D}(h:∀(i:Nat) (y:r.D),ys[i]? =some y→ ∃cs,cs.length=r.n∧Bb w b (o+i*r.n) cs∧Rd w B r cs y):
  ∃css:List (List Value),css.length=ys.length∧(∀c∈css,c.length=r.n)∧Bb w b o css.flatten∧ ∀(i:Nat) cs y,css[i]? =some cs→ys[i]? =some y→Rd w B r cs y:=by
 induction ys generalizing o with
 |nil=>exact⟨[],rfl,by simp,fun _ _ h=>by simp at h,fun i cs y h=>by simp at h⟩
 |cons y ys ih=>
  obtain⟨cs,c1,c2,c3⟩:=h 0 y rfl;obtain⟨css,d1,d2,d3,d4⟩:=ih (o:=o+r.n) (fun i z hz=>by
   obtain⟨cs,e1,e2,e3⟩:=h (i+1) z (by simpa using hz);refine⟨cs,e1,?_,e3⟩;rw[AGI,AG4]at e2
   rwa [show o+r.n+i*r.n=o+(i*r.n+r.n)by omega])
  refine⟨cs::css,by simp[d1],by simpa using⟨c1,d2⟩,?_,?_⟩
  ·intro j v hj
   simp only[AFO]at hj;by_cases jB:j<cs.length
   ·rw[AEG jB]at hj
    have:=c2 j v hj;simpa using this
   ·rw[AES (by omega)]at hj
    have:=d3 _ v hj
    rwa [show o+r.n+(j-cs.length)=o+j by omega]at this
  ·intro i SW z h1 h2
   cases i with
   |zero=>simp at h1 h2;subst h1 h2;exact c3
   |succ i=>exact d4 i SW z (by simpa using h1) (by simpa using h2)
theorem Bb.append{w:World}{b o:Nat}{l m:List Value}(h:Bb w b o l)(k:Bb w b (o+l.length) m):Bb w b o (l++m):=by
 intro j v hj;by_cases jB:j<l.length
 ·rw[AEG jB]at hj
  exact h j v hj
 ·rw[AES (by omega)]at hj
  have:=k _ v hj
  rwa [show o+l.length+(j-l.length)=o+j by omega]at this
section
variable{Y:Type} {P:Program} {T:F9} (hT:C2 P T) {o:Oper} {E:Env} {σ:St} {a:Act} {w:World} {k:K Y} {y:Y}
theorem E5(hT:C2 P T){t:Nat}{d:TD}(e:(T.get t).map TI.desc=some d):Uv P t d:=by
 simp only[AEC]at e;obtain⟨ti,h1,rfl⟩:=e;exact(hT t ti h1).nS
theorem Yt{src dst e:Nat}(hs:P.underlying src=some (.slice e))(he:P.underlying e=some (.int .u8))(hd:P.underlying dst=some .string){x:Value}{l:AAQ}{B:Nat→Prop}
  (h:Rd w B (.sl (.int .u8)) [x] l):(convert src dst x).run P w= .ok (.string ⟨(l.map fun n:Int=>UInt8.ofNat n.toNat).toArray⟩) w:=by
 simp only[Rd]at h;obtain⟨a,cap,hx,hle,h⟩:=h;simp only[AEk,AFR]at hx;subst hx;rcases h with h|⟨b,o,rfl,_,h⟩
 ·obtain rfl:=AEg h
  cases a with
  |none=>exact run_convert_bytes_nil w src e hs he _ _ dst hd
  |some a=>
   rw[run_convert_bytes_string w src dst e _ _ cap hs he hd];have:=_root_.Go.run_bytesToString (P:=P) w a 0 cap [] (by simpa using Oo (P:=P) (w:=w) a);simp only[AEc]at*;rw[this];rfl
 ·refine run_convert_bytes_arg w src e hs he b o _ cap l rfl (fun i hi=> ?_) dst hd
  obtain⟨cs,c1,c2,c3⟩:=h i _ (AD9 hi);subst c3;have:=c2 0 _ rfl;simp only[Ty.n,Nat.mul_one,AGS]at this;rw[this];simp[List.getD,hi]
include hT in
theorem lE(h:Rel E σ a w){src dst:Nat}{x:Operand}(ho:o.op= .convert src dst x)(e:bq T src dst σ (σ.ev x) k=some y):Gl P o E σ a w k y:=by
 have hx:=h.ev x;unfold bq at e;split at e
 ·rename_i κ0 κ j n hs hd hv
  have h1:=E5 hT hs;have h2:=E5 hT hd;rw[hv]at hx;have SF:=RP (E:=E) (w:=w) (vw:=σ.bx) hx;refine Gl.same h (v:= .int κ (κ.wrap n)) (x:= .c (.v (.int κ) (κ.wrap n))) ?_ (VR.int (E:=E) (vw:=σ.bx) _ _) e
  simp only[Uv]at h1 h2;simp only[execOp,ho,SF,convert,Sem.run_bind,Am h1,Am h2,Result.andThen_ok,Conv.intToInt,Sem.run_pure]
 ·rename_i s hs hd hv
  have h1:=E5 hT hs;have h2:=E5 hT hd;rw[hv]at hx;have SF:=PM (E:=E) (w:=w) (vw:=σ.bx) hx;refine Gl.same h (v:= .string ⟨s.toArray⟩) (x:= .c (.v .str s)) ?_ (VR.str (E:=E) (vw:=σ.bx) _) e
  simp only[Uv]at h1 h2;simp only[execOp,ho,SF,convert,Sem.run_bind,Am h1,Am h2,Result.andThen_ok,Sem.run_pure]
 ·rename_i el s hs hd hv
  have h1:=E5 hT hs;have h2:=E5 hT hd;rw[hv]at hx;have SF:=PM (E:=E) (w:=w) (vw:=σ.bx) hx;split at e
  case h_2=>cases e
  rename_i RF;have h3:=E5 hT RF;split at e
  case isFalse=>cases e
  rename_i X5;simp only[Uv]at h1 h2 h3
  let S0:ByteArray:=⟨s.toArray⟩
  have He:S0.size=s.length:=by simp[S0,ByteArray.size]
  have ar:=Lib.run_convert_string_bytes (P:=P) w src dst el S0 h1 h2 h3;have nz:s.length≤grownCap w S0.size 0 el:=by rw[He];exact grownCap_ge _ _ _ _
  have new:=Lib.bytesWorld_at_new w el S0;have Ua:(Lib.bytesCells w el S0).toList=(s.map fun c=>[Value.int .u8 (c.toNat:Int)]).flatten++List.replicate (grownCap w S0.size 0 el-S0.size) (.int .u8 0):=by
   have:(s.map fun c=>[Value.int .u8 (c.toNat:Int)]).flatten=s.map fun c=>Value.int .u8 (c.toNat:Int):=by
    have:=OV (l:=s.map fun c=>Value.int .u8 (c.toNat:Int));simpa[AGp,Function.comp_def]using this
   rw[this];simp[Lib.bytesCells,S0]
  have vb:(Lib.bytesCells w el S0).size=grownCap w S0.size 0 el:=by
   rw[←AGh,Ua];have:((s.map fun c=>[Value.int .u8 (c.toNat:Int)]).flatten).length=s.length:=by
    have:=OV (l:=s.map fun c=>Value.int .u8 (c.toNat:Int));rw[AGp]at this;have e2:(s.map fun c=>[Value.int .u8 (c.toNat:Int)])=s.map ((fun v=>[v])∘fun c=>Value.int .u8 (c.toNat:Int)):=rfl;rw[e2,this];simp
   rw[AEM,this,AGZ];omega
  have how:Ow (Lib.bytesWorld w el S0) E.S (8+1) (.sl (.int .u8)) [.slice (some ⟨w.heap.size,0,none⟩) (s.map fun c=>(c.toNat:Int)).length (grownCap w S0.size 0 el)] (s.map fun c=>(c.toNat:Int))
    (w.heap.size::(List.replicate s.length ([]:ABC)).flatten):=by
   refine U8 (css:=s.map fun c=>[Value.int .u8 (c.toNat:Int)]) new Ua (by simp) (by simpa using nz) (by simp[Ty.n];omega) (fun i hi hh=>by simp only[mk]at hi;omega) (by simp) fun i cs y G q1 q2 q3=> ?_
   simp only[AFG,AEC]at q1 q2;obtain⟨c1,z1,rfl⟩:=q1;obtain⟨c2,z2,rfl⟩:=q2;rw[z1]at z2;cases z2;have:G=[]:=AFy (AEN q3);subst this;simp[Ow]
  have hF:(List.replicate s.length ([]:ABC)).flatten=[]:=by simp
  rw[hF]at how;obtain⟨r1,r2,r3⟩:=Lq h (Dv.refl h.bx) (w':=Lib.bytesWorld w el S0) (d:=9) (by omega) how (by simp) (by simp) (by simp[Lib.bytesWorld_size]) (fun c hc _=>Lib.bytesWorld_at_old w el S0 c hc)
   ⟨by simp[Lib.bytesWorld,World.freeze]<;>rfl,by simp[Lib.bytesWorld,World.freeze]<;>rfl,by simp[Lib.bytesWorld,World.freeze]<;>rfl,by rw[Lib.bytesWorld_size];omega⟩
  refine⟨_,_,_,_,_,.inl ?_,r1,r3,r2.any,rfl,e⟩;simp only[execOp,ho,SF,Sem.run_bind];have e5:=ar;simp only[S0]at e5;rw[e5];simp only[Result.andThen_ok,Sem.run_pure,AGc];rfl
 ·rename_i el z hs hd hv
  have h1:=E5 hT hs;have h2:=E5 hT hd;rw[hv]at hx;split at e
  case h_2=>cases e
  rename_i l RF hl;have h3:=E5 hT RF;simp only[Uv]at h1 h2 h3;obtain⟨Fs,hB,hS⟩:=h.bx;have PS:=Mt (Cs.refl σ.bx) hB hS.st hx hl;have hr:=Yt (P:=P) h1 h3 h2 PS;refine Gl.same h (v:= .string ⟨(l.map fun n:Int=>UInt8.ofNat n.toNat).toArray⟩) (x:= .c (.v .str (l.map fun n:Int=>UInt8.ofNat n.toNat))) ?_ (VR.str (E:=E) (vw:=σ.bx) _) e
  simp only[execOp,ho,Sem.run_bind,hr,Result.andThen_ok,Sem.run_pure]
 ·cases e
end
end Go.Fw
end
section
namespace Go.Fw
theorem SX:∀(l:List Value) (o:Nat) (arr:Array Value) (p q:List Value),p.length=o→(∃m:List Value,m.length=l.length∧arr.toList=p++m++q)→(DL arr o l).toList=p++l++q
 |[],o,arr,p,q,hp,⟨m,hm,h⟩=>by
  have:m=[]:=AEg (by simpa using hm);subst this;simpa[DL]using h
 |c::l,o,arr,p,q,hp,⟨m,hm,h⟩=>by
  cases m with
  |nil=>simp at hm
  |cons b m=>
   simp only[DL];have:=SX l (o+1) (arr.setIfInBounds o c) (p++[c]) q (by simp[hp]) ⟨m,by simpa using hm,by
    rw[Array.toList_setIfInBounds,h];subst hp;simp⟩
   rw[this];simp
theorem Dv.more{E E1 E2:Env}{w:World}{vw bx VT Qc:List Bx}{G F1 F2 A W:ABC}(k1:Dv E w vw bx G E1 VT F1)(k2:Dv E1 w vw VT (F1++G) E2 Qc F2)(hp:F1.Perm (A++W)):
  let E3:Env:={ E2 with S:=fun c=>E2.S c∨c∈W,T:=fun c=>E2.T c∨c∈W }
  Dv E w vw bx G E3 Qc (A++F2):=by
 intro E3;have hB:=k2.boxes.perm (G':=(F2++A)++W++G) (by
  rw[AEE F2 A W,AEE F2];exact AE0 _ (AEW _ hp))
 obtain⟨hle,OP⟩:=hB.share;exact⟨(k1.le.trans k2.le).trans hle,k2.len.trans k1.len,fun b B hb=>(k2.within b B hb).elim .inl (k1.within b B),OP.perm (AEW _ AE4)⟩
theorem QP{w:World}{vw:List Bx}{r:Ty}(hg:r.X0=true):∀{n i:Nat} {parts:List (Nat×XV)} {vals:List (Nat×Value)} {E:Env} {bx:List Bx} {G:ABC} {d:Nat} {rows:List r.D} {J0:List Bx} {d':Nat},
  Bm E w vw bx G→Cs bx vw→1≤d→gg E w vw parts vals→Ps r i n parts bx d=some (rows,J0,d')→1≤d'∧d'≤d∧rows.length=n∧ ∃(E':Env) (Fs:List ABC) (css:List (List Value)),
   Dv E w vw bx G E' J0 Fs.flatten∧css.length=n∧Fs.length=n∧(∀(k:Nat) cs y G,css[k]? =some cs→rows[k]? =some y→Fs[k]? =some G→Ow w E'.S (d'-1) r cs y G)∧
   ∀(pre:List (List Value)) (arr:Array Value),pre.length=i→(∀c∈pre,c.length=r.n)→arr.toList=pre.flatten++(List.replicate n (DP r)).flatten→
    ∃Hy,Instr.fill (fun i=>some (i*r.n,r.n)) arr vals=some Hy∧Hy.toList=pre.flatten++css.flatten
 |0,i,[],[],E,bx,G,d,rows,J0,d',h,hw,hd,hp,e=>by
  simp only[Ps,AD_,AFH]at e;obtain⟨rfl,rfl,rfl⟩:=e;refine⟨hd,AE7 _,rfl,E,[],[],Dv.refl h,rfl,rfl,by simp,fun pre arr _ _ ha=>⟨arr,rfl,by simpa using ha⟩⟩
 |n+1,i,(j,x)::l,(j',v)::m,E,bx,G,d,rows,J0,d',h,hw,hd,hp,e=>by
  obtain⟨⟨hj,hx⟩,hp⟩:=hp;simp only at hj hx;subst hj;simp only[Ps]at e;split at e
  case isFalse=>cases e
  rename_i vU;subst vU;simp only[AED,AEC,AFH]at e;obtain⟨⟨y1,VT,d1⟩,e1,⟨y2,Qc,d2⟩,e2,rfl,rfl,rfl⟩:=e;dsimp only at e2⊢;obtain⟨a1,a2,E1,F1,k1,o1⟩:=fc h hw hd hx e1;have fp:=k1.le.keep (w:=w) (vw:=vw) h.st;obtain⟨b1,b2,b3,E2,Fs,css,k2,c1,c2,c3,c4⟩:=QP hg (G:=F1++G) k1.boxes (hw.Z7 k1) a1 (hp.imp fun _ _ q=>⟨q.1,JH fp q.2⟩) e2;obtain⟨A,W,Xc,o1'⟩:=Fv (d:=d'-1) (by omega) o1;refine⟨b1,AFS b2 a2,by simp[b3],_,A::Fs,v.cells.toList::css,Dv.more k1 k2 Xc,by simp[c1],by simp[c2],fun k cs y G' q1 q2 q3=> ?_,fun pre arr oO hpn ha=> ?_⟩
  ·cases k with
   |zero=>
    simp at q1 q2 q3;subst q1 q2 q3;refine CT (S:=fun b=>E1.S b∨b∈W) ?_ (fun _ _=>rfl) (fun _ _=>rfl) o1'
    intro c hc;exact hc.elim (fun h=> .inl (k2.le.S c h)) .inr
   |succ k=>
    refine CT (S:=E2.S) ?_ (fun _ _=>rfl) (fun _ _=>rfl) (c3 k cs y G' (by simpa using q1) (by simpa using q2) (by simpa using q3))
    intro c hc;exact .inl hc
  ·have hlen:v.cells.toList.length=r.n:=Od o1
   have yI:pre.flatten.length=i*r.n:=by
    clear ha c4
    subst oO;clear e1 e2
    induction pre with
    |nil=>simp
    |cons c pre ih=>simp[hpn c (by simp),ih (fun c hc=>hpn c (by simp[hc])),AHA];omega
   have QV:(DL arr (i*r.n) v.cells.toList).toList=pre.flatten++v.cells.toList++(List.replicate n (DP r)).flatten:=
    SX _ _ _ _ _ yI ⟨DP r,by rw[F8,hlen],by rw[ha];simp[AGg]⟩
   obtain⟨Hy,f1,f2⟩:=c4 (pre++[v.cells.toList]) (DL arr (i*r.n) v.cells.toList) (by simp[oO]) (by
    intro c hc;rcases AEZ.1 hc with hc|hc
    ·exact hpn c hc
    ·simp at hc;subst hc;exact hlen) (by rw[QV];simp)
   refine⟨Hy,?_,by rw[f2];simp⟩;rw[bt (i:=i) (off:=i*r.n) (size:=r.n) rfl (by simpa using hlen) ?_]
   ·exact f1
   ·have h1:arr.size=arr.toList.length:=by simp
    rw[h1,ha,AEM,yI,Cx,F8];simp at hlen;rw[hlen,AHA];omega
 |n+1,i,[],[],E,bx,G,d,rows,J0,d',h,hw,hd,hp,e=>by
  simp only[Ps,AEC,AFH]at e;obtain⟨⟨y2,Qc,d2⟩,e2,rfl,rfl,rfl⟩:=e;obtain⟨b1,b2,b3,E2,Fs,css,k2,c1,c2,c3,c4⟩:=QP hg (G:=G) h hw hd (parts:=[]) (vals:=[]) trivial e2;refine⟨b1,b2,by simp[b3],E2,[]::Fs,DP r::css,by simpa using k2,by simp[c1],by simp[c2],fun k cs y G' q1 q2 q3=> ?_,fun pre arr oO hpn ha=> ?_⟩
  ·cases k with
   |zero=>
    simp at q1 q2 q3;subst q1 q2 q3;exact VQ hg
   |succ k=>exact c3 k cs y G' (by simpa using q1) (by simpa using q2) (by simpa using q3)
  ·obtain⟨Hy,f1,f2⟩:=c4 (pre++[DP r]) arr (by simp[oO]) (by
    intro c hc;rcases AEZ.1 hc with hc|hc
    ·exact hpn c hc
    ·simp at hc;subst hc;exact F8 r) (by rw[ha];simp[AGg])
   exact⟨Hy,f1,by rw[f2];simp⟩
 |0,_,_::_,_,_,_,_,_,_,_,_,_,_,_,_,e=>by simp[Ps]at e
 |0,_,[],_::_,_,_,_,_,_,_,_,_,_,_,hp,_=>hp.elim
 |_+1,_,[],_::_,_,_,_,_,_,_,_,_,_,_,hp,_=>hp.elim
 |_+1,_,_::_,[],_,_,_,_,_,_,_,_,_,_,hp,_=>hp.elim
section
variable{Y:Type} {P:Program} {T:F9} (hT:C2 P T) {o:Oper} {E:Env} {σ:St} {a:Act} {w:World} {k:K Y} {y:Y}
include hT
theorem YH(h:Rel E σ a w){t n:Nat}{ps:Array (Nat×Operand)}(ho:o.op= .buildSlice t n ps)(e:KX T t n (ps.toList.map fun q=>(q.1,σ.ev q.2)) σ k=some y):Gl P o E σ a w k y:=by
 unfold KX at e;split at e
 case h_2=>cases e
 rename_i el hd;split at e
 case h_2=>cases e
 rename_i r hr;split at e
 case isFalse=>cases e
 rename_i hc;simp only[AEF,AEK]at hc;obtain⟨⟨RF,hn⟩,hrn⟩:=hc;simp only[AED]at e;obtain⟨⟨rows,J0,d'⟩,e1,e⟩:=e;dsimp only at e;obtain⟨el',ti,hu,Kq,hs,hby,hrow⟩:=Ix hT RF;obtain⟨i,z,i1,i2,i3,i4,i5,hg⟩:=Th hT Kq hrow;have zM:=Z6 h ps;obtain⟨b1,b2,b3,E',Fs,css,k2,c1,c2,c3,c4⟩:=QP hg h.bx (Cs.refl _) (by omega) zM e1
 let zero:Array Value:=if n*r.n=0 then #[]else z.cells
 have hz:((Array.range (n*r.n)).map (fun j=>zero[j%zero.size]!)).toList=(List.replicate n (DP r)).flatten:=by
  by_cases h0:n*r.n=0
  ·have h1:(List.replicate n (DP r)).flatten=[]:=by
    rw[←AG2,Cx,F8,h0]
   rw[h1];simp[h0]
  ·have SY:DP r≠[]:=by
    intro he;have:=F8 r;rw[he]at this;simp at this;rw[←this]at h0;simp at h0
   have:=Rs i5 n SY;rw[F8]at this;simp only[zero,AEB h0];exact this
 obtain⟨Hy,f1,f2⟩:=c4 [] _ rfl (by simp) (by rw[hz];simp);simp only[AGy,AFa]at f2
 let w':=w.alloc (.cells Hy el')
 have new:w'.heap[w.heap.size]? =some (.cells Hy el'):=by
  show(w.heap.push (.cells Hy el'))[w.heap.size]? =_
  simp
 obtain⟨d,rfl⟩:∃m,d' =m+1:=⟨d'-1,by omega⟩;have hl:∀c∈css,c.length=r.n:=by
  intro c hc;obtain⟨j,hj,rfl⟩:=AFr hc;exact Od (c3 j _ _ _ (AD9 hj) (AD9 (by omega)) (AD9 (by omega)))
 have w9:css.flatten.length=n*r.n:=by
  rw[←c1];clear f2 c3 c4 c1
  induction css with
  |nil=>simp
  |cons c l ih=>simp[hl c (by simp),ih (fun c hc=>hl c (by simp[hc])),AHA];omega
 have vb:Hy.size=n*r.n:=by rw[←AGh,f2,w9]
 obtain⟨Fs0,hB1,OP⟩:=k2.boxes;simp only[AEX]at OP;have how:Ow w' E'.S (d+1) (.sl r) [.slice (some ⟨w.heap.size,0,none⟩) rows.length n] rows (w.heap.size::Fs.flatten):=by
  refine U8 (css:=css) (ex:=[]) new (by simpa using f2) (by omega) (by omega) (by omega) (We _) (by omega) fun k cs y G q1 q2 q3=> ?_
  have RE:∀c∈G,c∈Fs.flatten:=fun c hc=>AE5.2 ⟨G,AEN q3,hc⟩
  exact CT (fun _ h=>h) (fun c hc=>JY (OP.TN c (OP.st c hc))) (fun c hc=>JY (OP.lt c (by simp only[AEZ];exact .inr (RE c hc)))) (by simpa using c3 k cs y G q1 q2 q3)
 rw[b3]at how;obtain⟨r1,r2,r3⟩:=Lq h k2 (w':=w') (d:=d+1) (by omega) how (by
   intro c hc;rcases AEd.1 hc with rfl|hc
   ·exact .inr (AE7 _)
   ·exact .inl hc) (by
   refine AGW.2 ⟨fun hc=> ?_,(AEJ.1 OP.nodup).2.1⟩;have:=OP.lt w.heap.size (by simp only[AEZ];exact .inr hc);omega) (by
   intro c hc;rcases AEd.1 hc with rfl|hc
   ·simp[w']
   ·have:=OP.lt c (by simp only[AEZ];exact .inr hc)
    simp[w'];omega) (fun c hc _=>JY hc) ⟨rfl,rfl,rfl,by simp[w']⟩
 refine⟨_,_,_,_,_,.inl ?_,r1,r3,r2.any,rfl,e⟩;have X5: ¬(n*r.n>2^24):=by
  have:n*r.n≤1024*1024:=Nat.mul_le_mul hn hrn;omega
 simp only[execOp,ho,Instr.buildSlice,Sem.run_bind,Am hu,Result.andThen_ok,sizeOf,typeInfo,run_program,i1,Sem.run_pure,i2,hs,X5,AFJ];by_cases h0:n*r.n=0
 ·have hz0:zero= #[]:=by simp only[zero,AEA h0]
  rw[hz0]at f1;simp only[h0,AGG,Sem.run_bind,Sem.run_pure,Result.andThen_ok];rw[h0]at f1;simp only[f1,newRow,Sem.run_bind,run_newObj,Result.andThen_ok,Sem.run_pure];rfl
 ·have hz0:zero=z.cells:=by simp only[zero,AEB h0]
  rw[hz0]at f1;simp only[h0,AFJ,Sem.run_bind,zeroValue,typeInfo,run_program,Result.andThen_ok,i1,Sem.run_pure,i4];simp only[f1,newRow,Sem.run_bind,run_newObj,Result.andThen_ok,Sem.run_pure];rfl
end
end Go.Fw
end
section
namespace Go.Fw
theorem RS(w:World)(b o:Nat)(v:Value):(w.setCell ⟨b,o,none⟩ v).heap=w.heap.modify b fun
 | .cells c elem frozen=> .cells (c.setIfInBounds o v) elem frozen
 |o=>o:=rfl
theorem GW:∀(vs:List Value) (o:Nat) (w:World) (b:Nat) (arr:Array Value) (ty:TypeId) (fr:ABP),w.heap[b]? =some (.cells arr ty fr)→
  (w.setCells b o vs).heap[b]? =some (.cells (DL arr o vs) ty fr)
 |[],_,_,_,_,_,_,h=>h
 |v::l,o,w,b,arr,ty,fr,h=>by
  simp only[World.setCells,DL];refine GW l (o+1) _ b _ ty fr ?_
  rw[RS,Array.getElem?_modify,AEA rfl,h];rfl
theorem D8:∀(vs:List Value) (o:Nat) (w:World) (b:Nat),(w.setCells b o vs).heap.size=w.heap.size
 |[],_,_,_=>rfl
 |v::l,o,w,b=>by
  simp only[World.setCells];rw[D8 l,RS,Array.size_modify]
theorem Gm:∀(vs:List Value) (o:Nat) (w:World) (b c:Nat),c≠b→(w.setCells b o vs).heap[c]? =w.heap[c]?
 |[],_,_,_,_,_=>rfl
 |v::l,o,w,b,c,h=>by
  simp only[World.setCells];rw[Gm l _ _ _ _ h,RS,Array.getElem?_modify,AEB (fun e=>h e.symm)]
theorem B3:∀(vs:List Value) (o:Nat) (w:World) (b:Nat),Grown w (w.setCells b o vs)
 |[],_,_,_=>⟨rfl,rfl,rfl,AE7 _⟩
 |v::l,o,w,b=>by
  have:=B3 l (o+1) (w.setCell ⟨b,o,none⟩ v) b;refine⟨this.os,this.tape,this.output,?_⟩;rw[D8];exact AE7 _
theorem N9{arr:Array Value}:∀{l:List Value} {o j:Nat},o+l.length≤arr.size→(DL arr o l)[j]? =if o≤j∧j<o+l.length then l[j-o]? else arr[j]?:=by
 intro l
 induction l generalizing arr with
 |nil=>intro o j _;rw[AEB (fun hh=>by simp only[AEc]at hh;omega)];rfl
 |cons c l ih=>
  intro o j h;simp only[AEI]at h;simp only[DL];rw[ih (by simp;omega)];by_cases h1:o+1≤j∧j<o+1+l.length
  ·rw[AEA h1,AEA (by simp;omega)]
   rw[show j-o=(j-(o+1))+1 by omega];simp
  ·rw[AEB h1]
   by_cases h2:o=j
   ·subst h2
    rw[AEA (by simp),Array.getElem?_setIfInBounds_self_of_lt (by omega),AHI];rfl
   ·rw[AEB (fun hh=>by simp only[AEI]at hh;omega),Array.getElem?_setIfInBounds_ne h2]
theorem Hs{w:World}{b o:Nat}{arr:Array Value}{ty:TypeId}{fr:ABP}(h:w.heap[b]? =some (.cells arr ty fr)):w.cell? ⟨b,o,none⟩=arr[o]?:=by
 simp[World.cell?,h]
theorem Mv{w:World}{b o:Nat}{vs:List Value}{arr:Array Value}{ty:TypeId}{fr:ABP}(h:w.heap[b]? =some (.cells arr ty fr))(hs:o+vs.length≤arr.size):Bb (w.setCells b o vs) b o vs:=by
 intro j v hj;have hl:=(AD7.1 hj).1;rw[Hs (GW vs o w b arr ty fr h),N9 hs,AEA (by omega),show o+j-o=j by omega,hj]
theorem UN{w:World}{b b' o o':Nat}{vs cs:List Value}{arr:Array Value}{ty:TypeId}{fr:ABP}(hc:Bb w b' o' cs)(h:w.heap[b]? =some (.cells arr ty fr))(hs:o+vs.length≤arr.size)
  (ha:b'≠b∨o'+cs.length≤o∨o+vs.length≤o'):Bb (w.setCells b o vs) b' o' cs:=by
 intro j v hj;have hl:=(AD7.1 hj).1;by_cases hb:b' =b
 ·subst hb
  have:=hc j v hj;rw[Hs h]at this;rw[Hs (GW vs o w b' arr ty fr h),N9 hs,AEB (by omega),this]
 ·rw[World.cell?_of_block (a:=⟨b',o'+j,none⟩) (Gm vs o w b b' hb)]
  exact hc j v hj
theorem V8{w:World}{b o n k:Nat}{arr:Array Value}{ty:TypeId}{fr:ABP}(h:w.heap[b]? =some (.cells arr ty fr))(hs:o+n≤arr.size)(hu:iF fr (arr.size+k)):w.there b o n:=by
 intro j hj;refine⟨?_,?_⟩
 ·rw[Hs h]
  simp;omega
 ·have:=hu (o+j) (by omega)
  obtain⟨lo,hi⟩:=fr;simp only[World.frozen?,h];simp at this⊢;omega
theorem ZX{w:World}{S:Nat→Prop}:∀{r:Ty} {d:Nat} {cs:List Value} {y:r.D} {F:ABC},Ow w S d r cs y F→ ∀v∈cs,v.oneCell' =true
 | .int _,_,_,_,_,h,v,hv=>by simp only[Ow]at h;rw[h.1]at hv;simp at hv;subst hv;rfl
 | .bool,_,_,_,_,h,v,hv=>by simp only[Ow]at h;rw[h.1]at hv;simp at hv;subst hv;rfl
 | .str,_,_,_,_,h,v,hv=>by simp only[Ow]at h;rw[h.1]at hv;simp at hv;subst hv;rfl
 | .unit,_,_,_,_,h,v,hv=>by simp only[Ow]at h;rw[h.1]at hv;simp at hv
 | .sl _,0,_,_,_,h,v,hv=>by
  simp only[Ow,Rd]at h;obtain⟨⟨_,_,rfl,_⟩,_⟩:=h;simp at hv;subst hv;rfl
 | .sl _,_+1,_,_,_,h,v,hv=>by
  simp only[Ow]at h;obtain⟨_,_,rfl,_⟩:=h;simp at hv;subst hv;rfl
 | .cons _ _,_,_,_,_,h,v,hv=>by
  simp only[Ow]at h;obtain⟨u,l,F1,F2,rfl,_,h1,h2⟩:=h;rcases AEd.1 hv with rfl|hv
  ·exact ZX h1 _ (by simp)
  ·exact ZX h2 _ hv
section
variable{P:Program} {w:World}
structure bV (P:Program) (w:World) (size n:Nat) (x:Value) (news:List Value):Prop where
 len:∀w',(Builtin.lenOf x).run P w' = .ok n w'
 cells:∀w',w'.heap=w.heap→(Builtin.firstCells size n x).run P w' = .ok news.toArray w'
theorem bU{ts:Array TypeId}{t u ty e:TypeId}(da:ts[0]? =some t)(eY:ts[1]? =some u){i:TypeInfo}{size:Nat}(ht:P.underlying t=some (.slice e))(hu:(∃e,P.underlying u=some (.slice e))∨P.underlying u=some .string)(hi:P.info? e=some i)(He:i.size=size)
  {b o QS ZI n:Nat} {x:Value} {news:List Value} (hn:bV P w size n x news) (cU:QS+n≤ZI) (hth:w.there b (o+QS*size) news.length) (h1:∀v∈news,v.oneCell' =true):
  (Builtin.append_ ts ty #[.slice (some ⟨b,o,none⟩) QS ZI,x]).run P w= .ok (.slice (some ⟨b,o,none⟩) (QS+n) ZI) (w.setCells b (o+QS*size) news):=by
 subst He;have iL:=run_storeCells_cells (P:=P) b (o+QS*i.size) news 0 w (fun j hj=>by simpa using(hth j hj).1) (fun j hj=>by simpa using(hth j hj).2) h1;simp only[AGS]at iL;have hl:=hn.len w;have hf:=hn.cells w rfl;rcases hu with⟨e',hu⟩|hu
 ·simp[Builtin.append_,da,eY,run_underlying ht,run_underlying hu,sizeOf,typeInfo,hi,hl,cU,hf,Addr.add_eq,iL]
 ·simp[Builtin.append_,da,eY,run_underlying ht,run_underlying hu,sizeOf,typeInfo,hi,hl,cU,hf,Addr.add_eq,iL]
theorem Xs{ts:Array TypeId}{t u ty e:TypeId}(da:ts[0]? =some t)(eY:ts[1]? =some u){i:TypeInfo}{size:Nat}(ht:P.underlying t=some (.slice e))(hu:(∃e,P.underlying u=some (.slice e))∨P.underlying u=some .string)(hi:P.info? e=some i)(He:i.size=size)
  {a:Option Addr} {x:Value} (hn:bV P w size 0 x []):
  (Builtin.append_ ts ty #[.slice a 0 0,x]).run P w= .ok (.slice a 0 0) w:=by
 subst He;have hl:=hn.len w;have hf:=hn.cells w rfl;cases a with
 |none=>
  rcases hu with⟨e',hu⟩|hu
  ·simp[Builtin.append_,da,eY,run_underlying ht,run_underlying hu,sizeOf,typeInfo,hi,hl,hf]
  ·simp[Builtin.append_,da,eY,run_underlying ht,run_underlying hu,sizeOf,typeInfo,hi,hl,hf]
 |some a=>
  have iL:(storeCells (a.add (0*i.size)) [] 0).run P w= .ok () w:=rfl;rcases hu with⟨e',hu⟩|hu
  ·simp[Builtin.append_,da,eY,run_underlying ht,run_underlying hu,sizeOf,typeInfo,hi,hl,hf,storeCells]
  ·simp[Builtin.append_,da,eY,run_underlying ht,run_underlying hu,sizeOf,typeInfo,hi,hl,hf,storeCells]
theorem X4{ts:Array TypeId}{t u ty e:TypeId}(da:ts[0]? =some t)(eY:ts[1]? =some u){i:TypeInfo}{z:Value}{size:Nat}(ht:P.underlying t=some (.slice e))(hu:(∃e,P.underlying u=some (.slice e))∨P.underlying u=some .string)(hi:P.info? e=some i)(hz:i.zero=some z)(He:i.size=size)
  {a:Option Addr} {QS ZI n:Nat} {x:Value} {ACF news:List Value} (ho:∀w',w'.heap=w.heap→(Builtin.firstCells size QS (.slice a QS ZI)).run P w' = .ok ACF.toArray w')
  (hn:bV P w size n x news) (AC2:ZI<QS+n) (h63:QS+n≤Cg) (hby:i.bytes≤512):
  (Builtin.append_ ts ty #[.slice a QS ZI,x]).run P w= .ok (.slice (some ⟨w.heap.size,0,none⟩) (QS+n) (grownCap w (QS+n) ZI e))
   (w.drew.alloc (.cells (ACF.toArray++news.toArray++Builtin.zeroCells z.cells (grownCap w (QS+n) ZI e-(QS+n))) e)):=by
 subst He;have hl:=hn.len w;have hf:=hn.cells w.drew rfl;have hfo:=ho w.drew rfl;have hno: ¬(QS+n≤ZI):=by omega
 have hb:(QS+n)*i.bytes≤140737488355328:=by
  have:(QS+n)*i.bytes≤Cg*512:=Nat.mul_le_mul h63 hby;simp only[Cg]at this;omega
 have h48:=growslice_fits AC2 hb;have ADr: ¬(281474976710656<Builtin.nextslicecap (QS+n) ZI*i.bytes):=by omega
 have ACk: ¬(9223372036854775807<((QS:Int)+(n:Int))):=by simp only[Cg]at h63;omega
 rcases hu with⟨e',hu⟩|hu
 ·simp[Builtin.append_,da,eY,run_underlying ht,run_underlying hu,sizeOf,typeInfo,zeroValue,hi,hz,hl,hno,ACk,ADr,Question.forced,hf,hfo,newRow,grownCap]
  congr 2
  apply AHN;simp[AEE]
 ·simp[Builtin.append_,da,eY,run_underlying ht,run_underlying hu,sizeOf,typeInfo,zeroValue,hi,hz,hl,hno,ACk,ADr,Question.forced,hf,hfo,newRow,grownCap]
  congr 2
  apply AHN;simp[AEE]
end
end Go.Fw
end
section
namespace Go.Fw
def DC(w:World)(S:Nat→Prop)(d:Nat)(r:Ty)(css:List (List Value))(rows:List r.D)(Fs:List ABC):Prop:=
 css.length=rows.length∧Fs.length=rows.length∧(∀c∈css,c.length=r.n)∧ ∀(i:Nat) cs y G,css[i]? =some cs→rows[i]? =some y→Fs[i]? =some G→Ow w S d r cs y G
theorem DC.mono{w w':World}{S S':Nat→Prop}{d:Nat}{r:Ty}{css:List (List Value)}{rows:List r.D}{Fs:List ABC}(h:DC w S d r css rows Fs)(hS:∀c,S c→S' c)(hw:∀c,S c→w'.heap[c]? =w.heap[c]?)
  (hF:∀c∈Fs.flatten,w'.heap[c]? =w.heap[c]?):DC w' S' d r css rows Fs:=
 ⟨h.1,h.2.1,h.2.2.1,fun i cs y G a b c=>CT hS hw (fun x hx=>hF x (AE5.2 ⟨G,AEN c,hx⟩)) (h.2.2.2 i cs y G a b c)⟩
theorem DC.append{w:World}{S:Nat→Prop}{d:Nat}{r:Ty}{css AC6:List (List Value)}{rows rows':List r.D}{Fs Fs':List ABC}(h:DC w S d r css rows Fs)(k:DC w S d r AC6 rows' Fs'):
  DC w S d r (css++AC6) (rows++rows') (Fs++Fs'):=by
 refine⟨by simp[h.1,k.1],by simp[h.2.1,k.2.1],fun c hc=>(AEZ.1 hc).elim (h.2.2.1 c) (k.2.2.1 c),fun i cs y G a b c=> ?_⟩;by_cases hi:i<rows.length
 ·rw[AEG (by rw[h.1];exact hi)]at a
  rw[AEG hi]at b;rw[AEG (by rw[h.2.1];exact hi)]at c;exact h.2.2.2 i cs y G a b c
 ·rw[AES (by rw[h.1];omega)]at a
  rw[AES (by omega)]at b;rw[AES (by rw[h.2.1];omega)]at c;rw[h.1]at a;rw[h.2.1]at c;exact k.2.2.2 _ cs y G a b c
theorem DC.weaken{w:World}{S:Nat→Prop}{d d':Nat}{r:Ty}{css:List (List Value)}{rows:List r.D}{Fs:List ABC}(h:DC w S d r css rows Fs)(hd:d'≤d):
  ∃(Gs:List ABC) (W:ABC),Fs.flatten.Perm (Gs.flatten++W)∧DC w (fun c=>S c∨c∈W) d' r css rows Gs:=by
 obtain⟨Gs,Ws,h1,h2,h3,h4⟩:=Zn (R:=fun i G F W=> ∀cs y,css[i]? =some cs→rows[i]? =some y→Ow w (fun c=>S c∨c∈W) d' r cs y F) Fs 0 (fun i G hG=>by
  rw[AGB];have hi:=(AD7.1 hG).1;have h1:=h.1;have h2:=h.2.1;obtain⟨F,W,hp,ho⟩:=Fv hd (h.2.2.2 i _ _ G (AD9 (by omega)) (AD9 (by omega)) hG);refine⟨F,W,hp,fun cs y a b=> ?_⟩;rw[AD9 (by omega)]at a b;cases a;cases b;exact ho)
 refine⟨Gs,Ws.flatten,h3,h.1,h1.trans h.2.1,h.2.2.1,fun i cs y G a b c=> ?_⟩;have hi:=(AD7.1 c).1;have hw:Ws[i]? =some (Ws[i]'(by omega)):=AD9 _;have hf:Fs[i]? =some (Fs[i]'(by omega)):=AD9 _;have:=h4 i _ _ _ hf c hw cs y (by rw[AGB];exact a) (by rw[AGB];exact b);exact CT (fun x hx=>hx.imp id fun hx=>AE5.2 ⟨_,AEN hw,hx⟩) (fun _ _=>rfl) (fun _ _=>rfl) this
theorem Pc{n:Nat}:∀{css:List (List Value)},(∀c∈css,c.length=n)→css.flatten.length=css.length*n
 |[],_=>by simp
 |c::l,h=>by simp[h c (by simp),Pc (css:=l) (fun c hc=>h c (by simp[hc])),AHA];omega
theorem DC.one{w:World}{S:Nat→Prop}{d:Nat}{r:Ty}{css:List (List Value)}{rows:List r.D}{Fs:List ABC}(h:DC w S d r css rows Fs):∀v∈css.flatten,v.oneCell' =true:=by
 intro v hv;obtain⟨c,hc,hv⟩:=AE5.1 hv;obtain⟨i,hi,rfl⟩:=AFr hc;have h1:=h.1;have h2:=h.2.1;exact ZX (h.2.2.2 i _ _ _ (AD9 hi) (AD9 (by omega)) (AD9 (by omega))) v hv
theorem DC.flat{w:World}{B S:Nat→Prop}{d:Nat}{r:Ty}(hf:r.flat=true){css:List (List Value)}{rows:List r.D}(h1:css.length=rows.length)(h2:∀c∈css,c.length=r.n)
  (h3:∀(i:Nat) cs y,css[i]? =some cs→rows[i]? =some y→Rd w B r cs y):DC w S d r css rows (List.replicate rows.length []):=by
 refine⟨h1,by simp,h2,fun i cs y G a b c=> ?_⟩;have:G=[]:=AFy (AEN c);subst this;exact V3 hf (h3 i cs y a b)
theorem Bb.heap{w w':World}{b o:Nat}{cs:List Value}(h:Bb w b o cs)(e:w'.heap=w.heap):Bb w' b o cs:=h.of_block (by rw[e])
theorem Lo{P:Program}{w:World}{a:Option Addr}{n cap size:Nat}{css:List (List Value)}(hl:css.length=n)(hc:∀c∈css,c.length=size)
  (h:n=0∨ ∃b o,a=some ⟨b,o,none⟩∧Bb w b o css.flatten):bV P w size n (.slice a n cap) css.flatten:=by
 refine⟨fun w' =>rfl,fun w' e=> ?_⟩;have hlen:css.flatten.length=n*size:=by rw[Pc hc,hl]
 rcases h with rfl|⟨b,o,rfl,h⟩
 ·have:css=[]:=AEg hl
  subst this;cases a with
  |none=>rfl
  |some a=>
   simp only[Builtin.firstCells,Nat.zero_mul,AGy];exact Oo a
 ·simp only[Builtin.firstCells]
  rw[←hlen];exact XD (h.heap e)
theorem mS{P:Program}{w:World}{s:AAh}:bV P w 1 s.length (.string ⟨s.toArray⟩) (s.map fun c=>[Value.int .u8 (c.toNat:Int)]).flatten:=by
 refine⟨fun w' =>rfl,fun w' _=> ?_⟩;have He:(⟨s.toArray⟩:ByteArray).size=s.length:=by simp[ByteArray.size]
 have e1:(⟨s.toArray⟩:ByteArray).extract 0 s.length=⟨s.toArray⟩:=by
  rw[←He];apply ByteArray.ext;simp
 simp only[Builtin.firstCells,e1,Sem.run_pure];have:(s.map fun c=>[Value.int .u8 (c.toNat:Int)]).flatten=s.map fun c=>Value.int .u8 (c.toNat:Int):=by
  have:=OV (l:=s.map fun c=>Value.int .u8 (c.toNat:Int));simpa[AGp,Function.comp_def]using this
 rw[this];simp
theorem jk{w:World}{S:Nat→Prop}{d:Nat}{r:Ty}{v:Value}{rows:List r.D}{F:ABC}(h:Ow w S (d+1) (.sl r) [v] rows F):
  ∃a cap css Fs R,v= .slice a rows.length cap∧rows.length≤cap∧DC w S d r css rows Fs∧F.Perm (Fs.flatten++R)∧
   ((cap=0∧F=[])∨ ∃b o arr ty fr,a=some ⟨b,o,none⟩∧w.heap[b]? =some (.cells arr ty fr)∧o+cap*r.n≤arr.size∧iF fr (arr.size+mk r)∧F=b::Fs.flatten∧Bb w b o css.flatten):=by
 simp only[Ow]at h;obtain⟨a,cap,e,hle,h⟩:=h;simp only[AEk,AFR]at e;subst e;rcases h with⟨h,rfl⟩|⟨b,o,arr,ty,fr,Fs,rfl,hb,He,hu,rfl,hFl,hr⟩
 ·have:rows=[]:=AEg (by omega)
  subst this;exact⟨a,cap,[],[],[],rfl,hle,⟨rfl,rfl,by simp,fun i cs y G h=>by simp at h⟩,by simp,.inl ⟨h,rfl⟩⟩
 ·
  have key:∀(n o:Nat) (ys:List r.D) (Fs:List ABC),ys.length=n→Fs.length=n→(∀(i:Nat) (y:r.D) (G:ABC),ys[i]? =some y→Fs[i]? =some G→ ∃cs,cs.length=r.n∧Bb w b (o+i*r.n) cs∧Ow w S d r cs y G)→
    ∃css,DC w S d r css ys Fs∧Bb w b o css.flatten:=by
   intro n
   induction n with
   |zero=>
    intro o ys Fs h1 h2 _;obtain rfl:=AEg h1;obtain rfl:=AEg h2;exact⟨[],⟨rfl,rfl,by simp,fun i cs y G h=>by simp at h⟩,fun _ _ h=>by simp at h⟩
   |succ n ih=>
    intro o ys Fs h1 h2 hh;obtain⟨y,ys,rfl⟩:=AGx h1;obtain⟨G,Fs,rfl⟩:=AGx h2;obtain⟨cs,c1,c2,c3⟩:=hh 0 y G rfl rfl;obtain⟨css,d1,d2⟩:=ih (o+r.n) ys Fs (by simpa using h1) (by simpa using h2) (fun i z G hz hG=>by
     obtain⟨cs,e1,e2,e3⟩:=hh (i+1) z G (by simpa using hz) (by simpa using hG);refine⟨cs,e1,?_,e3⟩;rw[AGI,AG4]at e2
     rwa [show o+r.n+i*r.n=o+(i*r.n+r.n)by omega])
    refine⟨cs::css,⟨by simp[d1.1],by simp[d1.2.1],fun c hc=> ?_,fun i SW y' G' a b c=> ?_⟩,?_⟩
    ·rcases AEd.1 hc with rfl|hc
     ·exact c1
     ·exact d1.2.2.1 c hc
    ·cases i with
     |zero=>simp at a b c;subst a b c;exact c3
     |succ i=>exact d1.2.2.2 i SW y' G' (by simpa using a) (by simpa using b) (by simpa using c)
    ·rw[AFO]
     refine Bb.append (by simpa using c2) ?_
     rw[c1];exact d2
  obtain⟨css,k1,k2⟩:=key rows.length o rows Fs rfl hFl hr;refine⟨_,cap,css,Fs,[b],rfl,hle,k1,?_,.inr ⟨b,o,arr,ty,fr,rfl,hb,He,hu,rfl,k2⟩⟩;exact(AE4 (l₁:=[b]) (l₂:=Fs.flatten))
theorem Wu{w:World}{S:Nat→Prop}:∀{r:Ty} {cs:List Value} {x:r.D},Rd w S r cs x→Ow w S 0 r cs x []
 | .cons c r,cs,x,hr=>by
  simp only[Rd]at hr;obtain⟨v,l,rfl,h1,h2⟩:=hr;simp only[Ow];exact⟨v,l,[],[],rfl,rfl,Wu h1,Wu h2⟩
 | .unit,_,_,hr=>by simp only[Rd]at hr;simp[Ow,hr]
 | .int k,_,_,hr=>by simp only[Rd]at hr;simp[Ow,hr]
 | .bool,_,_,hr=>by simp only[Rd]at hr;simp[Ow,hr]
 | .str,_,_,hr=>by simp only[Rd]at hr;simp[Ow,hr]
 | .sl q,_,_,hr=>by simp only[Ow];exact⟨hr,trivial⟩
theorem UL{P:Program}{E:Env}{w:World}{vw bx:List Bx}{G:ABC}(h:Bm E w vw bx G)(hw:Cs bx vw){x:AV}{v:Value}(hv:VR E w vw x v){r:Ty}{rows:List r.D}{J0:List Bx}{d:Nat}
  (e:Yi bx x=some ⟨r,rows,J0,d⟩):1≤d∧ ∃E' F css Fs R,Dv E w vw bx G E' J0 F∧F.Perm (List.flatten Fs++R)∧DC w E'.S (d-1) r css rows Fs∧bV P w r.n rows.length v css.flatten:=by
 have plain:∀{B:Nat→Prop} {ys:List r.D},r.flat=true→Rd w B (.sl r) [v] ys→ ∀S:Nat→Prop,∃css,DC w S 8 r css ys (List.replicate ys.length [])∧bV P w r.n ys.length v css.flatten:=by
  intro B ys hf hr S;simp only[Rd]at hr;obtain⟨a,cap,e1,hle,hr⟩:=hr;simp only[AEk,AFR]at e1;subst e1;rcases hr with hr|⟨b,o,rfl,_,hr⟩
  ·have:ys=[]:=AEg hr
   subst this;exact⟨[],⟨rfl,rfl,by simp,fun i cs y G h=>by simp at h⟩,Lo (css:=[]) rfl (by simp) (.inl rfl)⟩
  ·obtain⟨css,c1,c2,c3,c4⟩:=gK hr
   exact⟨css,DC.flat hf c1 c2 c4,Lo c1 c2 (.inr ⟨b,o,rfl,c3⟩)⟩
 have done:∀{B:Nat→Prop} {ys:List r.D},r.flat=true→Rd w B (.sl r) [v] ys→rows=ys→J0=bx→d=9→
   1≤d∧ ∃E' F css Fs R,Dv E w vw bx G E' J0 F∧F.Perm (List.flatten Fs++R)∧DC w E'.S (d-1) r css rows Fs∧bV P w r.n rows.length v css.flatten:=by
  intro B ys hf hr e1 e2 e3;subst e1 e2 e3;obtain⟨css,k1,k2⟩:=plain hf hr E.S;exact⟨by omega,E,[],css,_,[],Dv.refl h,by simp,k1,k2⟩
 unfold Yi at e;split at e
 ·rename_i s
  simp only[AD_,AEP]at e;obtain⟨rfl,e⟩:=e;have e:=AE9 e;simp only[AFH]at e;obtain⟨rfl,rfl,rfl⟩:=e;have SF:=PM hv;subst SF;refine⟨by omega,E,[],s.map fun c=>[Value.int .u8 (c.toNat:Int)],_,[],Dv.refl h,?_,DC.flat (B:=fun _=>False) rfl (by simp) (by simp[Ty.n]) (fun i cs y a b=> ?_),?_⟩
  ·simp
  ·simp only[AFG,AEC]at a b
   obtain⟨c1,z1,rfl⟩:=a;obtain⟨c2,z2,rfl⟩:=b;rw[z1]at z2;cases z2;simp[Rd]
  ·have:=mS (P:=P) (w:=w) (s:=s)
   simpa[Ty.n]using this
 ·rename_i s q ys
  split at e
  ·rename_i hf
   simp only[AD_,AEP]at e;obtain⟨rfl,e⟩:=e;have e:=AE9 e;simp only[AFH]at e;obtain⟨rfl,rfl,rfl⟩:=e;exact done hf hv rfl rfl rfl
  ·split at e
   case isFalse=>cases e
   rename_i hs;simp only[AD_,AEP]at e;obtain⟨rfl,e⟩:=e;have e:=AE9 e;simp only[AFH]at e;obtain⟨rfl,rfl,rfl⟩:=e;subst hs;simp only[VR,AGG]at hv;simp only[Rd]at hv;obtain⟨a,cap,e1,hle,hr⟩:=hv;simp only[AEk,AFR]at e1;subst e1;have key:∃css:List (List Value),List.length css=ys.length∧(∀c∈css,c.length=q.n)∧(∀(i:Nat) cs y,css[i]? =some cs→ys[i]? =some y→Rd w E.S q cs y)∧bV P w q.n ys.length (.slice a ys.length cap) css.flatten:=by
    rcases hr with hr|⟨b,o,rfl,_,hr⟩
    ·have:ys=[]:=AEg hr
     subst this;exact⟨[],rfl,by simp,fun i cs y h=>by simp at h,Lo (css:=[]) rfl (by simp) (.inl rfl)⟩
    ·obtain⟨css,c1,c2,c3,c4⟩:=gK hr
     exact⟨css,c1,c2,c4,Lo c1 c2 (.inr ⟨b,o,rfl,c3⟩)⟩
   obtain⟨css,c1,c2,c3,c4⟩:=key;refine⟨AE7 _,E,[],css,List.replicate ys.length [],[],Dv.refl h,by simp,⟨c1,by simp,c2,fun i cs y G a b c=> ?_⟩,c4⟩;have:G=[]:=AFy (AEN c);subst this;exact Wu (c3 i cs y a b)
 ·rename_i b
  split at e
  case h_2=>cases e
  rename_i d0 q ys hb;split at e
  ·rename_i hf
   simp only[AD_,AEP]at e;obtain⟨rfl,e⟩:=e;have e:=AE9 e;simp only[AFH]at e;obtain⟨rfl,rfl,rfl⟩:=e;obtain⟨Fs,hB,hS⟩:=h;exact done hf (Qi hw hB hS.st hv (q:=q) (ys:=ys) (by simp[Hv,hb,Dl])) rfl rfl rfl
  ·simp only[AD_,AEP]at e
   obtain⟨rfl,e⟩:=e;have e:=AE9 e;simp only[AFH]at e;obtain⟨rfl,rfl,rfl⟩:=e;obtain⟨F,⟨hd,ho⟩,hB⟩:=h.take hb;have hvw:=P9 hw hb;simp only[VR,hvw,Bi,AD_]at hv;obtain⟨_,_,_,rfl⟩:=hv;obtain⟨m,rfl⟩:∃m,d0=m+1:=⟨d0-1,by omega⟩;obtain⟨a,cap,css,Fs,R,e1,hle,Qm,hp,hcase⟩:=jk ho;refine⟨hd,E,F,css,Fs,R,⟨Le.refl _,by simp,fun n B hn=> ?_,hB⟩,hp,Qm,?_⟩
   ·rw[AGN]at hn
    split at hn
    ·split at hn
     ·exact .inl (by simpa using hn.symm)
     ·cases hn
    ·exact .inr hn
   ·rw[e1]
    refine Lo Qm.1 Qm.2.2.1 ?_
    rcases hcase with⟨h0,_⟩|⟨b,o,arr,ty,fr,rfl,_,_,_,_,hc⟩
    ·exact .inl (by omega)
    ·exact .inr ⟨b,o,rfl,hc⟩
 ·rename_i b p _
  split at e
  case h_2=>cases e
  rename_i d0 q ys hb;simp only[AED]at e;obtain⟨⟨q',zs⟩,e1,e⟩:=e;dsimp only at e;split at e
  case isFalse=>cases e
  rename_i hf;simp only[AD_,AEP]at e;obtain⟨rfl,e⟩:=e;have e:=AE9 e;simp only[AFH]at e;obtain⟨rfl,rfl,rfl⟩:=e;obtain⟨Fs,hB,hS⟩:=h;exact done hf (Qi hw hB hS.st hv (q:=q') (ys:=zs) (by simp[Hv,hb,e1])) rfl rfl rfl
 ·rename_i b p off n
  split at e
  case h_2=>cases e
  rename_i d0 q ys hb;simp only[AED]at e;obtain⟨⟨q',zs⟩,e1,e⟩:=e;dsimp only at e;split at e
  case isFalse=>cases e
  rename_i hf;simp only[AD_,AEP]at e;obtain⟨rfl,e⟩:=e;have e:=AE9 e;simp only[AFH]at e;obtain⟨rfl,rfl,rfl⟩:=e;obtain⟨Fs,hB,hS⟩:=h;exact done hf (Qi hw hB hS.st hv (q:=q') (ys:=(zs.drop off).take n) (by simp[Hv,hb,e1])) rfl rfl rfl
 ·cases e
theorem UP{E:Env}{w:World}{vw bx:List Bx}{G:ABC}(h:Bm E w vw bx G)(hw:Cs bx vw){x:AV}{v:Value}(hv:VR E w vw x v){r:Ty}{rows:List r.D}{J0:List Bx}{d:Nat}
  (e:Yl bx x=some ⟨r,rows,J0,d⟩):1≤d∧ ∃F1 F2,Dv E w vw bx G E J0 (F1++F2)∧Ow w E.S d (.sl r) [v] rows F1:=by
 have tk:∀{b d0:Nat} {q:Ty} {ys:List q.D},bx[b]? =some (.sl d0 q ys)→ ∃F,1≤d0∧Ow w E.S d0 (.sl q) [E.Ei b] ys F∧Dv E w vw bx G E (bx.set b .dead) F:=by
  intro b d0 q ys hb;obtain⟨F,⟨hd,ho⟩,hB⟩:=h.take hb;refine⟨F,hd,ho,⟨Le.refl _,by simp,fun n B hn=> ?_,hB⟩⟩;rw[AGN]at hn;split at hn
  ·split at hn
   ·exact .inl (by simpa using hn.symm)
   ·cases hn
  ·exact .inr hn
 unfold Yl at e;split at e
 ·rename_i b
  split at e
  case h_2=>cases e
  rename_i d0 q ys hb;simp only[AD_,AEP]at e;obtain⟨rfl,e⟩:=e;have e:=AE9 e;simp only[AFH]at e;obtain⟨rfl,rfl,rfl⟩:=e;obtain⟨F,hd,ho,hT⟩:=tk hb;have hvw:=P9 hw hb;simp only[VR,hvw,Bi,AD_]at hv;obtain⟨_,_,_,rfl⟩:=hv;exact⟨hd,F,[],by simpa using hT,ho⟩
 ·rename_i b off n
  split at e
  case h_2=>cases e
  rename_i d0 q ys hb;simp only[AD_,AEP]at e;obtain⟨rfl,e⟩:=e;have e:=AE9 e;simp only[AFH]at e;obtain⟨rfl,rfl,rfl⟩:=e;obtain⟨F,hd,ho,hT⟩:=tk hb;have hvw:=P9 hw hb;simp only[VR,hvw,Bi,AD_]at hv;obtain⟨_,_,q',zs,a,len,cap,h1,h2,h3,rfl⟩:=hv;simp only[Dl,AD_,AEP]at h1;obtain⟨rfl,h1⟩:=h1;obtain rfl:=AE9 h1;rw[h3]at ho;obtain⟨m,rfl⟩:∃m,d0=m+1:=⟨d0-1,by omega⟩;obtain⟨F1,F2,hp,hY⟩:=mq ho h2;exact⟨hd,F1,F2,⟨hT.le,hT.len,hT.within,hT.boxes.perm (AEW _ hp)⟩,hY⟩
 ·cases e
end Go.Fw
end
section
namespace Go.Fw
theorem a_{P:Program}{w:World}{a:Option Addr}{n cap size:Nat}{css:List (List Value)}(hl:css.length=n)(hc:∀c∈css,c.length=size)
  (h:n=0∨ ∃b o,a=some ⟨b,o,none⟩∧Bb w b o css.flatten):∀w',w'.heap=w.heap→(Builtin.firstCells size n (.slice a n cap)).run P w' = .ok css.flatten.toArray w':=
 (Lo (P:=P) (cap:=cap) hl hc h).cells
theorem aw{z:Array Value}{n:Nat}:(Builtin.zeroCells z n).size=n*z.size:=size_zeroCells z n
section
variable{Y:Type} {P:Program} {T:F9} (hT:C2 P T) {o:Oper} {E:Env} {σ:St} {a:Act} {w:World} {k:K Y} {y:Y}
include hT
theorem Xi(h:Rel E σ a w){E2:Env}{Qc:List Bx}{F Fd R:ABC}{t u ty:TypeId}{ts:Array TypeId}(da:ts[0]? =some t)(eY:ts[1]? =some u)
  (hu:(∃e,P.underlying u=some (.slice e))∨P.underlying u=some .string) {m:Nat} {r:Ty} (RF:T.Lc t r=true)
  (kT:Dv E w σ.bx σ.bx [] E2 Qc F) {v1 v2:Value} {drows Kx:List r.D} {css:List (List Value)} {Fs:List ABC}
  (ho:Ow w E2.S (m+1) (.sl r) [v1] drows Fd) (hs:DC w E2.S m r css Kx Fs) (hn:bV P w r.n Kx.length v2 css.flatten) (hp:F.Perm (Fd++Fs.flatten++R)) (X5:drows.length+Kx.length≤Cg):
  ∃v w' E',(Builtin.append_ ts ty #[v1,v2]).run P w= .ok v w'∧Rel E' { σ with bx:=Qc++[.sl (m+1) r (drows++Kx)] } a w'∧Ka [] E σ.bx w E' (Qc++[.sl (m+1) r (drows++Kx)]) w'∧
   XR E' w' (Qc++[.sl (m+1) r (drows++Kx)]) (.c (.ref Qc.length [])) v:=by
 obtain⟨e,ti,hut,Kq,xR,hby,hrow⟩:=Ix hT RF;obtain⟨i,z,i1,i2,i3,i4,i5,hg⟩:=Th hT Kq hrow;rw[xR]at i2;obtain⟨Fs0,hB1,OP⟩:=kT.boxes;simp only[AEX]at OP;have yF:∀c∈Fd,c∈F:=fun c hc=>hp.mem_iff.2 (by simp[hc])
 have hsF:∀c∈Fs.flatten,c∈F:=fun c hc=>hp.mem_iff.2 (by simp only[AEZ];exact .inl (.inr hc))
 have ndF:=(AEJ.1 (hp.nodup_iff.1 (AEJ.1 OP.nodup).2.1)).1;have ltF:∀c∈F,c<w.heap.size:=fun c hc=>OP.lt c (by simp only[AEZ];exact .inr hc)
 have ADi:∀c∈F,¬E2.S c:=fun c hc hS=>OP.free c (by simp only[AEZ];exact .inr hc) (OP.st c hS)
 have ho0:=ho;obtain⟨ad,cap,dcss,Fs1,R1,rfl,hle,hd,hp1,hcase⟩:=jk ho;have cT:css.flatten.length=Kx.length*r.n:=by rw[Pc hs.2.2.1,hs.1]
 have hdl:dcss.flatten.length=drows.length*r.n:=by rw[Pc hd.2.2.1,hd.1]
 by_cases cU:drows.length+Kx.length≤cap
 ·rcases hcase with⟨h0,hF0⟩|⟨b,of,arr,ty0,fr,rfl,hb,He,hunf,rfl,hc⟩
  ·
   have hd0:drows=[]:=AEg (by omega);have hs0:Kx=[]:=AEg (by omega);subst hd0 hs0;have lU:css=[]:=AEg hs.1;subst lU h0;have ar:=Xs (P:=P) (w:=w) (ty:=ty) da eY hut hu i1 i2 (a:=ad) (x:=v2) (by simpa using hn);obtain⟨r1,r2,r3⟩:=Lq h kT (w':=w) (d:=m+1) (by omega) ho0 (fun c hc=> .inl (yF c hc)) (AEJ.1 ndF).1 (fun c hc=>ltF c (yF c hc)) (fun _ _ _=>rfl) ⟨rfl,rfl,rfl,AE7 _⟩;exact⟨_,_,_,ar,r1,r2,r3⟩
  ·
   have Qj:of+drows.length*r.n+css.flatten.length≤arr.size:=by
    have:(drows.length+Kx.length)*r.n≤cap*r.n:=AFQ _ cU;rw[AGI]at this;omega
   have ar:=bU (P:=P) (w:=w) (ty:=ty) da eY hut hu i1 i2 (b:=b) (o:=of) hn cU (V8 hb Qj hunf) hs.one;have hbF:b∈F:=yF b (by simp);have SY:∀c,c∈Fs1.flatten∨c∈Fs.flatten∨E2.S c→c≠b:=by
    intro c cq e;subst e;rcases cq with cq|cq|cq
    ·exact(AGW.1 (AEJ.1 ndF).1).1 cq
    ·exact(AEJ.1 ndF).2.2 c (by simp) c cq rfl
    ·exact ADi c hbF cq
   have QQ:∀c,c≠b→(w.setCells b (of+drows.length*r.n) css.flatten).heap[c]? =w.heap[c]?:=fun c hc=>Gm _ _ _ _ _ hc
   have hd':=hd.mono (w':=w.setCells b (of+drows.length*r.n) css.flatten) (S':=E2.S) (fun _ h=>h) (fun c hc=>QQ c (SY c (.inr (.inr hc)))) (fun c hc=>QQ c (SY c (.inl hc)));have rF:=hs.mono (w':=w.setCells b (of+drows.length*r.n) css.flatten) (S':=E2.S) (fun _ h=>h) (fun c hc=>QQ c (SY c (.inr (.inr hc)))) (fun c hc=>QQ c (SY c (.inr (.inl hc))));have OJ:=hd'.append rF;have cn:Bb (w.setCells b (of+drows.length*r.n) css.flatten) b of (dcss++css).flatten:=by
    rw[AF_];refine Bb.append (UN hc hb Qj (.inr (.inl (by omega)))) ?_
    rw[hdl];exact Mv hb Qj
   have how:Ow (w.setCells b (of+drows.length*r.n) css.flatten) E2.S (m+1) (.sl r) [.slice (some ⟨b,of,none⟩) (drows.length+Kx.length) cap] (drows++Kx) (b::(Fs1++Fs).flatten):=by
    simp only[Ow];refine⟨_,cap,by rw[AEM],by rw[AEM];exact cU,.inr ⟨b,of,_,ty0,fr,Fs1++Fs,rfl,GW _ _ _ _ _ _ _ hb,by rw[GY];exact He,by rw[GY];exact hunf,rfl,OJ.2.1,fun j q G hq hG=> ?_⟩⟩;have hj:=(AD7.1 hq).1;have h1:=OJ.1;have jB:j<(dcss++css).length:=by omega
    refine⟨(dcss++css)[j],OJ.2.2.1 _ (AEa _),fun x u hx=> ?_,OJ.2.2.2 j _ _ _ (AD9 jB) hq hG⟩;have hxl:=(AD7.1 hx).1;rw[OJ.2.2.1 _ (AEa _)]at hxl;have:=TX (n:=r.n) (css:=dcss++css) (ex:=[]) (i:=j) OJ.2.2.1 (AD9 jB) hxl;rw[AEX,hx]at this;have:=cn _ _ this
    rwa [←AGe]at this
   have Xc:(b::(Fs1++Fs).flatten)=(b::Fs1.flatten)++Fs.flatten:=by simp
   rw[Xc]at how;obtain⟨r1,r2,r3⟩:=Lq h kT (w':=w.setCells b (of+drows.length*r.n) css.flatten) (d:=m+1) (by omega) how (fun c hc=> .inl ((AEZ.1 hc).elim (yF c) (hsF c))) ndF
    (fun c hc=>by rw[D8];exact ltF c ((AEZ.1 hc).elim (yF c) (hsF c))) (fun c hc hcF=>QQ c (fun e=>hcF (e▸hbF))) (B3 _ _ _ _)
   exact⟨_,_,_,ar,r1,r2,r3⟩
 ·
  have hold:drows.length=0∨ ∃b o,ad=some ⟨b,o,none⟩∧Bb w b o dcss.flatten:=by
   rcases hcase with⟨h0,_⟩|⟨b,of,arr,ty0,fr,rfl,hb,He,hunf,rfl,hc⟩
   ·exact .inl (by omega)
   ·exact .inr ⟨b,of,rfl,hc⟩
  have ar:=X4 (P:=P) (w:=w) (ty:=ty) da eY hut hu i1 i4 i2 (a_ (P:=P) (cap:=cap) hd.1 hd.2.2.1 hold) hn (by omega) X5 (by omega);have lV:=grownCap_ge w (drows.length+Kx.length) cap e
  generalize hgc:grownCap w (drows.length+Kx.length) cap e=gc at ar lV
  let arr:Array Value:=dcss.flatten.toArray++css.flatten.toArray++Builtin.zeroCells z.cells (gc-(drows.length+Kx.length))
  have Ua:arr.toList=(dcss++css).flatten++(Builtin.zeroCells z.cells (gc-(drows.length+Kx.length))).toList:=by simp[arr]
  have hzl:z.cells.size=r.n:=by rw[←AGh,i5,F8]
  have AIP:arr.size=gc*r.n:=by
   simp only[arr,Array.size_append,List.size_toArray,aw,hzl,cT,hdl,←AGI];congr 1;omega
  let w':=w.drew.alloc (.cells arr e)
  have new:w'.heap[w.heap.size]? =some (.cells arr e):=by
   show(w.heap.push (.cells arr e))[w.heap.size]? =_
   simp
  have l_:∀c,c<w.heap.size→w'.heap[c]? =w.heap[c]?:=fun c hc=>JY (w:=w) (o:= .cells arr e) hc
  have hR1:∀c∈Fs1.flatten,c∈Fd:=fun c hc=>hp1.mem_iff.2 (by simp only[AEZ];exact .inl hc)
  have hd':=hd.mono (w':=w') (S':=E2.S) (fun _ h=>h) (fun c hc=>l_ c (OP.TN c (OP.st c hc))) (fun c hc=>l_ c (ltF c (yF c (hR1 c hc))));have rF:=hs.mono (w':=w') (S':=E2.S) (fun _ h=>h) (fun c hc=>l_ c (OP.TN c (OP.st c hc))) (fun c hc=>l_ c (ltF c (hsF c hc)));have OJ:=hd'.append rF;have how:Ow w' E2.S (m+1) (.sl r) [.slice (some ⟨w.heap.size,0,none⟩) (drows++Kx).length gc] (drows++Kx) (w.heap.size::(Fs1++Fs).flatten):=
   U8 new Ua OJ.1 (by rw[AEM];exact lV) (by omega) (We _) OJ.2.1 OJ.2.2.2
  rw[AEM]at how;have RE:∀c∈(Fs1++Fs).flatten,c∈Fd++Fs.flatten:=by
   intro c hc;rw[AF_,AEZ]at hc;exact AEZ.2 (hc.imp (hR1 c) id)
  have nd1:(Fs1++Fs).flatten.Nodup:=by
   rw[AF_];have n1:=(AEJ.1 (hp1.nodup_iff.1 (AEJ.1 ndF).1)).1;exact AEJ.2 ⟨n1,(AEJ.1 ndF).2.1,fun x hx y hy=>(AEJ.1 ndF).2.2 x (hR1 x hx) y hy⟩
  have AAD:∀c∈(Fs1++Fs).flatten,c∈F:=fun c hc=>(AEZ.1 (RE c hc)).elim (yF c) (hsF c)
  obtain⟨r1,r2,r3⟩:=Lq h kT (w':=w') (d:=m+1) (by omega) how (by
    intro c hc;rcases AEd.1 hc with rfl|hc
    ·exact .inr (AE7 _)
    ·exact .inl (AAD c hc)) (by
    refine AGW.2 ⟨fun hc=> ?_,nd1⟩;have:=ltF _ (AAD _ hc);omega) (by
    intro c hc;rcases AEd.1 hc with rfl|hc
    ·simp[w']
    ·have:=ltF _ (AAD _ hc)
     simp[w'];omega) (fun c hc _=>l_ c hc) ⟨rfl,rfl,rfl,by simp[w']⟩
  exact⟨_,_,_,ar,r1,r2,r3⟩
end
end Go.Fw
end
section
namespace Go.Fw
theorem PF{α β:Type}{args:Array α}{f:α→β}{x y:β}(h:args.toList.map f=[x,y]):∃a b,args= #[a,b]∧f a=x∧f b=y:=by
 obtain⟨l⟩:=args
 match l,h with
 |[a,b],h=>simp at h;exact⟨a,b,rfl,h.1,h.2⟩
theorem OZ{α β:Type}{args:Array α}{f:α→β}{x:β}(h:args.toList.map f=[x]):∃a,args= #[a]∧f a=x:=by
 obtain⟨l⟩:=args
 match l,h with
 |[a],h=>simp at h;exact⟨a,rfl,h⟩
section
variable{Y:Type} {P:Program} {T:F9} (hT:C2 P T) {o:Oper} {E:Env} {σ:St} {a:Act} {w:World} {k:K Y} {y:Y}
include hT
theorem fT(h:Rel E σ a w){c:Call}{x1 x2:XV}(ho:o.op= .call c)(hc:c.callee= .builtin .append)(E6:c.args.toList.map σ.ev=[x1,x2])(e:Te T c.argTypes σ x1 x2 k=some y):Gl P o E σ a w k y:=by
 obtain⟨o1,o2,hargs',rfl,rfl⟩:=PF E6;have SK:=h.ev o1;have RD:=h.ev o2;have exec:∀{v w'},(Builtin.append_ c.argTypes o.type #[a.eval o1,a.eval o2]).run P w= .ok v w'→(execOp a.eval o).run P w= .ok (.value v) w':=by
  intro v w' hr;simp only[execOp,ho,resolve,hc,hargs',invoke,builtin,Sem.run_bind,Sem.run_pure,Result.andThen_ok,List.map_toArray,AGY,AG9,hr]
 unfold Te at e;split at e
 case h_2=>cases e
 rename_i t u da eY;split at e
 case isFalse=>cases e
 rename_i hu;have hu':(∃e,P.underlying u=some (.slice e))∨P.underlying u=some .string:=by
  rw[AF6]at hu;exact hu.imp (Wo hT) (O1 hT)
 split at e
 ·
  rename_i z hz1 hz2;rw[hz1]at SK;rw[hz2]at RD;simp only[AED]at e;obtain⟨⟨r,rows,J0,d⟩,e1,e⟩:=e;dsimp only at e;split at e
  case isFalse=>cases e
  rename_i RF;split at e
  case isFalse=>cases e
  rename_i X5;obtain⟨hd,E',F,css,Fs,R,kT,hp,hs,hn⟩:=UL (P:=P) h.bx (Cs.refl _) RD e1;obtain⟨m,rfl⟩:∃m,d=m+1:=⟨d-1,by omega⟩;have AEe:a.eval o1= .slice none 0 0:=SK;obtain⟨v,w',E3,hr,r1,r2,r3⟩:=Xi hT h (ty:=o.type) da eY hu' RF kT (v1:= .slice none 0 0) (Fd:=[]) (drows:=[]) Z3 hs hn (R:=R) (by simpa using hp) (by simpa using X5);rw[←AEe]at hr;simp only[AFa]at r1 r3;exact⟨_,_,_,_,_,.inl (exec hr),r1,r3,r2.any,rfl,e⟩
 ·rename_i z1 z2 jW hz1 hz2
  rw[hz1]at SK;rw[hz2]at RD;simp only[AED]at e;obtain⟨⟨r,rows,VT,d⟩,e1,e⟩:=e;dsimp only at e;split at e
  case isFalse=>cases e
  rename_i RF;simp only[AED]at e;obtain⟨⟨q,srows0,Qc,ds⟩,e2,Kx,e3,e⟩:=e;dsimp only at e e3;obtain⟨hqr,e4⟩:=Ed e3;subst hqr;subst e4;dsimp only at e;split at e
  case isFalse=>cases e
  rename_i X5;obtain⟨hd,F1,F2,k1,ho1⟩:=UP h.bx (Cs.refl _) SK e1;obtain⟨vd,E',F3,css,Fs,R,k2,hp,hs,hn⟩:=UL (P:=P) k1.boxes ((Cs.refl _).Z7 k1) RD e2;obtain⟨m,hm⟩:∃m,min d ds=m+1:=⟨min d ds-1,by omega⟩;rw[hm]at e;obtain⟨A,W1,p1,ho1'⟩:=Fv (d:=m+1) (by omega) ho1;obtain⟨Gs,W2,p2,rF⟩:=hs.weaken (d':=m) (by omega);have hB:=k2.boxes.perm (G':=(A++Gs.flatten++(R++F2))++(W1++W2)++[]) (by
   rw[AEX,AEX];refine((hp.trans (p2.append_right R)).append (p1.append_right F2)).trans ?_
   classical
   rw[AHH];intro c;simp only[List.count_append];omega)
  obtain⟨hle,OP⟩:=hB.share;have kT:Dv E w σ.bx σ.bx [] _ Qc (A++Gs.flatten++(R++F2)):=⟨(k1.le.trans k2.le).trans hle,k2.len.trans k1.len,fun b B hb=>(k2.within b B hb).elim .inl (k1.within b B),OP⟩;have zg:Ow w (fun c=>E'.S c∨c∈W1++W2) (m+1) (.sl q) [a.eval o1] rows A:=
   CT (fun c hc=>hc.imp (k2.le.S c) (by simp_all)) (fun _ _=>rfl) (fun _ _=>rfl) ho1'
  have zH:DC w (fun c=>E'.S c∨c∈W1++W2) m q css srows0 Gs:=rF.mono (fun c hc=>hc.imp id (by simp_all)) (fun _ _=>rfl) (fun _ _=>rfl);obtain⟨v,w',E3,hr,r1,r2,r3⟩:=Xi hT h (ty:=o.type) da eY hu' RF kT zg zH hn (AHJ _) X5;exact⟨_,_,_,_,_,.inl (exec hr),r1,r3,r2.any,rfl,e⟩
 ·cases e
end
end Go.Fw
end
section
namespace Go.Fw
theorem YN{P:Program}{w:World}{b o:Nat}{ty:TypeId}{v:Value}(ht:w.there b o v.cells.toList.length)(hi:(P.info? ty).map (·.size)=some v.cells.toList.length)(h1:∀u∈v.cells.toList,u.oneCell' =true):
  (Instr.storeAt ty (.pointer (some ⟨b,o,none⟩)) v).run P w= .ok () (w.setCells b o v.cells.toList):=by
 have:=run_storeCells_cells (P:=P) b o v.cells.toList 0 w (fun j hj=>by simpa using(ht j hj).1) (fun j hj=>by simpa using(ht j hj).2) h1;cases hq:P.info? ty with
 |none=>simp[hq]at hi
 |some i=>
  have hs:v.cells.size=i.size:=by simp[hq]at hi;omega
  simp only[AGS]at this;simp[Instr.storeAt,Instr.sureAddr,storeVar,sizeOf,typeInfo,hq,hs,this]
theorem Rm{E E1 E':Env}{w w':World}{vw VT J0:List Bx}{F:ABC}(b0:Nat)(k:Dv E w vw vw [] E1 VT F)(st:∀c,E.S c→E.T c)(hlen:vw.length≤J0.length)
  (Ve:∀b d r rows,b≠b0→b<vw.length→J0[b]? =some (.sl d r rows)→VT[b]? =some (.sl d r rows)) (eJ:∀b,b<vw.length→E'.EY b=E1.EY b) (Sv:∀b,b<vw.length→E'.Ei b=E1.Ei b) (hT:E'.T=E1.T) (hS:E'.S=E1.S)
  (hw:∀c,c<w.heap.size→c∉F→w'.heap[c]? =w.heap[c]?)
  (h0:∀d r rows,J0[b0]? =some (.sl d r rows)→ ∃d0 KW,vw[b0]? =some (.sl d0 r KW)∧
   ∀p,Bt r KW p→ ∀q ys,Dl r KW p=some ⟨q,ys⟩→Bt r rows p∧(∃ZL,Dl r rows p=some ⟨q,ZL⟩∧List.length ZL=List.length ys)∧
    ∀h,Fb w (E.Ei b0) p=some h→Fb w' (E'.Ei b0) p=some h):Ld E w vw E' w' J0:=by
 have hB:=k.boxes;obtain⟨Fs,⟨h1,h2⟩,h3⟩:=hB;simp only[AEX]at h3;have n_:∀c,E1.T c→w'.heap[c]? =w.heap[c]?:=fun c hc=>hw c (h3.TN c hc) fun hf=>h3.free c (by simp[hf]) hc
 refine⟨hlen,fun b hb=>by rw[eJ b hb,k.le.EY],fun c hc=>by rw[hT];exact k.le.T c hc,fun c hc=>by rw[hS];exact k.le.S c hc,st,fun c hc=>n_ c (k.le.T c hc),fun b d r rows hb e=> ?_⟩;by_cases hb0:b=b0
 ·subst hb0
  exact h0 d r rows e
 have e1:=Ve b _ _ _ hb0 hb e;rcases k.within b _ e1 with e2|e2
 ·cases e2
 ·refine⟨d,rows,e2,fun p hp q ys hg=>⟨hp,⟨ys,hg,rfl⟩,fun h' hh=> ?_⟩⟩
  have hF:Fs[b]? =some (Fs[b]'(by have:=(AD7.1 e1).1;omega)):=AD9 _;obtain⟨hd,ho⟩:=h2 b _ _ e1 hF;rw[Sv b hb];rw[←k.le.Ei]at hh;refine eH ho (fun c hc=>n_ c (h3.st c hc)) (fun c hc=> ?_) hp hg hh;have RE:c∈Fs.flatten:=AE5.2 ⟨_,AEN hF,hc⟩;exact hw c (h3.lt c (by simp[RE])) fun hf=>(AEJ.1 h3.nodup).2.2 c RE c hf rfl
def Bx.map(f:AV→AV):Bx→Bx
 | .mem cs=> .mem (cs.map f)
 |B=>B
theorem Bm.ADf{E E':Env}{w w':World}{vw vw' bx:List Bx}{G:ABC}(f:AV→AV)(h:Bm E w vw bx G)(k:∀x v,VR E w vw x v→VR E' w' vw' (f x) v)
  (hS:∀c,E.S c→E'.S c) (eJ:∀b,b<bx.length→E'.EY b=E.EY b) (Sv:∀b,b<bx.length→E'.Ei b=E.Ei b)
  (hw:∀c,(E.S c∨(¬E.T c∧c∉G))→c<w.heap.size→w'.heap[c]? =w.heap[c]?)
  (l3:∀F,Sep E w (F++G)→Sep E' w' (F++G)):Bm E' w' vw' (bx.map (Bx.map f)) G:=by
 obtain⟨Fs,⟨hl,h1⟩,h2⟩:=h;refine⟨Fs,⟨by simpa using hl,fun n B F hn hF=> ?_⟩,l3 _ h2⟩;rw[AFG,AEC]at hn;obtain⟨B,hn,rfl⟩:=hn;have Er:=(AD7.1 hn).1;have h3:=h1 n B F hn hF;have gf:∀c∈F,c∈Fs.flatten:=fun c hc=>AE5.2 ⟨F,AEN hF,hc⟩
 have vG:∀c∈F,w'.heap[c]? =w.heap[c]?:=fun c hc=>hw c (.inr ⟨h2.free c (by simp[gf c hc]),fun hg=>by
  have:=(AEJ.1 h2.nodup).2.2 c (gf c hc) c hg;exact this rfl⟩) (h2.lt c (by simp[gf c hc]))
 have aj:∀c,E.S c→w'.heap[c]? =w.heap[c]?:=fun c hc=>hw c (.inl hc) (h2.TN c (h2.st c hc))
 cases B with
 |mem cs=>
  obtain⟨rfl,arr,ty,fr,ha,hu,hv⟩:=h3;refine⟨by rw[eJ n Er],arr,ty,fr,?_,hu,BU.Gw f k hv⟩;rw[eJ n Er,vG _ (by simp),ha]
 |sl d r rows=>
  obtain⟨hd,ho⟩:=h3;refine⟨hd,?_⟩;rw[Sv n Er];exact CT hS aj vG ho
 |dead=>exact h3
theorem Bx.map_id:∀B:Bx,Bx.map id B=B
 | .mem cs=>by simp[Bx.map]
 | .sl _ _ _=>rfl
 | .dead=>rfl
theorem Qy(bx:List Bx):bx.map (Bx.map id)=bx:=by
 induction bx with
 |nil=>rfl
 |cons B l ih=>simp[ih,Bx.map_id]
theorem Xf(b:Nat)(bx:List Bx):bx.map (jQ b)=bx.map (Bx.map (Fj b)):=by
 apply AGd;intro B _;cases B<;>rfl
theorem kM{E:Env}{σ:St}{a:Act}{w:World}(h:Rel E σ a w){b j:Nat}{cs SW:List AV}(hb:σ.bx[b]? =some (.mem cs)){xs:List AV}{vs:List Value}(hx:VF E w σ.bx xs vs)(SY:xs≠[])
  (e:Og cs j xs=some SW):
  w.there (E.EY b) j vs.length∧Rel E { σ with bx:=σ.bx.set b (.mem SW) } a (w.setCells (E.EY b) j vs)∧Ka [b] E σ.bx w E (σ.bx.set b (.mem SW)) (w.setCells (E.EY b) j vs):=by
 have st:=h.bx.st;obtain⟨F,⟨rfl,arr,ty,fr,ha,hu,hv⟩,hB⟩:=h.bx.take hb;simp only[AEX]at hB;have Er:=(AD7.1 hb).1;rcases O_ hv hx e with⟨h1,h2⟩|⟨h1,_⟩
 case inr=>exact absurd h1 SY
 have Qj:j+vs.length≤arr.size:=by
  have l1:=BU.len hv;have l2:=BU.len hx;simp only[AGh]at l1;omega
 have LI: ¬E.T (E.EY b):=hB.mf _ (by simp);have hB0:=hB;have QQ:∀c,c≠E.EY b→(w.setCells (E.EY b) j vs).heap[c]? =w.heap[c]?:=fun c hc=>Gm _ _ _ _ _ hc
 have hw:∀c,c<w.heap.size→c∉[E.EY b]→(w.setCells (E.EY b) j vs).heap[c]? =w.heap[c]?:=fun c _ hc=>QQ c (by simpa using hc)
 have kT:Dv E w σ.bx σ.bx [] E (σ.bx.set b .dead) [E.EY b]:=⟨Le.refl _,by simp,fun n B hn=>by
  by_cases en:n=b
  ·subst en
   rw[AEQ Er]at hn;exact .inl (by simpa using hn.symm)
  ·rw[AEH (fun h=>en h.symm)]at hn
   exact .inr hn,by simpa using hB⟩
 have keep:Ld E w σ.bx E (w.setCells (E.EY b) j vs) (σ.bx.set b (.mem SW)):=Rm b kT st (by simp) (fun n d r rows hn _ hq=>by
   rw[AEH (by omega)]at hq⊢;exact hq) (fun _ _=>rfl) (fun _ _=>rfl) rfl rfl hw (fun d r rows hq=>by
   rw[AEQ Er]at hq;cases hq)
 refine⟨V8 ha Qj hu,⟨h.ID,h.tm.imp fun _ _ hq=>JH keep hq,?_⟩,⟨⟨fun _ h=>h,fun _ h=>h,fun _ h=> .inl h,fun _ h=> .inl h,fun c hc=>QQ c (fun e=>LI (e▸hc)),(B3 _ _ _ _).os,(B3 _ _ _ _).tape,(B3 _ _ _ _).output,(B3 _ _ _ _).size⟩,by simp,fun _ _=>⟨rfl,rfl⟩,fun n hn=>by
  rw[AEH (fun e=>by subst e;rw[hb]at hn;cases hn)];exact hn,fun n B B' ah hB Kt jv=>by
  simp at ah;rw[AEH (fun e=>ah e.symm),hB]at Kt;cases Kt;refine⟨ND.refl jv,fun c hc=>QQ c (fun e=> ?_)⟩;obtain⟨Fs,⟨f1,f2⟩,f3⟩:=hB0;have OP:(σ.bx.set b .dead)[n]? =some B:=by rw[AEH (fun e=>ah e.symm)];exact hB
  have hF:Fs[n]? =some (Fs[n]'(by have:=(AD7.1 OP).1;omega)):=AD9 _;rcases Tt (f2 n B _ OP hF) hc with hs|hs
  ·exact LI (e▸st c hs)
  ·exact(AEJ.1 f3.nodup).2.2 c (AE5.2 ⟨_,AEN hF,hs⟩) (E.EY b) (by simp) e⟩⟩
 have hT:=hB.turn (E':=E) (w':=w.setCells (E.EY b) j vs) (vw':=σ.bx.set b (.mem SW)) (fun x v hq=>DN keep hq) (fun _ h=>h) (fun _ _=>rfl) (fun _ _=>rfl) (fun c hc _=>QQ c (fun e=>by
   rcases hc with hc|hc
   ·exact LI (e▸st c hc)
   ·exact hc.2 (by simp[e]))) (fun F hF=>⟨hF.nodup,hF.free,fun c hc=>by rw[D8];exact hF.lt c hc,hF.st,fun c hc=>by rw[D8];exact hF.TN c hc,hF.eK.mono (fun _ h=>h) (fun c hc=>QQ c (fun e=>LI (e▸hc)))⟩)
 have:=Bm.put (b:=b) (B:= .mem SW) (F:=[E.EY b]) (G:=[]) (by simpa using hT) (by rw[AEQ Er]) ⟨rfl,DL arr j vs,ty,fr,GW _ _ _ _ _ _ _ ha,by rw[GY];exact hu,h1.imp fun _ _ hq=>DN keep hq⟩;rw[AG8]at this;exact this
theorem PI:∀{r:Ty} {j j':Nat} {x:r.D} {t:Ty} {y:t.D} {x':r.D},CH r j x t y=some x'→j'≠j→AY r j' x' =AY r j' x
 | .cons c r,0,j',x,t,y,x',e,hj=>by
  simp only[CH]at e;split at e
  ·rename_i h
   subst h;simp only[AD_]at e;subst e;cases j' with
   |zero=>exact absurd rfl hj
   |succ j' =>simp[AY]
  ·cases e
 | .cons c r,j+1,j',x,t,y,x',e,hj=>by
  simp only[CH,AEC]at e;obtain⟨z,e1,rfl⟩:=e;cases j' with
  |zero=>simp[AY]
  |succ j' =>
   simp only[AY];exact PI e1 (by omega)
 | .unit,_,_,_,_,_,_,e,_=>by simp[CH]at e
 | .int k,0,j',x,t,y,x',e,hj=>by cases j' with
  |zero=>exact absurd rfl hj
  |succ j' =>simp[AY]
 | .bool,0,j',x,t,y,x',e,hj=>by cases j' with
  |zero=>exact absurd rfl hj
  |succ j' =>simp[AY]
 | .str,0,j',x,t,y,x',e,hj=>by cases j' with
  |zero=>exact absurd rfl hj
  |succ j' =>simp[AY]
 | .sl _,0,j',x,t,y,x',e,hj=>by cases j' with
  |zero=>exact absurd rfl hj
  |succ j' =>simp[AY]
 | .int _,_+1,_,_,_,_,_,e,_=>by simp[CH]at e
 | .bool,_+1,_,_,_,_,_,e,_=>by simp[CH]at e
 | .str,_+1,_,_,_,_,_,e,_=>by simp[CH]at e
 | .sl _,_+1,_,_,_,_,_,e,_=>by simp[CH]at e
theorem Mp:∀{r:Ty} {j:Nat} {x:r.D} {t:Ty} {y:t.D} {x':r.D},CH r j x t y=some x'→AY r j x' =some ⟨t,y⟩∧ ∃y0:t.D,AY r j x=some ⟨t,y0⟩
 | .cons c r,0,x,t,y,x',e=>by
  simp only[CH]at e;split at e
  ·rename_i h
   subst h;simp only[AD_]at e;subst e;exact⟨rfl,_,rfl⟩
  ·cases e
 | .cons c r,j+1,x,t,y,x',e=>by
  simp only[CH,AEC]at e;obtain⟨z,e1,rfl⟩:=e;simp only[AY];exact Mp e1
 | .unit,_,_,_,_,_,e=>by simp[CH]at e
 | .int k,0,x,t,y,x',e=>by
  simp only[CH]at e;split at e
  ·rename_i h;subst h;cases e;exact⟨rfl,_,rfl⟩
  ·cases e
 | .bool,0,x,t,y,x',e=>by
  simp only[CH]at e;split at e
  ·rename_i h;subst h;cases e;exact⟨rfl,_,rfl⟩
  ·cases e
 | .str,0,x,t,y,x',e=>by
  simp only[CH]at e;split at e
  ·rename_i h;subst h;cases e;exact⟨rfl,_,rfl⟩
  ·cases e
 | .sl _,0,x,t,y,x',e=>by
  simp only[CH]at e;split at e
  ·rename_i h;subst h;cases e;exact⟨rfl,_,rfl⟩
  ·cases e
 | .int _,_+1,_,_,_,_,e=>by simp[CH]at e
 | .bool,_+1,_,_,_,_,e=>by simp[CH]at e
 | .str,_+1,_,_,_,_,e=>by simp[CH]at e
 | .sl _,_+1,_,_,_,_,e=>by simp[CH]at e
theorem Wb{r:Ty}{rows:List r.D}{i k:Nat}{x:r.D}(hi:i<rows.length):rowAt r (rows.set i x) k=if k=i then x else rowAt r rows k:=by
 unfold rowAt;rw[AGX,AGX,AGN];by_cases e:k=i
 ·subst e;simp[hi]
 ·rw[AEB (fun h=>e h.symm),AEB e]
theorem aO:∀{p:List Xm} {r:Ty} {rows rows':List r.D} {q:Ty} {ys ZL:List q.D},Dl r rows p=some ⟨q,ys⟩→ZL.length=ys.length→Zl r rows p q ZL=some rows'→rows'.length=rows.length
 |[],r,rows,rows',q,ys,ZL,h1,h2,h3=>by
  simp only[Dl,AD_,AEP]at h1;obtain⟨rfl,h1⟩:=h1;obtain rfl:=AE9 h1;simp only[Zl,AHE,KU,AD_]at h3;rw[←h3];exact h2
 |s::p,r,rows,rows',q,ys,ZL,h1,h2,h3=>by
  simp only[Zl]at h3;split at h3
  ·simp only[AED,AEC]at h3
   obtain⟨_,_,_,_,rfl⟩:=h3;simp
  ·cases h3
theorem XU{t:Ty}(ht:t.scalar=true){y:t.D}{q:Ty}{i j:Nat}:∀{p':List Xm} {r:Ty} {rows rows':List r.D} {p:List Xm} {ys:List q.D} {Qh:q.D},Bt r rows p→Dl r rows p=some ⟨q,ys⟩→i<ys.length→
  CH q j (rowAt q ys i) t y=some Qh→Zl r rows p q (ys.set i Qh)=some rows'→Bt r rows p'→ ∀q' zs,Dl r rows p' =some ⟨q',zs⟩→
   Bt r rows' p'∧ ∃zs',Dl r rows' p' =some ⟨q',zs'⟩∧List.length zs' =List.length zs
 |[],r,rows,rows',p,ys,Qh,_,hg,hi,hc,hs,_,q',zs,gP=>by
  simp only[Dl,AD_,AEP]at gP;obtain⟨rfl,gP⟩:=gP;obtain rfl:=AE9 gP;exact⟨by simp[Bt],rows',by simp[Dl],aO hg (by simp) hs⟩
 |s'::p',r,rows,rows',p,ys,Qh,hp,hg,hi,hc,hs,vF,q',zs,gP=>by
  have hlen:=aO hg (by simp) hs;simp only[Bt]at vF⊢;obtain⟨g1,g2,g3⟩:=vF;simp only[Dl]at gP⊢;split at gP
  case h_2=>cases gP
  rename_i q0 x0 Sw;rw[Sw]at g3;dsimp only at g3;have key:∃x1,AY r s'.j (rowAt r rows' s'.i)=some ⟨.sl q0,x1⟩∧Bt q0 x1 p'∧ ∃zs',Dl q0 x1 p' =some ⟨q',zs'⟩∧List.length zs' =List.length zs:=by
   have same:AY r s'.j (rowAt r rows' s'.i)=some ⟨.sl q0,x0⟩→ ∃x1,AY r s'.j (rowAt r rows' s'.i)=some ⟨.sl q0,x1⟩∧Bt q0 x1 p'∧ ∃zs',Dl q0 x1 p' =some ⟨q',zs'⟩∧List.length zs' =List.length zs:=
    fun h=>⟨x0,h,g3,zs,gP,rfl⟩
   cases p with
   |nil=>
    simp only[Dl,AD_,AEP]at hg;obtain⟨rfl,hg⟩:=hg;obtain rfl:=AE9 hg;simp only[Zl,AHE,KU,AD_]at hs;subst hs;apply same;rw[Wb hi];split
    ·rename_i e
     subst e;by_cases ej:s'.j=j
     ·obtain⟨_,y0,h0⟩:=Mp hc
      rw[ej,h0]at Sw;simp only[AD_,AEP]at Sw;obtain⟨rfl,_⟩:=Sw;simp[Ty.scalar]at ht
     ·rw[PI hc ej];exact Sw
    ·exact Sw
   |cons s p=>
    simp only[Bt]at hp;obtain⟨k1,k2,k3⟩:=hp;simp only[Dl]at hg;split at hg
    case h_2=>cases hg
    rename_i r' x hcx;rw[hcx]at k3;dsimp only at k3;simp only[Zl,hcx,AED,AEC]at hs;obtain⟨x',xR,row2,zH,rfl⟩:=hs;rw[Wb k1];rw[Wb k1]at same;split
    ·rename_i e
     rw[AEA e]at same;rw[e]at Sw;by_cases ej:s'.j=s.j
     ·rw[ej]at Sw⊢
      rw[hcx]at Sw;simp only[AD_,AEP,Ty.sl.injEq]at Sw;obtain⟨rfl,Sw⟩:=Sw;obtain rfl:=AE9 Sw;obtain⟨m1,m2⟩:=XU ht k3 hg hi hc xR g3 q' zs gP;exact⟨x',(Mp zH).1,m1,m2⟩
     ·exact same (by rw[PI zH ej];exact Sw)
    ·rename_i e
     rw[AEB e]at same;exact same Sw
  obtain⟨x1,e1,e2,e3⟩:=key;rw[e1];exact⟨⟨by omega,g2,e2⟩,e3⟩
theorem cA{w w':World}{B:Nat→Prop}(Pn:∀A,w'.cell? A=w.cell? A∨ ∃v,w'.cell? A=some v∧isSlice v=false):∀{p:List Xm} {r:Ty} {h:Value} {rows:List r.D} {hh:Value},
  Rd w' B (.sl r) [h] rows→Bt r rows p→Fb w h p=some hh→Fb w' h p=some hh
 |[],_,h,_,hh,_,_,e=>by rw[Bi]at e⊢;exact e
 |s::p,r,h,rows,hh,hr,hp,e=>by
  simp only[Bt]at hp;obtain⟨hi,He,hp⟩:=hp;simp only[Rd]at hr;obtain⟨a,cap,e1,_,hr⟩:=hr;obtain rfl:=(AFs e1).1;rcases hr with hr|⟨b,o,rfl,hb,hr⟩
  ·omega
  obtain⟨cs,hl,hc,hrow⟩:=hr s.i _ (KR hi);split at hp
  case h_2=>exact hp.elim
  rename_i q x Sw;obtain⟨v,hv,hrv⟩:=Tm hrow Sw;have vS:=hc _ _ hv;rw[←He]at vS;simp only[Fb]at e⊢;split at e
  case h_2=>cases e
  rename_i v0 hv0;rcases Pn ⟨b,o+s.i*s.sz+s.j,none⟩with h1|⟨u,h1,h2⟩
  ·rw[h1,hv0]
   rw[h1,hv0]at vS;cases vS;exact cA Pn hrv hp e
  ·rw[vS]at h1
   cases h1;simp only[Rd]at hrv;obtain⟨_,_,e2,_⟩:=hrv;simp only[AEk,AFR]at e2;subst e2;simp[isSlice]at h2
theorem nR{E E':Env}{w w':World}{vw vw':List Bx}{b d d':Nat}{r:Ty}{rows rows':List r.D}(k:Ld E w vw E' w' (vw'.set b .dead))(hb:vw[b]? =some (.sl d r rows))(l8:vw'[b]? =some (.sl d' r rows'))(hl:rows'.length=rows.length)
  (hh:E'.Ei b=E.Ei b) {x:AV} {v:Value} (h:VR E w vw x v):VR E' w' vw' (Fj b x) v:=by
 have h1:=DN k h;have QQ:∀{b'},b'≠b→(vw'.set b .dead)[b']? =vw'[b']?:=fun e=>AEH (fun h=>e h.symm)
 cases x with
 |v t x=>exact h1
 |sl s r x=>exact h1
 |nil=>exact h1
 |Eb c j=>exact⟨by simpa using h1.1,h1.2⟩
 |Iv s r x j=>exact h1
 |fn f Fq=>exact⟨fun c hc=>by simpa using h1.1 c hc,h1.2⟩
 |dI f rows=>exact h1
 |iQ=>exact h1
 |undef=>trivial
 |ref c p=>
  cases p with
  |nil=>
   simp only[Fj];by_cases e:c=b
   ·subst e
    simp only[VR,hb,l8]at h⊢;refine⟨h.1,by simp[Bt],⟨_,rfl⟩,?_⟩;rw[Bi,hh,←Bi (w:=w) (h:=E.Ei c)];exact h.2.2.2
   ·simp only[VR,QQ e]at h1⊢;exact h1
  |cons s p=>
   simp only[Fj];split
   ·trivial
   ·rename_i e
    simp only[VR,QQ e]at h1⊢;exact h1
 |win c p off n=>
  cases p with
  |nil=>
   simp only[Fj];by_cases e:c=b
   ·subst e
    simp only[VR,hb,l8]at h⊢;obtain⟨h0,_,q,ys,a,len,cap,e1,e2,e3,e4⟩:=h;simp only[Dl,AD_,AEP]at e1;obtain⟨rfl,e1⟩:=e1;obtain rfl:=AE9 e1;refine⟨h0,by simp[Bt],r,rows',a,len,cap,rfl,by rw[hl];exact e2,?_,e4⟩;rw[Bi,hh,←Bi (w:=w) (h:=E.Ei c)];exact e3
   ·simp only[VR,QQ e]at h1⊢;exact h1
  |cons s p=>
   simp only[Fj];split
   ·trivial
   ·rename_i e
    simp only[VR,QQ e]at h1⊢;exact h1
 |FP c p i sz j=>
  cases p with
  |nil=>
   simp only[Fj];by_cases e:c=b
   ·subst e
    simp only[VR,hb,l8]at h⊢;obtain⟨h0,_,q,ys,bb,o,len,cap,e1,e2,e3,e4⟩:=h;simp only[Dl,AD_,AEP]at e1;obtain⟨rfl,e1⟩:=e1;obtain rfl:=AE9 e1;refine⟨h0,by simp[Bt],r,rows',bb,o,len,cap,rfl,by rw[hl];exact e2,?_,e4⟩;rw[Bi,hh,←Bi (w:=w) (h:=E.Ei c)];exact e3
   ·simp only[VR,QQ e]at h1⊢;exact h1
  |cons s p=>
   simp only[Fj];split
   ·trivial
   ·rename_i e
    simp only[VR,QQ e]at h1⊢;exact h1
theorem mZ{E E':Env}{w w':World}{vw vw':List Bx}{b:Nat}(k:∀x v,VR E w vw x v→VR E' w' vw' (Fj b x) v){x:XV}{v:Value}(h:XR E w vw x v):XR E' w' vw' (cv b x) v:=by
 cases x with
 |c x=>exact k x v h
 |agg l=>
  obtain⟨vs,rfl,O7⟩:=h;exact⟨vs,rfl,BU.Gw _ k O7⟩
 |Hd l=>
  obtain⟨vs,rfl,O7⟩:=h;refine⟨vs,rfl,BU.Gw _ (fun x v hx=> ?_) O7⟩;cases x with
  |inl x=>exact k x v hx
  |inr q=>
   obtain⟨us,rfl,hus⟩:=hx;exact⟨us,rfl,BU.Gw _ k hus⟩
end Go.Fw
end
section
namespace Go.Fw
theorem Zq{w:World}{vw:List Bx}{E:Env}{bx:List Bx}{G:ABC}(h:Bm E w vw bx G)(hw:Cs bx vw){d:Nat}(hd:1≤d){q:Ty}{old:q.D}{j:Nat}{x:XV}{v:Value}(hv:XR E w vw x v){Qh:q.D}{J0:List Bx}{d':Nat}
  (e:Yu d q old j x bx=some (Qh,J0,d')):1≤d'∧d'≤d∧ ∃E' F,Dv E w vw bx G E' J0 F∧
   ((j=0∧x.plain=false∧Ow w E'.S (d'-1) q v.cells.toList Qh F)∨(∃t y,v.cells.toList=[v]∧Ow w E'.S (d'-1) t [v] y F∧CH q j old t y=some Qh∧(x.plain=true→t.scalar=true∧isSlice v=false))):=by
 unfold Yu at e;split at e
 ·rename_i l
  split at e
  case isFalse=>cases e
  rename_i hj;obtain⟨vs,rfl,O7⟩:=hv;obtain⟨h1,h2,E',F,h3,h4⟩:=QI h hw hd O7 e;exact⟨h1,h2,E',F,h3,.inl ⟨hj,rfl,h4⟩⟩
 ·rename_i x
  split at e
  case h_2=>cases e
  rename_i t y0 hc;simp only[AED,AEC,AFH]at e;obtain⟨⟨y,VT,d1⟩,e1,row,e2,rfl,rfl,rfl⟩:=e;dsimp only at e2;have SF:VR E w vw x v:=hv;have hk:x.known=true:=by cases x<;>simp_all[AV.known,S7]
  obtain⟨h1,h2,E',F,h3,h4⟩:=Rp h hw hd SF e1;refine⟨h1,h2,E',F,h3,.inr ⟨t,y,by rw[(eF SF hk).2],h4,e2,fun hp=> ?_⟩⟩;cases x with
  |v u z=>
   simp only[S7,AEC,AFH]at e1;obtain⟨z',e3,_⟩:=e1;obtain⟨rfl,_⟩:=Ed e3;obtain⟨hs,hr⟩:=SF;refine⟨hs,?_⟩;cases u<;>simp_all[Ty.scalar,Rd]<;>rfl
  |_=>simp[XV.plain]at hp
 ·cases e
theorem Zf{f:AV→AV}{bx:List Bx}{b d:Nat}{r:Ty}{rows:List r.D}:(bx.set b (.sl d r rows)).map (Bx.map f)=(bx.map (Bx.map f)).set b (.sl d r rows):=by
 rw[List.map_set];rfl
theorem nU{f:AV→AV}{bx:List Bx}{n d:Nat}{r:Ty}{rows:List r.D}(h:(bx.map (Bx.map f))[n]? =some (.sl d r rows)):bx[n]? =some (.sl d r rows):=by
 rw[AFG,AEC]at h;obtain⟨B,h1,h2⟩:=h;cases B with
 |mem cs=>simp[Bx.map]at h2
 |sl d' r' rows' =>rw[h1];exact congrArg some h2
 |dead=>simp[Bx.map]at h2
theorem cW{E:Env}{σ:St}{a:Act}{w:World}(h:Rel E σ a w){b i sz j:Nat}{p:List Xm}{va v:Value}(sY:VR E w σ.bx (.FP b p i sz j) va){x:XV}(hv:XR E w σ.bx x v)(h1c:∀u∈v.cells.toList,u.oneCell' =true)
  {σ':St} (e:Uo σ (.c (.FP b p i sz j)) x=some σ'):
  ∃bb oo E',va= .pointer (some ⟨bb,oo,none⟩)∧w.there bb oo v.cells.toList.length∧Rel E' σ' a (w.setCells bb oo v.cells.toList)∧Ka [b] E σ.bx w E' σ'.bx (w.setCells bb oo v.cells.toList)∧σ'.tm.length=σ.tm.length:=by
 simp only[Uo]at e;split at e
 case h_2=>cases e
 rename_i d r rows hb;split at e
 case isFalse=>cases e
 rename_i oO;simp only[AED]at e;obtain⟨⟨q,ys⟩,hg,e⟩:=e;dsimp only at e;split at e
 case isFalse=>cases e
 rename_i He;simp only[AED,AEC]at e;obtain⟨⟨Qh,Qc,d2⟩,e1,rows',e2,e3⟩:=e;dsimp only at e1 e2 e3;have st:=h.bx.st;simp only[VR,hb]at sY;obtain⟨_,hp,q1,ys1,bb,o,len,cap,g1,hi,g3,rfl⟩:=sY;rw[hg]at g1;simp only[AD_,AEP]at g1;obtain⟨rfl,g1⟩:=g1;obtain rfl:=AE9 g1;have Er:=(AD7.1 hb).1;obtain⟨Gb,⟨hd1,ho⟩,hB⟩:=h.bx.take hb;have ACK:Cs (σ.bx.set b .dead) σ.bx:=fun n B hn=>by
  by_cases en:n=b
  ·subst en
   rw[AEQ Er]at hn;exact .inl (by simpa using hn.symm)
  ·rw[AEH (fun h=>en h.symm)]at hn
   exact .inr hn
 obtain⟨hd2,hd3,E1,Fx,k1,hrow⟩:=Zq hB ACK (by omega) hv e1;obtain⟨A,W,pG,zg⟩:=Fv (d:=d2+p.length) (by omega) ho;have OP:=k1.boxes.perm (G':=(Fx++A)++W++[]) (by
  rw[AEX,AEX,AEE];exact AE0 _ pG)
 obtain⟨hle,hB3⟩:=OP.share;simp only[AEX]at hB3
 generalize hE3:({ E1 with S:=fun c=>E1.S c∨c∈W,T:=fun c=>E1.T c∨c∈W }:Env)=E3 at hle hB3
 have YU:Le E E3:=k1.le.trans hle;have ho3:Ow w E3.S (d2+p.length) (.sl r) [E.Ei b] rows A:=CT (fun c hc=>by
  subst hE3;exact hc.imp (k1.le.S c) id) (fun _ _=>rfl) (fun _ _=>rfl) zg
 obtain⟨h',F1,F2,m1,m2,m3,m4⟩:=Zs ho3 hp hg (by omega);rw[g3]at m1;cases m1;obtain⟨m,rfl⟩:∃m,d2=m+1:=⟨d2-1,by omega⟩;rw[show m+1+p.length-p.length=m+1 by omega]at m2 m4;simp only[Nat.add_sub_cancel]at hrow;obtain⟨b1,o1,arr,ty,fr,cs,G,R,n1,n2,n3,n4,n5,n6,n7,n8,n9⟩:=dV m2 hi;simp only[AD_,Addr.mk.injEq,AFR]at n1;obtain⟨rfl,rfl⟩:=n1;subst He;have hAp:A.Perm (G++(bb::R)++F2):=m3.trans (n8.append_right F2);obtain⟨Fs,hFs1,hFs2⟩:=hB3;have hbA:bb∈A:=hAp.mem_iff.2 (by simp);have LI: ¬E3.T bb:=hFs2.free bb (by simp[hbA]);have aI: ¬E3.S bb:=fun hc=>LI (hFs2.st bb hc)
 have nd:(Fx++(G++(bb::R)++F2)).Nodup:=(AE0 Fx hAp).nodup_iff.1 (AEJ.1 hFs2.nodup).2.1;have hnx:bb∉Fx:=fun hc=>(AEJ.1 nd).2.2 bb hc bb (by simp) rfl
 have hnG:bb∉G:=fun hc=>(AEJ.1 (AEJ.1 (AEJ.1 nd).2.1).1).2.2 bb hc bb (by simp) rfl
 have hnR:bb∉R:=(AGW.1 (AEJ.1 (AEJ.1 (AEJ.1 nd).2.1).1).2.1).1;have hn2:bb∉F2:=fun hc=>(AEJ.1 (AEJ.1 nd).2.1).2.2 bb (by simp) bb hc rfl
 have cT:j+v.cells.toList.length≤q.n:=by
  rcases hrow with⟨rfl,_,ho4⟩|⟨t,y,hc1,ho4,QV,_⟩
  ·rw[Od ho4];omega
  ·rw[hc1]
   obtain⟨_,y0,lU⟩:=Mp QV;obtain⟨u,_,_,hu,_⟩:=Tg n7 lU;have:=(AD7.1 hu).1;simp;omega
 have Qj:o+i*q.n+j+v.cells.toList.length≤arr.size:=by omega
 let w':=w.setCells bb (o+i*q.n+j) v.cells.toList
 have QQ:∀c,c≠bb→w'.heap[c]? =w.heap[c]?:=fun c hc=>Gm _ _ _ _ _ hc
 have aj:∀c,E3.S c→w'.heap[c]? =w.heap[c]?:=fun c hc=>QQ c (fun e=>aI (e▸hc))
 have l8:=GW v.cells.toList (o+i*q.n+j) w bb arr ty fr n2;have Pn:∃SW G' D0,SW.length=q.n∧Bb w' bb (o+i*q.n) SW∧Ow w' E3.S m q SW Qh G'∧(Fx++G).Perm (G'++D0):=by
  rcases hrow with⟨rfl,_,ho4⟩|⟨t,y,hc1,ho4,QV,_⟩
  ·refine⟨v.cells.toList,Fx,G,Od ho4,Mv n2 Qj,CT (fun c hc=>hle.S c hc) (fun c hc=>QQ c (fun e=>aI (e▸hle.S c hc))) (fun c hc=>QQ c (fun e=>hnx (e▸hc))) ho4,AHJ _⟩
  ·obtain⟨_,y0,lU⟩:=Mp QV
   obtain⟨u,K1,K2,z1,z2,z3,z4⟩:=Tg n7 lU;have AFh:bb∉K2:=fun hc=>hnG (z3.mem_iff.2 (by simp[hc]))
   obtain⟨F',f1,f2⟩:=z4 w' E3.S v y Fx Qh (fun _ hc=>hc) aj (fun c hc=>QQ c (fun e=>AFh (e▸hc)))
    (CT (fun c hc=>hle.S c hc) (fun c hc=>QQ c (fun e=>aI (e▸hle.S c hc))) (fun c hc=>QQ c (fun e=>hnx (e▸hc))) ho4) QV
   refine⟨cs.set j v,F',K1,by simpa using n5,fun x u' hx=> ?_,f2,?_⟩
   ·rw[AGN]at hx
    split at hx
    ·rename_i ejx
     subst ejx;split at hx
     ·cases hx
      have:=Mv (w:=w) (b:=bb) (o:=o+i*q.n+j) (vs:=v.cells.toList) n2 Qj 0 v (by rw[hc1];rfl);simpa using this
     ·cases hx
    ·rename_i ejx
     have hold:=n6 x u' hx;rw[Hs n2]at hold;rw[Hs l8,N9 Qj,AEB (fun hh=>by rw[hc1]at hh;simp only[AEI,AEc]at hh;omega),hold]
   ·refine(AE0 Fx z3).trans ?_
    refine List.Perm.trans ?_ (f1.symm.append_right K1)
    rw[AEE];exact AE0 _ AE4
 obtain⟨SW,G',D0,c1,c2,c3,c4⟩:=Pn;obtain⟨XI,f1,f2⟩:=n9 w' E3.S (DL arr (o+i*q.n+j) v.cells.toList) SW Qh G' (fun _ hc=>hc) aj (fun c hc=>QQ c (fun e=>hnR (e▸hc))) l8 (GY _ _ _) (fun k hk=>by
  rw[N9 Qj,AEB (by omega)]) c1 c2 c3
 obtain⟨F',f3,f4⟩:=m4 w' E3.S (ys.set i Qh) XI rows' (fun _ hc=>hc) aj (fun c hc=>QQ c (fun e=>hn2 (e▸hc))) f2 e2;have Xc:(Fx++A).Perm (F'++D0):=by
  have p1:F'.Perm (G'++(bb::R)++F2):=f3.trans (f1.append_right F2);refine(AE0 Fx hAp).trans (List.Perm.trans ?_ (p1.symm.append_right D0))
  classical
  rw[AHH];intro c;have h4:=(AHH.1 c4) c;simp only[List.count_append]at h4⊢;omega
 have AGM:bb∈F':=(f3.trans (f1.append_right F2)).mem_iff.2 (by simp);have hB4:Bm E3 w σ.bx Qc F':=by
  have:Bm E3 w σ.bx Qc (F'++D0):=Bm.perm (G:=Fx++A) ⟨Fs,hFs1,hFs2⟩ Xc;exact this.drop
 have XJ:Qc.length=σ.bx.length:=by rw[k1.len];simp
 have ABY:Qc[b]? =some .dead:=by
  obtain⟨B,hB⟩:∃B,Qc[b]? =some B:=⟨_,AD9 (by omega)⟩;rcases k1.within b B hB with e|e
  ·rw[hB,e]
  ·rw[AEQ Er]at e;rw[hB];exact e.symm
 have hrl:rows'.length=rows.length:=aO hg (by simp) e2;have kT:∀E0,Le E0 E3→Dv E0 w σ.bx σ.bx [] E3 Qc (Fx++A):=fun E0 hl=>⟨hl,XJ,fun n B hn=>by
  rcases k1.within n B hn with e|e
  ·exact .inl e
  ·exact(ACK n B e),⟨Fs,hFs1,by simpa using hFs2⟩⟩
 have Sv:∀n,E3.Ei n=E.Ei n:=fun n=>by rw[YU.Ei]
 have hww:∀c,c<w.heap.size→c∉Fx++A→w'.heap[c]? =w.heap[c]?:=fun c _ hc=>QQ c (fun e=>hc (by rw[e];simp[hbA]))
 have base:T3 E w E3 w':=⟨YU.T,YU.S,YU.ru,YU.jL,fun c hc=>QQ c (fun e=>LI (e▸YU.T c hc)),(B3 _ _ _ _).os,(B3 _ _ _ _).tape,(B3 _ _ _ _).output,(B3 _ _ _ _).size⟩;have finish:∀(f:AV→AV) (g:XV→XV),(∀E0,Le E0 E3→(∀c,E0.S c→E0.T c)→ ∀x v,VR E0 w σ.bx x v→VR E3 w' ((Qc.map (Bx.map f)).set b (.sl (m+1+p.length) r rows')) (f x) v)→
   (∀x v,XR E w σ.bx x v→XR E3 w' ((Qc.map (Bx.map f)).set b (.sl (m+1+p.length) r rows')) (g x) v)→
   Rel E3 { tm:=σ.tm.map g,bx:=(Qc.map (Bx.map f)).set b (.sl (m+1+p.length) r rows') } a w':=by
  intro f g hf hg;refine⟨h.ID,BU.Gw _ hg h.tm,?_⟩;have hT:=hB4.ADf (E':=E3) (w':=w') (vw':=(Qc.map (Bx.map f)).set b (.sl (m+1+p.length) r rows')) f (hf E3 (Le.refl _) hFs2.st) (fun _ h=>h) (fun _ _=>rfl) (fun _ _=>rfl) (fun c hc _=>QQ c (fun e=>by
    rcases hc with hc|hc
    ·exact aI (e▸hc)
    ·exact hc.2 (by rw[e];exact AGM))) (fun F hF=>⟨hF.nodup,hF.free,fun c hc=>by rw[D8];exact hF.lt c hc,hF.st,fun c hc=>by rw[D8];exact hF.TN c hc,hF.eK.mono (fun _ h=>h) (fun c hc=>QQ c (fun e=>LI (e▸hc)))⟩)
  refine Bm.put (F:=F') (G:=[]) (by simpa using hT) (by rw[AFG,ABY];rfl) ⟨by omega,?_⟩;rw[Sv];exact f4
 have sy:∀f:AV→AV,Ka [b] E σ.bx w E3 ((Qc.map (Bx.map f)).set b (.sl (m+1+p.length) r rows')) w':=fun f=>⟨base,by simp[XJ],fun n _=>⟨by rw[YU.EY],Sv n⟩,fun n hn=>by
  have ah:n≠b:=fun e=>by subst e;rw[hb]at hn;cases hn
  have eM:=(AD7.1 hn).1;rw[AEH (fun e=>ah e.symm),AFG];obtain⟨B,hB⟩:∃B,Qc[n]? =some B:=⟨_,AD9 (by omega)⟩;have hBd:B= .dead:=by
   rcases(kT E YU).within n B hB with e|e
   ·exact e
   ·rw[hn]at e;cases e;rfl
  rw[hB,hBd];rfl,fun n B B' ah hB Kt jv=>by
  simp at ah;have eM:=(AD7.1 hB).1;rw[AEH (fun e=>ah e.symm),AFG]at Kt;obtain⟨B2,OP⟩:∃B2,Qc[n]? =some B2:=⟨_,AD9 (by omega)⟩;rw[OP]at Kt;have Kt:Bx.map f B2=B':=by simpa using Kt
  have hBB:B2=B:=by
   rcases(kT E YU).within n B2 OP with e|e
   ·subst e;exact absurd Kt.symm jv
   ·rw[hB]at e;cases e;rfl
  subst hBB;refine⟨?_,fun c hc=>QQ c (fun e=> ?_)⟩
  ·subst Kt
   cases B2 with
   |mem cs=>trivial
   |sl d r rows=>rfl
   |dead=>exact absurd rfl jv
  ·have hF:Fs[n]? =some (Fs[n]'(by have:=(AD7.1 OP).1;rw[hFs1.1];exact this)):=AD9 _
   have UK:gR E3 w n B2 c:=by
    cases B2 with
    |mem cs=>simp only[gR]at hc⊢;rw[YU.EY];exact hc
    |sl d r rows=>simp only[gR]at hc⊢;rw[Sv];exact hc
    |dead=>exact hc
   rcases Tt (hFs1.2 n B2 _ OP hF) UK with hs|hs
   ·exact aI (e▸hs)
   ·exact(AEJ.1 hFs2.nodup).2.2 c (AE5.2 ⟨_,AEN hF,hs⟩) bb (by simp[hbA]) e⟩
 refine⟨bb,o+i*q.n+j,E3,rfl,V8 (k:=0) n2 Qj n3,?_,?_,?_⟩
 ·split at e3
  ·rename_i ADR
   have h0:∀E0,Le E0 E3→(∀c,E0.S c→E0.T c)→Ld E0 w σ.bx E3 w' (Qc.set b (.sl (m+1+p.length) r rows')):=by
    intro E0 hl st0;refine Rm b (kT E0 hl) st0 (by simp[XJ]) (fun n d r rows hn _ hq=>by
      rw[AEH (fun e=>hn e.symm)]at hq;exact hq) (fun _ _=>rfl) (fun _ _=>rfl) rfl rfl hww (fun d0 r0 KW hq=> ?_)
    rw[AEQ (by omega)]at hq;simp only[AD_,Bx.sl.injEq]at hq;obtain⟨rfl,rfl,hq⟩:=hq;obtain rfl:=AE9 hq;refine⟨d,rows,hb,fun p' vF q' zs gP=> ?_⟩;rcases hrow with⟨_,yI,_⟩|⟨t,y,hc1,ho4,QV,vE⟩
    ·rw[ADR]at yI;cases yI
    obtain⟨xR,zH⟩:=vE ADR;have hk:=XU xR hp hg hi QV e2 vF q' zs gP;refine⟨hk.1,hk.2,fun hh hhe=> ?_⟩;rw[Sv];rw[←hl.Ei,Sv]at hhe;refine cA (fun Ad=> ?_) (Pj f4) hk.1 hhe;by_cases eA:Ad.block=bb∧Ad.spot=none∧Ad.off=o+i*q.n+j
    ·right
     obtain⟨ab,ao,asp⟩:=Ad;simp only at eA;rw[eA.1,eA.2.1,eA.2.2];refine⟨v,?_,zH⟩;have:=Mv (w:=w) (b:=bb) (o:=o+i*q.n+j) (vs:=v.cells.toList) n2 Qj 0 v (by rw[hc1];rfl);simpa using this
    ·left
     refine World.cell?_setCells_out bb v.cells.toList (o+i*q.n+j) w Ad (fun q1 q2=> ?_)
     rw[hc1];simp only[AEI,AEc];have:Ad.off≠o+i*q.n+j:=fun q3=>eA ⟨q1,q2,q3⟩
     omega
   have:=finish id id (fun E0 hl st0 x v hx=>by rw[Qy];exact DN (h0 E0 hl st0) hx) (fun x v hx=>by rw[Qy];exact JH (h0 E YU st) hx);rw[Qy,List.map_id]at this;rw[←e3];exact this
  ·have h0:∀E0,Le E0 E3→(∀c,E0.S c→E0.T c)→ ∀x v,VR E0 w σ.bx x v→VR E3 w' ((Qc.map (Bx.map (Fj b))).set b (.sl (m+1+p.length) r rows')) (Fj b x) v:=by
    intro E0 hl st0 x v hx;have keep:Ld E0 w σ.bx E3 w' (((Qc.map (Bx.map (Fj b))).set b (.sl (m+1+p.length) r rows')).set b .dead):=by
     refine Rm b (kT E0 hl) st0 (by simp[XJ]) (fun n d r rows hn _ hq=>by
      rw[AEH (fun e=>hn e.symm),AEH (fun e=>hn e.symm)]at hq;exact nU hq) (fun _ _=>rfl) (fun _ _=>rfl) rfl rfl hww (fun d0 r0 KW hq=> ?_)
     rw[AEQ (by simp;omega)]at hq;cases hq
    exact nR keep hb (by rw[AEQ (by simp;omega)]) hrl (by rw[hl.Ei]) hx
   have:=finish (Fj b) (cv b) h0 (fun x v hx=>mZ (h0 E YU st) hx);rw[←e3];simp only[St.ji];rw[Xf,Zf];exact this
 ·rw[←e3]
  split
  ·have:=sy id
   rw[Qy]at this;exact this
  ·simp only[St.ji]
   rw[Xf,Zf];exact sy _
 ·rw[←e3]
  split<;>simp[St.ji]
end Go.Fw
end
section
namespace Go.Fw
theorem dM{w w':World}{B B':Nat→Prop}:∀{r:Ty} {cs:List Value} {x:r.D},r.flat=true→Rd w B r cs x→Rd w' B' r cs x
 | .cons c r,cs,x,h,hr=>by
  simp only[Ty.flat,AEF]at h;simp only[Rd]at hr⊢;obtain⟨v,l,rfl,h1,h2⟩:=hr;exact⟨v,l,rfl,dM h.1 h1,dM h.2 h2⟩
 | .unit,_,_,_,hr=>by simpa only[Rd]using hr
 | .int k,_,_,_,hr=>by simpa only[Rd]using hr
 | .bool,_,_,_,hr=>by simpa only[Rd]using hr
 | .str,_,_,_,hr=>by simpa only[Rd]using hr
 | .sl q,_,_,h,_=>by simp[Ty.flat]at h
theorem TC{w:World}{S:Nat→Prop}{d:Nat}:∀{r:Ty} {cs:List Value} {y:r.D} {F:ABC},r.flat=true→Ow w S d r cs y F→F=[]
 | .int k,_,_,_,_,h=>by simp only[Ow]at h;exact h.2
 | .bool,_,_,_,_,h=>by simp only[Ow]at h;exact h.2
 | .str,_,_,_,_,h=>by simp only[Ow]at h;exact h.2
 | .unit,_,_,_,_,h=>by simp only[Ow]at h;exact h.2
 | .cons c r,_,_,_,hf,h=>by
  simp only[Ty.flat,AEF]at hf;simp only[Ow]at h;obtain⟨v,l,F1,F2,_,rfl,h1,h2⟩:=h;rw[TC hf.1 h1,TC hf.2 h2];rfl
 | .sl q,_,_,_,hf,_=>by simp[Ty.flat]at hf
theorem eR{w w':World}{S S':Nat→Prop}{d d':Nat}{r:Ty}(hr:r.flat=true){cs:List Value}{y:r.D}{F:ABC}(h:Ow w S d r cs y F):F=[]∧cs.length=r.n∧Ow w' S' d' r cs y []:=
 ⟨TC hr h,Od h,V3 hr (dM (B':=fun _=>False) hr (Pj h))⟩
theorem Vm:∀{r:Ty} {j:Nat} {x:r.D} {t:Ty} {y:t.D},r.flat=true→AY r j x=some ⟨t,y⟩→t.flat=true
 | .cons c r,0,x,t,y,h,e=>by
  simp only[Ty.flat,AEF]at h;simp only[AY,AD_,AEP]at e;obtain⟨rfl,_⟩:=e;exact h.1
 | .cons c r,j+1,x,t,y,h,e=>by
  simp only[Ty.flat,AEF]at h;simp only[AY]at e;exact Vm h.2 e
 | .unit,_,_,_,_,_,e=>by simp[AY]at e
 | .int k,0,x,t,y,_,e=>by simp only[AY,AD_,AEP]at e;obtain⟨rfl,_⟩:=e;rfl
 | .bool,0,x,t,y,_,e=>by simp only[AY,AD_,AEP]at e;obtain⟨rfl,_⟩:=e;rfl
 | .str,0,x,t,y,_,e=>by simp only[AY,AD_,AEP]at e;obtain⟨rfl,_⟩:=e;rfl
 | .sl _,_,_,_,_,h,_=>by simp[Ty.flat]at h
 | .int _,_+1,_,_,_,_,e=>by simp[AY]at e
 | .bool,_+1,_,_,_,_,e=>by simp[AY]at e
 | .str,_+1,_,_,_,_,e=>by simp[AY]at e
theorem kv{r:Ty}(hr:r.flat=true){rows:List r.D}:∀{p:List Xm},Bt r rows p→p=[]
 |[],_=>rfl
 |s::p,h=>by
  simp only[Bt]at h;obtain⟨_,_,h⟩:=h;exfalso;cases hc:AY r s.j (rowAt r rows s.i)with
  |none=>rw[hc]at h;exact h
  |some tx=>
   obtain⟨t,x⟩:=tx;have hf:=Vm hr hc;rw[hc]at h;cases t<;>simp_all[Ty.flat]
theorem flatten_nil{l:List ABC}(h:∀x∈l,x=[]):l.flatten=[]:=by
 induction l with
 |nil=>rfl
 |cons x l ih=>
  rw[AFO,h x (by simp),ih (fun y hy=>h y (by simp[hy]))];rfl
theorem j6{E:Env}{σ:St}{a:Act}{w:World}(h:Rel E σ a w){b d off n:Nat}{r:Ty}{rows:List r.D}(hb:σ.bx[b]? =some (.sl d r rows))(hr:r.flat=true)(hgd:r.X0=true)(hk:0<r.n)(hl:off+n≤rows.length)(hn:0<n):
  ∃bb o cap,E.Ei b= .slice (some ⟨bb,o,none⟩) rows.length cap∧rows.length≤cap∧w.there bb (o+off*r.n) (n*r.n)∧
   Rel E { σ with bx:=σ.bx.set b (.sl d r ((rows.take off++List.replicate n r.z)++rows.drop (off+n))) } a (w.setCells bb (o+off*r.n) (List.replicate n (DP r)).flatten)∧
   Ka [b] E σ.bx w E (σ.bx.set b (.sl d r ((rows.take off++List.replicate n r.z)++rows.drop (off+n)))) (w.setCells bb (o+off*r.n) (List.replicate n (DP r)).flatten):=by
 have st:=h.bx.st;obtain⟨F,⟨hd,ho⟩,hB⟩:=h.bx.take hb;simp only[AEX]at hB;have Er:=(AD7.1 hb).1;obtain⟨d',rfl⟩:∃m,d=m+1:=⟨d-1,by omega⟩;simp only[Ow]at ho;obtain⟨ad,cap,hh,nz,ho⟩:=ho;simp only[AEk,AFR]at hh;rcases ho with⟨rfl,_⟩|⟨bb,o,arr,ty,fr,Fs,rfl,ha,He,hu,rfl,hFl,Qm⟩
 ·omega
 have hFn:List.flatten Fs=[]:=flatten_nil fun x hx=>by
  obtain⟨i,hi,hxi⟩:=AFr hx;obtain⟨cs,_,_,h3⟩:=Qm i (rows[i]'(by omega)) x (AD9 _) (by rw[AD9 hi,hxi]);exact(eR (w':=w) (S':=E.S) (d':=0) hr h3).1
 rw[hFn]at hB;have hzl:(DP r).length=r.n:=F8 r;have hvl:((List.replicate n (DP r)).flatten).length=n*r.n:=by rw[Cx,hzl]
 have n0:(off+n)*r.n≤cap*r.n:=AFQ _ (by omega);have hm2:(off+n)*r.n=off*r.n+n*r.n:=AGI ..;have Qj:o+off*r.n+((List.replicate n (DP r)).flatten).length≤arr.size:=by omega
 generalize O7:(List.replicate n (DP r)).flatten=vs at hvl Qj
 refine⟨bb,o,cap,hh,nz,V8 ha (by omega) hu,?_⟩;have LI: ¬E.T bb:=hB.mf _ (by simp);have hB0:=hB;have QQ:∀c,c≠bb→(w.setCells bb (o+off*r.n) vs).heap[c]? =w.heap[c]?:=fun c hc=>Gm _ _ _ _ _ hc
 have hw:∀c,c<w.heap.size→c∉[bb]→(w.setCells bb (o+off*r.n) vs).heap[c]? =w.heap[c]?:=fun c _ hc=>QQ c (by simpa using hc)
 have kT:Dv E w σ.bx σ.bx [] E (σ.bx.set b .dead) [bb]:=⟨Le.refl _,by simp,fun n B hn=>by
  by_cases en:n=b
  ·subst en
   rw[AEQ Er]at hn;exact .inl (by simpa using hn.symm)
  ·rw[AEH (fun h=>en h.symm)]at hn
   exact .inr hn,by simpa using hB⟩
 generalize iH:(rows.take off++List.replicate n r.z)++rows.drop (off+n)=rows'
 have uw:rows'.length=rows.length:=by
  rw[←iH];simp;omega
 have keep:Ld E w σ.bx E (w.setCells bb (o+off*r.n) vs) (σ.bx.set b (.sl (d'+1) r rows')):=Rm b kT st (by simp) (fun n d r rows hn _ hq=>by
   rw[AEH (by omega)]at hq⊢;exact hq) (fun _ _=>rfl) (fun _ _=>rfl) rfl rfl hw (fun d1 r1 vA hq=>by
   rw[AEQ Er]at hq;simp only[AD_,Bx.sl.injEq]at hq;obtain⟨rfl,rfl,hq⟩:=hq;obtain rfl:=AE9 hq;refine⟨d'+1,rows,hb,fun p hp q ys hg=> ?_⟩;obtain rfl:=kv hr hp;simp only[Dl,AD_,AEP]at hg;obtain⟨rfl,hg⟩:=hg;obtain rfl:=AE9 hg;exact⟨by simp[Bt],⟨rows',by simp[Dl],uw⟩,fun h' hh' =>hh'⟩)
 refine⟨⟨h.ID,h.tm.imp fun _ _ hq=>JH keep hq,?_⟩,⟨⟨fun _ h=>h,fun _ h=>h,fun _ h=> .inl h,fun _ h=> .inl h,fun c hc=>QQ c (fun e=>LI (e▸hc)),(B3 _ _ _ _).os,(B3 _ _ _ _).tape,(B3 _ _ _ _).output,(B3 _ _ _ _).size⟩,by simp,fun _ _=>⟨rfl,rfl⟩,fun n hn=>by
  rw[AEH (fun e=>by subst e;rw[hb]at hn;cases hn)];exact hn,fun n B B' ah hB Kt jv=>by
  simp at ah;rw[AEH (fun e=>ah e.symm),hB]at Kt;cases Kt;refine⟨ND.refl jv,fun c hc=>QQ c (fun e=> ?_)⟩;obtain⟨Fs,⟨f1,f2⟩,f3⟩:=hB0;have OP:(σ.bx.set b .dead)[n]? =some B:=by rw[AEH (fun e=>ah e.symm)];exact hB
  have hF:Fs[n]? =some (Fs[n]'(by have:=(AD7.1 OP).1;omega)):=AD9 _;rcases Tt (f2 n B _ OP hF) hc with hs|hs
  ·exact LI (e▸st c hs)
  ·exact(AEJ.1 f3.nodup).2.2 c (AE5.2 ⟨_,AEN hF,hs⟩) bb (by simp) e⟩⟩
 have hT:=hB.turn (E':=E) (w':=w.setCells bb (o+off*r.n) vs) (vw':=σ.bx.set b (.sl (d'+1) r rows')) (fun x v hq=>DN keep hq) (fun _ h=>h) (fun _ _=>rfl) (fun _ _=>rfl) (fun c hc _=>QQ c (fun e=>by
   rcases hc with hc|hc
   ·exact LI (e▸st c hc)
   ·exact hc.2 (by simp[e]))) (fun F hF=>⟨hF.nodup,hF.free,fun c hc=>by rw[D8];exact hF.lt c hc,hF.st,fun c hc=>by rw[D8];exact hF.TN c hc,hF.eK.mono (fun _ h=>h) (fun c hc=>QQ c (fun e=>LI (e▸hc)))⟩)
 have AF4:ZH E (w.setCells bb (o+off*r.n) vs) (σ.bx.set b (.sl (d'+1) r rows')) b (.sl (d'+1) r rows') [bb]:=by
  refine⟨hd,?_⟩;simp only[Ow];refine⟨_,cap,by rw[hh,uw],by omega,.inr ⟨bb,o,DL arr (o+off*r.n) vs,ty,fr,List.replicate rows'.length [],rfl,GW _ _ _ _ _ _ _ ha,by rw[GY];omega,by rw[GY];exact hu,by simp,by simp,fun i y G hy hG=> ?_⟩⟩;have hG':G=[]:=AFy (AEN hG);subst hG';have hil:i<rows.length:=by have:=(AD7.1 hy).1;omega
  by_cases RE:off≤i∧i<off+n
  ·have hyz:y=r.z:=by
    rw[←iH,AEG (by simp;omega),AES (by simp;omega)]at hy;exact AFy (AEN hy)
   subst hyz;refine⟨DP r,hzl,fun j v hj=> ?_,VQ hgd⟩;have jB:j<r.n:=by have:=(AD7.1 hj).1;omega
   have e1:(i-off)*r.n=i*r.n-off*r.n:=Nat.sub_mul ..;have e2:off*r.n≤i*r.n:=AFQ _ RE.1;have e3:(i-off+1)*r.n≤n*r.n:=AFQ _ (by omega);rw[AGI,AG4]at e3;have:=Mv ha Qj ((i-off)*r.n+j) v (by
    rw[←O7,Hz (by rw[hzl];omega),hzl,Nat.mul_comm (i-off),Nat.mul_add_mod,Nat.mod_eq_of_lt jB];exact hj)
   rw[show o+off*r.n+((i-off)*r.n+j)=o+i*r.n+j by omega]at this;exact this
  ·have hyo:rows[i]? =some y:=by
    rw[←iH]at hy;by_cases h1:i<off
    ·rw[AEG (by simp;omega),AEG (by simp;omega),List.getElem?_take,AEA h1]at hy
     exact hy
    ·rw[AES (by simp;omega),AGn]at hy
     rw[←hy];congr 1;simp;omega
   obtain⟨cs,c1,c2,c3⟩:=Qm i y (Fs[i]'(by omega)) hyo (AD9 _);obtain⟨_,c4,c5⟩:=eR (w':=w.setCells bb (o+off*r.n) vs) (S':=E.S) (d':=d') hr c3;refine⟨cs,c4,UN c2 ha Qj (.inr ?_),c5⟩;by_cases h1:i<off
   ·have:(i+1)*r.n≤off*r.n:=AFQ _ h1
    rw[AGI,AG4]at this;omega
   ·have:(off+n)*r.n≤i*r.n:=AFQ _ (by omega)
    omega
 have:=Bm.put (b:=b) (B:= .sl (d'+1) r rows') (F:=[bb]) (G:=[]) (by simpa using hT) (by rw[AEQ Er]) AF4;rw[AG8]at this;exact this
section
variable{Y:Type} {P:Program} {T:F9} (hT:C2 P T) {o:Oper} {E:Env} {σ:St} {a:Act} {w:World} {k:K Y} {y:Y}
include hT
theorem iM(h:Rel E σ a w){c:Call}{x:XV}(ho:o.op= .call c)(hc:c.callee= .builtin .clear)(E6:c.args.toList.map σ.ev=[x])(e:WM T c.argTypes σ x k=some y)
  (AFA:∀b p off n,x= .c (.win b p off n)→Eu (fun _=>none) σ o.op=[b]):∃v w' E' xv σ',((execOp a.eval o).run P w= .ok (.value v) w'∨((execOp a.eval o).run P w= .ok .skip w'∧v=undef))∧Rel E' σ' a w'∧XR E' w' σ'.bx xv v∧
   Ka (Eu (fun _=>none) σ o.op) E σ.bx w E' σ'.bx w'∧σ'.tm.length=σ.tm.length∧k xv σ' =some y:=by
 obtain⟨o1,hargs',rfl⟩:=OZ E6;have SK:=h.ev o1;unfold WM at e;split at e
 case h_2=>cases e
 rename_i t b off n ht hx;rw[hx]at SK;rw[AFA b [] off n hx];split at e
 case h_2=>cases e
 rename_i d r rows hb;split at e
 case isFalse=>cases e
 rename_i RF;rw[AEF]at RF;obtain⟨RF,hr⟩:=RF;rw[AEF,AEK]at hr;obtain⟨hr,hk⟩:=hr;obtain⟨el,ti,hu,Kq,hs,hby,hrow⟩:=Ix hT RF;obtain⟨i,z,i1,i2,i3,i4,i5,hg⟩:=Th hT Kq hrow;have RD:VR E w σ.bx (.win b [] off n) (a.eval o1):=SK;simp only[VR,hb]at RD;obtain⟨_,_,q,ys,ad,len,cap,zJ,hl,hh,hv⟩:=RD;simp only[Dl,AD_,AEP]at zJ;obtain⟨rfl,zJ⟩:=zJ;obtain rfl:=AE9 zJ;simp only[Fb,AD_]at hh;by_cases hn:n=0
 ·subst hn
  have ADP:(rows.take off++List.replicate 0 r.z)++rows.drop (off+0)=rows:=by simp
  rw[ADP]at e;have QV:σ.bx.set b (.sl d r rows)=σ.bx:=by
   apply AGb;intro j;rw[AGN];split
   ·rename_i e1
    subst e1;rw[hb];simp[(AD7.1 hb).1]
   ·rfl
  rw[QV]at e;refine⟨.tuple #[],w,E,.c .undef,σ,.inl ?_,h,trivial,Ka.refl _ _ _ _,rfl,e⟩;have hz:∃a' c',a.eval o1= .slice a' 0 c':=⟨_,_,by rw[hv];rfl⟩;obtain⟨a',c',hz⟩:=hz;simp only[execOp,ho,resolve,hc,hargs',invoke,builtin,Sem.run_bind,Sem.run_pure,Result.andThen_ok,List.map_toArray,AGY,AG9,Builtin.clear_,ht,hz];cases a'<;>simp[Am hu]
 ·obtain⟨bb,oo,cap',g1,g2,g3,g4,g5⟩:=j6 h (d:=d) hb hr hg hk hl (by omega)
  rw[g1]at hh;simp only[Value.slice.injEq]at hh;obtain⟨rfl,rfl,rfl⟩:=hh;have SF:a.eval o1= .slice (some ⟨bb,oo+off*r.n,none⟩) n (cap'-off):=by
   rw[hv];unfold LJ;rw[AEB (by omega)];simp[Addr.add]
  refine⟨.tuple #[],_,E,.c .undef,_,.inl ?_,g4,trivial,g5,rfl,e⟩;have hz:(Builtin.zeroCells z.cells n).toList=(List.replicate n (DP r)).flatten:=by
   unfold Builtin.zeroCells;have hzn:z.cells.size=(DP r).length:=by rw[←i5];simp
   have:=Rs i5 n (fun hh=>by have:=F8 r;rw[hh]at this;simp at this;omega);rw[←hzn]at this;exact this
  have h1:∀v∈(List.replicate n (DP r)).flatten,v.oneCell' =true:=fun v hv=>by
   obtain⟨l,hl1,r_⟩:=AE5.1 hv;rw[AFy hl1]at r_;exact ZX (w:=w) (S:=E.S) (d:=0) (VQ hg) v r_
  have hvl:((List.replicate n (DP r)).flatten).length=n*r.n:=by rw[Cx,F8]
  have iL:=run_storeCells_cells (P:=P) bb (oo+off*r.n) (List.replicate n (DP r)).flatten 0 w (fun j hj=>by simpa using(g3 j (by omega)).1) (fun j hj=>by simpa using(g3 j (by omega)).2) h1;rw[AGS]at iL;obtain⟨n',rfl⟩:∃n',n=n'+1:=⟨n-1,by omega⟩;simp only[execOp,ho,resolve,hc,hargs',invoke,builtin,Sem.run_bind,Sem.run_pure,Result.andThen_ok,List.map_toArray,AGY,AG9,Builtin.clear_,ht,SF];simp[Am hu,zeroValue,typeInfo,i1,i4,hz,iL]
end
end Go.Fw
end
