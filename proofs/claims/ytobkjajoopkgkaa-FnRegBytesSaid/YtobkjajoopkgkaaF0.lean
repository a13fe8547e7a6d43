/- The framework, part 1: a checked interpreter of the model's code over abstract states; no claim is made here. -/
import Derived.Calls
import Derived.Still
import Derived.Laws.World
import Derived.Laws.AppendOwn
import Derived.RowKit3
import Derived.Deep.MidRow
import Derived.Laws.StructEq
import Derived.Lib.ConvBytes
import Derived.Laws.BytesArg
set_option linter.unusedVariables false
set_option linter.unusedSimpArgs false
section
namespace Go.Fw
inductive Ty where
  | int (k : IntKind) | bool | str | sl (r : Ty) | unit | cons (c r : Ty)
  deriving DecidableEq
@[reducible] def Ty.D : Ty → Type
  | .int _ => Int
  | .bool => Bool
  | .str => List UInt8
  | .sl r => List r.D
  | .unit => Unit
  | .cons c r => c.D × r.D
def Ty.n : Ty → Nat
  | .unit => 0
  | .cons _ r => r.n + 1
  | _ => 1
def Ty.z : (t : Ty) → t.D
  | .int _ => (0 : Int)
  | .bool => false
  | .str => []
  | .sl _ => []
  | .unit => ()
  | .cons c r => (c.z, r.z)
def Ty.flat : Ty → Bool
  | .sl _ => false
  | .cons c r => c.flat && r.flat
  | _ => true
def Ty.scalar : Ty → Bool
  | .int _ | .bool | .str => true
  | _ => false
structure Stp where
  i : Nat
  sz : Nat
  j : Nat
inductive AV where
  | v (t : Ty) (x : t.D)
  | sl (s : Bool) (r : Ty) (x : List r.D)
  | nil
  | ref (b : Nat) (p : List Stp)
  | win (b : Nat) (p : List Stp) (off n : Nat)
  | maddr (b j : Nat)
  | saddr (b : Nat) (p : List Stp) (i sz j : Nat)
  | raddr (s : Bool) (r : Ty) (x : r.D) (j : Nat)
  | fn (f : Nat) (caps : List Nat)
  | rfn (f : Nat) (rows : List ((r : Ty) × r.D))
  | nilp
  | undef
def AV.known : AV → Bool
  | .undef => false
  | _ => true
inductive XV where
  | c (x : AV)
  | agg (l : List AV)
  | tup (l : List (AV ⊕ List AV))
inductive Bx where
  | mem (cs : List AV)
  | sl (d : Nat) (r : Ty) (rows : List r.D)
  | dead
structure St where
  tm : List XV
  bx : List Bx
def cellGet : (r : Ty) → (j : Nat) → r.D → Option ((t : Ty) × t.D)
  | .cons c _, 0, x => some ⟨c, x.1⟩
  | .cons _ r, j + 1, x => cellGet r j x.2
  | .unit, _, _ => none
  | .int k, 0, x => some ⟨.int k, x⟩
  | .bool, 0, x => some ⟨.bool, x⟩
  | .str, 0, x => some ⟨.str, x⟩
  | .sl r, 0, x => some ⟨.sl r, x⟩
  | _, _ + 1, _ => none
def castD {a b : Ty} (h : a = b) (x : a.D) : b.D := h ▸ x
def cellSet : (r : Ty) → (j : Nat) → r.D → (t : Ty) → t.D → Option r.D
  | .cons c _, 0, x, t, y => if h : t = c then some (castD h y, x.2) else none
  | .cons _ r, j + 1, x, t, y => (cellSet r j x.2 t y).map fun z => (x.1, z)
  | .unit, _, _, _, _ => none
  | .int k, 0, _, t, y => if h : t = .int k then some (castD h y) else none
  | .bool, 0, _, t, y => if h : t = .bool then some (castD h y) else none
  | .str, 0, _, t, y => if h : t = .str then some (castD h y) else none
  | .sl r, 0, _, t, y => if h : t = .sl r then some (castD h y) else none
  | _, _ + 1, _, _, _ => none
def rowAt (r : Ty) (rows : List r.D) (i : Nat) : r.D := rows.getD i r.z
def getP : (r : Ty) → List r.D → List Stp → Option ((q : Ty) × List q.D)
  | r, rows, [] => some ⟨r, rows⟩
  | r, rows, s :: p =>
    match cellGet r s.j (rowAt r rows s.i) with
    | some ⟨.sl q, x⟩ => getP q x p
    | _ => none
def setP : (r : Ty) → List r.D → List Stp → (q : Ty) → List q.D → Option (List r.D)
  | r, _, [], q, y => if h : q = r then some (castD (congrArg Ty.sl h) y) else none
  | r, rows, s :: p, q, y =>
    match cellGet r s.j (rowAt r rows s.i) with
    | some ⟨.sl r', x⟩ => (setP r' x p q y).bind fun x' => (cellSet r s.j (rowAt r rows s.i) (.sl r') x').map fun row => rows.set s.i row
    | _ => none
inductive TD where
  | int (k : IntKind) | bool | str | sl (e : Nat) | st (fs : List (Nat × Nat)) | ptr (e : Nat) | other
structure TI where
  size : Nat
  bytes : Nat
  desc : TD
  row : Option Ty
abbrev Tab := List (Nat × TI)
def Tab.get : Tab → Nat → Option TI
  | [], _ => none
  | (u, i) :: l, t => if u = t then some i else Tab.get l t
def TD.agg : TD → Bool
  | .st _ => true
  | _ => false
def Tab.rowTy (T : Tab) (t : Nat) : Option Ty :=
  match T.get t with
  | some ti => ti.row
  | none => none
def zeroAV : Ty → AV
  | .int k => .v (.int k) (0 : Int)
  | .bool => .v .bool false
  | .str => .v .str []
  | .sl _ => .nil
  | _ => .undef
def zeroRow : Ty → List AV
  | .cons c r => zeroAV c :: zeroRow r
  | .unit => []
  | t => [zeroAV t]
def ofCell : Value → AV
  | .int k n => .v (.int k) n
  | .bool b => .v .bool b
  | .string s => .v .str s.data.toList
  | .slice none 0 0 => .nil
  | .pointer none => .nilp
  | _ => .undef
def ofValue : Value → XV
  | .agg cs => .agg (cs.toList.map ofCell)
  | v => .c (ofCell v)
def St.ev (σ : St) : Operand → XV
  | .tmp t => σ.tm.getD t (.c .undef)
  | .const v => ofValue v
  | .global _ => .c .undef
  | .func f => .c (.fn f [])
def St.put (σ : St) (dst : Option Tmp) (x : XV) : St :=
  match dst with
  | some d => { σ with tm := σ.tm.set d x }
  | none => σ
def XV.cells : XV → List AV
  | .c x => [x]
  | .agg l => l
  | .tup _ => []
def sameTy {β : Ty → Type} (a b : Ty) (x : β a) : Option (β b) := if h : a = b then some (h ▸ x) else none
def readSl (bx : List Bx) : AV → Option ((r : Ty) × List r.D)
  | .sl _ r x => some ⟨r, x⟩
  | .ref b p =>
    match bx[b]? with
    | some (.sl _ r rows) => getP r rows p
    | _ => none
  | .win b p off n =>
    match bx[b]? with
    | some (.sl _ r rows) => (getP r rows p).map fun q => ⟨q.1, (q.2.drop off).take n⟩
    | _ => none
  | _ => none
def readCell (bx : List Bx) (t : Ty) (x : AV) : Option t.D :=
  match x with
  | .v u y => sameTy (β := Ty.D) u t y
  | .nil => match t with
    | .sl _ => some []
    | _ => none
  | x => match t with
    | .sl r => (readSl bx x).bind fun q => sameTy (β := fun r => List r.D) q.1 r q.2
    | _ => none
def readRow (bx : List Bx) : (r : Ty) → List AV → Option r.D
  | .unit, [] => some ()
  | .cons c r, x :: l => (readCell bx c x).bind fun a => (readRow bx r l).map fun b => (a, b)
  | _, _ => none
def lenOf (bx : List Bx) : AV → Option Nat
  | .nil => some 0
  | .sl _ _ x => some x.length
  | .ref b p =>
    match bx[b]? with
    | some (.sl _ r rows) => (getP r rows p).map fun q => q.2.length
    | _ => none
  | .win b _ _ n =>
    match bx[b]? with
    | some (.sl _ _ _) => some n
    | _ => none
  | _ => none
inductive AP where
  | v (t : Ty)
  | sl (s : Bool) (r : Ty)
  | nil
  | ref (i : Nat)
  | ptr (i j : Nat)
  | prow (r : Ty)
  | fn (f : Nat) (caps : List Nat)
  | rfn (f : Nat) (rs : List Ty)
  | any
  | refp (i sz : Nat)
inductive XP where
  | c (p : AP)
  | agg (l : List AP)
  | row (r : Ty)
  | tup (l : List (AP ⊕ List AP))
inductive BP where
  | mem (l : List AP)
  | sl (d : Nat) (r : Ty)
  | gone
structure Shp where
  slots : List (Nat × XP)
  bxs : List BP
@[reducible] def TysV : List Ty → Type
  | [] => Unit
  | r :: l => r.D × TysV l
def TysV.mk : (l : List Ty) → TysV l → List ((r : Ty) × r.D)
  | [], _ => []
  | r :: l, x => ⟨r, x.1⟩ :: TysV.mk l x.2
@[reducible] def AP.V : AP → Type
  | .rfn _ rs => TysV rs
  | .v t => t.D
  | .sl _ r => List r.D
  | .prow r => r.D
  | .refp _ _ => Nat × Nat
  | _ => Unit
@[reducible] def APs.V : List AP → Type
  | [] => Unit
  | p :: l => p.V × APs.V l
@[reducible] def TPs.V : List (AP ⊕ List AP) → Type
  | [] => Unit
  | .inl p :: l => p.V × TPs.V l
  | .inr q :: l => APs.V q × TPs.V l
@[reducible] def XP.V : XP → Type
  | .c p => p.V
  | .agg l => APs.V l
  | .row r => r.D
  | .tup l => TPs.V l
@[reducible] def BP.V : BP → Type
  | .mem l => APs.V l
  | .sl _ r => List r.D
  | .gone => Unit
@[reducible] def Slots.V : List (Nat × XP) → Type
  | [] => Unit
  | (_, p) :: l => p.V × Slots.V l
@[reducible] def BPs.V : List BP → Type
  | [] => Unit
  | p :: l => p.V × BPs.V l
@[reducible] def Shp.V (s : Shp) : Type := Slots.V s.slots × BPs.V s.bxs
def AP.mk (m : Nat → Nat) : (p : AP) → p.V → AV
  | .v t, x => .v t x
  | .sl s r, x => .sl s r x
  | .nil, _ => .nil
  | .ref i, _ => .ref (m i) []
  | .ptr i j, _ => .maddr (m i) j
  | .prow r, x => .raddr false r x 0
  | .fn f caps, _ => .fn f (caps.map m)
  | .rfn f rs, x => .rfn f (TysV.mk rs x)
  | .any, _ => .undef
  | .refp i sz, k => .ref (m i) [⟨k.1, sz, k.2⟩]
def APs.mk (m : Nat → Nat) : (l : List AP) → APs.V l → List AV
  | [], _ => []
  | p :: l, x => p.mk m x.1 :: APs.mk m l x.2
def rowCells : (r : Ty) → r.D → List AV
  | .unit, _ => []
  | .cons c r, x => (match c, x.1 with
    | .sl q, y => AV.sl false q y
    | c, y => .v c y) :: rowCells r x.2
  | .sl q, x => [.sl false q x]
  | .int k, x => [.v (.int k) x]
  | .bool, x => [.v .bool x]
  | .str, x => [.v .str x]
def TPs.mk (m : Nat → Nat) : (l : List (AP ⊕ List AP)) → TPs.V l → List (AV ⊕ List AV)
  | [], _ => []
  | .inl p :: l, x => .inl (p.mk m x.1) :: TPs.mk m l x.2
  | .inr q :: l, x => .inr (APs.mk m q x.1) :: TPs.mk m l x.2
def XP.mk (m : Nat → Nat) : (p : XP) → p.V → XV
  | .c p, x => .c (p.mk m x)
  | .agg l, x => .agg (APs.mk m l x)
  | .row r, x => .agg (rowCells r x)
  | .tup l, x => .tup (TPs.mk m l x)
def BP.mk (m : Nat → Nat) : (p : BP) → p.V → Bx
  | .mem l, x => .mem (APs.mk m l x)
  | .sl d r, x => .sl d r x
  | .gone, _ => .dead
def Slots.mk (m : Nat → Nat) : (l : List (Nat × XP)) → Slots.V l → List XV → List XV
  | [], _, tm => tm
  | (i, p) :: l, x, tm => Slots.mk m l x.2 (tm.set i (p.mk m x.1))
def BPs.mk (m : Nat → Nat) : (l : List BP) → BPs.V l → List Bx
  | [], _ => []
  | p :: l, x => p.mk m x.1 :: BPs.mk m l x.2
def Shp.st (s : Shp) (n : Nat) (x : s.V) : St :=
  { tm := Slots.mk id s.slots x.1 (List.replicate n (.c .undef)), bx := BPs.mk id s.bxs x.2 }
abbrev Asg := List (Option Nat)
def Asg.put (m : Asg) (i b : Nat) : Option Asg :=
  match m[i]? with
  | some none => if m.contains (some b) then none else some (m.set i (some b))
  | some (some b') => if b' = b then some m else none
  | none => none
def asgCaps : Asg → List Nat → List Nat → Option Asg
  | m, [], [] => some m
  | m, i :: is, b :: bs => (m.put i b).bind fun m => asgCaps m is bs
  | _, _, _ => none
def AP.asg (N : Nat) (m : Asg) : AP → AV → Option Asg
  | .ref i, .ref b [] => m.put i b
  | .ref i, .nil => m.put i (N + i)
  | .ref _, _ => none
  | .refp i sz, .ref b [s] => if s.sz = sz then m.put i b else none
  | .refp _ _, _ => none
  | .ptr i j, .maddr b j' => if j = j' then m.put i b else none
  | .ptr _ _, _ => none
  | .fn f caps, .fn g bs => if f = g then asgCaps m caps bs else none
  | .fn _ _, _ => none
  | .nil, .nil => some m
  | .nil, _ => none
  | _, _ => some m
def APs.asg (N : Nat) : Asg → List AP → List AV → Option Asg
  | m, [], [] => some m
  | m, p :: l, x :: xs => (p.asg N m x).bind fun m => APs.asg N m l xs
  | _, _, _ => none
def TPs.asg (N : Nat) : Asg → List (AP ⊕ List AP) → List (AV ⊕ List AV) → Option Asg
  | m, [], [] => some m
  | m, .inl p :: l, .inl x :: xs => (p.asg N m x).bind fun m => TPs.asg N m l xs
  | m, .inr p :: l, .inr x :: xs => (APs.asg N m p x).bind fun m => TPs.asg N m l xs
  | _, _, _ => none
def XP.asg (N : Nat) (m : Asg) : XP → XV → Option Asg
  | .c p, .c x => p.asg N m x
  | .agg l, .agg xs => APs.asg N m l xs
  | .row _, .agg _ => some m
  | .tup l, .tup xs => TPs.asg N m l xs
  | _, _ => none
def Slots.asg (N : Nat) (tm : List XV) : Asg → List (Nat × XP) → Option Asg
  | m, [] => some m
  | m, (i, p) :: l =>
    match tm[i]? with
    | some x => (p.asg N m x).bind fun m => Slots.asg N tm m l
    | none => none
def BPs.asg (N : Nat) (bx : List Bx) : Nat → Asg → List BP → Option Asg
  | _, m, [] => some m
  | i, m, .mem l :: ps =>
    match m[i]? with
    | some (some b) =>
      match bx[b]? with
      | some (.mem cs) => (APs.asg N m l cs).bind fun m => BPs.asg N bx (i + 1) m ps
      | _ => none
    | _ => none
  | i, m, .sl _ _ :: ps =>
    match m[i]? with
    | some (some _) => BPs.asg N bx (i + 1) m ps
    | _ => none
  | i, m, .gone :: ps => BPs.asg N bx (i + 1) m ps
def killAll (bx : List Bx) : Asg → List Bx
  | [] => bx
  | some b :: m => killAll (bx.set b .dead) m
  | none :: m => killAll bx m
def TysV.ofRows : (l : List Ty) → List ((r : Ty) × r.D) → Option (TysV l)
  | [], [] => some ()
  | r :: l, q :: qs => (sameTy (β := Ty.D) q.1 r q.2).bind fun a => (TysV.ofRows l qs).map fun b => (a, b)
  | _, _ => none
def TysV.ofCaps (bx : List Bx) : (l : List Ty) → List Nat → Option (TysV l)
  | [], [] => some ()
  | r :: l, b :: bs => (match bx[b]? with
    | some (.mem cs) => readRow bx r cs
    | _ => none).bind fun a => (TysV.ofCaps bx l bs).map fun c => (a, c)
  | _, _ => none
def AP.get (bx : List Bx) : (p : AP) → AV → Option p.V
  | .rfn f rs, x => match x with
    | .rfn g rows => if f = g then TysV.ofRows rs rows else none
    | .fn g bs => if f = g then TysV.ofCaps bx rs bs else none
    | _ => none
  | .v t, x => if t.scalar then readCell bx t x else none
  | .sl false r, x => readCell bx (.sl r) x
  | .sl true r, x => match x with
    | .sl true q y => sameTy (β := fun r => List r.D) q r y
    | .nil => some []
    | _ => none
  | .prow r, x => match x with
    | .raddr _ q y 0 => sameTy (β := Ty.D) q r y
    | .maddr b 0 => match bx[b]? with
      | some (.mem cs) => readRow bx r cs
      | _ => none
    | .saddr b p i sz 0 => match bx[b]? with
      | some (.sl _ q rows) => (getP q rows p).bind fun s => if sz = s.1.n then sameTy (β := Ty.D) s.1 r (rowAt s.1 s.2 i) else none
      | _ => none
    | _ => none
  | .nil, _ => some ()
  | .ref _, _ => some ()
  | .ptr _ _, _ => some ()
  | .fn _ _, _ => some ()
  | .any, _ => some ()
  | .refp _ _, x => match x with
    | .ref _ [s] => some (s.i, s.j)
    | _ => none
def APs.get (bx : List Bx) : (l : List AP) → List AV → Option (APs.V l)
  | [], [] => some ()
  | p :: l, x :: xs => (p.get bx x).bind fun a => (APs.get bx l xs).map fun b => (a, b)
  | _, _ => none
def TPs.get (bx : List Bx) : (l : List (AP ⊕ List AP)) → List (AV ⊕ List AV) → Option (TPs.V l)
  | [], [] => some ()
  | .inl p :: l, .inl x :: xs => (p.get bx x).bind fun a => (TPs.get bx l xs).map fun b => (a, b)
  | .inr p :: l, .inr x :: xs => (APs.get bx p x).bind fun a => (TPs.get bx l xs).map fun b => (a, b)
  | _, _ => none
def XP.get (bx : List Bx) : (p : XP) → XV → Option p.V
  | .c p, .c x => p.get bx x
  | .agg l, .agg xs => APs.get bx l xs
  | .row r, .agg xs => readRow bx r xs
  | .tup l, .tup xs => TPs.get bx l xs
  | _, _ => none
def Slots.get (bx : List Bx) (tm : List XV) : (l : List (Nat × XP)) → Option (Slots.V l)
  | [] => some ()
  | (i, p) :: l =>
    match tm[i]? with
    | some x => (p.get bx x).bind fun a => (Slots.get bx tm l).map fun b => (a, b)
    | none => none
def BPs.get (bx bk : List Bx) : (m : Asg) → (l : List BP) → Option (BPs.V l)
  | _, [] => some ()
  | some b :: m, .mem l :: ps =>
    match bx[b]? with
    | some (.mem cs) => (APs.get bk l cs).bind fun a => (BPs.get bx bk m ps).map fun c => (a, c)
    | _ => none
  | some b :: m, .sl d r :: ps =>
    match bx[b]? with
    | some (.sl d' q rows) => if 1 ≤ d ∧ d ≤ d' then (sameTy (β := fun r => List r.D) q r rows).bind fun a => (BPs.get bx bk m ps).map fun c => (a, c) else none
    | _ => none
  | _ :: m, .gone :: ps => (BPs.get bx bk m ps).map fun c => ((), c)
  | _, _ => none
def Shp.fit (s : Shp) (N : Nat) (m0 : Asg) (tm : List XV) (bx : List Bx) : Option (s.V × Asg) :=
  (Slots.asg N tm m0 s.slots).bind fun m => (BPs.asg N bx 0 m s.bxs).bind fun m =>
    let bk := killAll bx m
    (Slots.get bk tm s.slots).bind fun a => (BPs.get bx bk m s.bxs).map fun c => ((a, c), m)
def BP.opened : BP → Bx
  | .sl d r => .sl (d + 1) r []
  | _ => .dead
def Shp.opens (s : Shp) (bx : List Bx) : List Bx := bx ++ s.bxs.map BP.opened
def Shp.m0 (s : Shp) : Asg := List.replicate s.bxs.length none
structure Con where
  ins : Shp
  outs : Shp
  g : ins.V → Option outs.V
def renOf (m : Asg) (n : Nat) (i : Nat) : Nat :=
  match m[i]? with
  | some (some b) => b
  | _ => n + (i - m.length)
def setBoxes (ren : Nat → Nat) : Nat → (l : List BP) → BPs.V l → List Bx → List Bx
  | _, [], _, bx => bx
  | i, p :: l, x, bx => setBoxes ren (i + 1) l x.2 (if ren i < bx.length then bx.set (ren i) (p.mk ren x.1) else bx ++ [p.mk ren x.1])
def firstSlot : (l : List (Nat × XP)) → Slots.V l → (Nat → Nat) → XV
  | (_, p) :: _, x, ren => p.mk ren x.1
  | [], _, _ => .c .undef
def LIM : Nat := 2 ^ 36
section ops
variable {Y : Type}
abbrev K (Y : Type) := XV → St → Option Y
def St.new (σ : St) (b : Bx) : St := { σ with bx := σ.bx ++ [b] }
def pickX (x : Bool) (a b : XV) (σ : St) (k : K Y) : Option Y := cond x (k a σ) (k b σ)
def intOp (op : BinOp) (κ : IntKind) (a b : Int) (k : AV → Option Y) : Option Y :=
  match op with
  | .add => k (.v (.int κ) (κ.wrap (a + b)))
  | .sub => k (.v (.int κ) (κ.wrap (a - b)))
  | .mul => k (.v (.int κ) (κ.wrap (a * b)))
  | .quo => if b = 0 then none else k (.v (.int κ) (κ.wrap (a.tdiv b)))
  | .rem => if b = 0 then none else k (.v (.int κ) (a.tmod b))
  | .and => k (.v (.int κ) (κ.wrap (BitVec.ofInt κ.bits a &&& BitVec.ofInt κ.bits b).toNat))
  | .or => k (.v (.int κ) (κ.wrap (BitVec.ofInt κ.bits a ||| BitVec.ofInt κ.bits b).toNat))
  | .xor => k (.v (.int κ) (κ.wrap (BitVec.ofInt κ.bits a ^^^ BitVec.ofInt κ.bits b).toNat))
  | .andNot => k (.v (.int κ) (κ.wrap (BitVec.ofInt κ.bits a &&& ~~~BitVec.ofInt κ.bits b).toNat))
  | .eql => k (.v .bool (a == b))
  | .neq => k (.v .bool (a != b))
  | .lss => k (.v .bool (decide (a < b)))
  | .leq => k (.v .bool (decide (a ≤ b)))
  | .gtr => k (.v .bool (decide (a > b)))
  | .geq => k (.v .bool (decide (a ≥ b)))
  | _ => none
def shiftOp (op : BinOp) (κ : IntKind) (a b : Int) (k : AV → Option Y) : Option Y :=
  if b < 0 then none else
  match op with
  | .shl => k (.v (.int κ) (κ.wrap (a * 2 ^ min b.toNat κ.bits)))
  | .shr => k (.v (.int κ) (a.fdiv (2 ^ min b.toNat κ.bits)))
  | _ => none
def strOp (op : BinOp) (a b : List UInt8) (k : AV → Option Y) : Option Y :=
  match op with
  | .add => if a.length + b.length ≤ LIM then k (.v .str (a ++ b)) else none
  | .eql => k (.v .bool (a == b))
  | .neq => k (.v .bool (!(a == b)))
  | .lss => k (.v .bool (Op.bytesLess a b))
  | .leq => k (.v .bool (Op.bytesLess a b || a == b))
  | .gtr => k (.v .bool (!(Op.bytesLess a b || a == b)))
  | .geq => k (.v .bool (!Op.bytesLess a b))
  | _ => none
def cellEq : TD → AV → AV → Option Bool
  | .int _, .v (.int j) a, .v (.int k) b => if j = k then some (a == b) else none
  | .bool, .v .bool a, .v .bool b => some (a == b)
  | .str, .v .str a, .v .str b => some (a == b)
  | _, _, _ => none
def eqCells (T : Tab) : Nat → List (Nat × Nat) → List AV → List AV → Option Bool
  | _, [], [], [] => some true
  | i, (o, t) :: fs, x :: l, z :: m =>
    if o = i then
      match T.get t with
      | some ti => match cellEq ti.desc x z with
        | some p => (eqCells T (i + 1) fs l m).map fun r => p && r
        | none => none
      | none => none
    else none
  | _, _, _, _ => none
def Tab.fields (T : Tab) (t : Nat) : Option (List (Nat × Nat)) :=
  match (T.get t).map TI.desc with
  | some (.st fs) => some fs
  | _ => none
def binX (T : Tab) (t : Nat) (op : BinOp) (a b : XV) (k : AV → Option Y) : Option Y :=
  match a, b with
  | .c (.v (.int j) x), .c (.v (.int j') y) =>
    match op with
    | .shl | .shr => shiftOp op j x y k
    | _ => if j = j' then intOp op j x y k else none
  | .c (.v .str x), .c (.v .str y) => strOp op x y k
  | .c (.v .bool x), .c (.v .bool y) =>
    match T.get t with
    | some ti => match ti.desc with
      | .bool => match op with
        | .eql => k (.v .bool (x == y))
        | .neq => k (.v .bool (!(x == y)))
        | _ => none
      | _ => none
    | none => none
  | .agg l, .agg m =>
    match op, (T.fields t).bind fun fs => eqCells T 0 fs l m with
    | .eql, some r => k (.v .bool r)
    | .neq, some r => k (.v .bool (!r))
    | _, _ => none
  | _, _ => none
def unX (op : UnOp) (a : XV) (k : AV → Option Y) : Option Y :=
  match op, a with
  | .not, .c (.v .bool x) => k (.v .bool (!x))
  | .neg, .c (.v (.int j) x) => k (.v (.int j) (j.wrap (0 - x)))
  | _, _ => none
def cellOut (d b : Nat) (p : List Stp) (s : Stp) : ((t : Ty) × t.D) → AV
  | ⟨.sl r, x⟩ => if d ≤ 1 then .sl true r x else .ref b (p ++ [s])
  | ⟨t, x⟩ => if t.scalar then .v t x else .undef
def cellRo (s : Bool) : ((t : Ty) × t.D) → AV
  | ⟨.sl r, x⟩ => .sl s r x
  | ⟨t, x⟩ => if t.scalar then .v t x else .undef
def seqCells (f : Nat → Option AV) : Nat → Nat → Option (List AV)
  | _, 0 => some []
  | j, n + 1 => (f j).bind fun x => (seqCells f (j + 1) n).map fun l => x :: l
def cellAtAddr (bx : List Bx) : AV → Nat → Option AV
  | .maddr b j, i =>
    match bx[b]? with
    | some (.mem cs) => cs[j + i]?
    | _ => none
  | .saddr b p r sz j, i =>
    match bx[b]? with
    | some (.sl d q rows) => if p.length < d then (getP q rows p).bind fun s => if sz = s.1.n then (cellGet s.1 (j + i) (rowAt s.1 s.2 r)).map (cellOut (d - p.length) b p ⟨r, sz, j + i⟩) else none else none
    | _ => none
  | .raddr s r x j, i => (cellGet r (j + i) x).map (cellRo s)
  | _, _ => none
def loadX (T : Tab) (t : Nat) (σ : St) (a : XV) : Option XV :=
  match a, T.get t with
  | .c a, some ti => if ti.size = 0 then none else if ti.desc.agg then (seqCells (cellAtAddr σ.bx a) 0 ti.size).map .agg else (cellAtAddr σ.bx a 0).map .c
  | _, _ => none
def cellIn (d : Nat) (t : Ty) (x : AV) (bx : List Bx) : Option (t.D × List Bx × Nat) :=
  match x with
  | .v u y => (sameTy (β := Ty.D) u t y).map fun y => (y, bx, d)
  | .nil => match t with
    | .sl _ => some ([], bx, d)
    | _ => none
  | .sl true r y => match t with
    | .sl q => (sameTy (β := fun r => List r.D) r q y).map fun y => (y, bx, 1)
    | _ => none
  | .ref b [] => match t with
    | .sl q =>
      match bx[b]? with
      | some (.sl d' r y) => (sameTy (β := fun r => List r.D) r q y).map fun y => (y, bx.set b .dead, min d (d' + 1))
      | _ => none
    | _ => none
  | .win b [] off n => match t with
    | .sl q =>
      match bx[b]? with
      | some (.sl d' r y) => (sameTy (β := fun r => List r.D) r q ((y.drop off).take n)).map fun y => (y, bx.set b .dead, min d (d' + 1))
      | _ => none
    | _ => none
  | _ => none
def cellsIn (d : Nat) : (r : Ty) → List AV → List Bx → Option (r.D × List Bx × Nat)
  | .unit, [], bx => some ((), bx, d)
  | .cons c r, x :: l, bx => (cellIn d c x bx).bind fun a => (cellsIn a.2.2 r l a.2.1).map fun b => ((a.1, b.1), b.2)
  | _, _, _ => none
def rowIn (d : Nat) (r : Ty) (x : XV) (bx : List Bx) : Option (r.D × List Bx × Nat) :=
  match x with
  | .agg l => cellsIn d r l bx
  | .c x => cellIn d r x bx
  | _ => none
def scrubAV (b : Nat) : AV → AV
  | .ref b' (s :: p) => if b' = b then .undef else .ref b' (s :: p)
  | .win b' (s :: p) i n => if b' = b then .undef else .win b' (s :: p) i n
  | .saddr b' (s :: p) i sz j => if b' = b then .undef else .saddr b' (s :: p) i sz j
  | x => x
def scrubXV (b : Nat) : XV → XV
  | .c x => .c (scrubAV b x)
  | .agg l => .agg (l.map (scrubAV b))
  | .tup l => .tup (l.map fun | .inl x => .inl (scrubAV b x) | .inr q => .inr (q.map (scrubAV b)))
def scrubBx (b : Nat) : Bx → Bx
  | .mem cs => .mem (cs.map (scrubAV b))
  | x => x
def St.scrub (b : Nat) (σ : St) : St := { tm := σ.tm.map (scrubXV b), bx := σ.bx.map (scrubBx b) }
def storeMem (cs : List AV) : Nat → List AV → Option (List AV)
  | _, [] => some cs
  | j, x :: l => if j < cs.length then storeMem (cs.set j x) (j + 1) l else none
def storeRow (d : Nat) (r : Ty) (old : r.D) (j : Nat) (x : XV) (bx : List Bx) : Option (r.D × List Bx × Nat) :=
  match x with
  | .agg l => if j = 0 then cellsIn d r l bx else none
  | .c x =>
    match cellGet r j old with
    | some ⟨t, _⟩ => (cellIn d t x bx).bind fun a => (cellSet r j old t a.1).map fun row => (row, a.2)
    | none => none
  | _ => none
def XV.plain : XV → Bool
  | .c (.v _ _) => true
  | _ => false
def storeX (σ : St) (a : XV) (x : XV) : Option St :=
  match a with
  | .c (.maddr b j) =>
    match σ.bx[b]? with
    | some (.mem cs) => (storeMem cs j x.cells).map fun cs => { σ with bx := σ.bx.set b (.mem cs) }
    | _ => none
  | .c (.saddr b p i sz j) =>
    match σ.bx[b]? with
    | some (.sl d r rows) => if p.length < d then
      (getP r rows p).bind fun s => if sz = s.1.n then (storeRow (d - p.length) s.1 (rowAt s.1 s.2 i) j x (σ.bx.set b .dead)).bind fun w =>
        (setP r rows p s.1 (s.2.set i w.1)).map fun rows =>
          let σ' : St := { σ with bx := w.2.1.set b (.sl (w.2.2 + p.length) r rows) }
          if x.plain then σ' else σ'.scrub b
        else none
      else none
    | _ => none
  | _ => none
def lowerWin (σ : St) (a x : XV) : Option (St × XV) :=
  match a, x with
  | .c (.saddr b _ _ _ _), .c (.win b' (s :: p') off n) =>
    if b' = b then
      match σ.bx[b]? with
      | some (.sl d r rows) => (getP r rows (s :: p')).map fun q => ({ σ with bx := σ.bx.set b (.sl (min d (p'.length + 1)) r rows) }, .c (.sl true q.1 ((q.2.drop off).take n)))
      | _ => none
    else none
  | _, _ => some (σ, x)
def storeW (σ : St) (a x : XV) : Option St := (lowerWin σ a x).bind fun q => storeX q.1 a q.2
def srcRows (bx : List Bx) (x : AV) : Option ((r : Ty) × (List r.D × List Bx × Nat)) :=
  match x with
  | .v .str s => some ⟨.int .u8, s.map (fun c => (c.toNat : Int)), bx, 9⟩
  | .sl s r rows => if r.flat then some ⟨r, rows, bx, 9⟩ else if s then some ⟨r, rows, bx, 1⟩ else none
  | .ref b [] =>
    match bx[b]? with
    | some (.sl d r rows) => if r.flat then some ⟨r, rows, bx, 9⟩ else some ⟨r, rows, bx.set b .dead, d⟩
    | _ => none
  | .ref b p =>
    match bx[b]? with
    | some (.sl _ r rows) => (getP r rows p).bind fun q => if q.1.flat then some ⟨q.1, q.2, bx, 9⟩ else none
    | _ => none
  | .win b p off n =>
    match bx[b]? with
    | some (.sl _ r rows) => (getP r rows p).bind fun q => if q.1.flat then some ⟨q.1, (q.2.drop off).take n, bx, 9⟩ else none
    | _ => none
  | _ => none
def dstRows (bx : List Bx) (x : AV) : Option ((r : Ty) × (List r.D × List Bx × Nat)) :=
  match x with
  | .ref b [] =>
    match bx[b]? with
    | some (.sl d r rows) => some ⟨r, rows, bx.set b .dead, d⟩
    | _ => none
  | .win b [] off n =>
    match bx[b]? with
    | some (.sl d r rows) => some ⟨r, (rows.drop off).take n, bx.set b .dead, d⟩
    | _ => none
  | _ => none
def Tab.elem (T : Tab) (t : Nat) : Option TI :=
  match (T.get t).map TI.desc with
  | some (.sl e) => T.get e
  | _ => none
def Tab.elemIs (T : Tab) (t : Nat) (r : Ty) : Bool :=
  match T.elem t with
  | some ti => decide (ti.size = r.n) && decide (ti.bytes ≤ 512) && decide (ti.row = some r)
  | none => false
def Tab.isStr (T : Tab) (t : Nat) : Bool :=
  match (T.get t).map TI.desc with
  | some .str => true
  | _ => false
def Tab.isSl (T : Tab) (t : Nat) : Bool :=
  match (T.get t).map TI.desc with
  | some (.sl _) => true
  | _ => false
def appendX (T : Tab) (ts : Array TypeId) (σ : St) (a x : XV) (k : K Y) : Option Y :=
  match ts[0]?, ts[1]? with
  | some t, some u =>
   if T.isSl u || T.isStr u then
    match a, x with
    | .c .nil, .c y =>
      (srcRows σ.bx y).bind fun s => if T.elemIs t s.1 then
        if s.2.1.length ≤ LIM then k (.c (.ref s.2.2.1.length [])) { σ with bx := s.2.2.1 ++ [.sl s.2.2.2 s.1 s.2.1] } else none
        else none
    | .c a, .c y =>
      (dstRows σ.bx a).bind fun d => if T.elemIs t d.1 then (srcRows d.2.2.1 y).bind fun s =>
        (sameTy (β := fun r => List r.D) s.1 d.1 s.2.1).bind fun rows =>
          if d.2.1.length + rows.length ≤ LIM then
            k (.c (.ref s.2.2.1.length [])) { σ with bx := s.2.2.1 ++ [.sl (min d.2.2.2 s.2.2.2) d.1 (d.2.1 ++ rows)] }
          else none
        else none
    | _, _ => none
   else none
  | _, _ => none
def clearX (T : Tab) (ts : Array TypeId) (σ : St) (x : XV) (k : K Y) : Option Y :=
  match ts[0]?, x with
  | some t, .c (.win b [] off n) =>
    match σ.bx[b]? with
    | some (.sl d r rows) => if T.elemIs t r && r.scalar then k (.c .undef) { σ with bx := σ.bx.set b (.sl d r ((rows.take off ++ List.replicate n r.z) ++ rows.drop (off + n))) } else none
    | _ => none
  | _, _ => none
def intOfX : XV → Option Int
  | .c (.v (.int _) n) => some n
  | _ => none
def partBounds (len : Nat) (lo hi : Option XV) (k : Nat → Nat → Option Y) : Option Y :=
  let h : Option Int := match hi with
    | none => some (len : Int)
    | some x => intOfX x
  let l : Option Int := match lo with
    | none => some 0
    | some x => intOfX x
  match l, h with
  | some l, some h => if 0 ≤ l ∧ l ≤ h ∧ h ≤ (len : Int) then k l.toNat h.toNat else none
  | _, _ => none
def sliceX (T : Tab) (t : Nat) (σ : St) (x : XV) (lo hi : Option XV) (k : K Y) : Option Y :=
  match x with
  | .c (.v .str s) => if T.isStr t then partBounds s.length lo hi fun l h => k (.c (.v .str ((s.drop l).take (h - l)))) σ else none
  | .c (.sl s r rows) => if T.elemIs t r then partBounds rows.length lo hi fun l h => k (.c (.sl s r ((rows.drop l).take (h - l)))) σ else none
  | .c (.ref b p) =>
    match readSl σ.bx (.ref b p) with
    | some q => if T.elemIs t q.1 then partBounds q.2.length lo hi fun l h => k (.c (.win b p l (h - l))) σ else none
    | none => none
  | _ => none
def indexX (σ : St) (T : Tab) (t : Nat) (x i : XV) (k : K Y) : Option Y :=
  match x, intOfX i with
  | .c (.sl s r rows), some i => if T.elemIs t r then (if 0 ≤ i ∧ i < (rows.length : Int) then k (.c (.raddr s r (rowAt r rows i.toNat) 0)) σ else none) else none
  | .c (.ref b p), some i =>
    match readSl σ.bx (.ref b p) with
    | some q => if T.elemIs t q.1 then (if 0 ≤ i ∧ i < (q.2.length : Int) then k (.c (.saddr b p i.toNat q.1.n 0)) σ else none) else none
    | none => none
  | .c (.win b p off n), some i =>
    match readSl σ.bx (.ref b p) with
    | some q => if T.elemIs t q.1 then (if 0 ≤ i ∧ i < (n : Int) then k (.c (.saddr b p (off + i.toNat) q.1.n 0)) σ else none) else none
    | none => none
  | _, _ => none
def fieldX (T : Tab) (t : Nat) (x : XV) (f : Nat) : Option XV :=
  match T.get t with
  | some ⟨_, _, .st fs, _⟩ =>
    match fs[f]? with
    | some (o, _) => match x with
      | .c (.maddr b j) => some (.c (.maddr b (j + o)))
      | .c (.saddr b p i sz j) => some (.c (.saddr b p i sz (j + o)))
      | .c (.raddr s r y j) => some (.c (.raddr s r y (j + o)))
      | _ => none
    | none => none
  | _ => none
def partX (T : Tab) (t : Nat) (x : XV) (f : Nat) : Option XV :=
  match T.get t, x with
  | some ⟨_, _, .st fs, _⟩, .agg l =>
    match fs[f]? with
    | some (o, u) =>
      match T.get u with
      | some ti => if ti.desc.agg then some (.agg ((l.drop o).take ti.size)) else (l[o]?).map .c
      | none => none
    | none => none
  | _, _ => none
def convX (T : Tab) (src dst : Nat) (σ : St) (x : XV) (k : K Y) : Option Y :=
  match (T.get src).map TI.desc, (T.get dst).map TI.desc, x with
  | some (.int _), some (.int κ), .c (.v (.int _) n) => k (.c (.v (.int κ) (κ.wrap n))) σ
  | some .str, some .str, .c (.v .str s) => k (.c (.v .str s)) σ
  | some .str, some (.sl e), .c (.v .str s) =>
    match (T.get e).map TI.desc with
    | some (.int .u8) => if s.length ≤ LIM then k (.c (.ref σ.bx.length [])) (σ.new (.sl 9 (.int .u8) (s.map fun c => (c.toNat : Int)))) else none
    | _ => none
  | some (.sl e), some .str, .c x =>
    match (T.get e).map TI.desc, readCell σ.bx (.sl (.int .u8)) x with
    | some (.int .u8), some l => k (.c (.v .str (l.map fun n : Int => UInt8.ofNat n.toNat))) σ
    | _, _ => none
  | _, _, _ => none
def makeX (T : Tab) (t : Nat) (σ : St) (l c : XV) (k : K Y) : Option Y :=
  match (T.get t).map TI.desc, intOfX l, intOfX c with
  | some (.sl e), some n, some m =>
    match Tab.rowTy T e with
    | some r => if T.elemIs t r then (if 0 ≤ n ∧ n ≤ m ∧ m ≤ (LIM : Int) then k (.c (.ref σ.bx.length [])) (σ.new (.sl 9 r (List.replicate n.toNat r.z))) else none) else none
    | none => none
  | _, _, _ => none
def buildX (T : Tab) (fs : List (Nat × Nat)) : List AV → List (Nat × XV) → Option (List AV)
  | cs, [] => some cs
  | cs, (i, x) :: l =>
    match fs[i]? with
    | some (o, u) =>
      match T.get u with
      | some ti => if x.cells.length = ti.size ∧ ti.size ≠ 0 ∧ x.cells.all AV.known = true then (storeMem cs o x.cells).bind fun cs => buildX T fs cs l else none
      | none => none
    | none => none
def litRows (r : Ty) : Nat → Nat → List (Nat × XV) → List Bx → Nat → Option (List r.D × List Bx × Nat)
  | _, 0, [], bx, d => some ([], bx, d)
  | i, n + 1, (j, x) :: l, bx, d =>
    if i = j then (rowIn d r x bx).bind fun a => (litRows r (i + 1) n l a.2.1 a.2.2).map fun b => (a.1 :: b.1, b.2) else none
  | i, n + 1, [], bx, d => (litRows r (i + 1) n [] bx d).map fun b => (r.z :: b.1, b.2)
  | _, 0, _ :: _, _, _ => none
def buildSliceX (T : Tab) (t n : Nat) (parts : List (Nat × XV)) (σ : St) (k : K Y) : Option Y :=
  match (T.get t).map TI.desc with
  | some (.sl e) =>
    match Tab.rowTy T e with
    | some r => if T.elemIs t r && decide (n ≤ 1024) && decide (r.n ≤ 1024) then (litRows r 0 n parts σ.bx 9).bind fun a => k (.c (.ref a.2.1.length [])) { σ with bx := a.2.1 ++ [.sl a.2.2 r a.1] } else none
    | none => none
  | _ => none
def strIndexX (T : Tab) (t : Nat) (σ : St) (x i : XV) (k : K Y) : Option Y :=
  match x, intOfX i with
  | .c (.v .str s), some i => if T.isStr t then if 0 ≤ i ∧ i < (s.length : Int) then k (.c (.v (.int .u8) ((s.getD i.toNat 0).toNat : Int))) σ else none else none
  | _, _ => none
def extractX (x : XV) (i : Nat) : Option XV :=
  match x with
  | .tup l => match l[i]? with
    | some (.inl a) => some (.c a)
    | some (.inr q) => some (.agg q)
    | none => none
  | _ => none
def scrubsAV (m : Asg) : AV → AV
  | .ref b (s :: p) => if m.contains (some b) then .undef else .ref b (s :: p)
  | .win b (s :: p) i n => if m.contains (some b) then .undef else .win b (s :: p) i n
  | .saddr b (s :: p) i sz j => if m.contains (some b) then .undef else .saddr b (s :: p) i sz j
  | x => x
def scrubsXV (m : Asg) : XV → XV
  | .c x => .c (scrubsAV m x)
  | .agg l => .agg (l.map (scrubsAV m))
  | .tup l => .tup (l.map fun | .inl x => .inl (scrubsAV m x) | .inr q => .inr (q.map (scrubsAV m)))
def scrubsBx (m : Asg) : Bx → Bx
  | .mem cs => .mem (cs.map (scrubsAV m))
  | x => x
def St.scrubs (m : Asg) (σ : St) : St :=
  match m with
  | [] => σ
  | _ :: _ => { tm := σ.tm.map (scrubsXV m), bx := σ.bx.map (scrubsBx m) }
def callX (c : Con) (args : List XV) (σ : St) (k : K Y) : Option Y :=
  if args.length = c.ins.slots.length then
    match c.ins.fit σ.bx.length c.ins.m0 args (c.ins.opens σ.bx) with
    | some (v, m) => (c.g v).bind fun u =>
        let ren := renOf m (c.ins.opens σ.bx).length
        let σ1 := ({ σ with bx := c.ins.opens σ.bx } : St).scrubs m
        k (firstSlot c.outs.slots u.1 ren) { σ1 with bx := setBoxes ren 0 c.outs.bxs u.2 (killAll σ1.bx m) }
    | none => none
  else none
def assignX (σ : St) (x : XV) (k : K Y) : Option Y :=
  match x with
  | .c (.win b [] off n) =>
    (dstRows σ.bx (.win b [] off n)).bind fun s => k (.c (.ref s.2.2.1.length [])) { σ with bx := s.2.2.1 ++ [.sl s.2.2.2 s.1 s.2.1] }
  | x => k x σ
def capsX (l : List XV) : Option (List Nat) :=
  match l with
  | [] => some []
  | .c (.maddr b 0) :: l => (capsX l).map fun r => b :: r
  | _ => none
def maxX (big : Bool) (a b : XV) (k : AV → Option Y) : Option Y :=
  match a, b with
  | .c (.v (.int j) x), .c (.v (.int j') y) =>
    if j = j' then (if big then k (.v (.int j) (if y > x then y else x)) else k (.v (.int j) (if y < x then y else x))) else none
  | _, _ => none
def execX (T : Tab) (Γ : Nat → Option Con) (o : Oper) (σ : St) (k : K Y) : Option Y :=
  match o.op with
  | .move x => k (σ.ev x) σ
  | .assign x => assignX σ (σ.ev x) k
  | .pick c a b => match σ.ev c with
    | .c (.v .bool x) => pickX x (σ.ev a) (σ.ev b) σ k
    | _ => none
  | .alloc t => match Tab.rowTy T t with
    | some r => k (.c (.maddr σ.bx.length 0)) (σ.new (.mem (zeroRow r)))
    | none => none
  | .box t x => match T.get t with
    | some ti => if (σ.ev x).cells.length = ti.size ∧ ti.size ≠ 0 ∧ (σ.ev x).cells.all AV.known = true then k (.c (.maddr σ.bx.length 0)) (σ.new (.mem (σ.ev x).cells)) else none
    | none => none
  | .build t parts => match T.get t, Tab.rowTy T t with
    | some ⟨_, _, .st fs, _⟩, some r => match buildX T fs (zeroRow r) (parts.toList.map fun q => (q.1, σ.ev q.2)) with
      | some cs => k (.agg cs) σ
      | none => none
    | _, _ => none
  | .buildSlice t n parts => buildSliceX T t n (parts.toList.map fun q => (q.1, σ.ev q.2)) σ k
  | .load t a => match loadX T t σ (σ.ev a) with
    | some x => k x σ
    | none => none
  | .store t a x => match T.get t with
    | some ti => if (σ.ev x).cells.length = ti.size ∧ ti.size ≠ 0 ∧ (σ.ev x).cells.all AV.known = true then (match storeW σ (σ.ev a) (σ.ev x) with
      | some σ => k (.c .undef) σ
      | none => none) else none
    | none => none
  | .nilCheck x => match σ.ev x with
    | .c (.maddr b j) => k (.c (.maddr b j)) σ
    | .c (.saddr b p i sz j) => k (.c (.saddr b p i sz j)) σ
    | .c (.raddr s r y j) => k (.c (.raddr s r y j)) σ
    | .c (.fn f caps) => k (.c (.fn f caps)) σ
    | _ => none
  | .binOp op t x y _ => binX T t op (σ.ev x) (σ.ev y) fun a => k (.c a) σ
  | .unOp op _ x => unX op (σ.ev x) fun a => k (.c a) σ
  | .convert s d x => convX T s d σ (σ.ev x) k
  | .makeFunc (.func f) first caps => if first.size = 0 then (match capsX (caps.toList.map σ.ev) with
    | some bs => k (.c (.fn f bs)) σ
    | none => none) else none
  | .makeSlice t l c => makeX T t σ (σ.ev l) (σ.ev c) k
  | .slice t x lo hi none => sliceX T t σ (σ.ev x) (lo.map σ.ev) (hi.map σ.ev) k
  | .fieldAddr t x f => match fieldX T t (σ.ev x) f with
    | some y => k y σ
    | none => none
  | .field t x f => match partX T t (σ.ev x) f with
    | some y => k y σ
    | none => none
  | .indexAddr t x i => indexX σ T t (σ.ev x) (σ.ev i) k
  | .index t x i => strIndexX T t σ (σ.ev x) (σ.ev i) k
  | .extract x i => match extractX (σ.ev x) i with
    | some y => k y σ
    | none => none
  | .call { callee := .value f, args, .. } => match σ.ev f with
    | .c (.fn f caps) => match Γ f with
      | some c => callX c (args.toList.map σ.ev ++ caps.map fun b => .c (.maddr b 0)) σ k
      | none => none
    | .c (.rfn f rows) => match Γ f with
      | some c => callX c (args.toList.map σ.ev ++ rows.map fun q => .c (.raddr false q.1 q.2 0)) σ k
      | none => none
    | _ => none
  | .call { callee := .builtin .len, args, argTypes } => match args.toList.map σ.ev, argTypes[0]? with
    | [.c (.v .str s)], some t => if T.isStr t then k (.c (.v (.int .i64) (s.length : Int))) σ else none
    | [.c x], some t => if T.isSl t then (match lenOf σ.bx x with
      | some n => k (.c (.v (.int .i64) (n : Int))) σ
      | none => none) else none
    | _, _ => none
  | .call { callee := .builtin .append, args, argTypes } => match args.toList.map σ.ev with
    | [a, x] => appendX T argTypes σ a x k
    | _ => none
  | .call { callee := .builtin .clear, args, argTypes } => match args.toList.map σ.ev with
    | [x] => clearX T argTypes σ x k
    | _ => none
  | .call { callee := .builtin .max, args, .. } => match args.toList.map σ.ev with
    | [a, x] => maxX true a x fun a => k (.c a) σ
    | _ => none
  | .call { callee := .builtin .min, args, .. } => match args.toList.map σ.ev with
    | [a, x] => maxX false a x fun a => k (.c a) σ
    | _ => none
  | _ => none
end ops
end Go.Fw
end

section
namespace Go.Fw
section
variable {Y : Type}
structure Cfg where
  T : Tab
  Γ : Nat → Option Con
  hint : Nat → List Nat
def loadStable (hint : List Nat) : XV → Bool
  | .c (.maddr b _) => hint.contains b
  | .c (.saddr b _ _ _ _) => hint.contains b
  | .c (.raddr _ _ _ _) => true
  | _ => false
def quietOp (hint : List Nat) (σ : St) : Op → Bool
  | .assign x => match σ.ev x with
    | .c (.win _ [] _ _) => false
    | _ => true
  | .move _ | .pick .. | .nilCheck _ | .binOp .. | .unOp .. | .fieldAddr .. | .field .. | .indexAddr .. | .index .. | .extract .. | .build .. => true
  | .slice _ _ _ _ none => true
  | .load _ a => loadStable hint (σ.ev a)
  | .call { callee := .builtin .len, .. } => true
  | .call { callee := .builtin .max, .. } => true
  | .call { callee := .builtin .min, .. } => true
  | _ => false
def touched (Γ : Nat → Option Con) (σ : St) : Op → List Nat
  | .store _ a _ => match σ.ev a with
    | .c (.maddr b _) => [b]
    | .c (.saddr b _ _ _ _) => [b]
    | _ => []
  | .call { callee := .value f, args, .. } => match σ.ev f with
    | .c (.fn f caps) => match Γ f with
      | some c => match c.ins.fit σ.bx.length c.ins.m0 (args.toList.map σ.ev ++ caps.map fun b => .c (.maddr b 0)) (c.ins.opens σ.bx) with
        | some (_, m) => m.filterMap id
        | none => []
      | none => []
    | .c (.rfn f rows) => match Γ f with
      | some c => match c.ins.fit σ.bx.length c.ins.m0 (args.toList.map σ.ev ++ rows.map fun q => .c (.raddr false q.1 q.2 0)) (c.ins.opens σ.bx) with
        | some (_, m) => m.filterMap id
        | none => []
      | none => []
    | _ => []
  | .call { callee := .builtin .clear, args, .. } => match args.toList.map σ.ev with
    | [.c (.win b _ _ _)] => [b]
    | _ => []
  | _ => []
def tt : XV := .c (.v .bool true)
def ff : XV := .c (.v .bool false)
def execG (C : Cfg) (ops : Array Oper) (o : Oper) (kn : St → Option Y) (σ : St) : Option Y :=
  match o.guard with
  | none => execX C.T C.Γ o σ fun x σ' => kn (σ'.put o.dst x)
  | some (j, want) =>
    match (ops[j]?).bind (·.dst) with
    | some t =>
      match σ.tm[t]? with
      | some (.c (.v .bool b)) =>
        let yes (σ : St) : Option Y := execX C.T C.Γ o σ fun x σ' => kn (σ'.put o.dst x)
        let no (σ : St) : Option Y := kn (σ.put o.dst (.tup []))
        cond b ((if want then yes else no) (σ.put (some t) tt)) ((if want then no else yes) (σ.put (some t) ff))
      | some (.tup []) => kn (σ.put o.dst (.tup []))
      | _ => none
    | none => none
def runOps (C : Cfg) (all : Array Oper) : List Oper → (St → Option Y) → St → Option Y
  | [], kn, σ => kn σ
  | o :: rest, kn, σ => execG C all o (fun σ' => runOps C all rest kn σ') σ
def exec1 (C : Cfg) (ops : Array Oper) (i : Nat) (kn : St → Option Y) (σ : St) : Option Y :=
  match ops[i]? with
  | none => none
  | some o => execG C ops o kn σ
def isDead (bx : List Bx) (b : Nat) : Bool :=
  match bx[b]? with
  | some .dead => true
  | some _ => false
  | none => true
def idle (ops : Array Oper) (σ : St) (o : Oper) : Bool :=
  match o.guard with
  | none => false
  | some (j, want) =>
    match (ops[j]?).bind (·.dst) with
    | some t =>
      match σ.tm[t]? with
      | some (.c (.v .bool b)) => b != want
      | some (.tup []) => true
      | _ => false
    | none => false
def takeable (hint : List Nat) (ops : Array Oper) (listed : Array Bool) (σ : St) (i : Nat) : Bool :=
  match ops[i]? with
  | some o => (quietOp hint σ o.op || idle ops σ o) && Region.free .any ops listed i
  | none => false
def pickOne (f : Nat → List Bool → Option Y) : List Nat → List Bool → Option Y
  | [], _ => none
  | [i], ω => f i ω
  | i :: _ :: _, [] => f i []
  | i :: _ :: _, true :: ω => f i ω
  | _ :: j :: r, false :: ω => pickOne f (j :: r) ω
def runDraw (C : Cfg) (hint : List Nat) (ops : Array Oper) (kn : List Bool → St → Option Y) : Nat → Array Bool → List Bool → St → Option Y
  | fuel, listed, ω, σ =>
    if hint.all (fun b => !isDead σ.bx b) then
      match Region.ready .any ops listed with
      | [] => kn ω σ
      | rs =>
        match fuel with
        | 0 => none
        | fuel + 1 =>
          match rs.find? (takeable hint ops listed σ) with
          | some i => exec1 C ops i (fun σ' => runDraw C hint ops kn fuel (listed.setIfInBounds i true) ω σ') σ
          | none => pickOne (fun i ω =>
              match ops[i]? with
              | some o => if (touched C.Γ σ o.op).all (fun b => !hint.contains b) then exec1 C ops i (fun σ' => runDraw C hint ops kn fuel (listed.setIfInBounds i true) ω σ') σ else none
              | none => none) rs ω
    else none
def first : Code → Nat
  | .region id _ _ => id
  | .seq a _ => first a
  | .cond _ a _ => first a
  | .block _ a => first a
  | .loop a => first a
  | .scope a => first a
  | _ => 0
abbrev KN (Y : Type) := List Bool → St → Option Y
def run (C : Cfg) (J : Nat → St → Option Y) : Code → KN Y → (Nat → KN Y) → KN Y → KN Y
  | .skip, kn, _, _, ω, σ => kn ω σ
  | .region id ops draw, kn, _, _, ω, σ =>
    if draw then (if Region.noSelect ops then runDraw C (C.hint id) ops kn ops.size (Array.replicate ops.size false) ω σ else none) else runOps C ops ops.toList (kn ω) σ
  | .seq a b, kn, kx, kr, ω, σ => run C J a (fun ω σ => run C J b kn kx kr ω σ) kx kr ω σ
  | .cond (.tmp t) a b, kn, kx, kr, ω, σ =>
    match σ.tm[t]? with
    | some (.c (.v .bool x)) => cond x (run C J a kn kx kr ω (σ.put (some t) tt)) (run C J b kn kx kr ω (σ.put (some t) ff))
    | _ => none
  | .block id body, kn, kx, kr, ω, σ => run C J body kn (fun j ω σ => if j = id then kn ω σ else kx j ω σ) kr ω σ
  | .loop body, _, _, _, _, σ => J (first body) σ
  | .exit id, _, kx, _, ω, σ => kx id ω σ
  | .ret, _, _, kr, ω, σ => kr ω σ
  | _, _, _, _, _, _ => none
def find (C : Cfg) (J : Nat → St → Option Y) (ℓ : Nat) : Code → KN Y → (Nat → KN Y) → KN Y → Option (KN Y)
  | .seq a b, kn, kx, kr =>
    match find C J ℓ a (fun ω σ => run C J b kn kx kr ω σ) kx kr with
    | some f => some f
    | none => find C J ℓ b kn kx kr
  | .cond _ a b, kn, kx, kr =>
    match find C J ℓ a kn kx kr with
    | some f => some f
    | none => find C J ℓ b kn kx kr
  | .block id body, kn, kx, kr => find C J ℓ body kn (fun j ω σ => if j = id then kn ω σ else kx j ω σ) kr
  | .loop body, _, kx, kr =>
    if first body = ℓ then some (fun ω σ => run C J body (fun _ σ => J ℓ σ) kx kr ω σ) else find C J ℓ body (fun _ σ => J (first body) σ) kx kr
  | _, _, _, _ => none
def resX (T : Tab) (σ : St) : ResultVar → Option XV
  | .tmp t => σ.tm[t]?
  | .cell a t => match σ.tm[a]? with
    | some x => loadX T t σ x
    | none => none
def tupX : List XV → Option (List (AV ⊕ List AV))
  | [] => some []
  | .c x :: l => (tupX l).map fun r => .inl x :: r
  | .agg q :: l => (tupX l).map fun r => .inr q :: r
  | _ => none
def resultsX (T : Tab) (σ : St) (rs : List ResultVar) : Option XV :=
  match rs.mapM (resX T σ) with
  | some [x] => some x
  | some l => (tupX l).map .tup
  | none => none
def retAsg : Nat → Nat → List BP → Asg
  | _, _, [] => []
  | i, n, p :: l => (match p with | .gone => none | _ => if i < n then some i else none) :: retAsg (i + 1) n l
def retK (T : Tab) (c : Con) (rs : List ResultVar) (σ : St) : Option c.outs.V :=
  (resultsX T σ rs).bind fun x => (c.outs.fit σ.bx.length (retAsg 0 c.ins.bxs.length c.outs.bxs) [x] (c.outs.opens σ.bx)).map fun q => q.1
def enterF (C : Cfg) (c : Con) (fn : Func) (J : Nat → St → Option c.outs.V) (ω : List Bool) (v : c.ins.V) : Option c.outs.V :=
  match fn.body with
  | some code => run C J code (fun _ => retK C.T c fn.results.toList) (fun _ _ _ => none) (fun _ => retK C.T c fn.results.toList) ω (c.ins.st fn.ntmps v)
  | none => none
def loopF (C : Cfg) (c : Con) (fn : Func) (J : Nat → St → Option c.outs.V) (ℓ : Nat) (ω : List Bool) (σ : St) : Option c.outs.V :=
  match fn.body with
  | some code =>
    match find C J ℓ code (fun _ => retK C.T c fn.results.toList) (fun _ _ _ => none) (fun _ => retK C.T c fn.results.toList) with
    | some f => f ω σ
    | none => none
  | none => none
def AV.frz (b : Nat) (r : Ty) (rows : List r.D) : AV → AV
  | .ref k [] => if k = b then .sl true r rows else .ref k []
  | x => x
def XV.frz (b : Nat) (r : Ty) (rows : List r.D) : XV → XV
  | .c x => .c (x.frz b r rows)
  | x => x
def Bx.frz (b : Nat) (r : Ty) (rows : List r.D) : Bx → Bx
  | .mem cs => .mem (cs.map (AV.frz b r rows))
  | x => x
def St.frz (b : Nat) (σ : St) : St :=
  match σ.bx[b]? with
  | some (.sl _ r rows) => { tm := σ.tm.map (XV.frz b r rows), bx := (σ.bx.set b .dead).map (Bx.frz b r rows) }
  | _ => σ
def frzCells : List AP → List AV → St → St
  | .sl true _ :: l, .ref b [] :: xs, σ => frzCells l xs (σ.frz b)
  | _ :: l, _ :: xs, σ => frzCells l xs σ
  | _, _, σ => σ
def frzSlots (bs : List BP) : List (Nat × XP) → St → St
  | [], σ => σ
  | (i, .c (.sl true r)) :: l, σ =>
    match σ.tm[i]? with
    | some (.c x) => frzSlots bs l (frzCells [.sl true r] [x] σ)
    | _ => frzSlots bs l σ
  | (i, .c (.ptr k _)) :: l, σ =>
    match bs[k]?, σ.tm[i]? with
    | some (.mem ps), some (.c (.maddr b _)) =>
      match σ.bx[b]? with
      | some (.mem cs) => frzSlots bs l (frzCells ps cs σ)
      | _ => frzSlots bs l σ
    | _, _ => frzSlots bs l σ
  | _ :: l, σ => frzSlots bs l σ
def AV.someSlice : AV → Bool
  | .ref _ _ | .win _ _ _ _ | .sl _ _ _ | .nil => true
  | _ => false
def St.forget (b j : Nat) (σ : St) : St :=
  match σ.bx[b]? with
  | some (.mem cs) =>
    match cs[j]? with
    | some x => if x.someSlice then { σ with bx := σ.bx.set b (.mem (cs.set j (.ref σ.bx.length []))) ++ [.dead] } else σ
    | none => σ
  | _ => σ
def fgtCells (bs : List BP) (b : Nat) : Nat → List AP → St → St
  | _, [], σ => σ
  | j, p :: l, σ => fgtCells bs b (j + 1) l (match p with
    | .ref q => match bs[q]? with
      | some .gone => σ.forget b j
      | _ => σ
    | _ => σ)
def fgtSlots (bs : List BP) : List (Nat × XP) → St → St
  | [], σ => σ
  | (i, p) :: l, σ => fgtSlots bs l (match p with
    | .c (.ptr k _) => match bs[k]?, σ.tm[i]? with
      | some (.mem ps), some (.c (.maddr b _)) => fgtCells bs b 0 ps σ
      | _, _ => σ
    | _ => σ)
def jump (nb : Nat) (s : Shp) (f : s.V → Option Y) (σ : St) : Option Y :=
  if nb ≤ s.bxs.length then
    let σ := fgtSlots s.bxs s.slots (frzSlots s.bxs s.slots σ)
    (s.fit σ.bx.length (retAsg 0 nb s.bxs) σ.tm (s.opens σ.bx)).bind fun q => f q.1
  else none
end
end Go.Fw
end

section
namespace Go.Fw
def CellsAt (w : World) (b o : Nat) (cs : List Value) : Prop := ∀ j v, cs[j]? = some v → w.cell? ⟨b, o + j, none⟩ = some v
def Rd (w : World) (B : Nat → Prop) : (t : Ty) → List Value → t.D → Prop
  | .int k, vs, x => vs = [.int k x]
  | .bool, vs, x => vs = [.bool x]
  | .str, vs, x => vs = [.string ⟨x.toArray⟩]
  | .sl r, vs, x => ∃ a cap, vs = [.slice a (List.length x) cap] ∧ List.length x ≤ cap ∧ (List.length x = 0 ∨ ∃ b o, a = some ⟨b, o, none⟩ ∧ B b ∧
      ∀ (i : Nat) (y : r.D), x[i]? = some y → ∃ cs, cs.length = r.n ∧ CellsAt w b (o + i * r.n) cs ∧ Rd w B r cs y)
  | .unit, vs, _ => vs = []
  | .cons c r, vs, x => ∃ v l, vs = v :: l ∧ Rd w B c [v] x.1 ∧ Rd w B r l x.2
def Unfr (fr : Nat × Nat) (n : Nat) : Prop := ∀ i, i < n → ¬(fr.1 ≤ i ∧ i < fr.2)
def Ow (w : World) (S : Nat → Prop) : (d : Nat) → (t : Ty) → List Value → t.D → List Nat → Prop
  | 0, .sl r, vs, x, F => Rd w S (.sl r) vs x ∧ F = []
  | d + 1, .sl r, vs, x, F => ∃ a cap, vs = [.slice a (List.length x) cap] ∧ List.length x ≤ cap ∧
      ((cap = 0 ∧ F = []) ∨ ∃ b o arr ty fr Fs, a = some ⟨b, o, none⟩ ∧ w.heap[b]? = some (.cells arr ty fr) ∧ o + cap * r.n ≤ arr.size ∧ Unfr fr arr.size ∧
        F = b :: List.flatten Fs ∧ Fs.length = List.length x ∧
        ∀ (i : Nat) (y : r.D) (G : List Nat), x[i]? = some y → Fs[i]? = some G → ∃ cs, cs.length = r.n ∧ CellsAt w b (o + i * r.n) cs ∧ Ow w S d r cs y G)
  | d, .cons c r, vs, x, F => ∃ v l F1 F2, vs = v :: l ∧ F = F1 ++ F2 ∧ Ow w S d c [v] x.1 F1 ∧ Ow w S d r l x.2 F2
  | _, .unit, vs, _, F => vs = [] ∧ F = []
  | _, .int k, vs, x, F => vs = [.int k x] ∧ F = []
  | _, .bool, vs, x, F => vs = [.bool x] ∧ F = []
  | _, .str, vs, x, F => vs = [.string ⟨x.toArray⟩] ∧ F = []
theorem Rd_len {w B} : ∀ {t : Ty} {vs x}, Rd w B t vs x → vs.length = t.n
  | .int _, _, _, h => by simp only [Rd] at h; subst h; rfl
  | .bool, _, _, h => by simp only [Rd] at h; subst h; rfl
  | .str, _, _, h => by simp only [Rd] at h; subst h; rfl
  | .sl _, _, _, h => by simp only [Rd] at h; obtain ⟨_, _, h, _⟩ := h; subst h; rfl
  | .unit, _, _, h => by simp only [Rd] at h; subst h; rfl
  | .cons _ _, _, _, h => by
    simp only [Rd] at h
    obtain ⟨_, _, rfl, _, h⟩ := h
    simp [Ty.n, Rd_len h]
theorem Ow_len {w S} : ∀ {d} {t : Ty} {vs x F}, Ow w S d t vs x F → vs.length = t.n
  | _, .int _, _, _, _, h => by simp only [Ow] at h; rw [h.1]; rfl
  | _, .bool, _, _, _, h => by simp only [Ow] at h; rw [h.1]; rfl
  | _, .str, _, _, _, h => by simp only [Ow] at h; rw [h.1]; rfl
  | 0, .sl _, _, _, _, h => by simp only [Ow] at h; exact Rd_len h.1
  | _ + 1, .sl _, _, _, _, h => by simp only [Ow] at h; obtain ⟨_, _, h, _⟩ := h; subst h; rfl
  | _, .unit, _, _, _, h => by simp only [Ow] at h; rw [h.1]; rfl
  | _, .cons _ _, _, _, _, h => by
    simp only [Ow] at h
    obtain ⟨_, _, _, _, rfl, _, _, h⟩ := h
    simp [Ty.n, Ow_len h]
theorem CellsAt.of_block {w w' : World} {b o : Nat} {cs : List Value} (h : CellsAt w b o cs) (hb : w'.heap[b]? = w.heap[b]?) : CellsAt w' b o cs :=
  fun j v hj => (World.cell?_of_block (a := ⟨b, o + j, none⟩) hb).trans (h j v hj)
theorem Rd_mono {w w' : World} {B B' : Nat → Prop} (hB : ∀ b, B b → B' b) (hw : ∀ b, B b → w'.heap[b]? = w.heap[b]?) : ∀ {t : Ty} {vs x}, Rd w B t vs x → Rd w' B' t vs x
  | .int _, _, _, h => by simpa only [Rd] using h
  | .bool, _, _, h => by simpa only [Rd] using h
  | .str, _, _, h => by simpa only [Rd] using h
  | .unit, _, _, h => by simpa only [Rd] using h
  | .sl r, _, _, h => by
    simp only [Rd] at h ⊢
    obtain ⟨a, cap, h1, h2, h3⟩ := h
    refine ⟨a, cap, h1, h2, h3.imp id ?_⟩
    rintro ⟨b, o, ha, hb, h⟩
    refine ⟨b, o, ha, hB b hb, fun i y hy => ?_⟩
    obtain ⟨cs, hl, hc, hr⟩ := h i y hy
    exact ⟨cs, hl, hc.of_block (hw b hb), Rd_mono hB hw hr⟩
  | .cons _ _, _, _, h => by
    simp only [Rd] at h ⊢
    obtain ⟨v, l, h1, h2, h3⟩ := h
    exact ⟨v, l, h1, Rd_mono hB hw h2, Rd_mono hB hw h3⟩
theorem Ow_mono {w w' : World} {S S' : Nat → Prop} (hS : ∀ b, S b → S' b) (hw : ∀ b, S b → w'.heap[b]? = w.heap[b]?) :
    ∀ {d} {t : Ty} {vs x F}, (∀ b ∈ F, w'.heap[b]? = w.heap[b]?) → Ow w S d t vs x F → Ow w' S' d t vs x F
  | _, .int _, _, _, _, _, h => by simpa only [Ow] using h
  | _, .bool, _, _, _, _, h => by simpa only [Ow] using h
  | _, .str, _, _, _, _, h => by simpa only [Ow] using h
  | _, .unit, _, _, _, _, h => by simpa only [Ow] using h
  | 0, .sl r, _, _, _, _, h => by
    simp only [Ow] at h ⊢
    exact ⟨Rd_mono hS hw h.1, h.2⟩
  | d + 1, .sl r, _, x, F, hF, h => by
    simp only [Ow] at h ⊢
    obtain ⟨a, cap, h1, h2, h3⟩ := h
    refine ⟨a, cap, h1, h2, h3.imp id ?_⟩
    rintro ⟨b, o, arr, ty, fr, Fs, ha, hb, h4, h5, h6, h7, h⟩
    subst h6
    have hbb := hF b (by simp)
    refine ⟨b, o, arr, ty, fr, Fs, ha, hbb.trans hb, h4, h5, rfl, h7, fun i y G hy hG => ?_⟩
    obtain ⟨cs, hl, hc, hr⟩ := h i y G hy hG
    refine ⟨cs, hl, hc.of_block hbb, Ow_mono hS hw (fun c hc => hF c ?_) hr⟩
    exact List.mem_cons_of_mem _ (List.mem_flatten.2 ⟨G, List.mem_of_getElem? hG, hc⟩)
  | _, .cons _ _, _, _, _, hF, h => by
    simp only [Ow] at h ⊢
    obtain ⟨v, l, F1, F2, h1, h2, h3, h4⟩ := h
    subst h2
    exact ⟨v, l, F1, F2, h1, rfl, Ow_mono hS hw (fun c hc => hF c (by simp [hc])) h3, Ow_mono hS hw (fun c hc => hF c (by simp [hc])) h4⟩
theorem Ow_rd {w : World} {S : Nat → Prop} : ∀ {d} {t : Ty} {vs x F}, Ow w S d t vs x F → Rd w (fun b => S b ∨ b ∈ F) t vs x
  | _, .int _, _, _, _, h => by simp only [Ow] at h; simp only [Rd]; exact h.1
  | _, .bool, _, _, _, h => by simp only [Ow] at h; simp only [Rd]; exact h.1
  | _, .str, _, _, _, h => by simp only [Ow] at h; simp only [Rd]; exact h.1
  | _, .unit, _, _, _, h => by simp only [Ow] at h; simp only [Rd]; exact h.1
  | 0, .sl r, _, _, _, h => by
    simp only [Ow] at h
    exact Rd_mono (fun b hb => .inl hb) (fun _ _ => rfl) h.1
  | d + 1, .sl r, _, x, F, h => by
    simp only [Ow] at h
    simp only [Rd]
    obtain ⟨a, cap, h1, h2, h3⟩ := h
    refine ⟨a, cap, h1, h2, ?_⟩
    rcases h3 with ⟨hc, _⟩ | ⟨b, o, arr, ty, fr, Fs, ha, hb, h4, h5, h6, h7, h⟩
    · exact .inl (by omega)
    · refine .inr ⟨b, o, ha, .inr (by simp [h6]), fun i y hy => ?_⟩
      have hi : i < Fs.length := by
        have := (List.getElem?_eq_some_iff.1 hy).1
        omega
      obtain ⟨cs, hl, hc, hr⟩ := h i y Fs[i] hy (List.getElem?_eq_getElem hi)
      refine ⟨cs, hl, hc, Rd_mono ?_ (fun _ _ => rfl) (Ow_rd hr)⟩
      intro c hc'
      rcases hc' with hc' | hc'
      · exact .inl hc'
      · exact .inr (by rw [h6]; exact List.mem_cons_of_mem _ (List.mem_flatten.2 ⟨_, List.getElem_mem hi, hc'⟩))
  | _, .cons _ _, _, _, _, h => by
    simp only [Ow] at h
    simp only [Rd]
    obtain ⟨v, l, F1, F2, h1, h2, h3, h4⟩ := h
    subst h2
    refine ⟨v, l, h1, Rd_mono ?_ (fun _ _ => rfl) (Ow_rd h3), Rd_mono ?_ (fun _ _ => rfl) (Ow_rd h4)⟩
    · intro c hc; exact hc.imp id (by simp_all)
    · intro c hc; exact hc.imp id (by simp_all)
theorem Ow_weaken {w : World} {S : Nat → Prop} : ∀ {d d'} {t : Ty} {vs x F}, d ≤ d' → Ow w S d' t vs x F →
    ∃ F1 F2, F.Perm (F1 ++ F2) ∧ Ow w (fun b => S b ∨ b ∈ F2) d t vs x F1
  | _, _, .int _, _, _, _, _, h => by simp only [Ow] at h ⊢; exact ⟨[], [], by rw [h.2]; simp, h.1, rfl⟩
  | _, _, .bool, _, _, _, _, h => by simp only [Ow] at h ⊢; exact ⟨[], [], by rw [h.2]; simp, h.1, rfl⟩
  | _, _, .str, _, _, _, _, h => by simp only [Ow] at h ⊢; exact ⟨[], [], by rw [h.2]; simp, h.1, rfl⟩
  | _, _, .unit, _, _, _, _, h => by simp only [Ow] at h ⊢; exact ⟨[], [], by rw [h.2]; simp, h.1, rfl⟩
  | 0, d', .sl r, _, x, F, _, h => by
    refine ⟨[], F, by simp, ?_⟩
    simp only [Ow]
    exact ⟨Ow_rd h, trivial⟩
  | d + 1, 0, .sl r, _, x, F, hd, h => by omega
  | d + 1, d' + 1, .sl r, _, x, F, hd, h => by
    simp only [Ow] at h ⊢
    obtain ⟨a, cap, h1, h2, h3⟩ := h
    rcases h3 with ⟨hc, hF⟩ | ⟨b, o, arr, ty, fr, Fs, ha, hb, h4, h5, h6, h7, h⟩
    · exact ⟨[], [], by simp [hF], a, cap, h1, h2, .inl ⟨hc, rfl⟩⟩
    · have key : ∀ (n : Nat) (Fs : List (List Nat)) (y : List r.D), Fs.length = n → y.length = n → (∀ (i : Nat) (z : r.D) (G : List Nat), y[i]? = some z → Fs[i]? = some G → ∃ cs, cs.length = r.n ∧ CellsAt w b (o + i * r.n) cs ∧ Ow w S d' r cs z G) →
          ∃ (Gs : List (List Nat)) (F2 : List Nat), Fs.flatten.Perm (Gs.flatten ++ F2) ∧ Gs.length = n ∧ ∀ (i : Nat) (z : r.D) (G : List Nat), y[i]? = some z → Gs[i]? = some G → ∃ cs, cs.length = r.n ∧ CellsAt w b (o + i * r.n) cs ∧ Ow w (fun b => S b ∨ b ∈ F2) d r cs z G := by
        intro n
        induction n with
        | zero =>
          intro Fs y hF hy _
          obtain rfl := List.eq_nil_of_length_eq_zero hF
          exact ⟨[], [], by simp, rfl, fun i z G _ hG => by simp at hG⟩
        | succ n ih =>
          intro Fs y hF hy hh
          obtain ⟨Fs', G0, rfl⟩ : ∃ l a, Fs = l ++ [a] := ⟨Fs.dropLast, Fs.getLast (by intro e; simp [e] at hF), (List.dropLast_concat_getLast _).symm⟩
          obtain ⟨y', z0, rfl⟩ : ∃ l a, y = l ++ [a] := ⟨y.dropLast, y.getLast (by intro e; simp [e] at hy), (List.dropLast_concat_getLast _).symm⟩
          simp only [List.length_append, List.length_cons, List.length_nil] at hF hy
          obtain ⟨Gs, F2, hp, hl, hg⟩ := ih Fs' y' (by omega) (by omega) (fun i z G hz hG => hh i z G
            (by rw [List.getElem?_append_left (List.getElem?_eq_some_iff.1 hz).1]; exact hz) (by rw [List.getElem?_append_left (List.getElem?_eq_some_iff.1 hG).1]; exact hG))
          obtain ⟨cs, hcl, hc, ho⟩ := hh n z0 G0 (by rw [List.getElem?_append_right (by omega)]; simp [show n - y'.length = 0 by omega]) (by rw [List.getElem?_append_right (by omega)]; simp [show n - Fs'.length = 0 by omega])
          obtain ⟨H1, H2, hhp, hho⟩ := Ow_weaken (d := d) (d' := d') (by omega) ho
          refine ⟨Gs ++ [H1], F2 ++ H2, ?_, by simp [hl], ?_⟩
          · simp only [List.flatten_append, List.flatten_cons, List.flatten_nil, List.append_nil]
            refine (hp.append hhp).trans ?_
            rw [List.append_assoc, List.append_assoc]
            refine List.Perm.append_left _ ?_
            rw [← List.append_assoc, ← List.append_assoc]
            exact List.Perm.append_right _ List.perm_append_comm
          · intro i z G hz hG
            by_cases hi : i < n
            · rw [List.getElem?_append_left (by omega)] at hz hG
              obtain ⟨cs, e1, e2, e3⟩ := hg i z G hz hG
              exact ⟨cs, e1, e2, Ow_mono (by intro c hc; exact hc.imp id (by simp_all)) (fun _ _ => rfl) (fun _ _ => rfl) e3⟩
            · have : i = n := by
                have := (List.getElem?_eq_some_iff.1 hz).1
                simp at this; omega
              subst this
              rw [List.getElem?_append_right (by omega)] at hz hG
              simp [show i - y'.length = 0 by omega, show i - Gs.length = 0 by omega] at hz hG
              subst hz hG
              exact ⟨cs, hcl, hc, Ow_mono (by intro c hc; exact hc.imp id (by simp_all)) (fun _ _ => rfl) (fun _ _ => rfl) hho⟩
      obtain ⟨Gs, F2, hp, hl, hg⟩ := key _ Fs x h7 rfl h
      refine ⟨b :: Gs.flatten, F2, ?_, a, cap, h1, h2, .inr ⟨b, o, arr, ty, fr, Gs, ha, hb, h4, h5, rfl, hl, hg⟩⟩
      rw [h6]
      exact List.Perm.cons _ hp
  | d, d', .cons _ _, _, _, _, hd, h => by
    simp only [Ow] at h ⊢
    obtain ⟨v, l, F1, F2, h1, h2, h3, h4⟩ := h
    obtain ⟨A1, A2, pa, oa⟩ := Ow_weaken hd h3
    obtain ⟨B1, B2, pb, ob⟩ := Ow_weaken hd h4
    refine ⟨A1 ++ B1, A2 ++ B2, ?_, v, l, A1, B1, h1, rfl, Ow_mono (by intro c hc; exact hc.imp id (by simp_all)) (fun _ _ => rfl) (fun _ _ => rfl) oa, Ow_mono (by intro c hc; exact hc.imp id (by simp_all)) (fun _ _ => rfl) (fun _ _ => rfl) ob⟩
    rw [h2]
    refine (pa.append pb).trans ?_
    rw [List.append_assoc, List.append_assoc]
    refine List.Perm.append_left _ ?_
    rw [← List.append_assoc, ← List.append_assoc]
    exact List.Perm.append_right _ List.perm_append_comm
def RB (w : World) : (t : Ty) → List Value → t.D → Nat → Prop
  | .sl r, vs, x, c => ∃ b o len cap, vs = [.slice (some ⟨b, o, none⟩) len cap] ∧ 0 < List.length x ∧
      (c = b ∨ ∃ (i : Nat) (y : r.D) (cs : List Value), x[i]? = some y ∧ cs.length = r.n ∧ CellsAt w b (o + i * r.n) cs ∧ RB w r cs y c)
  | .cons c r, vs, x, d => ∃ v l, vs = v :: l ∧ (RB w c [v] x.1 d ∨ RB w r l x.2 d)
  | _, _, _, _ => False
theorem CellsAt.unique {w : World} {b o : Nat} {cs ds : List Value} (h : CellsAt w b o cs) (k : CellsAt w b o ds) (hl : cs.length = ds.length) : cs = ds := by
  apply List.ext_getElem hl
  intro i h1 h2
  have e1 := h i _ (List.getElem?_eq_getElem h1)
  have e2 := k i _ (List.getElem?_eq_getElem h2)
  rw [e1] at e2
  exact Option.some.inj e2
theorem RB_sub {w : World} {B : Nat → Prop} {c : Nat} : ∀ {t : Ty} {vs x}, Rd w B t vs x → RB w t vs x c → B c
  | .int _, _, _, _, h => by simp [RB] at h
  | .bool, _, _, _, h => by simp [RB] at h
  | .str, _, _, _, h => by simp [RB] at h
  | .unit, _, _, _, h => by simp [RB] at h
  | .sl r, _, x, h, k => by
    simp only [Rd] at h
    simp only [RB] at k
    obtain ⟨a, cap, rfl, _, h⟩ := h
    obtain ⟨b, o, len, cap', e, hl, k⟩ := k
    simp only [List.cons.injEq, Value.slice.injEq, and_true] at e
    obtain ⟨rfl, rfl, rfl⟩ := e
    rcases h with h | ⟨b', o', e, hb, h⟩
    · omega
    simp only [Option.some.injEq, Addr.mk.injEq, and_true] at e
    obtain ⟨rfl, rfl⟩ := e
    rcases k with rfl | ⟨i, y, cs, hy, hcl, hca, k⟩
    · exact hb
    · obtain ⟨ds, d1, d2, d3⟩ := h i y hy
      have := hca.unique d2 (by omega)
      subst this
      exact RB_sub d3 k
  | .cons _ _, _, _, h, k => by
    simp only [Rd] at h
    simp only [RB] at k
    obtain ⟨v, l, rfl, h1, h2⟩ := h
    obtain ⟨v', l', e, k⟩ := k
    cases e
    exact k.elim (RB_sub h1) (RB_sub h2)
theorem RB_keep {w w' : World} {c : Nat} : ∀ {t : Ty} {vs x}, (∀ d, RB w t vs x d → w'.heap[d]? = w.heap[d]?) → RB w t vs x c → RB w' t vs x c
  | .int _, _, _, _, h => by simp [RB] at h
  | .bool, _, _, _, h => by simp [RB] at h
  | .str, _, _, _, h => by simp [RB] at h
  | .unit, _, _, _, h => by simp [RB] at h
  | .sl r, _, x, h, k => by
    simp only [RB] at h k ⊢
    obtain ⟨b, o, len, cap, e, hl, k⟩ := k
    refine ⟨b, o, len, cap, e, hl, ?_⟩
    rcases k with rfl | ⟨i, y, cs, hy, hcl, hca, k⟩
    · exact .inl rfl
    · have hb := h b ⟨b, o, len, cap, e, hl, .inl rfl⟩
      exact .inr ⟨i, y, cs, hy, hcl, hca.of_block hb, RB_keep (fun d hd => h d ⟨b, o, len, cap, e, hl, .inr ⟨i, y, cs, hy, hcl, hca, hd⟩⟩) k⟩
  | .cons _ _, _, _, h, k => by
    simp only [RB] at h k ⊢
    obtain ⟨v, l, e, k⟩ := k
    refine ⟨v, l, e, k.elim (fun k => .inl (RB_keep (fun d hd => h d ⟨v, l, e, .inl hd⟩) k)) (fun k => .inr (RB_keep (fun d hd => h d ⟨v, l, e, .inr hd⟩) k))⟩
end Go.Fw
end

section
namespace Go.Fw
def All2 {α β : Type} (R : α → β → Prop) : List α → List β → Prop
  | [], [] => True
  | a :: l, b :: m => R a b ∧ All2 R l m
  | _, _ => False
theorem All2.len {α β : Type} {R : α → β → Prop} : ∀ {l : List α} {m : List β}, All2 R l m → l.length = m.length
  | [], [], _ => rfl
  | _ :: _, _ :: _, h => by simp [All2.len h.2]
theorem All2.get {α β : Type} {R : α → β → Prop} : ∀ {l : List α} {m : List β} {i : Nat} {a : α}, All2 R l m → l[i]? = some a → ∃ b, m[i]? = some b ∧ R a b
  | _ :: _, _ :: _, 0, a, h, e => by simp at e; subst e; exact ⟨_, rfl, h.1⟩
  | _ :: _, _ :: _, i + 1, a, h, e => by
    obtain ⟨b, hb, hr⟩ := All2.get (i := i) h.2 (by simpa using e)
    exact ⟨b, by simpa using hb, hr⟩
  | [], [], _, _, _, e => by simp at e
theorem All2.imp {α β : Type} {R S : α → β → Prop} (h : ∀ a b, R a b → S a b) : ∀ {l : List α} {m : List β}, All2 R l m → All2 S l m
  | [], [], _ => trivial
  | _ :: _, _ :: _, k => ⟨h _ _ k.1, All2.imp h k.2⟩
theorem All2.of_get {α β : Type} {R : α → β → Prop} : ∀ {l : List α} {m : List β}, l.length = m.length → (∀ (i : Nat) a b, l[i]? = some a → m[i]? = some b → R a b) → All2 R l m
  | [], [], _, _ => trivial
  | a :: l, b :: m, hl, h => ⟨h 0 a b rfl rfl, All2.of_get (by simpa using hl) fun i x y hx hy => h (i + 1) x y (by simpa using hx) (by simpa using hy)⟩
  | [], _ :: _, hl, _ => by simp at hl
  | _ :: _, [], hl, _ => by simp at hl
structure Env where
  blk : Nat → Nat
  hdr : Nat → Value
  T : Nat → Prop
  S : Nat → Prop
def hdrAt (w : World) : Value → List Stp → Option Value
  | h, [] => some h
  | .slice (some a) _ _, s :: p =>
    match w.cell? ⟨a.block, a.off + s.i * s.sz + s.j, none⟩ with
    | some h => hdrAt w h p
    | none => none
  | _, _ :: _ => none
def PathOk : (r : Ty) → List r.D → List Stp → Prop
  | _, _, [] => True
  | r, rows, s :: p => s.i < rows.length ∧ s.sz = r.n ∧
    match cellGet r s.j (rowAt r rows s.i) with
    | some ⟨.sl q, x⟩ => PathOk q x p
    | _ => False
def cutHdr (sz off n : Nat) (a : Option Addr) (cap : Nat) : Value :=
  .slice (if cap = off then a else a.map (·.add (off * sz))) n (cap - off)
def isSlice : Value → Bool
  | .slice .. => true
  | _ => false
def isPtr : Value → Bool
  | .pointer (some ⟨_, _, none⟩) => true
  | _ => false
def RA (E : Env) (w : World) (q : (r : Ty) × r.D) (p : Value) : Prop := ∃ bb o cs, p = .pointer (some ⟨bb, o, none⟩) ∧ E.T bb ∧ cs.length = q.1.n ∧ CellsAt w bb o cs ∧ Rd w E.T q.1 cs q.2
def VR (E : Env) (w : World) (vw : List Bx) : AV → Value → Prop
  | .v t x, v => t.scalar = true ∧ Rd w (fun _ => False) t [v] x
  | .sl s r x, v => Rd w (if s then E.S else E.T) (.sl r) [v] x
  | .nil, v => v = .slice none 0 0
  | .ref b p, v => isSlice v = true ∧ match vw[b]? with
    | some (.sl _ r rows) => PathOk r rows p ∧ (∃ q, getP r rows p = some q) ∧ hdrAt w (E.hdr b) p = some v
    | some _ => True
    | none => False
  | .win b p off n, v => isSlice v = true ∧ match vw[b]? with
    | some (.sl _ r rows) => PathOk r rows p ∧ ∃ q ys a len cap, getP r rows p = some ⟨q, ys⟩ ∧ off + n ≤ List.length ys ∧ hdrAt w (E.hdr b) p = some (.slice a len cap) ∧ v = cutHdr q.n off n a cap
    | some _ => True
    | none => False
  | .maddr b j, v => b < vw.length ∧ v = .pointer (some ⟨E.blk b, j, none⟩)
  | .saddr b p i sz j, v => isPtr v = true ∧ match vw[b]? with
    | some (.sl _ r rows) => PathOk r rows p ∧ ∃ q ys bb o len cap, getP r rows p = some ⟨q, ys⟩ ∧ i < List.length ys ∧ hdrAt w (E.hdr b) p = some (.slice (some ⟨bb, o, none⟩) len cap) ∧ v = .pointer (some ⟨bb, o + i * sz + j, none⟩)
    | some _ => True
    | none => False
  | .raddr s r x j, v => ∃ bb o cs, v = .pointer (some ⟨bb, o + j, none⟩) ∧ (if s then E.S else E.T) bb ∧ cs.length = r.n ∧ CellsAt w bb o cs ∧ Rd w (if s then E.S else E.T) r cs x
  | .fn f caps, v => (∀ b ∈ caps, b < vw.length) ∧ v = .func (.func f) #[] (caps.map fun b => Value.pointer (some ⟨E.blk b, 0, none⟩)).toArray
  | .rfn f rows, v => ∃ ps : List Value, v = .func (.func f) #[] ps.toArray ∧ All2 (RA E w) rows ps
  | .nilp, v => v = .pointer none
  | .undef, _ => True
def VRs (E : Env) (w : World) (vw : List Bx) (l : List AV) (vs : List Value) : Prop := All2 (VR E w vw) l vs
def TR (E : Env) (w : World) (vw : List Bx) : AV ⊕ List AV → Value → Prop
  | .inl x, v => VR E w vw x v
  | .inr q, v => ∃ vs, v = .agg vs ∧ VRs E w vw q vs.toList
def XR (E : Env) (w : World) (vw : List Bx) : XV → Value → Prop
  | .c x, v => VR E w vw x v
  | .agg l, v => ∃ vs, v = .agg vs ∧ VRs E w vw l vs.toList
  | .tup l, v => ∃ vs, v = .tuple vs ∧ All2 (TR E w vw) l vs.toList
def BoxR (E : Env) (w : World) (vw : List Bx) (k : Nat) : Bx → List Nat → Prop
  | .mem cs, F => F = [E.blk k] ∧ ∃ arr ty fr, w.heap[E.blk k]? = some (.cells arr ty fr) ∧ Unfr fr arr.size ∧ VRs E w vw cs arr.toList
  | .sl d r rows, F => 1 ≤ d ∧ Ow w E.S d (.sl r) [E.hdr k] rows F
  | .dead, F => F = []
structure Sep (E : Env) (w : World) (F : List Nat) : Prop where
  nodup : F.Nodup
  free : ∀ c ∈ F, ¬ E.T c
  lt : ∀ c ∈ F, c < w.heap.size
  st : ∀ c, E.S c → E.T c
  tlt : ∀ c, E.T c → c < w.heap.size
def BoxesF (E : Env) (w : World) (vw bx : List Bx) (Fs : List (List Nat)) : Prop :=
  Fs.length = bx.length ∧ ∀ k B F, bx[k]? = some B → Fs[k]? = some F → BoxR E w vw k B F
def Boxes (E : Env) (w : World) (vw bx : List Bx) (G : List Nat) : Prop :=
  ∃ Fs, BoxesF E w vw bx Fs ∧ Sep E w (Fs.flatten ++ G)
structure Le (E E' : Env) : Prop where
  blk : E'.blk = E.blk
  hdr : E'.hdr = E.hdr
  T : ∀ c, E.T c → E'.T c
  S : ∀ c, E.S c → E'.S c
  Tof : ∀ c, E'.T c → E.T c ∨ E'.S c
  Sof : ∀ c, E'.S c → E.S c ∨ ¬ E.T c
theorem Le.refl (E : Env) : Le E E := ⟨rfl, rfl, fun _ h => h, fun _ h => h, fun _ h => .inl h, fun _ h => .inl h⟩
theorem Le.trans {E E' E'' : Env} (h : Le E E') (k : Le E' E'') : Le E E'' :=
  ⟨k.blk.trans h.blk, k.hdr.trans h.hdr, fun c hc => k.T c (h.T c hc), fun c hc => k.S c (h.S c hc),
   fun c hc => (k.Tof c hc).elim (fun h' => (h.Tof c h').imp id (k.S c)) .inr,
   fun c hc => (k.Sof c hc).elim (h.Sof c) (fun h' => .inr fun ht => h' (h.T c ht))⟩
theorem Rd_cell {w B} : ∀ {r : Ty} {cs x j t y}, Rd w B r cs x → cellGet r j x = some ⟨t, y⟩ → ∃ v, cs[j]? = some v ∧ Rd w B t [v] y
  | .cons c r, cs, x, 0, t, y, h, e => by
    simp only [Rd] at h
    obtain ⟨v, l, rfl, h1, h2⟩ := h
    simp only [cellGet, Option.some.injEq, Sigma.mk.injEq] at e
    obtain ⟨rfl, e⟩ := e
    obtain rfl := eq_of_heq e
    exact ⟨v, rfl, h1⟩
  | .cons c r, cs, x, j + 1, t, y, h, e => by
    simp only [Rd] at h
    obtain ⟨v, l, rfl, h1, h2⟩ := h
    simp only [cellGet] at e
    obtain ⟨u, hu, hr⟩ := Rd_cell h2 e
    exact ⟨u, by simpa using hu, hr⟩
  | .int k, cs, x, 0, t, y, h, e => by
    simp only [cellGet, Option.some.injEq, Sigma.mk.injEq] at e
    obtain ⟨rfl, e⟩ := e
    obtain rfl := eq_of_heq e
    simp only [Rd] at h; subst h
    exact ⟨_, rfl, by simp only [Rd]⟩
  | .bool, cs, x, 0, t, y, h, e => by
    simp only [cellGet, Option.some.injEq, Sigma.mk.injEq] at e
    obtain ⟨rfl, e⟩ := e
    obtain rfl := eq_of_heq e
    simp only [Rd] at h; subst h
    exact ⟨_, rfl, by simp only [Rd]⟩
  | .str, cs, x, 0, t, y, h, e => by
    simp only [cellGet, Option.some.injEq, Sigma.mk.injEq] at e
    obtain ⟨rfl, e⟩ := e
    obtain rfl := eq_of_heq e
    simp only [Rd] at h; subst h
    exact ⟨_, rfl, by simp only [Rd]⟩
  | .sl r, cs, x, 0, t, y, h, e => by
    simp only [cellGet, Option.some.injEq, Sigma.mk.injEq] at e
    obtain ⟨rfl, e⟩ := e
    obtain rfl := eq_of_heq e
    have h' := h
    simp only [Rd] at h
    obtain ⟨a, cap, rfl, _⟩ := h
    exact ⟨_, rfl, h'⟩
  | .unit, _, _, _, _, _, _, e => by simp [cellGet] at e
  | .int _, _, _, _ + 1, _, _, _, e => by simp [cellGet] at e
  | .bool, _, _, _ + 1, _, _, _, e => by simp [cellGet] at e
  | .str, _, _, _ + 1, _, _, _, e => by simp [cellGet] at e
  | .sl _, _, _, _ + 1, _, _, _, e => by simp [cellGet] at e
theorem rowAt_get {r : Ty} {rows : List r.D} {i : Nat} (h : i < rows.length) : rows[i]? = some (rowAt r rows i) := by
  simp [rowAt, h]
theorem path_rd {w : World} {B : Nat → Prop} : ∀ {p : List Stp} {r : Ty} {h : Value} {rows : List r.D} {q : Ty} {ys : List q.D},
    Rd w B (.sl r) [h] rows → PathOk r rows p → getP r rows p = some ⟨q, ys⟩ →
    ∃ h', (∀ w' : World, (∀ b, B b → w'.heap[b]? = w.heap[b]?) → hdrAt w' h p = some h') ∧ Rd w B (.sl q) [h'] ys
  | [], r, h, rows, q, ys, hr, _, hg => by
    simp only [getP, Option.some.injEq, Sigma.mk.injEq] at hg
    obtain ⟨rfl, e⟩ := hg
    obtain rfl := eq_of_heq e
    exact ⟨h, fun w' _ => by cases h <;> rfl, hr⟩
  | s :: p, r, h, rows, q, ys, hr, hp, hg => by
    simp only [PathOk] at hp
    obtain ⟨hi, hsz, hp⟩ := hp
    simp only [getP] at hg
    simp only [Rd] at hr
    obtain ⟨a, cap, hh, _, hr⟩ := hr
    obtain rfl := (List.cons.inj hh).1
    rcases hr with hr | ⟨b, o, rfl, hb, hr⟩
    · omega
    obtain ⟨cs, hl, hc, hrow⟩ := hr s.i _ (rowAt_get hi)
    split at hg
    · rename_i q' x' hcg
      rw [hcg] at hp
      obtain ⟨v, hv, hrv⟩ := Rd_cell hrow hcg
      obtain ⟨h', hh', hrd⟩ := path_rd hrv hp hg
      refine ⟨h', fun w' hw' => ?_, hrd⟩
      simp only [hdrAt]
      have hcell : w'.cell? ⟨b, o + s.i * s.sz + s.j, none⟩ = some v := by
        rw [hsz]
        exact (World.cell?_of_block (a := ⟨b, _, none⟩) (hw' b hb)).trans (hc _ _ hv)
      rw [hcell]
      exact hh' w' hw'
    · cases hg
theorem hdrAt_here {w : World} {h : Value} : hdrAt w h [] = some h := by cases h <;> rfl
structure Keep (E : Env) (w : World) (vw : List Bx) (E' : Env) (w' : World) (vw' : List Bx) : Prop where
  len : vw.length ≤ vw'.length
  blk : ∀ b, b < vw.length → E'.blk b = E.blk b
  T : ∀ b, E.T b → E'.T b
  S : ∀ b, E.S b → E'.S b
  st : ∀ b, E.S b → E.T b
  heap : ∀ b, E.T b → w'.heap[b]? = w.heap[b]?
  box : ∀ b d r rows, b < vw.length → vw'[b]? = some (.sl d r rows) → ∃ d0 rows0, vw[b]? = some (.sl d0 r rows0) ∧
    ∀ p, PathOk r rows0 p → ∀ q ys, getP r rows0 p = some ⟨q, ys⟩ → PathOk r rows p ∧ (∃ ys', getP r rows p = some ⟨q, ys'⟩ ∧ List.length ys' = List.length ys) ∧
      ∀ h, hdrAt w (E.hdr b) p = some h → hdrAt w' (E'.hdr b) p = some h
theorem getElem?_some_of_le {α : Type} {l l' : List α} {b : Nat} {x : α} (h : l.length ≤ l'.length) (e : l[b]? = some x) : ∃ y, l'[b]? = some y :=
  ⟨l'[b]'(Nat.lt_of_lt_of_le (List.getElem?_eq_some_iff.1 e).1 h), List.getElem?_eq_getElem _⟩
theorem VR_keep {E E' : Env} {w w' : World} {vw vw' : List Bx} (k : Keep E w vw E' w' vw') : ∀ {x : AV} {v : Value}, VR E w vw x v → VR E' w' vw' x v := by
  intro x v h
  cases x with
  | v t x => exact ⟨h.1, Rd_mono (fun _ h => h) (fun _ h => h.elim) h.2⟩
  | sl s r x =>
    simp only [VR] at h ⊢
    cases s with
    | false => exact Rd_mono k.T k.heap (by simpa using h)
    | true => exact Rd_mono k.S (fun b hb => k.heap b (k.st b hb)) (by simpa using h)
  | nil => exact h
  | ref b p =>
    simp only [VR] at h ⊢
    obtain ⟨h0, h⟩ := h
    refine ⟨h0, ?_⟩
    cases e : vw[b]? with
    | none => rw [e] at h; exact h.elim
    | some B =>
      rw [e] at h
      have hlt := (List.getElem?_eq_some_iff.1 e).1
      obtain ⟨B', e'⟩ := getElem?_some_of_le k.len e
      rw [e']
      cases B' with
      | mem cs => trivial
      | dead => trivial
      | sl d r rows =>
        obtain ⟨d0, rows0, e0, hk⟩ := k.box b d r rows hlt e'
        rw [e] at e0; cases e0
        simp only at h
        obtain ⟨hp, ⟨⟨q, ys⟩, hg⟩, hh⟩ := h
        obtain ⟨k1, ⟨ys', k2, _⟩, k3⟩ := hk p hp q ys hg
        exact ⟨k1, ⟨_, k2⟩, k3 _ hh⟩
  | win b p off n =>
    simp only [VR] at h ⊢
    obtain ⟨h0, h⟩ := h
    refine ⟨h0, ?_⟩
    cases e : vw[b]? with
    | none => rw [e] at h; exact h.elim
    | some B =>
      rw [e] at h
      have hlt := (List.getElem?_eq_some_iff.1 e).1
      obtain ⟨B', e'⟩ := getElem?_some_of_le k.len e
      rw [e']
      cases B' with
      | mem cs => trivial
      | dead => trivial
      | sl d r rows =>
        obtain ⟨d0, rows0, e0, hk⟩ := k.box b d r rows hlt e'
        rw [e] at e0; cases e0
        simp only at h
        obtain ⟨hp, q, ys, a, len, cap, hg, hl, hh, hv⟩ := h
        obtain ⟨k1, ⟨ys', k2, k4⟩, k3⟩ := hk p hp q ys hg
        exact ⟨k1, q, ys', a, len, cap, k2, by omega, k3 _ hh, hv⟩
  | maddr b j => exact ⟨Nat.lt_of_lt_of_le h.1 k.len, by rw [h.2, k.blk b h.1]⟩
  | saddr b p i sz j =>
    simp only [VR] at h ⊢
    obtain ⟨h0, h⟩ := h
    refine ⟨h0, ?_⟩
    cases e : vw[b]? with
    | none => rw [e] at h; exact h.elim
    | some B =>
      rw [e] at h
      have hlt := (List.getElem?_eq_some_iff.1 e).1
      obtain ⟨B', e'⟩ := getElem?_some_of_le k.len e
      rw [e']
      cases B' with
      | mem cs => trivial
      | dead => trivial
      | sl d r rows =>
        obtain ⟨d0, rows0, e0, hk⟩ := k.box b d r rows hlt e'
        rw [e] at e0; cases e0
        simp only at h
        obtain ⟨hp, q, ys, bb, o, len, cap, hg, hl, hh, hv⟩ := h
        obtain ⟨k1, ⟨ys', k2, k4⟩, k3⟩ := hk p hp q ys hg
        exact ⟨k1, q, ys', bb, o, len, cap, k2, by omega, k3 _ hh, hv⟩
  | raddr s r x j =>
    simp only [VR] at h ⊢
    obtain ⟨bb, o, cs, hv, hb, hl, hc, hr⟩ := h
    cases s with
    | false => exact ⟨bb, o, cs, hv, k.T bb (by simpa using hb), hl, hc.of_block (k.heap bb (by simpa using hb)), Rd_mono k.T k.heap (by simpa using hr)⟩
    | true => exact ⟨bb, o, cs, hv, k.S bb (by simpa using hb), hl, hc.of_block (k.heap bb (k.st bb (by simpa using hb))), Rd_mono k.S (fun b hb => k.heap b (k.st b hb)) (by simpa using hr)⟩
  | fn f caps =>
    refine ⟨fun b hb => Nat.lt_of_lt_of_le (h.1 b hb) k.len, ?_⟩
    rw [h.2]
    congr 2
    exact List.map_congr_left fun b hb => by rw [k.blk b (h.1 b hb)]
  | rfn f rows =>
    obtain ⟨ps, hv, h⟩ := h
    exact ⟨ps, hv, h.imp fun q p ⟨bb, o, cs, h1, h2, h3, h4, h5⟩ => ⟨bb, o, cs, h1, k.T bb h2, h3, h4.of_block (k.heap bb h2), Rd_mono k.T k.heap h5⟩⟩
  | nilp => exact h
  | undef => trivial
theorem XR_keep {E E' : Env} {w w' : World} {vw vw' : List Bx} (k : Keep E w vw E' w' vw') : ∀ {x : XV} {v : Value}, XR E w vw x v → XR E' w' vw' x v
  | .c _, _, h => VR_keep k h
  | .agg _, _, ⟨vs, hv, h⟩ => ⟨vs, hv, h.imp fun _ _ h => VR_keep k h⟩
  | .tup l, _, ⟨vs, hv, h⟩ => ⟨vs, hv, h.imp fun
    | .inl _, _, h => VR_keep k h
    | .inr _, _, ⟨ws, hw, h⟩ => ⟨ws, hw, h.imp fun _ _ h => VR_keep k h⟩⟩
theorem Keep.refl {E : Env} {w : World} {vw : List Bx} (st : ∀ b, E.S b → E.T b) : Keep E w vw E w vw :=
  ⟨Nat.le_refl _, fun _ _ => rfl, fun _ h => h, fun _ h => h, st, fun _ _ => rfl, fun b d r rows _ h => ⟨d, rows, h, fun p hp q ys hg => ⟨hp, ⟨ys, hg, rfl⟩, fun _ h => h⟩⟩⟩
theorem Keep.trans {E E' E'' : Env} {w w' w'' : World} {vw vw' vw'' : List Bx} (k : Keep E w vw E' w' vw') (k' : Keep E' w' vw' E'' w'' vw'') : Keep E w vw E'' w'' vw'' where
  len := Nat.le_trans k.len k'.len
  blk := fun b hb => (k'.blk b (Nat.lt_of_lt_of_le hb k.len)).trans (k.blk b hb)
  T := fun b h => k'.T b (k.T b h)
  S := fun b h => k'.S b (k.S b h)
  st := k.st
  heap := fun b h => (k'.heap b (k.T b h)).trans (k.heap b h)
  box := fun b d r rows hb h => by
    obtain ⟨d1, rows1, h1, k1⟩ := k'.box b d r rows (Nat.lt_of_lt_of_le hb k.len) h
    obtain ⟨d0, rows0, h0, k0⟩ := k.box b d1 r rows1 hb h1
    refine ⟨d0, rows0, h0, fun p hp q ys hg => ?_⟩
    obtain ⟨a1, ⟨ys1, a2, a3⟩, a4⟩ := k0 p hp q ys hg
    obtain ⟨b1, ⟨ys2, b2, b3⟩, b4⟩ := k1 p a1 q ys1 a2
    exact ⟨b1, ⟨ys2, b2, b3.trans a3⟩, fun h hh => b4 h (a4 h hh)⟩
theorem Ow_hdr {w w' : World} {S : Nat → Prop} {d : Nat} {r : Ty} {h : Value} {rows : List r.D} {F : List Nat} (ho : Ow w S d (.sl r) [h] rows F)
    (hS : ∀ b, S b → w'.heap[b]? = w.heap[b]?) (hF : ∀ b ∈ F, w'.heap[b]? = w.heap[b]?) {p : List Stp} (hp : PathOk r rows p) {q : Ty} {ys : List q.D} (hg : getP r rows p = some ⟨q, ys⟩)
    {h' : Value} (hh : hdrAt w h p = some h') : hdrAt w' h p = some h' := by
  obtain ⟨h1, k, _⟩ := path_rd (Ow_rd ho) hp hg
  have e1 := k w (fun _ _ => rfl)
  rw [hh] at e1
  cases e1
  exact k w' fun b hb => hb.elim (hS b) (hF b)
end Go.Fw
end

section
namespace Go.Fw
theorem All2.set {α β : Type} {R : α → β → Prop} : ∀ {l : List α} {m : List β} {i : Nat} {a : α} {b : β}, All2 R l m → R a b → All2 R (l.set i a) (m.set i b)
  | [], [], _, _, _, _, _ => trivial
  | _ :: _, _ :: _, 0, _, _, h, r => ⟨r, h.2⟩
  | _ :: _, _ :: _, i + 1, _, _, h, r => ⟨h.1, All2.set h.2 r⟩
theorem All2.append {α β : Type} {R : α → β → Prop} : ∀ {l : List α} {m : List β} {l' : List α} {m' : List β}, All2 R l m → All2 R l' m' → All2 R (l ++ l') (m ++ m')
  | [], [], _, _, _, h => h
  | _ :: _, _ :: _, _, _, h, k => ⟨h.1, All2.append h.2 k⟩
theorem All2.map_left {α β γ : Type} {R : α → β → Prop} {S : γ → β → Prop} (f : α → γ) (h : ∀ a b, R a b → S (f a) b) : ∀ {l : List α} {m : List β}, All2 R l m → All2 S (l.map f) m
  | [], [], _ => trivial
  | _ :: _, _ :: _, k => ⟨h _ _ k.1, All2.map_left f h k.2⟩
theorem All2.drop {α β : Type} {R : α → β → Prop} : ∀ {l : List α} {m : List β} (n : Nat), All2 R l m → All2 R (l.drop n) (m.drop n)
  | _, _, 0, h => h
  | [], [], _ + 1, _ => trivial
  | _ :: _, _ :: _, n + 1, h => All2.drop n h.2
theorem All2.take {α β : Type} {R : α → β → Prop} : ∀ {l : List α} {m : List β} (n : Nat), All2 R l m → All2 R (l.take n) (m.take n)
  | [], [], 0, _ => trivial
  | _ :: _, _ :: _, 0, _ => trivial
  | [], [], _ + 1, _ => trivial
  | _ :: _, _ :: _, n + 1, h => ⟨h.1, All2.take n h.2⟩
structure Base (E0 : Env) (w0 : World) (E : Env) (w : World) : Prop where
  T : ∀ c, E0.T c → E.T c
  S : ∀ c, E0.S c → E.S c
  Tof : ∀ c, E.T c → E0.T c ∨ E.S c
  Sof : ∀ c, E.S c → E0.S c ∨ ¬ E0.T c
  heap : ∀ c, E0.T c → w.heap[c]? = w0.heap[c]?
  os : w.os = w0.os
  tape : w.tape = w0.tape
  output : w.output = w0.output
  size : w0.heap.size ≤ w.heap.size
theorem Base.refl (E : Env) (w : World) : Base E w E w := ⟨fun _ h => h, fun _ h => h, fun _ h => .inl h, fun _ h => .inl h, fun _ _ => rfl, rfl, rfl, rfl, Nat.le_refl _⟩
theorem Base.trans {E E' E'' : Env} {w w' w'' : World} (h : Base E w E' w') (k : Base E' w' E'' w'') : Base E w E'' w'' :=
  ⟨fun c hc => k.T c (h.T c hc), fun c hc => k.S c (h.S c hc), fun c hc => (k.Tof c hc).elim (fun h' => (h.Tof c h').imp id (k.S c)) .inr,
   fun c hc => (k.Sof c hc).elim (h.Sof c) (fun h' => .inr fun ht => h' (h.T c ht)), fun c hc => (k.heap c (h.T c hc)).trans (h.heap c hc),
   k.os.trans h.os, k.tape.trans h.tape, k.output.trans h.output, Nat.le_trans h.size k.size⟩
theorem Le.base {E E' : Env} (h : Le E E') (w : World) : Base E w E' w := ⟨h.T, h.S, h.Tof, h.Sof, fun _ _ => rfl, rfl, rfl, rfl, Nat.le_refl _⟩
def BRB (E : Env) (w : World) (k : Nat) : Bx → Nat → Prop
  | .mem _, c => c = E.blk k
  | .sl _ r rows, c => RB w (.sl r) [E.hdr k] rows c
  | .dead, _ => False
def SameBx : Bx → Bx → Prop
  | .mem _, .mem _ => True
  | .sl _ r x, .sl _ q y => (⟨r, x⟩ : (r : Ty) × List r.D) = ⟨q, y⟩
  | _, _ => False
structure Went (t : List Nat) (E0 : Env) (bx0 : List Bx) (w0 : World) (E : Env) (bx : List Bx) (w : World) : Prop where
  base : Base E0 w0 E w
  len : bx0.length ≤ bx.length
  ids : ∀ b, b < bx0.length → E.blk b = E0.blk b ∧ E.hdr b = E0.hdr b
  dead : ∀ b : Nat, bx0[b]? = some Bx.dead → bx[b]? = some Bx.dead
  frame : ∀ (n : Nat) B B', n ∉ t → bx0[n]? = some B → bx[n]? = some B' → B' ≠ .dead → SameBx B B' ∧ ∀ c, BRB E0 w0 n B c → w.heap[c]? = w0.heap[c]?
theorem Went.any {E E' : Env} {bx bx' : List Bx} {w w' : World} (h : Went [] E bx w E' bx' w') {t : List Nat} : Went t E bx w E' bx' w' :=
  ⟨h.base, h.len, h.ids, h.dead, fun n B B' _ => h.frame n B B' (by simp)⟩
theorem SameBx.refl {B : Bx} (h : B ≠ .dead) : SameBx B B := by cases B <;> simp_all [SameBx]
theorem Went.refl (t : List Nat) (E : Env) (bx : List Bx) (w : World) : Went t E bx w E bx w := ⟨Base.refl E w, Nat.le_refl _, fun _ _ => ⟨rfl, rfl⟩, fun _ h => h, fun n B B' _ h h' hd => by
  rw [h] at h'
  cases h'
  exact ⟨SameBx.refl hd, fun _ _ => rfl⟩⟩
theorem BRB_sub {E : Env} {w : World} {vw : List Bx} {k : Nat} {B : Bx} {F : List Nat} {c : Nat} (h : BoxR E w vw k B F) (hc : BRB E w k B c) : E.S c ∨ c ∈ F := by
  cases B with
  | mem cs => obtain ⟨rfl, _⟩ := h; right; simp [BRB] at hc; simp [hc]
  | sl d r rows => exact RB_sub (Ow_rd h.2) hc
  | dead => exact hc.elim
structure Rel (E : Env) (σ : St) (a : Act) (w : World) : Prop where
  nodefer : a.defers = []
  tm : All2 (XR E w σ.bx) σ.tm a.tmps.toList
  bx : Boxes E w σ.bx σ.bx []
theorem Rel.put {E : Env} {σ : St} {a : Act} {w : World} (h : Rel E σ a w) (dst : Option Tmp) {x : XV} {v : Value} (hx : XR E w σ.bx x v) : Rel E (σ.put dst x) (a.put dst v) w := by
  cases dst with
  | none => exact h
  | some d => exact ⟨h.nodefer, by simpa [St.put, Act.put] using All2.set h.tm hx, h.bx⟩
theorem All2.getD_c {E : Env} {w : World} {vw : List Bx} {l : List XV} {m : Array Value} (h : All2 (XR E w vw) l m.toList) (t : Nat) : XR E w vw (l.getD t (.c .undef)) (m.getD t undef) := by
  by_cases ht : t < l.length
  · have e : l[t]? = some l[t] := List.getElem?_eq_getElem ht
    obtain ⟨b, hb, hr⟩ := h.get e
    have : m[t]? = some b := by simpa using hb
    simp only [List.getD_eq_getElem?_getD, e, Option.getD_some, Array.getD_eq_getD_getElem?, this]
    exact hr
  · have e : l[t]? = none := by simp; omega
    simp only [List.getD_eq_getElem?_getD, e, Option.getD_none]
    trivial
theorem ofCell_VR {E : Env} {w : World} {vw : List Bx} (v : Value) : VR E w vw (ofCell v) v := by
  unfold ofCell
  split <;> first
    | trivial
    | exact ⟨rfl, by simp [Rd]⟩
    | rfl
theorem ofCells_VRs {E : Env} {w : World} {vw : List Bx} : ∀ (l : List Value), VRs E w vw (l.map ofCell) l
  | [] => trivial
  | a :: l => ⟨ofCell_VR a, ofCells_VRs l⟩
theorem ofValue_XR {E : Env} {w : World} {vw : List Bx} (v : Value) : XR E w vw (ofValue v) v := by
  unfold ofValue
  split
  · rename_i cs
    exact ⟨cs, rfl, ofCells_VRs cs.toList⟩
  · exact ofCell_VR v
theorem Rel.ev {E : Env} {σ : St} {a : Act} {w : World} (h : Rel E σ a w) (x : Operand) : XR E w σ.bx (σ.ev x) (a.eval x) := by
  cases x with
  | tmp t => exact All2.getD_c h.tm t
  | const v => exact ofValue_XR v
  | global g => trivial
  | func f => exact ⟨by simp, rfl⟩
theorem flatten_set {b : Nat} : ∀ {Fs : List (List Nat)} {F : List Nat}, Fs[b]? = some F → Fs.flatten.Perm (F ++ (Fs.set b []).flatten) := by
  induction b with
  | zero =>
    intro Fs F h
    cases Fs with
    | nil => simp at h
    | cons A l => simp at h; subst h; simp
  | succ b ih =>
    intro Fs F h
    cases Fs with
    | nil => simp at h
    | cons A l =>
      have := ih (Fs := l) (F := F) (by simpa using h)
      simp only [List.set_cons_succ, List.flatten_cons]
      refine (List.Perm.append_left A this).trans ?_
      rw [← List.append_assoc, ← List.append_assoc]
      exact List.Perm.append_right _ List.perm_append_comm
theorem Sep.perm {E : Env} {w : World} {F F' : List Nat} (h : Sep E w F) (p : F.Perm F') : Sep E w F' :=
  ⟨p.nodup_iff.1 h.nodup, fun c hc => h.free c (p.mem_iff.2 hc), fun c hc => h.lt c (p.mem_iff.2 hc), h.st, h.tlt⟩
theorem Sep.sub {E : Env} {w : World} {F F' : List Nat} (h : Sep E w (F ++ F')) : Sep E w F :=
  ⟨(List.nodup_append.1 h.nodup).1, fun c hc => h.free c (by simp [hc]), fun c hc => h.lt c (by simp [hc]), h.st, h.tlt⟩
theorem Boxes.perm {E : Env} {w : World} {vw bx : List Bx} {G G' : List Nat} (h : Boxes E w vw bx G) (p : G.Perm G') : Boxes E w vw bx G' :=
  let ⟨Fs, h1, h2⟩ := h
  ⟨Fs, h1, h2.perm (List.Perm.append_left _ p)⟩
theorem Boxes.drop {E : Env} {w : World} {vw bx : List Bx} {G G' : List Nat} (h : Boxes E w vw bx (G ++ G')) : Boxes E w vw bx G :=
  let ⟨Fs, h1, h2⟩ := h
  ⟨Fs, h1, by rw [← List.append_assoc] at h2; exact h2.sub⟩
theorem Boxes.st {E : Env} {w : World} {vw bx : List Bx} {G : List Nat} (h : Boxes E w vw bx G) : ∀ c, E.S c → E.T c := let ⟨_, _, h⟩ := h; h.st
theorem Boxes.tlt {E : Env} {w : World} {vw bx : List Bx} {G : List Nat} (h : Boxes E w vw bx G) : ∀ c, E.T c → c < w.heap.size := let ⟨_, _, h⟩ := h; h.tlt
theorem Boxes.gfree {E : Env} {w : World} {vw bx : List Bx} {G : List Nat} (h : Boxes E w vw bx G) : ∀ c ∈ G, ¬ E.T c := let ⟨_, _, h⟩ := h; fun c hc => h.free c (by simp [hc])
theorem Boxes.glt {E : Env} {w : World} {vw bx : List Bx} {G : List Nat} (h : Boxes E w vw bx G) : ∀ c ∈ G, c < w.heap.size := let ⟨_, _, h⟩ := h; fun c hc => h.lt c (by simp [hc])
theorem Boxes.take {E : Env} {w : World} {vw bx : List Bx} {G : List Nat} (h : Boxes E w vw bx G) {b : Nat} {B : Bx} (hb : bx[b]? = some B) :
    ∃ F, BoxR E w vw b B F ∧ Boxes E w vw (bx.set b .dead) (F ++ G) := by
  obtain ⟨Fs, ⟨hl, h1⟩, h2⟩ := h
  have hlt := (List.getElem?_eq_some_iff.1 hb).1
  have hF : Fs[b]? = some (Fs[b]'(by omega)) := List.getElem?_eq_getElem _
  refine ⟨_, h1 b B _ hb hF, Fs.set b [], ⟨by simpa using hl, fun k C F hk hkF => ?_⟩, h2.perm ?_⟩
  · by_cases e : k = b
    · subst e
      rw [List.getElem?_set_self (by omega)] at hk hkF
      cases hk; cases hkF
      rfl
    · rw [List.getElem?_set_ne (by omega)] at hk hkF
      exact h1 k C F hk hkF
  · have := List.Perm.append_right G (flatten_set hF)
    refine this.trans ?_
    rw [List.append_assoc, ← List.append_assoc (List.flatten _)]
    refine (List.perm_append_comm (l₁ := Fs[b]'(by omega))).trans ?_
    rw [List.append_assoc, List.append_assoc]
    exact List.Perm.append_left _ List.perm_append_comm
theorem Boxes.put {E : Env} {w : World} {vw bx : List Bx} {F G : List Nat} (h : Boxes E w vw bx (F ++ G)) {b : Nat} {B : Bx} (hb : bx[b]? = some .dead) (hB : BoxR E w vw b B F) :
    Boxes E w vw (bx.set b B) G := by
  obtain ⟨Fs, ⟨hl, h1⟩, h2⟩ := h
  have hlt := (List.getElem?_eq_some_iff.1 hb).1
  have hF : Fs[b]? = some (Fs[b]'(by omega)) := List.getElem?_eq_getElem _
  have e0 : Fs[b]'(by omega) = [] := h1 b _ _ hb hF
  refine ⟨Fs.set b F, ⟨by simpa using hl, fun k C F' hk hkF => ?_⟩, h2.perm ?_⟩
  · by_cases e : k = b
    · subst e
      rw [List.getElem?_set_self (by omega)] at hk hkF
      cases hk; cases hkF
      exact hB
    · rw [List.getElem?_set_ne (by omega)] at hk hkF
      exact h1 k C F' hk hkF
  · have p : (Fs.set b F).flatten.Perm (F ++ Fs.flatten) := by
      have p1 := flatten_set (Fs := Fs.set b F) (b := b) (F := F) (List.getElem?_set_self (by omega))
      rw [List.set_set] at p1
      have p2 := flatten_set hF
      rw [e0, List.nil_append] at p2
      exact p1.trans (List.Perm.append_left _ p2.symm)
    refine List.Perm.symm ?_
    refine (List.Perm.append_right G p).trans ?_
    rw [← List.append_assoc]
    exact List.Perm.append_right _ List.perm_append_comm
theorem Boxes.push {E : Env} {w : World} {vw bx : List Bx} {F G : List Nat} (h : Boxes E w vw bx (F ++ G)) {B : Bx} (hB : BoxR E w vw bx.length B F) :
    Boxes E w vw (bx ++ [B]) G := by
  obtain ⟨Fs, ⟨hl, h1⟩, h2⟩ := h
  refine ⟨Fs ++ [F], ⟨by simp [hl], fun k C F' hk hkF => ?_⟩, h2.perm (by simp)⟩
  by_cases e : k < bx.length
  · rw [List.getElem?_append_left (by omega)] at hk hkF
    exact h1 k C F' hk hkF
  · have hk' := (List.getElem?_eq_some_iff.1 hk).1
    simp at hk'
    obtain rfl : k = bx.length := by omega
    rw [List.getElem?_append_right (by omega)] at hk hkF
    simp [hl] at hk hkF
    subst hk hkF
    exact hB
theorem Boxes.turn {E E' : Env} {w w' : World} {vw vw' bx : List Bx} {G : List Nat} (h : Boxes E w vw bx G) (k : ∀ x v, VR E w vw x v → VR E' w' vw' x v)
    (hS : ∀ c, E.S c → E'.S c) (hblk : ∀ b, b < bx.length → E'.blk b = E.blk b) (hhdr : ∀ b, b < bx.length → E'.hdr b = E.hdr b)
    (hw : ∀ c, (E.S c ∨ (¬ E.T c ∧ c ∉ G)) → c < w.heap.size → w'.heap[c]? = w.heap[c]?)
    (hsep : ∀ F, Sep E w (F ++ G) → Sep E' w' (F ++ G)) : Boxes E' w' vw' bx G := by
  obtain ⟨Fs, ⟨hl, h1⟩, h2⟩ := h
  refine ⟨Fs, ⟨hl, fun n B F hn hF => ?_⟩, hsep _ h2⟩
  have hlt := (List.getElem?_eq_some_iff.1 hn).1
  have h3 := h1 n B F hn hF
  have hFin : ∀ c ∈ F, c ∈ Fs.flatten := fun c hc => List.mem_flatten.2 ⟨F, List.mem_of_getElem? hF, hc⟩
  have hFw : ∀ c ∈ F, w'.heap[c]? = w.heap[c]? := fun c hc => hw c (.inr ⟨h2.free c (by simp [hFin c hc]), fun hg => by
    have := (List.nodup_append.1 h2.nodup).2.2 c (hFin c hc) c hg
    exact this rfl⟩) (h2.lt c (by simp [hFin c hc]))
  have hSw : ∀ c, E.S c → w'.heap[c]? = w.heap[c]? := fun c hc => hw c (.inl hc) (h2.tlt c (h2.st c hc))
  cases B with
  | mem cs =>
    obtain ⟨rfl, arr, ty, fr, ha, hu, hv⟩ := h3
    refine ⟨by rw [hblk n hlt], arr, ty, fr, ?_, hu, hv.imp k⟩
    rw [hblk n hlt, hFw _ (by simp), ha]
  | sl d r rows =>
    obtain ⟨hd, ho⟩ := h3
    refine ⟨hd, ?_⟩
    rw [hhdr n hlt]
    exact Ow_mono hS hSw hFw ho
  | dead => exact h3
end Go.Fw
end

section
namespace Go.Fw
theorem sameTy_eq {β : Ty → Type} {a b : Ty} {x : β a} {y : β b} (h : sameTy a b x = some y) : ∃ e : a = b, e ▸ x = y := by
  unfold sameTy at h
  split at h
  · rename_i e
    exact ⟨e, by simpa using h⟩
  · cases h
def Within (bk vw : List Bx) : Prop := ∀ (b : Nat) (B : Bx), bk[b]? = some B → B = .dead ∨ vw[b]? = some B
theorem Within.refl (bx : List Bx) : Within bx bx := fun _ _ h => .inr h
theorem Addr.add_eq (b o n : Nat) : (⟨b, o, none⟩ : Addr).add n = ⟨b, o + n, none⟩ := by unfold Addr.add; split <;> simp_all
theorem Rd_sub {w : World} {B : Nat → Prop} {r : Ty} {a : Option Addr} {len cap : Nat} {ys : List r.D} (h : Rd w B (.sl r) [.slice a len cap] ys) {off n : Nat} (hn : off + n ≤ ys.length) :
    Rd w B (.sl r) [cutHdr r.n off n a cap] ((ys.drop off).take n) := by
  simp only [Rd] at h ⊢
  obtain ⟨a', cap', e, hc, h⟩ := h
  simp only [List.cons.injEq, Value.slice.injEq, and_true] at e
  obtain ⟨rfl, rfl, rfl⟩ := e
  have hl : ((ys.drop off).take n).length = n := by simp; omega
  refine ⟨_, _, by unfold cutHdr; rw [hl], by rw [hl]; omega, ?_⟩
  rw [hl]
  by_cases h0 : n = 0
  · exact .inl h0
  · rcases h with h | ⟨b, o, rfl, hb, h⟩
    · omega
    · refine .inr ⟨b, o + off * r.n, ?_, hb, fun i y hy => ?_⟩
      · rw [if_neg (by omega)]
        simp [Addr.add_eq]
      · have hi := (List.getElem?_eq_some_iff.1 hy).1
        rw [hl] at hi
        rw [List.getElem?_take_of_lt hi, List.getElem?_drop] at hy
        obtain ⟨cs, e1, e2, e3⟩ := h (off + i) y hy
        refine ⟨cs, e1, ?_, e3⟩
        rw [Nat.add_mul, ← Nat.add_assoc] at e2
        exact e2
def Avail (E : Env) (Fs : List (List Nat)) (c : Nat) : Prop := E.T c ∨ c ∈ Fs.flatten
section
variable {E : Env} {w : World} {vw bk : List Bx} {Fs : List (List Nat)}
theorem BoxesF.get (h : BoxesF E w vw bk Fs) {b : Nat} {B : Bx} (e : bk[b]? = some B) : ∃ F, BoxR E w vw b B F ∧ ∀ c ∈ F, c ∈ Fs.flatten := by
  have hlt := (List.getElem?_eq_some_iff.1 e).1
  have hF : Fs[b]? = some (Fs[b]'(by rw [h.1]; exact hlt)) := List.getElem?_eq_getElem _
  exact ⟨_, h.2 b B _ e hF, fun c hc => List.mem_flatten.2 ⟨_, List.mem_of_getElem? hF, hc⟩⟩
theorem place_rd (hs : Within bk vw) (h : BoxesF E w vw bk Fs) (st : ∀ c, E.S c → E.T c) {b d : Nat} {r : Ty} {rows : List r.D} (e : bk[b]? = some (.sl d r rows))
    {p : List Stp} (hp : PathOk r rows p) {q : Ty} {ys : List q.D} (hg : getP r rows p = some ⟨q, ys⟩) {v : Value} (hh : hdrAt w (E.hdr b) p = some v) :
    Rd w (Avail E Fs) (.sl q) [v] ys := by
  obtain ⟨F, ⟨_, ho⟩, hF⟩ := h.get e
  obtain ⟨h', k, hr⟩ := path_rd (Ow_rd ho) hp hg
  have := k w (fun _ _ => rfl)
  rw [hh] at this
  cases this
  exact Rd_mono (fun c hc => hc.elim (fun hc => .inl (st c hc)) (fun hc => .inr (hF c hc))) (fun _ _ => rfl) hr
theorem view_sl (hs : Within bk vw) {b d : Nat} {r : Ty} {rows : List r.D} (e : bk[b]? = some (.sl d r rows)) : vw[b]? = some (.sl d r rows) := by
  rcases hs b _ e with h | h
  · cases h
  · exact h
theorem view_mem (hs : Within bk vw) {b : Nat} {cs : List AV} (e : bk[b]? = some (.mem cs)) : vw[b]? = some (.mem cs) := by
  rcases hs b _ e with h | h
  · cases h
  · exact h
theorem readSl_rd (hs : Within bk vw) (h : BoxesF E w vw bk Fs) (st : ∀ c, E.S c → E.T c) {x : AV} {v : Value} (hv : VR E w vw x v) {q : Ty} {ys : List q.D} (e : readSl bk x = some ⟨q, ys⟩) :
    Rd w (Avail E Fs) (.sl q) [v] ys := by
  cases x with
  | sl s r x =>
    simp only [readSl, Option.some.injEq, Sigma.mk.injEq] at e
    obtain ⟨rfl, e⟩ := e
    obtain rfl := eq_of_heq e
    simp only [VR] at hv
    refine Rd_mono (fun c hc => ?_) (fun _ _ => rfl) hv
    cases s
    · exact .inl (by simpa using hc)
    · exact .inl (st c (by simpa using hc))
  | ref b p =>
    simp only [readSl] at e
    split at e
    · rename_i d r rows hb
      simp only [VR, view_sl hs hb] at hv
      replace hv := hv.2
      exact place_rd hs h st hb hv.1 e hv.2.2
    · cases e
  | win b p off n =>
    simp only [readSl] at e
    split at e
    · rename_i d r rows hb
      simp only [VR, view_sl hs hb] at hv
      obtain ⟨_, hp, q', ys', a, len, cap, hg, hl, hh, rfl⟩ := hv
      rw [hg] at e
      simp only [Option.map_some, Option.some.injEq, Sigma.mk.injEq] at e
      obtain ⟨rfl, e⟩ := e
      obtain rfl := eq_of_heq e
      exact Rd_sub (place_rd hs h st hb hp hg hh) hl
    · cases e
  | _ => simp [readSl] at e
theorem readCell_rd (hs : Within bk vw) (h : BoxesF E w vw bk Fs) (st : ∀ c, E.S c → E.T c) {t : Ty} {x : AV} {v : Value} (hv : VR E w vw x v) {y : t.D} (e : readCell bk t x = some y) :
    Rd w (Avail E Fs) t [v] y := by
  have sl : ∀ (r : Ty) (x : AV) (v : Value) (y : List r.D), VR E w vw x v → ((readSl bk x).bind fun q => sameTy (β := fun r => List r.D) q.1 r q.2) = some y → Rd w (Avail E Fs) (.sl r) [v] y := by
    intro r x v y hv e
    rw [Option.bind_eq_some_iff] at e
    obtain ⟨⟨q, ys⟩, e1, e2⟩ := e
    obtain ⟨e3, e4⟩ := sameTy_eq e2
    dsimp only at e3
    subst e3
    subst e4
    exact readSl_rd hs h st hv e1
  cases x with
  | v u z =>
    simp only [readCell] at e
    obtain ⟨e1, e2⟩ := sameTy_eq e
    subst e1; subst e2
    exact Rd_mono (fun _ hc => hc.elim) (fun _ hc => hc.elim) hv.2
  | nil =>
    cases t with
    | sl r =>
      simp only [readCell, Option.some.injEq] at e
      subst e
      simp only [VR] at hv
      subst hv
      simp only [Rd]
      exact ⟨none, 0, rfl, by simp, .inl rfl⟩
    | _ => simp [readCell] at e
  | _ =>
    cases t with
    | sl r => exact sl r _ _ y hv (by simpa only [readCell] using e)
    | _ => simp [readCell] at e
theorem readRow_rd (hs : Within bk vw) (h : BoxesF E w vw bk Fs) (st : ∀ c, E.S c → E.T c) : ∀ {r : Ty} {l : List AV} {vs : List Value} {x : r.D}, VRs E w vw l vs → readRow bk r l = some x →
    Rd w (Avail E Fs) r vs x
  | .unit, [], [], x, _, _ => by simp only [Rd]
  | .cons c r, a :: l, v :: vs, x, hv, e => by
    simp only [readRow, Option.bind_eq_some_iff, Option.map_eq_some_iff] at e
    obtain ⟨y, e1, z, e2, rfl⟩ := e
    simp only [Rd]
    exact ⟨v, vs, rfl, readCell_rd hs h st hv.1 e1, readRow_rd hs h st hv.2 e2⟩
  | .unit, _ :: _, _, _, _, e => by simp [readRow] at e
  | .unit, [], _ :: _, _, hv, _ => hv.elim
  | .cons _ _, [], _, _, _, e => by simp [readRow] at e
  | .cons _ _, _ :: _, [], _, hv, _ => hv.elim
  | .int _, _, _, _, _, e => by simp [readRow] at e
  | .bool, _, _, _, _, e => by simp [readRow] at e
  | .str, _, _, _, _, e => by simp [readRow] at e
  | .sl _, _, _, _, _, e => by simp [readRow] at e
theorem rowCells_VRs {E1 : Env} {vw1 : List Bx} (hs : Within bk vw) (h : BoxesF E w vw bk Fs) (st : ∀ c, E.S c → E.T c) (hT : ∀ c, Avail E Fs c → E1.T c) :
    ∀ {r : Ty} {l : List AV} {vs : List Value} {x : r.D}, VRs E w vw l vs → readRow bk r l = some x → VRs E1 w vw1 (rowCells r x) vs
  | .unit, [], [], x, _, _ => trivial
  | .cons c r, a :: l, v :: vs, x, hv, e => by
    simp only [readRow, Option.bind_eq_some_iff, Option.map_eq_some_iff] at e
    obtain ⟨y, e1, z, e2, rfl⟩ := e
    have hrd := readCell_rd hs h st hv.1 e1
    have tl : VRs E1 w vw1 _ _ := rowCells_VRs hs h st hT hv.2 e2
    cases c with
    | sl q =>
      refine ⟨?_, tl⟩
      simp only [VR]
      exact Rd_mono hT (fun _ _ => rfl) (by simpa using hrd)
    | int k => exact ⟨⟨rfl, by simpa only [Rd] using hrd⟩, tl⟩
    | bool => exact ⟨⟨rfl, by simpa only [Rd] using hrd⟩, tl⟩
    | str => exact ⟨⟨rfl, by simpa only [Rd] using hrd⟩, tl⟩
    | unit =>
      exfalso
      simp only [Rd] at hrd
      cases hrd
    | cons c' r' =>
      exfalso
      cases a with
      | v u z =>
        simp only [readCell] at e1
        obtain ⟨e3, _⟩ := sameTy_eq e1
        subst e3
        exact absurd hv.1.1 (by simp [Ty.scalar])
      | _ => simp [readCell] at e1
  | .unit, _ :: _, _, _, _, e => by simp [readRow] at e
  | .unit, [], _ :: _, _, hv, _ => hv.elim
  | .cons _ _, [], _, _, _, e => by simp [readRow] at e
  | .cons _ _, _ :: _, [], _, hv, _ => hv.elim
  | .int _, _, _, _, _, e => by simp [readRow] at e
  | .bool, _, _, _, _, e => by simp [readRow] at e
  | .str, _, _, _, _, e => by simp [readRow] at e
  | .sl _, _, _, _, _, e => by simp [readRow] at e
end
end Go.Fw
end

section
namespace Go.Fw
def Ext (m m' : Asg) : Prop := m'.length = m.length ∧ ∀ (i b : Nat), m[i]? = some (some b) → m'[i]? = some (some b)
theorem Ext.refl (m : Asg) : Ext m m := ⟨rfl, fun _ _ h => h⟩
theorem Ext.trans {m m' m'' : Asg} (h : Ext m m') (k : Ext m' m'') : Ext m m'' := ⟨k.1.trans h.1, fun i b e => k.2 i b (h.2 i b e)⟩
def Inj (m : Asg) : Prop := ∀ (i j b : Nat), m[i]? = some (some b) → m[j]? = some (some b) → i = j
theorem put_spec {m m' : Asg} {i b : Nat} (e : m.put i b = some m') : Ext m m' ∧ m'[i]? = some (some b) ∧ (Inj m → Inj m') := by
  unfold Asg.put at e
  split at e
  · rename_i h
    split at e
    · cases e
    · rename_i hc
      cases e
      have hlt := (List.getElem?_eq_some_iff.1 h).1
      have hnot : ∀ (k : Nat), m[k]? ≠ some (some b) := fun k hk => hc (by
        rw [List.contains_iff_mem]; exact List.mem_of_getElem? hk)
      refine ⟨⟨by simp, fun k c hk => ?_⟩, by simp [hlt], fun hi j k c hj hk => ?_⟩
      · by_cases e : k = i
        · subst e; rw [h] at hk; cases hk
        · rw [List.getElem?_set_ne (by omega)]; exact hk
      · by_cases e1 : j = i <;> by_cases e2 : k = i
        · omega
        · subst e1
          rw [List.getElem?_set_self hlt] at hj
          rw [List.getElem?_set_ne (by omega)] at hk
          cases hj
          exact absurd hk (hnot k)
        · subst e2
          rw [List.getElem?_set_self hlt] at hk
          rw [List.getElem?_set_ne (by omega)] at hj
          cases hk
          exact absurd hj (hnot j)
        · rw [List.getElem?_set_ne (by omega)] at hj hk
          exact hi j k c hj hk
  · rename_i b' h
    split at e
    · rename_i hb
      cases e; subst hb
      exact ⟨Ext.refl _, h, fun h => h⟩
    · cases e
  · cases e
def CapsOk (m : Asg) : List Nat → List Nat → Prop
  | [], [] => True
  | i :: is, b :: bs => m[i]? = some (some b) ∧ CapsOk m is bs
  | _, _ => False
theorem CapsOk.ext {m m' : Asg} (h : Ext m m') : ∀ {is bs}, CapsOk m is bs → CapsOk m' is bs
  | [], [], _ => trivial
  | _ :: _, _ :: _, k => ⟨h.2 _ _ k.1, CapsOk.ext h k.2⟩
theorem asgCaps_spec : ∀ {is bs : List Nat} {m m' : Asg}, asgCaps m is bs = some m' → Ext m m' ∧ CapsOk m' is bs ∧ (Inj m → Inj m')
  | [], [], m, m', e => by simp only [asgCaps, Option.some.injEq] at e; subst e; exact ⟨Ext.refl _, trivial, fun h => h⟩
  | i :: is, b :: bs, m, m', e => by
    simp only [asgCaps, Option.bind_eq_some_iff] at e
    obtain ⟨m1, e1, e2⟩ := e
    obtain ⟨a1, a2, a3⟩ := put_spec e1
    obtain ⟨b1, b2, b3⟩ := asgCaps_spec e2
    exact ⟨a1.trans b1, ⟨b1.2 _ _ a2, b2⟩, fun h => b3 (a3 h)⟩
  | [], _ :: _, _, _, e => by simp [asgCaps] at e
  | _ :: _, [], _, _, e => by simp [asgCaps] at e
def AsgOk (N : Nat) (m : Asg) : AP → AV → Prop
  | .ref i, x => ∃ b, (x = .ref b [] ∨ (x = .nil ∧ b = N + i)) ∧ m[i]? = some (some b)
  | .ptr i j, x => ∃ b, x = .maddr b j ∧ m[i]? = some (some b)
  | .fn f caps, x => ∃ bs, x = .fn f bs ∧ CapsOk m caps bs
  | .nil, x => x = .nil
  | .refp i sz, x => ∃ b k j, x = .ref b [⟨k, sz, j⟩] ∧ m[i]? = some (some b)
  | _, _ => True
theorem AsgOk.ext {N : Nat} {m m' : Asg} (h : Ext m m') {p : AP} {x : AV} (k : AsgOk N m p x) : AsgOk N m' p x := by
  cases p with
  | ref i => obtain ⟨b, hx, k⟩ := k; exact ⟨b, hx, h.2 _ _ k⟩
  | ptr i j => obtain ⟨b, rfl, k⟩ := k; exact ⟨b, rfl, h.2 _ _ k⟩
  | fn f caps => obtain ⟨bs, rfl, k⟩ := k; exact ⟨bs, rfl, k.ext h⟩
  | nil => exact k
  | refp i sz => obtain ⟨b, q, j, rfl, k⟩ := k; exact ⟨b, q, j, rfl, h.2 _ _ k⟩
  | _ => trivial
theorem AP_asg_spec {N : Nat} {m m' : Asg} {p : AP} {x : AV} (e : p.asg N m x = some m') : Ext m m' ∧ AsgOk N m' p x ∧ (Inj m → Inj m') := by
  cases p with
  | ref i =>
    cases x with
    | ref b q =>
      cases q with
      | nil =>
        obtain ⟨a, b, c⟩ := put_spec (by simpa only [AP.asg] using e)
        exact ⟨a, ⟨_, .inl rfl, b⟩, c⟩
      | cons _ _ => simp [AP.asg] at e
    | nil =>
      obtain ⟨a, b, c⟩ := put_spec (by simpa only [AP.asg] using e)
      exact ⟨a, ⟨_, .inr ⟨rfl, rfl⟩, b⟩, c⟩
    | _ => simp [AP.asg] at e
  | ptr i j =>
    cases x with
    | maddr b j' =>
      simp only [AP.asg] at e
      split at e
      · rename_i hj
        subst hj
        obtain ⟨a, b, c⟩ := put_spec e
        exact ⟨a, ⟨_, rfl, b⟩, c⟩
      · cases e
    | _ => simp [AP.asg] at e
  | fn f caps =>
    cases x with
    | fn g bs =>
      simp only [AP.asg] at e
      split at e
      · rename_i hf
        subst hf
        obtain ⟨a, b, c⟩ := asgCaps_spec e
        exact ⟨a, ⟨_, rfl, b⟩, c⟩
      · cases e
    | _ => simp [AP.asg] at e
  | nil =>
    cases x with
    | nil => simp only [AP.asg, Option.some.injEq] at e; subst e; exact ⟨Ext.refl _, rfl, fun h => h⟩
    | _ => simp [AP.asg] at e
  | refp i sz =>
    cases x with
    | ref b q =>
      cases q with
      | nil => simp [AP.asg] at e
      | cons s q =>
        cases q with
        | nil =>
          simp only [AP.asg] at e
          split at e
          · rename_i hs
            obtain ⟨a, b, c⟩ := put_spec e
            obtain ⟨k, z, y⟩ := s
            dsimp only at hs
            subst hs
            exact ⟨a, ⟨_, k, y, rfl, b⟩, c⟩
          · cases e
        | cons _ _ => simp [AP.asg] at e
    | _ => simp [AP.asg] at e
  | _ =>
    have : m = m' := by cases x <;> simpa [AP.asg] using e
    subst this
    exact ⟨Ext.refl _, trivial, fun h => h⟩
theorem APs_asg_spec {N : Nat} : ∀ {l : List AP} {xs : List AV} {m m' : Asg}, APs.asg N m l xs = some m' → Ext m m' ∧ All2 (AsgOk N m') l xs ∧ (Inj m → Inj m')
  | [], [], m, m', e => by simp only [APs.asg, Option.some.injEq] at e; subst e; exact ⟨Ext.refl _, trivial, fun h => h⟩
  | p :: l, x :: xs, m, m', e => by
    simp only [APs.asg, Option.bind_eq_some_iff] at e
    obtain ⟨m1, e1, e2⟩ := e
    obtain ⟨a1, a2, a3⟩ := AP_asg_spec e1
    obtain ⟨b1, b2, b3⟩ := APs_asg_spec e2
    exact ⟨a1.trans b1, ⟨a2.ext b1, b2⟩, fun h => b3 (a3 h)⟩
  | [], _ :: _, _, _, e => by simp [APs.asg] at e
  | _ :: _, [], _, _, e => by simp [APs.asg] at e
def TAsgOk (N : Nat) (m : Asg) : AP ⊕ List AP → AV ⊕ List AV → Prop
  | .inl p, .inl x => AsgOk N m p x
  | .inr p, .inr x => All2 (AsgOk N m) p x
  | _, _ => False
theorem TAsgOk.ext {N : Nat} {m m' : Asg} (h : Ext m m') : ∀ {p : AP ⊕ List AP} {x : AV ⊕ List AV}, TAsgOk N m p x → TAsgOk N m' p x
  | .inl _, .inl _, k => AsgOk.ext h k
  | .inr _, .inr _, k => All2.imp (fun _ _ k => AsgOk.ext h k) k
theorem TPs_asg_spec {N : Nat} : ∀ {l : List (AP ⊕ List AP)} {xs : List (AV ⊕ List AV)} {m m' : Asg}, TPs.asg N m l xs = some m' → Ext m m' ∧ All2 (TAsgOk N m') l xs ∧ (Inj m → Inj m')
  | [], [], m, m', e => by simp only [TPs.asg, Option.some.injEq] at e; subst e; exact ⟨Ext.refl _, trivial, fun h => h⟩
  | .inl p :: l, .inl x :: xs, m, m', e => by
    simp only [TPs.asg, Option.bind_eq_some_iff] at e
    obtain ⟨m1, e1, e2⟩ := e
    obtain ⟨a1, a2, a3⟩ := AP_asg_spec e1
    obtain ⟨b1, b2, b3⟩ := TPs_asg_spec e2
    exact ⟨a1.trans b1, ⟨AsgOk.ext b1 a2, b2⟩, fun h => b3 (a3 h)⟩
  | .inr p :: l, .inr x :: xs, m, m', e => by
    simp only [TPs.asg, Option.bind_eq_some_iff] at e
    obtain ⟨m1, e1, e2⟩ := e
    obtain ⟨a1, a2, a3⟩ := APs_asg_spec e1
    obtain ⟨b1, b2, b3⟩ := TPs_asg_spec e2
    exact ⟨a1.trans b1, ⟨All2.imp (fun _ _ k => AsgOk.ext b1 k) a2, b2⟩, fun h => b3 (a3 h)⟩
  | [], _ :: _, _, _, e => by simp [TPs.asg] at e
  | .inl _ :: _, [], _, _, e => by simp [TPs.asg] at e
  | .inr _ :: _, [], _, _, e => by simp [TPs.asg] at e
  | .inl _ :: _, .inr _ :: _, _, _, e => by simp [TPs.asg] at e
  | .inr _ :: _, .inl _ :: _, _, _, e => by simp [TPs.asg] at e
def XAsgOk (N : Nat) (m : Asg) : XP → XV → Prop
  | .c p, .c x => AsgOk N m p x
  | .agg l, .agg xs => All2 (AsgOk N m) l xs
  | .row _, .agg _ => True
  | .tup l, .tup xs => All2 (TAsgOk N m) l xs
  | _, _ => False
theorem XAsgOk.ext {N : Nat} {m m' : Asg} (h : Ext m m') : ∀ {p : XP} {x : XV}, XAsgOk N m p x → XAsgOk N m' p x
  | .c _, .c _, k => AsgOk.ext h k
  | .agg _, .agg _, k => All2.imp (fun _ _ k => AsgOk.ext h k) k
  | .row _, .agg _, _ => trivial
  | .tup _, .tup _, k => All2.imp (fun _ _ k => TAsgOk.ext h k) k
theorem XP_asg_spec {N : Nat} {m m' : Asg} : ∀ {p : XP} {x : XV}, p.asg N m x = some m' → Ext m m' ∧ XAsgOk N m' p x ∧ (Inj m → Inj m')
  | .c p, .c x, e => AP_asg_spec (by simpa only [XP.asg] using e)
  | .agg l, .agg xs, e => APs_asg_spec (by simpa only [XP.asg] using e)
  | .row r, .agg xs, e => by simp only [XP.asg, Option.some.injEq] at e; subst e; exact ⟨Ext.refl _, trivial, fun h => h⟩
  | .tup l, .tup xs, e => TPs_asg_spec (by simpa only [XP.asg] using e)
  | .c _, .agg _, e => by simp [XP.asg] at e
  | .c _, .tup _, e => by simp [XP.asg] at e
  | .agg _, .c _, e => by simp [XP.asg] at e
  | .agg _, .tup _, e => by simp [XP.asg] at e
  | .row _, .c _, e => by simp [XP.asg] at e
  | .row _, .tup _, e => by simp [XP.asg] at e
  | .tup _, .c _, e => by simp [XP.asg] at e
  | .tup _, .agg _, e => by simp [XP.asg] at e
theorem Slots_asg_spec {N : Nat} {tm : List XV} : ∀ {l : List (Nat × XP)} {m m' : Asg}, Slots.asg N tm m l = some m' →
    Ext m m' ∧ (∀ q ∈ l, ∃ x, tm[q.1]? = some x ∧ XAsgOk N m' q.2 x) ∧ (Inj m → Inj m')
  | [], m, m', e => by simp only [Slots.asg, Option.some.injEq] at e; subst e; exact ⟨Ext.refl _, by simp, fun h => h⟩
  | (i, p) :: l, m, m', e => by
    simp only [Slots.asg] at e
    split at e
    · rename_i x hx
      simp only [Option.bind_eq_some_iff] at e
      obtain ⟨m1, e1, e2⟩ := e
      obtain ⟨a1, a2, a3⟩ := XP_asg_spec e1
      obtain ⟨b1, b2, b3⟩ := Slots_asg_spec e2
      refine ⟨a1.trans b1, ?_, fun h => b3 (a3 h)⟩
      intro q hq
      rcases List.mem_cons.1 hq with rfl | hq
      · exact ⟨x, hx, XAsgOk.ext b1 a2⟩
      · exact b2 q hq
    · cases e
theorem BPs_asg_spec {N : Nat} {bx : List Bx} : ∀ {l : List BP} {i : Nat} {m m' : Asg}, BPs.asg N bx i m l = some m' →
    Ext m m' ∧ (∀ (k : Nat) q, l[k]? = some (.mem q) → ∃ b cs, m'[i + k]? = some (some b) ∧ bx[b]? = some (.mem cs) ∧ All2 (AsgOk N m') q cs) ∧
      (∀ (k : Nat) d r, l[k]? = some (.sl d r) → ∃ b, m'[i + k]? = some (some b)) ∧ (Inj m → Inj m')
  | [], i, m, m', e => by simp only [BPs.asg, Option.some.injEq] at e; subst e; exact ⟨Ext.refl _, by simp, by simp, fun h => h⟩
  | .mem q :: l, i, m, m', e => by
    simp only [BPs.asg] at e
    split at e
    · rename_i b hb
      split at e
      · rename_i cs hcs
        simp only [Option.bind_eq_some_iff] at e
        obtain ⟨m1, e1, e2⟩ := e
        obtain ⟨a1, a2, a3⟩ := APs_asg_spec e1
        obtain ⟨b1, b2, b4, b3⟩ := BPs_asg_spec e2
        refine ⟨a1.trans b1, ?_, ?_, fun h => b3 (a3 h)⟩
        · intro k q' hk
          cases k with
          | zero => cases hk; exact ⟨b, cs, b1.2 _ _ (a1.2 _ _ hb), hcs, All2.imp (fun _ _ k => AsgOk.ext b1 k) a2⟩
          | succ k =>
            have := b2 k q' (by simpa using hk)
            rwa [show i + 1 + k = i + (k + 1) by omega] at this
        · intro k d r hk
          cases k with
          | zero => cases hk
          | succ k =>
            have := b4 k d r (by simpa using hk)
            rwa [show i + 1 + k = i + (k + 1) by omega] at this
      · cases e
    · cases e
  | .sl d r :: l, i, m, m', e => by
    simp only [BPs.asg] at e
    split at e
    · rename_i b hb
      obtain ⟨b1, b2, b4, b3⟩ := BPs_asg_spec e
      refine ⟨b1, ?_, ?_, b3⟩
      · intro k q' hk
        cases k with
        | zero => cases hk
        | succ k =>
          have := b2 k q' (by simpa using hk)
          rwa [show i + 1 + k = i + (k + 1) by omega] at this
      · intro k d r hk
        cases k with
        | zero => exact ⟨b, b1.2 _ _ hb⟩
        | succ k =>
          have := b4 k d r (by simpa using hk)
          rwa [show i + 1 + k = i + (k + 1) by omega] at this
    · cases e
  | .gone :: l, i, m, m', e => by
    simp only [BPs.asg] at e
    obtain ⟨b1, b2, b4, b3⟩ := BPs_asg_spec e
    refine ⟨b1, ?_, ?_, b3⟩
    · intro k q' hk
      cases k with
      | zero => cases hk
      | succ k =>
        have := b2 k q' (by simpa using hk)
        rwa [show i + 1 + k = i + (k + 1) by omega] at this
    · intro k d r hk
      cases k with
      | zero => cases hk
      | succ k =>
        have := b4 k d r (by simpa using hk)
        rwa [show i + 1 + k = i + (k + 1) by omega] at this
theorem BPs_get_spec {bx bk : List Bx} {ren : Nat → Nat} : ∀ {l : List BP} {m : Asg} {x : BPs.V l}, BPs.get bx bk m l = some x → (BPs.mk ren l x).length = l.length ∧
    ∀ (k : Nat) p, l[k]? = some p → ∃ y : p.V, (BPs.mk ren l x)[k]? = some (p.mk ren y) ∧
      match p, y with
      | .mem q, y => ∃ b cs, m[k]? = some (some b) ∧ bx[b]? = some (.mem cs) ∧ APs.get bk q cs = some y
      | .sl d r, y => ∃ b d', m[k]? = some (some b) ∧ bx[b]? = some (.sl d' r y) ∧ 1 ≤ d ∧ d ≤ d'
      | .gone, _ => True
  | [], m, x, e => ⟨rfl, by simp⟩
  | .mem q :: l, some b :: m, x, e => by
    simp only [BPs.get] at e
    split at e
    · rename_i cs hcs
      simp only [Option.bind_eq_some_iff, Option.map_eq_some_iff] at e
      obtain ⟨a, e1, c, e2, rfl⟩ := e
      obtain ⟨h1, h2⟩ := BPs_get_spec (ren := ren) e2
      refine ⟨by simp [BPs.mk, h1], fun k p hk => ?_⟩
      cases k with
      | zero => cases hk; exact ⟨a, rfl, b, cs, rfl, hcs, e1⟩
      | succ k =>
        obtain ⟨y, k1, k2⟩ := h2 k p (by simpa using hk)
        exact ⟨y, by simpa [BPs.mk] using k1, by simpa using k2⟩
    · cases e
  | .sl d r :: l, some b :: m, x, e => by
    simp only [BPs.get] at e
    split at e
    · rename_i d' q rows hb
      split at e
      · rename_i hd
        simp only [Option.bind_eq_some_iff, Option.map_eq_some_iff] at e
        obtain ⟨a, e1, c, e2, rfl⟩ := e
        obtain ⟨e3, e4⟩ := sameTy_eq e1
        subst e3; subst e4
        obtain ⟨h1, h2⟩ := BPs_get_spec (ren := ren) e2
        refine ⟨by simp [BPs.mk, h1], fun k p hk => ?_⟩
        cases k with
        | zero => cases hk; exact ⟨rows, rfl, b, d', rfl, hb, hd.1, hd.2⟩
        | succ k =>
          obtain ⟨y, k1, k2⟩ := h2 k p (by simpa using hk)
          exact ⟨y, by simpa [BPs.mk] using k1, by simpa using k2⟩
      · cases e
    · cases e
  | .gone :: l, o :: m, x, e => by
    have e' : (BPs.get bx bk m l).map (fun c => ((), c)) = some x := by cases o <;> simpa only [BPs.get] using e
    simp only [Option.map_eq_some_iff] at e'
    obtain ⟨c, e2, rfl⟩ := e'
    obtain ⟨h1, h2⟩ := BPs_get_spec (ren := ren) e2
    refine ⟨by simp [BPs.mk, h1], fun k p hk => ?_⟩
    cases k with
    | zero => cases hk; exact ⟨(), rfl, trivial⟩
    | succ k =>
      obtain ⟨y, k1, k2⟩ := h2 k p (by simpa using hk)
      exact ⟨y, by simpa [BPs.mk] using k1, by simpa using k2⟩
  | .mem q :: l, none :: m, x, e => by simp [BPs.get] at e
  | .sl d r :: l, none :: m, x, e => by simp [BPs.get] at e
  | .mem _ :: _, [], x, e => by simp [BPs.get] at e
  | .sl _ _ :: _, [], x, e => by simp [BPs.get] at e
  | .gone :: _, [], x, e => by simp [BPs.get] at e
theorem killAll_len : ∀ {m : Asg} {bx : List Bx}, (killAll bx m).length = bx.length
  | [], _ => rfl
  | some b :: m, bx => by simp [killAll, killAll_len]
  | none :: m, bx => by simp [killAll, killAll_len]
theorem killAll_within : ∀ {m : Asg} {bx vw : List Bx}, Within bx vw → Within (killAll bx m) vw
  | [], _, _, h => h
  | none :: m, bx, vw, h => by simp only [killAll]; exact killAll_within h
  | some b :: m, bx, vw, h => by
    simp only [killAll]
    refine killAll_within fun k B hk => ?_
    by_cases e : k = b
    · subst e
      have hlt := (List.getElem?_eq_some_iff.1 hk).1
      rw [List.getElem?_set_self (by simpa using hlt)] at hk
      cases hk
      exact .inl rfl
    · rw [List.getElem?_set_ne (by omega)] at hk
      exact h k B hk
theorem killAll_dead : ∀ {m : Asg} {bx : List Bx} {b : Nat} {B : Bx}, some b ∈ m → (killAll bx m)[b]? = some B → B = .dead
  | some c :: m, bx, b, B, h, e => by
    simp only [killAll] at e
    by_cases hm : some b ∈ m
    · exact killAll_dead hm e
    · have : c = b := by
        rcases List.mem_cons.1 h with h | h
        · cases h; rfl
        · exact absurd h hm
      subst this
      have : ∀ {m : Asg} {bx : List Bx}, bx[c]? = some .dead → some c ∉ m → (killAll bx m)[c]? = some .dead := by
        intro m
        induction m with
        | nil => intro bx h _; exact h
        | cons o m ih =>
          intro bx h hn
          cases o with
          | none => simp only [killAll]; exact ih h (fun hh => hn (List.mem_cons_of_mem _ hh))
          | some d =>
            simp only [killAll]
            refine ih ?_ (fun hh => hn (List.mem_cons_of_mem _ hh))
            have : d ≠ c := fun hh => hn (by subst hh; simp)
            rw [List.getElem?_set_ne (by omega)]
            exact h
      have hlt : c < bx.length := by
        have := (List.getElem?_eq_some_iff.1 e).1
        simpa [killAll_len] using this
      have := this (m := m) (bx := bx.set c .dead) (by simp [hlt]) hm
      rw [this] at e
      cases e; rfl
  | none :: m, bx, b, B, h, e => by
    simp only [killAll] at e
    exact killAll_dead (by simpa using h) e
theorem takeAll {E : Env} {w : World} {vw : List Bx} : ∀ {m : Asg} {bx : List Bx} {G : List Nat}, Inj m → Boxes E w vw bx G →
    ∃ Gs : List (List Nat), Gs.length = m.length ∧ (∀ (k b : Nat) B F, m[k]? = some (some b) → bx[b]? = some B → Gs[k]? = some F → BoxR E w vw b B F) ∧
      Boxes E w vw (killAll bx m) (Gs.flatten ++ G)
  | [], bx, G, _, h => ⟨[], rfl, by simp, h⟩
  | none :: m, bx, G, hi, h => by
    obtain ⟨Gs, h1, h2, h3⟩ := takeAll (m := m) (fun i j b hi' hj => by
      have := hi (i + 1) (j + 1) b (by simpa using hi') (by simpa using hj); omega) h
    refine ⟨[] :: Gs, by simp [h1], fun k b B F hk hB hF => ?_, by simpa [killAll] using h3⟩
    cases k with
    | zero => simp at hk
    | succ k => exact h2 k b B F (by simpa using hk) hB (by simpa using hF)
  | some b :: m, bx, G, hi, h => by
    have hinj : Inj m := fun i j b hi' hj => by
      have := hi (i + 1) (j + 1) b (by simpa using hi') (by simpa using hj); omega
    cases e : bx[b]? with
    | none =>
      have hset : bx.set b .dead = bx := List.set_eq_of_length_le (by simpa using e)
      obtain ⟨Gs, h1, h2, h3⟩ := takeAll (m := m) hinj h
      refine ⟨[] :: Gs, by simp [h1], fun k b' B F hk hB hF => ?_, by simpa [killAll, hset] using h3⟩
      cases k with
      | zero => simp at hk; subst hk; rw [e] at hB; cases hB
      | succ k => exact h2 k b' B F (by simpa using hk) hB (by simpa using hF)
    | some B0 =>
      obtain ⟨F0, k1, k2⟩ := h.take e
      obtain ⟨Gs, h1, h2, h3⟩ := takeAll (m := m) hinj k2
      refine ⟨F0 :: Gs, by simp [h1], fun k b' B F hk hB hF => ?_, ?_⟩
      · cases k with
        | zero =>
          simp at hk hF
          subst hk hF
          rw [e] at hB; cases hB
          exact k1
        | succ k =>
          have hne : b' ≠ b := fun hh => by
            have := hi 0 (k + 1) b (by simp) (by subst hh; simpa using hk)
            omega
          exact h2 k b' B F (by simpa using hk) (by rw [List.getElem?_set_ne (by omega)]; exact hB) (by simpa using hF)
      · simp only [killAll]
        refine h3.perm ?_
        rw [List.flatten_cons, ← List.append_assoc]
        exact List.Perm.append_right _ List.perm_append_comm
end Go.Fw
end

section
namespace Go.Fw
theorem splitAll {R : Nat → List Nat → List Nat → List Nat → Prop} : ∀ (Gs : List (List Nat)) (o : Nat), (∀ (k : Nat) G, Gs[k]? = some G → ∃ F W, G.Perm (F ++ W) ∧ R (o + k) G F W) →
    ∃ Fs Ws : List (List Nat), Fs.length = Gs.length ∧ Ws.length = Gs.length ∧ Gs.flatten.Perm (Fs.flatten ++ Ws.flatten) ∧
      ∀ (k : Nat) G F W, Gs[k]? = some G → Fs[k]? = some F → Ws[k]? = some W → R (o + k) G F W
  | [], o, _ => ⟨[], [], rfl, rfl, by simp, by simp⟩
  | G :: Gs, o, h => by
    obtain ⟨F, W, hp, hr⟩ := h 0 G rfl
    obtain ⟨Fs, Ws, h1, h2, h3, h4⟩ := splitAll Gs (o + 1) (fun k G hk => by
      have := h (k + 1) G (by simpa using hk)
      rwa [show o + 1 + k = o + (k + 1) by omega])
    refine ⟨F :: Fs, W :: Ws, by simp [h1], by simp [h2], ?_, fun k G' F' W' hG hF hW => ?_⟩
    · simp only [List.flatten_cons]
      refine (hp.append h3).trans ?_
      rw [List.append_assoc, List.append_assoc]
      refine List.Perm.append_left _ ?_
      rw [← List.append_assoc, ← List.append_assoc]
      exact List.Perm.append_right _ List.perm_append_comm
    · cases k with
      | zero => simp at hG hF hW; subst hG hF hW; exact hr
      | succ k =>
        have := h4 k G' F' W' (by simpa using hG) (by simpa using hF) (by simpa using hW)
        rwa [show o + 1 + k = o + (k + 1) by omega] at this
def SlotsR (E : Env) (w : World) (vw : List Bx) (ren : Nat → Nat) : (l : List (Nat × XP)) → Slots.V l → List Value → Prop
  | [], _, _ => True
  | (i, p) :: l, x, vals => (∃ v, vals[i]? = some v ∧ XR E w vw (p.mk ren x.1) v) ∧ SlotsR E w vw ren l x.2 vals
section
variable {E E1 : Env} {w : World} {bx bk vw1 : List Bx} {Fk : List (List Nat)} {m : Asg}
theorem CapsOk.map {f : Nat → Nat} (h : ∀ (i b : Nat), m[i]? = some (some b) → E1.blk i = E.blk b) : ∀ {is bs : List Nat}, CapsOk m is bs →
    (is.map fun b => Value.pointer (some ⟨E1.blk b, 0, none⟩)) = bs.map fun b => Value.pointer (some ⟨E.blk b, 0, none⟩)
  | [], [], _ => rfl
  | i :: is, b :: bs, k => by simp [h i b k.1, CapsOk.map (f := f) h k.2]
theorem CapsOk.lt : ∀ {is bs : List Nat}, CapsOk m is bs → ∀ i ∈ is, i < m.length
  | [], [], _, _, h => by simp at h
  | i :: is, b :: bs, k, j, h => by
    rcases List.mem_cons.1 h with rfl | h
    · exact (List.getElem?_eq_some_iff.1 k.1).1
    · exact CapsOk.lt k.2 j h
structure FitEnv (N : Nat) (E : Env) (w : World) (bx bk : List Bx) (Fk : List (List Nat)) (m : Asg) (E1 : Env) (vw1 : List Bx) : Prop where
  within : Within bk bx
  boxes : BoxesF E w bx bk Fk
  st : ∀ c, E.S c → E.T c
  T : ∀ c, Avail E Fk c → E1.T c
  S : ∀ c, E.S c → E1.S c
  ids : ∀ (i b : Nat), m[i]? = some (some b) → E1.blk i = E.blk b ∧ E1.hdr i = E.hdr b
  len : m.length ≤ vw1.length
  nil : ∀ (i : Nat) d r rows, vw1[i]? = some (.sl d r rows) → E.hdr (N + i) = .slice none 0 0
  sl : ∀ (i : Nat) d r rows, i < m.length → vw1[i]? = some (.sl d r rows) → ∃ b d', m[i]? = some (some b) ∧ bx[b]? = some (.sl d' r rows)
variable {N : Nat} (k : FitEnv N E w bx bk Fk m E1 vw1)
include k
theorem AP_fit {p : AP} {x : AV} {v : Value} (hv : VR E w bx x v) (ha : AsgOk N m p x) {y : p.V} (e : p.get bk x = some y) : VR E1 w vw1 (p.mk id y) v := by
  cases p with
  | v t =>
    simp only [AP.get] at e
    split at e
    · rename_i hs
      have hr := readCell_rd k.within k.boxes k.st hv e
      refine ⟨hs, ?_⟩
      cases t with
      | int _ => simpa only [Rd] using hr
      | bool => simpa only [Rd] using hr
      | str => simpa only [Rd] using hr
      | _ => simp [Ty.scalar] at hs
    · cases e
  | sl s r =>
    cases s with
    | false =>
      simp only [AP.get] at e
      have hr := readCell_rd k.within k.boxes k.st hv e
      simp only [AP.mk, VR]
      exact Rd_mono k.T (fun _ _ => rfl) (by simpa using hr)
    | true =>
      simp only [AP.get] at e
      split at e
      · rename_i q z
        obtain ⟨e1, e2⟩ := sameTy_eq e
        subst e1; subst e2
        simp only [AP.mk, VR] at hv ⊢
        exact Rd_mono k.S (fun _ _ => rfl) (by simpa using hv)
      · cases e
        simp only [AP.mk, VR] at hv ⊢
        subst hv
        simp only [Rd]
        exact ⟨none, 0, rfl, by simp, .inl rfl⟩
      · cases e
  | nil =>
    obtain rfl := ha
    exact hv
  | ref i =>
    obtain ⟨b, hx, hm⟩ := ha
    have hi := (List.getElem?_eq_some_iff.1 hm).1
    simp only [AP.mk, id, VR]
    rcases hx with rfl | ⟨rfl, rfl⟩
    · have hsl := hv.1
      refine ⟨hsl, ?_⟩
      cases e1 : vw1[i]? with
      | none => simp at e1; have := k.len; omega
      | some B =>
        cases B with
        | sl d r rows =>
          obtain ⟨b', d', h1, h2⟩ := k.sl i d r rows hi e1
          rw [hm] at h1; cases h1
          simp only [VR, h2] at hv
          replace hv := hv.2
          refine ⟨by simp [PathOk], ⟨_, rfl⟩, ?_⟩
          rw [(k.ids i b hm).2]
          exact hv.2.2
        | _ => trivial
    · have hv' : v = .slice none 0 0 := hv
      subst hv'
      refine ⟨rfl, ?_⟩
      cases e1 : vw1[i]? with
      | none => simp at e1; have := k.len; omega
      | some B =>
        cases B with
        | sl d r rows =>
          refine ⟨by simp [PathOk], ⟨_, rfl⟩, ?_⟩
          rw [(k.ids i _ hm).2, k.nil i d r rows e1, hdrAt_here]
        | _ => trivial
  | ptr i j =>
    obtain ⟨b, rfl, hm⟩ := ha
    have hi := (List.getElem?_eq_some_iff.1 hm).1
    exact ⟨Nat.lt_of_lt_of_le hi k.len, by rw [hv.2, id, (k.ids i b hm).1]⟩
  | prow r =>
    simp only [AP.get] at e
    split at e
    · rename_i s q z
      obtain ⟨e1, e2⟩ := sameTy_eq e
      subst e1; subst e2
      simp only [AP.mk, VR] at hv ⊢
      obtain ⟨bb, o, cs, h1, h2, h3, h4, h5⟩ := hv
      have hsub : ∀ c, (if s = true then E.S else E.T) c → E1.T c := by
        intro c hc
        cases s
        · exact k.T c (.inl (by simpa using hc))
        · exact k.T c (.inl (k.st c (by simpa using hc)))
      exact ⟨bb, o, cs, h1, by simpa using hsub bb h2, h3, h4, by simpa using Rd_mono hsub (fun _ _ => rfl) h5⟩
    · rename_i b
      split at e
      · rename_i cs hb
        obtain ⟨F, ⟨hF, arr, ty, fr, ha, hu, hvs⟩, hin⟩ := k.boxes.get hb
        have hrd := readRow_rd k.within k.boxes k.st hvs e
        simp only [AP.mk, VR]
        refine ⟨E.blk b, 0, arr.toList, by simpa using hv.2, ?_, Rd_len hrd, ?_, by simpa using Rd_mono k.T (fun _ _ => rfl) hrd⟩
        · simp only [Bool.false_eq_true, if_false]
          exact k.T _ (.inr (hin _ (by rw [hF]; simp)))
        · intro j u hj
          simp only [Nat.zero_add, World.cell?, ha, Option.isSome_none, Bool.false_eq_true, if_false]
          simpa using hj
      · cases e
    · rename_i b p i sz
      split at e
      · rename_i d q rows hb
        simp only [Option.bind_eq_some_iff] at e
        obtain ⟨⟨q', ys⟩, e1, e2⟩ := e
        split at e2
        case isFalse => cases e2
        rename_i hsz
        obtain ⟨e3, e4⟩ := sameTy_eq e2
        dsimp only at e3
        subst e3; subst e4
        simp only [VR, view_sl k.within hb] at hv
        obtain ⟨_, hp, q1, ys1, bb, o, len, cap, hg, hi, hh, rfl⟩ := hv
        rw [hg] at e1
        simp only [Option.some.injEq, Sigma.mk.injEq] at e1
        obtain ⟨e5, e6⟩ := e1
        subst e5
        obtain rfl := eq_of_heq e6
        have hrd := place_rd k.within k.boxes k.st hb hp hg hh
        simp only [Rd] at hrd
        obtain ⟨a', cap', ee, _, hrd⟩ := hrd
        simp only [List.cons.injEq, Value.slice.injEq, and_true] at ee
        obtain ⟨rfl, rfl, rfl⟩ := ee
        rcases hrd with hrd | ⟨b1, o1, e7, hb1, hrd⟩
        · omega
        · cases e7
          obtain ⟨cs, c1, c2, c3⟩ := hrd i _ (rowAt_get hi)
          simp only [AP.mk, VR]
          refine ⟨bb, o + i * q1.n, cs, by rw [hsz], by simpa using k.T _ hb1, c1, c2, by simpa using Rd_mono k.T (fun _ _ => rfl) c3⟩
      · cases e
    · cases e
  | fn f caps =>
    obtain ⟨bs, rfl, hc⟩ := ha
    refine ⟨fun i hi => Nat.lt_of_lt_of_le (hc.lt i (by simpa [AP.mk] using hi)) k.len, ?_⟩
    rw [hv.2]
    simp only [AP.mk, List.map_id]
    rw [CapsOk.map (f := id) (fun i b h => (k.ids i b h).1) hc]
  | rfn f rs =>
    simp only [AP.get] at e
    split at e
    · rename_i g rows
      split at e
      case isFalse => cases e
      rename_i hfg
      subst hfg
      obtain ⟨ps, hv1, hv2⟩ := hv
      refine ⟨ps, hv1, ?_⟩
      clear ha hv1
      induction rs generalizing rows ps with
      | nil =>
        cases rows with
        | nil =>
          cases ps with
          | nil => trivial
          | cons _ _ => exact hv2.elim
        | cons _ _ => simp [TysV.ofRows] at e
      | cons r rs ih =>
        cases rows with
        | nil => simp [TysV.ofRows] at e
        | cons q rows =>
          cases ps with
          | nil => exact hv2.elim
          | cons p ps =>
            simp only [TysV.ofRows, Option.bind_eq_some_iff, Option.map_eq_some_iff] at e
            obtain ⟨x1, e1, x2, e2, rfl⟩ := e
            obtain ⟨q1, q2⟩ := q
            obtain ⟨e3, e4⟩ := sameTy_eq e1
            dsimp only at e3
            subst e3; subst e4
            obtain ⟨⟨bb, o, cs, h1, h2, h3, h4, h5⟩, hv2⟩ := hv2
            exact ⟨⟨bb, o, cs, h1, k.T bb (.inl h2), h3, h4, Rd_mono (fun b hb => k.T b (.inl hb)) (fun _ _ => rfl) h5⟩, ih rows e2 ps hv2⟩
    · rename_i g bs
      split at e
      case isFalse => cases e
      rename_i hfg
      subst hfg
      obtain ⟨hv1, hv2⟩ := hv
      refine ⟨bs.map fun b => Value.pointer (some ⟨E.blk b, 0, none⟩), hv2, ?_⟩
      clear ha hv1 hv2
      induction rs generalizing bs with
      | nil =>
        cases bs with
        | nil => trivial
        | cons _ _ => simp [TysV.ofCaps] at e
      | cons r rs ih =>
        cases bs with
        | nil => simp [TysV.ofCaps] at e
        | cons b bs =>
          simp only [TysV.ofCaps, Option.bind_eq_some_iff, Option.map_eq_some_iff] at e
          obtain ⟨x1, e1, x2, e2, rfl⟩ := e
          split at e1
          case h_2 => cases e1
          rename_i cs hb
          obtain ⟨F, ⟨hF, arr, ty, fr, ha, hu, hvs⟩, hin⟩ := k.boxes.get hb
          have hrd := readRow_rd k.within k.boxes k.st hvs e1
          refine ⟨⟨E.blk b, 0, arr.toList, rfl, k.T _ (.inr (hin _ (by rw [hF]; simp))), Rd_len hrd, ?_, Rd_mono k.T (fun _ _ => rfl) hrd⟩, ih bs e2⟩
          intro j u hj
          simp only [Nat.zero_add, World.cell?, ha, Option.isSome_none, Bool.false_eq_true, if_false]
          simpa using hj
    · cases e
  | any => trivial
  | refp i sz =>
    obtain ⟨b, q, j, rfl, hm⟩ := ha
    have hi := (List.getElem?_eq_some_iff.1 hm).1
    simp only [AP.get, Option.some.injEq] at e
    subst e
    simp only [AP.mk, id, VR]
    have hsl := hv.1
    refine ⟨hsl, ?_⟩
    cases e1 : vw1[i]? with
    | none => simp at e1; have := k.len; omega
    | some B =>
      cases B with
      | sl d r rows =>
        obtain ⟨b', d', h1, h2⟩ := k.sl i d r rows hi e1
        rw [hm] at h1; cases h1
        simp only [VR, h2] at hv
        replace hv := hv.2
        refine ⟨hv.1, hv.2.1, ?_⟩
        rw [(k.ids i b hm).2]
        exact hv.2.2
      | _ => trivial
theorem APs_fit : ∀ {l : List AP} {xs : List AV} {vs : List Value}, VRs E w bx xs vs → All2 (AsgOk N m) l xs → ∀ {y : APs.V l}, APs.get bk l xs = some y → VRs E1 w vw1 (APs.mk id l y) vs
  | [], [], [], _, _, _, _ => trivial
  | p :: l, x :: xs, v :: vs, hv, ha, y, e => by
    simp only [APs.get, Option.bind_eq_some_iff, Option.map_eq_some_iff] at e
    obtain ⟨a, e1, b, e2, rfl⟩ := e
    exact ⟨AP_fit k hv.1 ha.1 e1, APs_fit hv.2 ha.2 e2⟩
  | [], [], _ :: _, hv, _, _, _ => hv.elim
  | _ :: _, _ :: _, [], hv, _, _, _ => hv.elim
  | [], _ :: _, _, _, ha, _, _ => ha.elim
  | _ :: _, [], _, _, ha, _, _ => ha.elim
theorem TPs_fit : ∀ {l : List (AP ⊕ List AP)} {xs : List (AV ⊕ List AV)} {vs : List Value}, All2 (TR E w bx) xs vs → All2 (TAsgOk N m) l xs → ∀ {y : TPs.V l}, TPs.get bk l xs = some y →
    All2 (TR E1 w vw1) (TPs.mk id l y) vs
  | [], [], [], _, _, _, _ => trivial
  | .inl p :: l, .inl x :: xs, v :: vs, hv, ha, y, e => by
    simp only [TPs.get, Option.bind_eq_some_iff, Option.map_eq_some_iff] at e
    obtain ⟨a, e1, b, e2, rfl⟩ := e
    exact ⟨AP_fit k hv.1 ha.1 e1, TPs_fit hv.2 ha.2 e2⟩
  | .inr p :: l, .inr x :: xs, v :: vs, hv, ha, y, e => by
    simp only [TPs.get, Option.bind_eq_some_iff, Option.map_eq_some_iff] at e
    obtain ⟨a, e1, b, e2, rfl⟩ := e
    obtain ⟨⟨us, hu, hus⟩, h2⟩ := hv
    exact ⟨⟨us, hu, APs_fit k hus ha.1 e1⟩, TPs_fit h2 ha.2 e2⟩
  | .inl _ :: _, .inr _ :: _, _, _, ha, _, _ => ha.1.elim
  | .inr _ :: _, .inl _ :: _, _, _, ha, _, _ => ha.1.elim
  | [], [], _ :: _, hv, _, _, _ => hv.elim
  | _ :: _, _ :: _, [], hv, _, _, _ => hv.elim
  | [], _ :: _, _, _, ha, _, _ => ha.elim
  | _ :: _, [], _, _, ha, _, _ => ha.elim
theorem XP_fit {p : XP} {x : XV} {v : Value} (hv : XR E w bx x v) (ha : XAsgOk N m p x) {y : p.V} (e : p.get bk x = some y) : XR E1 w vw1 (p.mk id y) v := by
  cases p with
  | c p => cases x with
    | c x => exact AP_fit k hv ha (by simpa only [XP.get] using e)
    | _ => exact ha.elim
  | agg l => cases x with
    | agg xs =>
      obtain ⟨vs, rfl, hvs⟩ := hv
      exact ⟨vs, rfl, APs_fit k hvs ha (by simpa only [XP.get] using e)⟩
    | _ => exact ha.elim
  | row r => cases x with
    | agg xs =>
      obtain ⟨vs, rfl, hvs⟩ := hv
      exact ⟨vs, rfl, rowCells_VRs k.within k.boxes k.st k.T hvs (by simpa only [XP.get] using e)⟩
    | _ => exact ha.elim
  | tup l => cases x with
    | tup xs =>
      obtain ⟨vs, rfl, hvs⟩ := hv
      exact ⟨vs, rfl, TPs_fit k hvs ha (by simpa only [XP.get] using e)⟩
    | _ => exact ha.elim
theorem Slots_fit {tm : List XV} {vals : List Value} (htm : All2 (XR E w bx) tm vals) : ∀ {l : List (Nat × XP)}, (∀ q ∈ l, ∃ x, tm[q.1]? = some x ∧ XAsgOk N m q.2 x) → ∀ {y : Slots.V l}, Slots.get bk tm l = some y →
    SlotsR E1 w vw1 id l y vals
  | [], _, _, _ => trivial
  | (i, p) :: l, ha, y, e => by
    obtain ⟨x, hx, hax⟩ := ha (i, p) (by simp)
    simp only [Slots.get, hx, Option.bind_eq_some_iff, Option.map_eq_some_iff] at e
    obtain ⟨a, e1, b, e2, rfl⟩ := e
    obtain ⟨v, hv, hr⟩ := htm.get hx
    exact ⟨⟨v, hv, XP_fit k hr hax e1⟩, Slots_fit htm (fun q hq => ha q (by simp [hq])) e2⟩
end
structure Fitted (E : Env) (w : World) (bx : List Bx) (m : Asg) (s : Shp) (x : s.V) (vals : List Value) (E1 : Env) : Prop where
  boxes : Boxes E1 w (BPs.mk id s.bxs x.2) (BPs.mk id s.bxs x.2) []
  slots : SlotsR E1 w (BPs.mk id s.bxs x.2) id s.slots x.1 vals
  ids : ∀ (i b : Nat), m[i]? = some (some b) → E1.blk i = E.blk b ∧ E1.hdr i = E.hdr b
  inj : Inj m
  len : m.length = s.bxs.length
  S : ∀ c, E.S c → E1.S c
  Sof : ∀ c, E1.S c → E.S c ∨ ¬ E.T c
  T : ∀ c, E.T c → E1.T c
  rest : ∃ Fk, BoxesF E w bx (killAll bx m) Fk ∧ Fk.flatten.Nodup ∧ (∀ c ∈ Fk.flatten, ¬ E.T c ∧ ¬ E1.S c ∧ c < w.heap.size ∧ E1.T c) ∧ (∀ c, E1.T c → E.T c ∨ E1.S c ∨ c ∈ Fk.flatten)
theorem fit_sound {E : Env} {w : World} {bx : List Bx} {tm : List XV} {vals : List Value} (hB : Boxes E w bx bx []) (htm : All2 (XR E w bx) tm vals) {s : Shp} {m0 m : Asg} {x : s.V}
    {N : Nat} (hnil : ∀ (i : Nat) d r, s.bxs[i]? = some (.sl d r) → E.hdr (N + i) = .slice none 0 0) (hlen : m0.length = s.bxs.length) (hinj : Inj m0) (e : s.fit N m0 tm bx = some (x, m)) : Ext m0 m ∧ ∃ E1, Fitted E w bx m s x vals E1 := by
  simp only [Shp.fit, Option.bind_eq_some_iff, Option.map_eq_some_iff] at e
  obtain ⟨m1, e1, m2, e2, a, e3, c, e4, e5⟩ := e
  cases e5
  obtain ⟨a1, a2, a3⟩ := Slots_asg_spec e1
  obtain ⟨b1, b2, b4, b3⟩ := BPs_asg_spec e2
  have hi : Inj m := b3 (a3 hinj)
  have hml : m.length = s.bxs.length := by rw [b1.1, a1.1, hlen]
  refine ⟨a1.trans b1, ?_⟩
  obtain ⟨Gs, g1, g2, g3⟩ := takeAll hi hB
  obtain ⟨q1, q2⟩ := BPs_get_spec (ren := id) e4
  have st := hB.st
  let R : Nat → List Nat → List Nat → List Nat → Prop := fun k G F W =>
    match s.bxs[k]? with
    | some (.sl d r) => ∀ (b d' : Nat) (rows : List r.D), m[k]? = some (some b) → bx[b]? = some (.sl d' r rows) → Ow w (fun c => E.S c ∨ c ∈ W) d (.sl r) [E.hdr b] rows F
    | some (.mem q) => F = G ∧ W = []
    | _ => F = [] ∧ W = G
  have hsplit : ∀ (k : Nat) G, Gs[k]? = some G → ∃ F W, G.Perm (F ++ W) ∧ R (0 + k) G F W := by
    intro k G hG
    rw [Nat.zero_add]
    have hk : k < s.bxs.length := by
      have := (List.getElem?_eq_some_iff.1 hG).1
      omega
    have hp : s.bxs[k]? = some s.bxs[k] := List.getElem?_eq_getElem hk
    cases hb : s.bxs[k] with
    | mem q => exact ⟨G, [], by simp, by simp [R, hp, hb]⟩
    | gone => exact ⟨[], G, by simp, by simp [R, hp, hb]⟩
    | sl d r =>
      obtain ⟨y, y1, b, d', y2, y3, y4, y5⟩ := q2 k _ (hp.trans (by rw [hb]))
      obtain ⟨_, ho⟩ := g2 k b _ G y2 y3 hG
      obtain ⟨F, W, w1, w2⟩ := Ow_weaken y5 ho
      refine ⟨F, W, w1, ?_⟩
      simp only [R, hp, hb]
      intro b' d'' rows h1 h2
      rw [y2] at h1; cases h1
      rw [y3] at h2; cases h2
      exact w2
  obtain ⟨Fs, Ws, f1, f2, f3, f4⟩ := splitAll Gs 0 hsplit
  obtain ⟨Fk, k1, k2⟩ := g3
  simp only [List.append_nil] at k2
  have k2' : Sep E w (Fk.flatten ++ (Fs.flatten ++ Ws.flatten)) := k2.perm (List.Perm.append_left _ f3)
  let E1 : Env := { blk := fun i => match m[i]? with | some (some b) => E.blk b | _ => 0
                    hdr := fun i => match m[i]? with | some (some b) => E.hdr b | _ => .nilFunc
                    S := fun c => E.S c ∨ c ∈ Ws.flatten
                    T := fun c => E.T c ∨ c ∈ Ws.flatten ∨ c ∈ Fk.flatten }
  have hids : ∀ (i b : Nat), m[i]? = some (some b) → E1.blk i = E.blk b ∧ E1.hdr i = E.hdr b := fun i b h => by simp [E1, h]
  have fe : FitEnv N E w bx (killAll bx m) Fk m E1 (BPs.mk id s.bxs c) := {
    within := killAll_within (Within.refl bx)
    boxes := k1
    st := st
    T := fun d hd => hd.elim .inl fun h => .inr (.inr h)
    S := fun d hd => .inl hd
    ids := hids
    len := by rw [q1, hml]; exact Nat.le_refl _
    nil := fun i d r rows e => by
      have hk : i < s.bxs.length := by
        have := (List.getElem?_eq_some_iff.1 e).1
        rwa [q1] at this
      obtain ⟨y, y1, _⟩ := q2 i _ (List.getElem?_eq_getElem hk)
      have hp := List.getElem?_eq_getElem hk
      rw [e] at y1
      generalize s.bxs[i] = P at y y1 hp
      cases P with
      | mem q => cases y1
      | gone => cases y1
      | sl d0 r0 => exact hnil i d0 r0 hp
    sl := fun i d r rows hi e => by
      have hk : i < s.bxs.length := by omega
      obtain ⟨y, y1, y2⟩ := q2 i _ (List.getElem?_eq_getElem hk)
      rw [e] at y1
      generalize s.bxs[i] = P at y y1 y2
      cases P with
      | mem q => cases y1
      | gone => cases y1
      | sl d0 r0 =>
        simp only [BP.mk, Option.some.injEq, Bx.sl.injEq] at y1
        obtain ⟨rfl, rfl, y1⟩ := y1
        obtain rfl := eq_of_heq y1
        obtain ⟨b, d', z1, z2, _⟩ := y2
        exact ⟨b, d', z1, z2⟩ }
  have nd := k2'.nodup
  have hsep : ∀ c ∈ Fs.flatten, ¬ E1.T c := by
    intro d hd h
    rcases h with h | h | h
    · exact k2'.free d (by simp [hd]) h
    · have := (List.nodup_append.1 (List.nodup_append.1 nd).2.1).2.2 d hd d h
      exact this rfl
    · have := (List.nodup_append.1 nd).2.2 d h d (by simp [hd])
      exact this rfl
  have hslots : SlotsR E1 w (BPs.mk id s.bxs c) id s.slots a vals := Slots_fit fe htm (fun q hq => let ⟨x, h1, h2⟩ := a2 q hq; ⟨x, h1, XAsgOk.ext b1 h2⟩) e3
  refine ⟨E1, Fitted.mk ?_ hslots hids hi hml (fun d hd => .inl hd) ?_ (fun d hd => .inl hd) ⟨Fk, k1, (List.nodup_append.1 nd).1, fun d hd => ⟨k2'.free d (by simp [hd]), ?_, k2'.lt d (by simp [hd]), .inr (.inr hd)⟩, ?_⟩⟩
  · refine ⟨Fs, ⟨by rw [f1, g1, q1, hml], fun k B F hk hF => ?_⟩, ?_⟩
    · have hkl : k < s.bxs.length := by
        have hk1 := (List.getElem?_eq_some_iff.1 hk).1
        rw [← q1]
        exact hk1
      have hp : s.bxs[k]? = some s.bxs[k] := List.getElem?_eq_getElem hkl
      obtain ⟨y, y1, y2⟩ := q2 k _ hp
      rw [hk] at y1
      cases y1
      have hG : Gs[k]? = some (Gs[k]'(by omega)) := List.getElem?_eq_getElem _
      have hW : Ws[k]? = some (Ws[k]'(by omega)) := List.getElem?_eq_getElem _
      have hr := f4 k _ F _ hG hF hW
      rw [Nat.zero_add] at hr
      have hmemW : ∀ d ∈ Ws[k]'(by omega), d ∈ Ws.flatten := fun d hd => List.mem_flatten.2 ⟨_, List.mem_of_getElem? hW, hd⟩
      generalize hgen : s.bxs[k] = P at y y2 hp
      have hasg2 := fun q => b2 k q
      simp only [R, hp] at hr
      cases P with
      | mem q =>
        obtain ⟨b, cs, z1, z2, z3⟩ := y2
        obtain ⟨rfl, hW0⟩ := hr
        obtain ⟨hFe, arr, ty, fr, h1, h2, h3⟩ := g2 k b _ _ z1 z2 hG
        obtain ⟨b', cs', t1, t2, t3⟩ := hasg2 q hp
        rw [Nat.zero_add, z1] at t1; cases t1
        rw [z2] at t2; cases t2
        refine ⟨by rw [hFe, (hids k b z1).1], arr, ty, fr, by rw [(hids k b z1).1]; exact h1, h2, APs_fit fe h3 t3 z3⟩
      | sl d r =>
        obtain ⟨b, d', z1, z2, z3, z4⟩ := y2
        have := hr b d' y z1 z2
        refine ⟨z3, ?_⟩
        rw [(hids k b z1).2]
        exact Ow_mono (fun d hd => hd.elim .inl fun h => .inr (hmemW d h)) (fun _ _ => rfl) (fun _ _ => rfl) this
      | gone => exact hr.1
    · simp only [List.append_nil]
      refine ⟨(List.nodup_append.1 (List.nodup_append.1 nd).2.1).1, hsep, fun d hd => k2'.lt d (by simp [hd]), fun d hd => hd.elim (fun h => .inl (st d h)) (fun h => .inr (.inl h)), fun d hd => ?_⟩
      rcases hd with hd | hd | hd
      · exact k2'.tlt d hd
      · exact k2'.lt d (by simp [hd])
      · exact k2'.lt d (by simp [hd])
  · intro d hd
    exact hd.elim .inl fun h => .inr (k2'.free d (by simp [h]))
  · intro h
    rcases h with h | h
    · exact k2'.free d (by simp [hd]) (st d h)
    · have := (List.nodup_append.1 nd).2.2 d hd d (by simp [h])
      exact this rfl
  · intro d hd
    rcases hd with hd | hd | hd
    · exact .inl hd
    · exact .inr (.inl (.inr hd))
    · exact .inr (.inr hd)
end Go.Fw
end

section
namespace Go.Fw
def zv : Ty → Value
  | .int k => .int k 0
  | .bool => .bool false
  | .str => .string ⟨#[]⟩
  | _ => .slice none 0 0
def zvRow : Ty → List Value
  | .cons c r => zv c :: zvRow r
  | .unit => []
  | t => [zv t]
def Ty.cell : Ty → Bool
  | .unit | .cons _ _ => false
  | _ => true
def Ty.good : Ty → Bool
  | .cons c r => c.cell && r.good
  | _ => true
def eqZ : Value → Value → Bool
  | .int k n, .int k' n' => decide (k = k') && decide (n = n')
  | .bool a, .bool b => decide (a = b)
  | .string a, .string b => decide (a.data.toList = []) && decide (b.data.toList = [])
  | .slice none a b, .slice none c d => decide (a = c) && decide (b = d)
  | _, _ => false
theorem eqZ_eq {a b : Value} (h : eqZ a b = true) : a = b := by
  unfold eqZ at h
  split at h
  · simp at h; rw [h.1, h.2]
  · simp at h; rw [h]
  · rename_i a b
    simp at h
    obtain ⟨h1, h2⟩ := h
    cases a; cases b
    simp at h1 h2
    subst h1 h2
    rfl
  · simp at h; rw [h.1, h.2]
  · cases h
def eqZs : List Value → List Value → Bool
  | [], [] => true
  | a :: l, b :: m => eqZ a b && eqZs l m
  | _, _ => false
theorem eqZs_eq : ∀ {l m : List Value}, eqZs l m = true → l = m
  | [], [], _ => rfl
  | a :: l, b :: m, h => by
    simp only [eqZs, Bool.and_eq_true] at h
    rw [eqZ_eq h.1, eqZs_eq h.2]
  | [], _ :: _, h => by simp [eqZs] at h
  | _ :: _, [], h => by simp [eqZs] at h
def TDok (P : Program) (t : Nat) : TD → Prop
  | .int k => P.underlying t = some (.int k)
  | .bool => P.underlying t = some .bool
  | .str => P.underlying t = some .string
  | .sl e => P.underlying t = some (.slice e)
  | .ptr e => P.underlying t = some (.pointer e)
  | .st fs => ∃ fields, P.underlying t = some (.struct fields) ∧ fields.toList.map (fun f => (f.offset, f.type)) = fs ∧ (∀ f ∈ fields.toList, f.name ≠ "_" ∧ ∃ i, P.info? f.type = some i ∧ i.size ≠ 0) ∧
        P.stoodInHeld t = false ∧ P.eqGuardType P.depth t = false
  | .other => ∃ d, P.underlying t = some d ∧ d.isRow = false
structure TIok (P : Program) (T : Tab) (t : Nat) (ti : TI) : Prop where
  info : ∃ i, P.info? t = some i ∧ i.size = ti.size ∧ i.bytes = ti.bytes ∧ (∀ r, ti.row = some r → r.good = true ∧ ∃ z, i.zero = some z ∧ z.cells.toList = zvRow r)
  und : TDok P t ti.desc
def TabOk (P : Program) (T : Tab) : Prop := ∀ t ti, T.get t = some ti → TIok P T t ti
def tiCheck (P : Program) (T : Tab) (t : Nat) (ti : TI) : Bool :=
  (match P.info? t with
    | some i => decide (i.size = ti.size) && decide (i.bytes = ti.bytes) && (match ti.row with
      | some r => r.good && (match i.zero with
        | some z => eqZs z.cells.toList (zvRow r)
        | none => false)
      | none => true)
    | none => false) &&
  (match ti.desc, P.underlying t with
    | .int k, some (.int k') => decide (k = k')
    | .bool, some .bool => true
    | .str, some .string => true
    | .sl e, some (.slice e') => decide (e = e')
    | .ptr e, some (.pointer e') => decide (e = e')
    | .st fs, some (.struct fields) => decide (fields.toList.map (fun f => (f.offset, f.type)) = fs) &&
        fields.toList.all (fun f => decide (f.name ≠ "_") && (match P.info? f.type with | some i => decide (i.size ≠ 0) | none => false)) &&
        !P.stoodInHeld t && !P.eqGuardType P.depth t
    | .other, some d => !d.isRow
    | _, _ => false)
theorem tiCheck_spec {P : Program} {T : Tab} {t : Nat} {ti : TI} (h : tiCheck P T t ti = true) : TIok P T t ti := by
  unfold tiCheck at h
  rw [Bool.and_eq_true] at h
  obtain ⟨h1, h2⟩ := h
  constructor
  · split at h1
    · rename_i i hi
      simp only [Bool.and_eq_true, decide_eq_true_eq] at h1
      refine ⟨i, hi, h1.1.1, h1.1.2, fun r hr => ?_⟩
      obtain ⟨_, h3⟩ := h1
      rw [hr] at h3
      dsimp only at h3
      rw [Bool.and_eq_true] at h3
      obtain ⟨hg, h3⟩ := h3
      refine ⟨hg, ?_⟩
      split at h3
      · rename_i z hz
        exact ⟨z, hz, eqZs_eq h3⟩
      · cases h3
    · cases h1
  · split at h2
    · rename_i hd hu; simp only [hd, TDok]; simp at h2; rw [hu, h2]
    · rename_i hd hu; simp only [hd, TDok]; exact hu
    · rename_i hd hu; simp only [hd, TDok]; exact hu
    · rename_i hd hu; simp only [hd, TDok]; simp at h2; rw [hu, h2]
    · rename_i hd hu; simp only [hd, TDok]; simp at h2; rw [hu, h2]
    · rename_i fs fields hd hu
      simp only [hd, TDok]
      simp only [Bool.and_eq_true, decide_eq_true_eq, List.all_eq_true, Bool.not_eq_true'] at h2
      refine ⟨fields, hu, h2.1.1.1, fun f hf => ?_, h2.1.2, h2.2⟩
      have := h2.1.1.2 f hf
      refine ⟨this.1, ?_⟩
      have h4 := this.2
      split at h4
      · rename_i i hi
        exact ⟨i, hi, by simpa using h4⟩
      · cases h4
    · rename_i d hd hu; simp only [hd, TDok]
      exact ⟨d, hu, by simpa using h2⟩
    · cases h2
def tabCheck (P : Program) (T : Tab) : Bool := T.all fun q => tiCheck P T q.1 q.2
theorem Tab.get_mem : ∀ {T : Tab} {t : Nat} {ti : TI}, T.get t = some ti → (t, ti) ∈ T
  | (u, i) :: l, t, ti, h => by
    simp only [Tab.get] at h
    split at h
    · rename_i e; cases h; subst e; simp
    · exact List.mem_cons_of_mem _ (Tab.get_mem h)
  | [], _, _, h => by simp [Tab.get] at h
theorem tabOk_of_check {P : Program} {T : Tab} (h : tabCheck P T = true) : TabOk P T := fun t ti e =>
  tiCheck_spec (by simpa using List.all_eq_true.1 h (t, ti) (Tab.get_mem e))
section
variable {P : Program} {T : Tab} (hT : TabOk P T)
include hT
theorem TabOk.size {t : Nat} {ti : TI} (e : T.get t = some ti) : (P.info? t).map (·.size) = some ti.size := by
  obtain ⟨i, h1, h2, _⟩ := (hT t ti e).info
  simp [h1, h2]
theorem TabOk.sizeOf {t : Nat} {ti : TI} (e : T.get t = some ti) (w : World) : (Go.sizeOf t).run P w = .ok ti.size w := by
  obtain ⟨i, h1, h2, _⟩ := (hT t ti e).info
  simp [Go.sizeOf, typeInfo, h1, h2]
omit hT in
theorem run_underlying' {t : Nat} {d : TypeDesc} (h : P.underlying t = some d) (w : World) : (Go.underlying t).run P w = .ok d w := by
  simp [Go.underlying, h]
theorem TabOk.isAgg {t : Nat} {ti : TI} (e : T.get t = some ti) (w : World) : (Go.isAgg t).run P w = .ok ti.desc.agg w := by
  have hu := (hT t ti e).und
  unfold Go.isAgg
  cases hd : ti.desc <;> rw [hd] at hu <;> simp only [TDok] at hu
  case st fs =>
    obtain ⟨fields, hu, _⟩ := hu
    simp [run_underlying' hu, TD.agg]
  case other =>
    obtain ⟨d, hu, hd⟩ := hu
    rw [Sem.run_bind, run_underlying' hu]
    cases d <;> simp_all [TypeDesc.isRow, TD.agg]
  all_goals simp [run_underlying' hu, TD.agg]
end
end Go.Fw
end

section
namespace Go.Fw
def OpDone {Y : Type} (P : Program) (o : Oper) (E : Env) (σ : St) (a : Act) (w : World) (k : K Y) (y : Y) : Prop :=
  ∃ v w' E' x σ', ((execOp a.eval o).run P w = .ok (.value v) w' ∨ ((execOp a.eval o).run P w = .ok .skip w' ∧ v = undef)) ∧ Rel E' σ' a w' ∧ XR E' w' σ'.bx x v ∧ Went (touched (fun _ => none) σ o.op) E σ.bx w E' σ'.bx w' ∧
    σ'.tm.length = σ.tm.length ∧ k x σ' = some y
section
variable {Y : Type} {P : Program} {T : Tab} {o : Oper} {E : Env} {σ : St} {a : Act} {w : World} {k : K Y} {y : Y}
theorem OpDone.same (h : Rel E σ a w) {v : Value} {x : XV} (hr : (execOp a.eval o).run P w = .ok (.value v) w) (hx : XR E w σ.bx x v) (hk : k x σ = some y) : OpDone P o E σ a w k y :=
  ⟨v, w, E, x, σ, .inl hr, h, hx, Went.refl _ E σ.bx w, rfl, hk⟩
theorem VR_int {vw : List Bx} {κ : IntKind} {n : Int} {v : Value} (h : VR E w vw (.v (.int κ) n) v) : v = .int κ n := by
  have := h.2
  simpa [Rd] using this
theorem VR_bool {vw : List Bx} {b : Bool} {v : Value} (h : VR E w vw (.v .bool b) v) : v = .bool b := by
  have := h.2
  simpa [Rd] using this
theorem VR_str {vw : List Bx} {s : List UInt8} {v : Value} (h : VR E w vw (.v .str s) v) : v = .string ⟨s.toArray⟩ := by
  have := h.2
  simpa [Rd] using this
theorem VR.int {vw : List Bx} (κ : IntKind) (n : Int) : VR E w vw (.v (.int κ) n) (.int κ n) := ⟨rfl, by simp [Rd]⟩
theorem VR.bool {vw : List Bx} (b : Bool) : VR E w vw (.v .bool b) (.bool b) := ⟨rfl, by simp [Rd]⟩
theorem VR.str {vw : List Bx} (s : List UInt8) : VR E w vw (.v .str s) (.string ⟨s.toArray⟩) := ⟨rfl, by simp [Rd]⟩
theorem bytes_toList (s : List UInt8) : ByteArray.toList ⟨s.toArray⟩ = s := by
  have : ∀ (n i : Nat) (r : List UInt8), n = s.length - i → ByteArray.toList.loop ⟨s.toArray⟩ i r = r.reverse ++ s.drop i := by
    intro n
    induction n with
    | zero =>
      intro i r hn
      unfold ByteArray.toList.loop
      rw [if_neg (by simp [ByteArray.size]; omega), List.drop_of_length_le (by omega)]
      simp
    | succ n ih =>
      intro i r hn
      unfold ByteArray.toList.loop
      have hi : i < s.length := by omega
      rw [if_pos (by simpa [ByteArray.size] using hi), ih (i + 1) _ (by omega)]
      have : (⟨s.toArray⟩ : ByteArray).get! i = s[i] := by
        simp [ByteArray.get!, hi]
      rw [this, List.drop_eq_getElem_cons hi]
      simp
  unfold ByteArray.toList
  rw [this _ 0 [] rfl]
  simp
theorem append_bytes (a b : List UInt8) : (⟨a.toArray⟩ : ByteArray) ++ ⟨b.toArray⟩ = ⟨(a ++ b).toArray⟩ := by
  apply ByteArray.ext
  simp
theorem eqGuard_int (op : BinOp) (t : TypeId) (x y : Operand) (u v : Value) (hu : ∀ l, u ≠ .agg l) (hn : u ≠ .nilIface) (w : World) : (eqGuard op t x y u v).run P w = .ok () w := by
  unfold eqGuard
  by_cases h : (op matches .eql | .neq) = true
  · cases u <;> first
      | (exfalso; exact hn rfl)
      | (exfalso; exact hu _ rfl)
      | (cases v <;> simp [h])
  · simp [h]
    exact fun hh => absurd hh h
theorem intOp_sound {op : BinOp} {κ : IntKind} {m n : Int} {k : AV → Option Y} {y : Y} (e : intOp op κ m n k = some y) (t : TypeId) (w : World) :
    ∃ z v, k z = some y ∧ (binOp op t (.int κ m) (.int κ n)).run P w = .ok v w ∧ ∀ E vw, VR E w vw z v := by
  cases op with
  | add => exact ⟨_, .int κ (κ.wrap (m + n)), e, by simp [binOp, Op.intArith], fun _ _ => VR.int _ _⟩
  | sub => exact ⟨_, .int κ (κ.wrap (m - n)), e, by simp [binOp, Op.intArith], fun _ _ => VR.int _ _⟩
  | mul => exact ⟨_, .int κ (κ.wrap (m * n)), e, by simp [binOp, Op.intArith], fun _ _ => VR.int _ _⟩
  | and => exact ⟨_, .int κ (κ.wrap (BitVec.ofInt κ.bits m &&& BitVec.ofInt κ.bits n).toNat), e, by simp [binOp, Op.intBits], fun _ _ => VR.int _ _⟩
  | or => exact ⟨_, .int κ (κ.wrap (BitVec.ofInt κ.bits m ||| BitVec.ofInt κ.bits n).toNat), e, by simp [binOp, Op.intBits], fun _ _ => VR.int _ _⟩
  | xor => exact ⟨_, .int κ (κ.wrap (BitVec.ofInt κ.bits m ^^^ BitVec.ofInt κ.bits n).toNat), e, by simp [binOp, Op.intBits], fun _ _ => VR.int _ _⟩
  | andNot => exact ⟨_, .int κ (κ.wrap (BitVec.ofInt κ.bits m &&& ~~~BitVec.ofInt κ.bits n).toNat), e, by simp [binOp, Op.intBits], fun _ _ => VR.int _ _⟩
  | eql => exact ⟨_, .bool (m == n), e, by simp [binOp, Op.intCmp], fun _ _ => VR.bool _⟩
  | neq => exact ⟨_, .bool (m != n), e, by simp [binOp, Op.intCmp], fun _ _ => VR.bool _⟩
  | lss => exact ⟨_, .bool (decide (m < n)), e, by simp [binOp, Op.intCmp], fun _ _ => VR.bool _⟩
  | leq => exact ⟨_, .bool (decide (m ≤ n)), e, by simp [binOp, Op.intCmp], fun _ _ => VR.bool _⟩
  | gtr => exact ⟨_, .bool (decide (m > n)), e, by simp [binOp, Op.intCmp], fun _ _ => VR.bool _⟩
  | geq => exact ⟨_, .bool (decide (m ≥ n)), e, by simp [binOp, Op.intCmp], fun _ _ => VR.bool _⟩
  | quo =>
    simp only [intOp] at e
    split at e
    · cases e
    · rename_i hz
      exact ⟨_, .int κ (κ.wrap (m.tdiv n)), e, by simp [binOp, Op.intDiv, hz], fun _ _ => VR.int _ _⟩
  | rem =>
    simp only [intOp] at e
    split at e
    · cases e
    · rename_i hz
      exact ⟨_, .int κ (m.tmod n), e, by simp [binOp, Op.intDiv, hz], fun _ _ => VR.int _ _⟩
  | _ => simp [intOp] at e
theorem shiftOp_sound {op : BinOp} {κ κ' : IntKind} {m n : Int} {k : AV → Option Y} {y : Y} (e : shiftOp op κ m n k = some y) (t : TypeId) (w : World) :
    ∃ z v, k z = some y ∧ (binOp op t (.int κ m) (.int κ' n)).run P w = .ok v w ∧ ∀ E vw, VR E w vw z v := by
  unfold shiftOp at e
  split at e
  · cases e
  · rename_i hn
    cases op with
    | shl => exact ⟨_, .int κ (κ.wrap (m * 2 ^ min n.toNat κ.bits)), e, by simp [binOp, Op.shift, hn], fun _ _ => VR.int _ _⟩
    | shr => exact ⟨_, .int κ (m.fdiv (2 ^ min n.toNat κ.bits)), e, by simp [binOp, Op.shift, hn], fun _ _ => VR.int _ _⟩
    | _ => simp at e
theorem strOp_sound {op : BinOp} {s u : List UInt8} {k : AV → Option Y} {y : Y} (e : strOp op s u k = some y) (t : TypeId) (w : World) :
    ∃ z v, k z = some y ∧ (binOp op t (.string ⟨s.toArray⟩) (.string ⟨u.toArray⟩)).run P w = .ok v w ∧ ∀ E vw, VR E w vw z v := by
  have h1 := bytes_toList s
  have h2 := bytes_toList u
  cases op with
  | eql => exact ⟨_, .bool (s == u), e, by simp [binOp, Op.stringOp, h1, h2], fun _ _ => VR.bool _⟩
  | neq => exact ⟨_, .bool (!(s == u)), e, by simp [binOp, Op.stringOp, h1, h2], fun _ _ => VR.bool _⟩
  | lss => exact ⟨_, .bool (Op.bytesLess s u), e, by simp [binOp, Op.stringOp, h1, h2], fun _ _ => VR.bool _⟩
  | leq => exact ⟨_, .bool (Op.bytesLess s u || s == u), e, by simp [binOp, Op.stringOp, h1, h2], fun _ _ => VR.bool _⟩
  | gtr => exact ⟨_, .bool (!(Op.bytesLess s u || s == u)), e, by simp [binOp, Op.stringOp, h1, h2], fun _ _ => VR.bool _⟩
  | geq => exact ⟨_, .bool (!Op.bytesLess s u), e, by simp [binOp, Op.stringOp, h1, h2], fun _ _ => VR.bool _⟩
  | add =>
    simp only [strOp] at e
    split at e
    · rename_i hl
      refine ⟨_, .string ⟨(s ++ u).toArray⟩, e, ?_, fun _ _ => VR.str _⟩
      have hs : (⟨s.toArray⟩ : ByteArray).size = s.length := by simp [ByteArray.size]
      have hu : (⟨u.toArray⟩ : ByteArray).size = u.length := by simp [ByteArray.size]
      have hlim : ¬ (((⟨s.toArray⟩ : ByteArray).size + (⟨u.toArray⟩ : ByteArray).size : Nat) : Int) > IntKind.i64.max := by
        rw [hs, hu]
        simp only [LIM, IntKind.max, IntKind.signed, IntKind.bits] at hl ⊢
        simp
        omega
      simp only [binOp, Op.stringOp, Sem.run_ite, if_neg hlim, append_bytes]
      rfl
    · cases e
  | _ => simp [strOp] at e
theorem cellEq_sound {d : TD} {x z : AV} {p : Bool} (e : cellEq d x z = some p) {E : Env} {w : World} {vw : List Bx} {v u : Value} (hx : VR E w vw x v) (hz : VR E w vw z u) {t : TypeId}
    (hu : TDok P t d) (n : Nat) : (Op.equalIn (n + 1) t v u).run P w = .ok p w ∧ d.agg = false := by
  unfold cellEq at e
  split at e
  · rename_i κ j a k b
    split at e
    · rename_i hj
      subst hj
      cases e
      rw [VR_int hx, VR_int hz]
      exact ⟨run_equalIn_int (P := P) w n t j κ a b hu, rfl⟩
    · cases e
  · cases e
    rw [VR_bool hx, VR_bool hz]
    exact ⟨run_equalIn_bool' (P := P) w n t _ _ hu, rfl⟩
  · cases e
    rename_i a b
    rw [VR_str hx, VR_str hz]
    have q := run_equalIn_string (P := P) w n t ⟨a.toArray⟩ ⟨b.toArray⟩ hu
    rw [bytes_toList, bytes_toList] at q
    exact ⟨q, rfl⟩
  · cases e
theorem eqCells_sound {T : Tab} (hT : TabOk P T) {E : Env} {w : World} {vw : List Bx} {xs ys : Array Value} : ∀ {fields : List Field} {i : Nat} {l m : List AV} {vs us : List Value} {r : Bool},
    (∀ f ∈ fields, f.name ≠ "_") → VRs E w vw l vs → VRs E w vw m us → eqCells T i (fields.map fun f => (f.offset, f.type)) l m = some r →
    (∀ (j : Nat) v, vs[j]? = some v → xs[i + j]? = some v) → (∀ (j : Nat) v, us[j]? = some v → ys[i + j]? = some v) → (Op.eqFields 9999 xs ys fields).run P w = .ok r w
  | [], i, [], [], _, _, r, _, _, _, e, _, _ => by
    simp only [List.map_nil, eqCells, Option.some.injEq] at e
    subst e
    simp [Op.eqFields]
  | f :: fs, i, x :: l, z :: m, v :: vs, u :: us, r, hn, hx, hz, e, h1, h2 => by
    simp only [List.map_cons, eqCells] at e
    split at e
    case isFalse => cases e
    rename_i ho
    have hv := h1 0 v rfl
    have hu := h2 0 u rfl
    simp only [Nat.add_zero] at hv hu
    have hname := hn f (by simp)
    split at e
    case h_2 => cases e
    rename_i ti hti
    split at e
    case h_2 => cases e
    rename_i p hp
    simp only [Option.map_eq_some_iff] at e
    obtain ⟨r', e', rfl⟩ := e
    have rec_ := eqCells_sound hT (fields := fs) (i := i + 1) (l := l) (m := m) (vs := vs) (us := us) (r := r') (fun f hf => hn f (by simp [hf])) hx.2 hz.2 e'
      (fun j v' hj => by have := h1 (j + 1) v' (by simpa using hj); rwa [show i + (j + 1) = i + 1 + j by omega] at this)
      (fun j v' hj => by have := h2 (j + 1) v' (by simpa using hj); rwa [show i + (j + 1) = i + 1 + j by omega] at this)
    have hund := (hT f.type ti hti).und
    obtain ⟨q, na⟩ := cellEq_sound (P := P) hp hx.1 hz.1 (t := f.type) hund 9998
    have hagg := TabOk.isAgg hT hti w
    rw [na] at hagg
    have p1 : (part f.type xs f.offset).run P w = .ok v w := by simp [part, hagg, ho, hv]
    have p2 : (part f.type ys f.offset).run P w = .ok u w := by simp [part, hagg, ho, hu]
    simp only [Op.eqFields, hname, ne_eq, not_false_eq_true, if_true, Sem.run_bind, p1, p2, Result.andThen_ok, q, rec_, Sem.run_ite, Sem.run_pure]
    cases p <;> simp
  | [], _, _ :: _, _, _, _, _, _, _, _, e, _, _ => by simp [eqCells] at e
  | [], _, [], _ :: _, _, _, _, _, _, _, e, _, _ => by simp [eqCells] at e
  | _ :: _, _, [], _, _, _, _, _, _, _, e, _, _ => by simp [eqCells] at e
  | _ :: _, _, x :: _, [], _, _, _, _, _, _, e, _, _ => by simp [eqCells] at e
  | _ :: _, _, _ :: _, _ :: _, [], _, _, _, hx, _, _, _, _ => hx.elim
  | _ :: _, _, _ :: _, _ :: _, _ :: _, [], _, _, _, hz, _, _, _ => hz.elim
theorem binOp_bool (op : BinOp) (t : TypeId) (p q : Bool) (hu : P.underlying t = some .bool) (w : World) : (op = .eql → (binOp op t (.bool p) (.bool q)).run P w = .ok (.bool (p == q)) w) ∧
    (op = .neq → (binOp op t (.bool p) (.bool q)).run P w = .ok (.bool (!(p == q))) w) := by
  have h := run_equalIn_bool' (P := P) w 9999 t p q hu
  constructor
  · rintro rfl
    simp only [binOp, Op.equal, Op.maxDepth, Sem.run_bind, h, Result.andThen_ok, Sem.run_pure]
  · rintro rfl
    simp only [binOp, Op.equal, Op.maxDepth, Sem.run_bind, h, Result.andThen_ok, Sem.run_pure]
theorem binX_sound {T : Tab} (hT : TabOk P T) {t : Nat} {op : BinOp} {x z : XV} {k : AV → Option Y} {y : Y} (e : binX T t op x z k = some y) {E : Env} {w : World} {vw : List Bx} {v u : Value}
    (hx : XR E w vw x v) (hz : XR E w vw z u) (ox oz : Operand) :
    ∃ r val, k r = some y ∧ (do eqGuard op t ox oz v u; binOp op t v u : Sem Value).run P w = .ok val w ∧ VR E w vw r val := by
  have guard : ∀ (v u : Value), (∀ l, v ≠ .agg l) → v ≠ .nilIface → ∀ val, (binOp op t v u).run P w = .ok val w → (do eqGuard op t ox oz v u; binOp op t v u : Sem Value).run P w = .ok val w := by
    intro v u h1 h2 val h
    rw [Sem.run_bind, eqGuard_int op t ox oz v u h1 h2 w, Result.andThen_ok, h]
  unfold binX at e
  split at e
  · rename_i j m j' n
    have hv := VR_int (E := E) (vw := vw) hx
    have hu := VR_int (E := E) (vw := vw) hz
    subst hv hu
    have done : ∀ (q : ∃ r val, k r = some y ∧ (binOp op t (.int j m) (.int j' n)).run P w = .ok val w ∧ ∀ E vw, VR E w vw r val), ∃ r val, k r = some y ∧ (do eqGuard op t ox oz (.int j m) (.int j' n); binOp op t (.int j m) (.int j' n) : Sem Value).run P w = .ok val w ∧ VR E w vw r val := by
      rintro ⟨r, val, h1, h2, h3⟩
      exact ⟨r, val, h1, guard _ _ (by simp) (by simp) _ h2, h3 _ _⟩
    split at e
    · exact done (shiftOp_sound e t w)
    · exact done (shiftOp_sound e t w)
    · split at e
      · rename_i hj
        subst hj
        exact done (intOp_sound e t w)
      · cases e
  · rename_i s s'
    have hv := VR_str (E := E) (vw := vw) hx
    have hu := VR_str (E := E) (vw := vw) hz
    subst hv hu
    obtain ⟨r, val, h1, h2, h3⟩ := strOp_sound (P := P) e t w
    exact ⟨r, val, h1, guard _ _ (by simp) (by simp) _ h2, h3 _ _⟩
  · rename_i p q
    have hv := VR_bool (E := E) (vw := vw) hx
    have hu := VR_bool (E := E) (vw := vw) hz
    subst hv hu
    split at e
    · rename_i ti hti
      have hund := (hT t ti hti).und
      split at e
      · rename_i hd
        rw [hd] at hund
        split at e
        · exact ⟨_, _, e, guard _ _ (by simp) (by simp) _ ((binOp_bool _ t p q hund w).1 rfl), VR.bool _⟩
        · exact ⟨_, _, e, guard _ _ (by simp) (by simp) _ ((binOp_bool _ t p q hund w).2 rfl), VR.bool _⟩
        · cases e
      · cases e
    · cases e
  · rename_i l m
    obtain ⟨vs, rfl, hvs⟩ := hx
    obtain ⟨us, rfl, hus⟩ := hz
    have key : ∀ r, ((T.fields t).bind fun fs => eqCells T 0 fs l m) = some r → (Op.equalIn 10000 t (.agg vs) (.agg us)).run P w = .ok r w ∧ P.eqGuardType P.depth t = false := by
      intro r hr
      simp only [Option.bind_eq_some_iff] at hr
      obtain ⟨fs, hf, hr⟩ := hr
      unfold Tab.fields at hf
      split at hf
      · rename_i fs' hd
        cases hf
        simp only [Option.map_eq_some_iff] at hd
        obtain ⟨ti, hti, hd⟩ := hd
        have hund := (hT t ti hti).und
        rw [hd] at hund
        obtain ⟨fields, hu, hfs, hnm, hst, hg⟩ := hund
        have hfo : P.fieldsOf t = fields := by simp [Program.fieldsOf, hu]
        have q := run_equalIn_agg (P := P) w 9999 t vs us (by rw [hfo]; exact hu) hst
        rw [hfo] at q
        refine ⟨q.trans ?_, hg⟩
        subst hfs
        exact eqCells_sound hT (fun f hf => (hnm f hf).1) hvs hus hr (fun j v hj => by simpa using hj) (fun j v hj => by simpa using hj)
      · cases hf
    split at e
    · rename_i r hr
      obtain ⟨q, hg⟩ := key r hr
      refine ⟨_, _, e, ?_, VR.bool r⟩
      rw [Sem.run_bind, run_eqGuard_agg (P := P) w _ t ox oz vs us hg, Result.andThen_ok, run_eql_struct (P := P) w t vs us, q]
      rfl
    · rename_i r hr
      obtain ⟨q, hg⟩ := key r hr
      refine ⟨_, _, e, ?_, VR.bool (!r)⟩
      rw [Sem.run_bind, run_eqGuard_agg (P := P) w _ t ox oz vs us hg, Result.andThen_ok, run_neq_struct (P := P) w t vs us, q]
      rfl
    · cases e
  · cases e
end
end Go.Fw
end

section
namespace Go.Fw
section
variable {Y : Type} {P : Program} {T : Tab} (hT : TabOk P T) {E : Env} {w : World} {vw : List Bx}
include hT
theorem stOf {t : Nat} {s b : Nat} {fs : List (Nat × Nat)} {rw : Option Ty} (e : T.get t = some ⟨s, b, .st fs, rw⟩) : ∃ fields, P.underlying t = some (.struct fields) ∧ fields.toList.map (fun f => (f.offset, f.type)) = fs ∧
    ∀ f ∈ fields.toList, ∃ i, P.info? f.type = some i ∧ i.size ≠ 0 := by
  obtain ⟨fields, h1, h2, h3, _⟩ := (hT t _ e).und
  exact ⟨fields, h1, h2, fun f hf => (h3 f hf).2⟩
omit hT in
theorem run_fieldPlace {a : Addr} {f : Field} (h : ∃ i, P.info? f.type = some i ∧ i.size ≠ 0) : (fieldPlace a f).run P w = .ok (a.add f.offset) w := by
  obtain ⟨i, h1, h2⟩ := h
  simp [fieldPlace, Go.sizeOf, typeInfo, h1, h2]
theorem run_fieldAt {t : Nat} {s b : Nat} {fs : List (Nat × Nat)} {rw : Option Ty} (e : T.get t = some ⟨s, b, .st fs, rw⟩) {f o u : Nat} (hf : fs[f]? = some (o, u)) {a : Addr} :
    (Instr.fieldAt t (.pointer (some a)) f).run P w = .ok (.pointer (some (a.add o))) w := by
  obtain ⟨fields, h1, h2, h3⟩ := stOf hT e
  subst h2
  simp only [List.getElem?_map, Option.map_eq_some_iff] at hf
  obtain ⟨fld, hfl, he⟩ := hf
  have hm := List.mem_of_getElem? hfl
  have hfa : fields[f]? = some fld := by simpa using hfl
  simp only [Prod.mk.injEq] at he
  simp [Instr.fieldAt, run_underlying' h1, hfa, Instr.sureAddr, run_fieldPlace (h3 fld hm), he.1]
theorem fieldX_sound {t : Nat} {x z : XV} {f : Nat} (e : fieldX T t x f = some z) {v : Value} (hx : XR E w vw x v) : ∃ u, (Instr.fieldAt t v f).run P w = .ok u w ∧ XR E w vw z u := by
  unfold fieldX at e
  split at e
  case h_2 => cases e
  rename_i s b fs _ hti
  split at e
  case h_2 => cases e
  rename_i o u hf
  split at e
  · rename_i b' j
    cases e
    obtain ⟨h1, rfl⟩ := hx
    exact ⟨_, run_fieldAt hT hti hf, h1, by rw [Addr.add_eq]⟩
  · rename_i b' p i sz j
    cases e
    obtain ⟨h0, h1⟩ := hx
    cases v with
    | pointer oa =>
      cases oa with
      | none => simp [isPtr] at h0
      | some a =>
        obtain ⟨ab, ao, sp⟩ := a
        cases sp with
        | some _ => simp [isPtr] at h0
        | none =>
          refine ⟨_, run_fieldAt hT hti hf, by rw [Addr.add_eq]; rfl, ?_⟩
          revert h1
          split
          · rintro ⟨hp, q, ys, bb, o', len, cap, g1, g2, g3, g4⟩
            refine ⟨hp, q, ys, bb, o', len, cap, g1, g2, g3, ?_⟩
            simp only [Value.pointer.injEq, Option.some.injEq, Addr.mk.injEq, and_true] at g4
            rw [Addr.add_eq, g4.1, g4.2, Nat.add_assoc]
          · exact fun h => h
          · exact fun h => h
    | _ => simp [isPtr] at h0
  · rename_i s r y j
    cases e
    obtain ⟨bb, o', cs, rfl, h2, h3, h4, h5⟩ := hx
    refine ⟨_, run_fieldAt hT hti hf, bb, o', cs, ?_, h2, h3, h4, h5⟩
    rw [Addr.add_eq, Nat.add_assoc]
  · cases e
theorem partX_sound {t : Nat} {x z : XV} {f : Nat} (e : partX T t x f = some z) {v : Value} (hx : XR E w vw x v) : ∃ u, (Instr.field t v f).run P w = .ok u w ∧ XR E w vw z u := by
  unfold partX at e
  split at e
  case h_2 => cases e
  rename_i s b fs _ l hti
  obtain ⟨vs, rfl, hvs⟩ := hx
  split at e
  case h_2 => cases e
  rename_i o u hf
  split at e
  case h_2 => cases e
  rename_i ti htu
  obtain ⟨fields, h1, h2, h3⟩ := stOf hT hti
  subst h2
  simp only [List.getElem?_map, Option.map_eq_some_iff] at hf
  obtain ⟨fld, hfl, he⟩ := hf
  have hfa : fields[f]? = some fld := by simpa using hfl
  simp only [Prod.mk.injEq] at he
  obtain ⟨rfl, rfl⟩ := he
  have hagg := TabOk.isAgg hT htu w
  have hsz := TabOk.sizeOf hT htu w
  split at e
  · rename_i ha
    cases e
    rw [ha] at hagg
    refine ⟨.agg (vs.extract fld.offset (fld.offset + ti.size)), ?_, _, rfl, ?_⟩
    · simp [Instr.field, run_underlying' h1, hfa, asAgg, part, hagg, hsz]
    · have : (vs.extract fld.offset (fld.offset + ti.size)).toList = (vs.toList.drop fld.offset).take ti.size := by
        rw [Array.toList_extract, List.extract_eq_take_drop]
        simp
      rw [this]
      exact All2.take _ (All2.drop _ hvs)
  · rename_i ha
    simp only [Bool.not_eq_true] at ha
    rw [ha] at hagg
    simp only [Option.map_eq_some_iff] at e
    obtain ⟨y, hy, rfl⟩ := e
    obtain ⟨v, hv, hr⟩ := All2.get hvs hy
    refine ⟨v, ?_, hr⟩
    have : vs[fld.offset]? = some v := by simpa using hv
    simp [Instr.field, run_underlying' h1, hfa, asAgg, part, hagg, this]
theorem elemIs_spec {t : Nat} {r : Ty} (h : T.elemIs t r = true) : ∃ e ti, P.underlying t = some (.slice e) ∧ T.get e = some ti ∧ ti.size = r.n ∧ ti.bytes ≤ 512 ∧ ti.row = some r := by
  unfold Tab.elemIs at h
  split at h
  · rename_i ti hti
    simp only [Bool.and_eq_true, decide_eq_true_eq] at h
    unfold Tab.elem at hti
    split at hti
    · rename_i e hd
      simp only [Option.map_eq_some_iff] at hd
      obtain ⟨tj, h1, h2⟩ := hd
      have := (hT t tj h1).und
      rw [h2] at this
      exact ⟨e, ti, this, hti, h.1.1, h.1.2, h.2⟩
    · cases hti
  · cases h
theorem isStr_spec {t : Nat} (h : T.isStr t = true) : P.underlying t = some .string := by
  unfold Tab.isStr at h
  split at h
  · rename_i hd
    simp only [Option.map_eq_some_iff] at hd
    obtain ⟨tj, h1, h2⟩ := hd
    have := (hT t tj h1).und
    rw [h2] at this
    exact this
  · cases h
theorem isSl_spec {t : Nat} (h : T.isSl t = true) : ∃ e, P.underlying t = some (.slice e) := by
  unfold Tab.isSl at h
  split at h
  · rename_i e hd
    simp only [Option.map_eq_some_iff] at hd
    obtain ⟨tj, h1, h2⟩ := hd
    have := (hT t tj h1).und
    rw [h2] at this
    exact ⟨e, this⟩
  · cases h
omit hT in
theorem intOfX_sound {x : XV} {n : Int} (e : intOfX x = some n) {v : Value} (hx : XR E w vw x v) : ∃ κ, v = .int κ n := by
  unfold intOfX at e
  split at e
  · cases e; exact ⟨_, VR_int (E := E) (w := w) (vw := vw) hx⟩
  · cases e
theorem run_indexAt {t : Nat} {r : Ty} (h : T.elemIs t r = true) {κ : IntKind} {i : Int} {a : Addr} {len cap : Nat} (h0 : 0 ≤ i) (h1 : i < (len : Int)) :
    (Instr.indexAt t (.slice (some a) len cap) (.int κ i)).run P w = .ok (.pointer (some (a.add (i.toNat * r.n)))) w := by
  obtain ⟨e, ti, hu, hti, hs, _⟩ := elemIs_spec hT h
  have hsz := TabOk.sizeOf hT hti w
  simp [Instr.indexAt, asIntOf, run_underlying' hu, h0, h1, hsz, hs]
omit hT in
theorem ref_rd {bx : List Bx} {Fs : List (List Nat)} (hB : BoxesF E w bx bx Fs) (st : ∀ c, E.S c → E.T c) {x : AV} {v : Value} (hv : VR E w bx x v) {q : Ty} {ys : List q.D} (e : readSl bx x = some ⟨q, ys⟩) :
    ∃ a cap, v = .slice a ys.length cap ∧ ys.length ≤ cap ∧ (ys.length = 0 ∨ ∃ b o, a = some ⟨b, o, none⟩) := by
  have := readSl_rd (Within.refl bx) hB st hv e
  simp only [Rd] at this
  obtain ⟨a, cap, h1, h2, h3⟩ := this
  simp only [List.cons.injEq, and_true] at h1
  exact ⟨a, cap, h1, h2, h3.imp id fun ⟨b, o, h, _⟩ => ⟨b, o, h⟩⟩
theorem indexX_sound {σ : St} {Fs : List (List Nat)} (hB : BoxesF E w σ.bx σ.bx Fs) (st : ∀ c, E.S c → E.T c) {t : Nat} {x i : XV} {k : K Y} {y : Y} (e : indexX σ T t x i k = some y) {v u : Value}
    (hx : XR E w σ.bx x v) (hi : XR E w σ.bx i u) : ∃ z val, k z σ = some y ∧ (Instr.indexAt t v u).run P w = .ok val w ∧ XR E w σ.bx z val := by
  unfold indexX at e
  split at e
  · rename_i s r rows n hn
    obtain ⟨κ, rfl⟩ := intOfX_sound hn hi
    split at e
    case isFalse => cases e
    rename_i hel
    split at e
    case isFalse => cases e
    rename_i hb
    obtain ⟨h0, h1⟩ := hb
    simp only [XR, VR, Rd] at hx
    obtain ⟨a, cap, hv, hl, hx⟩ := hx
    simp only [List.cons.injEq, and_true] at hv
    subst hv
    rcases hx with hx | ⟨b, o, rfl, hb, hx⟩
    · omega
    · have hlt : n.toNat < rows.length := by omega
      obtain ⟨cs, c1, c2, c3⟩ := hx n.toNat _ (rowAt_get hlt)
      refine ⟨_, _, e, run_indexAt hT hel h0 h1, b, o + n.toNat * r.n, cs, ?_, by simpa using hb, c1, c2, by simpa using c3⟩
      rw [Addr.add_eq]
      rfl
  · rename_i b p n hn
    obtain ⟨κ, rfl⟩ := intOfX_sound hn hi
    split at e
    case h_2 => cases e
    rename_i q hq
    split at e
    case isFalse => cases e
    rename_i hel
    split at e
    case isFalse => cases e
    rename_i hb
    obtain ⟨h0, h1⟩ := hb
    change VR E w σ.bx (.ref b p) v at hx
    obtain ⟨a, cap, rfl, hl, ha⟩ := ref_rd hB st hx hq
    rcases ha with ha | ⟨b', o, rfl⟩
    · omega
    · refine ⟨_, _, e, run_indexAt hT hel h0 h1, by rw [Addr.add_eq]; rfl, ?_⟩
      simp only [readSl] at hq
      obtain ⟨_, hx⟩ := hx
      revert hx
      split
      · rename_i d r rows hbx
        rw [hbx] at hq
        dsimp only at hq
        rintro ⟨hp, hg, hh⟩
        exact ⟨hp, q.1, q.2, b', o, _, cap, hq, by omega, hh, by rw [Addr.add_eq]; rfl⟩
      · rename_i hbx
        intro _
        trivial
      · exact fun h => h
  · rename_i b p off n' n hn
    obtain ⟨κ, rfl⟩ := intOfX_sound hn hi
    split at e
    case h_2 => cases e
    rename_i q hq
    split at e
    case isFalse => cases e
    rename_i hel
    split at e
    case isFalse => cases e
    rename_i hb
    obtain ⟨h0, h1⟩ := hb
    simp only [readSl] at hq
    obtain ⟨h00, hx⟩ := hx
    revert hx
    split
    · rename_i d r rows hbx
      rw [hbx] at hq
      dsimp only at hq
      rintro ⟨hp, q', ys, a, len, cap, g1, g2, g3, rfl⟩
      have hrd := place_rd (Within.refl _) hB st hbx hp g1 g3
      simp only [Rd] at hrd
      obtain ⟨a', cap', ee, hle, hrd⟩ := hrd
      simp only [List.cons.injEq, Value.slice.injEq, and_true] at ee
      obtain ⟨rfl, rfl, rfl⟩ := ee
      rcases hrd with hrd | ⟨b', o, rfl, _, _⟩
      · omega
      · unfold cutHdr
        rw [if_neg (by omega)]
        have hq1 : q.1 = q' := by
          rw [g1] at hq
          simp only [Option.map_some, Option.some.injEq] at hq
          rw [← hq]
        refine ⟨_, _, e, run_indexAt hT hel h0 h1, by simp only [Option.map]; rw [Addr.add_eq, Addr.add_eq]; rfl, ?_⟩
        rw [hbx]
        refine ⟨hp, q', ys, b', o, _, cap, g1, by omega, g3, ?_⟩
        dsimp only
        rw [Addr.add_eq, Addr.add_eq, hq1, Nat.add_assoc, ← Nat.add_mul]
        rfl
    · rename_i B hbx hnn
      exfalso
      cases B with
      | sl d r rows => exact hbx d r rows rfl
      | _ => rw [hnn] at hq; simp at hq
    · exact fun h => h.elim
  · cases e
theorem strIndexX_sound {σ : St} {t : Nat} {x i : XV} {k : K Y} {y : Y} (e : strIndexX T t σ x i k = some y) {v u : Value} (hx : XR E w vw x v) (hi : XR E w vw i u) :
    ∃ z val, k z σ = some y ∧ (Instr.index t v u).run P w = .ok val w ∧ XR E w vw z val := by
  unfold strIndexX at e
  split at e
  · rename_i s n hn
    obtain ⟨κ, rfl⟩ := intOfX_sound hn hi
    have hv := VR_str (E := E) (w := w) (vw := vw) hx
    subst hv
    split at e
    case isFalse => cases e
    rename_i hst
    split at e
    case isFalse => cases e
    rename_i hb
    obtain ⟨h0, h1⟩ := hb
    refine ⟨_, .int .u8 ((s.getD n.toNat 0).toNat : Int), e, ?_, VR.int (E := E) (vw := vw) _ _⟩
    have hlt : n.toNat < s.length := by omega
    have : (⟨s.toArray⟩ : ByteArray)[n.toNat]? = some s[n.toNat] := by
      rw [getElem?_pos _ _ (by simpa [ByteArray.size] using hlt)]
      rfl
    simp [Instr.index, asIntOf, run_underlying' (isStr_spec hT hst), h0, this, hlt]
  · cases e
omit hT in
theorem extractX_sound {x z : XV} {i : Nat} (e : extractX x i = some z) {v : Value} (hx : XR E w vw x v) : ∃ u, (Instr.extract v i).run P w = .ok u w ∧ XR E w vw z u := by
  unfold extractX at e
  split at e
  case h_2 => cases e
  rename_i l
  obtain ⟨vs, rfl, hvs⟩ := hx
  split at e
  · rename_i x hx
    cases e
    obtain ⟨v, hv, hr⟩ := hvs.get hx
    have : vs[i]? = some v := by simpa using hv
    exact ⟨v, by simp [Instr.extract, this], hr⟩
  · rename_i q hx
    cases e
    obtain ⟨v, hv, ws, rfl, hr⟩ := hvs.get hx
    have : vs[i]? = some (.agg ws) := by simpa using hv
    exact ⟨.agg ws, by simp [Instr.extract, this], ws, rfl, hr⟩
  · cases e
omit hT in
theorem lenOf_sound {bx : List Bx} {Fs : List (List Nat)} (hB : BoxesF E w bx bx Fs) (st : ∀ c, E.S c → E.T c) {x : AV} {n : Nat} (e : lenOf bx x = some n) {v : Value} (hx : VR E w bx x v) :
    ∃ a cap, v = .slice a n cap := by
  cases x with
  | nil => simp only [lenOf, Option.some.injEq] at e; subst e; exact ⟨_, _, hx⟩
  | sl s r x =>
    simp only [lenOf, Option.some.injEq] at e
    subst e
    simp only [VR, Rd] at hx
    obtain ⟨a, cap, h, _⟩ := hx
    simp only [List.cons.injEq, and_true] at h
    exact ⟨a, cap, h⟩
  | ref b p =>
    simp only [lenOf] at e
    split at e
    · rename_i d r rows hb
      simp only [Option.map_eq_some_iff] at e
      obtain ⟨q, hq, rfl⟩ := e
      obtain ⟨a, cap, h, _⟩ := ref_rd hB st hx (q := q.1) (ys := q.2) (by simp only [readSl, hb]; exact hq)
      exact ⟨a, cap, h⟩
    · cases e
  | win b p off m =>
    simp only [lenOf] at e
    split at e
    · rename_i d r rows hb
      cases e
      simp only [VR, hb] at hx
      obtain ⟨_, _, q, ys, a, len, cap, _, _, _, rfl⟩ := hx
      exact ⟨_, _, rfl⟩
    · cases e
  | _ => simp [lenOf] at e
omit hT in
theorem maxX_sound {big : Bool} {x z : XV} {k : AV → Option Y} {y : Y} (e : maxX big x z k = some y) {v u : Value} (hx : XR E w vw x v) (hz : XR E w vw z u) (t s : Array TypeId) (tt : TypeId) :
    ∃ r val, k r = some y ∧ (if big then Builtin.max_ t tt #[v, u] else Builtin.min_ t tt #[v, u]).run P w = .ok val w ∧ VR E w vw r val := by
  unfold maxX at e
  split at e
  · rename_i j m j' n
    have hv := VR_int (E := E) (w := w) (vw := vw) hx
    have hu := VR_int (E := E) (w := w) (vw := vw) hz
    subst hv hu
    split at e
    case isFalse => cases e
    rename_i hj
    subst hj
    cases big with
    | true => exact ⟨_, .int j (if n > m then n else m), e, by simp [Builtin.max_, Builtin.max2], VR.int _ _⟩
    | false => exact ⟨_, .int j (if n < m then n else m), e, by simp [Builtin.min_, Builtin.min2], VR.int _ _⟩
  · cases e
omit hT in
theorem unX_sound {op : UnOp} {x : XV} {k : AV → Option Y} {y : Y} (e : unX op x k = some y) {v : Value} (hx : XR E w vw x v) :
    ∃ r val, k r = some y ∧ (Op.unary op v).run P w = .ok val w ∧ VR E w vw r val := by
  unfold unX at e
  split at e
  · have hv := VR_bool (E := E) (w := w) (vw := vw) hx
    subst hv
    exact ⟨_, _, e, by simp [Op.unary], VR.bool _⟩
  · rename_i j n
    have hv := VR_int (E := E) (w := w) (vw := vw) hx
    subst hv
    exact ⟨_, .int j (j.wrap (0 - n)), e, by simp [Op.unary, Op.intArith], VR.int _ _⟩
  · cases e
end
end Go.Fw
end

section
namespace Go.Fw
theorem castD_rfl {a : Ty} (x : a.D) : castD rfl x = x := rfl
theorem Ow_cell {w : World} {S : Nat → Prop} : ∀ {r : Ty} {d j : Nat} {cs : List Value} {x : r.D} {F : List Nat} {t : Ty} {y : t.D}, Ow w S d r cs x F → cellGet r j x = some ⟨t, y⟩ →
    ∃ v F1 F2, cs[j]? = some v ∧ Ow w S d t [v] y F1 ∧ F.Perm (F1 ++ F2) ∧
      ∀ (w' : World) (S' : Nat → Prop) (v' : Value) (y' : t.D) (F1' : List Nat) (x' : r.D), (∀ b, S b → S' b) → (∀ b, S b → w'.heap[b]? = w.heap[b]?) → (∀ b ∈ F2, w'.heap[b]? = w.heap[b]?) →
        Ow w' S' d t [v'] y' F1' → cellSet r j x t y' = some x' → ∃ F', F'.Perm (F1' ++ F2) ∧ Ow w' S' d r (cs.set j v') x' F'
  | .cons c r, d, 0, cs, x, F, t, y, h, e => by
    simp only [Ow] at h
    obtain ⟨v, l, A, B, rfl, rfl, h1, h2⟩ := h
    simp only [cellGet, Option.some.injEq, Sigma.mk.injEq] at e
    obtain ⟨rfl, e⟩ := e
    obtain rfl := eq_of_heq e
    refine ⟨v, A, B, rfl, h1, List.Perm.refl _, fun w' S' v' y' F1' x' hS hSw hF ho hx => ?_⟩
    simp only [cellSet, dite_true, castD_rfl, Option.some.injEq] at hx
    subst hx
    refine ⟨F1' ++ B, List.Perm.refl _, ?_⟩
    simp only [Ow, List.set_cons_zero]
    exact ⟨v', l, F1', B, rfl, rfl, ho, Ow_mono hS hSw hF h2⟩
  | .cons c r, d, j + 1, cs, x, F, t, y, h, e => by
    simp only [Ow] at h
    obtain ⟨v, l, A, B, rfl, rfl, h1, h2⟩ := h
    simp only [cellGet] at e
    obtain ⟨u, F1, F2, k1, k2, k3, k4⟩ := Ow_cell h2 e
    refine ⟨u, F1, A ++ F2, by simpa using k1, k2, ?_, fun w' S' v' y' F1' x' hS hSw hF ho hx => ?_⟩
    · refine (List.Perm.append_left A k3).trans ?_
      rw [← List.append_assoc, ← List.append_assoc]
      exact List.Perm.append_right _ List.perm_append_comm
    · simp only [cellSet, Option.map_eq_some_iff] at hx
      obtain ⟨z, hz, rfl⟩ := hx
      obtain ⟨F', p1, p2⟩ := k4 w' S' v' y' F1' z hS hSw (fun b hb => hF b (by simp [hb])) ho hz
      refine ⟨A ++ F', ?_, ?_⟩
      · refine (List.Perm.append_left A p1).trans ?_
        rw [← List.append_assoc, ← List.append_assoc]
        exact List.Perm.append_right _ List.perm_append_comm
      · simp only [Ow, List.set_cons_succ]
        exact ⟨v, _, A, F', rfl, rfl, Ow_mono hS hSw (fun b hb => hF b (by simp [hb])) h1, p2⟩
  | .int k, d, 0, cs, x, F, t, y, h, e => by
    simp only [cellGet, Option.some.injEq, Sigma.mk.injEq] at e
    obtain ⟨rfl, e⟩ := e
    obtain rfl := eq_of_heq e
    have hc := Ow_len h
    obtain ⟨v, rfl⟩ : ∃ v, cs = [v] := by
      cases cs with
      | nil => simp [Ty.n] at hc
      | cons a l => cases l with
        | nil => exact ⟨a, rfl⟩
        | cons _ _ => simp [Ty.n] at hc
    refine ⟨v, F, [], rfl, h, by simp, fun w' S' v' y' F1' x' hS hSw hF ho hx => ⟨F1', by simp, ?_⟩⟩
    simp only [cellSet, dite_true, castD_rfl, Option.some.injEq] at hx
    subst hx
    exact ho
  | .bool, d, 0, cs, x, F, t, y, h, e => by
    simp only [cellGet, Option.some.injEq, Sigma.mk.injEq] at e
    obtain ⟨rfl, e⟩ := e
    obtain rfl := eq_of_heq e
    have hc := Ow_len h
    obtain ⟨v, rfl⟩ : ∃ v, cs = [v] := by
      cases cs with
      | nil => simp [Ty.n] at hc
      | cons a l => cases l with
        | nil => exact ⟨a, rfl⟩
        | cons _ _ => simp [Ty.n] at hc
    refine ⟨v, F, [], rfl, h, by simp, fun w' S' v' y' F1' x' hS hSw hF ho hx => ⟨F1', by simp, ?_⟩⟩
    simp only [cellSet, dite_true, castD_rfl, Option.some.injEq] at hx
    subst hx
    exact ho
  | .str, d, 0, cs, x, F, t, y, h, e => by
    simp only [cellGet, Option.some.injEq, Sigma.mk.injEq] at e
    obtain ⟨rfl, e⟩ := e
    obtain rfl := eq_of_heq e
    have hc := Ow_len h
    obtain ⟨v, rfl⟩ : ∃ v, cs = [v] := by
      cases cs with
      | nil => simp [Ty.n] at hc
      | cons a l => cases l with
        | nil => exact ⟨a, rfl⟩
        | cons _ _ => simp [Ty.n] at hc
    refine ⟨v, F, [], rfl, h, by simp, fun w' S' v' y' F1' x' hS hSw hF ho hx => ⟨F1', by simp, ?_⟩⟩
    simp only [cellSet, dite_true, castD_rfl, Option.some.injEq] at hx
    subst hx
    exact ho
  | .sl r, d, 0, cs, x, F, t, y, h, e => by
    simp only [cellGet, Option.some.injEq, Sigma.mk.injEq] at e
    obtain ⟨rfl, e⟩ := e
    obtain rfl := eq_of_heq e
    have hc := Ow_len h
    obtain ⟨v, rfl⟩ : ∃ v, cs = [v] := by
      cases cs with
      | nil => simp [Ty.n] at hc
      | cons a l => cases l with
        | nil => exact ⟨a, rfl⟩
        | cons _ _ => simp [Ty.n] at hc
    refine ⟨v, F, [], rfl, h, by simp, fun w' S' v' y' F1' x' hS hSw hF ho hx => ⟨F1', by simp, ?_⟩⟩
    simp only [cellSet, dite_true, castD_rfl, Option.some.injEq] at hx
    subst hx
    exact ho
  | .unit, _, _, _, _, _, _, _, _, e => by simp [cellGet] at e
  | .int _, _, _ + 1, _, _, _, _, _, _, e => by simp [cellGet] at e
  | .bool, _, _ + 1, _, _, _, _, _, _, e => by simp [cellGet] at e
  | .str, _, _ + 1, _, _, _, _, _, _, e => by simp [cellGet] at e
  | .sl _, _, _ + 1, _, _, _, _, _, _, e => by simp [cellGet] at e
theorem flatten_set_perm {Fs : List (List Nat)} {i : Nat} {G G' : List Nat} (h : Fs[i]? = some G) : (Fs.set i G').flatten.Perm (G' ++ (Fs.set i []).flatten) := by
  have hlt := (List.getElem?_eq_some_iff.1 h).1
  have p1 := flatten_set (Fs := Fs.set i G') (b := i) (F := G') (List.getElem?_set_self (by omega))
  rw [List.set_set] at p1
  exact p1
theorem Ow_row {w : World} {S : Nat → Prop} {d : Nat} {q : Ty} {a : Option Addr} {len cap : Nat} {ys : List q.D} {F : List Nat} (h : Ow w S (d + 1) (.sl q) [.slice a len cap] ys F) {i : Nat} (hi : i < ys.length) :
    ∃ b o arr ty fr cs G R, a = some ⟨b, o, none⟩ ∧ w.heap[b]? = some (.cells arr ty fr) ∧ Unfr fr arr.size ∧ o + i * q.n + q.n ≤ arr.size ∧ cs.length = q.n ∧ CellsAt w b (o + i * q.n) cs ∧
      Ow w S d q cs (rowAt q ys i) G ∧ F.Perm (G ++ (b :: R)) ∧
      ∀ (w' : World) (S' : Nat → Prop) (arr' : Array Value) (cs' : List Value) (row' : q.D) (G' : List Nat), (∀ c, S c → S' c) → (∀ c, S c → w'.heap[c]? = w.heap[c]?) → (∀ c ∈ R, w'.heap[c]? = w.heap[c]?) →
        w'.heap[b]? = some (.cells arr' ty fr) → arr'.size = arr.size → (∀ k, (k < o + i * q.n ∨ o + i * q.n + q.n ≤ k) → arr'[k]? = arr[k]?) → cs'.length = q.n → CellsAt w' b (o + i * q.n) cs' →
        Ow w' S' d q cs' row' G' → ∃ F', F'.Perm (G' ++ (b :: R)) ∧ Ow w' S' (d + 1) (.sl q) [.slice a len cap] (ys.set i row') F' := by
  simp only [Ow] at h
  obtain ⟨a', cap', e, hle, h⟩ := h
  simp only [List.cons.injEq, Value.slice.injEq, and_true] at e
  obtain ⟨rfl, rfl, rfl⟩ := e
  rcases h with ⟨h1, _⟩ | ⟨b, o, arr, ty, fr, Fs, rfl, hb, hsz, hu, rfl, hFl, hrows⟩
  · omega
  · have hG : Fs[i]? = some (Fs[i]'(by omega)) := List.getElem?_eq_getElem _
    generalize Fs[i]'(by omega) = G at hG
    obtain ⟨cs, c1, c2, c3⟩ := hrows i _ G (rowAt_get hi) hG
    have hbound : o + i * q.n + q.n ≤ arr.size := by
      have : (i + 1) * q.n ≤ cap * q.n := Nat.mul_le_mul_right _ (by omega)
      rw [Nat.add_mul, Nat.one_mul] at this
      omega
    refine ⟨b, o, arr, ty, fr, cs, G, (Fs.set i []).flatten, rfl, hb, hu, hbound, c1, c2, c3, ?_, ?_⟩
    · refine (List.Perm.cons b (flatten_set hG)).trans ?_
      exact List.perm_middle.symm
    · intro w' S' arr' cs' row' G' hS hSw hR hb' hs' hk hcl hca ho
      refine ⟨b :: (Fs.set i G').flatten, ?_, ?_⟩
      · refine (List.Perm.cons b (flatten_set_perm hG)).trans ?_
        exact List.perm_middle.symm
      · simp only [Ow]
        refine ⟨_, cap, by simp, by simpa using hle, .inr ⟨b, o, arr', ty, fr, Fs.set i G', rfl, hb', by omega, by rw [hs']; exact hu, rfl, by simpa using hFl, fun k y H hy hH => ?_⟩⟩
        by_cases e : k = i
        · subst e
          rw [List.getElem?_set_self hi] at hy
          rw [List.getElem?_set_self (by omega)] at hH
          cases hy; cases hH
          exact ⟨cs', hcl, hca, ho⟩
        · rw [List.getElem?_set_ne (by omega)] at hy
          rw [List.getElem?_set_ne (by omega)] at hH
          obtain ⟨ds, d1, d2, d3⟩ := hrows k y H hy hH
          refine ⟨ds, d1, fun j v hj => ?_, Ow_mono hS hSw (fun c hc => hR c (List.mem_flatten.2 ⟨H, List.mem_of_getElem? (by rw [List.getElem?_set_ne (by omega)]; exact hH : (Fs.set i [])[k]? = some H), hc⟩)) d3⟩
          have hjl := (List.getElem?_eq_some_iff.1 hj).1
          have hold := d2 j v hj
          simp only [World.cell?, hb, Option.isSome_none, Bool.false_eq_true, if_false] at hold
          simp only [World.cell?, hb', Option.isSome_none, Bool.false_eq_true, if_false]
          rw [hk, hold]
          rcases Nat.lt_or_gt_of_ne e with e | e
          · left
            have : (k + 1) * q.n ≤ i * q.n := Nat.mul_le_mul_right _ e
            rw [Nat.add_mul, Nat.one_mul] at this
            omega
          · right
            have : (i + 1) * q.n ≤ k * q.n := Nat.mul_le_mul_right _ e
            rw [Nat.add_mul, Nat.one_mul] at this
            omega
theorem Ow_place {w : World} {S : Nat → Prop} : ∀ {p : List Stp} {d : Nat} {r : Ty} {h : Value} {rows : List r.D} {F : List Nat} {q : Ty} {ys : List q.D}, Ow w S d (.sl r) [h] rows F → PathOk r rows p →
    getP r rows p = some ⟨q, ys⟩ → p.length < d → ∃ h' F1 F2, hdrAt w h p = some h' ∧ Ow w S (d - p.length) (.sl q) [h'] ys F1 ∧ F.Perm (F1 ++ F2) ∧
      ∀ (w' : World) (S' : Nat → Prop) (ys' : List q.D) (F1' : List Nat) (rows' : List r.D), (∀ c, S c → S' c) → (∀ c, S c → w'.heap[c]? = w.heap[c]?) → (∀ c ∈ F2, w'.heap[c]? = w.heap[c]?) →
        Ow w' S' (d - p.length) (.sl q) [h'] ys' F1' → setP r rows p q ys' = some rows' → ∃ F', F'.Perm (F1' ++ F2) ∧ Ow w' S' d (.sl r) [h] rows' F'
  | [], d, r, h, rows, F, q, ys, ho, _, hg, _ => by
    simp only [getP, Option.some.injEq, Sigma.mk.injEq] at hg
    obtain ⟨rfl, e⟩ := hg
    obtain rfl := eq_of_heq e
    refine ⟨h, F, [], hdrAt_here, ho, by simp, fun w' S' ys' F1' rows' _ _ _ ho' hs => ⟨F1', by simp, ?_⟩⟩
    simp only [setP, dite_true, castD_rfl, Option.some.injEq] at hs
    subst hs
    exact ho'
  | s :: p, d, r, h, rows, F, q, ys, ho, hp, hg, hd => by
    obtain ⟨d, rfl⟩ : ∃ n, d = n + 1 := ⟨d - 1, by simp at hd; omega⟩
    simp only [PathOk] at hp
    obtain ⟨hi, hsz, hp⟩ := hp
    simp only [getP] at hg
    obtain ⟨a, len, cap, rfl⟩ : ∃ a len cap, h = .slice a len cap := by
      have := ho
      simp only [Ow] at this
      obtain ⟨a, cap, e, _⟩ := this
      simp only [List.cons.injEq, and_true] at e
      exact ⟨_, _, _, e⟩
    split at hg
    case h_2 => cases hg
    rename_i q' x' hcg
    rw [hcg] at hp
    obtain ⟨b, o, arr, ty, fr, cs, G, R, rfl, hb, hu, hbd, c1, c2, c3, hperm, hback⟩ := Ow_row ho hi
    obtain ⟨v, A1, A2, k1, k2, k3, k4⟩ := Ow_cell c3 hcg
    obtain ⟨h', F1, F2, m1, m2, m3, m4⟩ := Ow_place k2 hp hg (by simp at hd; omega)
    have hsub : d + 1 - (s :: p).length = d - p.length := by simp
    refine ⟨h', F1, F2 ++ A2 ++ (b :: R), ?_, by rw [hsub]; exact m2, ?_, ?_⟩
    · simp only [hdrAt]
      rw [hsz, c2 _ _ k1]
      exact m1
    · refine hperm.trans ?_
      rw [List.append_assoc F2, ← List.append_assoc F1]
      refine (List.Perm.append_right _ k3).trans ?_
      rw [← List.append_assoc (F1 ++ F2)]
      exact List.Perm.append_right _ (List.Perm.append_right _ m3)
    · intro w' S' ys' F1' rows' hS hSw hF2 ho' hset
      rw [hsub] at ho'
      simp only [setP, hcg] at hset
      simp only [Option.bind_eq_some_iff, Option.map_eq_some_iff] at hset
      obtain ⟨x2, hx2, row', hrow, rfl⟩ := hset
      obtain ⟨B1, p1, p2⟩ := m4 w' S' ys' F1' x2 hS hSw (fun c hc => hF2 c (by simp [hc])) ho' hx2
      obtain ⟨B2, p3, p4⟩ := k4 w' S' v x2 B1 row' hS hSw (fun c hc => hF2 c (by simp [hc])) p2 hrow
      have hset_eq : cs.set s.j v = cs := by
        apply List.ext_getElem?
        intro k
        by_cases e : k = s.j
        · subst e
          rw [List.getElem?_set_self (List.getElem?_eq_some_iff.1 k1).1, k1]
        · rw [List.getElem?_set_ne (by omega)]
      rw [hset_eq] at p4
      have hbb := hF2 b (by simp)
      obtain ⟨F', p5, p6⟩ := hback w' S' arr cs row' B2 hS hSw (fun c hc => hF2 c (by simp [hc])) (hbb.trans hb) rfl (fun _ _ => rfl) c1 (c2.of_block hbb) p4
      refine ⟨F', ?_, p6⟩
      refine p5.trans ?_
      rw [List.append_assoc F2, ← List.append_assoc F1']
      refine (List.Perm.append_right _ p3).trans ?_
      rw [← List.append_assoc (F1' ++ F2)]
      exact List.Perm.append_right _ (List.Perm.append_right _ p1)
end Go.Fw
end

section
namespace Go.Fw
def OR (E : Env) (w : World) (vw : List Bx) : Option XV → Option Value → Prop
  | none, none => True
  | some x, some v => XR E w vw x v
  | _, _ => False
section
variable {Y : Type} {P : Program} {T : Tab} (hT : TabOk P T) {E : Env} {w : World} {vw : List Bx}
theorem run_sliceBound {κ : IntKind} {i : Int} {y : Nat} {code : BoundsCode} (h0 : 0 ≤ i) (h1 : i ≤ (y : Int)) : (Instr.sliceBound (.int κ i) y code).run P w = .ok i.toNat w := by
  simp [Instr.sliceBound, asIntOf, h0, h1]
theorem partBounds_sound {len cap : Nat} (hc : len ≤ cap) {lo hi : Option XV} {k : Nat → Nat → Option Y} {y : Y} (e : partBounds len lo hi k = some y) {lv hv : Option Value}
    (hl : OR E w vw lo lv) (hh : OR E w vw hi hv) (b : Bool) : ∃ l h, k l h = some y ∧ l ≤ h ∧ h ≤ len ∧ (Instr.sliceBounds b len cap lv hv none).run P w = .ok (l, h, cap) w := by
  unfold partBounds at e
  dsimp only at e
  split at e
  case h_2 => cases e
  rename_i l h el eh
  split at e
  case isFalse => cases e
  rename_i hb
  obtain ⟨b1, b2, b3⟩ := hb
  refine ⟨l.toNat, h.toNat, e, by omega, by omega, ?_⟩
  cases hi with
  | none => cases hv with
    | some _ => exact hh.elim
    | none =>
      simp only [Option.some.injEq] at eh
      subst eh
      cases lo with
      | none => cases lv with
        | some _ => exact hl.elim
        | none =>
          simp only [Option.some.injEq] at el
          subst el
          simp [Instr.sliceBounds]
      | some x => cases lv with
        | none => exact hl.elim
        | some v =>
          obtain ⟨κ, rfl⟩ := intOfX_sound (E := E) (w := w) (vw := vw) el hl
          simp [Instr.sliceBounds, run_sliceBound (P := P) (w := w) (κ := κ) (i := l) (y := len) b1 (by omega)]
  | some x => cases hv with
    | none => exact hh.elim
    | some v =>
      obtain ⟨κ, rfl⟩ := intOfX_sound (E := E) (w := w) (vw := vw) eh hh
      have e1 := fun code => run_sliceBound (P := P) (w := w) (κ := κ) (i := h) (y := cap) (code := code) (by omega) (by omega)
      cases lo with
      | none => cases lv with
        | some _ => exact hl.elim
        | none =>
          simp only [Option.some.injEq] at el
          subst el
          simp [Instr.sliceBounds, e1]
      | some x => cases lv with
        | none => exact hl.elim
        | some v =>
          obtain ⟨κ', rfl⟩ := intOfX_sound (E := E) (w := w) (vw := vw) el hl
          have e2 := fun code => run_sliceBound (P := P) (w := w) (κ := κ') (i := l) (y := h.toNat) (code := code) b1 (by omega)
          simp [Instr.sliceBounds, e1, e2]
theorem extract_bytes (s : List UInt8) (l h : Nat) : (⟨s.toArray⟩ : ByteArray).extract l h = ⟨((s.drop l).take (h - l)).toArray⟩ := by
  apply ByteArray.ext
  simp [List.extract_eq_take_drop]
include hT
theorem sliceX_sound {σ : St} {Fs : List (List Nat)} (hB : BoxesF E w σ.bx σ.bx Fs) (st : ∀ c, E.S c → E.T c) {t : Nat} {x : XV} {lo hi : Option XV} {k : K Y} {y : Y} (e : sliceX T t σ x lo hi k = some y)
    {v : Value} {lv hv : Option Value} (hx : XR E w σ.bx x v) (hl : OR E w σ.bx lo lv) (hh : OR E w σ.bx hi hv) :
    ∃ z val, k z σ = some y ∧ (Instr.sliceAt t v lv hv none).run P w = .ok val w ∧ XR E w σ.bx z val := by
  unfold sliceX at e
  split at e
  · rename_i s
    split at e
    case isFalse => cases e
    rename_i hst
    have hu := isStr_spec hT hst
    have hv' := VR_str (E := E) (w := w) (vw := σ.bx) hx
    subst hv'
    obtain ⟨l, h, ek, h1, h2, hr⟩ := partBounds_sound (P := P) (cap := s.length) (Nat.le_refl _) e hl hh false
    refine ⟨_, .string ⟨((s.drop l).take (h - l)).toArray⟩, ek, ?_, VR.str (E := E) (vw := σ.bx) _⟩
    have hs : (⟨s.toArray⟩ : ByteArray).size = s.length := by simp [ByteArray.size]
    simp [Instr.sliceAt, run_underlying' hu, Instr.slice, hs, hr, extract_bytes]
  · rename_i s r rows
    split at e
    case isFalse => cases e
    rename_i hel
    obtain ⟨el, ti, hu, hti, hs, _⟩ := elemIs_spec hT hel
    have hsz := TabOk.sizeOf hT hti w
    change VR E w σ.bx (.sl s r rows) v at hx
    have hx' := hx
    simp only [VR, Rd] at hx'
    obtain ⟨a, cap, hv', hle, _⟩ := hx'
    simp only [List.cons.injEq, and_true] at hv'
    subst hv'
    obtain ⟨l, h, ek, h1, h2, hr⟩ := partBounds_sound (P := P) hle e hl hh true
    refine ⟨_, cutHdr r.n l (h - l) a cap, ek, ?_, ?_⟩
    · simp [Instr.sliceAt, run_underlying' hu, Instr.slice, hr, hsz, hs, cutHdr]
    · simp only [XR, VR] at hx ⊢
      exact Rd_sub hx (by omega)
  · rename_i b p
    split at e
    case h_2 => cases e
    rename_i q hq
    split at e
    case isFalse => cases e
    rename_i hel
    obtain ⟨el, ti, hu, hti, hs, _⟩ := elemIs_spec hT hel
    have hsz := TabOk.sizeOf hT hti w
    change VR E w σ.bx (.ref b p) v at hx
    obtain ⟨a, cap, rfl, hle, _⟩ := ref_rd hB st hx hq
    obtain ⟨l, h, ek, h1, h2, hr⟩ := partBounds_sound (P := P) hle e hl hh true
    refine ⟨_, cutHdr q.1.n l (h - l) a cap, ek, ?_, ?_⟩
    · simp [Instr.sliceAt, run_underlying' hu, Instr.slice, hr, hsz, hs, cutHdr]
    · simp only [readSl] at hq
      obtain ⟨_, hx⟩ := hx
      refine ⟨by simp [cutHdr, isSlice], ?_⟩
      revert hx
      split
      · rename_i d r rows hbx
        rw [hbx] at hq
        dsimp only at hq
        rintro ⟨hp, hg, hh⟩
        exact ⟨hp, q.1, q.2, a, _, cap, hq, by omega, hh, rfl⟩
      · exact fun _ => trivial
      · exact fun h => h
  · cases e
omit hT in
theorem seqCells_get {f : Nat → Option AV} : ∀ {n j : Nat} {l : List AV}, seqCells f j n = some l → l.length = n ∧ ∀ (i : Nat) x, l[i]? = some x → f (j + i) = some x
  | 0, j, l, e => by simp only [seqCells, Option.some.injEq] at e; subst e; simp
  | n + 1, j, l, e => by
    simp only [seqCells, Option.bind_eq_some_iff, Option.map_eq_some_iff] at e
    obtain ⟨x, hx, l', hl, rfl⟩ := e
    obtain ⟨h1, h2⟩ := seqCells_get hl
    refine ⟨by simp [h1], fun i z hz => ?_⟩
    cases i with
    | zero => simp at hz; subst hz; exact hx
    | succ i =>
      have := h2 i z (by simpa using hz)
      rwa [show j + 1 + i = j + (i + 1) by omega] at this
omit hT in
theorem scalar_VR {B : Nat → Prop} {t : Ty} {x : t.D} {v : Value} (h : Rd w B t [v] x) (hs : t.scalar = true) : VR E w vw (.v t x) v := by
  refine ⟨hs, ?_⟩
  cases t <;> first
    | (simpa only [Rd] using h)
    | (simp [Ty.scalar] at hs)
omit hT in
theorem cellRo_VR {s : Bool} {t : Ty} {x : t.D} {v : Value} (h : Rd w (if s then E.S else E.T) t [v] x) : VR E w vw (cellRo s ⟨t, x⟩) v := by
  cases t with
  | sl r => simp only [cellRo, VR]; exact h
  | int k => exact scalar_VR h rfl
  | bool => exact scalar_VR h rfl
  | str => exact scalar_VR h rfl
  | unit => trivial
  | cons c r => trivial
omit hT in
theorem PathOk_snoc {s : Stp} : ∀ {p : List Stp} {r : Ty} {rows : List r.D} {q : Ty} {ys : List q.D} {t : Ty} {x : List t.D}, PathOk r rows p → getP r rows p = some ⟨q, ys⟩ → s.i < ys.length → s.sz = q.n →
    cellGet q s.j (rowAt q ys s.i) = some ⟨.sl t, x⟩ → PathOk r rows (p ++ [s]) ∧ getP r rows (p ++ [s]) = some ⟨t, x⟩
  | [], r, rows, q, ys, t, x, _, hg, hi, hs, hc => by
    simp only [getP, Option.some.injEq, Sigma.mk.injEq] at hg
    obtain ⟨rfl, e⟩ := hg
    obtain rfl := eq_of_heq e
    refine ⟨?_, ?_⟩
    · simp only [List.nil_append, PathOk, hc]
      exact ⟨hi, hs, trivial⟩
    · simp only [List.nil_append, getP, hc]
  | s' :: p, r, rows, q, ys, t, x, hp, hg, hi, hs, hc => by
    simp only [PathOk] at hp
    obtain ⟨h1, h2, hp⟩ := hp
    simp only [getP] at hg
    split at hg
    · rename_i q' x' hcg
      rw [hcg] at hp
      obtain ⟨a, b⟩ := PathOk_snoc hp hg hi hs hc
      refine ⟨?_, ?_⟩
      · simp only [List.cons_append, PathOk, hcg]
        exact ⟨h1, h2, a⟩
      · simp only [List.cons_append, getP, hcg]
        exact b
    · cases hg
omit hT in
theorem hdrAt_snoc {s : Stp} : ∀ {p : List Stp} {h : Value} {b o len cap : Nat} {v : Value}, hdrAt w h p = some (.slice (some ⟨b, o, none⟩) len cap) → w.cell? ⟨b, o + s.i * s.sz + s.j, none⟩ = some v →
    hdrAt w h (p ++ [s]) = some v
  | [], h, b, o, len, cap, v, e, hc => by
    rw [hdrAt_here] at e
    cases e
    simp [hdrAt, hc, hdrAt_here]
  | s' :: p, h, b, o, len, cap, v, e, hc => by
    cases h with
    | slice a l c =>
      cases a with
      | none => simp [hdrAt] at e
      | some a =>
        simp only [hdrAt] at e
        split at e
        · rename_i h' hh
          simp only [List.cons_append, hdrAt, hh]
          exact hdrAt_snoc e hc
        · cases e
    | _ => simp [hdrAt] at e
omit hT in
theorem cellAtAddr_sound {bx : List Bx} {Fs : List (List Nat)} (hB : BoxesF E w bx bx Fs) (st : ∀ c, E.S c → E.T c) {x z : AV} {i : Nat} (e : cellAtAddr bx x i = some z) {v : Value} (hx : VR E w bx x v) :
    ∃ b o u, v = .pointer (some ⟨b, o, none⟩) ∧ w.cell? ⟨b, o + i, none⟩ = some u ∧ VR E w bx z u := by
  cases x with
  | maddr b j =>
    simp only [cellAtAddr] at e
    split at e
    · rename_i cs hb
      obtain ⟨F, ⟨_, arr, ty, fr, ha, hu, hv⟩, _⟩ := hB.get hb
      obtain ⟨u, h1, h2⟩ := All2.get hv e
      refine ⟨_, _, u, hx.2, ?_, h2⟩
      simp only [World.cell?, ha, Option.isSome_none, Bool.false_eq_true, if_false]
      simpa using h1
    · cases e
  | saddr b p r sz j =>
    simp only [cellAtAddr] at e
    split at e
    · rename_i d q rows hb
      split at e
      case isFalse => cases e
      rename_i hd
      simp only [Option.bind_eq_some_iff] at e
      obtain ⟨⟨q', ys'⟩, hg, e⟩ := e
      split at e
      case isFalse => cases e
      rename_i hsz
      simp only [Option.map_eq_some_iff] at e
      obtain ⟨⟨t, y⟩, hc, rfl⟩ := e
      simp only [VR, hb] at hx
      obtain ⟨_, hp, q1, ys, bb, o, len, cap, g1, g2, g3, rfl⟩ := hx
      rw [hg] at g1
      simp only [Option.some.injEq, Sigma.mk.injEq] at g1
      obtain ⟨rfl, g1⟩ := g1
      obtain rfl := eq_of_heq g1
      dsimp only at hsz hc
      obtain ⟨F, ⟨hd1, ho⟩, hF⟩ := hB.get hb
      have hrd := place_rd (Within.refl bx) hB st hb hp hg g3
      have hrd' := hrd
      simp only [Rd] at hrd
      obtain ⟨a', cap', ee, hle, hrd⟩ := hrd
      simp only [List.cons.injEq, Value.slice.injEq, and_true] at ee
      obtain ⟨rfl, rfl, rfl⟩ := ee
      rcases hrd with hrd | ⟨b1, o1, e7, _, hrd⟩
      · omega
      · cases e7
        obtain ⟨cs, c1, c2, c3⟩ := hrd r _ (rowAt_get g2)
        obtain ⟨u, hu, hur⟩ := Rd_cell c3 hc
        have hcell := c2 _ _ hu
        rw [← hsz] at hcell
        refine ⟨_, _, u, rfl, by rw [Nat.add_assoc]; exact hcell, ?_⟩
        cases t with
        | sl t' =>
          simp only [cellOut]
          split
          · rename_i hdd
            obtain ⟨h', F1, F2, m1, m2, _, _⟩ := Ow_place ho hp hg hd
            rw [g3] at m1
            cases m1
            rw [show d - p.length = 0 + 1 by omega] at m2
            obtain ⟨b2, o2, arr, ty, fr, cs2, G, R, e2, _, _, _, _, k2, k3, _, _⟩ := Ow_row m2 g2
            cases e2
            obtain ⟨v2, A1, A2, z1, z2, _, _⟩ := Ow_cell k3 hc
            have hcell2 := k2 _ _ z1
            rw [← hsz, hcell] at hcell2
            cases hcell2
            simp only [Ow] at z2
            simp only [VR]
            exact z2.1
          · simp only [VR, hb]
            have := PathOk_snoc (s := ⟨r, sz, j + i⟩) hp hg g2 hsz hc
            simp only [Rd] at hur
            obtain ⟨a2, cap2, e2, _⟩ := hur
            simp only [List.cons.injEq, and_true] at e2
            refine ⟨by rw [e2]; rfl, this.1, ⟨_, this.2⟩, hdrAt_snoc g3 hcell⟩
        | int k => exact scalar_VR hur rfl
        | bool => exact scalar_VR hur rfl
        | str => exact scalar_VR hur rfl
        | unit => trivial
        | cons c r => trivial
    · cases e
  | raddr s r y j =>
    simp only [cellAtAddr, Option.map_eq_some_iff] at e
    obtain ⟨⟨t, y'⟩, hc, rfl⟩ := e
    obtain ⟨bb, o, cs, rfl, h2, h3, h4, h5⟩ := hx
    obtain ⟨u, hu, hur⟩ := Rd_cell h5 hc
    refine ⟨_, _, u, rfl, by rw [Nat.add_assoc]; exact h4 _ _ hu, cellRo_VR hur⟩
  | _ => simp [cellAtAddr] at e
omit hT in
theorem cellsAtAddr {bx : List Bx} {Fs : List (List Nat)} (hB : BoxesF E w bx bx Fs) (st : ∀ c, E.S c → E.T c) {x : AV} {v : Value} (hx : VR E w bx x v) {b o : Nat} (hv : v = .pointer (some ⟨b, o, none⟩)) :
    ∀ {l : List AV} {j : Nat}, (∀ (i : Nat) z, l[i]? = some z → cellAtAddr bx x (j + i) = some z) → ∃ cs : List Value, cs.length = l.length ∧ CellsAt w b (o + j) cs ∧ VRs E w bx l cs
  | [], _, _ => ⟨[], rfl, fun _ _ h => by simp at h, trivial⟩
  | z :: l, j, h => by
    obtain ⟨b', o', u, e1, e2, e3⟩ := cellAtAddr_sound hB st (h 0 z rfl) hx
    subst hv
    simp only [Value.pointer.injEq, Option.some.injEq, Addr.mk.injEq, and_true] at e1
    obtain ⟨rfl, rfl⟩ := e1
    obtain ⟨cs, c1, c2, c3⟩ := cellsAtAddr hB st hx rfl (l := l) (j := j + 1) (fun i y hy => by
      have := h (i + 1) y (by simpa using hy)
      rwa [show j + 1 + i = j + (i + 1) by omega])
    refine ⟨u :: cs, by simp [c1], fun i y hy => ?_, e3, c3⟩
    cases i with
    | zero => simp at hy; subst hy; exact e2
    | succ i =>
      have := c2 i y (by simpa using hy)
      rwa [show o + (j + 1) + i = o + j + (i + 1) by omega] at this
theorem loadX_sound {σ : St} {Fs : List (List Nat)} (hB : BoxesF E w σ.bx σ.bx Fs) (st : ∀ c, E.S c → E.T c) {t : Nat} {x z : XV} (e : loadX T t σ x = some z) {v : Value} (hx : XR E w σ.bx x v) :
    ∃ u, (Instr.loadAt t v).run P w = .ok u w ∧ XR E w σ.bx z u := by
  unfold loadX at e
  split at e
  case h_2 => cases e
  rename_i x ti hti
  split at e
  case isTrue => cases e
  rename_i hsz
  have hagg := TabOk.isAgg hT hti w
  split at e
  · rename_i ha
    rw [ha] at hagg
    simp only [Option.map_eq_some_iff] at e
    obtain ⟨l, hl, rfl⟩ := e
    obtain ⟨h1, h2⟩ := seqCells_get hl
    have h0 : 0 < l.length := by omega
    obtain ⟨b, o, u, hv, _, _⟩ := cellAtAddr_sound hB st (h2 0 _ (List.getElem?_eq_getElem h0)) hx
    obtain ⟨cs, c1, c2, c3⟩ := cellsAtAddr hB st hx hv (l := l) (j := 0) (fun i y hy => by simpa using h2 i y hy)
    subst hv
    have hund := (hT t ti hti).und
    cases hd : ti.desc with
    | st fs =>
      rw [hd] at hund
      obtain ⟨fields, hu, _⟩ := hund
      refine ⟨.agg cs.toArray, run_loadAt_mid w b o t cs _ (by simpa [CellsAt, World.rangeAt] using c2) hu rfl ?_, cs.toArray, rfl, by simpa using c3⟩
      rw [TabOk.size hT hti, c1, h1]
    | _ => rw [hd] at ha; simp [TD.agg] at ha
  · rename_i ha
    simp only [Bool.not_eq_true] at ha
    rw [ha] at hagg
    simp only [Option.map_eq_some_iff] at e
    obtain ⟨y, hy, rfl⟩ := e
    obtain ⟨b, o, u, hv, hc, hr⟩ := cellAtAddr_sound hB st hy hx
    subst hv
    refine ⟨u, ?_, hr⟩
    simp only [Nat.add_zero] at hc
    simp [Instr.loadAt, Instr.sureAddr, loadVar, hagg, hc]
end
end Go.Fw
end

section
namespace Go.Fw
theorem Ow_nil {w : World} {S : Nat → Prop} {d : Nat} {q : Ty} : Ow w S d (.sl q) [.slice none 0 0] [] [] := by
  cases d with
  | zero => simp only [Ow, Rd]; exact ⟨⟨none, 0, rfl, by simp, .inl rfl⟩, trivial⟩
  | succ d => simp only [Ow]; exact ⟨none, 0, rfl, by simp, .inl ⟨rfl, trivial⟩⟩
theorem Ow_sub {w : World} {S : Nat → Prop} {d : Nat} {r : Ty} {a : Option Addr} {len cap : Nat} {ys : List r.D} {F : List Nat} (h : Ow w S (d + 1) (.sl r) [.slice a len cap] ys F) {off n : Nat} (hn : off + n ≤ ys.length) :
    ∃ F1 F2, F.Perm (F1 ++ F2) ∧ Ow w S (d + 1) (.sl r) [cutHdr r.n off n a cap] ((ys.drop off).take n) F1 := by
  simp only [Ow] at h ⊢
  obtain ⟨a', cap', e, hc, h⟩ := h
  simp only [List.cons.injEq, Value.slice.injEq, and_true] at e
  obtain ⟨rfl, rfl, rfl⟩ := e
  have hl : ((ys.drop off).take n).length = n := by simp; omega
  by_cases h0 : cap = off
  · subst h0
    refine ⟨[], F, by simp, a, 0, by simp [cutHdr, hl], by rw [hl]; omega, .inl ⟨rfl, rfl⟩⟩
  · rcases h with ⟨h, rfl⟩ | ⟨b, o, arr, ty, fr, Fs, rfl, hb, hsz, hu, rfl, hFl, hr⟩
    · refine ⟨[], [], by simp, a.map (·.add (off * r.n)), cap - off, by simp [cutHdr, hl, h0], by rw [hl]; omega, .inl ⟨by omega, rfl⟩⟩
    · have p : Fs.flatten.Perm (((Fs.drop off).take n).flatten ++ ((Fs.take off).flatten ++ (Fs.drop (off + n)).flatten)) := by
        have e : Fs = Fs.take off ++ (((Fs.drop off).take n) ++ Fs.drop (off + n)) := by
          rw [← List.drop_drop, List.take_append_drop, List.take_append_drop]
        conv => lhs; rw [e]
        rw [List.flatten_append, List.flatten_append, ← List.append_assoc, ← List.append_assoc]
        exact List.Perm.append_right _ List.perm_append_comm
      refine ⟨b :: ((Fs.drop off).take n).flatten, (Fs.take off).flatten ++ (Fs.drop (off + n)).flatten, List.Perm.cons b p, some ⟨b, o + off * r.n, none⟩, cap - off, ?_, by rw [hl]; omega, .inr ⟨b, o + off * r.n, arr, ty, fr, _, rfl, hb, ?_, hu, rfl, ?_, ?_⟩⟩
      · simp [cutHdr, h0, hl, Addr.add_eq]
      · have : off * r.n + (cap - off) * r.n = cap * r.n := by rw [← Nat.add_mul]; congr 1; omega
        omega
      · rw [hl]; simp; omega
      · intro i y G hy hG
        have hi := (List.getElem?_eq_some_iff.1 hy).1
        rw [hl] at hi
        rw [List.getElem?_take_of_lt hi, List.getElem?_drop] at hy hG
        obtain ⟨cs, c1, c2, c3⟩ := hr (off + i) y G hy hG
        refine ⟨cs, c1, ?_, c3⟩
        rw [Nat.add_mul, ← Nat.add_assoc] at c2
        exact c2
theorem Le.keep {E E' : Env} (h : Le E E') {w : World} {vw : List Bx} (st : ∀ c, E.S c → E.T c) : Keep E w vw E' w vw :=
  ⟨Nat.le_refl _, fun b _ => by rw [h.blk], h.T, h.S, st, fun _ _ => rfl, fun b d r rows _ e => ⟨d, rows, e, fun p hp q ys hg => ⟨hp, ⟨ys, hg, rfl⟩, fun h' hh => by rw [h.hdr]; exact hh⟩⟩⟩
theorem Boxes.share {E : Env} {w : World} {vw bx : List Bx} {F W G : List Nat} (h : Boxes E w vw bx (F ++ W ++ G)) :
    let E' : Env := { E with S := fun c => E.S c ∨ c ∈ W, T := fun c => E.T c ∨ c ∈ W }
    Le E E' ∧ Boxes E' w vw bx (F ++ G) := by
  intro E'
  have st := h.st
  have hle : Le E E' := ⟨rfl, rfl, fun c hc => .inl hc, fun c hc => .inl hc, fun c hc => hc.elim .inl fun h' => .inr (.inr h'), fun c hc => hc.elim .inl fun h' => .inr (h.gfree c (by simp [h']))⟩
  refine ⟨hle, ?_⟩
  obtain ⟨Fs, ⟨h1, h2⟩, h3⟩ := h
  refine ⟨Fs, ⟨h1, fun k B F' hk hF => ?_⟩, ?_⟩
  · have := h2 k B F' hk hF
    cases B with
    | mem cs =>
      obtain ⟨rfl, arr, ty, fr, a1, a2, a3⟩ := this
      exact ⟨rfl, arr, ty, fr, a1, a2, a3.imp fun _ _ hv => VR_keep (hle.keep st) hv⟩
    | sl d r rows => exact ⟨this.1, Ow_mono hle.S (fun _ _ => rfl) (fun _ _ => rfl) this.2⟩
    | dead => exact this
  · have h4 : Sep E w (W ++ (Fs.flatten ++ (F ++ G))) := h3.perm (by
      rw [List.append_assoc F W G, ← List.append_assoc Fs.flatten, ← List.append_assoc (Fs.flatten ++ F), ← List.append_assoc Fs.flatten F G, ← List.append_assoc W]
      exact List.Perm.append_right _ List.perm_append_comm)
    refine ⟨(List.nodup_append.1 h4.nodup).2.1, fun c hc ht => ?_, fun c hc => h4.lt c (by simp only [List.mem_append]; exact .inr (by simpa using hc)), fun c hc => hc.imp (st c) id, fun c hc => hc.elim (h4.tlt c) fun h' => h4.lt c (by simp [h'])⟩
    rcases ht with ht | ht
    · exact h4.free c (List.mem_append.2 (.inr hc)) ht
    · exact (List.nodup_append.1 h4.nodup).2.2 c ht c hc rfl
structure Taken (E : Env) (w : World) (vw bx : List Bx) (G : List Nat) (E' : Env) (bx' : List Bx) (F : List Nat) : Prop where
  le : Le E E'
  len : bx'.length = bx.length
  within : ∀ (b : Nat) (B : Bx), bx'[b]? = some B → B = .dead ∨ bx[b]? = some B
  boxes : Boxes E' w vw bx' (F ++ G)
theorem Taken.refl {E : Env} {w : World} {vw bx : List Bx} {G : List Nat} (h : Boxes E w vw bx G) : Taken E w vw bx G E bx [] :=
  ⟨Le.refl E, rfl, fun _ _ h => .inr h, h⟩
theorem Within.of_taken {E E' : Env} {w : World} {vw bx bx' : List Bx} {G F : List Nat} (h : Within bx vw) (k : Taken E w vw bx G E' bx' F) : Within bx' vw := fun b B e =>
  (k.within b B e).elim .inl (h b B)
theorem Boxes.view_st {E : Env} {w : World} {vw bx : List Bx} {G : List Nat} (h : Boxes E w vw bx G) : ∀ c, E.S c → E.T c := h.st
theorem cellIn_sound {E : Env} {w : World} {vw bx : List Bx} {G : List Nat} (h : Boxes E w vw bx G) (hw : Within bx vw) {d : Nat} (hd : 1 ≤ d) {t : Ty} {x : AV} {v : Value} (hv : VR E w vw x v) {y : t.D} {bx' : List Bx} {d' : Nat}
    (e : cellIn d t x bx = some (y, bx', d')) : 1 ≤ d' ∧ d' ≤ d ∧ ∃ E' F, Taken E w vw bx G E' bx' F ∧ Ow w E'.S (d' - 1) t [v] y F := by
  unfold cellIn at e
  split at e
  · rename_i u z
    simp only [Option.map_eq_some_iff, Prod.mk.injEq] at e
    obtain ⟨z', e1, rfl, rfl, rfl⟩ := e
    obtain ⟨e2, e3⟩ := sameTy_eq e1
    subst e2; subst e3
    refine ⟨hd, Nat.le_refl _, E, [], Taken.refl h, ?_⟩
    obtain ⟨hs, hr⟩ := hv
    cases u <;> simp_all [Ty.scalar, Ow, Rd]
  · split at e
    · simp only [Option.some.injEq, Prod.mk.injEq] at e
      obtain ⟨rfl, rfl, rfl⟩ := e
      simp only [VR] at hv
      subst hv
      exact ⟨hd, Nat.le_refl _, E, [], Taken.refl h, Ow_nil⟩
    · cases e
  · rename_i r z
    split at e
    · rename_i q
      simp only [Option.map_eq_some_iff, Prod.mk.injEq] at e
      obtain ⟨z', e1, rfl, rfl, rfl⟩ := e
      obtain ⟨e2, e3⟩ := sameTy_eq e1
      subst e2; subst e3
      refine ⟨Nat.le_refl _, hd, E, [], Taken.refl h, ?_⟩
      simp only [VR] at hv
      simp only [Nat.sub_self, Ow]
      exact ⟨by simpa using hv, trivial⟩
    · cases e
  · rename_i b
    split at e
    case h_2 => cases e
    rename_i q
    split at e
    case h_2 => cases e
    rename_i db r z hb
    simp only [Option.map_eq_some_iff, Prod.mk.injEq] at e
    obtain ⟨z', e1, rfl, rfl, rfl⟩ := e
    obtain ⟨e2, e3⟩ := sameTy_eq e1
    subst e2; subst e3
    obtain ⟨F0, ⟨hd1, ho⟩, hB⟩ := h.take hb
    have hvv : v = E.hdr b := by
      simp only [VR, view_sl hw hb, hdrAt_here] at hv
      simpa using hv.2.2.2.symm
    subst hvv
    obtain ⟨F1, W, hp, ho'⟩ := Ow_weaken (d := min d (db + 1) - 1) (by omega) ho
    have hB' := hB.perm (List.Perm.append_right G hp)
    obtain ⟨hle, hB2⟩ := hB'.share
    refine ⟨by omega, Nat.min_le_left _ _, _, F1, ⟨hle, by simp, fun k B hk => ?_, hB2⟩, ho'⟩
    by_cases ek : k = b
    · subst ek
      rw [List.getElem?_set_self (List.getElem?_eq_some_iff.1 hb).1] at hk
      cases hk; exact .inl rfl
    · rw [List.getElem?_set_ne (by omega)] at hk; exact .inr hk
  · rename_i b off n
    split at e
    case h_2 => cases e
    rename_i q
    split at e
    case h_2 => cases e
    rename_i db r z hb
    simp only [Option.map_eq_some_iff, Prod.mk.injEq] at e
    obtain ⟨z', e1, rfl, rfl, rfl⟩ := e
    obtain ⟨e2, e3⟩ := sameTy_eq e1
    subst e2; subst e3
    obtain ⟨F0, ⟨hd1, ho⟩, hB⟩ := h.take hb
    simp only [VR, view_sl hw hb, hdrAt_here] at hv
    obtain ⟨_, _, q', ys, a, len, cap, hg, hn, hh, rfl⟩ := hv
    simp only [getP, Option.some.injEq, Sigma.mk.injEq] at hg
    obtain ⟨rfl, hg⟩ := hg
    obtain rfl := eq_of_heq hg
    simp only [Option.some.injEq] at hh
    rw [hh] at ho
    obtain ⟨db, rfl⟩ : ∃ m, db = m + 1 := ⟨db - 1, by omega⟩
    obtain ⟨A1, A2, hp0, ho0⟩ := Ow_sub ho hn
    obtain ⟨F1, W, hp, ho'⟩ := Ow_weaken (d := min d (db + 1 + 1) - 1) (by omega) ho0
    have hB1 : Boxes E w vw (bx.set b .dead) (A1 ++ G) := by
      refine Boxes.drop (G' := A2) (hB.perm ?_)
      refine (List.Perm.append_right G hp0).trans ?_
      rw [List.append_assoc, List.append_assoc]
      exact List.Perm.append_left _ List.perm_append_comm
    have hB' := hB1.perm (List.Perm.append_right G hp)
    obtain ⟨hle, hB2⟩ := hB'.share
    refine ⟨by omega, Nat.min_le_left _ _, _, F1, ⟨hle, by simp, fun k B hk => ?_, hB2⟩, ho'⟩
    by_cases ek : k = b
    · subst ek
      rw [List.getElem?_set_self (List.getElem?_eq_some_iff.1 hb).1] at hk
      cases hk; exact .inl rfl
    · rw [List.getElem?_set_ne (by omega)] at hk; exact .inr hk
  · cases e
theorem cellsIn_sound {w : World} {vw : List Bx} : ∀ {r : Ty} {E : Env} {bx : List Bx} {G : List Nat} {d : Nat} {l : List AV} {vs : List Value} {y : r.D} {bx' : List Bx} {d' : Nat}, Boxes E w vw bx G → Within bx vw → 1 ≤ d →
    VRs E w vw l vs → cellsIn d r l bx = some (y, bx', d') → 1 ≤ d' ∧ d' ≤ d ∧ ∃ E' F, Taken E w vw bx G E' bx' F ∧ Ow w E'.S (d' - 1) r vs y F
  | .unit, E, bx, G, d, [], [], y, bx', d', h, hw, hd, _, e => by
    simp only [cellsIn, Option.some.injEq, Prod.mk.injEq] at e
    obtain ⟨_, rfl, rfl⟩ := e
    exact ⟨hd, Nat.le_refl _, E, [], Taken.refl h, by simp only [Ow]; exact ⟨trivial, trivial⟩⟩
  | .cons c r, E, bx, G, d, x :: l, v :: vs, y, bx', d', h, hw, hd, hv, e => by
    simp only [cellsIn, Option.bind_eq_some_iff, Option.map_eq_some_iff, Prod.mk.injEq] at e
    obtain ⟨⟨y1, bx1, d1⟩, e1, ⟨y2, bx2, d2⟩, e2, rfl, rfl, rfl⟩ := e
    dsimp only at e2 ⊢
    obtain ⟨a1, a2, E1, F1, k1, o1⟩ := cellIn_sound h hw hd hv.1 e1
    have keep1 := k1.le.keep (w := w) (vw := vw) h.st
    obtain ⟨b1, b2, E2, F2, k2, o2⟩ := cellsIn_sound (G := F1 ++ G) k1.boxes (hw.of_taken k1) a1 (hv.2.imp fun _ _ h => VR_keep keep1 h) e2
    obtain ⟨A, W, hp, o1'⟩ := Ow_weaken (d := d' - 1) (by omega) o1
    have hB := k2.boxes.perm (G' := (F2 ++ A) ++ W ++ G) (by
      rw [List.append_assoc F2 A W, List.append_assoc F2]
      exact List.Perm.append_left _ (List.Perm.append_right _ hp))
    obtain ⟨hle, hB2⟩ := hB.share
    refine ⟨b1, Nat.le_trans b2 a2, _, A ++ F2, ⟨(k1.le.trans k2.le).trans hle, k2.len.trans k1.len, fun b B hb => (k2.within b B hb).elim .inl (k1.within b B), hB2.perm (List.Perm.append_right _ List.perm_append_comm)⟩, ?_⟩
    simp only [Ow]
    refine ⟨v, vs, A, F2, rfl, rfl, ?_, ?_⟩
    · refine Ow_mono (S := fun b => E1.S b ∨ b ∈ W) ?_ (fun _ _ => rfl) (fun _ _ => rfl) o1'
      intro c hc
      exact hc.elim (fun h => .inl (k2.le.S c h)) .inr
    · refine Ow_mono (S := E2.S) ?_ (fun _ _ => rfl) (fun _ _ => rfl) o2
      intro c hc
      exact .inl hc
  | .unit, _, _, _, _, _ :: _, _, _, _, _, _, _, _, _, e => by simp [cellsIn] at e
  | .unit, _, _, _, _, [], _ :: _, _, _, _, _, _, _, hv, _ => hv.elim
  | .cons _ _, _, _, _, _, [], _, _, _, _, _, _, _, _, e => by simp [cellsIn] at e
  | .cons _ _, _, _, _, _, _ :: _, [], _, _, _, _, _, _, hv, _ => hv.elim
  | .int _, _, _, _, _, _, _, _, _, _, _, _, _, _, e => by simp [cellsIn] at e
  | .bool, _, _, _, _, _, _, _, _, _, _, _, _, _, e => by simp [cellsIn] at e
  | .str, _, _, _, _, _, _, _, _, _, _, _, _, _, e => by simp [cellsIn] at e
  | .sl _, _, _, _, _, _, _, _, _, _, _, _, _, _, e => by simp [cellsIn] at e
theorem VR_one {E : Env} {w : World} {vw : List Bx} {x : AV} {v : Value} (h : VR E w vw x v) (hk : x.known = true) : v.oneCell' = true ∧ v.cells = #[v] := by
  have aux : ∀ {v : Value}, isSlice v = true → v.oneCell' = true ∧ v.cells = #[v] := by intro v h; cases v <;> simp_all [isSlice, Value.oneCell', Value.cells]
  have auxp : ∀ {v : Value}, isPtr v = true → v.oneCell' = true ∧ v.cells = #[v] := by intro v h; cases v <;> simp_all [isPtr, Value.oneCell', Value.cells]
  cases x with
  | v t y =>
    obtain ⟨hs, hr⟩ := h
    cases t <;> simp [Ty.scalar] at hs <;> simp only [Rd, List.cons.injEq, and_true] at hr <;> subst hr <;> exact ⟨rfl, rfl⟩
  | sl s r y =>
    simp only [VR, Rd] at h
    obtain ⟨a, cap, h, _⟩ := h
    simp only [List.cons.injEq, and_true] at h
    subst h
    exact ⟨rfl, rfl⟩
  | nil => simp only [VR] at h; subst h; exact ⟨rfl, rfl⟩
  | ref b p => exact aux h.1
  | win b p off n => exact aux h.1
  | maddr b j => rw [h.2]; exact ⟨rfl, rfl⟩
  | saddr b p i sz j => exact auxp h.1
  | raddr s r y j => obtain ⟨bb, o, cs, rfl, _⟩ := h; exact ⟨rfl, rfl⟩
  | fn f caps => rw [h.2]; exact ⟨rfl, rfl⟩
  | rfn f rows => obtain ⟨ps, rfl, _⟩ := h; exact ⟨rfl, rfl⟩
  | nilp => simp only [VR] at h; subst h; exact ⟨rfl, rfl⟩
  | undef => simp [AV.known] at hk
theorem VRs_one {E : Env} {w : World} {vw : List Bx} : ∀ {l : List AV} {vs : List Value}, VRs E w vw l vs → l.all AV.known = true → ∀ v ∈ vs, v.oneCell' = true
  | [], [], _, _ => by simp
  | x :: l, v :: vs, h, hk => by
    simp only [List.all_cons, Bool.and_eq_true] at hk
    intro u hu
    rcases List.mem_cons.1 hu with rfl | hu
    · exact (VR_one h.1 hk.1).1
    · exact VRs_one h.2 hk.2 u hu
theorem XR_cells {E : Env} {w : World} {vw : List Bx} {x : XV} {v : Value} (h : XR E w vw x v) (hk : x.cells.all AV.known = true) (hn : x.cells ≠ []) : VRs E w vw x.cells v.cells.toList ∧ ∀ u ∈ v.cells.toList, u.oneCell' = true := by
  cases x with
  | c x =>
    have h' : VR E w vw x v := h
    obtain ⟨h1, h2⟩ := VR_one h' (by simpa [XV.cells] using hk)
    rw [h2]
    exact ⟨⟨h', trivial⟩, by simpa using h1⟩
  | agg l =>
    obtain ⟨vs, rfl, hvs⟩ := h
    exact ⟨hvs, VRs_one hvs hk⟩
  | tup l => simp [XV.cells] at hn
theorem rowIn_sound {w : World} {vw : List Bx} {r : Ty} {E : Env} {bx : List Bx} {G : List Nat} {d : Nat} {x : XV} {v : Value} {y : r.D} {bx' : List Bx} {d' : Nat} (h : Boxes E w vw bx G) (hw : Within bx vw) (hd : 1 ≤ d)
    (hv : XR E w vw x v) (e : rowIn d r x bx = some (y, bx', d')) : 1 ≤ d' ∧ d' ≤ d ∧ ∃ E' F, Taken E w vw bx G E' bx' F ∧ Ow w E'.S (d' - 1) r v.cells.toList y F := by
  unfold rowIn at e
  split at e
  · rename_i l
    obtain ⟨vs, rfl, hvs⟩ := hv
    exact cellsIn_sound h hw hd hvs e
  · rename_i x
    have hv' : VR E w vw x v := hv
    have hk : x.known = true := by cases x <;> simp_all [AV.known, cellIn]
    rw [(VR_one hv' hk).2]
    exact cellIn_sound h hw hd hv' e
  · cases e
end Go.Fw
end

section
namespace Go.Fw
def Env.withHdr (E : Env) (n : Nat) (h : Value) : Env := { E with hdr := fun k => if k = n then h else E.hdr k }
def Env.withBlk (E : Env) (n b : Nat) : Env := { E with blk := fun k => if k = n then b else E.blk k }
theorem keep_taken {E E1 E' : Env} {w w' : World} {vw bx1 bx' : List Bx} {F : List Nat} (k : Taken E w vw vw [] E1 bx1 F) (st : ∀ c, E.S c → E.T c) (hlen : vw.length ≤ bx'.length)
    (hbx : ∀ b B, b < vw.length → bx'[b]? = some B → bx1[b]? = some B) (hblk : ∀ b, b < vw.length → E'.blk b = E1.blk b) (hhdr : ∀ b, b < vw.length → E'.hdr b = E1.hdr b) (hT : E'.T = E1.T) (hS : E'.S = E1.S)
    (hw : ∀ c, c < w.heap.size → c ∉ F → w'.heap[c]? = w.heap[c]?) : Keep E w vw E' w' bx' := by
  have hB := k.boxes
  obtain ⟨Fs, ⟨h1, h2⟩, h3⟩ := hB
  simp only [List.append_nil] at h3
  have hT' : ∀ c, E1.T c → w'.heap[c]? = w.heap[c]? := fun c hc => hw c (h3.tlt c hc) fun hf => h3.free c (by simp [hf]) hc
  refine ⟨hlen, fun b hb => by rw [hblk b hb, k.le.blk], fun c hc => by rw [hT]; exact k.le.T c hc, fun c hc => by rw [hS]; exact k.le.S c hc, st, fun c hc => hT' c (k.le.T c hc), fun b d r rows hb e => ?_⟩
  have e1 := hbx b _ hb e
  rcases k.within b _ e1 with e2 | e2
  · cases e2
  · refine ⟨d, rows, e2, fun p hp q ys hg => ⟨hp, ⟨ys, hg, rfl⟩, fun h' hh => ?_⟩⟩
    have hF : Fs[b]? = some (Fs[b]'(by have := (List.getElem?_eq_some_iff.1 e1).1; omega)) := List.getElem?_eq_getElem _
    obtain ⟨hd, ho⟩ := h2 b _ _ e1 hF
    rw [hhdr b hb]
    rw [← k.le.hdr] at hh
    refine Ow_hdr ho (fun c hc => hT' c (h3.st c hc)) (fun c hc => ?_) hp hg hh
    have hin : c ∈ Fs.flatten := List.mem_flatten.2 ⟨_, List.mem_of_getElem? hF, hc⟩
    exact hw c (h3.lt c (by simp [hin])) fun hf => (List.nodup_append.1 h3.nodup).2.2 c hin c hf rfl
structure Grown (w w' : World) : Prop where
  os : w'.os = w.os
  tape : w'.tape = w.tape
  output : w'.output = w.output
  size : w.heap.size ≤ w'.heap.size
theorem finish_sl {E E1 : Env} {σ : St} {a : Act} {w w' : World} {bx1 : List Bx} {F F' : List Nat} (h : Rel E σ a w) (k : Taken E w σ.bx σ.bx [] E1 bx1 F) {v : Value} {d : Nat} {r : Ty} {rows : List r.D} (hd : 1 ≤ d)
    (ho : Ow w' E1.S d (.sl r) [v] rows F') (hF' : ∀ c ∈ F', c ∈ F ∨ w.heap.size ≤ c) (nd : F'.Nodup) (hlt : ∀ c ∈ F', c < w'.heap.size) (hw : ∀ c, c < w.heap.size → c ∉ F → w'.heap[c]? = w.heap[c]?) (g : Grown w w') :
    let E' := E1.withHdr bx1.length v
    Rel E' { σ with bx := bx1 ++ [.sl d r rows] } a w' ∧ Went [] E σ.bx w E' (bx1 ++ [.sl d r rows]) w' ∧ XR E' w' (bx1 ++ [.sl d r rows]) (.c (.ref bx1.length [])) v := by
  intro E'
  have st := h.bx.st
  have hn := k.len
  have keep : Keep E w σ.bx E' w' (bx1 ++ [.sl d r rows]) := keep_taken k st (by simp [hn]) (fun b B hb e => by
      rw [List.getElem?_append_left (by omega)] at e; exact e) (fun b _ => rfl) (fun b hb => by simp [E', Env.withHdr]; intro e; omega) rfl rfl hw
  have keep1 : Keep E1 w σ.bx E' w' (bx1 ++ [.sl d r rows]) := by
    have k' : Taken E1 w σ.bx σ.bx [] E1 bx1 F := ⟨Le.refl _, k.len, k.within, k.boxes⟩
    exact keep_taken k' k.boxes.st (by simp [hn]) (fun b B hb e => by
      rw [List.getElem?_append_left (by omega)] at e; exact e) (fun b _ => rfl) (fun b hb => by simp [E', Env.withHdr]; intro e; omega) rfl rfl hw
  obtain ⟨Fs, ⟨h1, h2⟩, h3⟩ := k.boxes
  simp only [List.append_nil] at h3
  have hT' : ∀ c, E1.T c → w'.heap[c]? = w.heap[c]? := fun c hc => hw c (h3.tlt c hc) fun hf => h3.free c (by simp [hf]) hc
  have hF0 : ∀ c ∈ Fs.flatten, w'.heap[c]? = w.heap[c]? := fun c hc => hw c (h3.lt c (by simp [hc])) fun hf => (List.nodup_append.1 h3.nodup).2.2 c hc c hf rfl
  refine ⟨⟨h.nodefer, h.tm.imp fun _ _ hx => XR_keep keep hx, ?_⟩, ?_, ?_⟩
  · refine ⟨Fs ++ [F'], ⟨by simp [h1], fun n B G hB hG => ?_⟩, ?_⟩
    · by_cases hnl : n < bx1.length
      · rw [List.getElem?_append_left hnl] at hB
        rw [List.getElem?_append_left (by omega)] at hG
        have := h2 n B G hB hG
        have hGw : ∀ c ∈ G, w'.heap[c]? = w.heap[c]? := fun c hc => hF0 c (List.mem_flatten.2 ⟨G, List.mem_of_getElem? hG, hc⟩)
        cases B with
        | mem cs =>
          obtain ⟨rfl, arr, ty, fr, a1, a2, a3⟩ := this
          exact ⟨rfl, arr, ty, fr, (hGw (E1.blk n) (by simp)).trans a1, a2, a3.imp fun _ _ hv => VR_keep keep1 hv⟩
        | sl d0 r0 rows0 =>
          refine ⟨this.1, ?_⟩
          have e0 : E'.hdr n = E1.hdr n := by simp [E', Env.withHdr]; intro e; omega
          rw [e0]
          exact Ow_mono (fun _ hc => hc) (fun c hc => hT' c (h3.st c hc)) hGw this.2
        | dead => exact this
      · have hnn := (List.getElem?_eq_some_iff.1 hB).1
        simp at hnn
        obtain rfl : n = bx1.length := by omega
        rw [List.getElem?_append_right (by omega)] at hB hG
        simp [h1] at hB hG
        subst hB hG
        refine ⟨hd, ?_⟩
        have e0 : E'.hdr bx1.length = v := by simp [E', Env.withHdr]
        rw [e0]
        exact ho
    · simp only [List.flatten_append, List.flatten_cons, List.flatten_nil, List.append_nil]
      have nd0 := List.nodup_append.1 h3.nodup
      refine ⟨List.nodup_append.2 ⟨nd0.1, nd, fun x hx y hy e => ?_⟩, fun c hc ht => ?_, fun c hc => ?_, h3.st, fun c hc => Nat.lt_of_lt_of_le (h3.tlt c hc) g.size⟩
      · subst e
        rcases hF' x hy with h | h
        · exact nd0.2.2 x hx x h rfl
        · have := h3.lt x (by simp [hx]); omega
      · rcases List.mem_append.1 hc with hc | hc
        · exact h3.free c (by simp [hc]) ht
        · rcases hF' c hc with h | h
          · exact h3.free c (by simp [h]) ht
          · have := h3.tlt c ht; omega
      · rcases List.mem_append.1 hc with hc | hc
        · exact Nat.lt_of_lt_of_le (h3.lt c (by simp [hc])) g.size
        · exact hlt c hc
  · refine ⟨⟨k.le.T, k.le.S, k.le.Tof, k.le.Sof, fun c hc => hT' c (k.le.T c hc), g.os, g.tape, g.output, g.size⟩, by simp [hn], fun b hb => ⟨by show E1.blk b = _; rw [k.le.blk], ?_⟩, fun b hb => ?_, fun n B B' _ hB hB' hnd => ?_⟩
    · have : E'.hdr b = E1.hdr b := by simp [E', Env.withHdr]; intro e; omega
      rw [this, k.le.hdr]
    · have hbl := (List.getElem?_eq_some_iff.1 hb).1
      rw [List.getElem?_append_left (by omega)]
      obtain ⟨B, hB⟩ : ∃ B, bx1[b]? = some B := ⟨_, List.getElem?_eq_getElem (by omega)⟩
      rcases k.within b B hB with e | e
      · rw [hB, e]
      · rw [hb] at e; rw [hB]; exact e.symm
    · have hnl := (List.getElem?_eq_some_iff.1 hB).1
      rw [List.getElem?_append_left (by omega)] at hB'
      rcases k.within n B' hB' with e | e
      · exact absurd e hnd
      rw [hB] at e; cases e
      refine ⟨SameBx.refl hnd, fun c hc => ?_⟩
      have hF : Fs[n]? = some (Fs[n]'(by have := (List.getElem?_eq_some_iff.1 hB').1; omega)) := List.getElem?_eq_getElem _
      have hR := h2 n B _ hB' hF
      have hc' : BRB E1 w n B c := by
        cases B with
        | mem cs => simp only [BRB] at hc ⊢; rw [k.le.blk]; exact hc
        | sl d r rows => simp only [BRB] at hc ⊢; rw [k.le.hdr]; exact hc
        | dead => exact hc
      rcases BRB_sub hR hc' with hs | hs
      · exact hT' c (h3.st c hs)
      · exact hF0 c (List.mem_flatten.2 ⟨_, List.mem_of_getElem? hF, hs⟩)
  · have e0 : E'.hdr bx1.length = v := by simp [E', Env.withHdr]
    refine ⟨?_, ?_⟩
    · have := Ow_rd ho
      simp only [Rd] at this
      obtain ⟨_, _, e, _⟩ := this
      simp only [List.cons.injEq, and_true] at e
      rw [e]; rfl
    · have : (bx1 ++ [Bx.sl d r rows])[bx1.length]? = some (.sl d r rows) := by simp
      rw [this]
      exact ⟨by simp [PathOk], ⟨_, rfl⟩, by rw [e0, hdrAt_here]⟩
theorem finish_mem {E : Env} {σ : St} {a : Act} {w : World} (h : Rel E σ a w) {cs : List AV} {arr : Array Value} (ty : TypeId) (hv : VRs E w σ.bx cs arr.toList) :
    let E' := E.withBlk σ.bx.length w.heap.size
    let w' := w.alloc (.cells arr ty)
    Rel E' (σ.new (.mem cs)) a w' ∧ Went [] E σ.bx w E' (σ.new (.mem cs)).bx w' ∧ XR E' w' (σ.new (.mem cs)).bx (.c (.maddr σ.bx.length 0)) (.pointer (some ⟨w.heap.size, 0, none⟩)) := by
  intro E' w'
  have st := h.bx.st
  have hw : ∀ c, c < w.heap.size → c ∉ ([] : List Nat) → w'.heap[c]? = w.heap[c]? := fun c hc _ => by
    show (w.heap.push (.cells arr ty))[c]? = _
    rw [Array.getElem?_push, if_neg (by omega)]
  have hB0 := h.bx
  have keep : Keep E w σ.bx E' w' (σ.bx ++ [.mem cs]) := keep_taken (Taken.refl hB0) st (by simp) (fun b B hb e => by
      rw [List.getElem?_append_left (by omega)] at e; exact e) (fun b hb => by simp [E', Env.withBlk]; intro e; omega) (fun b _ => rfl) rfl rfl hw
  obtain ⟨Fs, ⟨h1, h2⟩, h3⟩ := h.bx
  simp only [List.append_nil] at h3
  have new : w'.heap[w.heap.size]? = some (.cells arr ty) := by
    show (w.heap.push (.cells arr ty))[w.heap.size]? = _
    simp
  refine ⟨⟨h.nodefer, h.tm.imp fun _ _ hx => XR_keep keep hx, ?_⟩, ?_, ?_⟩
  · refine ⟨Fs ++ [[w.heap.size]], ⟨by simp [St.new, h1], fun n B G hB hG => ?_⟩, ?_⟩
    · simp only [St.new] at hB
      by_cases hnl : n < σ.bx.length
      · rw [List.getElem?_append_left hnl] at hB
        rw [List.getElem?_append_left (by omega)] at hG
        have := h2 n B G hB hG
        have hGw : ∀ c ∈ G, w'.heap[c]? = w.heap[c]? := fun c hc => hw c (h3.lt c (by simp; exact ⟨G, List.mem_of_getElem? hG, hc⟩)) (by simp)
        have eb : E'.blk n = E.blk n := by simp [E', Env.withBlk]; intro e; omega
        cases B with
        | mem cs0 =>
          obtain ⟨rfl, arr0, ty0, fr, a1, a2, a3⟩ := this
          refine ⟨by rw [eb], arr0, ty0, fr, ?_, a2, a3.imp fun _ _ hv => VR_keep keep hv⟩
          rw [eb]
          exact (hGw (E.blk n) (by simp)).trans a1
        | sl d0 r0 rows0 => exact ⟨this.1, Ow_mono (fun _ hc => hc) (fun c hc => hw c (h3.tlt c (st c hc)) (by simp)) hGw this.2⟩
        | dead => exact this
      · have hnn := (List.getElem?_eq_some_iff.1 hB).1
        simp at hnn
        obtain rfl : n = σ.bx.length := by omega
        rw [List.getElem?_append_right (by omega)] at hB hG
        simp [h1] at hB hG
        subst hB hG
        have eb : E'.blk σ.bx.length = w.heap.size := by simp [E', Env.withBlk]
        refine ⟨by rw [eb], arr, ty, (0, 0), by rw [eb]; exact new, fun i _ h => by omega, hv.imp fun _ _ hv => VR_keep keep hv⟩
    · simp only [List.flatten_append, List.flatten_cons, List.flatten_nil, List.append_nil]
      refine ⟨List.nodup_append.2 ⟨h3.nodup, by simp, fun x hx y hy e => ?_⟩, fun c hc ht => ?_, fun c hc => ?_, h3.st, fun c hc => ?_⟩
      · subst e
        simp at hy
        have := h3.lt x hx; omega
      · rcases List.mem_append.1 hc with hc | hc
        · exact h3.free c hc ht
        · simp at hc; have := h3.tlt c ht; omega
      · rcases List.mem_append.1 hc with hc | hc
        · have := h3.lt c hc; simp [w']; omega
        · simp at hc; simp [w']; omega
      · have := h3.tlt c hc; simp [w']; omega
  · refine ⟨⟨fun _ h => h, fun _ h => h, fun _ h => .inl h, fun _ h => .inl h, fun c hc => hw c (h3.tlt c hc) (by simp), rfl, rfl, rfl, by simp [w']⟩, by simp [St.new], fun b hb => ⟨?_, rfl⟩, fun b hb => ?_, fun n B B' _ hB hB' hnd => ?_⟩
    · simp [E', Env.withBlk]; intro e; omega
    · have hbl := (List.getElem?_eq_some_iff.1 hb).1
      simp only [St.new]
      rw [List.getElem?_append_left hbl]; exact hb
    · have hnl := (List.getElem?_eq_some_iff.1 hB).1
      simp only [St.new] at hB'
      rw [List.getElem?_append_left hnl, hB] at hB'
      cases hB'
      refine ⟨SameBx.refl hnd, fun c hc => ?_⟩
      have hF : Fs[n]? = some (Fs[n]'(by omega)) := List.getElem?_eq_getElem _
      rcases BRB_sub (h2 n B _ hB hF) hc with hs | hs
      · exact hw c (h3.tlt c (st c hs)) (by simp)
      · exact hw c (h3.lt c (List.mem_flatten.2 ⟨_, List.mem_of_getElem? hF, hs⟩)) (by simp)
  · refine ⟨by simp [St.new], ?_⟩
    simp [E', Env.withBlk]
end Go.Fw
end

section
namespace Go.Fw
theorem zvRow_len : ∀ r : Ty, (zvRow r).length = r.n
  | .cons c r => by simp [zvRow, Ty.n, zvRow_len r]
  | .unit => rfl
  | .int _ => rfl
  | .bool => rfl
  | .str => rfl
  | .sl _ => rfl
theorem zeroAV_VR {E : Env} {w : World} {vw : List Bx} (t : Ty) : VR E w vw (zeroAV t) (zv t) := by
  cases t <;> first
    | exact VR.int _ _
    | exact VR.bool _
    | exact VR.str _
    | rfl
    | trivial
theorem zeroRow_VRs {E : Env} {w : World} {vw : List Bx} : ∀ r : Ty, VRs E w vw (zeroRow r) (zvRow r)
  | .cons c r => ⟨zeroAV_VR c, zeroRow_VRs r⟩
  | .unit => trivial
  | .int k => ⟨zeroAV_VR (.int k), trivial⟩
  | .bool => ⟨zeroAV_VR .bool, trivial⟩
  | .str => ⟨zeroAV_VR .str, trivial⟩
  | .sl r => ⟨zeroAV_VR (.sl r), trivial⟩
theorem Ow_zero {w : World} {S : Nat → Prop} {d : Nat} : ∀ {r : Ty}, r.good = true → Ow w S d r (zvRow r) r.z []
  | .cons c r, h => by
    simp only [Ty.good, Bool.and_eq_true] at h
    simp only [Ow, zvRow]
    refine ⟨_, _, [], [], rfl, rfl, ?_, Ow_zero h.2⟩
    cases c with
    | sl q => exact Ow_nil
    | int k => simp [Ow, zv, Ty.z]
    | bool => simp [Ow, zv, Ty.z]
    | str => simp [Ow, zv, Ty.z]
    | unit => simp [Ty.cell] at h
    | cons _ _ => simp [Ty.cell] at h
  | .unit, _ => by simp [Ow, zvRow]
  | .int k, _ => by simp [Ow, zvRow, zv, Ty.z]
  | .bool, _ => by simp [Ow, zvRow, zv, Ty.z]
  | .str, _ => by simp [Ow, zvRow, zv, Ty.z]
  | .sl q, _ => Ow_nil
theorem flatten_get {n : Nat} : ∀ {css : List (List Value)} {ex : List Value} {i j : Nat} {cs : List Value}, (∀ c ∈ css, c.length = n) → css[i]? = some cs → j < n → (css.flatten ++ ex)[i * n + j]? = cs[j]?
  | [], _, _, _, _, _, h, _ => by simp at h
  | c :: css, ex, 0, j, cs, hl, h, hj => by
    simp at h; subst h
    have := hl c (by simp)
    simp only [List.flatten_cons, List.append_assoc, Nat.zero_mul, Nat.zero_add]
    rw [List.getElem?_append_left (by omega)]
  | c :: css, ex, i + 1, j, cs, hl, h, hj => by
    have hc := hl c (by simp)
    have ih := flatten_get (css := css) (ex := ex) (i := i) (j := j) (cs := cs) (fun c' hc' => hl c' (List.mem_cons_of_mem _ hc')) (by simpa using h) hj
    simp only [List.flatten_cons, List.append_assoc]
    rw [List.getElem?_append_right (by rw [Nat.add_mul]; omega), ← ih]
    congr 1
    rw [Nat.add_mul, hc]; omega
theorem cellsAt_flatten {w : World} {b : Nat} {arr : Array Value} {ty : TypeId} {fr : Nat × Nat} (hb : w.heap[b]? = some (.cells arr ty fr)) {n : Nat} {css : List (List Value)} {ex : List Value} (ha : arr.toList = css.flatten ++ ex)
    (hl : ∀ c ∈ css, c.length = n) {i : Nat} {cs : List Value} (h : css[i]? = some cs) : CellsAt w b (i * n) cs := by
  intro j v hj
  have hjn : j < n := by
    have := (List.getElem?_eq_some_iff.1 hj).1
    rw [hl cs (List.mem_of_getElem? h)] at this
    exact this
  simp only [World.cell?, hb, Option.isSome_none, Bool.false_eq_true, if_false]
  rw [← Array.getElem?_toList, ha, flatten_get hl h hjn, hj]
theorem Ow_block {w : World} {S : Nat → Prop} {d b cap : Nat} {r : Ty} {rows : List r.D} {arr : Array Value} {ty : TypeId} {fr : Nat × Nat} (hb : w.heap[b]? = some (.cells arr ty fr)) {css : List (List Value)} {ex : List Value}
    (ha : arr.toList = css.flatten ++ ex) (hc : css.length = rows.length) (hcap : rows.length ≤ cap) (hsz : cap * r.n ≤ arr.size) (hu : Unfr fr arr.size) {Fs : List (List Nat)} (hF : Fs.length = rows.length)
    (hrows : ∀ (i : Nat) cs y G, css[i]? = some cs → rows[i]? = some y → Fs[i]? = some G → Ow w S d r cs y G) :
    Ow w S (d + 1) (.sl r) [.slice (some ⟨b, 0, none⟩) rows.length cap] rows (b :: Fs.flatten) := by
  have hl : ∀ c ∈ css, c.length = r.n := by
    intro c hc'
    obtain ⟨i, hi, rfl⟩ := List.getElem_of_mem hc'
    exact Ow_len (hrows i _ _ _ (List.getElem?_eq_getElem hi) (List.getElem?_eq_getElem (by omega)) (List.getElem?_eq_getElem (by omega)))
  simp only [Ow]
  refine ⟨_, cap, rfl, hcap, .inr ⟨b, 0, arr, ty, fr, Fs, rfl, hb, by omega, hu, rfl, hF, fun i y G hy hG => ?_⟩⟩
  have hi : i < css.length := by
    have := (List.getElem?_eq_some_iff.1 hy).1
    omega
  refine ⟨css[i], hl _ (List.getElem_mem hi), ?_, hrows i _ y G (List.getElem?_eq_getElem hi) hy hG⟩
  rw [Nat.zero_add]
  exact cellsAt_flatten hb ha hl (List.getElem?_eq_getElem hi)
theorem Unfr_none (n : Nat) : Unfr (0, 0) n := fun i _ h => by omega
theorem heap_push_old {w : World} {o : Obj} {c : Nat} (h : c < w.heap.size) : (w.heap.push o)[c]? = w.heap[c]? := by
  rw [Array.getElem?_push, if_neg (by omega)]
section
variable {Y : Type} {P : Program} {T : Tab} (hT : TabOk P T) {o : Oper} {E : Env} {σ : St} {a : Act} {w : World} {k : K Y} {y : Y}
theorem box_done (h : Rel E σ a w) {t : TypeId} {x : Operand} (ho : o.op = .box t x) (hk : (σ.ev x).cells.all AV.known = true) (hn : (σ.ev x).cells ≠ []) (e : k (.c (.maddr σ.bx.length 0)) (σ.new (.mem (σ.ev x).cells)) = some y) :
    OpDone P o E σ a w k y := by
  obtain ⟨h1, h2⟩ := XR_cells (h.ev x) hk hn
  obtain ⟨r1, r2, r3⟩ := finish_mem h t h1
  refine ⟨_, _, _, _, _, .inl ?_, r1, r3, r2.any, rfl, e⟩
  simp only [execOp, ho, Instr.box, newVar, newRow, Sem.run_bind, run_newObj, Result.andThen_ok, Sem.run_pure]
  rfl
include hT
theorem row_zero {t : Nat} {r : Ty} (e : T.rowTy t = some r) : ∃ i z, P.info? t = some i ∧ i.zero = some z ∧ z.cells.toList = zvRow r ∧ r.good = true := by
  unfold Tab.rowTy at e
  split at e
  · rename_i ti hti
    obtain ⟨i, h1, _, _, h2⟩ := (hT t ti hti).info
    obtain ⟨hg, z, h3, h4⟩ := h2 r e
    exact ⟨i, z, h1, h3, h4, hg⟩
  · cases e
theorem alloc_done (h : Rel E σ a w) {t : TypeId} (ho : o.op = .alloc t) {r : Ty} (hr : T.rowTy t = some r) (e : k (.c (.maddr σ.bx.length 0)) (σ.new (.mem (zeroRow r))) = some y) : OpDone P o E σ a w k y := by
  obtain ⟨i, z, h1, h2, h3, _⟩ := row_zero hT hr
  obtain ⟨r1, r2, r3⟩ := finish_mem (arr := z.cells) h t (by rw [h3]; exact zeroRow_VRs r)
  refine ⟨_, _, _, _, _, .inl ?_, r1, r3, r2.any, rfl, e⟩
  simp only [execOp, ho, Instr.alloc, zeroValue, typeInfo, newVar, newRow, Sem.run_bind, run_program, Result.andThen_ok, h1, h2, run_newObj, Sem.run_pure]
  rfl
end
end Go.Fw
end

section
namespace Go.Fw
def setsFrom (arr : Array Value) : Nat → List Value → Array Value
  | _, [] => arr
  | o, c :: l => setsFrom (arr.setIfInBounds o c) (o + 1) l
theorem setsFrom_size : ∀ (l : List Value) (o : Nat) (arr : Array Value), (setsFrom arr o l).size = arr.size
  | [], _, _ => rfl
  | c :: l, o, arr => by simp [setsFrom, setsFrom_size l]
theorem foldl_sets (off : Nat) : ∀ (l : List Value) (k : Nat) (arr : Array Value), (l.zipIdx k).foldl (fun cs (q : Value × Nat) => cs.setIfInBounds (off + q.2) q.1) arr = setsFrom arr (off + k) l
  | [], _, _ => rfl
  | c :: l, k, arr => by
    simp only [List.zipIdx_cons, List.foldl_cons, setsFrom]
    rw [foldl_sets off l (k + 1)]
    rfl
theorem storeMem_sound {E : Env} {w : World} {vw : List Bx} : ∀ {xs : List AV} {vs : List Value} {cs cs' : List AV} {arr : Array Value} {o : Nat}, VRs E w vw cs arr.toList → VRs E w vw xs vs → storeMem cs o xs = some cs' →
    VRs E w vw cs' (setsFrom arr o vs).toList ∧ o + xs.length ≤ cs.length ∨ (xs = [] ∧ cs' = cs)
  | [], [], cs, cs', arr, o, h, _, e => by simp only [storeMem, Option.some.injEq] at e; exact .inr ⟨rfl, e.symm⟩
  | x :: xs, v :: vs, cs, cs', arr, o, h, hx, e => by
    simp only [storeMem] at e
    split at e
    case isFalse => cases e
    rename_i ho
    have h1 : VRs E w vw (cs.set o x) (arr.setIfInBounds o v).toList := by
      rw [Array.toList_setIfInBounds]
      exact All2.set h hx.1
    rcases storeMem_sound h1 hx.2 e with ⟨h2, h3⟩ | ⟨rfl, rfl⟩
    · refine .inl ⟨h2, ?_⟩
      simp at h3 ⊢; omega
    · cases vs with
      | nil => exact .inl ⟨h1, by simp; omega⟩
      | cons _ _ => exact hx.2.elim
  | [], _ :: _, _, _, _, _, _, hx, _ => hx.elim
  | _ :: _, [], _, _, _, _, _, hx, _ => hx.elim
section
variable {Y : Type} {P : Program} {T : Tab} (hT : TabOk P T) {o : Oper} {E : Env} {σ : St} {a : Act} {w : World} {k : K Y} {y : Y}
def PartsR (E : Env) (w : World) (vw : List Bx) (l : List (Nat × XV)) (m : List (Nat × Value)) : Prop := All2 (fun x v => x.1 = v.1 ∧ XR E w vw x.2 v.2) l m
theorem parts_ev (h : Rel E σ a w) (ps : Array (Nat × Operand)) : PartsR E w σ.bx (ps.toList.map fun q => (q.1, σ.ev q.2)) (ps.map fun (i, x) => (i, a.eval x)).toList := by
  rw [Array.toList_map]
  generalize ps.toList = l
  induction l with
  | nil => trivial
  | cons q l ih => exact ⟨⟨rfl, h.ev q.2⟩, ih⟩
theorem fill_step {place : Nat → Option (Nat × Nat)} {i off size : Nat} (hp : place i = some (off, size)) {cells : Array Value} {v : Value} {rest : List (Nat × Value)} (h1 : v.cells.size = size) (h2 : off + v.cells.size ≤ cells.size) :
    Instr.fill place cells ((i, v) :: rest) = Instr.fill place (setsFrom cells off v.cells.toList) rest := by
  have e : v.cells.zipIdx.foldl (fun cs (q : Value × Nat) => cs.setIfInBounds (off + q.2) q.1) cells = setsFrom cells off v.cells.toList := by
    rw [← Array.foldl_toList]
    have : (v.cells.zipIdx).toList = v.cells.toList.zipIdx := by simp
    rw [this]
    exact foldl_sets off v.cells.toList 0 cells
  conv => lhs; unfold Instr.fill
  simp only [hp]
  rw [if_neg (by simp; omega)]
  exact congrArg (fun c => Instr.fill place c rest) e
theorem mapM_all {α β : Type} {f : α → Option β} {g : α → β} : ∀ {l : List α}, (∀ x ∈ l, f x = some (g x)) → l.mapM f = some (l.map g)
  | [], _ => rfl
  | x :: l, h => by
    simp only [List.mapM_cons, h x (by simp), mapM_all (l := l) (g := g) (fun y hy => h y (by simp [hy]))]
    rfl
include hT
theorem buildX_sound {fs : List (Nat × Nat)} {vw : List Bx} : ∀ {parts : List (Nat × XV)} {vals : List (Nat × Value)} {cs cs' : List AV} {arr : Array Value}, PartsR E w vw parts vals → VRs E w vw cs arr.toList → buildX T fs cs parts = some cs' →
    ∃ arr' : Array Value, Instr.fill (fun i => (fs[i]?).bind fun q => ((P.info? q.2).map fun i => (q.1, i.size))) arr vals = some arr' ∧ VRs E w vw cs' arr'.toList
  | [], [], cs, cs', arr, _, h, e => by
    simp only [buildX, Option.some.injEq] at e
    subst e
    exact ⟨arr, rfl, h⟩
  | (i, x) :: ps, (j, v) :: vs, cs, cs', arr, hp, h, e => by
    obtain ⟨⟨hij, hx⟩, hp⟩ := hp
    simp only at hij hx
    subst hij
    simp only [buildX] at e
    split at e
    case h_2 => cases e
    rename_i off u hf
    split at e
    case h_2 => cases e
    rename_i ti hti
    split at e
    case isFalse => cases e
    rename_i hc
    obtain ⟨c1, c2, c3⟩ := hc
    simp only [Option.bind_eq_some_iff] at e
    obtain ⟨cs1, e1, e2⟩ := e
    have hne : x.cells ≠ [] := by intro h0; rw [h0] at c1; simp at c1; omega
    obtain ⟨x1, x2⟩ := XR_cells hx c3 hne
    rcases storeMem_sound h x1 e1 with ⟨s1, s2⟩ | ⟨s1, _⟩
    · have hsz : v.cells.size = ti.size := by
        have := x1.len
        rw [← c1, this]; simp
      have hlen := h.len
      obtain ⟨arr', f1, f2⟩ := buildX_sound hp s1 e2
      refine ⟨arr', ?_, f2⟩
      have hplace : (fun i => (fs[i]?).bind fun q => ((P.info? q.2).map fun i => (q.1, i.size))) i = some (off, ti.size) := by
        have := TabOk.size hT hti
        cases hq : P.info? u with
        | none => simp [hq] at this
        | some iu => simp [hq] at this; simp [hf, hq, this]
      rw [fill_step (i := i) (off := off) (size := ti.size) hplace hsz (by simp at hlen; omega)]
      exact f1
    · exact absurd s1 hne
  | [], _ :: _, _, _, _, hp, _, _ => hp.elim
  | _ :: _, [], _, _, _, hp, _, _ => hp.elim
theorem build_done (h : Rel E σ a w) {t : TypeId} {ps : Array (Nat × Operand)} (ho : o.op = .build t ps) {s b : Nat} {fs : List (Nat × Nat)} {rw : Option Ty} (hti : T.get t = some ⟨s, b, .st fs, rw⟩) {r : Ty} (hr : T.rowTy t = some r)
    {cs : List AV} (hb : buildX T fs (zeroRow r) (ps.toList.map fun q => (q.1, σ.ev q.2)) = some cs) (e : k (.agg cs) σ = some y) : OpDone P o E σ a w k y := by
  obtain ⟨i, z, h1, h2, h3, _⟩ := row_zero hT hr
  obtain ⟨fields, hu, hfs, hsz⟩ := stOf hT hti
  obtain ⟨arr', f1, f2⟩ := buildX_sound hT (parts_ev h ps) (arr := z.cells) (by rw [h3]; exact zeroRow_VRs r) hb
  refine OpDone.same h (v := .agg arr') (x := .agg cs) ?_ ⟨arr', rfl, f2⟩ e
  have hb : P.built t (ps.map fun (i, x) => (i, a.eval x)).toList = some arr' := by
    unfold Program.built
    simp only [h1, hu, h2]
    have hm : fields.toList.mapM (fun f => (P.info? f.type).map fun i => (f.offset, i.size)) = some (fields.toList.map fun f => (f.offset, ((P.info? f.type).map (·.size)).getD 0)) := by
      refine mapM_all fun f hf => ?_
      obtain ⟨i', hi', _⟩ := hsz f hf
      simp [hi']
    simp only [hm]
    rw [← f1]
    congr 1
    funext n
    subst hfs
    simp only [List.getElem?_toArray, List.getElem?_map]
    cases hn : fields.toList[n]? with
    | none => simp
    | some f =>
      obtain ⟨i', hi', _⟩ := hsz f (List.mem_of_getElem? hn)
      simp [hi']
  have := run_build (P := P) w t (ps.map fun (i, x) => (i, a.eval x)) arr' hb
  simp only [execOp, ho, Sem.run_bind, this, Result.andThen_ok, Sem.run_pure]
end
end Go.Fw
end

section
namespace Go.Fw
theorem wrap_small {n : Int} (h0 : 0 ≤ n) (h1 : n ≤ (LIM : Int)) : IntKind.i64.wrap n = n := by
  simp only [LIM] at h1
  unfold IntKind.wrap
  simp only [IntKind.bits, IntKind.signed]
  have e : n % (2 ^ 64 : Int) = n := Int.emod_eq_of_lt h0 (by omega)
  simp only [e]
  rw [if_neg (by simp; omega)]
theorem flatten_replicate_len {m : Nat} {zl : List Value} : ((List.replicate m zl).flatten).length = m * zl.length := by
  induction m with
  | zero => simp
  | succ m ih => simp only [List.replicate_succ, List.flatten_cons, List.length_append, ih, Nat.succ_mul]; omega
theorem flatten_replicate_get {zl : List Value} : ∀ {m i : Nat}, i < m * zl.length → ((List.replicate m zl).flatten)[i]? = zl[i % zl.length]?
  | 0, i, h => by simp at h
  | m + 1, i, h => by
    simp only [List.replicate_succ, List.flatten_cons]
    by_cases hi : i < zl.length
    · rw [List.getElem?_append_left hi, Nat.mod_eq_of_lt hi]
    · have hi' : zl.length ≤ i := by omega
      rw [List.getElem?_append_right hi', flatten_replicate_get (by rw [Nat.succ_mul] at h; omega), ← Nat.mod_eq_sub_mod hi']
theorem zeros_toList {zero : Array Value} {zl : List Value} (hz : zero.toList = zl) (m : Nat) (h0 : zl ≠ []) : ((Array.range (m * zl.length)).map (fun i => zero[i % zero.size]!)).toList = (List.replicate m zl).flatten := by
  have hs : zero.size = zl.length := by rw [← hz]; simp
  have hpos : 0 < zl.length := List.length_pos_iff.2 h0
  apply List.ext_getElem?
  intro i
  by_cases hi : i < m * zl.length
  · rw [flatten_replicate_get hi]
    have hmod : i % zl.length < zl.length := Nat.mod_lt _ hpos
    simp only [Array.toList_map, Array.toList_range, List.getElem?_map, List.getElem?_range hi, Option.map_some, hs]
    rw [List.getElem?_eq_getElem hmod]
    congr 1
    subst hz
    have hm' : i % zero.size < zero.size := by rw [hs]; exact hmod
    simp [hm', ← hs]
  · have h1 : ((Array.range (m * zl.length)).map (fun i => zero[i % zero.size]!)).toList.length ≤ i := by simp; omega
    rw [List.getElem?_eq_none h1, List.getElem?_eq_none (by rw [flatten_replicate_len]; omega)]
section
variable {Y : Type} {P : Program} {T : Tab} (hT : TabOk P T) {o : Oper} {E : Env} {σ : St} {a : Act} {w : World} {k : K Y} {y : Y}
include hT
theorem elem_zero {e : Nat} {ti : TI} {r : Ty} (he : T.get e = some ti) (hr : ti.row = some r) : ∃ i z, P.info? e = some i ∧ i.size = ti.size ∧ i.bytes = ti.bytes ∧ i.zero = some z ∧ z.cells.toList = zvRow r ∧ r.good = true := by
  obtain ⟨i, h1, h2, h3, h4⟩ := (hT e ti he).info
  obtain ⟨hg, z, h5, h6⟩ := h4 r hr
  exact ⟨i, z, h1, h2, h3, h5, h6, hg⟩
theorem make_done (h : Rel E σ a w) {t : TypeId} {l c : Operand} (ho : o.op = .makeSlice t l c) (e : makeX T t σ (σ.ev l) (σ.ev c) k = some y) : OpDone P o E σ a w k y := by
  unfold makeX at e
  split at e
  case h_2 => cases e
  rename_i el n m hd hl hc
  split at e
  case h_2 => cases e
  rename_i r hr
  split at e
  case isFalse => cases e
  rename_i hel
  split at e
  case isFalse => cases e
  rename_i hb
  obtain ⟨b0, b1, b2⟩ := hb
  obtain ⟨el', ti, hu, hti, hs, hby, hrow⟩ := elemIs_spec hT hel
  obtain ⟨i, z, i1, i2, i3, i4, i5, hg⟩ := elem_zero hT hti hrow
  obtain ⟨κ1, e1⟩ := intOfX_sound hl (h.ev l)
  obtain ⟨κ2, e2⟩ := intOfX_sound hc (h.ev c)
  have w1 := wrap_small b0 (by omega)
  have w2 := wrap_small (n := m) (by omega) b2
  let arr : Array Value := (Array.range (m.toNat * r.n)).map (fun j => (if m.toNat * r.n = 0 then #[] else z.cells)[j % (if m.toNat * r.n = 0 then (#[] : Array Value) else z.cells).size]!)
  have harr : arr.toList = (List.replicate n.toNat (zvRow r)).flatten ++ (List.replicate (m.toNat - n.toNat) (zvRow r)).flatten := by
    have hz := zvRow_len r
    have split : (List.replicate n.toNat (zvRow r)).flatten ++ (List.replicate (m.toNat - n.toNat) (zvRow r)).flatten = (List.replicate m.toNat (zvRow r)).flatten := by
      rw [← List.flatten_append, List.replicate_append_replicate]
      congr 2; omega
    rw [split]
    by_cases h0 : m.toNat * r.n = 0
    · have : arr.toList = [] := by simp [arr, h0]
      rw [this]
      symm
      rw [← List.length_eq_zero_iff, flatten_replicate_len, hz, h0]
    · have hne : zvRow r ≠ [] := by
        intro he
        rw [he] at hz
        simp at hz
        rw [← hz] at h0
        simp at h0
      have := zeros_toList i5 m.toNat hne
      rw [hz] at this
      simp only [arr, if_neg h0]
      exact this
  let w' := w.alloc (.cells arr el')
  have new : w'.heap[w.heap.size]? = some (.cells arr el') := by
    show (w.heap.push (.cells arr el'))[w.heap.size]? = _
    simp
  have hsize : arr.size = m.toNat * r.n := by simp [arr]
  have how : Ow w' E.S (8 + 1) (.sl r) [.slice (some ⟨w.heap.size, 0, none⟩) (List.replicate n.toNat r.z).length m.toNat] (List.replicate n.toNat r.z) (w.heap.size :: (List.replicate n.toNat ([] : List Nat)).flatten) := by
    refine Ow_block new harr (by simp) (by simp; omega) (by omega) (Unfr_none _) (by simp) fun i cs y G h1 h2 h3 => ?_
    simp only [List.getElem?_replicate] at h1 h2 h3
    split at h1
    · rename_i hi
      rw [if_pos hi] at h2 h3
      cases h1; cases h2; cases h3
      exact Ow_zero hg
    · cases h1
  have hF : (List.replicate n.toNat ([] : List Nat)).flatten = [] := by simp
  rw [hF] at how
  simp only [List.length_replicate] at how
  obtain ⟨r1, r2, r3⟩ := finish_sl h (Taken.refl h.bx) (w' := w') (d := 9) (by omega) how (by simp) (by simp) (by simp [w']) (fun c hc _ => heap_push_old hc) ⟨rfl, rfl, rfl, by simp [w']⟩
  refine ⟨_, _, _, _, _, .inl ?_, r1, r3, r2.any, rfl, e⟩
  have hbytes : (i.bytes : Int) * m ≤ 2 ^ 48 := by
    have h1 : (i.bytes : Int) ≤ 512 := by omega
    have h2 : (i.bytes : Int) * m ≤ 512 * m := Int.mul_le_mul_of_nonneg_right h1 (by omega)
    simp only [LIM] at b2
    omega
  simp only [execOp, ho, Instr.makeSlice, e1, e2, Sem.run_bind, run_underlying' hu, Result.andThen_ok, asInt, asIntOf, Sem.run_pure, typeInfo, run_program, i1, w1, w2]
  rw [if_neg (by simp; omega)]
  by_cases h0 : m.toNat * r.n = 0
  · have e3 : arr = (Array.range (m.toNat * r.n)).map (fun j => (#[] : Array Value)[j % (#[] : Array Value).size]!) := by simp only [arr, if_pos h0]
    simp only [Sem.run_bind, run_askRoom, Result.andThen_ok, sizeOf, typeInfo, run_program, i1, Sem.run_pure, i2, hs, h0, if_true, newRow, run_newObj]
    simp only [w', e3, h0]
    rfl
  · have e3 : arr = (Array.range (m.toNat * r.n)).map (fun j => z.cells[j % z.cells.size]!) := by simp only [arr, if_neg h0]
    simp only [Sem.run_bind, run_askRoom, Result.andThen_ok, sizeOf, typeInfo, run_program, i1, Sem.run_pure, i2, hs, h0, if_false, newRow, run_newObj, zeroValue, i4]
    simp only [w', e3]
    rfl
end
end Go.Fw
end

section
namespace Go.Fw
theorem Ow_flat {w : World} {B S : Nat → Prop} {d : Nat} : ∀ {r : Ty} {cs : List Value} {x : r.D}, r.flat = true → Rd w B r cs x → Ow w S d r cs x []
  | .cons c r, cs, x, h, hr => by
    simp only [Ty.flat, Bool.and_eq_true] at h
    simp only [Rd] at hr
    obtain ⟨v, l, rfl, h1, h2⟩ := hr
    simp only [Ow]
    exact ⟨v, l, [], [], rfl, rfl, Ow_flat h.1 h1, Ow_flat h.2 h2⟩
  | .unit, _, _, _, hr => by simp only [Rd] at hr; simp [Ow, hr]
  | .int k, _, _, _, hr => by simp only [Rd] at hr; simp [Ow, hr]
  | .bool, _, _, _, hr => by simp only [Rd] at hr; simp [Ow, hr]
  | .str, _, _, _, hr => by simp only [Rd] at hr; simp [Ow, hr]
  | .sl q, _, _, h, _ => by simp [Ty.flat] at h
theorem run_loadCells_at {P : Program} {w : World} {b o : Nat} {cs : List Value} (h : CellsAt w b o cs) : (loadCells ⟨b, o, none⟩ cs.length).run P w = .ok cs.toArray w :=
  run_loadCells_list (P := P) w ⟨b, o, none⟩ cs fun j v hv => by rw [Addr.add_eq]; exact h j v hv
theorem run_loadCells_zero {P : Program} {w : World} (a : Addr) : (loadCells a 0).run P w = .ok #[] w := by
  simpa using run_loadCells_list (P := P) w a [] (by simp)
theorem flatten_single {l : List Value} : (l.map fun v => [v]).flatten = l := by
  induction l with
  | nil => rfl
  | cons a l ih => simp [ih]
theorem Rd_cells {w : World} {B : Nat → Prop} {r : Ty} {b o : Nat} {ys : List r.D} (h : ∀ (i : Nat) (y : r.D), ys[i]? = some y → ∃ cs, cs.length = r.n ∧ CellsAt w b (o + i * r.n) cs ∧ Rd w B r cs y) :
    ∃ css : List (List Value), css.length = ys.length ∧ (∀ c ∈ css, c.length = r.n) ∧ CellsAt w b o css.flatten ∧ ∀ (i : Nat) cs y, css[i]? = some cs → ys[i]? = some y → Rd w B r cs y := by
  induction ys generalizing o with
  | nil => exact ⟨[], rfl, by simp, fun _ _ h => by simp at h, fun i cs y h => by simp at h⟩
  | cons y ys ih =>
    obtain ⟨cs, c1, c2, c3⟩ := h 0 y rfl
    obtain ⟨css, d1, d2, d3, d4⟩ := ih (o := o + r.n) (fun i z hz => by
      obtain ⟨cs, e1, e2, e3⟩ := h (i + 1) z (by simpa using hz)
      refine ⟨cs, e1, ?_, e3⟩
      rw [Nat.add_mul, Nat.one_mul] at e2
      rwa [show o + r.n + i * r.n = o + (i * r.n + r.n) by omega])
    refine ⟨cs :: css, by simp [d1], by simpa using ⟨c1, d2⟩, ?_, ?_⟩
    · intro j v hj
      simp only [List.flatten_cons] at hj
      by_cases hjl : j < cs.length
      · rw [List.getElem?_append_left hjl] at hj
        have := c2 j v hj
        simpa using this
      · rw [List.getElem?_append_right (by omega)] at hj
        have := d3 _ v hj
        rwa [show o + r.n + (j - cs.length) = o + j by omega] at this
    · intro i cs' z h1 h2
      cases i with
      | zero => simp at h1 h2; subst h1 h2; exact c3
      | succ i => exact d4 i cs' z (by simpa using h1) (by simpa using h2)
theorem CellsAt.append {w : World} {b o : Nat} {l m : List Value} (h : CellsAt w b o l) (k : CellsAt w b (o + l.length) m) : CellsAt w b o (l ++ m) := by
  intro j v hj
  by_cases hjl : j < l.length
  · rw [List.getElem?_append_left hjl] at hj
    exact h j v hj
  · rw [List.getElem?_append_right (by omega)] at hj
    have := k _ v hj
    rwa [show o + l.length + (j - l.length) = o + j by omega] at this
section
variable {Y : Type} {P : Program} {T : Tab} (hT : TabOk P T) {o : Oper} {E : Env} {σ : St} {a : Act} {w : World} {k : K Y} {y : Y}
theorem und_of_desc (hT : TabOk P T) {t : Nat} {d : TD} (e : (T.get t).map TI.desc = some d) : TDok P t d := by
  simp only [Option.map_eq_some_iff] at e
  obtain ⟨ti, h1, rfl⟩ := e
  exact (hT t ti h1).und
theorem run_conv_bytes {src dst e : Nat} (hs : P.underlying src = some (.slice e)) (he : P.underlying e = some (.int .u8)) (hd : P.underlying dst = some .string) {x : Value} {l : List Int} {B : Nat → Prop}
    (h : Rd w B (.sl (.int .u8)) [x] l) : (convert src dst x).run P w = .ok (.string ⟨(l.map fun n : Int => UInt8.ofNat n.toNat).toArray⟩) w := by
  simp only [Rd] at h
  obtain ⟨a, cap, hx, hle, h⟩ := h
  simp only [List.cons.injEq, and_true] at hx
  subst hx
  rcases h with h | ⟨b, o, rfl, _, h⟩
  · obtain rfl := List.eq_nil_of_length_eq_zero h
    cases a with
    | none => exact run_convert_bytes_nil w src e hs he _ _ dst hd
    | some a =>
      rw [run_convert_bytes_string w src dst e _ _ cap hs he hd]
      have := _root_.Go.run_bytesToString (P := P) w a 0 cap [] (by simpa using run_loadCells_zero (P := P) (w := w) a)
      simp only [List.length_nil] at *
      rw [this]; rfl
  · refine run_convert_bytes_arg w src e hs he b o _ cap l rfl (fun i hi => ?_) dst hd
    obtain ⟨cs, c1, c2, c3⟩ := h i _ (List.getElem?_eq_getElem hi)
    subst c3
    have := c2 0 _ rfl
    simp only [Ty.n, Nat.mul_one, Nat.add_zero] at this
    rw [this]
    simp [List.getD, hi]
include hT in
theorem conv_done (h : Rel E σ a w) {src dst : Nat} {x : Operand} (ho : o.op = .convert src dst x) (e : convX T src dst σ (σ.ev x) k = some y) : OpDone P o E σ a w k y := by
  have hx := h.ev x
  unfold convX at e
  split at e
  · rename_i κ0 κ j n hs hd hv
    have h1 := und_of_desc hT hs
    have h2 := und_of_desc hT hd
    rw [hv] at hx
    have hv' := VR_int (E := E) (w := w) (vw := σ.bx) hx
    refine OpDone.same h (v := .int κ (κ.wrap n)) (x := .c (.v (.int κ) (κ.wrap n))) ?_ (VR.int (E := E) (vw := σ.bx) _ _) e
    simp only [TDok] at h1 h2
    simp only [execOp, ho, hv', convert, Sem.run_bind, run_underlying' h1, run_underlying' h2, Result.andThen_ok, Conv.intToInt, Sem.run_pure]
  · rename_i s hs hd hv
    have h1 := und_of_desc hT hs
    have h2 := und_of_desc hT hd
    rw [hv] at hx
    have hv' := VR_str (E := E) (w := w) (vw := σ.bx) hx
    refine OpDone.same h (v := .string ⟨s.toArray⟩) (x := .c (.v .str s)) ?_ (VR.str (E := E) (vw := σ.bx) _) e
    simp only [TDok] at h1 h2
    simp only [execOp, ho, hv', convert, Sem.run_bind, run_underlying' h1, run_underlying' h2, Result.andThen_ok, Sem.run_pure]
  · rename_i el s hs hd hv
    have h1 := und_of_desc hT hs
    have h2 := und_of_desc hT hd
    rw [hv] at hx
    have hv' := VR_str (E := E) (w := w) (vw := σ.bx) hx
    split at e
    case h_2 => cases e
    rename_i hel
    have h3 := und_of_desc hT hel
    split at e
    case isFalse => cases e
    rename_i hlim
    simp only [TDok] at h1 h2 h3
    let S0 : ByteArray := ⟨s.toArray⟩
    have hsz : S0.size = s.length := by simp [S0, ByteArray.size]
    have hrun := Lib.run_convert_string_bytes (P := P) w src dst el S0 h1 h2 h3
    have hcap : s.length ≤ grownCap w S0.size 0 el := by rw [hsz]; exact grownCap_ge _ _ _ _
    have new := Lib.bytesWorld_at_new w el S0
    have harr : (Lib.bytesCells w el S0).toList = (s.map fun c => [Value.int .u8 (c.toNat : Int)]).flatten ++ List.replicate (grownCap w S0.size 0 el - S0.size) (.int .u8 0) := by
      have : (s.map fun c => [Value.int .u8 (c.toNat : Int)]).flatten = s.map fun c => Value.int .u8 (c.toNat : Int) := by
        have := flatten_single (l := s.map fun c => Value.int .u8 (c.toNat : Int))
        simpa [List.map_map, Function.comp_def] using this
      rw [this]
      simp [Lib.bytesCells, S0]
    have hsize : (Lib.bytesCells w el S0).size = grownCap w S0.size 0 el := by
      rw [← Array.length_toList, harr]
      have : ((s.map fun c => [Value.int .u8 (c.toNat : Int)]).flatten).length = s.length := by
        have := flatten_single (l := s.map fun c => Value.int .u8 (c.toNat : Int))
        rw [List.map_map] at this
        have e2 : (s.map fun c => [Value.int .u8 (c.toNat : Int)]) = s.map ((fun v => [v]) ∘ fun c => Value.int .u8 (c.toNat : Int)) := rfl
        rw [e2, this]; simp
      rw [List.length_append, this, List.length_replicate]
      omega
    have how : Ow (Lib.bytesWorld w el S0) E.S (8 + 1) (.sl (.int .u8)) [.slice (some ⟨w.heap.size, 0, none⟩) (s.map fun c => (c.toNat : Int)).length (grownCap w S0.size 0 el)] (s.map fun c => (c.toNat : Int))
        (w.heap.size :: (List.replicate s.length ([] : List Nat)).flatten) := by
      refine Ow_block (css := s.map fun c => [Value.int .u8 (c.toNat : Int)]) new harr (by simp) (by simpa using hcap) (by simp [Ty.n]; omega) (fun i hi hh => by omega) (by simp) fun i cs y G q1 q2 q3 => ?_
      simp only [List.getElem?_map, Option.map_eq_some_iff] at q1 q2
      obtain ⟨c1, z1, rfl⟩ := q1
      obtain ⟨c2, z2, rfl⟩ := q2
      rw [z1] at z2; cases z2
      have : G = [] := List.eq_of_mem_replicate (List.mem_of_getElem? q3)
      subst this
      simp [Ow]
    have hF : (List.replicate s.length ([] : List Nat)).flatten = [] := by simp
    rw [hF] at how
    obtain ⟨r1, r2, r3⟩ := finish_sl h (Taken.refl h.bx) (w' := Lib.bytesWorld w el S0) (d := 9) (by omega) how (by simp) (by simp) (by simp [Lib.bytesWorld_size]) (fun c hc _ => Lib.bytesWorld_at_old w el S0 c hc)
      ⟨by simp [Lib.bytesWorld, World.freeze] <;> rfl, by simp [Lib.bytesWorld, World.freeze] <;> rfl, by simp [Lib.bytesWorld, World.freeze] <;> rfl, by rw [Lib.bytesWorld_size]; omega⟩
    refine ⟨_, _, _, _, _, .inl ?_, r1, r3, r2.any, rfl, e⟩
    simp only [execOp, ho, hv', Sem.run_bind]
    have e5 := hrun
    simp only [S0] at e5
    rw [e5]
    simp only [Result.andThen_ok, Sem.run_pure, List.length_map]
    rfl
  · rename_i el z hs hd hv
    have h1 := und_of_desc hT hs
    have h2 := und_of_desc hT hd
    rw [hv] at hx
    split at e
    case h_2 => cases e
    rename_i l hel hl
    have h3 := und_of_desc hT hel
    simp only [TDok] at h1 h2 h3
    obtain ⟨Fs, hB, hS⟩ := h.bx
    have hrd := readCell_rd (Within.refl σ.bx) hB hS.st hx hl
    have hr := run_conv_bytes (P := P) h1 h3 h2 hrd
    refine OpDone.same h (v := .string ⟨(l.map fun n : Int => UInt8.ofNat n.toNat).toArray⟩) (x := .c (.v .str (l.map fun n : Int => UInt8.ofNat n.toNat))) ?_ (VR.str (E := E) (vw := σ.bx) _) e
    simp only [execOp, ho, Sem.run_bind, hr, Result.andThen_ok, Sem.run_pure]
  · cases e
end
end Go.Fw
end

section
namespace Go.Fw
theorem setsFrom_toList : ∀ (l : List Value) (o : Nat) (arr : Array Value) (p q : List Value), p.length = o → (∃ m : List Value, m.length = l.length ∧ arr.toList = p ++ m ++ q) → (setsFrom arr o l).toList = p ++ l ++ q
  | [], o, arr, p, q, hp, ⟨m, hm, h⟩ => by
    have : m = [] := List.eq_nil_of_length_eq_zero (by simpa using hm)
    subst this
    simpa [setsFrom] using h
  | c :: l, o, arr, p, q, hp, ⟨m, hm, h⟩ => by
    cases m with
    | nil => simp at hm
    | cons b m =>
      simp only [setsFrom]
      have := setsFrom_toList l (o + 1) (arr.setIfInBounds o c) (p ++ [c]) q (by simp [hp]) ⟨m, by simpa using hm, by
        rw [Array.toList_setIfInBounds, h]
        subst hp
        simp⟩
      rw [this]
      simp
theorem Taken.more {E E1 E2 : Env} {w : World} {vw bx bx1 bx2 : List Bx} {G F1 F2 A W : List Nat} (k1 : Taken E w vw bx G E1 bx1 F1) (k2 : Taken E1 w vw bx1 (F1 ++ G) E2 bx2 F2) (hp : F1.Perm (A ++ W)) :
    let E3 : Env := { E2 with S := fun c => E2.S c ∨ c ∈ W, T := fun c => E2.T c ∨ c ∈ W }
    Taken E w vw bx G E3 bx2 (A ++ F2) := by
  intro E3
  have hB := k2.boxes.perm (G' := (F2 ++ A) ++ W ++ G) (by
    rw [List.append_assoc F2 A W, List.append_assoc F2]
    exact List.Perm.append_left _ (List.Perm.append_right _ hp))
  obtain ⟨hle, hB2⟩ := hB.share
  exact ⟨(k1.le.trans k2.le).trans hle, k2.len.trans k1.len, fun b B hb => (k2.within b B hb).elim .inl (k1.within b B), hB2.perm (List.Perm.append_right _ List.perm_append_comm)⟩
theorem litRows_sound {w : World} {vw : List Bx} {r : Ty} (hg : r.good = true) : ∀ {n i : Nat} {parts : List (Nat × XV)} {vals : List (Nat × Value)} {E : Env} {bx : List Bx} {G : List Nat} {d : Nat} {rows : List r.D} {bx' : List Bx} {d' : Nat},
    Boxes E w vw bx G → Within bx vw → 1 ≤ d → PartsR E w vw parts vals → litRows r i n parts bx d = some (rows, bx', d') → 1 ≤ d' ∧ d' ≤ d ∧ rows.length = n ∧ ∃ (E' : Env) (Fs : List (List Nat)) (css : List (List Value)),
      Taken E w vw bx G E' bx' Fs.flatten ∧ css.length = n ∧ Fs.length = n ∧ (∀ (k : Nat) cs y G, css[k]? = some cs → rows[k]? = some y → Fs[k]? = some G → Ow w E'.S (d' - 1) r cs y G) ∧
      ∀ (pre : List (List Value)) (arr : Array Value), pre.length = i → (∀ c ∈ pre, c.length = r.n) → arr.toList = pre.flatten ++ (List.replicate n (zvRow r)).flatten →
        ∃ arr', Instr.fill (fun i => some (i * r.n, r.n)) arr vals = some arr' ∧ arr'.toList = pre.flatten ++ css.flatten
  | 0, i, [], [], E, bx, G, d, rows, bx', d', h, hw, hd, hp, e => by
    simp only [litRows, Option.some.injEq, Prod.mk.injEq] at e
    obtain ⟨rfl, rfl, rfl⟩ := e
    refine ⟨hd, Nat.le_refl _, rfl, E, [], [], Taken.refl h, rfl, rfl, by simp, fun pre arr _ _ ha => ⟨arr, rfl, by simpa using ha⟩⟩
  | n + 1, i, (j, x) :: l, (j', v) :: m, E, bx, G, d, rows, bx', d', h, hw, hd, hp, e => by
    obtain ⟨⟨hj, hx⟩, hp⟩ := hp
    simp only at hj hx
    subst hj
    simp only [litRows] at e
    split at e
    case isFalse => cases e
    rename_i hij
    subst hij
    simp only [Option.bind_eq_some_iff, Option.map_eq_some_iff, Prod.mk.injEq] at e
    obtain ⟨⟨y1, bx1, d1⟩, e1, ⟨y2, bx2, d2⟩, e2, rfl, rfl, rfl⟩ := e
    dsimp only at e2 ⊢
    obtain ⟨a1, a2, E1, F1, k1, o1⟩ := rowIn_sound h hw hd hx e1
    have keep1 := k1.le.keep (w := w) (vw := vw) h.st
    obtain ⟨b1, b2, b3, E2, Fs, css, k2, c1, c2, c3, c4⟩ := litRows_sound hg (G := F1 ++ G) k1.boxes (hw.of_taken k1) a1 (hp.imp fun _ _ q => ⟨q.1, XR_keep keep1 q.2⟩) e2
    obtain ⟨A, W, hperm, o1'⟩ := Ow_weaken (d := d' - 1) (by omega) o1
    refine ⟨b1, Nat.le_trans b2 a2, by simp [b3], _, A :: Fs, v.cells.toList :: css, Taken.more k1 k2 hperm, by simp [c1], by simp [c2], fun k cs y G' q1 q2 q3 => ?_, fun pre arr hpl hpn ha => ?_⟩
    · cases k with
      | zero =>
        simp at q1 q2 q3
        subst q1 q2 q3
        refine Ow_mono (S := fun b => E1.S b ∨ b ∈ W) ?_ (fun _ _ => rfl) (fun _ _ => rfl) o1'
        intro c hc
        exact hc.elim (fun h => .inl (k2.le.S c h)) .inr
      | succ k =>
        refine Ow_mono (S := E2.S) ?_ (fun _ _ => rfl) (fun _ _ => rfl) (c3 k cs y G' (by simpa using q1) (by simpa using q2) (by simpa using q3))
        intro c hc
        exact .inl hc
    · have hlen : v.cells.toList.length = r.n := Ow_len o1
      have hpf : pre.flatten.length = i * r.n := by
        clear ha c4
        subst hpl
        clear e1 e2
        induction pre with
        | nil => simp
        | cons c pre ih => simp [hpn c (by simp), ih (fun c hc => hpn c (by simp [hc])), Nat.succ_mul]; omega
      have hset : (setsFrom arr (i * r.n) v.cells.toList).toList = pre.flatten ++ v.cells.toList ++ (List.replicate n (zvRow r)).flatten :=
        setsFrom_toList _ _ _ _ _ hpf ⟨zvRow r, by rw [zvRow_len, hlen], by rw [ha]; simp [List.replicate_succ]⟩
      obtain ⟨arr', f1, f2⟩ := c4 (pre ++ [v.cells.toList]) (setsFrom arr (i * r.n) v.cells.toList) (by simp [hpl]) (by
        intro c hc
        rcases List.mem_append.1 hc with hc | hc
        · exact hpn c hc
        · simp at hc; subst hc; exact hlen) (by rw [hset]; simp)
      refine ⟨arr', ?_, by rw [f2]; simp⟩
      rw [fill_step (i := i) (off := i * r.n) (size := r.n) rfl (by simpa using hlen) ?_]
      · exact f1
      · have h1 : arr.size = arr.toList.length := by simp
        rw [h1, ha, List.length_append, hpf, flatten_replicate_len, zvRow_len]
        simp at hlen
        rw [hlen, Nat.succ_mul]
        omega
  | n + 1, i, [], [], E, bx, G, d, rows, bx', d', h, hw, hd, hp, e => by
    simp only [litRows, Option.map_eq_some_iff, Prod.mk.injEq] at e
    obtain ⟨⟨y2, bx2, d2⟩, e2, rfl, rfl, rfl⟩ := e
    obtain ⟨b1, b2, b3, E2, Fs, css, k2, c1, c2, c3, c4⟩ := litRows_sound hg (G := G) h hw hd (parts := []) (vals := []) trivial e2
    refine ⟨b1, b2, by simp [b3], E2, [] :: Fs, zvRow r :: css, by simpa using k2, by simp [c1], by simp [c2], fun k cs y G' q1 q2 q3 => ?_, fun pre arr hpl hpn ha => ?_⟩
    · cases k with
      | zero =>
        simp at q1 q2 q3
        subst q1 q2 q3
        exact Ow_zero hg
      | succ k => exact c3 k cs y G' (by simpa using q1) (by simpa using q2) (by simpa using q3)
    · obtain ⟨arr', f1, f2⟩ := c4 (pre ++ [zvRow r]) arr (by simp [hpl]) (by
        intro c hc
        rcases List.mem_append.1 hc with hc | hc
        · exact hpn c hc
        · simp at hc; subst hc; exact zvRow_len r) (by rw [ha]; simp [List.replicate_succ])
      exact ⟨arr', f1, by rw [f2]; simp⟩
  | 0, _, _ :: _, _, _, _, _, _, _, _, _, _, _, _, _, e => by simp [litRows] at e
  | 0, _, [], _ :: _, _, _, _, _, _, _, _, _, _, _, hp, _ => hp.elim
  | _ + 1, _, [], _ :: _, _, _, _, _, _, _, _, _, _, _, hp, _ => hp.elim
  | _ + 1, _, _ :: _, [], _, _, _, _, _, _, _, _, _, _, hp, _ => hp.elim
section
variable {Y : Type} {P : Program} {T : Tab} (hT : TabOk P T) {o : Oper} {E : Env} {σ : St} {a : Act} {w : World} {k : K Y} {y : Y}
include hT
theorem buildSlice_done (h : Rel E σ a w) {t n : Nat} {ps : Array (Nat × Operand)} (ho : o.op = .buildSlice t n ps) (e : buildSliceX T t n (ps.toList.map fun q => (q.1, σ.ev q.2)) σ k = some y) : OpDone P o E σ a w k y := by
  unfold buildSliceX at e
  split at e
  case h_2 => cases e
  rename_i el hd
  split at e
  case h_2 => cases e
  rename_i r hr
  split at e
  case isFalse => cases e
  rename_i hc
  simp only [Bool.and_eq_true, decide_eq_true_eq] at hc
  obtain ⟨⟨hel, hn⟩, hrn⟩ := hc
  simp only [Option.bind_eq_some_iff] at e
  obtain ⟨⟨rows, bx', d'⟩, e1, e⟩ := e
  dsimp only at e
  obtain ⟨el', ti, hu, hti, hs, hby, hrow⟩ := elemIs_spec hT hel
  obtain ⟨i, z, i1, i2, i3, i4, i5, hg⟩ := elem_zero hT hti hrow
  have hparts := parts_ev h ps
  obtain ⟨b1, b2, b3, E', Fs, css, k2, c1, c2, c3, c4⟩ := litRows_sound hg h.bx (Within.refl _) (by omega) hparts e1
  let zero : Array Value := if n * r.n = 0 then #[] else z.cells
  have hz : ((Array.range (n * r.n)).map (fun j => zero[j % zero.size]!)).toList = (List.replicate n (zvRow r)).flatten := by
    by_cases h0 : n * r.n = 0
    · have h1 : (List.replicate n (zvRow r)).flatten = [] := by
        rw [← List.length_eq_zero_iff, flatten_replicate_len, zvRow_len, h0]
      rw [h1]
      simp [h0]
    · have hne : zvRow r ≠ [] := by
        intro he
        have := zvRow_len r
        rw [he] at this
        simp at this
        rw [← this] at h0
        simp at h0
      have := zeros_toList i5 n hne
      rw [zvRow_len] at this
      simp only [zero, if_neg h0]
      exact this
  obtain ⟨arr', f1, f2⟩ := c4 [] _ rfl (by simp) (by rw [hz]; simp)
  simp only [List.flatten_nil, List.nil_append] at f2
  let w' := w.alloc (.cells arr' el')
  have new : w'.heap[w.heap.size]? = some (.cells arr' el') := by
    show (w.heap.push (.cells arr' el'))[w.heap.size]? = _
    simp
  obtain ⟨d, rfl⟩ : ∃ m, d' = m + 1 := ⟨d' - 1, by omega⟩
  have hl : ∀ c ∈ css, c.length = r.n := by
    intro c hc
    obtain ⟨j, hj, rfl⟩ := List.getElem_of_mem hc
    exact Ow_len (c3 j _ _ _ (List.getElem?_eq_getElem hj) (List.getElem?_eq_getElem (by omega)) (List.getElem?_eq_getElem (by omega)))
  have hfl : css.flatten.length = n * r.n := by
    rw [← c1]
    clear f2 c3 c4 c1
    induction css with
    | nil => simp
    | cons c l ih => simp [hl c (by simp), ih (fun c hc => hl c (by simp [hc])), Nat.succ_mul]; omega
  have hsize : arr'.size = n * r.n := by rw [← Array.length_toList, f2, hfl]
  obtain ⟨Fs0, hB1, hB2⟩ := k2.boxes
  simp only [List.append_nil] at hB2
  have how : Ow w' E'.S (d + 1) (.sl r) [.slice (some ⟨w.heap.size, 0, none⟩) rows.length n] rows (w.heap.size :: Fs.flatten) := by
    refine Ow_block (css := css) (ex := []) new (by simpa using f2) (by omega) (by omega) (by omega) (Unfr_none _) (by omega) fun k cs y G q1 q2 q3 => ?_
    have hin : ∀ c ∈ G, c ∈ Fs.flatten := fun c hc => List.mem_flatten.2 ⟨G, List.mem_of_getElem? q3, hc⟩
    exact Ow_mono (fun _ h => h) (fun c hc => heap_push_old (hB2.tlt c (hB2.st c hc))) (fun c hc => heap_push_old (hB2.lt c (by simp only [List.mem_append]; exact .inr (hin c hc)))) (by simpa using c3 k cs y G q1 q2 q3)
  rw [b3] at how
  obtain ⟨r1, r2, r3⟩ := finish_sl h k2 (w' := w') (d := d + 1) (by omega) how (by
      intro c hc
      rcases List.mem_cons.1 hc with rfl | hc
      · exact .inr (Nat.le_refl _)
      · exact .inl hc) (by
      refine List.nodup_cons.2 ⟨fun hc => ?_, (List.nodup_append.1 hB2.nodup).2.1⟩
      have := hB2.lt w.heap.size (by simp only [List.mem_append]; exact .inr hc)
      omega) (by
      intro c hc
      rcases List.mem_cons.1 hc with rfl | hc
      · simp [w']
      · have := hB2.lt c (by simp only [List.mem_append]; exact .inr hc)
        simp [w']; omega) (fun c hc _ => heap_push_old hc) ⟨rfl, rfl, rfl, by simp [w']⟩
  refine ⟨_, _, _, _, _, .inl ?_, r1, r3, r2.any, rfl, e⟩
  have hlim : ¬ (n * r.n > 2 ^ 24) := by
    have : n * r.n ≤ 1024 * 1024 := Nat.mul_le_mul hn hrn
    omega
  simp only [execOp, ho, Instr.buildSlice, Sem.run_bind, run_underlying' hu, Result.andThen_ok, sizeOf, typeInfo, run_program, i1, Sem.run_pure, i2, hs, hlim, if_false]
  by_cases h0 : n * r.n = 0
  · have hz0 : zero = #[] := by simp only [zero, if_pos h0]
    rw [hz0] at f1
    simp only [h0, if_true, Sem.run_bind, Sem.run_pure, Result.andThen_ok]
    rw [h0] at f1
    simp only [f1, newRow, Sem.run_bind, run_newObj, Result.andThen_ok, Sem.run_pure]
    rfl
  · have hz0 : zero = z.cells := by simp only [zero, if_neg h0]
    rw [hz0] at f1
    simp only [h0, if_false, Sem.run_bind, zeroValue, typeInfo, run_program, Result.andThen_ok, i1, Sem.run_pure, i4]
    simp only [f1, newRow, Sem.run_bind, run_newObj, Result.andThen_ok, Sem.run_pure]
    rfl
end
end Go.Fw
end
