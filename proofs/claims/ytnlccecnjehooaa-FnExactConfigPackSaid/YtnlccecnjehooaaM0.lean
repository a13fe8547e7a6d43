/- Plain facts on what the functions compute. -/
import Derived.Test.YtnlccecnjehooaaG0
set_option linter.unusedVariables false
set_option linter.unusedSimpArgs false
section
/- Plain facts on the words of the printed functions. -/
namespace Go.M

theorem cond_decide' {α : Type} (p : Prop) [Decidable p] (a b : α) : cond (decide p) a b = if p then a else b := by
  by_cases h : p <;> simp [h]

theorem cond_ite {α : Type} (c : Bool) (a b : α) : cond c a b = if c = true then a else b := by
  cases c <;> simp

theorem w64_eq {x : Int} (h1 : -9223372036854775808 ≤ x) (h2 : x < 9223372036854775808) : w64 x = x := by
  unfold w64 IntKind.wrap
  simp [IntKind.bits, IntKind.signed]
  split <;> omega

theorem w8_eq {x : Int} (h1 : 0 ≤ x) (h2 : x < 256) : w8 x = x := by
  unfold w8 IntKind.wrap
  simp [IntKind.bits, IntKind.signed]
  omega

theorem w64_nat {n : Nat} (h : n < 9223372036854775808) : w64 (n : Int) = n := w64_eq (by omega) (by omega)

theorem ofInt_nat (n : Nat) : (BitVec.ofInt 64 (n : Int)).toNat = n % 2 ^ 64 := by
  rw [BitVec.toNat_ofInt]
  omega

theorem wrap64_nat {n : Nat} (h : n < 2 ^ 63) : IntKind.wrap .i64 (n : Int) = n := w64_nat (by omega)

theorem bAnd_nat {a b : Nat} (ha : a < 2 ^ 63) (hb : b < 2 ^ 63) : bAnd .i64 a b = ((a &&& b : Nat) : Int) := by
  unfold bAnd
  have : (BitVec.ofInt (IntKind.bits .i64) (a : Int) &&& BitVec.ofInt (IntKind.bits .i64) (b : Int)).toNat = a &&& b := by
    show (BitVec.ofInt 64 (a : Int) &&& BitVec.ofInt 64 (b : Int)).toNat = a &&& b
    rw [BitVec.toNat_and, ofInt_nat, ofInt_nat, Nat.mod_eq_of_lt (by omega), Nat.mod_eq_of_lt (by omega)]
  rw [this]
  exact wrap64_nat (Nat.lt_of_le_of_lt Nat.and_le_left ha)

theorem bOr_nat {a b : Nat} (ha : a < 2 ^ 63) (hb : b < 2 ^ 63) : bOr .i64 a b = ((a ||| b : Nat) : Int) := by
  unfold bOr
  have : (BitVec.ofInt (IntKind.bits .i64) (a : Int) ||| BitVec.ofInt (IntKind.bits .i64) (b : Int)).toNat = a ||| b := by
    show (BitVec.ofInt 64 (a : Int) ||| BitVec.ofInt 64 (b : Int)).toNat = a ||| b
    rw [BitVec.toNat_or, ofInt_nat, ofInt_nat, Nat.mod_eq_of_lt (by omega), Nat.mod_eq_of_lt (by omega)]
  rw [this]
  exact wrap64_nat (Nat.or_lt_two_pow ha hb)

/-- The number form's cells but for the last. -/
theorem num_cell {a : Nat} (ha : a < 2 ^ 63) : bOr .i64 (bAnd .i64 a 127) 128 = ((a % 128 + 128 : Nat) : Int) := by
  have h1 : bAnd .i64 a 127 = ((a % 128 : Nat) : Int) := by
    have := bAnd_nat (b := 127) ha (by decide)
    rw [show ((127 : Nat) : Int) = 127 from rfl] at this
    rw [this]
    have := Nat.and_two_pow_sub_one_eq_mod a 7
    simp at this
    rw [this]
  rw [h1]
  have h2 := bOr_nat (a := a % 128) (b := 128) (by omega) (by decide)
  rw [show ((128 : Nat) : Int) = 128 from rfl] at h2
  rw [h2]
  have h3 := Nat.two_pow_add_eq_or_of_lt (i := 7) (b := a % 128) (by omega) 1
  simp only [Nat.reducePow, Nat.mul_one] at h3
  rw [Nat.or_comm, ← h3]
  omega

theorem FUEL_lt {n : Nat} (h : n < 2 ^ 64) : n < FUEL := Nat.lt_of_lt_of_le h FUEL_ge

theorem getD_nat {α : Type} {l : List α} {i : Nat} {d : α} (h : i < l.length) : l.getD ((i : Int).toNat) d = l[i] := by
  simp [List.getD, h]

theorem drop_cons {α : Type} {l : List α} {i : Nat} (h : i < l.length) : l.drop i = l[i] :: l.drop (i + 1) := (List.getElem_cons_drop h).symm

theorem copy_set {α β : Type} {l : List α} (f : α → β) {i : Nat} (h : i < l.length) (z : β) {y : β} (hy : y = f l[i]) :
    ((l.map f).take i ++ List.replicate (l.length - i) z).set i y = (l.map f).take (i + 1) ++ List.replicate (l.length - (i + 1)) z := by
  subst hy
  have h1 : l.length - i = (l.length - (i + 1)) + 1 := by omega
  rw [List.set_append_right _ _ (by simp; omega), h1]
  simp only [List.length_take, List.length_map]
  rw [show i - min i l.length = 0 by omega, List.replicate_succ, List.set_cons_zero, List.take_succ_eq_append_getElem (by simpa using h)]
  simp

theorem mark_set {β : Type} {l : List β} (g : Nat → β) {i : Nat} (h : i < l.length) {y : β} (hy : y = g i) :
    ((List.range i).map g ++ l.drop i).set i y = (List.range (i + 1)).map g ++ l.drop (i + 1) := by
  subst hy
  rw [List.set_append_right _ _ (by simp), drop_cons h]
  simp only [List.length_map, List.length_range, Nat.sub_self, List.set_cons_zero, List.range_succ, List.map_append, List.map_cons, List.map_nil, List.append_assoc, List.cons_append, List.nil_append]

theorem lim_eq : LIM = 68719476736 := rfl

end Go.M
end

section
/- The laws' own helpers: what they compute. -/
namespace Go.M

theorem szIntS_eq {l : List Int} {k : Int} (h : l.length ≤ 2 ^ 63 - 1) (h0 : 0 ≤ k) (h1 : k ≤ 2 ^ 20) : laws_szIntS l k = some ((if k - l.length < 0 then -1 else k - l.length, ()), ()) := by
  unfold laws_szIntS
  rw [w64_eq (by omega) (by omega)]
  simp only [cond_decide']
  split <;> rfl

theorem szConfig_eq {x : List Int × Int × Unit} {k : Int} (h : x.1.length ≤ 2 ^ 63 - 1) (h0 : 0 ≤ k) (h1 : k ≤ 2 ^ 20) : laws_szConfig x k = some ((if k - x.1.length < 0 then -1 else k - x.1.length, ()), ()) := by
  unfold laws_szConfig
  rw [szIntS_eq h h0 h1]
  simp only [Option.bind_some, cond_decide']
  split
  · simp
  · rfl

theorem toIntS_L {l : List Int} (hl : l.length ≤ 2 ^ 36) : ∀ (n i : Nat), i ≤ l.length → l.length - i < n →
    laws_toIntS_L3 n l i ((l.map id).take i ++ List.replicate (l.length - i) 0) = some (((), ()), (l, ()))
  | 0, i, _, h => by omega
  | n + 1, i, hi, h => by
    simp only [laws_toIntS_L3, laws_toIntS_step3, cond_decide']
    by_cases hc : i < l.length
    · rw [if_pos (by omega), if_pos (by omega), if_pos (by simp; omega), w64_eq (by omega) (by omega)]
      rw [show (((i : Nat) : Int) + 1) = ((i + 1 : Nat) : Int) by omega]
      rw [getD_nat hc, show (((i : Nat) : Int)).toNat = i by omega, copy_set id hc 0 (y := l[i]) rfl]
      exact toIntS_L hl n (i + 1) (by omega) (by omega)
    · rw [if_neg (by omega)]
      have : i = l.length := by omega
      subst this
      simp

theorem toIntS_eq {l : List Int} (hl : l.length ≤ 2 ^ 36) : laws_toIntS l = some (((), ()), (l, ())) := by
  unfold laws_toIntS laws_toIntS_entry
  rw [if_pos (by rw [lim_eq]; omega)]
  have := toIntS_L hl FUEL 0 (by omega) (FUEL_lt (by omega))
  simpa using this

theorem eqIntS_L {l m : List Int} (hl : l.length ≤ 2 ^ 40) (hm : l.length = m.length) : ∀ (n i : Nat), i ≤ l.length → l.length - i < n →
    laws_eqIntS_L4 n l m i = some ((decide (l.drop i = m.drop i), ()), ())
  | 0, i, _, h => by omega
  | n + 1, i, hi, h => by
    simp only [laws_eqIntS_L4, laws_eqIntS_step4, cond_decide']
    by_cases hc : i < l.length
    · rw [if_pos (by omega), if_pos (by omega), if_pos (by omega), w64_eq (by omega) (by omega), getD_nat hc, getD_nat (by omega), cond_ite]
      rw [drop_cons hc, drop_cons (l := m) (by omega)]
      by_cases he : l[i] = m[i]
      · rw [if_neg (by simpa using he), show (((i : Nat) : Int) + 1) = ((i + 1 : Nat) : Int) by omega, eqIntS_L hl hm n (i + 1) (by omega) (by omega)]
        simp only [List.cons.injEq, he, true_and]
      · rw [if_pos (by simpa using he)]
        simp only [List.cons.injEq, he, false_and, decide_false]
    · rw [if_neg (by omega)]
      have : i = l.length := by omega
      subst this
      simp [hm]

theorem eqIntS_eq {l m : List Int} (hl : l.length ≤ 2 ^ 40) (hm : m.length ≤ 2 ^ 40) : laws_eqIntS l m = some ((decide (l = m), ()), ()) := by
  unfold laws_eqIntS laws_eqIntS_entry
  rw [cond_ite]
  by_cases h : l.length = m.length
  · rw [if_neg (by simp; omega)]
    have := eqIntS_L hl h FUEL 0 (by omega) (FUEL_lt (by omega))
    simpa using this
  · rw [if_pos (by simp; omega)]
    have : l ≠ m := fun e => h (by rw [e])
    simp [this]

theorem eqByteS_L {l m : List Int} (hl : l.length ≤ 2 ^ 40) (hm : l.length = m.length) : ∀ (n i : Nat), i ≤ l.length → l.length - i < n →
    laws_eqByteS_L4 n l m i = some ((decide (l.drop i = m.drop i), ()), ())
  | 0, i, _, h => by omega
  | n + 1, i, hi, h => by
    simp only [laws_eqByteS_L4, laws_eqByteS_step4, cond_decide']
    by_cases hc : i < l.length
    · rw [if_pos (by omega), if_pos (by omega), if_pos (by omega), w64_eq (by omega) (by omega), getD_nat hc, getD_nat (by omega), cond_ite]
      rw [drop_cons hc, drop_cons (l := m) (by omega)]
      by_cases he : l[i] = m[i]
      · rw [if_neg (by simpa using he), show (((i : Nat) : Int) + 1) = ((i + 1 : Nat) : Int) by omega, eqByteS_L hl hm n (i + 1) (by omega) (by omega)]
        simp only [List.cons.injEq, he, true_and]
      · rw [if_pos (by simpa using he)]
        simp only [List.cons.injEq, he, false_and, decide_false]
    · rw [if_neg (by omega)]
      have : i = l.length := by omega
      subst this
      simp [hm]

theorem eqByteS_eq {l m : List Int} (hl : l.length ≤ 2 ^ 40) (hm : m.length ≤ 2 ^ 40) : laws_eqByteS l m = some ((decide (l = m), ()), ()) := by
  unfold laws_eqByteS laws_eqByteS_entry
  rw [cond_ite]
  by_cases h : l.length = m.length
  · rw [if_neg (by simp; omega)]
    have := eqByteS_L hl h FUEL 0 (by omega) (FUEL_lt (by omega))
    simpa using this
  · rw [if_pos (by simp; omega)]
    have : l ≠ m := fun e => h (by rw [e])
    simp [this]

theorem markIntS_L {k : Nat} (hk : k ≤ 2 ^ 40) {l : List Int} (hl : l.length ≤ 2 ^ 40) : ∀ (n i : Nat), i ≤ l.length → l.length - i < n →
    laws_markIntS_L2 n ((k + i : Nat) : Int) i ((List.range i).map (fun j => ((k + j : Nat) : Int)) ++ l.drop i) = some ((((k + l.length : Nat) : Int), ()), ((List.range l.length).map (fun j => ((k + j : Nat) : Int)), ()))
  | 0, i, _, h => by omega
  | n + 1, i, hi, h => by
    simp only [laws_markIntS_L2, laws_markIntS_step2, cond_decide']
    by_cases hc : i < l.length
    · rw [if_pos (by simp; omega), if_pos (by simp; omega), w64_eq (by omega) (by omega), w64_eq (by omega) (by omega)]
      rw [show (((i : Nat) : Int)).toNat = i by omega, mark_set (fun j => ((k + j : Nat) : Int)) hc rfl]
      exact markIntS_L hk hl n (i + 1) (by omega) (by omega)
    · rw [if_neg (by simp; omega)]
      have : i = l.length := by omega
      subst this
      simp

theorem markIntS_eq {k : Nat} (hk : k ≤ 2 ^ 40) {l : List Int} (hl : l.length ≤ 2 ^ 40) :
    laws_markIntS k l = some ((((k + l.length : Nat) : Int), ()), ((List.range l.length).map (fun j => ((k + j : Nat) : Int)), ())) := by
  unfold laws_markIntS laws_markIntS_entry
  have := markIntS_L hk hl FUEL 0 (by omega) (FUEL_lt (by omega))
  simpa using this

theorem markByteS_L {k : Nat} (hk : k ≤ 2 ^ 40) {l : List Int} (hl : l.length ≤ 2 ^ 40) : ∀ (n i : Nat), i ≤ l.length → l.length - i < n →
    laws_markByteS_L2 n ((k + i : Nat) : Int) i ((List.range i).map (fun j => w8 ((k + j : Nat) : Int)) ++ l.drop i) = some ((((k + l.length : Nat) : Int), ()), ((List.range l.length).map (fun j => w8 ((k + j : Nat) : Int)), ()))
  | 0, i, _, h => by omega
  | n + 1, i, hi, h => by
    simp only [laws_markByteS_L2, laws_markByteS_step2, cond_decide']
    by_cases hc : i < l.length
    · rw [if_pos (by simp; omega), if_pos (by simp; omega), w64_eq (by omega) (by omega), w64_eq (by omega) (by omega)]
      rw [show (((i : Nat) : Int)).toNat = i by omega, mark_set (fun j => w8 ((k + j : Nat) : Int)) hc rfl]
      exact markByteS_L hk hl n (i + 1) (by omega) (by omega)
    · rw [if_neg (by simp; omega)]
      have : i = l.length := by omega
      subst this
      simp

theorem markByteS_eq {k : Nat} (hk : k ≤ 2 ^ 40) {l : List Int} (hl : l.length ≤ 2 ^ 40) :
    laws_markByteS k l = some ((((k + l.length : Nat) : Int), ()), ((List.range l.length).map (fun j => w8 ((k + j : Nat) : Int)), ())) := by
  unfold laws_markByteS laws_markByteS_entry
  have := markByteS_L hk hl FUEL 0 (by omega) (FUEL_lt (by omega))
  simpa using this

theorem heldByteS_L {k m : Nat} (hk : k ≤ 2 ^ 40) (hl : m ≤ 2 ^ 40) : ∀ (n i : Nat), i ≤ m → m - i < n →
    laws_heldByteS_L2 n ((List.range m).map (fun j => w8 ((k + j : Nat) : Int))) ((k + i : Nat) : Int) i = some ((((k + m : Nat) : Int), ()), ())
  | 0, i, _, h => by omega
  | n + 1, i, hi, h => by
    simp only [laws_heldByteS_L2, laws_heldByteS_step2, cond_decide']
    by_cases hc : i < m
    · rw [if_pos (by simp; omega), if_pos (by simp; omega), w64_eq (by omega) (by omega), w64_eq (by omega) (by omega), getD_nat (by simpa using hc), cond_ite, if_neg (by simp)]
      exact heldByteS_L hk hl n (i + 1) (by omega) (by omega)
    · rw [if_neg (by simp; omega)]
      have : i = m := by omega
      subst this
      rfl

theorem heldByteS_eq {k m : Nat} (hk : k ≤ 2 ^ 40) (hl : m ≤ 2 ^ 40) :
    laws_heldByteS ((List.range m).map (fun j => w8 ((k + j : Nat) : Int))) k = some ((((k + m : Nat) : Int), ()), ()) := by
  unfold laws_heldByteS laws_heldByteS_entry
  exact heldByteS_L hk hl FUEL 0 (by omega) (FUEL_lt (by omega))

end Go.M
end

section
/- Numbers and lists as bytes. -/
namespace Go.M

/-- The number form. -/
def numB (n : Nat) : List Int := if h : 127 < n then ((n % 128 + 128 : Nat) : Int) :: numB (n / 128) else [(n : Int)]
termination_by n
decreasing_by omega

theorem numB_len : ∀ (k n : Nat), n < 128 ^ (k + 1) → (numB n).length ≤ k + 1
  | 0, n, h => by
    unfold numB
    rw [dif_neg (by omega)]
    simp
  | k + 1, n, h => by
    unfold numB
    split
    · have := numB_len k (n / 128) (by rw [Nat.div_lt_iff_lt_mul (by omega)]; rw [Nat.pow_succ] at h; omega)
      simp
      omega
    · simp

theorem numB_len9 {n : Nat} (h : n < 2 ^ 63) : (numB n).length ≤ 9 := numB_len 8 n (by simpa using h)

theorem numB_pos (n : Nat) : 1 ≤ (numB n).length := by
  unfold numB
  split <;> simp

theorem spec_PutNum_L : ∀ (n m : Nat) (acc : List Int), m < 2 ^ 63 → m < n → acc.length + (numB m).length ≤ LIM → spec_PutNum_L4 n m acc = some (((), ()), (acc ++ numB m, ()))
  | 0, m, acc, _, h, _ => by omega
  | n + 1, m, acc, hm, h, hl => by
    simp only [spec_PutNum_L4, spec_PutNum_step4, cond_decide']
    have hp := numB_pos m
    rw [numB]
    split
    · rw [dif_pos (by omega), if_pos (by omega)]
      rw [Int.tdiv_eq_ediv_of_nonneg (by omega), Int.tmod_eq_emod_of_nonneg (by omega), w64_eq (by omega) (by omega), w64_eq (by omega) (by omega), w8_eq (by omega) (by omega)]
      rw [numB, dif_pos (by omega)] at hl
      have := spec_PutNum_L n (m / 128) (acc ++ [((m % 128 + 128 : Nat) : Int)]) (by omega) (by omega) (by simp at hl ⊢; omega)
      simp only [List.append_assoc, List.cons_append, List.nil_append] at this
      rw [← this]
      congr 1
    · rw [dif_neg (by omega), if_pos (by omega), w8_eq (by omega) (by omega)]

theorem spec_PutNum_eq {m : Nat} (hm : m < 2 ^ 63) : spec_PutNum m = some (((), ()), (numB m, ())) := by
  unfold spec_PutNum spec_PutNum_entry
  rw [cond_decide', if_neg (by omega)]
  have := numB_len9 hm
  have := spec_PutNum_L FUEL m [] hm (FUEL_lt (by omega)) (by rw [lim_eq]; simp; omega)
  simpa using this

theorem spec_PutNum_neg {x : Int} (h : x < 0) : spec_PutNum x = some (((), ()), ([], ())) := by
  unfold spec_PutNum spec_PutNum_entry
  rw [cond_decide', if_pos h]

theorem impl_PutNum_L : ∀ (n m : Nat) (acc : List Int), m < 2 ^ 63 → m < n → acc.length + (numB m).length ≤ LIM → impl_PutNum_L4 n m acc = some (((), ()), (acc ++ numB m, ()))
  | 0, m, acc, _, h, _ => by omega
  | n + 1, m, acc, hm, h, hl => by
    simp only [impl_PutNum_L4, impl_PutNum_step4, cond_decide']
    have hp := numB_pos m
    rw [numB]
    split
    · rw [dif_pos (by omega), if_pos (by omega)]
      rw [num_cell hm, Int.fdiv_eq_ediv_of_nonneg _ (by omega), w8_eq (by omega) (by omega)]
      rw [numB, dif_pos (by omega)] at hl
      have := impl_PutNum_L n (m / 128) (acc ++ [((m % 128 + 128 : Nat) : Int)]) (by omega) (by omega) (by simp at hl ⊢; omega)
      simp only [List.append_assoc, List.cons_append, List.nil_append] at this
      rw [← this]
      congr 1
    · rw [dif_neg (by omega), if_pos (by omega), w8_eq (by omega) (by omega)]

theorem impl_PutNum_eq {m : Nat} (hm : m < 2 ^ 63) : impl_PutNum m = some (((), ()), (numB m, ())) := by
  unfold impl_PutNum impl_PutNum_entry
  rw [cond_decide', if_neg (by omega)]
  have := numB_len9 hm
  have := impl_PutNum_L FUEL m [] hm (FUEL_lt (by omega)) (by rw [lim_eq]; simp; omega)
  simpa using this

theorem impl_PutNum_neg {x : Int} (h : x < 0) : impl_PutNum x = some (((), ()), ([], ())) := by
  unfold impl_PutNum impl_PutNum_entry
  rw [cond_decide', if_pos h]

/-- The number form of any number: nothing for one below 0. -/
def numI (x : Int) : List Int := if x < 0 then [] else numB x.toNat

theorem numI_len {x : Int} (h : x < 2 ^ 63) : (numI x).length ≤ 9 := by
  unfold numI
  split
  · simp
  · exact numB_len9 (by omega)

theorem spec_PutNum_i {x : Int} (h : x < 2 ^ 63) : spec_PutNum x = some (((), ()), (numI x, ())) := by
  unfold numI
  split
  · exact spec_PutNum_neg (by assumption)
  · have := spec_PutNum_eq (m := x.toNat) (by omega)
    rwa [show ((x.toNat : Nat) : Int) = x by omega] at this

theorem impl_PutNum_i {x : Int} (h : x < 2 ^ 63) : impl_PutNum x = some (((), ()), (numI x, ())) := by
  unfold numI
  split
  · exact impl_PutNum_neg (by assumption)
  · have := impl_PutNum_eq (m := x.toNat) (by omega)
    rwa [show ((x.toNat : Nat) : Int) = x by omega] at this

/-- The bytes of a list's numbers. -/
def numsB (l : List Int) : List Int := l.flatMap numI

theorem numsB_len : ∀ {l : List Int}, (∀ x ∈ l, x < 2 ^ 63) → (numsB l).length ≤ 9 * l.length
  | [], _ => by simp [numsB]
  | x :: l, h => by
    have h1 := numI_len (h x (by simp))
    have h2 := numsB_len (l := l) (fun y hy => h y (by simp [hy]))
    simp only [numsB, List.flatMap_cons, List.length_append, List.length_cons] at h2 ⊢
    omega

theorem drop_lt {l : List Int} (h : ∀ x ∈ l, x < 2 ^ 63) (i : Nat) : ∀ x ∈ l.drop i, x < 2 ^ 63 := fun x hx => h x (List.mem_of_mem_drop hx)

theorem spec_l17List_L {l : List Int} (hl : l.length ≤ 2 ^ 30) (hx : ∀ x ∈ l, x < 2 ^ 63) : ∀ (n i : Nat) (acc : List Int), i ≤ l.length → l.length - i < n → acc.length + 9 * (l.length - i) ≤ LIM →
    spec_l17List_L3 n l i acc = some (((), ()), (acc ++ numsB (l.drop i), ()))
  | 0, i, acc, _, h, _ => by omega
  | n + 1, i, acc, hi, h, hlim => by
    simp only [spec_l17List_L3, spec_l17List_step3, cond_decide']
    by_cases hc : i < l.length
    · rw [if_pos (by omega), if_pos (by omega), getD_nat hc, spec_PutNum_i (hx _ (List.getElem_mem _)), w64_eq (by omega) (by omega)]
      have h9 := numI_len (hx _ (List.getElem_mem hc))
      simp only [Option.bind_some]
      rw [if_pos (by omega), show (((i : Nat) : Int) + 1) = ((i + 1 : Nat) : Int) by omega, spec_l17List_L hl hx n (i + 1) _ (by omega) (by omega) (by simp; omega), drop_cons hc]
      simp only [numsB, List.flatMap_cons, List.append_assoc]
    · rw [if_neg (by omega)]
      have : i = l.length := by omega
      subst this
      simp [numsB]

theorem spec_l17List_eq {l : List Int} (hl : l.length ≤ 2 ^ 30) (hx : ∀ x ∈ l, x < 2 ^ 63) : spec_l17List l = some (((), ()), (numB l.length ++ numsB l, ())) := by
  unfold spec_l17List spec_l17List_entry
  rw [spec_PutNum_eq (by omega)]
  have := numB_len9 (n := l.length) (by omega)
  have := spec_l17List_L hl hx FUEL 0 (numB l.length) (by omega) (FUEL_lt (by omega)) (by rw [lim_eq]; omega)
  simpa using this

theorem impl_putNums_L {l : List Int} (hl : l.length ≤ 2 ^ 30) (hx : ∀ x ∈ l, x < 2 ^ 63) : ∀ (n i : Nat) (acc : List Int), i ≤ l.length → l.length - i < n → acc.length + 9 * (l.length - i) ≤ LIM →
    impl_putNums_L3 n l l.length i acc = some (((), ()), (acc ++ numsB (l.drop i), ()))
  | 0, i, acc, _, h, _ => by omega
  | n + 1, i, acc, hi, h, hlim => by
    simp only [impl_putNums_L3, impl_putNums_step3, cond_decide']
    by_cases hc : i < l.length
    · rw [if_pos (by omega), if_pos (by omega), getD_nat hc, impl_PutNum_i (hx _ (List.getElem_mem _)), w64_eq (by omega) (by omega)]
      have h9 := numI_len (hx _ (List.getElem_mem hc))
      simp only [Option.bind_some]
      rw [if_pos (by omega), show (((i : Nat) : Int) + 1) = ((i + 1 : Nat) : Int) by omega, impl_putNums_L hl hx n (i + 1) _ (by omega) (by omega) (by simp; omega), drop_cons hc]
      simp only [numsB, List.flatMap_cons, List.append_assoc]
    · rw [if_neg (by omega)]
      have : i = l.length := by omega
      subst this
      simp [numsB]

theorem impl_putNums_eq {l : List Int} (hl : l.length ≤ 2 ^ 30) (hx : ∀ x ∈ l, x < 2 ^ 63) : impl_putNums l = some (((), ()), (numsB l, ())) := by
  unfold impl_putNums impl_putNums_entry
  have := impl_putNums_L hl hx FUEL 0 [] (by omega) (FUEL_lt (by omega)) (by rw [lim_eq]; simp; omega)
  simpa using this

theorem impl_putList_eq {l : List Int} (hl : l.length ≤ 2 ^ 30) (hx : ∀ x ∈ l, x < 2 ^ 63) : impl_putList l = some (((), ()), (numB l.length ++ numsB l, ())) := by
  unfold impl_putList
  rw [impl_PutNum_eq (by omega), impl_putNums_eq hl hx]
  have h1 := numB_len9 (n := l.length) (by omega)
  have h2 := numsB_len hx
  simp only [Option.bind_some]
  rw [if_pos (by rw [lim_eq]; omega)]

/-! Configs. -/

def isIn (x a b : Int) : Bool := decide (a ≤ x ∧ x ≤ b)

theorem spec_l1In_eq (x a b : Int) : spec_l1In x a b = some ((isIn x a b, ()), ()) := by
  unfold spec_l1In isIn
  rw [cond_decide']
  split
  · congr 3; simp; omega
  · congr 3; simp; omega

theorem impl_within_eq (x a b : Int) : impl_within x a b = some ((isIn x a b, ()), ()) := spec_l1In_eq x a b

def cfgOk (x : List Int × Int × Unit) : Bool := isIn (x.1.length : Int) 1 8 && (isIn x.2.1 1 4 && x.1.all fun d => isIn d 0 7)

theorem spec_ConfigOk_L {l : List Int} {c : Int} (hl : l.length ≤ 2 ^ 40) : ∀ (n i : Nat), i ≤ l.length → l.length - i < n → spec_ConfigOk_L4 n i l c = some (((l.drop i).all fun d => isIn d 0 7, ()), ())
  | 0, i, _, h => by omega
  | n + 1, i, hi, h => by
    simp only [spec_ConfigOk_L4, spec_ConfigOk_step4, cond_decide']
    by_cases hc : i < l.length
    · rw [if_pos (by omega), if_pos (by omega), getD_nat hc, spec_l1In_eq, w64_eq (by omega) (by omega), drop_cons hc]
      simp only [Option.bind_some, List.all_cons]
      cases hb : isIn l[i] 0 7 with
      | false => simp
      | true =>
        simp only [Bool.not_true, cond_false, Bool.true_and]
        rw [show (((i : Nat) : Int) + 1) = ((i + 1 : Nat) : Int) by omega, spec_ConfigOk_L hl n (i + 1) (by omega) (by omega)]
    · rw [if_neg (by omega)]
      have : i = l.length := by omega
      subst this
      simp

theorem spec_ConfigOk_eq {x : List Int × Int × Unit} (hl : x.1.length ≤ 2 ^ 40) : spec_ConfigOk x = some ((cfgOk x, ()), ()) := by
  unfold spec_ConfigOk spec_ConfigOk_entry cfgOk
  simp only [spec_l1In_eq, Option.bind_some]
  cases isIn (x.1.length : Int) 1 8 with
  | false => simp
  | true =>
    cases isIn x.2.1 1 4 with
    | false => simp
    | true =>
      have := spec_ConfigOk_L (l := x.1) (c := x.2.1) hl FUEL 0 (by omega) (FUEL_lt (by omega))
      simpa using this

theorem impl_ConfigOk_L {l : List Int} {c : Int} (hl : l.length ≤ 2 ^ 40) : ∀ (n i : Nat), i ≤ l.length → l.length - i < n →
    impl_ConfigOk_L2 n l l.length i l c = some ((((l.drop i).all fun d => isIn d 0 7) && (isIn (l.length : Int) 1 8 && isIn c 1 4), ()), ())
  | 0, i, _, h => by omega
  | n + 1, i, hi, h => by
    simp only [impl_ConfigOk_L2, impl_ConfigOk_step2, cond_decide']
    by_cases hc : i < l.length
    · rw [if_pos (by omega), if_pos (by omega), getD_nat hc, impl_within_eq, w64_eq (by omega) (by omega), drop_cons hc]
      simp only [Option.bind_some, List.all_cons]
      cases hb : isIn l[i] 0 7 with
      | false => simp
      | true =>
        simp only [Bool.not_true, cond_false, Bool.true_and]
        rw [show (((i : Nat) : Int) + 1) = ((i + 1 : Nat) : Int) by omega, impl_ConfigOk_L hl n (i + 1) (by omega) (by omega)]
    · rw [if_neg (by omega)]
      have : i = l.length := by omega
      subst this
      simp only [impl_within_eq, Option.bind_some, List.drop_length, List.all_nil, Bool.true_and]
      cases isIn (l.length : Int) 1 8 <;> simp

theorem impl_ConfigOk_eq {x : List Int × Int × Unit} (hl : x.1.length ≤ 2 ^ 40) : impl_ConfigOk x = some ((cfgOk x, ()), ()) := by
  unfold impl_ConfigOk impl_ConfigOk_entry cfgOk
  have := impl_ConfigOk_L (l := x.1) (c := x.2.1) hl FUEL 0 (by omega) (FUEL_lt (by omega))
  rw [show ((0 : Nat) : Int) = 0 from rfl] at this
  rw [this]
  congr 3
  simp only [List.drop_zero]
  cases isIn (x.1.length : Int) 1 8 <;> cases isIn x.2.1 1 4 <;> simp

theorem cfgOk_spec {x : List Int × Int × Unit} (h : cfgOk x = true) : 1 ≤ x.1.length ∧ x.1.length ≤ 8 ∧ 1 ≤ x.2.1 ∧ x.2.1 ≤ 4 ∧ ∀ d ∈ x.1, 0 ≤ d ∧ d ≤ 7 := by
  simp only [cfgOk, isIn, Bool.and_eq_true, decide_eq_true_eq, List.all_eq_true] at h
  obtain ⟨h1, h2, h3⟩ := h
  exact ⟨by omega, by omega, by omega, by omega, h3⟩

/-- The bytes of a config. -/
def cfgB (x : List Int × Int × Unit) : List Int := (numB x.1.length ++ numsB x.1) ++ numI x.2.1

theorem spec_ConfigPack_eq {x : List Int × Int × Unit} (hl : x.1.length ≤ 2 ^ 40) : spec_ConfigPack x = some ((((), cfgOk x, ()), ()), (if cfgOk x then cfgB x else [], ())) := by
  unfold spec_ConfigPack
  rw [spec_ConfigOk_eq hl]
  simp only [Option.bind_some]
  cases h : cfgOk x with
  | false => simp
  | true =>
    obtain ⟨h1, h2, h3, h4, h5⟩ := cfgOk_spec h
    have hx : ∀ d ∈ x.1, d < 2 ^ 63 := fun d hd => by have := h5 d hd; omega
    rw [spec_l17List_eq (by omega) hx, spec_PutNum_i (by omega)]
    have a1 := numB_len9 (n := x.1.length) (by omega)
    have a2 := numsB_len hx
    have a3 := numI_len (x := x.2.1) (by omega)
    simp only [Bool.not_true, cond_false, Option.bind_some, if_true]
    rw [if_pos (by rw [lim_eq]; simp; omega)]
    rfl

theorem impl_ConfigPack_eq {x : List Int × Int × Unit} (hl : x.1.length ≤ 2 ^ 40) : impl_ConfigPack x = some ((((), cfgOk x, ()), ()), (if cfgOk x then cfgB x else [], ())) := by
  unfold impl_ConfigPack
  rw [impl_ConfigOk_eq hl]
  simp only [Option.bind_some]
  cases h : cfgOk x with
  | false => simp
  | true =>
    obtain ⟨h1, h2, h3, h4, h5⟩ := cfgOk_spec h
    have hx : ∀ d ∈ x.1, d < 2 ^ 63 := fun d hd => by have := h5 d hd; omega
    rw [impl_putList_eq (by omega) hx, impl_PutNum_i (by omega)]
    have a1 := numB_len9 (n := x.1.length) (by omega)
    have a2 := numsB_len hx
    have a3 := numI_len (x := x.2.1) (by omega)
    simp only [Bool.not_true, cond_false, Option.bind_some, if_true]
    rw [if_pos (by rw [lim_eq]; simp; omega)]
    rfl

theorem cfgB_len {x : List Int × Int × Unit} (h : cfgOk x = true) : (cfgB x).length ≤ 90 := by
  obtain ⟨h1, h2, h3, h4, h5⟩ := cfgOk_spec h
  have hx : ∀ d ∈ x.1, d < 2 ^ 63 := fun d hd => by have := h5 d hd; omega
  have a1 := numB_len9 (n := x.1.length) (by omega)
  have a2 := numsB_len hx
  have a3 := numI_len (x := x.2.1) (by omega)
  simp only [cfgB, List.length_append]
  omega

end Go.M
end

section
/- FnExactConfigPack. -/
namespace Go.M

theorem toConfig_eq {x : List Int × Int × Unit} (hl : x.1.length ≤ 2 ^ 36) : laws_toConfig x = some ((((), x.2.1, ()), ()), (x.1, ())) := by
  unfold laws_toConfig
  rw [toIntS_eq hl]
  rfl

theorem eqConfig_eq {x y : List Int × Int × Unit} (hl : x.1.length ≤ 2 ^ 40) (hm : y.1.length ≤ 2 ^ 40) : laws_eqConfig x y = some ((decide (x.1 = y.1) && decide (x.2.1 = y.2.1), ()), ()) := by
  unfold laws_eqConfig
  rw [eqIntS_eq hl hm]
  simp only [Option.bind_some]
  by_cases h : x.1 = y.1 <;> by_cases k : x.2.1 = y.2.1 <;> simp [h, k, cond_ite]

theorem markConfig_eq {c : Int} {k : Nat} (hk : k ≤ 2 ^ 40) {l : List Int} (hl : l.length ≤ 2 ^ 40) :
    laws_markConfig c k l = some ((((k + l.length : Nat) : Int), ()), ((List.range l.length).map (fun j => ((k + j : Nat) : Int)), ())) := by
  unfold laws_markConfig
  rw [markIntS_eq hk hl]
  rfl

abbrev tyConfig : Go.Fw.Ty := .cons (.sl (.int .i64)) (.cons (.int .i64) .unit)

theorem FnExactConfigPack_true {x : List Int × Int × Unit} (hv : Go.Fw.Vd tyConfig x) : laws_FnExactConfigPack x = some ((true, ()), ()) := by
  have hl : x.1.length ≤ 2 ^ 63 - 1 := hv.1.1
  unfold laws_FnExactConfigPack
  rw [szConfig_eq hl (by omega) (by omega)]
  simp only [Option.bind_some, cond_decide']
  by_cases hs : (1048576 : Int) - x.1.length < 0
  · simp [hs]
  rw [if_neg hs, if_neg hs]
  rw [toConfig_eq (by simp; omega)]
  simp only [Option.bind_some]
  rw [spec_ConfigPack_eq (by simp; omega), impl_ConfigPack_eq (by simp; omega)]
  simp only [Option.bind_some]
  generalize hc : (x.1, x.2.1, ()) = z
  have hg : (if cfgOk z = true then cfgB z else []).length ≤ 2 ^ 20 := by
    split
    · have := cfgB_len (x := z) (by assumption)
      omega
    · simp
  generalize (if cfgOk z = true then cfgB z else []) = g at hg
  subst hc
  rw [eqByteS_eq (by omega) (by omega), eqConfig_eq (by simp; omega) (by simp; omega)]
  rw [show (1 : Int) = ((1 : Nat) : Int) from rfl, markConfig_eq (by omega) (by omega), markByteS_eq (by omega) (by omega)]
  simp only [Option.bind_some]
  rw [heldByteS_eq (by omega) (by omega)]
  simp [cond_ite]
  rw [if_neg (by omega), if_neg (by omega), if_neg (by omega)]

end Go.M
end
