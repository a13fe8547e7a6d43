/- Plain facts on what the functions compute. -/
import Derived.Test.YtekamaodealggaaGreatM0
set_option linter.unusedVariables false
set_option linter.unusedSimpArgs false
section
/- Worlds: entries, stores, mends, what is right. -/
namespace Go.M
open Go.M.H (TEntry TStore TMend TSent TWorld TEra TRegister TWord TWriter TReader TEvent wsum wsum_len wsum_mem wEntry wStore wMend wSent wWorld wEra wWord wRegister wWriter wReader wEvent)

theorem dle_not (a b : Int) : decide (a ≤ b) = !decide (b < a) := by
  by_cases h : a ≤ b
  · rw [decide_eq_true h, decide_eq_false (by omega)]; rfl
  · rw [decide_eq_false h, decide_eq_true (by omega)]; rfl

theorem dlt_not (a b : Int) : decide (a < b) = !decide (b ≤ a) := by
  by_cases h : a < b
  · rw [decide_eq_true h, decide_eq_false (by omega)]; rfl
  · rw [decide_eq_false h, decide_eq_true (by omega)]; rfl

theorem dlen (n k : Nat) : decide ((n : Int) ≤ (k : Int)) = decide (n ≤ k) := by
  by_cases h : n ≤ k
  · simp [h]
  · simp [h]

theorem dlenG (n k : Nat) : decide ((n : Int) > (k : Int)) = !decide (n ≤ k) := by
  by_cases h : n ≤ k
  · rw [decide_eq_true h, decide_eq_false (by omega)]; rfl
  · rw [decide_eq_false h, decide_eq_true (by omega)]; rfl

def offOf (x : Int) : Int := cond (placeOk x) (x.tmod 4294967296) 0

theorem spec_OffOf_eq {x : Int} (h : In64 x) : spec_OffOf x = some ((offOf x, ()), ()) := by
  unfold spec_OffOf offOf
  rw [spec_PlaceOk_eq h]
  simp only [Option.bind_some]
  cases placeOk x <;> rfl

theorem impl_OffOf_eq {x : Int} (h : In64 x) : impl_OffOf x = some ((offOf x, ()), ()) := by
  unfold impl_OffOf offOf
  rw [impl_PlaceOk_eq h]
  simp only [Option.bind_some]
  cases placeOk x <;> rfl

abbrev dEntry : TEntry := (0, 0, false, [], ())

def entryOk (e : TEntry) : Bool := placeOk e.1 && (isIn e.2.1 0 30 && ((!decide (e.2.1 > 0) || decide (epochOf e.1 < e.2.1)) && (decide (e.2.2.2.1.length ≤ 40) && (!e.2.2.1 || (decide (e.2.1 > 0) && e.2.2.2.1 == [])))))

theorem spec_EntryOk_eq {e : TEntry} (h : In64 e.1) : spec_EntryOk e = some ((entryOk e, ()), ()) := by
  unfold spec_EntryOk entryOk
  rw [spec_PlaceOk_eq h, spec_l1In_eq, spec_EpochOf_eq h]
  simp only [Option.bind_some]
  rw [dle_not e.2.1 (epochOf e.1), show decide ((e.2.2.2.1.length : Int) > 40) = !decide (e.2.2.2.1.length ≤ 40) from dlenG _ 40]
  cases placeOk e.1 <;> cases isIn e.2.1 0 30 <;> cases decide (e.2.1 > 0) <;> cases decide (epochOf e.1 < e.2.1) <;> cases decide (e.2.2.2.1.length ≤ 40) <;> cases e.2.2.1 <;> rfl

theorem isIn0 {x : Int} (h : isIn x 0 30 = true) : (x == 0) = !decide (x > 0) := by
  simp only [isIn, decide_eq_true_eq] at h
  by_cases h0 : x > 0
  · have : ¬ x = 0 := by omega
    simp [h0, this]
  · have : x = 0 := by omega
    simp [this]

theorem impl_EntryOk_eq {e : TEntry} (h : In64 e.1) : impl_EntryOk e = some ((entryOk e, ()), ()) := by
  unfold impl_EntryOk entryOk impl_dataOk
  rw [impl_PlaceOk_eq h, impl_within_eq, impl_EpochOf_eq h]
  simp only [Option.bind_some]
  rw [show decide ((e.2.2.2.1.length : Int) ≤ 40) = decide (e.2.2.2.1.length ≤ 40) from dlen _ 40, show decide (e.2.1 > epochOf e.1) = decide (epochOf e.1 < e.2.1) from rfl]
  rcases Bool.eq_false_or_eq_true (isIn e.2.1 0 30) with hi | hi
  · rw [isIn0 hi, hi]
    cases placeOk e.1 <;> cases decide (e.2.1 > 0) <;> cases decide (epochOf e.1 < e.2.1) <;> cases decide (e.2.2.2.1.length ≤ 40) <;> cases e.2.2.1 <;> cases (e.2.2.2.1 == []) <;> rfl
  · rw [hi]
    cases placeOk e.1 <;> cases decide (e.2.1 > 0) <;> cases e.2.2.1 <;> simp

def entriesB (l : List TEntry) : Bool := allFrom (fun i => entryOk (l.getD i dEntry)) 0 l.length
def ascE (l : List TEntry) : Bool := allFrom (fun i => i == 0 || decide ((l.getD (i - 1) dEntry).1 < (l.getD i dEntry).1)) 0 l.length

/-- The places of entries are numbers of the machine. -/
def EIn (l : List TEntry) : Prop := ∀ e ∈ l, In64 e.1

theorem EIn.getD {l : List TEntry} (h : EIn l) {i : Nat} (hi : i < l.length) : In64 (l.getD i dEntry).1 := h _ (getD_mem hi)

theorem spec_l6List_eq {l : List TEntry} {k : Nat} (hl : l.length ≤ 2 ^ 40) (h : EIn l) : spec_l6List l k = some ((decide (l.length ≤ k) && entriesB l, ()), ()) := by
  unfold spec_l6List spec_l6List_entry
  have := all_loop (L := fun n i => spec_l6List_L4 n l i) (len := l.length) (p := fun i => entryOk (l.getD i dEntry)) (fin := true) (fun n i hi => by
    simp only [spec_l6List_L4, spec_l6List_step4, cond_decide']
    rw [if_pos (by omega), if_pos (by omega), w64_eq (by omega) (by omega), show ((i : Int) + 1) = ((i + 1 : Nat) : Int) by omega]
    simp only [Int.toNat_natCast]
    rw [show ((l.getD i (0, 0, false, [], ())).1, (l.getD i (0, 0, false, [], ())).2.1, (l.getD i (0, 0, false, [], ())).2.2.1, (l.getD i (0, 0, false, [], ())).2.2.2.1, ()) = l.getD i dEntry from rfl, spec_EntryOk_eq (h.getD hi)]
    simp only [Option.bind_some]
    cases entryOk (l.getD i dEntry) <;> rfl) (fun n => by
    simp only [spec_l6List_L4, spec_l6List_step4, cond_decide']
    rw [if_neg (by omega)]) l.length FUEL 0 (by omega) (FUEL_lt (by omega))
  rw [show ((0 : Nat) : Int) = 0 from rfl] at this
  rw [this, dlenG, Bool.and_true]
  cases decide (l.length ≤ k) <;> rfl

theorem spec_l6Asc_eq {l : List TEntry} (hl : l.length ≤ 2 ^ 40) : spec_l6Asc l = some ((ascE l, ()), ()) := by
  unfold spec_l6Asc spec_l6Asc_entry ascE
  have h1 : ∀ n (i : Nat), 0 < i → i < l.length → spec_l6Asc_L2 (n + 1) l i = cond (i == 0 || decide ((l.getD (i - 1) dEntry).1 < (l.getD i dEntry).1)) (spec_l6Asc_L2 n l ((i + 1 : Nat) : Int)) (some ((false, ()), ())) := fun n i h0 hi => by
    simp only [spec_l6Asc_L2, spec_l6Asc_step2, cond_decide']
    rw [if_pos (by omega), w64_eq (x := (i : Int) - 1) (by omega) (by omega), if_pos (by omega), if_pos (by omega), w64_eq (by omega) (by omega), show ((i : Int) + 1) = ((i + 1 : Nat) : Int) by omega]
    have h1 : ((i : Int) - 1).toNat = i - 1 := by omega
    have h2 : (i == 0) = false := by simp; omega
    rw [h1, h2, Int.toNat_natCast, Bool.false_or]
    by_cases hlt : (l.getD (i - 1) (0, 0, false, [], ())).1 < (l.getD i (0, 0, false, [], ())).1
    · rw [if_neg (by omega), show decide ((l.getD (i - 1) dEntry).1 < (l.getD i dEntry).1) = true from decide_eq_true hlt, cond_true]
    · rw [if_pos (by omega), show decide ((l.getD (i - 1) dEntry).1 < (l.getD i dEntry).1) = false from decide_eq_false hlt, cond_false]
  cases hlen : l.length with
  | zero =>
    obtain ⟨m, hm⟩ : ∃ m, FUEL = m + 1 := ⟨FUEL - 1, by have := FUEL_ge; omega⟩
    rw [hm]
    simp only [spec_l6Asc_L2, spec_l6Asc_step2, cond_decide']
    rw [if_neg (by omega)]
    rfl
  | succ k =>
    have := all_loop (L := fun n i => if (0 : Int) < i then spec_l6Asc_L2 n l i else cond (decide (0 < n)) (spec_l6Asc_L2 (n - 1) l 1) none) (len := l.length) (p := fun i => i == 0 || decide ((l.getD (i - 1) dEntry).1 < (l.getD i dEntry).1)) (fin := true) (fun n i hi => by
      by_cases h0 : i = 0
      · subst h0
        simp
      · rw [if_pos (by omega), if_pos (by omega), h1 n i (by omega) hi]) (fun n => by
      rw [if_pos (by omega)]
      simp only [spec_l6Asc_L2, spec_l6Asc_step2, cond_decide']
      rw [if_neg (by omega)]) l.length (FUEL + 1) 0 (by omega) (by have := FUEL_ge; omega)
    simp only [hlen] at this ⊢
    simpa using this

theorem impl_entriesOk_eq {l : List TEntry} (hl : l.length ≤ 2 ^ 40) (h : EIn l) : impl_entriesOk l = some ((entriesB l, ()), ()) := by
  unfold impl_entriesOk impl_entriesOk_entry
  have := all_loop (L := fun n i => impl_entriesOk_L2 n l l.length i) (len := l.length) (p := fun i => entryOk (l.getD i dEntry)) (fin := true) (fun n i hi => by
    simp only [impl_entriesOk_L2, impl_entriesOk_step2, cond_decide']
    rw [if_pos (by omega), if_pos (by omega), w64_eq (by omega) (by omega), show ((i : Int) + 1) = ((i + 1 : Nat) : Int) by omega]
    simp only [Int.toNat_natCast]
    rw [show ((l.getD i (0, 0, false, [], ())).1, (l.getD i (0, 0, false, [], ())).2.1, (l.getD i (0, 0, false, [], ())).2.2.1, (l.getD i (0, 0, false, [], ())).2.2.2.1, ()) = l.getD i dEntry from rfl, impl_EntryOk_eq (h.getD hi)]
    simp only [Option.bind_some]
    cases entryOk (l.getD i dEntry) <;> rfl) (fun n => by
    simp only [impl_entriesOk_L2, impl_entriesOk_step2, cond_decide']
    rw [if_neg (by omega)]) l.length FUEL 0 (by omega) (FUEL_lt (by omega))
  rw [show ((0 : Nat) : Int) = 0 from rfl] at this
  rw [this, Bool.and_true]
  rfl

theorem impl_placesAscend_eq {l : List TEntry} (hl : l.length ≤ 2 ^ 40) : impl_placesAscend l = some ((ascE l, ()), ()) := by
  unfold impl_placesAscend impl_placesAscend_entry
  have := all_loop (L := fun n i => impl_placesAscend_L2 n l l l.length i) (len := l.length) (p := fun i => i == 0 || decide ((l.getD (i - 1) dEntry).1 < (l.getD i dEntry).1)) (fin := true) (fun n i hi => by
    simp only [impl_placesAscend_L2, impl_placesAscend_step2, cond_decide']
    rw [if_pos (by omega), if_pos (by omega), w64_eq (x := (i : Int) + 1) (by omega) (by omega), show ((i : Int) + 1) = ((i + 1 : Nat) : Int) by omega]
    by_cases h0 : i = 0
    · subst h0
      rw [if_neg (by omega)]
      rfl
    · rw [if_pos (by omega), w64_eq (by omega) (by omega), if_pos (by omega)]
      have h1 : ((i : Int) - 1).toNat = i - 1 := by omega
      have h2 : (i == 0) = false := by simpa using h0
      rw [h1, h2, Int.toNat_natCast, Bool.false_or]
      by_cases hlt : (l.getD (i - 1) (0, 0, false, [], ())).1 < (l.getD i (0, 0, false, [], ())).1
      · rw [if_neg (by omega), show decide ((l.getD (i - 1) dEntry).1 < (l.getD i dEntry).1) = true from decide_eq_true hlt, cond_true]
      · rw [if_pos (by omega), show decide ((l.getD (i - 1) dEntry).1 < (l.getD i dEntry).1) = false from decide_eq_false hlt, cond_false]) (fun n => by
    simp only [impl_placesAscend_L2, impl_placesAscend_step2, cond_decide']
    rw [if_neg (by omega)]) l.length FUEL 0 (by omega) (FUEL_lt (by omega))
  rw [show ((0 : Nat) : Int) = 0 from rfl] at this
  rw [this, Bool.and_true]
  rfl

def storeOk (s : TStore) : Bool := (decide (s.1.length ≤ 200) && entriesB s.1) && ((decide (s.2.1.length ≤ 20) && entriesB s.2.1) && (ascE s.1 && isIn s.2.2.1 0 30))

def SIn (s : TStore) : Prop := EIn s.1 ∧ EIn s.2.1

theorem spec_StoreOk_eq {s : TStore} (hl : wStore s ≤ 2 ^ 30) (h : SIn s) : spec_StoreOk s = some ((storeOk s, ()), ()) := by
  have l1 := wsum_len (f := wEntry) (l := s.1)
  have l2 := wsum_len (f := wEntry) (l := s.2.1)
  unfold wStore at hl
  have e1 := spec_l6List_eq (l := s.1) (k := 200) (by omega) h.1
  have e2 := spec_l6List_eq (l := s.2.1) (k := 20) (by omega) h.2
  rw [show ((200 : Nat) : Int) = 200 from rfl] at e1
  rw [show ((20 : Nat) : Int) = 20 from rfl] at e2
  unfold spec_StoreOk storeOk
  rw [e1, e2, spec_l6Asc_eq (by omega), spec_l1In_eq]
  simp only [Option.bind_some]
  cases (decide (s.1.length ≤ 200) && entriesB s.1) <;> cases (decide (s.2.1.length ≤ 20) && entriesB s.2.1) <;> cases ascE s.1 <;> rfl

theorem impl_StoreOk_eq {s : TStore} (hl : wStore s ≤ 2 ^ 30) (h : SIn s) : impl_StoreOk s = some ((storeOk s, ()), ()) := by
  have l1 := wsum_len (f := wEntry) (l := s.1)
  have l2 := wsum_len (f := wEntry) (l := s.2.1)
  unfold wStore at hl
  unfold impl_StoreOk storeOk
  rw [impl_entriesOk_eq (by omega) h.1, impl_entriesOk_eq (by omega) h.2, impl_placesAscend_eq (by omega), impl_within_eq, show decide ((s.1.length : Int) > 200) = !decide (s.1.length ≤ 200) from dlenG _ 200, show decide ((s.2.1.length : Int) > 20) = !decide (s.2.1.length ≤ 20) from dlenG _ 20]
  simp only [Option.bind_some]
  cases decide (s.1.length ≤ 200) <;> cases decide (s.2.1.length ≤ 20) <;> cases entriesB s.1 <;> cases entriesB s.2.1 <;> cases ascE s.1 <;> rfl

end Go.M
end

section
/- Worlds: mends, what is lost, what is right. -/
namespace Go.M
open Go.M.H (TEntry TStore TMend TSent TWorld TEra TRegister TWord TWriter TReader TEvent wsum wsum_len wsum_mem wEntry wStore wMend wSent wWorld wEra wWord wRegister wWriter wReader wEvent wIntS)

theorem all_loopN {L : Nat → Int → Option ((Bool × Unit) × Unit)} {len N : Nat} {p : Nat → Bool} {fin : Bool} (h1 : ∀ n (i : Nat), i < len → L (n + 1) i = cond (p i) (L n ((i + 1 : Nat) : Int)) (some ((false, ()), ()))) (h2 : ∀ n, N ≤ n → L (n + 1) (len : Int) = some ((fin, ()), ())) :
    ∀ d n i, i + d = len → d + N < n → L n i = some ((allFrom p i d && fin, ()), ())
  | 0, n, i, hd, h => by
    obtain ⟨m, rfl⟩ : ∃ m, n = m + 1 := ⟨n - 1, by omega⟩
    have : i = len := by omega
    subst this
    rw [h2 m (by omega)]
    rfl
  | d + 1, n, i, hd, h => by
    obtain ⟨m, rfl⟩ : ∃ m, n = m + 1 := ⟨n - 1, by omega⟩
    rw [h1 m i (by omega)]
    simp only [allFrom]
    cases p i with
    | false => rfl
    | true => rw [cond_true, all_loopN h1 h2 d m (i + 1) (by omega) (by omega)]; rfl

def lastB (l : List TEntry) : Int := cond (l.length == 0) 0 (offOf (l.getD (l.length - 1) dEntry).1)

theorem spec_l9Last_eq {m : TMend} (hl : m.2.2.2.1.length ≤ 2 ^ 40) (h : EIn m.2.2.2.1) : spec_l9Last m = some ((lastB m.2.2.2.1, ()), ()) := by
  unfold spec_l9Last lastB
  by_cases h0 : m.2.2.2.1.length = 0
  · simp [h0]
  · have e1 : ((m.2.2.2.1.length : Int) == 0) = false := by rw [beq_eq_false_iff_ne]; omega
    have e2 : (m.2.2.2.1.length == 0) = false := by rw [beq_eq_false_iff_ne]; omega
    rw [e1, e2]
    simp only [cond_false]
    rw [w64_eq (by omega) (by omega), if_pos (by omega), show ((m.2.2.2.1.length : Int) - 1).toNat = m.2.2.2.1.length - 1 by omega, spec_OffOf_eq (h.getD (by omega))]
    rfl

theorem impl_lastOff_eq {m : TMend} (hl : m.2.2.2.1.length ≤ 2 ^ 40) (h : EIn m.2.2.2.1) : impl_lastOff m = some ((lastB m.2.2.2.1, ()), ()) := by
  unfold impl_lastOff lastB
  by_cases h0 : m.2.2.2.1.length = 0
  · simp [h0]
  · have e1 : ((m.2.2.2.1.length : Int) == 0) = false := by rw [beq_eq_false_iff_ne]; omega
    have e2 : (m.2.2.2.1.length == 0) = false := by rw [beq_eq_false_iff_ne]; omega
    rw [e1, e2]
    simp only [cond_false]
    rw [w64_eq (by omega) (by omega), if_pos (by omega), show ((m.2.2.2.1.length : Int) - 1).toNat = m.2.2.2.1.length - 1 by omega, impl_OffOf_eq (h.getD (by omega))]
    rfl

def seenP (l : List TEntry) (ep by_ : Int) (i : Nat) : Bool := entryOk (l.getD i dEntry) && ((epochOf (l.getD i dEntry).1 == ep) && decide ((l.getD i dEntry).2.1 < by_))
def seenB (l : List TEntry) (ep by_ : Int) : Bool := allFrom (seenP l ep by_) 0 l.length
def wroteB (c : Cfg') (l : List (List Int)) : Bool := allFrom (fun i => nodesOk c (l.getD i [])) 0 l.length

def mendOk (c : Cfg') (m : TMend) : Bool := cfgOk c && (isIn m.2.1 1 30 && (isIn m.1 (m.2.1 + 1) 30 && (nodesOk c m.2.2.1 && (ascE m.2.2.2.1 && (seenB m.2.2.2.1 m.2.1 m.1 && (wroteB c m.2.2.2.2.2.1 && ((m.2.2.2.2.2.1.length : Int) == cond m.2.2.2.2.1 (lastB m.2.2.2.1) 0)))))))

theorem spec_MendOk_eq {c : Cfg'} {m : TMend} (hc : c.1.length ≤ 2 ^ 40) (hm : wMend m ≤ 2 ^ 30) (h : EIn m.2.2.2.1) : spec_MendOk c m = some ((mendOk c m, ()), ()) := by
  have l1 := wsum_len (f := wEntry) (l := m.2.2.2.1)
  have l2 := wsum_len (f := wIntS) (l := m.2.2.2.2.2.1)
  unfold wMend at hm
  have wr : ∀ n, m.2.2.2.2.2.1.length + 1 ≤ n → spec_MendOk_L9 n 0 c.1 c.2.1 m.1 m.2.1 m.2.2.1 m.2.2.2.1 m.2.2.2.2.1 m.2.2.2.2.2.1 = some ((wroteB c m.2.2.2.2.2.1 && ((m.2.2.2.2.2.1.length : Int) == cond m.2.2.2.2.1 (lastB m.2.2.2.1) 0), ()), ()) := fun n hn => by
    refine all_loop (L := fun n i => spec_MendOk_L9 n i c.1 c.2.1 m.1 m.2.1 m.2.2.1 m.2.2.2.1 m.2.2.2.2.1 m.2.2.2.2.2.1) (len := m.2.2.2.2.2.1.length) (p := fun i => nodesOk c (m.2.2.2.2.2.1.getD i [])) (fin := (m.2.2.2.2.2.1.length : Int) == cond m.2.2.2.2.1 (lastB m.2.2.2.1) 0) (fun n i hi => ?_) (fun n => ?_) m.2.2.2.2.2.1.length n 0 (by omega) (by omega)
    · have hwi : (m.2.2.2.2.2.1.getD i []).length ≤ wsum wIntS m.2.2.2.2.2.1 := wsum_mem (f := wIntS) (getD_mem (d := []) hi)
      simp only [spec_MendOk_L9, spec_MendOk_step9, cond_decide']
      rw [if_pos (by omega), if_pos (by omega), w64_eq (by omega) (by omega), show ((i : Int) + 1) = ((i + 1 : Nat) : Int) by omega, Int.toNat_natCast, show (c.1, c.2.1, ()) = c from rfl, spec_NodesOk_eq hc (by omega)]
      simp only [Option.bind_some]
      cases nodesOk c (m.2.2.2.2.2.1.getD i []) <;> rfl
    · simp only [spec_MendOk_L9, spec_MendOk_step9, cond_decide']
      rw [if_neg (by omega), show (m.1, m.2.1, m.2.2.1, m.2.2.2.1, m.2.2.2.2.1, m.2.2.2.2.2.1, ()) = m from rfl, spec_l9Last_eq (by omega) h]
      cases m.2.2.2.2.1 <;> rfl
  have se := all_loopN (L := fun n i => spec_MendOk_L4 n i c.1 c.2.1 m.1 m.2.1 m.2.2.1 m.2.2.2.1 m.2.2.2.2.1 m.2.2.2.2.2.1) (len := m.2.2.2.1.length) (N := m.2.2.2.2.2.1.length + 1) (p := seenP m.2.2.2.1 m.2.1 m.1) (fin := wroteB c m.2.2.2.2.2.1 && ((m.2.2.2.2.2.1.length : Int) == cond m.2.2.2.2.1 (lastB m.2.2.2.1) 0)) (fun n i hi => by
      simp only [spec_MendOk_L4, spec_MendOk_step4, cond_decide', seenP]
      have hb : (0 : Int) ≤ (i : Int) ∧ (i : Int) < (m.2.2.2.1.length : Int) := by omega
      rw [if_pos hb.2, w64_eq (by omega) (by omega), show ((i : Int) + 1) = ((i + 1 : Nat) : Int) by omega, Int.toNat_natCast]
      simp only [if_pos hb]
      rw [show ((m.2.2.2.1.getD i (0, 0, false, [], ())).1, (m.2.2.2.1.getD i (0, 0, false, [], ())).2.1, (m.2.2.2.1.getD i (0, 0, false, [], ())).2.2.1, (m.2.2.2.1.getD i (0, 0, false, [], ())).2.2.2.1, ()) = m.2.2.2.1.getD i dEntry from rfl, spec_EntryOk_eq (h.getD hi), spec_EpochOf_eq (h.getD hi)]
      simp only [Option.bind_some, bne]
      cases entryOk (m.2.2.2.1.getD i dEntry) with
      | false => rfl
      | true =>
        cases (epochOf (m.2.2.2.1.getD i dEntry).1 == m.2.1) with
        | false => rfl
        | true =>
          simp only [Bool.not_true, cond_false, Bool.true_and]
          rw [dlt_not, cond_ite]
          by_cases hx : m.1 ≤ (m.2.2.2.1.getD i (0, 0, false, [], ())).2.1
          · rw [if_pos hx, show decide (m.1 ≤ (m.2.2.2.1.getD i dEntry).2.1) = true from decide_eq_true hx]
            rfl
          · rw [if_neg (by omega), show decide (m.1 ≤ (m.2.2.2.1.getD i dEntry).2.1) = false from decide_eq_false hx]
            rfl) (fun n hn => by
      simp only [spec_MendOk_L4, spec_MendOk_step4, cond_decide']
      rw [if_neg (by omega), wr n hn]) m.2.2.2.1.length FUEL 0 (by omega) (FUEL_lt (by omega))
  rw [show ((0 : Nat) : Int) = 0 from rfl] at se
  unfold spec_MendOk spec_MendOk_entry mendOk
  rw [show (c.1, c.2.1, ()) = c from rfl, spec_ConfigOk_eq hc, spec_l1In_eq, spec_l1In_eq, spec_NodesOk_eq hc (by omega), spec_l6Asc_eq (by omega), se]
  simp only [Option.bind_some]
  rcases Bool.eq_false_or_eq_true (isIn m.2.1 1 30) with hi | hi
  · have hi2 := hi
    simp only [isIn, decide_eq_true_eq] at hi2
    rw [w64_eq (by omega) (by omega), hi]
    cases cfgOk c <;> cases isIn m.1 (m.2.1 + 1) 30 <;> cases nodesOk c m.2.2.1 <;> cases ascE m.2.2.2.1 <;> rfl
  · rw [hi]
    cases cfgOk c <;> rfl

theorem impl_seenOk_eq {m : TMend} (hm : wMend m ≤ 2 ^ 30) (h : EIn m.2.2.2.1) : impl_seenOk m = some ((seenB m.2.2.2.1 m.2.1 m.1 && ascE m.2.2.2.1, ()), ()) := by
  have l1 := wsum_len (f := wEntry) (l := m.2.2.2.1)
  unfold wMend at hm
  unfold impl_seenOk impl_seenOk_entry
  exact all_loop (L := fun n i => impl_seenOk_L2 n m.2.2.2.1 m.2.2.2.1.length i m.1 m.2.1 m.2.2.1 m.2.2.2.1 m.2.2.2.2.1 m.2.2.2.2.2.1) (len := m.2.2.2.1.length) (p := seenP m.2.2.2.1 m.2.1 m.1) (fin := ascE m.2.2.2.1) (fun n i hi => by
      simp only [impl_seenOk_L2, impl_seenOk_step2, cond_decide', seenP]
      rw [if_pos (by omega), if_pos (by omega), w64_eq (by omega) (by omega), show ((i : Int) + 1) = ((i + 1 : Nat) : Int) by omega, Int.toNat_natCast]
      rw [show ((m.2.2.2.1.getD i (0, 0, false, [], ())).1, (m.2.2.2.1.getD i (0, 0, false, [], ())).2.1, (m.2.2.2.1.getD i (0, 0, false, [], ())).2.2.1, (m.2.2.2.1.getD i (0, 0, false, [], ())).2.2.2.1, ()) = m.2.2.2.1.getD i dEntry from rfl, impl_EntryOk_eq (h.getD hi), impl_EpochOf_eq (h.getD hi)]
      simp only [Option.bind_some, bne]
      cases entryOk (m.2.2.2.1.getD i dEntry) with
      | false => rfl
      | true =>
        cases (epochOf (m.2.2.2.1.getD i dEntry).1 == m.2.1) with
        | false => rfl
        | true =>
          simp only [Bool.not_true, cond_false, Bool.true_and]
          rw [dlt_not, cond_ite]
          by_cases hx : m.1 ≤ (m.2.2.2.1.getD i (0, 0, false, [], ())).2.1
          · rw [if_pos hx, show decide (m.1 ≤ (m.2.2.2.1.getD i dEntry).2.1) = true from decide_eq_true hx]
            rfl
          · rw [if_neg (by omega), show decide (m.1 ≤ (m.2.2.2.1.getD i dEntry).2.1) = false from decide_eq_false hx]
            rfl) (fun n => by
      simp only [impl_seenOk_L2, impl_seenOk_step2, cond_decide']
      rw [if_neg (by omega), impl_placesAscend_eq (by omega)]
      rfl) m.2.2.2.1.length FUEL 0 (by omega) (FUEL_lt (by omega))

theorem impl_MendOk_eq {c : Cfg'} {m : TMend} (hc : c.1.length ≤ 2 ^ 40) (hm : wMend m ≤ 2 ^ 30) (h : EIn m.2.2.2.1) : impl_MendOk c m = some ((mendOk c m, ()), ()) := by
  have l1 := wsum_len (f := wEntry) (l := m.2.2.2.1)
  have l2 := wsum_len (f := wIntS) (l := m.2.2.2.2.2.1)
  have hm2 := hm
  unfold wMend at hm
  have key := all_loop (L := fun n i => impl_MendOk_L2 n m.2.2.2.2.2.1 m.2.2.2.2.2.1.length i c.1 c.2.1 m.1 m.2.1 m.2.2.1 m.2.2.2.1 m.2.2.2.2.1 m.2.2.2.2.2.1) (len := m.2.2.2.2.2.1.length) (p := fun i => nodesOk c (m.2.2.2.2.2.1.getD i []))
    (fin := cfgOk c && (isIn m.2.1 1 30 && (isIn m.1 (m.2.1 + 1) 30 && (nodesOk c m.2.2.1 && ((seenB m.2.2.2.1 m.2.1 m.1 && ascE m.2.2.2.1) && ((m.2.2.2.2.2.1.length : Int) == cond m.2.2.2.2.1 (lastB m.2.2.2.1) 0)))))) (fun n i hi => by
      have hwi : (m.2.2.2.2.2.1.getD i []).length ≤ wsum wIntS m.2.2.2.2.2.1 := wsum_mem (f := wIntS) (getD_mem (d := []) hi)
      simp only [impl_MendOk_L2, impl_MendOk_step2, cond_decide']
      rw [if_pos (by omega), if_pos (by omega), w64_eq (x := (i : Int) + 1) (by omega) (by omega), show ((i : Int) + 1) = ((i + 1 : Nat) : Int) by omega, Int.toNat_natCast, show (c.1, c.2.1, ()) = c from rfl, impl_NodesOk_eq hc (by omega)]
      simp only [Option.bind_some]
      cases nodesOk c (m.2.2.2.2.2.1.getD i []) <;> rfl) (fun n => by
      simp only [impl_MendOk_L2, impl_MendOk_step2, cond_decide']
      rw [if_neg (by omega), show (m.1, m.2.1, m.2.2.1, m.2.2.2.1, m.2.2.2.2.1, m.2.2.2.2.2.1, ()) = m from rfl, impl_lastOff_eq (by omega) h, show (c.1, c.2.1, ()) = c from rfl, impl_ConfigOk_eq hc, impl_NodesOk_eq hc (by omega), impl_seenOk_eq hm2 h]
      simp only [Option.bind_some, impl_isEpoch, impl_within_eq]
      rcases Bool.eq_false_or_eq_true (isIn m.2.1 1 30) with hi | hi
      · have hi2 := hi
        simp only [isIn, decide_eq_true_eq] at hi2
        rw [w64_eq (by omega) (by omega), hi]
        cases m.2.2.2.2.1 <;> cases cfgOk c <;> cases isIn m.1 (m.2.1 + 1) 30 <;> cases nodesOk c m.2.2.1 <;> cases (seenB m.2.2.2.1 m.2.1 m.1 && ascE m.2.2.2.1) <;> rfl
      · rw [hi]
        cases m.2.2.2.2.1 <;> cases cfgOk c <;> rfl) m.2.2.2.2.2.1.length FUEL 0 (by omega) (FUEL_lt (by omega))
  unfold impl_MendOk impl_MendOk_entry mendOk
  rw [show ((0 : Nat) : Int) = 0 from rfl] at key
  rw [key]
  unfold wroteB
  cases allFrom (fun i => nodesOk c (m.2.2.2.2.2.1.getD i [])) 0 m.2.2.2.2.2.1.length <;> cases cfgOk c <;> cases isIn m.2.1 1 30 <;> cases isIn m.1 (m.2.1 + 1) 30 <;> cases nodesOk c m.2.2.1 <;> cases seenB m.2.2.2.1 m.2.1 m.1 <;> cases ascE m.2.2.2.1 <;> simp

end Go.M
end

section
/- Worlds that are right. -/
namespace Go.M
open Go.M.H (TEntry TStore TMend TSent TWorld TEra TRegister TWord TWriter TReader TEvent wsum wsum_len wsum_mem wEntry wStore wMend wSent wWorld wEra wWord wRegister wWriter wReader wEvent wIntS)

/-! Who is lost. -/

theorem both_one {x : Int} {l : List Int} (hl : l.length ≤ 2 ^ 40) : ∃ r, impl_both [x] l = some (((), ()), (r, ())) ∧ decide ((r.length : Int) > 0) = l.contains x := by
  obtain ⟨m, hm⟩ : ∃ m, FUEL = m + 2 := ⟨FUEL - 2, by have := FUEL_ge; omega⟩
  unfold impl_both impl_copyInts
  rw [if_pos (by rw [lim_eq]; simp)]
  simp only [Option.bind_some]
  unfold slices_DeleteFunc_int_int_impl_both_1 slices_DeleteFunc_int_int_impl_both_1_entry slices_IndexFunc_int_int_impl_both_1 slices_IndexFunc_int_int_impl_both_1_entry
  rw [hm]
  simp only [slices_IndexFunc_int_int_impl_both_1_L2, slices_IndexFunc_int_int_impl_both_1_step2, impl_both_1, List.length_cons, List.length_nil, cond_decide']
  rw [if_pos (by omega), if_pos (by omega)]
  simp only [Int.toNat_zero, List.getD_cons_zero]
  rw [Contains_eq hl]
  simp only [Option.bind_some]
  cases l.contains x with
  | true =>
    simp only [Bool.not_true, cond_false]
    rw [w64_eq (x := 0 + 1) (by omega) (by omega), if_neg (by omega)]
    exact ⟨[x], rfl, rfl⟩
  | false =>
    simp only [Bool.not_false, cond_true, Option.bind_some]
    rw [w64_eq (x := 0 + 1) (by omega) (by omega)]
    simp only [slices_DeleteFunc_int_int_impl_both_1_L5, slices_DeleteFunc_int_int_impl_both_1_step5, cond_decide', List.length_cons, List.length_nil]
    rw [if_neg (by omega)]
    exact ⟨[], rfl, rfl⟩

theorem isLost_eq {w : TWorld} {x : Int} (hl : w.2.2.2.1.length ≤ 2 ^ 40) : impl_World_isLost w x = some ((w.2.2.2.1.contains x, ()), ()) := by
  unfold impl_World_isLost
  obtain ⟨r, h1, h2⟩ := both_one (x := x) hl
  rw [h1]
  simp only [Option.bind_some]
  rw [h2]

theorem l4Has_eq {l : List Int} {x : Int} (hl : l.length ≤ 2 ^ 40) : spec_l4Has l x = some ((l.contains x, ()), ()) := by
  have key : ∀ (n i : Nat), i ≤ l.length → l.length - i < n → spec_l4Has_L2 n l x i = some (((l.drop i).contains x, ()), ()) := by
    intro n
    induction n with
    | zero => intro i _ h; omega
    | succ n ih =>
      intro i hi h
      simp only [spec_l4Has_L2, spec_l4Has_step2, cond_decide']
      by_cases hc : i < l.length
      · rw [if_pos (by omega), if_pos (by omega), w64_eq (by omega) (by omega), show ((i : Int) + 1) = ((i + 1 : Nat) : Int) by omega, getD_nat hc, drop_cons hc, ih (i + 1) (by omega) (by omega)]
        simp only [List.contains_cons]
        by_cases he : l[i] = x
        · have h1 : (l[i] == x) = true := by simp [he]
          have h2 : (x == l[i]) = true := by simp [he]
          rw [h1, h2]
          rfl
        · have h1 : (l[i] == x) = false := by simp [he]
          have h2 : (x == l[i]) = false := by simp; exact fun h => he h.symm
          rw [h1, h2]
          rfl
      · rw [if_neg (by omega), List.drop_eq_nil_of_le (by omega)]
        rfl
  unfold spec_l4Has spec_l4Has_entry
  have := key FUEL 0 (by omega) (FUEL_lt (by omega))
  simpa using this

/-! The first epoch that is open. -/

def foFrom (l : List TEra) : Nat → Nat → Int
  | _, 0 => 0
  | i, d + 1 => cond (!(l.getD i ([], false, 0, ())).2.1) ((i : Int) + 1) (foFrom l (i + 1) d)

def firstOpen (l : List TEra) : Int := foFrom l 0 l.length

theorem spec_FirstOpen_eq {r : TRegister} (hl : r.1.length ≤ 2 ^ 40) : spec_FirstOpen r = some ((firstOpen r.1, ()), ()) := by
  have key : ∀ (d n i : Nat), i + d = r.1.length → d < n → spec_FirstOpen_L2 n i r.1 r.2.1 = some ((foFrom r.1 i d, ()), ()) := by
    intro d
    induction d with
    | zero =>
      intro n i hi hn
      obtain ⟨m, rfl⟩ : ∃ m, n = m + 1 := ⟨n - 1, by omega⟩
      simp only [spec_FirstOpen_L2, spec_FirstOpen_step2, cond_decide', foFrom]
      rw [if_neg (by omega)]
    | succ d ih =>
      intro n i hi hn
      obtain ⟨m, rfl⟩ : ∃ m, n = m + 1 := ⟨n - 1, by omega⟩
      simp only [spec_FirstOpen_L2, spec_FirstOpen_step2, cond_decide', foFrom]
      rw [if_pos (by omega), if_pos (by omega), w64_eq (by omega) (by omega), show ((i : Int) + 1) = ((i + 1 : Nat) : Int) by omega, ih m (i + 1) (by omega) (by omega), Int.toNat_natCast]
      cases (r.1.getD i ([], false, 0, ())).2.1 <;> rfl
  unfold spec_FirstOpen spec_FirstOpen_entry firstOpen
  have := key r.1.length FUEL 0 (by omega) (FUEL_lt (by omega))
  simpa using this

theorem impl_FirstOpen_eq {r : TRegister} (hl : r.1.length ≤ 2 ^ 40) : impl_FirstOpen r = some ((firstOpen r.1, ()), ()) := by
  have key : ∀ (d n i : Nat), i + d = r.1.length → d < n → impl_FirstOpen_L2 n r.1 r.1.length i = some ((foFrom r.1 i d, ()), ()) := by
    intro d
    induction d with
    | zero =>
      intro n i hi hn
      obtain ⟨m, rfl⟩ : ∃ m, n = m + 1 := ⟨n - 1, by omega⟩
      simp only [impl_FirstOpen_L2, impl_FirstOpen_step2, cond_decide', foFrom]
      rw [if_neg (by omega)]
    | succ d ih =>
      intro n i hi hn
      obtain ⟨m, rfl⟩ : ∃ m, n = m + 1 := ⟨n - 1, by omega⟩
      simp only [impl_FirstOpen_L2, impl_FirstOpen_step2, cond_decide', foFrom]
      rw [if_pos (by omega), if_pos (by omega), w64_eq (by omega) (by omega), show ((i : Int) + 1) = ((i + 1 : Nat) : Int) by omega, ih m (i + 1) (by omega) (by omega), Int.toNat_natCast]
      cases (r.1.getD i ([], false, 0, ())).2.1 <;> rfl
  unfold impl_FirstOpen impl_FirstOpen_entry firstOpen
  have := key r.1.length FUEL 0 (by omega) (FUEL_lt (by omega))
  simpa using this

/-! The parts. -/

/-- The numbers of a world are those of the machine. -/
structure WIn (w : TWorld) : Prop where
  weight : wWorld w ≤ 2 ^ 20
  stores : ∀ s ∈ w.2.2.1, SIn s
  trim : In64 w.2.2.2.2.2.1
  mends : ∀ m ∈ w.2.2.2.2.2.2.2.1, EIn m.2.2.2.1
  sent : ∀ s ∈ w.2.2.2.2.2.2.2.2.2.1, In64 s.1

abbrev dStore : TStore := ([], [], 0, ())
abbrev dWriter : TWriter := (0, [], ())
abbrev dMend : TMend := (0, 0, [], [], false, [], ())
abbrev dReader : TReader := (0, 0, [], ())
abbrev dSent : TSent := (0, [], false, ())

def wCfg (w : TWorld) : Cfg' := (w.1, w.2.1, ())
def wReg (w : TWorld) : TRegister := (w.2.2.2.2.1, w.2.2.2.2.2.1, ())

def storeP (w : TWorld) (i : Nat) : Bool := storeOk (w.2.2.1.getD i dStore) && (!w.2.2.2.1.contains (i : Int) || ((w.2.2.1.getD i dStore).1.length == 0 && ((w.2.2.1.getD i dStore).2.1.length == 0 && (w.2.2.1.getD i dStore).2.2.1 == 0)))
def writerP (w : TWorld) (i : Nat) : Bool := writerOk (wCfg w) (w.2.2.2.2.2.2.1.getD i dWriter) && (decide ((w.2.2.2.2.2.2.1.getD i dWriter).1 ≤ (w.2.2.2.2.1.length : Int)) && (i == 0 || decide ((w.2.2.2.2.2.2.1.getD (i - 1) dWriter).1 < (w.2.2.2.2.2.2.1.getD i dWriter).1)))
def mendP (w : TWorld) (i : Nat) : Bool := mendOk (wCfg w) (w.2.2.2.2.2.2.2.1.getD i dMend) && (((w.2.2.2.2.2.2.2.1.getD i dMend).1 == (w.2.2.2.2.1.length : Int)) && ((w.2.2.2.2.2.2.2.1.getD i dMend).2.1 == firstOpen w.2.2.2.2.1))
def sentP (w : TWorld) (i : Nat) : Bool := (placeOk (w.2.2.2.2.2.2.2.2.2.1.getD i dSent).1 && decide (epochOf (w.2.2.2.2.2.2.2.2.2.1.getD i dSent).1 ≤ (w.2.2.2.2.1.length : Int))) && (decide ((w.2.2.2.2.2.2.2.2.2.1.getD i dSent).2.1.length ≤ 40) && (i == 0 || decide ((w.2.2.2.2.2.2.2.2.2.1.getD (i - 1) dSent).1 < (w.2.2.2.2.2.2.2.2.2.1.getD i dSent).1)))

def storesB (w : TWorld) : Bool := allFrom (storeP w) 0 w.2.2.1.length
def writersB (w : TWorld) : Bool := allFrom (writerP w) 0 w.2.2.2.2.2.2.1.length
def mendsB (w : TWorld) : Bool := allFrom (mendP w) 0 w.2.2.2.2.2.2.2.1.length
def sentB (w : TWorld) : Bool := allFrom (sentP w) 0 w.2.2.2.2.2.2.2.2.2.1.length
def readersB (w : TWorld) : Bool := decide (w.2.2.2.2.2.2.2.2.1.length = 2) && (rdrOk (w.2.2.2.2.2.2.2.2.1.getD 0 dReader) && rdrOk (w.2.2.2.2.2.2.2.2.1.getD 1 dReader))

def worldOk (w : TWorld) : Bool := cfgOk (wCfg w) && (decide (w.2.2.1.length = w.1.length) && (nodesOk (wCfg w) w.2.2.2.1 && ((w.2.2.2.2.2.2.2.2.2.2.1 || !holds (wCfg w) w.2.2.2.1) && (storesB w && (regOk (wCfg w) (wReg w) && (decide (w.2.2.2.2.2.2.1.length ≤ 4) && (decide (w.2.2.2.2.2.2.2.1.length ≤ 1) && (writersB w && (mendsB w && (readersB w && (decide (w.2.2.2.2.2.2.2.2.2.1.length ≤ 120) && sentB w)))))))))))

section
variable {w : TWorld} (h : WIn w)
include h

theorem WIn.lens : w.1.length ≤ 2 ^ 20 ∧ wsum wStore w.2.2.1 ≤ 2 ^ 20 ∧ w.2.2.2.1.length ≤ 2 ^ 20 ∧ wsum wEra w.2.2.2.2.1 ≤ 2 ^ 20 ∧ wsum wWriter w.2.2.2.2.2.2.1 ≤ 2 ^ 20 ∧ wsum wMend w.2.2.2.2.2.2.2.1 ≤ 2 ^ 20 ∧ wsum wReader w.2.2.2.2.2.2.2.2.1 ≤ 2 ^ 20 ∧ wsum wSent w.2.2.2.2.2.2.2.2.2.1 ≤ 2 ^ 20 := by
  have := h.weight
  unfold wWorld at this
  omega

theorem WIn.lens2 : w.2.2.1.length ≤ 2 ^ 20 ∧ w.2.2.2.2.1.length ≤ 2 ^ 20 ∧ w.2.2.2.2.2.2.1.length ≤ 2 ^ 20 ∧ w.2.2.2.2.2.2.2.1.length ≤ 2 ^ 20 ∧ w.2.2.2.2.2.2.2.2.1.length ≤ 2 ^ 20 ∧ w.2.2.2.2.2.2.2.2.2.1.length ≤ 2 ^ 20 := by
  have k := h.lens
  have l1 := wsum_len (f := wStore) (l := w.2.2.1)
  have l2 := wsum_len (f := wEra) (l := w.2.2.2.2.1)
  have l3 := wsum_len (f := wWriter) (l := w.2.2.2.2.2.2.1)
  have l4 := wsum_len (f := wMend) (l := w.2.2.2.2.2.2.2.1)
  have l5 := wsum_len (f := wReader) (l := w.2.2.2.2.2.2.2.2.1)
  have l6 := wsum_len (f := wSent) (l := w.2.2.2.2.2.2.2.2.2.1)
  omega

theorem WIn.cfg : (wCfg w).1.length ≤ 2 ^ 40 := by
  have := h.lens
  show w.1.length ≤ 2 ^ 40
  omega

theorem storesOk_eq : impl_World_storesOk w = some ((decide (w.2.2.1.length = w.1.length) && (nodesOk (wCfg w) w.2.2.2.1 && (storesB w && (w.2.2.2.2.2.2.2.2.2.2.1 || !holds (wCfg w) w.2.2.2.1))), ()), ()) := by
  have k1 := h.lens
  have k2 := h.lens2
  have key := all_loop (L := fun n i => impl_World_storesOk_L4 n w w.2.2.1 w.2.2.1.length i) (len := w.2.2.1.length) (p := storeP w) (fin := w.2.2.2.2.2.2.2.2.2.2.1 || !holds (wCfg w) w.2.2.2.1) (fun n i hi => by
    have hm := getD_mem (d := dStore) hi
    have hw := wsum_mem (f := wStore) hm
    simp only [impl_World_storesOk_L4, impl_World_storesOk_step4, cond_decide', storeP]
    rw [if_pos (by omega), if_pos (by omega), w64_eq (x := (i : Int) + 1) (by omega) (by omega), show ((i : Int) + 1) = ((i + 1 : Nat) : Int) by omega, Int.toNat_natCast, isLost_eq (by omega)]
    rw [show ((w.2.2.1.getD i ([], [], 0, ())).1, (w.2.2.1.getD i ([], [], 0, ())).2.1, (w.2.2.1.getD i ([], [], 0, ())).2.2.1, ()) = w.2.2.1.getD i dStore from rfl, impl_StoreOk_eq (by omega) (h.stores _ hm)]
    simp only [Option.bind_some]
    show cond (!storeOk (w.2.2.1.getD i dStore)) _ _ = _
    rcases Bool.eq_false_or_eq_true (storeOk (w.2.2.1.getD i dStore)) with hs | hs
    rotate_left
    · rw [hs]; rfl
    rw [hs]
    have hs2 := hs
    simp only [storeOk, isIn, Bool.and_eq_true, decide_eq_true_eq] at hs2
    generalize w.2.2.1.getD i dStore = s at hw hs2
    cases w.2.2.2.1.contains ((i : Nat) : Int) with
    | false => rfl
    | true =>
      simp only [Bool.not_true, cond_false, cond_true, Bool.true_and, Bool.false_or]
      unfold wStore at hw
      have q1 := wsum_len (f := wEntry) (l := s.1)
      have q2 := wsum_len (f := wEntry) (l := s.2.1)
      rw [w64_eq (x := (s.1.length : Int) + _) (by omega) (by omega), w64_eq (by omega) (by omega)]
      by_cases hz : s.1.length = 0 ∧ s.2.1.length = 0 ∧ s.2.2.1 = 0
      · rw [if_neg (by omega), hz.1, hz.2.1, hz.2.2]
        rfl
      · rw [if_pos (by omega)]
        have : (s.1.length == 0 && (s.2.1.length == 0 && s.2.2.1 == 0)) = false := by
          rw [Bool.eq_false_iff]
          intro hh
          simp only [Bool.and_eq_true, beq_iff_eq] at hh
          exact hz hh
        rw [this]
        rfl) (fun n => by
    simp only [impl_World_storesOk_L4, impl_World_storesOk_step4, cond_decide']
    rw [if_neg (by omega), show (w.1, w.2.1, ()) = wCfg w from rfl, impl_Holds_eq h.cfg (by omega)]
    simp only [Option.bind_some]
    cases w.2.2.2.2.2.2.2.2.2.2.1 <;> rfl) w.2.2.1.length FUEL 0 (by omega) (FUEL_lt (by omega))
  rw [show ((0 : Nat) : Int) = 0 from rfl] at key
  unfold impl_World_storesOk impl_World_storesOk_entry storesB
  rw [show (w.1, w.2.1, ()) = wCfg w from rfl, impl_NodesOk_eq h.cfg (by omega), key]
  simp only [Option.bind_some]
  by_cases he : w.2.2.1.length = w.1.length
  · have : ((w.2.2.1.length : Int) != (w.1.length : Int)) = false := by simp [he]
    rw [this, decide_eq_true he]
    cases nodesOk (wCfg w) w.2.2.2.1 <;> rfl
  · have : ((w.2.2.1.length : Int) != (w.1.length : Int)) = true := by simp; omega
    rw [this, decide_eq_false he]
    rfl

end
end Go.M
end

section
/- Worlds that are right: both sides. -/
namespace Go.M
open Go.M.H (TEntry TStore TMend TSent TWorld TEra TRegister TWord TWriter TReader TEvent wsum wsum_len wsum_mem wEntry wStore wMend wSent wWorld wEra wWord wRegister wWriter wReader wEvent wIntS)

theorem isIn_lo {x lo hi : Int} (h : lo ≤ x) : isIn x lo hi = decide (x ≤ hi) := by
  unfold isIn
  by_cases h2 : x ≤ hi
  · rw [decide_eq_true h2, decide_eq_true ⟨h, h2⟩]
  · rw [decide_eq_false h2, decide_eq_false (fun hh => h2 hh.2)]

theorem isIn_low {x lo hi : Int} (h : x < lo) : isIn x lo hi = false := by
  unfold isIn
  exact decide_eq_false (fun hh => by omega)

section
variable {w : TWorld} (h : WIn w)
include h

theorem writersOk_eq : impl_World_writersOk w = some ((writersB w && decide (w.2.2.2.2.2.2.1.length ≤ 4), ()), ()) := by
  have k1 := h.lens
  have k2 := h.lens2
  have key := all_loop (L := fun n i => impl_World_writersOk_L2 n w w.2.2.2.2.2.2.1 w.2.2.2.2.2.2.1.length i) (len := w.2.2.2.2.2.2.1.length) (p := writerP w) (fin := decide (w.2.2.2.2.2.2.1.length ≤ 4)) (fun n i hi => by
    have hm := getD_mem (d := dWriter) hi
    have hw := wsum_mem (f := wWriter) hm
    unfold wWriter at hw
    simp only [impl_World_writersOk_L2, impl_World_writersOk_step2, cond_decide', writerP, impl_World_isThere, impl_within_eq]
    rw [if_pos (by omega), if_pos (by omega), w64_eq (x := (i : Int) + 1) (by omega) (by omega), show ((i : Int) + 1) = ((i + 1 : Nat) : Int) by omega, Int.toNat_natCast]
    have hw2 : wsum wWord (w.2.2.2.2.2.2.1.getD i dWriter).2.1 ≤ 2 ^ 30 := by
      have := k1.2.2.2.2.1
      unfold wWriter at this
      omega
    rw [show ((w.2.2.2.2.2.2.1.getD i (0, [], ())).1, (w.2.2.2.2.2.2.1.getD i (0, [], ())).2.1, ()) = w.2.2.2.2.2.2.1.getD i dWriter from rfl, show (w.1, w.2.1, ()) = wCfg w from rfl, impl_WriterOk_eq h.cfg hw2]
    simp only [Option.bind_some]
    rcases Bool.eq_false_or_eq_true (writerOk (wCfg w) (w.2.2.2.2.2.2.1.getD i dWriter)) with hs | hs
    rotate_left
    · rw [hs]; rfl
    have he := (writerOk_spec hs).2.1
    rw [hs, show isIn (w.2.2.2.2.2.2.1.getD i (0, [], ())).1 1 (w.2.2.2.2.1.length : Int) = decide ((w.2.2.2.2.2.2.1.getD i dWriter).1 ≤ (w.2.2.2.2.1.length : Int)) from isIn_lo he.1]
    simp only [Bool.not_true, cond_false, Bool.true_and]
    cases decide ((w.2.2.2.2.2.2.1.getD i dWriter).1 ≤ (w.2.2.2.2.1.length : Int)) with
    | false => rfl
    | true =>
      simp only [Bool.not_true, cond_false, Bool.true_and]
      by_cases h0 : i = 0
      · subst h0
        rw [if_neg (by omega)]
        rfl
      · rw [if_pos (by omega), w64_eq (by omega) (by omega), if_pos (by omega)]
        have h1 : ((i : Int) - 1).toNat = i - 1 := by omega
        have h2 : (i == 0) = false := by simpa using h0
        rw [h1, h2, Bool.false_or]
        by_cases hlt : (w.2.2.2.2.2.2.1.getD (i - 1) (0, [], ())).1 < (w.2.2.2.2.2.2.1.getD i (0, [], ())).1
        · rw [if_neg (by omega), show decide ((w.2.2.2.2.2.2.1.getD (i - 1) dWriter).1 < (w.2.2.2.2.2.2.1.getD i dWriter).1) = true from decide_eq_true hlt]
          rfl
        · rw [if_pos (by omega), show decide ((w.2.2.2.2.2.2.1.getD (i - 1) dWriter).1 < (w.2.2.2.2.2.2.1.getD i dWriter).1) = false from decide_eq_false hlt]
          rfl) (fun n => by
    simp only [impl_World_writersOk_L2, impl_World_writersOk_step2, cond_decide']
    rw [if_neg (by omega), show decide ((w.2.2.2.2.2.2.1.length : Int) ≤ 4) = decide (w.2.2.2.2.2.2.1.length ≤ 4) from dlen _ 4]) w.2.2.2.2.2.2.1.length FUEL 0 (by omega) (FUEL_lt (by omega))
  rw [show ((0 : Nat) : Int) = 0 from rfl] at key
  unfold impl_World_writersOk impl_World_writersOk_entry writersB
  exact key

theorem mendsOk_eq : impl_World_mendsOk w = some ((mendsB w && decide (w.2.2.2.2.2.2.2.1.length ≤ 1), ()), ()) := by
  have k1 := h.lens
  have k2 := h.lens2
  have key := all_loop (L := fun n i => impl_World_mendsOk_L2 n w w.2.2.2.2.2.2.2.1 w.2.2.2.2.2.2.2.1.length i) (len := w.2.2.2.2.2.2.2.1.length) (p := mendP w) (fin := decide (w.2.2.2.2.2.2.2.1.length ≤ 1)) (fun n i hi => by
    have hm := getD_mem (d := dMend) hi
    have hw := wsum_mem (f := wMend) hm
    simp only [impl_World_mendsOk_L2, impl_World_mendsOk_step2, cond_decide', mendP]
    rw [if_pos (by omega), if_pos (by omega), w64_eq (x := (i : Int) + 1) (by omega) (by omega), show ((i : Int) + 1) = ((i + 1 : Nat) : Int) by omega, Int.toNat_natCast]
    rw [show ((w.2.2.2.2.2.2.2.1.getD i (0, 0, [], [], false, [], ())).1, (w.2.2.2.2.2.2.2.1.getD i (0, 0, [], [], false, [], ())).2.1, (w.2.2.2.2.2.2.2.1.getD i (0, 0, [], [], false, [], ())).2.2.1, (w.2.2.2.2.2.2.2.1.getD i (0, 0, [], [], false, [], ())).2.2.2.1, (w.2.2.2.2.2.2.2.1.getD i (0, 0, [], [], false, [], ())).2.2.2.2.1, (w.2.2.2.2.2.2.2.1.getD i (0, 0, [], [], false, [], ())).2.2.2.2.2.1, ()) = w.2.2.2.2.2.2.2.1.getD i dMend from rfl, show (w.1, w.2.1, ()) = wCfg w from rfl, impl_MendOk_eq h.cfg (by omega) (h.mends _ hm)]
    rw [impl_FirstOpen_eq (by show w.2.2.2.2.1.length ≤ _; omega)]
    simp only [Option.bind_some, bne]
    cases mendOk (wCfg w) (w.2.2.2.2.2.2.2.1.getD i dMend) with
    | false => rfl
    | true =>
      show cond (!((w.2.2.2.2.2.2.2.1.getD i dMend).1 == (w.2.2.2.2.1.length : Int))) _ (cond (!((w.2.2.2.2.2.2.2.1.getD i dMend).2.1 == firstOpen w.2.2.2.2.1)) _ _) = _
      cases (w.2.2.2.2.2.2.2.1.getD i dMend).1 == (w.2.2.2.2.1.length : Int) <;> cases (w.2.2.2.2.2.2.2.1.getD i dMend).2.1 == firstOpen w.2.2.2.2.1 <;> rfl) (fun n => by
    simp only [impl_World_mendsOk_L2, impl_World_mendsOk_step2, cond_decide']
    rw [if_neg (by omega), show decide ((w.2.2.2.2.2.2.2.1.length : Int) ≤ 1) = decide (w.2.2.2.2.2.2.2.1.length ≤ 1) from dlen _ 1]) w.2.2.2.2.2.2.2.1.length FUEL 0 (by omega) (FUEL_lt (by omega))
  rw [show ((0 : Nat) : Int) = 0 from rfl] at key
  unfold impl_World_mendsOk impl_World_mendsOk_entry mendsB
  exact key

theorem readersOk_eq : impl_World_readersOk w = some ((readersB w, ()), ()) := by
  have k2 := h.lens2
  have key := all_loop (L := fun n i => impl_World_readersOk_L2 n w w.2.2.2.2.2.2.2.2.1 w.2.2.2.2.2.2.2.2.1.length i) (len := w.2.2.2.2.2.2.2.2.1.length) (p := fun i => rdrOk (w.2.2.2.2.2.2.2.2.1.getD i dReader)) (fin := ((w.2.2.2.2.2.2.2.2.1.length : Int) == 2)) (fun n i hi => by
    simp only [impl_World_readersOk_L2, impl_World_readersOk_step2, cond_decide']
    rw [if_pos (by omega), if_pos (by omega), w64_eq (x := (i : Int) + 1) (by omega) (by omega), show ((i : Int) + 1) = ((i + 1 : Nat) : Int) by omega, Int.toNat_natCast]
    rw [show ((w.2.2.2.2.2.2.2.2.1.getD i (0, 0, [], ())).1, (w.2.2.2.2.2.2.2.2.1.getD i (0, 0, [], ())).2.1, (w.2.2.2.2.2.2.2.2.1.getD i (0, 0, [], ())).2.2.1, ()) = w.2.2.2.2.2.2.2.2.1.getD i dReader from rfl, impl_ReaderOk_eq]
    simp only [Option.bind_some]
    cases rdrOk (w.2.2.2.2.2.2.2.2.1.getD i dReader) <;> rfl) (fun n => by
    simp only [impl_World_readersOk_L2, impl_World_readersOk_step2, cond_decide']
    rw [if_neg (by omega)]) w.2.2.2.2.2.2.2.2.1.length FUEL 0 (by omega) (FUEL_lt (by omega))
  rw [show ((0 : Nat) : Int) = 0 from rfl] at key
  unfold impl_World_readersOk impl_World_readersOk_entry readersB
  rw [key]
  by_cases h2 : w.2.2.2.2.2.2.2.2.1.length = 2
  · rw [h2]
    simp [allFrom]
  · have : ((w.2.2.2.2.2.2.2.2.1.length : Int) == 2) = false := by simp; omega
    rw [this, decide_eq_false h2]
    simp

theorem sentOk_eq : impl_World_sentOk w = some ((sentB w && decide (w.2.2.2.2.2.2.2.2.2.1.length ≤ 120), ()), ()) := by
  have k2 := h.lens2
  have key := all_loop (L := fun n i => impl_World_sentOk_L2 n w w.2.2.2.2.2.2.2.2.2.1 w.2.2.2.2.2.2.2.2.2.1.length i) (len := w.2.2.2.2.2.2.2.2.2.1.length) (p := sentP w) (fin := decide (w.2.2.2.2.2.2.2.2.2.1.length ≤ 120)) (fun n i hi => by
    have hm := getD_mem (d := dSent) hi
    have hin : In64 (w.2.2.2.2.2.2.2.2.2.1.getD i (0, [], false, ())).1 := h.sent _ hm
    simp only [impl_World_sentOk_L2, impl_World_sentOk_step2, cond_decide', sentP, impl_World_isThere, impl_within_eq, impl_dataOk]
    rw [if_pos (by omega), if_pos (by omega), w64_eq (x := (i : Int) + 1) (by omega) (by omega), show ((i : Int) + 1) = ((i + 1 : Nat) : Int) by omega, Int.toNat_natCast, impl_EpochOf_eq hin]
    simp only [Option.bind_some]
    have e1 : isIn (epochOf (w.2.2.2.2.2.2.2.2.2.1.getD i (0, [], false, ())).1) 1 (w.2.2.2.2.1.length : Int) = (placeOk (w.2.2.2.2.2.2.2.2.2.1.getD i dSent).1 && decide (epochOf (w.2.2.2.2.2.2.2.2.2.1.getD i dSent).1 ≤ (w.2.2.2.2.1.length : Int))) := by
      show isIn (epochOf (w.2.2.2.2.2.2.2.2.2.1.getD i dSent).1) 1 (w.2.2.2.2.1.length : Int) = _
      have hr := epochOf_range (x := (w.2.2.2.2.2.2.2.2.2.1.getD i dSent).1)
      rcases Bool.eq_false_or_eq_true (placeOk (w.2.2.2.2.2.2.2.2.2.1.getD i dSent).1) with hp | hp
      · rw [hp, isIn_lo (hr.1 hp).1, Bool.true_and]
      · rw [hp, hr.2 hp, isIn_low (by omega), Bool.false_and]
    rw [e1, show decide ((((w.2.2.2.2.2.2.2.2.2.1.getD i (0, [], false, ())).2.1.length : Nat) : Int) ≤ 40) = decide ((w.2.2.2.2.2.2.2.2.2.1.getD i dSent).2.1.length ≤ 40) from dlen _ 40]
    cases (placeOk (w.2.2.2.2.2.2.2.2.2.1.getD i dSent).1 && decide (epochOf (w.2.2.2.2.2.2.2.2.2.1.getD i dSent).1 ≤ (w.2.2.2.2.1.length : Int))) with
    | false => rfl
    | true =>
      cases decide ((w.2.2.2.2.2.2.2.2.2.1.getD i dSent).2.1.length ≤ 40) with
      | false => rfl
      | true =>
        simp only [Bool.not_true, cond_false, Bool.true_and]
        by_cases h0 : i = 0
        · subst h0
          rw [if_neg (by omega)]
          rfl
        · rw [if_pos (by omega), w64_eq (by omega) (by omega), if_pos (by omega)]
          have h1 : ((i : Int) - 1).toNat = i - 1 := by omega
          have h2 : (i == 0) = false := by simpa using h0
          rw [h1, h2, Bool.false_or]
          by_cases hlt : (w.2.2.2.2.2.2.2.2.2.1.getD (i - 1) (0, [], false, ())).1 < (w.2.2.2.2.2.2.2.2.2.1.getD i (0, [], false, ())).1
          · rw [if_neg (by omega), show decide ((w.2.2.2.2.2.2.2.2.2.1.getD (i - 1) dSent).1 < (w.2.2.2.2.2.2.2.2.2.1.getD i dSent).1) = true from decide_eq_true hlt]
            rfl
          · rw [if_pos (by omega), show decide ((w.2.2.2.2.2.2.2.2.2.1.getD (i - 1) dSent).1 < (w.2.2.2.2.2.2.2.2.2.1.getD i dSent).1) = false from decide_eq_false hlt]
            rfl) (fun n => by
    simp only [impl_World_sentOk_L2, impl_World_sentOk_step2, cond_decide']
    rw [if_neg (by omega), show decide ((w.2.2.2.2.2.2.2.2.2.1.length : Int) ≤ 120) = decide (w.2.2.2.2.2.2.2.2.2.1.length ≤ 120) from dlen _ 120]) w.2.2.2.2.2.2.2.2.2.1.length FUEL 0 (by omega) (FUEL_lt (by omega))
  rw [show ((0 : Nat) : Int) = 0 from rfl] at key
  unfold impl_World_sentOk impl_World_sentOk_entry sentB
  exact key

theorem impl_WorldOk_eq : impl_WorldOk w = some ((worldOk w, ()), ()) := by
  have k1 := h.lens
  unfold impl_WorldOk worldOk
  rw [show (w.1, w.2.1, w.2.2.1, w.2.2.2.1, w.2.2.2.2.1, w.2.2.2.2.2.1, w.2.2.2.2.2.2.1, w.2.2.2.2.2.2.2.1, w.2.2.2.2.2.2.2.2.1, w.2.2.2.2.2.2.2.2.2.1, w.2.2.2.2.2.2.2.2.2.2.1, ()) = w from rfl, show (w.1, w.2.1, ()) = wCfg w from rfl, show (w.2.2.2.2.1, w.2.2.2.2.2.1, ()) = wReg w from rfl]
  rw [impl_ConfigOk_eq h.cfg, storesOk_eq h, impl_RegOk_eq h.cfg (by show wsum wEra w.2.2.2.2.1 ≤ _; omega) h.trim, writersOk_eq h, mendsOk_eq h, readersOk_eq h, sentOk_eq h]
  simp only [Option.bind_some]
  cases cfgOk (wCfg w) <;> cases decide (w.2.2.1.length = w.1.length) <;> cases nodesOk (wCfg w) w.2.2.2.1 <;> cases storesB w <;> cases (w.2.2.2.2.2.2.2.2.2.2.1 || !holds (wCfg w) w.2.2.2.1) <;> cases regOk (wCfg w) (wReg w) <;> (try rfl) <;>
    cases writersB w <;> cases decide (w.2.2.2.2.2.2.1.length ≤ 4) <;> cases mendsB w <;> cases decide (w.2.2.2.2.2.2.2.1.length ≤ 1) <;> cases readersB w <;> cases sentB w <;> cases decide (w.2.2.2.2.2.2.2.2.2.1.length ≤ 120) <;> rfl

end
end Go.M
end

section
/- Worlds that are right: the reference. -/
namespace Go.M
open Go.M.H (TEntry TStore TMend TSent TWorld TEra TRegister TWord TWriter TReader TEvent wsum wsum_len wsum_mem wEntry wStore wMend wSent wWorld wEra wWord wRegister wWriter wReader wEvent wIntS)

section
variable {w : TWorld} (h : WIn w)
include h

theorem l12Nodes_eq : spec_l12Nodes w = some ((cfgOk (wCfg w) && (decide (w.2.2.1.length = w.1.length) && (nodesOk (wCfg w) w.2.2.2.1 && ((w.2.2.2.2.2.2.2.2.2.2.1 || !holds (wCfg w) w.2.2.2.1) && storesB w))), ()), ()) := by
  have k1 := h.lens
  have k2 := h.lens2
  have key := all_loop (L := fun n i => spec_l12Nodes_L4 n i w.1 w.2.1 w.2.2.1 w.2.2.2.1 w.2.2.2.2.1 w.2.2.2.2.2.1 w.2.2.2.2.2.2.1 w.2.2.2.2.2.2.2.1 w.2.2.2.2.2.2.2.2.1 w.2.2.2.2.2.2.2.2.2.1 w.2.2.2.2.2.2.2.2.2.2.1) (len := w.2.2.1.length) (p := storeP w) (fin := true) (fun n i hi => by
    have hm := getD_mem (d := dStore) hi
    have hw := wsum_mem (f := wStore) hm
    simp only [spec_l12Nodes_L4, spec_l12Nodes_step4, cond_decide', storeP]
    have hb : (0 : Int) ≤ (i : Int) ∧ (i : Int) < (w.2.2.1.length : Int) := by omega
    rw [if_pos hb.2, w64_eq (x := (i : Int) + 1) (by omega) (by omega), show ((i : Int) + 1) = ((i + 1 : Nat) : Int) by omega, Int.toNat_natCast, l4Has_eq (by omega)]
    simp only [if_pos hb]
    rw [show ((w.2.2.1.getD i ([], [], 0, ())).1, (w.2.2.1.getD i ([], [], 0, ())).2.1, (w.2.2.1.getD i ([], [], 0, ())).2.2.1, ()) = w.2.2.1.getD i dStore from rfl, spec_StoreOk_eq (by omega) (h.stores _ hm)]
    simp only [Option.bind_some]
    show cond (!storeOk (w.2.2.1.getD i dStore)) _ _ = _
    cases storeOk (w.2.2.1.getD i dStore) with
    | false => rfl
    | true =>
      cases w.2.2.2.1.contains ((i : Nat) : Int) with
      | false => rfl
      | true =>
        simp only [spec_l12Zero, Bool.not_true, cond_false, cond_true, Bool.true_and, Bool.false_or]
        have e1 : ∀ n : Nat, ((n : Int) == 0) = (n == 0) := fun n => by
          by_cases hn : n = 0
          · simp [hn]
          · have h1 : ((n : Int) == 0) = false := by simp; omega
            have h2 : (n == 0) = false := by simp; omega
            rw [h1, h2]
        rw [e1, e1]
        cases (w.2.2.1.getD i dStore).1.length == 0 <;> cases (w.2.2.1.getD i dStore).2.1.length == 0 <;> cases (w.2.2.1.getD i dStore).2.2.1 == 0 <;> rfl) (fun n => by
    simp only [spec_l12Nodes_L4, spec_l12Nodes_step4, cond_decide']
    rw [if_neg (by omega)]) w.2.2.1.length FUEL 0 (by omega) (FUEL_lt (by omega))
  rw [show ((0 : Nat) : Int) = 0 from rfl] at key
  unfold spec_l12Nodes spec_l12Nodes_entry storesB
  rw [show (w.1, w.2.1, ()) = wCfg w from rfl, spec_ConfigOk_eq h.cfg, spec_NodesOk_eq h.cfg (by omega), spec_Holds_eq h.cfg (by omega), key]
  simp only [Option.bind_some, Bool.and_true]
  by_cases he : w.2.2.1.length = w.1.length
  · have : ((w.2.2.1.length : Int) != (w.1.length : Int)) = false := by simp [he]
    rw [this, decide_eq_true he]
    cases cfgOk (wCfg w) <;> cases nodesOk (wCfg w) w.2.2.2.1 <;> cases holds (wCfg w) w.2.2.2.1 <;> cases w.2.2.2.2.2.2.2.2.2.2.1 <;> rfl
  · have : ((w.2.2.1.length : Int) != (w.1.length : Int)) = true := by simp; omega
    rw [this, decide_eq_false he]
    cases cfgOk (wCfg w) <;> rfl

theorem l12Epochs_eq : spec_l12Epochs w = some ((regOk (wCfg w) (wReg w) && (decide (w.2.2.2.2.2.2.1.length ≤ 4) && (decide (w.2.2.2.2.2.2.2.1.length ≤ 1) && (writersB w && mendsB w))), ()), ()) := by
  have k1 := h.lens
  have k2 := h.lens2
  have me : ∀ n, w.2.2.2.2.2.2.2.1.length + 1 ≤ n → spec_l12Epochs_L10 n (w.2.2.2.2.1.length : Int) 0 w.1 w.2.1 w.2.2.1 w.2.2.2.1 w.2.2.2.2.1 w.2.2.2.2.2.1 w.2.2.2.2.2.2.1 w.2.2.2.2.2.2.2.1 w.2.2.2.2.2.2.2.2.1 w.2.2.2.2.2.2.2.2.2.1 w.2.2.2.2.2.2.2.2.2.2.1 = some ((mendsB w, ()), ()) := fun n hn => by
    have key := all_loop (L := fun n i => spec_l12Epochs_L10 n (w.2.2.2.2.1.length : Int) i w.1 w.2.1 w.2.2.1 w.2.2.2.1 w.2.2.2.2.1 w.2.2.2.2.2.1 w.2.2.2.2.2.2.1 w.2.2.2.2.2.2.2.1 w.2.2.2.2.2.2.2.2.1 w.2.2.2.2.2.2.2.2.2.1 w.2.2.2.2.2.2.2.2.2.2.1) (len := w.2.2.2.2.2.2.2.1.length) (p := mendP w) (fin := true) (fun n i hi => by
      have hm := getD_mem (d := dMend) hi
      have hw := wsum_mem (f := wMend) hm
      simp only [spec_l12Epochs_L10, spec_l12Epochs_step10, cond_decide', mendP]
      rw [if_pos (by omega), if_pos (by omega), w64_eq (x := (i : Int) + 1) (by omega) (by omega), show ((i : Int) + 1) = ((i + 1 : Nat) : Int) by omega, Int.toNat_natCast]
      rw [show ((w.2.2.2.2.2.2.2.1.getD i (0, 0, [], [], false, [], ())).1, (w.2.2.2.2.2.2.2.1.getD i (0, 0, [], [], false, [], ())).2.1, (w.2.2.2.2.2.2.2.1.getD i (0, 0, [], [], false, [], ())).2.2.1, (w.2.2.2.2.2.2.2.1.getD i (0, 0, [], [], false, [], ())).2.2.2.1, (w.2.2.2.2.2.2.2.1.getD i (0, 0, [], [], false, [], ())).2.2.2.2.1, (w.2.2.2.2.2.2.2.1.getD i (0, 0, [], [], false, [], ())).2.2.2.2.2.1, ()) = w.2.2.2.2.2.2.2.1.getD i dMend from rfl, show (w.1, w.2.1, ()) = wCfg w from rfl, spec_MendOk_eq h.cfg (by omega) (h.mends _ hm)]
      rw [spec_FirstOpen_eq (by show w.2.2.2.2.1.length ≤ _; omega)]
      simp only [Option.bind_some, bne]
      cases mendOk (wCfg w) (w.2.2.2.2.2.2.2.1.getD i dMend) with
      | false => rfl
      | true =>
        show cond (!((w.2.2.2.2.2.2.2.1.getD i dMend).1 == (w.2.2.2.2.1.length : Int))) _ (cond (!((w.2.2.2.2.2.2.2.1.getD i dMend).2.1 == firstOpen w.2.2.2.2.1)) _ _) = _
        cases (w.2.2.2.2.2.2.2.1.getD i dMend).1 == (w.2.2.2.2.1.length : Int) <;> cases (w.2.2.2.2.2.2.2.1.getD i dMend).2.1 == firstOpen w.2.2.2.2.1 <;> rfl) (fun n => by
      simp only [spec_l12Epochs_L10, spec_l12Epochs_step10, cond_decide']
      rw [if_neg (by omega)]) w.2.2.2.2.2.2.2.1.length n 0 (by omega) (by omega)
    rw [show ((0 : Nat) : Int) = 0 from rfl] at key
    rw [key, Bool.and_true]
    rfl
  have key := all_loopN (L := fun n i => spec_l12Epochs_L5 n (w.2.2.2.2.1.length : Int) i w.1 w.2.1 w.2.2.1 w.2.2.2.1 w.2.2.2.2.1 w.2.2.2.2.2.1 w.2.2.2.2.2.2.1 w.2.2.2.2.2.2.2.1 w.2.2.2.2.2.2.2.2.1 w.2.2.2.2.2.2.2.2.2.1 w.2.2.2.2.2.2.2.2.2.2.1) (len := w.2.2.2.2.2.2.1.length) (N := w.2.2.2.2.2.2.2.1.length + 1) (p := writerP w) (fin := mendsB w) (fun n i hi => by
    have hm := getD_mem (d := dWriter) hi
    have hw := wsum_mem (f := wWriter) hm
    unfold wWriter at hw
    simp only [spec_l12Epochs_L5, spec_l12Epochs_step5, cond_decide', writerP]
    have hb : (0 : Int) ≤ (i : Int) ∧ (i : Int) < (w.2.2.2.2.2.2.1.length : Int) := by omega
    rw [if_pos hb.2, w64_eq (x := (i : Int) + 1) (by omega) (by omega), show ((i : Int) + 1) = ((i + 1 : Nat) : Int) by omega, Int.toNat_natCast]
    simp only [if_pos hb]
    have hw2 : wsum wWord (w.2.2.2.2.2.2.1.getD i dWriter).2.1 ≤ 2 ^ 30 := by
      have := k1.2.2.2.2.1
      unfold wWriter at this
      omega
    rw [show ((w.2.2.2.2.2.2.1.getD i (0, [], ())).1, (w.2.2.2.2.2.2.1.getD i (0, [], ())).2.1, ()) = w.2.2.2.2.2.2.1.getD i dWriter from rfl, show (w.1, w.2.1, ()) = wCfg w from rfl, spec_WriterOk_eq h.cfg hw2]
    simp only [Option.bind_some]
    cases writerOk (wCfg w) (w.2.2.2.2.2.2.1.getD i dWriter) with
    | false => rfl
    | true =>
      simp only [Bool.not_true, cond_false, Bool.true_and]
      by_cases hle : (w.2.2.2.2.2.2.1.getD i (0, [], ())).1 ≤ (w.2.2.2.2.1.length : Int)
      · rw [if_neg (by omega), show decide ((w.2.2.2.2.2.2.1.getD i dWriter).1 ≤ (w.2.2.2.2.1.length : Int)) = true from decide_eq_true hle, Bool.true_and]
        by_cases h0 : i = 0
        · subst h0
          rw [if_neg (by omega)]
          rfl
        · rw [if_pos (by omega), w64_eq (by omega) (by omega), if_pos (by omega)]
          have h1 : ((i : Int) - 1).toNat = i - 1 := by omega
          have h2 : (i == 0) = false := by simpa using h0
          rw [h1, h2, Bool.false_or]
          by_cases hlt : (w.2.2.2.2.2.2.1.getD (i - 1) (0, [], ())).1 < (w.2.2.2.2.2.2.1.getD i (0, [], ())).1
          · rw [if_neg (by omega), show decide ((w.2.2.2.2.2.2.1.getD (i - 1) dWriter).1 < (w.2.2.2.2.2.2.1.getD i dWriter).1) = true from decide_eq_true hlt]
            rfl
          · rw [if_pos (by omega), show decide ((w.2.2.2.2.2.2.1.getD (i - 1) dWriter).1 < (w.2.2.2.2.2.2.1.getD i dWriter).1) = false from decide_eq_false hlt]
            rfl
      · rw [if_pos (by omega), show decide ((w.2.2.2.2.2.2.1.getD i dWriter).1 ≤ (w.2.2.2.2.1.length : Int)) = false from decide_eq_false hle]
        rfl) (fun n hn => by
    simp only [spec_l12Epochs_L5, spec_l12Epochs_step5, cond_decide']
    rw [if_neg (by omega), me n hn]) w.2.2.2.2.2.2.1.length FUEL 0 (by omega) (FUEL_lt (by omega))
  rw [show ((0 : Nat) : Int) = 0 from rfl] at key
  unfold spec_l12Epochs spec_l12Epochs_entry writersB
  rw [show (w.1, w.2.1, ()) = wCfg w from rfl, show (w.2.2.2.2.1, w.2.2.2.2.2.1, ()) = wReg w from rfl, spec_RegOk_eq h.cfg (by show wsum wEra w.2.2.2.2.1 ≤ _; omega) h.trim, key]
  simp only [Option.bind_some]
  rw [show decide ((w.2.2.2.2.2.2.1.length : Int) > 4) = !decide (w.2.2.2.2.2.2.1.length ≤ 4) from dlenG _ 4, show decide ((w.2.2.2.2.2.2.2.1.length : Int) > 1) = !decide (w.2.2.2.2.2.2.2.1.length ≤ 1) from dlenG _ 1]
  cases regOk (wCfg w) (wReg w) <;> cases decide (w.2.2.2.2.2.2.1.length ≤ 4) <;> cases decide (w.2.2.2.2.2.2.2.1.length ≤ 1) <;> rfl

theorem l12Sent_eq : spec_l12Sent w = some ((decide (w.2.2.2.2.2.2.2.2.2.1.length ≤ 120) && sentB w, ()), ()) := by
  have k2 := h.lens2
  have key := all_loop (L := fun n i => spec_l12Sent_L4 n i w.1 w.2.1 w.2.2.1 w.2.2.2.1 w.2.2.2.2.1 w.2.2.2.2.2.1 w.2.2.2.2.2.2.1 w.2.2.2.2.2.2.2.1 w.2.2.2.2.2.2.2.2.1 w.2.2.2.2.2.2.2.2.2.1 w.2.2.2.2.2.2.2.2.2.2.1) (len := w.2.2.2.2.2.2.2.2.2.1.length) (p := sentP w) (fin := true) (fun n i hi => by
    have hm := getD_mem (d := dSent) hi
    have hin : In64 (w.2.2.2.2.2.2.2.2.2.1.getD i (0, [], false, ())).1 := h.sent _ hm
    simp only [spec_l12Sent_L4, spec_l12Sent_step4, cond_decide', sentP]
    rw [if_pos (by omega), if_pos (by omega), w64_eq (x := (i : Int) + 1) (by omega) (by omega), show ((i : Int) + 1) = ((i + 1 : Nat) : Int) by omega, Int.toNat_natCast, spec_PlaceOk_eq hin, spec_EpochOf_eq hin]
    simp only [Option.bind_some]
    show cond (!placeOk (w.2.2.2.2.2.2.2.2.2.1.getD i dSent).1) _ _ = _
    cases placeOk (w.2.2.2.2.2.2.2.2.2.1.getD i dSent).1 with
    | false => rfl
    | true =>
      simp only [Bool.not_true, cond_false, Bool.true_and]
      by_cases hle : epochOf (w.2.2.2.2.2.2.2.2.2.1.getD i (0, [], false, ())).1 ≤ (w.2.2.2.2.1.length : Int)
      · rw [if_neg (by omega), show decide (epochOf (w.2.2.2.2.2.2.2.2.2.1.getD i dSent).1 ≤ (w.2.2.2.2.1.length : Int)) = true from decide_eq_true hle, Bool.true_and]
        by_cases h40 : (w.2.2.2.2.2.2.2.2.2.1.getD i (0, [], false, ())).2.1.length ≤ 40
        · rw [if_neg (by omega), show decide ((w.2.2.2.2.2.2.2.2.2.1.getD i dSent).2.1.length ≤ 40) = true from decide_eq_true h40, Bool.true_and]
          by_cases h0 : i = 0
          · subst h0
            rw [if_neg (by omega)]
            rfl
          · rw [if_pos (by omega), w64_eq (by omega) (by omega), if_pos (by omega)]
            have h1 : ((i : Int) - 1).toNat = i - 1 := by omega
            have h2 : (i == 0) = false := by simpa using h0
            rw [h1, h2, Bool.false_or]
            by_cases hlt : (w.2.2.2.2.2.2.2.2.2.1.getD (i - 1) (0, [], false, ())).1 < (w.2.2.2.2.2.2.2.2.2.1.getD i (0, [], false, ())).1
            · rw [if_neg (by omega), show decide ((w.2.2.2.2.2.2.2.2.2.1.getD (i - 1) dSent).1 < (w.2.2.2.2.2.2.2.2.2.1.getD i dSent).1) = true from decide_eq_true hlt]
              rfl
            · rw [if_pos (by omega), show decide ((w.2.2.2.2.2.2.2.2.2.1.getD (i - 1) dSent).1 < (w.2.2.2.2.2.2.2.2.2.1.getD i dSent).1) = false from decide_eq_false hlt]
              rfl
        · rw [if_pos (by omega), show decide ((w.2.2.2.2.2.2.2.2.2.1.getD i dSent).2.1.length ≤ 40) = false from decide_eq_false h40]
          rfl
      · rw [if_pos (by omega), show decide (epochOf (w.2.2.2.2.2.2.2.2.2.1.getD i dSent).1 ≤ (w.2.2.2.2.1.length : Int)) = false from decide_eq_false hle]
        rfl) (fun n => by
    simp only [spec_l12Sent_L4, spec_l12Sent_step4, cond_decide']
    rw [if_neg (by omega)]) w.2.2.2.2.2.2.2.2.2.1.length FUEL 0 (by omega) (FUEL_lt (by omega))
  rw [show ((0 : Nat) : Int) = 0 from rfl] at key
  unfold spec_l12Sent spec_l12Sent_entry sentB
  rw [key, show decide ((w.2.2.2.2.2.2.2.2.2.1.length : Int) > 120) = !decide (w.2.2.2.2.2.2.2.2.2.1.length ≤ 120) from dlenG _ 120, Bool.and_true]
  cases decide (w.2.2.2.2.2.2.2.2.2.1.length ≤ 120) <;> rfl

theorem spec_WorldOk_eq : spec_WorldOk w = some ((worldOk w, ()), ()) := by
  unfold spec_WorldOk worldOk readersB
  rw [show (w.1, w.2.1, w.2.2.1, w.2.2.2.1, w.2.2.2.2.1, w.2.2.2.2.2.1, w.2.2.2.2.2.2.1, w.2.2.2.2.2.2.2.1, w.2.2.2.2.2.2.2.2.1, w.2.2.2.2.2.2.2.2.2.1, w.2.2.2.2.2.2.2.2.2.2.1, ()) = w from rfl]
  rw [l12Nodes_eq h, l12Epochs_eq h, l12Sent_eq h, spec_ReaderOk_eq, spec_ReaderOk_eq]
  simp only [Option.bind_some]
  by_cases h2 : w.2.2.2.2.2.2.2.2.1.length = 2
  · have : ((w.2.2.2.2.2.2.2.2.1.length : Int) == 2) = true := by simp [h2]
    rw [this, decide_eq_true h2, if_pos (by omega), if_pos (by omega)]
    show cond _ (cond _ (cond true (cond (rdrOk (w.2.2.2.2.2.2.2.2.1.getD 0 dReader)) (cond (rdrOk (w.2.2.2.2.2.2.2.2.1.getD 1 dReader)) _ _) _) _) _) _ = _
    cases cfgOk (wCfg w) <;> cases decide (w.2.2.1.length = w.1.length) <;> cases nodesOk (wCfg w) w.2.2.2.1 <;> cases storesB w <;> cases (w.2.2.2.2.2.2.2.2.2.2.1 || !holds (wCfg w) w.2.2.2.1) <;> cases regOk (wCfg w) (wReg w) <;> (try rfl) <;>
      cases writersB w <;> cases decide (w.2.2.2.2.2.2.1.length ≤ 4) <;> cases mendsB w <;> cases decide (w.2.2.2.2.2.2.2.1.length ≤ 1) <;> (try rfl) <;> cases rdrOk (w.2.2.2.2.2.2.2.2.1.getD 0 dReader) <;> cases rdrOk (w.2.2.2.2.2.2.2.2.1.getD 1 dReader) <;> rfl
  · have : ((w.2.2.2.2.2.2.2.2.1.length : Int) == 2) = false := by simp; omega
    rw [this, decide_eq_false h2]
    cases cfgOk (wCfg w) <;> cases decide (w.2.2.1.length = w.1.length) <;> cases nodesOk (wCfg w) w.2.2.2.1 <;> cases storesB w <;> cases (w.2.2.2.2.2.2.2.2.2.2.1 || !holds (wCfg w) w.2.2.2.1) <;> cases regOk (wCfg w) (wReg w) <;> (try rfl) <;>
      cases writersB w <;> cases decide (w.2.2.2.2.2.2.1.length ≤ 4) <;> cases mendsB w <;> cases decide (w.2.2.2.2.2.2.2.1.length ≤ 1) <;> rfl

end
end Go.M
end

section
/- The judges: whole. -/
namespace Go.M
open Go.M.H (TEntry TStore TMend TSent TWorld TEra TRegister TWord TWriter TReader TEvent wsum wsum_len wsum_mem wEntry wStore wMend wSent wWorld wEra wWord wRegister wWriter wReader wEvent wIntS tyWorld)

theorem all_next {R : Type} {L : Nat → Int → Option R} {len : Nat} {p : Nat → Bool} {K : Nat → Option R} {no : Option R} (h1 : ∀ n (i : Nat), i < len → L (n + 1) i = cond (p i) (L n ((i + 1 : Nat) : Int)) no) (h2 : ∀ n, L (n + 1) (len : Int) = K n) :
    ∀ d n i, i + d = len → d < n → L n i = cond (allFrom p i d) (K (n - d - 1)) no
  | 0, n, i, hd, h => by
    obtain ⟨m, rfl⟩ : ∃ m, n = m + 1 := ⟨n - 1, by omega⟩
    have : i = len := by omega
    subst this
    rw [h2]
    rfl
  | d + 1, n, i, hd, h => by
    obtain ⟨m, rfl⟩ : ∃ m, n = m + 1 := ⟨n - 1, by omega⟩
    rw [h1 m i (by omega)]
    simp only [allFrom]
    cases p i with
    | false => rfl
    | true =>
      rw [cond_true, all_next h1 h2 d m (i + 1) (by omega) (by omega), Bool.true_and]
      rw [show m + 1 - (d + 1) - 1 = m - d - 1 by omega]

theorem WIn.of {w : TWorld} (hv : Go.Fw.Vd tyWorld w) (hw : wWorld w ≤ 2 ^ 20) : WIn w where
  weight := hw
  stores := fun s hs => ⟨fun e he => wf_i64 (((hv.2.2.1.2 s hs).1).2 e he).1, fun e he => wf_i64 (((hv.2.2.1.2 s hs).2.1).2 e he).1⟩
  trim := wf_i64 hv.2.2.2.2.2.1
  mends := fun m hm e he => wf_i64 (((hv.2.2.2.2.2.2.2.1.2 m hm).2.2.2.1).2 e he).1
  sent := fun s hs => wf_i64 (hv.2.2.2.2.2.2.2.2.2.1.2 s hs).1

abbrev dEvent : TEvent := (0, 0, [], ())

theorem worldOk_readers {w : TWorld} (h : worldOk w = true) : w.2.2.2.2.2.2.2.2.1.length = 2 := by
  simp only [worldOk, readersB, Bool.and_eq_true, decide_eq_true_eq] at h
  exact h.2.2.2.2.2.2.2.2.2.2.1.1

/-- A reader's events are not too many. -/
theorem WIn.out {w : TWorld} (h : WIn w) {i : Nat} (hi : i < w.2.2.2.2.2.2.2.2.1.length) : (w.2.2.2.2.2.2.2.2.1.getD i dReader).2.2.1.length ≤ 2 ^ 20 := by
  have k := h.lens
  have h1 := wsum_mem (f := wReader) (getD_mem (d := dReader) hi)
  have h2 := wsum_len (f := wEvent) (l := (w.2.2.2.2.2.2.2.2.1.getD i dReader).2.2.1)
  have h3 : wReader (w.2.2.2.2.2.2.2.2.1.getD i dReader) = wsum wEvent (w.2.2.2.2.2.2.2.2.1.getD i dReader).2.2.1 := rfl
  omega

def noLoss (l : List TEvent) : Bool := allFrom (fun i => !((l.getD i dEvent).1 == 3)) 0 l.length

def judgeWhole (w : TWorld) : Bool := worldOk w && (w.2.2.2.2.2.2.2.2.2.2.1 || (noLoss (w.2.2.2.2.2.2.2.2.1.getD 0 dReader).2.2.1 && noLoss (w.2.2.2.2.2.2.2.2.1.getD 1 dReader).2.2.1))

section
variable {w : TWorld} (h : WIn w)
include h

theorem impl_JudgeWhole_eq : impl_JudgeWhole w = some ((judgeWhole w, ()), ()) := by
  have k2 := h.lens2
  unfold impl_JudgeWhole impl_JudgeWhole_entry judgeWhole
  rw [show (w.1, w.2.1, w.2.2.1, w.2.2.2.1, w.2.2.2.2.1, w.2.2.2.2.2.1, w.2.2.2.2.2.2.1, w.2.2.2.2.2.2.2.1, w.2.2.2.2.2.2.2.2.1, w.2.2.2.2.2.2.2.2.2.1, w.2.2.2.2.2.2.2.2.2.2.1, ()) = w from rfl, impl_WorldOk_eq h]
  simp only [Option.bind_some]
  rcases Bool.eq_false_or_eq_true (worldOk w) with hok | hok
  rotate_left
  · rw [hok]; rfl
  rw [hok]
  simp only [Bool.not_true, cond_false, Bool.true_and]
  cases w.2.2.2.2.2.2.2.2.2.2.1 with
  | true => rfl
  | false =>
    have h2 := worldOk_readers hok
    simp only [cond_false, Bool.false_or]
    have o := fun i hi => h.out (i := i) hi
    generalize w.2.2.2.2.2.2.2.2.1 = rs at h2 o
    -- the events of one reader
    have inner : ∀ (i : Nat), i < rs.length → ∀ n, 2 ^ 20 < n → impl_JudgeWhole_L4 (n + 1) rs rs.length i = cond (noLoss (rs.getD i dReader).2.2.1) (impl_JudgeWhole_L4 (n - (rs.getD i dReader).2.2.1.length - 1) rs rs.length ((i + 1 : Nat) : Int)) (some ((false, ()), ())) := fun i hi n hn => by
      have ho := o i hi
      simp only [impl_JudgeWhole_L4, impl_JudgeWhole_step4, cond_decide']
      rw [if_pos (by omega), if_pos (by omega), Int.toNat_natCast]
      have := all_next (L := fun n j => impl_JudgeWhole_L7 n rs rs.length i (rs.getD i dReader).2.2.1 (rs.getD i dReader).2.2.1.length j) (len := (rs.getD i dReader).2.2.1.length) (p := fun j => !(((rs.getD i dReader).2.2.1.getD j dEvent).1 == 3)) (K := fun n => impl_JudgeWhole_L4 n rs rs.length ((i + 1 : Nat) : Int)) (no := some ((false, ()), ())) (fun n j hj => by
        simp only [impl_JudgeWhole_L7, impl_JudgeWhole_step7, cond_decide']
        rw [if_pos (by omega), if_pos (by omega), Int.toNat_natCast, w64_eq (by omega) (by omega), show ((j : Int) + 1) = ((j + 1 : Nat) : Int) by omega]
        show cond (((rs.getD i dReader).2.2.1.getD j dEvent).1 == 3) _ _ = _
        cases ((rs.getD i dReader).2.2.1.getD j dEvent).1 == 3 <;> rfl) (fun n => by
        simp only [impl_JudgeWhole_L7, impl_JudgeWhole_step7, cond_decide']
        rw [if_neg (by omega), w64_eq (by omega) (by omega), show ((i : Int) + 1) = ((i + 1 : Nat) : Int) by omega]) (rs.getD i dReader).2.2.1.length n 0 (by omega) (by omega)
      exact this
    obtain ⟨m, hm⟩ : ∃ m, FUEL = m + 2 ^ 40 := ⟨FUEL - 2 ^ 40, by have := FUEL_ge; omega⟩
    have o0 := o 0 (by omega)
    have o1 := o 1 (by omega)
    have e0 := inner 0 (by omega) (m + 2 ^ 40 - 1) (by omega)
    have e1 := inner 1 (by omega) (m + 2 ^ 40 - 1 - (rs.getD 0 dReader).2.2.1.length - 1 - 1) (by omega)
    rw [show m + 2 ^ 40 - 1 + 1 = FUEL by omega, show ((0 : Nat) : Int) = 0 from rfl, show ((0 + 1 : Nat) : Int) = ((1 : Nat) : Int) from rfl] at e0
    rw [show m + 2 ^ 40 - 1 - (rs.getD 0 dReader).2.2.1.length - 1 - 1 + 1 = m + 2 ^ 40 - 1 - (rs.getD 0 dReader).2.2.1.length - 1 by omega] at e1
    rw [e0, e1]
    obtain ⟨q, hq⟩ : ∃ q, m + 2 ^ 40 - 1 - (rs.getD 0 dReader).2.2.1.length - 1 - 1 - (rs.getD 1 dReader).2.2.1.length - 1 = q + 1 := ⟨_, (Nat.succ_pred_eq_of_pos (by omega)).symm⟩
    rw [hq]
    have hend : impl_JudgeWhole_L4 (q + 1) rs rs.length ((1 + 1 : Nat) : Int) = some ((true, ()), ()) := by
      simp only [impl_JudgeWhole_L4, impl_JudgeWhole_step4, cond_decide']
      rw [if_neg (by omega)]
    rw [hend]
    cases noLoss (rs.getD 0 dReader).2.2.1 <;> cases noLoss (rs.getD 1 dReader).2.2.1 <;> rfl

theorem spec_JudgeWhole_eq : spec_JudgeWhole w = some ((judgeWhole w, ()), ()) := by
  have k2 := h.lens2
  unfold spec_JudgeWhole spec_JudgeWhole_entry judgeWhole
  rw [show (w.1, w.2.1, w.2.2.1, w.2.2.2.1, w.2.2.2.2.1, w.2.2.2.2.2.1, w.2.2.2.2.2.2.1, w.2.2.2.2.2.2.2.1, w.2.2.2.2.2.2.2.2.1, w.2.2.2.2.2.2.2.2.2.1, w.2.2.2.2.2.2.2.2.2.2.1, ()) = w from rfl, spec_WorldOk_eq h]
  simp only [Option.bind_some]
  rcases Bool.eq_false_or_eq_true (worldOk w) with hok | hok
  rotate_left
  · rw [hok]; rfl
  rw [hok]
  simp only [Bool.not_true, cond_false, Bool.true_and]
  have h2 := worldOk_readers hok
  have o := fun i hi => h.out (i := i) hi
  generalize w.2.2.2.2.2.2.2.2.1 = rs at h2 o
  generalize w.1 = a0
  generalize w.2.1 = a1
  generalize w.2.2.1 = a2
  generalize w.2.2.2.1 = a3
  generalize w.2.2.2.2.1 = a4
  generalize w.2.2.2.2.2.1 = a5
  generalize w.2.2.2.2.2.2.1 = a6
  generalize w.2.2.2.2.2.2.2.1 = a7
  generalize w.2.2.2.2.2.2.2.2.2.1 = a9
  cases w.2.2.2.2.2.2.2.2.2.2.1 with
  | true =>
    obtain ⟨m, hm⟩ : ∃ m, FUEL = m + 1 := ⟨FUEL - 1, by have := FUEL_ge; omega⟩
    rw [hm]
    rfl
  | false =>
    simp only [Bool.false_or]
    have inner : ∀ (i : Nat), i < rs.length → ∀ n, 2 ^ 20 < n → spec_JudgeWhole_L4 (n + 1) i a0 a1 a2 a3 a4 a5 a6 a7 rs a9 false = cond (noLoss (rs.getD i dReader).2.2.1) (spec_JudgeWhole_L4 (n - (rs.getD i dReader).2.2.1.length - 1) ((i + 1 : Nat) : Int) a0 a1 a2 a3 a4 a5 a6 a7 rs a9 false) (some ((false, ()), ())) := fun i hi n hn => by
      have ho := o i hi
      simp only [spec_JudgeWhole_L4, spec_JudgeWhole_step4, cond_decide']
      rw [if_pos (by omega)]
      have := all_next (L := fun n j => spec_JudgeWhole_L7 n i j false (!false) a0 a1 a2 a3 a4 a5 a6 a7 rs a9 false) (len := (rs.getD i dReader).2.2.1.length) (p := fun j => !(((rs.getD i dReader).2.2.1.getD j dEvent).1 == 3)) (K := fun n => spec_JudgeWhole_L4 n ((i + 1 : Nat) : Int) a0 a1 a2 a3 a4 a5 a6 a7 rs a9 false) (no := some ((false, ()), ())) (fun n j hj => by
        simp only [spec_JudgeWhole_L7, spec_JudgeWhole_step7, cond_decide']
        have hb : (0 : Int) ≤ (i : Int) ∧ (i : Int) < (rs.length : Int) := by omega
        simp only [if_pos hb, Int.toNat_natCast]
        have hd : (rs.getD i (0, 0, [], ())).2.2.1.length = (rs.getD i dReader).2.2.1.length := rfl
        rw [if_pos (by omega), if_pos (by omega), w64_eq (by omega) (by omega), show ((j : Int) + 1) = ((j + 1 : Nat) : Int) by omega]
        show cond (((rs.getD i dReader).2.2.1.getD j dEvent).1 == 3) _ _ = _
        cases ((rs.getD i dReader).2.2.1.getD j dEvent).1 == 3 <;> rfl) (fun n => by
        simp only [spec_JudgeWhole_L7, spec_JudgeWhole_step7, cond_decide']
        have hb : (0 : Int) ≤ (i : Int) ∧ (i : Int) < (rs.length : Int) := by omega
        simp only [if_pos hb, Int.toNat_natCast]
        have hd : (rs.getD i (0, 0, [], ())).2.2.1.length = (rs.getD i dReader).2.2.1.length := rfl
        rw [if_neg (by omega), w64_eq (by omega) (by omega), show ((i : Int) + 1) = ((i + 1 : Nat) : Int) by omega]) (rs.getD i dReader).2.2.1.length n 0 (by omega) (by omega)
      exact this
    obtain ⟨m, hm⟩ : ∃ m, FUEL = m + 2 ^ 40 := ⟨FUEL - 2 ^ 40, by have := FUEL_ge; omega⟩
    have o0 := o 0 (by omega)
    have o1 := o 1 (by omega)
    have e0 := inner 0 (by omega) (m + 2 ^ 40 - 1) (by omega)
    have e1 := inner 1 (by omega) (m + 2 ^ 40 - 1 - (rs.getD 0 dReader).2.2.1.length - 1 - 1) (by omega)
    rw [show m + 2 ^ 40 - 1 + 1 = FUEL by omega, show ((0 : Nat) : Int) = 0 from rfl, show ((0 + 1 : Nat) : Int) = ((1 : Nat) : Int) from rfl] at e0
    rw [show m + 2 ^ 40 - 1 - (rs.getD 0 dReader).2.2.1.length - 1 - 1 + 1 = m + 2 ^ 40 - 1 - (rs.getD 0 dReader).2.2.1.length - 1 by omega] at e1
    rw [e0, e1]
    obtain ⟨q, hq⟩ : ∃ q, m + 2 ^ 40 - 1 - (rs.getD 0 dReader).2.2.1.length - 1 - 1 - (rs.getD 1 dReader).2.2.1.length - 1 = q + 1 := ⟨_, (Nat.succ_pred_eq_of_pos (by omega)).symm⟩
    rw [hq]
    have hend : spec_JudgeWhole_L4 (q + 1) ((1 + 1 : Nat) : Int) a0 a1 a2 a3 a4 a5 a6 a7 rs a9 false = some ((true, ()), ()) := by
      simp only [spec_JudgeWhole_L4, spec_JudgeWhole_step4, cond_decide']
      rw [if_neg (by omega)]
    rw [hend]
    cases noLoss (rs.getD 0 dReader).2.2.1 <;> cases noLoss (rs.getD 1 dReader).2.2.1 <;> rfl

end

theorem FnExactJudgeWhole_true {w : TWorld} (hv : Go.Fw.Vd tyWorld w) : laws_FnExactJudgeWhole w = some ((true, ()), ()) := by
  unfold laws_FnExactJudgeWhole
  rw [show (w.1, w.2.1, w.2.2.1, w.2.2.2.1, w.2.2.2.2.1, w.2.2.2.2.2.1, w.2.2.2.2.2.2.1, w.2.2.2.2.2.2.2.1, w.2.2.2.2.2.2.2.2.1, w.2.2.2.2.2.2.2.2.2.1, w.2.2.2.2.2.2.2.2.2.2.1, ()) = w from rfl]
  obtain ⟨k1, e1, s1⟩ := H.szWorld_ok hv (k := 1048576) (by omega) (by omega)
  rw [e1]
  simp only [Option.bind_some, cond_decide']
  by_cases n1 : k1 < 0
  · rw [if_pos n1]
  rw [if_neg n1]
  have hw : wWorld w ≤ 2 ^ 20 := by omega
  have h := WIn.of hv hw
  rw [H.toWorld_ok (by omega)]
  simp only [Option.bind_some]
  rw [show (w.1, w.2.1, w.2.2.1, w.2.2.2.1, w.2.2.2.2.1, w.2.2.2.2.2.1, w.2.2.2.2.2.2.1, w.2.2.2.2.2.2.2.1, w.2.2.2.2.2.2.2.2.1, w.2.2.2.2.2.2.2.2.2.1, w.2.2.2.2.2.2.2.2.2.2.1, ()) = w from rfl]
  rw [spec_JudgeWhole_eq h, impl_JudgeWhole_eq h, H.eqWorld_ok (by omega)]
  simp

end Go.M
end
