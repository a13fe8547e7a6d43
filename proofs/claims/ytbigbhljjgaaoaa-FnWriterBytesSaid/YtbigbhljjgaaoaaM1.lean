/- Plain facts on what the functions compute. -/
import Derived.Test.YtbigbhljjgaaoaaM0
set_option linter.unusedVariables false
set_option linter.unusedSimpArgs false
section
/- Readers are read as they were written; drawn readers. -/
namespace Go.M

/-- From one place to another the bytes are these. -/
def At (b : List Int) (a : Nat) (w : List Int) (a' : Nat) : Prop := a' = a + w.length ∧ b.drop a = w ++ b.drop a'

theorem At.join {b w w' : List Int} {a a1 a2 : Nat} (h : At b a w a1) (h' : At b a1 w' a2) : At b a (w ++ w') a2 := by
  obtain ⟨h1, h2⟩ := h
  obtain ⟨h3, h4⟩ := h'
  exact ⟨by simp only [List.length_append]; omega, by rw [h2, h4, List.append_assoc]⟩

theorem At.nil {b : List Int} {a : Nat} : At b a [] a := ⟨by simp, by simp⟩

theorem At.split {b w w' : List Int} {a a2 : Nat} (ha : a ≤ b.length) (h : At b a (w ++ w') a2) : At b a w (a + w.length) ∧ At b (a + w.length) w' a2 ∧ a + w.length ≤ b.length := by
  obtain ⟨h1, h2⟩ := h
  have e1 : b.drop (a + w.length) = w' ++ b.drop a2 := by
    rw [← List.drop_drop, h2, List.append_assoc]
    simp
  refine ⟨⟨rfl, by rw [h2, e1, List.append_assoc]⟩, ⟨by simp only [List.length_append] at h1; omega, e1⟩, ?_⟩
  have := congrArg List.length h2
  simp only [List.length_append, List.length_drop] at this
  omega

theorem At.all {b w : List Int} (h : At b 0 w b.length) : b = w := by
  have := h.2
  simpa using this

theorem At.whole {b w : List Int} (h : b = w) : At b 0 w b.length := by
  subst h
  exact ⟨by simp, by simp⟩

theorem numI_nat (c : Nat) : numI (c : Int) = numB c := by simp [numI]; omega

theorem w64_lt (x : Int) : w64 x < 2 ^ 63 := by
  unfold w64 IntKind.wrap
  simp [IntKind.bits, IntKind.signed]
  split <;> omega

section
variable {b : List Int} (hb : Bytes b)
include hb

theorem rdNum_at {a v a' : Nat} (ha : a ≤ b.length) : rdNum b a = some (v, a') ↔ v < 2 ^ 63 ∧ At b a (numB v) a' := rdNum_iff hb ha

theorem rdText_at {a a' : Nat} {s : List UInt8} (ha : a ≤ b.length) : rdText b a = some (s, a') ↔ s.length < 2 ^ 63 ∧ At b a (textB s) a' := by
  simp only [rdText, Option.bind_eq_some_iff, textB]
  constructor
  · rintro ⟨⟨v, a1⟩, h1, h2⟩
    have h0 := rdNum_spec hb h1
    obtain ⟨k1, k2⟩ := (rdNum_at hb ha).1 h1
    dsimp only at h2
    split at h2
    case isFalse => cases h2
    simp only [Option.some.injEq, Prod.mk.injEq] at h2
    obtain ⟨rfl, rfl⟩ := h2
    have hlen : (List.map (fun n : Int => UInt8.ofNat n.toNat) (List.take v (List.drop a1 b))).length = v := by
      simp only [List.length_map, List.length_take, List.length_drop]
      omega
    rw [hlen]
    refine ⟨k1, k2.join ⟨by simp only [List.length_map, hlen], ?_⟩⟩
    rw [List.map_map]
    have : List.map ((fun c : UInt8 => (c.toNat : Int)) ∘ fun n : Int => UInt8.ofNat n.toNat) (List.take v (List.drop a1 b)) = List.take v (List.drop a1 b) := by
      conv => rhs; rw [← List.map_id (List.take v (List.drop a1 b))]
      refine List.map_congr_left fun c hc => ?_
      have hc2 := hb c (List.mem_of_mem_drop (List.mem_of_mem_take hc))
      simp only [Function.comp, id]
      rw [UInt8.toNat_ofNat']
      omega
    rw [this, ← List.drop_drop, List.take_append_drop]
  · rintro ⟨h1, h2⟩
    obtain ⟨k1, k2, k3⟩ := h2.split ha
    refine ⟨(s.length, a + (numB s.length).length), (rdNum_at hb ha).2 ⟨h1, k1⟩, ?_⟩
    obtain ⟨j1, j2⟩ := k2
    have hl := congrArg List.length j2
    simp only [List.length_append, List.length_drop, List.length_map] at hl j1
    dsimp only
    rw [if_pos (by omega), j2]
    simp only [Option.some.injEq, Prod.mk.injEq]
    refine ⟨?_, by omega⟩
    rw [List.take_append_of_le_length (by simp), List.take_of_length_le (by simp), List.map_map]
    conv => rhs; rw [← List.map_id s]
    refine List.map_congr_left fun c hc => ?_
    simp

/-- An event that can lie in bytes. -/
def EvNN (e : Ev) : Prop := (0 ≤ e.1 ∧ e.1 < 2 ^ 63) ∧ (0 ≤ e.2.1 ∧ e.2.1 < 2 ^ 63) ∧ e.2.2.1.length < 2 ^ 63

theorem rdEv_at {a a' : Nat} {e : Ev} (ha : a ≤ b.length) : rdEv b a = some (e, a') ↔ EvNN e ∧ At b a (evB e) a' := by
  simp only [rdEv, Option.bind_eq_some_iff, evB]
  constructor
  · rintro ⟨⟨k, a1⟩, h1, ⟨p, a2⟩, h2, ⟨s, a3⟩, h3, h4⟩
    have g1 := rdNum_spec hb h1
    have g2 := rdNum_spec hb h2
    obtain ⟨i1, i2⟩ := (rdNum_at hb ha).1 h1
    obtain ⟨j1, j2⟩ := (rdNum_at hb g1.2.2).1 h2
    obtain ⟨k1, k2⟩ := (rdText_at hb g2.2.2).1 h3
    simp only [Option.some.injEq, Prod.mk.injEq] at h4
    obtain ⟨rfl, rfl⟩ := h4
    refine ⟨⟨⟨by simp, by simp only; omega⟩, ⟨by simp, by simp only; omega⟩, k1⟩, ?_⟩
    simp only [numI_nat]
    exact (i2.join j2).join k2
  · obtain ⟨x, y, s, ⟨⟩⟩ := e
    rintro ⟨⟨⟨h1, h2⟩, ⟨h3, h4⟩, h5⟩, h6⟩
    simp only at h1 h2 h3 h4 h5 h6
    obtain ⟨x, rfl⟩ : ∃ n : Nat, x = (n : Int) := ⟨x.toNat, by omega⟩
    obtain ⟨y, rfl⟩ : ∃ n : Nat, y = (n : Int) := ⟨y.toNat, by omega⟩
    simp only [numI_nat, List.append_assoc] at h6
    obtain ⟨k1, k2, k3⟩ := h6.split ha
    obtain ⟨k4, k5, k6⟩ := k2.split k3
    exact ⟨_, (rdNum_at hb ha).2 ⟨by omega, k1⟩, _, (rdNum_at hb k3).2 ⟨by omega, k4⟩, _, (rdText_at hb k6).2 ⟨h5, k5⟩, rfl⟩

theorem rdEvs_at : ∀ {k a a' : Nat} {l : List Ev}, a ≤ b.length → (rdEvs b k a = some (l, a') ↔ l.length = k ∧ (∀ e ∈ l, EvNN e) ∧ At b a (evsB l) a')
  | 0, a, a', l, ha => by
    simp only [rdEvs, Option.some.injEq, Prod.mk.injEq]
    constructor
    · rintro ⟨rfl, rfl⟩
      exact ⟨rfl, by simp, At.nil⟩
    · rintro ⟨h1, _, h2, _⟩
      have : l = [] := List.eq_nil_of_length_eq_zero h1
      subst this
      simp [evsB] at h2
      exact ⟨rfl, h2.symm⟩
  | k + 1, a, a', l, ha => by
    simp only [rdEvs, Option.bind_eq_some_iff]
    constructor
    · rintro ⟨⟨e, a1⟩, h1, ⟨r, a2⟩, h2, h3⟩
      simp only [Option.some.injEq, Prod.mk.injEq] at h3
      obtain ⟨rfl, rfl⟩ := h3
      have g1 := rdEv_spec hb h1
      obtain ⟨i1, i2⟩ := (rdEv_at hb ha).1 h1
      obtain ⟨j1, j2, j3⟩ := (rdEvs_at g1.2).1 h2
      refine ⟨by simp [j1], ?_, ?_⟩
      · intro x hx
        rcases List.mem_cons.1 hx with rfl | hx
        · exact i1
        · exact j2 x hx
      · simp only [evsB, List.flatMap_cons] at j3 ⊢
        exact i2.join j3
    · rintro ⟨h1, h2, h3⟩
      cases l with
      | nil => simp at h1
      | cons e r =>
        simp only [evsB, List.flatMap_cons] at h3
        obtain ⟨k1, k2, k3⟩ := h3.split ha
        exact ⟨_, (rdEv_at hb ha).2 ⟨h2 e (by simp), k1⟩, (r, a'), (rdEvs_at k3).2 ⟨by simpa using h1, fun y hy => h2 y (by simp [hy]), k2⟩, rfl⟩

theorem pRdr_iff {x : Rdr} : pRdr b = some x ↔ rdrFits x = true ∧ (∀ e ∈ x.2.2.1, EvWf e) ∧ b = rdrB x := by
  simp only [pRdr, Option.bind_eq_some_iff, rdrEnd]
  constructor
  · rintro ⟨⟨e, a1⟩, h1, ⟨o, a2⟩, h2, ⟨n, a3⟩, h3, ⟨l, a4⟩, h4, h5⟩
    have g1 := rdNum_spec hb h1
    have g2 := rdNum_spec hb h2
    have g3 := rdNum_spec hb h3
    obtain ⟨i1, i2⟩ := (rdNum_at hb (by omega)).1 h1
    obtain ⟨j1, j2⟩ := (rdNum_at hb g1.2.2).1 h2
    obtain ⟨k1, k2⟩ := (rdNum_at hb g2.2.2).1 h3
    obtain ⟨l1, l2, l3⟩ := (rdEvs_at hb g3.2.2).1 h4
    dsimp only at h5
    split at h5
    case isFalse => cases h5
    rename_i hh
    simp only [Option.some.injEq] at h5
    subst h5 l1
    obtain ⟨rfl, hf⟩ := hh
    refine ⟨hf, fun e he => ⟨(l2 e he).1.2, (l2 e he).2.1.2⟩, ?_⟩
    simp only [rdrB, numI_nat]
    exact (((i2.join j2).join k2).join l3).all
  · obtain ⟨e, o, l, ⟨⟩⟩ := x
    rintro ⟨h1, h2, h3⟩
    obtain ⟨k1, k2, k3, k4⟩ := rdrFits_spec h1
    simp only at k1 k2 k3 k4 h2
    obtain ⟨e, rfl⟩ : ∃ n : Nat, e = (n : Int) := ⟨e.toNat, by omega⟩
    obtain ⟨o, rfl⟩ : ∃ n : Nat, o = (n : Int) := ⟨o.toNat, by omega⟩
    have h4 := At.whole h3
    simp only [rdrB, numI_nat, List.append_assoc] at h4
    obtain ⟨i1, i2, i3⟩ := h4.split (by omega)
    obtain ⟨i4, i5, i6⟩ := i2.split i3
    obtain ⟨i7, i8, i9⟩ := i5.split i6
    refine ⟨_, (rdNum_at hb (by omega)).2 ⟨by omega, i1⟩, _, (rdNum_at hb i3).2 ⟨by omega, i4⟩, _, (rdNum_at hb i6).2 ⟨by omega, i7⟩, _, (rdEvs_at hb i9).2 ⟨rfl, fun y hy => ?_, i8⟩, ?_⟩
    · have q1 := k4 y hy
      have q2 := h2 y hy
      simp only [evOk, isIn, Bool.and_eq_true, decide_eq_true_eq] at q1
      unfold EvWf at q2
      exact ⟨⟨by omega, by omega⟩, ⟨by omega, by omega⟩, by omega⟩
    · dsimp only
      rw [if_pos ⟨rfl, h1⟩]

end

theorem textB_bytes (s : List UInt8) : Bytes (textB s) := by
  refine bytes_append (numB_bytes _) fun c hc => ?_
  obtain ⟨x, _, rfl⟩ := List.mem_map.1 hc
  have := x.toNat_lt
  omega

theorem evB_bytes (e : Ev) : Bytes (evB e) := bytes_append (bytes_append (numI_bytes _) (numI_bytes _)) (textB_bytes _)

theorem evsB_bytes (l : List Ev) : Bytes (evsB l) := fun c hc => by
  obtain ⟨x, _, hx⟩ := List.mem_flatMap.1 hc
  exact evB_bytes x c hx

theorem rdrB_bytes (x : Rdr) : Bytes (rdrB x) := bytes_append (bytes_append (bytes_append (numI_bytes _) (numI_bytes _)) (numI_bytes _)) (evsB_bytes _)

theorem sameEvents_self {l : List Ev} (hl : l.length ≤ 2 ^ 40) : laws_sameEvents l l = some ((true, ()), ()) := by
  have key : ∀ (n i : Nat), i ≤ l.length → l.length - i < n → laws_sameEvents_L4 n l l i = some ((true, ()), ()) := by
    intro n
    induction n with
    | zero => intro i _ h; omega
    | succ n ih =>
      intro i hi h
      simp only [laws_sameEvents_L4, laws_sameEvents_step4, cond_decide']
      by_cases hc : i < l.length
      · rw [if_pos (by omega), if_pos (by omega), if_pos (by omega), w64_eq (by omega) (by omega), show (((i : Nat) : Int) + 1) = ((i + 1 : Nat) : Int) by omega, ih (i + 1) (by omega) (by omega)]
        simp
      · rw [if_neg (by omega)]
  unfold laws_sameEvents laws_sameEvents_entry
  have := key FUEL 0 (by omega) (FUEL_lt (by omega))
  rw [show ((0 : Nat) : Int) = 0 from rfl] at this
  rw [this]
  simp

section
variable {code : List Int} (hc : code.length ≤ 2 ^ 30)
include hc

theorem l1Pick_ok {i h : Int} {l : List (List UInt8)} (hi : CurOk code i) (hl : l ≠ []) (hn : l.length ≤ 2 ^ 30) : ∃ v i' h', spec_l1Pick l code i h = some ((v, ()), ((code, i', h', ()), ())) ∧ v ∈ l ∧ CurOk code i' := by
  unfold spec_l1Pick
  have hp := List.length_pos_iff.2 hl
  obtain ⟨v, i1, h1, e, v0, v1, _, hi1⟩ := l1Below_ok hc (h := h) (n := l.length) hi (by omega)
  rw [e]
  simp only [Option.bind_some]
  have := v1 (by omega)
  rw [if_pos ⟨v0, this⟩]
  obtain ⟨k, rfl⟩ : ∃ k : Nat, v = (k : Int) := ⟨v.toNat, by omega⟩
  exact ⟨_, i1, h1, rfl, by rw [getD_nat (by omega)]; exact List.getElem_mem _, hi1⟩

theorem l1DrawPlace_ok {i h : Int} (hi : CurOk code i) : ∃ v i' h', spec_l1DrawPlace code i h = some ((v, ()), ((code, i', h', ()), ())) ∧ v < 2 ^ 63 ∧ -2 ^ 63 ≤ v ∧ CurOk code i' := by
  unfold spec_l1DrawPlace spec_l1Place
  obtain ⟨v1, i1, h1, e1, a1, b1, _, hi1⟩ := l1Below_ok hc (h := h) (n := 3) hi (by omega)
  rw [e1]
  simp only [Option.bind_some]
  obtain ⟨v2, i2, h2, e2, a2, b2, _, hi2⟩ := l1Below_ok hc (h := h1) (n := 6) hi1 (by omega)
  rw [e2]
  simp only [Option.bind_some]
  obtain ⟨v3, i3, h3, e3, a3, b3, _, hi3⟩ := l1Below_ok hc (h := h2) (n := 15) hi2 (by omega)
  rw [e3]
  simp only [Option.bind_some]
  have := b1 (by omega)
  have := b2 (by omega)
  cases v3 == 0 with
  | true =>
    simp only [cond_true]
    obtain ⟨p, i4, h4, e4, hp, hi4⟩ := l1PickInt_ok hc (h := h3) (l := [0, (-1), 4294967296, 4294967297, 9223372036854775807, (-9223372036854775808)]) hi3 (by simp) (by simp)
    rw [e4]
    simp at hp
    exact ⟨p, i4, h4, rfl, by omega, by omega, hi4⟩
  | false =>
    simp only [cond_false]
    cases v3 == 1 with
    | true =>
      simp only [cond_true]
      obtain ⟨p, i4, h4, e4, hp, hi4⟩ := l1PickInt_ok hc (h := h3) (l := [0, 30, 31]) hi3 (by simp) (by simp)
      rw [e4]
      simp only [Option.bind_some]
      obtain ⟨q, i5, h5, e5, hq, hi5⟩ := l1PickInt_ok hc (h := h4) (l := [0, 60, 61]) hi4 (by simp) (by simp)
      rw [e5]
      simp only [Option.bind_some]
      simp at hp hq
      rw [w64_eq (x := 4294967296 * p) (by omega) (by omega), w64_eq (by omega) (by omega)]
      exact ⟨_, i5, h5, rfl, by omega, by omega, hi5⟩
    | false =>
      simp only [cond_false]
      rw [w64_eq (x := 1 + v1) (by omega) (by omega), w64_eq (x := 1 + v2) (by omega) (by omega), w64_eq (x := 4294967296 * _) (by omega) (by omega), w64_eq (by omega) (by omega)]
      exact ⟨_, i3, h3, rfl, by omega, by omega, hi3⟩

omit hc in
theorem ev0_wf : EvWf (0, 0, [], ()) := ⟨by simp, by simp⟩

omit hc in
theorem ev_getD {l : List Ev} (h : ∀ e ∈ l, EvWf e) (i : Nat) : EvWf (l.getD i (0, 0, [], ())) := by
  rw [List.getD]
  cases hg : l[i]? with
  | none => exact ev0_wf
  | some e => exact h e (List.mem_of_getElem? hg)

omit hc in
theorem ev_set {l : List Ev} (h : ∀ e ∈ l, EvWf e) {i : Nat} {e : Ev} (he : EvWf e) : ∀ e' ∈ l.set i e, EvWf e' := fun e' h' => by
  rcases List.mem_or_eq_of_mem_set h' with h' | rfl
  · exact h e' h'
  · exact he

theorem l10DrawReader_L {b1 b2 : Int} {b3 : List Ev} {e o : Int} : ∀ (n k : Nat) (i h : Int) (acc : List Ev), CurOk code i → k ≤ 4 → 4 - k < n → acc.length = k → (∀ e ∈ acc, EvWf e) →
    ∃ e' o' l i' h', spec_l10DrawReader_L3 n k code i h b1 b2 b3 e o acc = some (((e', o', (), ()), ()), ((code, i', h', ()), l, ())) ∧ l.length ≤ 121 ∧ (∀ e ∈ l, EvWf e) ∧ CurOk code i'
  | 0, _, _, _, _, _, _, h, _, _ => by omega
  | n + 1, k, i, h, acc, hi, hk, hn, hacc, hw => by
    simp only [spec_l10DrawReader_L3, spec_l10DrawReader_step3, cond_decide']
    obtain ⟨v, i1, h1, e1, a1, b1', _, hi1⟩ := l1Below_ok hc (h := h) (n := 4) hi (by omega)
    rw [e1]
    simp only [Option.bind_some]
    have := b1' (by omega)
    by_cases hlt : (k : Int) < v
    · rw [if_pos hlt]
      obtain ⟨v2, i2, h2, e2, a2, b2', _, hi2⟩ := l1Below_ok hc (h := h1) (n := 5) hi1 (by omega)
      rw [e2]
      simp only [Option.bind_some]
      obtain ⟨v3, i3, h3, e3, a3, b3', hi3⟩ := l1DrawPlace_ok hc (h := h2) hi2
      rw [e3]
      simp only [Option.bind_some]
      have := b2' (by omega)
      rw [if_pos (by rw [lim_eq]; omega), w64_eq (x := (k : Int) + 1) (by omega) (by omega), show ((k : Int) + 1) = ((k + 1 : Nat) : Int) by omega, w64_eq (by omega) (by omega)]
      exact l10DrawReader_L n (k + 1) i3 h3 _ hi3 (by omega) (by omega) (by simp [hacc]) (fun d hdd => by
        rcases List.mem_append.1 hdd with hdd | hdd
        · exact hw d hdd
        · simp at hdd; subst hdd; exact ⟨by simp only; omega, by simp only; omega⟩)
    · rw [if_neg hlt]
      obtain ⟨v2, i2, h2, e2, a2, b2', _, hi2⟩ := l1Below_ok hc (h := h1) (n := 25) hi1 (by omega)
      rw [e2]
      simp only [Option.bind_some]
      cases v2 == 0 with
      | true =>
        simp only [cond_true]
        obtain ⟨p, i4, h4, e4, hp, hi4⟩ := l1PickInt_ok hc (h := h2) (l := [0, 31, 32]) hi2 (by simp) (by simp)
        rw [e4]
        exact ⟨p, o, acc, i4, h4, rfl, by omega, hw, hi4⟩
      | false =>
        simp only [cond_false]
        cases v2 == 1 with
        | true =>
          simp only [cond_true]
          obtain ⟨p, i4, h4, e4, hp, hi4⟩ := l1PickInt_ok hc (h := h2) (l := [0, 60, 61, 62]) hi2 (by simp) (by simp)
          rw [e4]
          exact ⟨e, p, acc, i4, h4, rfl, by omega, hw, hi4⟩
        | false =>
          simp only [cond_false]
          cases v2 == 2 with
          | true =>
            simp only [cond_true]
            obtain ⟨p, i4, h4, e4, p1, p2, _, hi4⟩ := l1Below_ok hc (h := h2) (n := 2) hi2 (by omega)
            rw [e4]
            simp only [Option.bind_some]
            have := p2 (by omega)
            rw [w64_eq (by omega) (by omega), if_pos (by rw [lim_eq]; omega)]
            refine ⟨e, o, _, i4, h4, rfl, by simp; omega, fun d hd => ?_, hi4⟩
            rw [(List.mem_replicate.1 hd).2]
            exact ev0_wf
          | false => exact ⟨e, o, acc, i2, h2, rfl, by omega, hw, hi2⟩

theorem l10DrawReader_ok {i h : Int} (hi : CurOk code i) : ∃ e o l i' h', spec_l10DrawReader code i h = some (((e, o, (), ()), ()), ((code, i', h', ()), l, ())) ∧ l.length ≤ 121 ∧ (∀ e ∈ l, EvWf e) ∧ CurOk code i' := by
  unfold spec_l10DrawReader spec_l10DrawReader_entry
  obtain ⟨v1, i1, h1, e1, a1, b1, _, hi1⟩ := l1Below_ok hc (h := h) (n := 3) hi (by omega)
  rw [e1]
  simp only [Option.bind_some]
  obtain ⟨v2, i2, h2, e2, a2, b2, _, hi2⟩ := l1Below_ok hc (h := h1) (n := 5) hi1 (by omega)
  rw [e2]
  simp only [Option.bind_some]
  exact l10DrawReader_L hc FUEL 0 i2 h2 [] hi2 (by omega) (FUEL_lt (by omega)) rfl (by simp)

theorem DrawReaderPack_ok : ∃ e o l, spec_DrawReaderPack code = some (((e, o, (), ()), ()), (l, ())) ∧ l.length ≤ 121 ∧ ∀ e ∈ l, EvWf e := by
  unfold spec_DrawReaderPack
  obtain ⟨h1, e1⟩ := l1New_ok hc
  rw [e1]
  simp only [Option.bind_some]
  obtain ⟨e, o, l, i2, h2, e2, hl, hw, _⟩ := l10DrawReader_ok hc (h := h1) (cur0 hc)
  rw [e2]
  exact ⟨e, o, l, rfl, hl, hw⟩

theorem DrawReaderRead_L {e o : Int} : ∀ (n k : Nat) (i h : Int) (l : List Ev), CurOk code i → k ≤ l.length → l.length - k < n → l.length ≤ 121 → (∀ e ∈ l, EvWf e) →
    ∃ q, spec_DrawReaderRead_L4 n k code i h e o l = some (((), ()), (q, ())) ∧ Bytes q ∧ q.length ≤ 2 ^ 20 + 1
  | 0, _, _, _, _, _, _, h, _, _ => by omega
  | n + 1, k, i, h, l, hi, hk, hn, hl, hw => by
    simp only [spec_DrawReaderRead_L4, spec_DrawReaderRead_step4, cond_decide']
    by_cases hlt : k < l.length
    · rw [if_pos (by omega)]
      obtain ⟨v1, i1, h1, e1, a1, b1, _, hi1⟩ := l1Below_ok hc (h := h) (n := 3) hi (by omega)
      rw [e1]
      simp only [Option.bind_some, spec_l1Place]
      rw [if_pos (by omega)]
      obtain ⟨v2, i2, h2, e2, a2, b2, _, hi2⟩ := l1Below_ok hc (h := h1) (n := 5) hi1 (by omega)
      rw [e2]
      simp only [Option.bind_some, List.length_set]
      rw [if_pos (by omega)]
      obtain ⟨v3, i3, h3, e3, hv3, hi3⟩ := l1Pick_ok hc (h := h2) (l := [[], [97], [98, 99]]) hi2 (by simp) (by simp)
      rw [e3]
      simp only [Option.bind_some]
      rw [if_pos (by omega), w64_eq (x := (k : Int) + 1) (by omega) (by omega), show ((k : Int) + 1) = ((k + 1 : Nat) : Int) by omega]
      refine DrawReaderRead_L n (k + 1) i3 h3 _ hi3 (by simp; omega) (by simp; omega) (by simp; omega) ?_
      have w1 := ev_getD hw ((k : Int).toNat)
      have s1 := ev_set hw (i := ((k : Int).toNat)) (e := ((l.getD (k : Int).toNat (0, 0, [], ())).1, w64 (w64 (4294967296 * w64 (1 + v1)) + 1), (l.getD (k : Int).toNat (0, 0, [], ())).2.2.1, ())) ⟨w1.1, w64_lt _⟩
      have w2 := ev_getD s1 ((k : Int).toNat)
      have s2 := ev_set s1 (i := ((k : Int).toNat)) (e := (w64 (1 + v2), _, _, ())) ⟨w64_lt _, w2.2⟩
      have w3 := ev_getD s2 ((k : Int).toNat)
      exact ev_set s2 (i := ((k : Int).toNat)) (e := (_, _, v3, ())) ⟨w3.1, w3.2⟩
    · rw [if_neg (by omega), spec_ReaderPack_eq (by simp only; omega) hw]
      simp only [Option.bind_some]
      obtain ⟨q, i3, h3, e3, hq, hql⟩ := l17Spoil_ok hc (h := h) (p := if rdrFits (e, o, l, ()) = true then rdrB (e, o, l, ()) else []) hi (by
        split
        · exact rdrB_bytes _
        · intro c hcc; cases hcc) (by
        split
        · rename_i hf
          have := rdrB_len hf hw
          omega
        · simp)
      rw [e3]
      refine ⟨q, rfl, hq, ?_⟩
      split at hql
      · rename_i hf
        have := rdrB_len hf hw
        omega
      · simp at hql; omega

theorem DrawReaderRead_ok : ∃ q, spec_DrawReaderRead code = some (((), ()), (q, ())) ∧ Bytes q ∧ q.length ≤ 2 ^ 20 + 1 := by
  unfold spec_DrawReaderRead spec_DrawReaderRead_entry
  obtain ⟨h1, e1⟩ := l1New_ok hc
  rw [e1]
  simp only [Option.bind_some]
  obtain ⟨e, o, l, i2, h2, e2, hl, hw, hi2⟩ := l10DrawReader_ok hc (h := h1) (cur0 hc)
  rw [e2]
  exact DrawReaderRead_L hc FUEL 0 i2 h2 l hi2 (by omega) (FUEL_lt (by omega)) hl hw

end

theorem FnReaderBytes_true {x : List Int} (hv : Go.Fw.Vd (.sl (.int .u8)) x) : laws_FnReaderBytes x = some ((true, ()), ()) := by
  unfold laws_FnReaderBytes laws_big
  simp only [Option.bind_some, cond_decide']
  by_cases hs : (x.length : Int) > 1048576
  · rw [if_pos hs]
  rw [if_neg hs]
  have hc : x.length ≤ 2 ^ 30 := by omega
  obtain ⟨e, o, l, e1, hl, hw⟩ := DrawReaderPack_ok hc
  rw [e1]
  simp only [Option.bind_some]
  rw [impl_ReaderPack_eq (x := (e, o, l, ())) (by simp only; omega) hw, spec_ReaderPack_eq (x := (e, o, l, ())) (by simp only; omega) hw]
  simp only [Option.bind_some, bne_self_eq_false, cond_false]
  obtain ⟨q, e2, hq, hql⟩ := DrawReaderRead_ok hc
  rw [e2]
  simp only [Option.bind_some]
  rw [impl_ReaderRead_eq hq (by omega)]
  simp only [Option.bind_some]
  have hsame : (rdrRes q (pRdr q)).2.1 = q := by cases pRdr q <;> rfl
  rw [hsame, spec_ReaderRead_eq hq (by omega)]
  simp only [Option.bind_some, bne_self_eq_false, cond_false]
  obtain ⟨y, f, hr, hy1, hy2, hy3⟩ : ∃ (y : Rdr) (f : Bool), rdrRes q (pRdr q) = ((((y.1, y.2.1, (), ()), f, ()), ()), (q, y.2.2.1, ())) ∧ y.2.2.1.length ≤ 2 ^ 40 ∧ (∀ e ∈ y.2.2.1, EvWf e) ∧ ((f = true ∧ rdrFits y = true ∧ q = rdrB y) ∨ (f = false ∧ y = (0, 0, [], ()))) := by
    cases hp : pRdr q with
    | none => exact ⟨(0, 0, [], ()), false, rfl, by simp, by simp, .inr ⟨rfl, rfl⟩⟩
    | some y =>
      obtain ⟨k1, k2, k3⟩ := (pRdr_iff hq).1 hp
      have := (rdrFits_spec k1).2.2.1
      exact ⟨y, true, rfl, by omega, k2, .inl ⟨rfl, k1, k3⟩⟩
  rw [hr]
  simp only
  rw [impl_ReaderPack_eq (x := (y.1, y.2.1, y.2.2.1, ())) hy1 hy2]
  simp only [Option.bind_some]
  rw [show (y.1, y.2.1, y.2.2.1, ()) = y from rfl]
  have fin : (cond (!f)
        (cond ((y.2.2.1.length : Int) == 0)
          (some ((true, ()), ()))
        (cond f
          (cond (rdrFits y)
            (some ((((if rdrFits y = true then rdrB y else []).map fun n : Int => UInt8.ofNat n.toNat) == (q.map fun n : Int => UInt8.ofNat n.toNat), ()), ()))
          (some ((false, ()), ())))
        (some ((false, ()), ()))))
      (cond f
        (cond (rdrFits y)
          (some ((((if rdrFits y = true then rdrB y else []).map fun n : Int => UInt8.ofNat n.toNat) == (q.map fun n : Int => UInt8.ofNat n.toNat), ()), ()))
        (some ((false, ()), ())))
      (some ((false, ()), ())))) = some ((true, ()), ()) := by
    rcases hy3 with ⟨rfl, h2, h3⟩ | ⟨rfl, rfl⟩
    · simp [h2, ← h3]
    · simp
  rcases Bool.eq_false_or_eq_true (rdrFits (e, o, l, ())) with hok | hok
  · simp only [hok, cond_true, if_true]
    have hb := rdrB_bytes (e, o, l, ())
    have hlen := rdrB_len hok hw
    rw [impl_ReaderRead_eq hb (by omega), (pRdr_iff hb).2 ⟨hok, hw, rfl⟩]
    simp only [Option.bind_some, rdrRes, Bool.not_true, cond_false]
    rw [sameEvents_self (by omega)]
    simp only [Option.bind_some, cond_true, beq_self_eq_true, Bool.not_true, cond_false]
    exact fin
  · simp only [hok, cond_false]
    exact fin

end Go.M
end

section
/- Writers are read as they were written; drawn writers. -/
namespace Go.M
open Go.M.H (TEra TRegister TWord TWriter wsum wsum_len wsum_mem wEra wWord wRegister wWriter tyEra tyRegister tyWord tyWriter)

section
variable {b : List Int} (hb : Bytes b) (hl : b.length ≤ 2 ^ 30)
include hb hl

theorem pList_at {a a' : Nat} {l : List Int} (ha : a ≤ b.length) : pList b a = some (l, a') ↔ (∀ x ∈ l, 0 ≤ x ∧ x < 2 ^ 63) ∧ l.length < 2 ^ 63 ∧ At b a (listB l) a' := pList_iff hb ha hl

/-- A word that can lie in bytes. -/
def WNN (c : Cfg') (e : TWord) : Prop := e.1.length < 2 ^ 63 ∧ (∀ x ∈ e.2.1, 0 ≤ x ∧ x < 2 ^ 63) ∧ e.2.1.length < 2 ^ 63 ∧ e.2.2.1 = holds c e.2.1

theorem rdWord_at {c : Cfg'} {a a' : Nat} {e : TWord} (ha : a ≤ b.length) : rdWord b c a = some (e, a') ↔ WNN c e ∧ At b a (wordB e) a' := by
  simp only [rdWord, Option.bind_eq_some_iff, wordB]
  constructor
  · rintro ⟨⟨s, a1⟩, h1, ⟨l, a2⟩, h2, h4⟩
    have g1 := rdText_spec hb h1
    obtain ⟨i1, i2⟩ := (rdText_at hb ha).1 h1
    obtain ⟨j1, j2, j3⟩ := (pList_at hb hl g1.2.1).1 h2
    simp only [Option.some.injEq, Prod.mk.injEq] at h4
    obtain ⟨rfl, rfl⟩ := h4
    exact ⟨⟨i1, j1, j2, rfl⟩, i2.join j3⟩
  · obtain ⟨s, l, d, ⟨⟩⟩ := e
    rintro ⟨⟨h1, h2, h3, h4⟩, h6⟩
    simp only at h1 h2 h3 h4 h6
    subst h4
    obtain ⟨k1, k2, k3⟩ := h6.split ha
    exact ⟨_, (rdText_at hb ha).2 ⟨h1, k1⟩, _, (pList_at hb hl k3).2 ⟨h2, h3, k2⟩, rfl⟩

theorem rdWords_at {c : Cfg'} : ∀ {k a a' : Nat} {l : List TWord}, a ≤ b.length → (rdWords b c k a = some (l, a') ↔ l.length = k ∧ (∀ e ∈ l, WNN c e) ∧ At b a (wordsB l) a')
  | 0, a, a', l, ha => by
    simp only [rdWords, Option.some.injEq, Prod.mk.injEq]
    constructor
    · rintro ⟨rfl, rfl⟩
      exact ⟨rfl, by simp, At.nil⟩
    · rintro ⟨h1, _, h2, _⟩
      have : l = [] := List.eq_nil_of_length_eq_zero h1
      subst this
      simp [wordsB] at h2
      exact ⟨rfl, h2.symm⟩
  | k + 1, a, a', l, ha => by
    simp only [rdWords, Option.bind_eq_some_iff]
    constructor
    · rintro ⟨⟨e, a1⟩, h1, ⟨r, a2⟩, h2, h3⟩
      simp only [Option.some.injEq, Prod.mk.injEq] at h3
      obtain ⟨rfl, rfl⟩ := h3
      obtain ⟨i1, i2⟩ := (rdWord_at hb hl ha).1 h1
      have g1 : a1 ≤ b.length := by
        simp only [rdWord, Option.bind_eq_some_iff, Option.some.injEq, Prod.mk.injEq] at h1
        obtain ⟨⟨s, a0⟩, h0, ⟨l0, a5⟩, h5, h7, rfl⟩ := h1
        exact (pList_adv hb h5).2
      obtain ⟨j1, j2, j3⟩ := (rdWords_at g1).1 h2
      refine ⟨by simp [j1], ?_, ?_⟩
      · intro x hx
        rcases List.mem_cons.1 hx with rfl | hx
        · exact i1
        · exact j2 x hx
      · simp only [wordsB, List.flatMap_cons] at j3 ⊢
        exact i2.join j3
    · rintro ⟨h1, h2, h3⟩
      cases l with
      | nil => simp at h1
      | cons e r =>
        simp only [wordsB, List.flatMap_cons] at h3
        obtain ⟨k1, k2, k3⟩ := h3.split ha
        exact ⟨_, (rdWord_at hb hl ha).2 ⟨h2 e (by simp), k1⟩, (r, a'), (rdWords_at k3).2 ⟨by simpa using h1, fun y hy => h2 y (by simp [hy]), k2⟩, rfl⟩

theorem pWr_iff {c : Cfg'} {x : TWriter} : pWr b c = some x ↔ writerOk c x = true ∧ b = writerB x := by
  simp only [pWr, Option.bind_eq_some_iff, wrEnd]
  constructor
  · rintro ⟨⟨e, a1⟩, h1, ⟨n, a3⟩, h3, ⟨l, a4⟩, h4, h5⟩
    have g1 := rdNum_spec hb h1
    have g3 := rdNum_spec hb h3
    obtain ⟨i1, i2⟩ := (rdNum_at hb (by omega)).1 h1
    obtain ⟨k1, k2⟩ := (rdNum_at hb g1.2.2).1 h3
    obtain ⟨l1, l2, l3⟩ := (rdWords_at hb hl g3.2.2).1 h4
    dsimp only at h5
    split at h5
    case isFalse => cases h5
    rename_i hh
    simp only [Option.some.injEq] at h5
    subst h5 l1
    obtain ⟨rfl, hf⟩ := hh
    refine ⟨hf, ?_⟩
    simp only [writerB, numI_nat]
    exact ((i2.join k2).join l3).all
  · obtain ⟨e, l, ⟨⟩⟩ := x
    rintro ⟨h1, h3⟩
    obtain ⟨k1, k2, k3, k4⟩ := writerOk_spec h1
    simp only at k1 k2 k3 k4
    obtain ⟨e, rfl⟩ : ∃ n : Nat, e = (n : Int) := ⟨e.toNat, by omega⟩
    have h4 := At.whole h3
    simp only [writerB, numI_nat, List.append_assoc] at h4
    obtain ⟨i1, i2, i3⟩ := h4.split (by omega)
    obtain ⟨i4, i5, i6⟩ := i2.split i3
    refine ⟨_, (rdNum_at hb (by omega)).2 ⟨by omega, i1⟩, _, (rdNum_at hb i3).2 ⟨by omega, i4⟩, _, (rdWords_at hb hl i6).2 ⟨rfl, fun y hy => ?_, i5⟩, ?_⟩
    · obtain ⟨q1, q2, q3, q4⟩ := wordOkB_spec (k4 y hy)
      exact ⟨by omega, fun x hx => by have := q3 x hx; omega, by omega, q4⟩
    · dsimp only
      rw [if_pos ⟨rfl, h1⟩]

end

theorem listB_bytes (l : List Int) : Bytes (listB l) := bytes_append (numB_bytes _) (numsB_bytes _)

theorem wordB_bytes (e : TWord) : Bytes (wordB e) := bytes_append (textB_bytes _) (listB_bytes _)

theorem wordsB_bytes (l : List TWord) : Bytes (wordsB l) := fun c hc => by
  obtain ⟨x, _, hx⟩ := List.mem_flatMap.1 hc
  exact wordB_bytes x c hx

theorem writerB_bytes (x : TWriter) : Bytes (writerB x) := bytes_append (bytes_append (numI_bytes _) (numI_bytes _)) (wordsB_bytes _)

/-! Drawn writers. -/

theorem l8Copy_L {o : Int} {l : List TWord} {x : Int} {y : List TWord} {z : Int} (hl : wsum wWord l ≤ 2 ^ 30) : ∀ (n i : Nat) (acc : List TWord), i ≤ l.length → l.length - i < n → acc.length = i →
    spec_l8Copy_L3 n i o l x y z acc = some (((z, (), ()), ()), (acc ++ l.drop i, ()))
  | 0, i, _, _, h, _ => by omega
  | n + 1, i, acc, hi, h, ha => by
    have hll := wsum_len (f := wWord) (l := l)
    simp only [spec_l8Copy_L3, spec_l8Copy_step3, cond_decide']
    by_cases hc : i < l.length
    · have hm := wsum_mem (f := wWord) (List.getElem_mem hc)
      rw [if_pos (by omega), if_pos (by omega), getD_nat hc, drop_cons hc]
      simp only [wWord] at hm
      rw [if_pos (by rw [lim_eq]; omega), if_pos (by rw [lim_eq]; omega), w64_eq (by omega) (by omega), show ((i : Int) + 1) = ((i + 1 : Nat) : Int) by omega]
      rw [l8Copy_L hl n (i + 1) _ (by omega) (by omega) (by simp [ha])]
      simp only [List.append_assoc, List.cons_append, List.nil_append]
    · rw [if_neg (by omega)]
      have : i = l.length := by omega
      subst this
      simp

theorem l8Copy_eq {w : TWriter} (hl : wsum wWord w.2.1 ≤ 2 ^ 30) : spec_l8Copy w = some (((w.1, (), ()), ()), (w.2.1, ())) := by
  have hll := wsum_len (f := wWord) (l := w.2.1)
  unfold spec_l8Copy spec_l8Copy_entry
  have := l8Copy_L (o := w.1) (l := w.2.1) (x := 0) (y := []) (z := w.1) hl FUEL 0 [] (by omega) (FUEL_lt (by omega)) rfl
  simpa using this

theorem l4Has_ok {l : List Int} {x : Int} (hl : l.length ≤ 2 ^ 30) : ∃ r, spec_l4Has l x = some ((r, ()), ()) := by
  have key : ∀ (n i : Nat), i ≤ l.length → l.length - i < n → ∃ r, spec_l4Has_L2 n l x i = some ((r, ()), ()) := by
    intro n
    induction n with
    | zero => intro i _ h; omega
    | succ n ih =>
      intro i hi h
      simp only [spec_l4Has_L2, spec_l4Has_step2, cond_decide']
      by_cases hc : i < l.length
      · rw [if_pos (by omega), if_pos (by omega), w64_eq (by omega) (by omega), show ((i : Int) + 1) = ((i + 1 : Nat) : Int) by omega]
        cases (l.getD ((i : Int).toNat) 0 == x) with
        | true => exact ⟨true, rfl⟩
        | false => exact ih (i + 1) (by omega) (by omega)
      · rw [if_neg (by omega)]
        exact ⟨false, rfl⟩
  unfold spec_l4Has spec_l4Has_entry
  have := key FUEL 0 (by omega) (FUEL_lt (by omega))
  simpa using this

theorem l4Put_L {l : List Int} {x : Int} (hl : l.length ≤ 2 ^ 30) : ∀ (n i : Nat) (t : Bool) (b : List Int), i ≤ l.length → l.length - i < n → b.length ≤ i + cond t 1 0 → ∃ l', spec_l4Put_L4 n l x t i b = some (((), ()), (l', ())) ∧ l'.length ≤ l.length + 1
  | 0, i, _, _, _, h, _ => by omega
  | n + 1, i, t, b, hi, h, hbl => by
    simp only [spec_l4Put_L4, spec_l4Put_step4, cond_decide']
    have hb2 : b.length ≤ i + 1 := by cases t <;> simp at hbl <;> omega
    by_cases hc : i < l.length
    · have hc2 : (0 : Int) ≤ (i : Int) ∧ (i : Int) < (l.length : Int) := by omega
      have hlim : b.length + 1 ≤ LIM := by rw [lim_eq]; omega
      rw [if_pos hc2.2, w64_eq (by omega) (by omega), show ((i : Int) + 1) = ((i + 1 : Nat) : Int) by omega]
      simp only [if_pos hc2, if_pos hlim]
      cases t with
      | true =>
        simp only [Bool.not_true, cond_false]
        exact l4Put_L hl n (i + 1) true _ (by omega) (by omega) (by simp at hbl ⊢; omega)
      | false =>
        simp only [Bool.not_false, cond_true]
        simp at hbl
        by_cases hg : l.getD ((i : Int).toNat) 0 > x
        · rw [if_pos hg, if_pos (by rw [lim_eq]; simp; omega)]
          exact l4Put_L hl n (i + 1) true _ (by omega) (by omega) (by simp; omega)
        · rw [if_neg hg]
          exact l4Put_L hl n (i + 1) false _ (by omega) (by omega) (by simp; omega)
    · rw [if_neg (by omega), if_pos (by rw [lim_eq]; omega)]
      cases t with
      | true => exact ⟨b, rfl, by omega⟩
      | false => exact ⟨_, rfl, by simp at hbl ⊢; omega⟩

theorem l4Put_ok {l : List Int} {x : Int} (hl : l.length ≤ 2 ^ 30) : ∃ l', spec_l4Put l x = some (((), ()), (l', ())) ∧ l'.length ≤ l.length + 1 := by
  unfold spec_l4Put spec_l4Put_entry
  obtain ⟨r, h⟩ := l4Has_ok (x := x) hl
  rw [h]
  exact l4Put_L hl FUEL 0 r [] (by omega) (FUEL_lt (by omega)) (by cases r <;> simp)

/-- A drawn writer's words are few and short. -/
def WI (l : List TWord) : Prop := l.length ≤ 61 ∧ ∀ e ∈ l, e.1.length ≤ 41 ∧ e.2.1.length ≤ 9

theorem WI.w {l : List TWord} (h : WI l) : wsum wWord l ≤ 2 ^ 20 := by
  have key : ∀ l : List TWord, (∀ e ∈ l, e.1.length ≤ 41 ∧ e.2.1.length ≤ 9) → wsum wWord l ≤ 60 * l.length := by
    intro l
    induction l with
    | nil => intro _; simp [wsum]
    | cons e l ih =>
      intro hh
      have := hh e (by simp)
      have := ih (fun e he => hh e (by simp [he]))
      simp only [wsum, wWord, List.length_cons] at this ⊢
      omega
  have := key l h.2
  have := h.1
  omega

theorem WI.of {c : Cfg'} {w : TWriter} (h : writerOk c w = true) : WI w.2.1 := by
  obtain ⟨h1, h2, h3, h4⟩ := writerOk_spec h
  exact ⟨by omega, fun e he => by have := wordOkB_spec (h4 e he); omega⟩

theorem WriterAdd_ok {c : Cfg'} {w : TWriter} {s : List UInt8} (hc : c.1.length ≤ 2 ^ 40) (hw : WI w.2.1) (hs : s.length ≤ 41) :
    ∃ w' : TWriter, ∃ off ok, spec_WriterAdd c w s = some ((((w'.1, (), ()), off, ok, ()), ()), (w'.2.1, ())) ∧ WI w'.2.1 := by
  unfold spec_WriterAdd
  have hww := hw.w
  rw [show (c.1, c.2.1, ()) = c from rfl, show (w.1, w.2.1, ()) = w from rfl, spec_WriterOk_eq hc (by omega), l8Copy_eq (by omega)]
  simp only [Option.bind_some]
  cases writerOk c w with
  | false => exact ⟨(0, [], ()), 0, false, rfl, by simp [WI]⟩
  | true =>
    have h1 := hw.1
    simp only [Bool.not_true, cond_false]
    rw [if_pos (by rw [lim_eq]; omega)]
    have hlong : wsum wWord (w.2.1 ++ [(s, [], false, ())]) ≤ 2 ^ 30 := by
      rw [wsum_snocW]
      simp only [wWord, List.length_nil]
      omega
    rw [spec_WriterOk_eq (w := (w.1, w.2.1 ++ [(s, [], false, ())], ())) hc hlong]
    simp only [Option.bind_some]
    rcases Bool.eq_false_or_eq_true (writerOk c (w.1, w.2.1 ++ [(s, [], false, ())], ())) with hf | hf
    · rw [hf]
      exact ⟨(w.1, w.2.1 ++ [(s, [], false, ())], ()), _, true, rfl, WI.of hf⟩
    · rw [hf]
      exact ⟨w, 0, false, rfl, hw⟩

theorem WriterAck_ok {c : Cfg'} {w : TWriter} {p q : Int} (hc : c.1.length ≤ 2 ^ 40) (hw : WI w.2.1) :
    ∃ w' : TWriter, ∃ ok, spec_WriterAck c w p q = some ((((w'.1, (), ()), ok, ()), ()), (w'.2.1, ())) ∧ WI w'.2.1 := by
  unfold spec_WriterAck
  have hww := hw.w
  rw [show (c.1, c.2.1, ()) = c from rfl, show (w.1, w.2.1, ()) = w from rfl, spec_WriterOk_eq hc (by omega), l8Copy_eq (by omega), spec_l1In_eq, spec_l1In_eq]
  simp only [Option.bind_some]
  rcases Bool.eq_false_or_eq_true (writerOk c w) with hok | hok
  rotate_left
  · rw [hok]
    exact ⟨(0, [], ()), false, rfl, by simp [WI]⟩
  have h1 := hw.1
  rw [hok]
  simp only [Bool.not_true, cond_false]
  rcases Bool.eq_false_or_eq_true (isIn p 1 (w.2.1.length : Int)) with hp | hp
  rotate_left
  · rw [hp]
    exact ⟨w, false, rfl, hw⟩
  rw [hp]
  simp only [Bool.not_true, cond_false]
  cases isIn q 0 (w64 ((c.1.length : Int) - 1)) with
  | false => exact ⟨w, false, rfl, hw⟩
  | true =>
    simp only [isIn, decide_eq_true_eq] at hp
    rw [w64_eq (x := p - 1) (by omega) (by omega)]
    obtain ⟨k, hk⟩ : ∃ k : Nat, p - 1 = (k : Int) := ⟨(p - 1).toNat, by omega⟩
    rw [hk]
    have hkl : k < w.2.1.length := by omega
    have hb : (0 : Int) ≤ (k : Int) ∧ (k : Int) < (w.2.1.length : Int) := by omega
    simp only [Bool.not_true, cond_false, List.length_set]
    rw [if_pos hb, if_pos hb, getD_nat hkl]
    have he := hw.2 _ (List.getElem_mem hkl)
    have he2 := wordOkB_spec ((writerOk_spec hok).2.2.2 _ (List.getElem_mem hkl))
    generalize hge : w.2.1[k] = e at he he2
    cases e.2.2.1 with
    | true => exact ⟨w, false, rfl, hw⟩
    | false =>
      simp only [cond_false]
      obtain ⟨l', hl1, hl2⟩ := l4Put_ok (l := e.2.1) (x := q) (by omega)
      rw [hl1]
      simp only [Option.bind_some]
      rw [if_pos hb, if_pos hb, Int.toNat_natCast]
      have hg : (w.2.1.set k (e.1, l', false, ())).getD k ([], [], false, ()) = (e.1, l', false, ()) := by
        simp [List.getD, hkl]
      rw [hg]
      simp only
      rw [spec_Holds_eq hc (by omega)]
      simp only [Option.bind_some]
      rw [if_pos hb]
      refine ⟨(w.1, (w.2.1.set k (e.1, l', false, ())).set k (e.1, l', holds c l', ()), ()), true, rfl, by simp only [List.length_set]; exact h1, ?_⟩
      intro y hy
      simp only [List.set_set] at hy
      rcases List.mem_or_eq_of_mem_set hy with hy | rfl
      · exact hw.2 y hy
      · exact ⟨he.1, by simp only; omega⟩

section
variable {code : List Int} (hc : code.length ≤ 2 ^ 30)
include hc

theorem l8DrawRight_L {c : Cfg'} (hcl : c.1.length ≤ 2 ^ 20) {x : Int} {y : List TWord} : ∀ (n k : Nat) (i h : Int) (w : TWriter), CurOk code i → k ≤ 14 → 14 - k < n → WI w.2.1 →
    ∃ (w' : TWriter) (i' h' : Int), spec_l8DrawRight_L3 n k code i h c.1 c.2.1 x y w.1 w.2.1 = some (((w'.1, (), ()), ()), ((code, i', h', ()), w'.2.1, ())) ∧ WI w'.2.1 ∧ CurOk code i'
  | 0, _, _, _, _, _, _, h, _ => by omega
  | n + 1, k, i, h, w, hi, hk, hn, hw => by
    simp only [spec_l8DrawRight_L3, spec_l8DrawRight_step3, cond_decide']
    obtain ⟨v, i1, h1, e1, a1, b1, _, hi1⟩ := l1Below_ok hc (h := h) (n := 14) hi (by omega)
    rw [e1]
    simp only [Option.bind_some]
    have := b1 (by omega)
    by_cases hlt : (k : Int) < v
    · rw [if_pos hlt]
      obtain ⟨s, i2, h2, e2, hs, hi2⟩ := l1Pick_ok hc (h := h1) (l := [[], [97], [98, 99]]) hi1 (by simp) (by simp)
      rw [e2]
      simp only [Option.bind_some]
      have hsl : s.length ≤ 41 := by
        simp at hs
        rcases hs with rfl | rfl | rfl <;> simp
      obtain ⟨w1, off, ok, e3, hw1⟩ := WriterAdd_ok (c := c) (w := w) (s := s) (by omega) hw hsl
      rw [show (c.1, c.2.1, ()) = c from rfl, show (w.1, w.2.1, ()) = w from rfl, e3]
      simp only [Option.bind_some]
      obtain ⟨o, i3, h3, e4, hi3⟩ := l1Once_ok hc (h := h2) (n := 2) hi2 (by omega)
      rw [e4]
      simp only [Option.bind_some]
      rw [w64_eq (x := (k : Int) + 1) (by omega) (by omega), show ((k : Int) + 1) = ((k + 1 : Nat) : Int) by omega]
      cases o with
      | true =>
        simp only [cond_true]
        have h61 := hw.1
        obtain ⟨m, em, hm⟩ : ∃ m : Int, spec_l1Max (w.2.1.length : Int) 1 = some ((m, ()), ()) ∧ m ≤ 2 ^ 40 := by
          unfold spec_l1Max
          rw [cond_decide']
          split
          · exact ⟨_, rfl, by omega⟩
          · exact ⟨1, rfl, by omega⟩
        rw [em]
        simp only [Option.bind_some]
        obtain ⟨v4, i4, h4, e5, a5, b5, _, hi4⟩ := l1Below_ok hc (h := h3) (n := m) hi3 hm
        rw [e5]
        simp only [Option.bind_some]
        obtain ⟨v5, i5, h5, e6, a6, b6, _, hi5⟩ := l1Below_ok hc (h := h4) (n := (c.1.length : Int)) hi4 (by omega)
        rw [e6]
        simp only [Option.bind_some]
        obtain ⟨w2, ok2, e7, hw2⟩ := WriterAck_ok (c := c) (w := w) (p := w64 (1 + v4)) (q := v5) (by omega) hw
        rw [e7]
        simp only [Option.bind_some]
        cases ok2 with
        | true => exact l8DrawRight_L hcl n (k + 1) i5 h5 w2 hi5 (by omega) (by omega) hw2
        | false => exact l8DrawRight_L hcl n (k + 1) i5 h5 w hi5 (by omega) (by omega) hw
      | false =>
        simp only [cond_false]
        cases ok with
        | true => exact l8DrawRight_L hcl n (k + 1) i3 h3 w1 hi3 (by omega) (by omega) hw1
        | false => exact l8DrawRight_L hcl n (k + 1) i3 h3 w hi3 (by omega) (by omega) hw
    · rw [if_neg hlt]
      exact ⟨w, i1, h1, rfl, hw, hi1⟩

theorem l8DrawRight_ok {c : Cfg'} (hcl : c.1.length ≤ 2 ^ 20) {i h : Int} (hi : CurOk code i) :
    ∃ (w' : TWriter) (i' h' : Int), spec_l8DrawRight c code i h = some (((w'.1, (), ()), ()), ((code, i', h', ()), w'.2.1, ())) ∧ WI w'.2.1 ∧ CurOk code i' := by
  unfold spec_l8DrawRight spec_l8DrawRight_entry
  obtain ⟨v, i1, h1, e1, a1, b1, _, hi1⟩ := l1Below_ok hc (h := h) (n := 4) hi (by omega)
  rw [e1]
  exact l8DrawRight_L hc hcl FUEL 0 i1 h1 (w64 (1 + v), [], ()) hi1 (by omega) (FUEL_lt (by omega)) (by simp [WI])

omit hc in
theorem l8Draw_L {x : Int} {y : List TWord} {z : Int} {i h : Int} (hi : CurOk code i) : ∀ (n : Nat) (l : List TWord), 61 - l.length < n → WI l →
    ∃ l', spec_l8Draw_L11 n code i h x y z l = some (((z, (), ()), ()), ((code, i, h, ()), l', ())) ∧ WI l'
  | 0, _, h, _ => by omega
  | n + 1, l, hn, hw => by
    simp only [spec_l8Draw_L11, spec_l8Draw_step11, cond_decide']
    have h1 := hw.1
    by_cases h60 : l.length < 60
    · rw [if_pos (by omega)]
      by_cases h0 : 0 < l.length
      · rw [if_pos (by omega), if_pos (by omega), if_pos (by rw [lim_eq]; omega)]
        refine l8Draw_L hi n _ (by simp; omega) ⟨by simp; omega, fun e he => ?_⟩
        rcases List.mem_append.1 he with he | he
        · exact hw.2 e he
        · simp only [List.mem_singleton] at he
          have hm : l.getD 0 ([], [], false, ()) ∈ l := by
            have := getD_nat (l := l) (i := 0) (d := ([], [], false, ())) h0
            simp only [Int.ofNat_zero, Int.toNat_zero] at this
            rw [this]
            exact List.getElem_mem _
          rw [he]
          exact hw.2 _ hm
      · rw [if_neg (by omega)]
        exact ⟨l, rfl, hw⟩
    · rw [if_neg (by omega)]
      exact ⟨l, rfl, hw⟩

theorem l8Draw_ok {c : Cfg'} (hcl : c.1.length ≤ 2 ^ 20) {i h : Int} (hi : CurOk code i) :
    ∃ (w' : TWriter) (i' h' : Int), spec_l8Draw c code i h = some (((w'.1, (), ()), ()), ((code, i', h', ()), w'.2.1, ())) ∧ wsum wWord w'.2.1 ≤ 2 ^ 20 ∧ CurOk code i' := by
  unfold spec_l8Draw spec_l8Draw_entry
  obtain ⟨w, i1, h1, e1, hw, hi1⟩ := l8DrawRight_ok hc hcl (h := h) hi
  rw [show (c.1, c.2.1, ()) = c from rfl, e1]
  simp only [Option.bind_some]
  obtain ⟨v, i2, h2, e2, a2, b2, _, hi2⟩ := l1Below_ok hc (h := h1) (n := 25) hi1 (by omega)
  rw [e2]
  simp only [Option.bind_some]
  have h61 := hw.1
  cases v == 0 with
  | true =>
    simp only [cond_true]
    obtain ⟨p, i3, h3, e3, hp, hi3⟩ := l1PickInt_ok hc (h := h2) (l := [0, 30, 31]) hi2 (by simp) (by simp)
    rw [e3]
    exact ⟨(p, w.2.1, ()), i3, h3, rfl, hw.w, hi3⟩
  | false =>
    simp only [cond_false]
    cases v == 1 with
    | true =>
      simp only [cond_true, cond_decide']
      by_cases h0 : 0 < w.2.1.length
      · rw [if_pos (by omega), if_pos (by omega), if_pos (by omega)]
        refine ⟨(w.1, w.2.1.set 0 ((w.2.1.getD 0 ([], [], false, ())).1, (w.2.1.getD 0 ([], [], false, ())).2.1, !(w.2.1.getD 0 ([], [], false, ())).2.2.1, ()), ()), i2, h2, rfl, WI.w ⟨by simp; omega, fun e he => ?_⟩, hi2⟩
        rcases List.mem_or_eq_of_mem_set he with he | rfl
        · exact hw.2 e he
        · have hm : w.2.1.getD 0 ([], [], false, ()) ∈ w.2.1 := by
            have := getD_nat (l := w.2.1) (i := 0) (d := ([], [], false, ())) h0
            simp only [Int.ofNat_zero, Int.toNat_zero] at this
            rw [this]
            exact List.getElem_mem _
          have := hw.2 _ hm
          exact this
      · rw [if_neg (by omega)]
        exact ⟨w, i2, h2, rfl, hw.w, hi2⟩
    | false =>
      simp only [cond_false]
      cases v == 2 with
      | true =>
        simp only [cond_true]
        obtain ⟨p, i3, h3, e3, a3, b3, _, hi3⟩ := l1Below_ok hc (h := h2) (n := 2) hi2 (by omega)
        rw [e3]
        simp only [Option.bind_some]
        have := b3 (by omega)
        rw [w64_eq (by omega) (by omega), if_pos (by rw [lim_eq]; omega), if_pos (by rw [lim_eq]; omega)]
        refine ⟨(w.1, w.2.1 ++ [(List.map (fun n : Int => UInt8.ofNat n.toNat) (List.replicate (40 + p).toNat 0), [], false, ())], ()), i3, h3, rfl, ?_, hi3⟩
        have hww := hw.w
        have key := wsum_snocW (l := w.2.1) (e := (List.map (fun n : Int => UInt8.ofNat n.toNat) (List.replicate (40 + p).toNat 0), [], false, ()))
        have hws : wsum wWord w.2.1 ≤ 60 * 61 := by
          have key2 : ∀ l : List TWord, (∀ e ∈ l, e.1.length ≤ 41 ∧ e.2.1.length ≤ 9) → wsum wWord l ≤ 60 * l.length := by
            intro l
            induction l with
            | nil => intro _; simp [wsum]
            | cons e l ih =>
              intro hh
              have := hh e (by simp)
              have := ih (fun e he => hh e (by simp [he]))
              simp only [wsum, wWord, List.length_cons] at this ⊢
              omega
          have := key2 _ hw.2
          omega
        simp only
        rw [key]
        simp only [wWord, List.length_map, List.length_replicate, List.length_nil]
        omega
      | false =>
        simp only [cond_false]
        cases v == 3 with
        | true =>
          simp only [cond_true]
          obtain ⟨l', e4, hw4⟩ := l8Draw_L (x := 0) (y := []) (z := w.1) (h := h2) hi2 FUEL w.2.1 (FUEL_lt (by omega)) hw
          rw [e4]
          exact ⟨(w.1, l', ()), i2, h2, rfl, hw4.w, hi2⟩
        | false => exact ⟨w, i2, h2, rfl, hw.w, hi2⟩

theorem DrawWriterPack_ok : ∃ (c : Cfg') (w : TWriter), spec_DrawWriterPack code = some (((((), c.2.1, ()), (w.1, (), ()), ()), ()), (c.1, w.2.1, ())) ∧ c.1.length ≤ 9 ∧ wsum wWord w.2.1 ≤ 2 ^ 20 := by
  unfold spec_DrawWriterPack spec_DrawWriterOk
  obtain ⟨h1, e1⟩ := l1New_ok hc
  rw [e1]
  simp only [Option.bind_some]
  obtain ⟨l, c, i2, h2, e2, hl, hi2⟩ := l4Draw_ok hc (h := h1) (cur0 hc)
  rw [e2]
  simp only [Option.bind_some]
  obtain ⟨w, i3, h3, e3, hw, hi3⟩ := l8Draw_ok hc (c := (l, c, ())) (by simp only; omega) (h := h2) hi2
  rw [e3]
  exact ⟨(l, c, ()), w, rfl, hl, hw⟩

theorem DrawWriterRead_ok : ∃ (c : Cfg') (q : List Int), spec_DrawWriterRead code = some (((((), c.2.1, ()), (), ()), ()), (c.1, q, ())) ∧ c.1.length ≤ 9 ∧ Bytes q ∧ q.length ≤ 2 ^ 20 + 1 := by
  unfold spec_DrawWriterRead
  obtain ⟨h1, e1⟩ := l1New_ok hc
  rw [e1]
  simp only [Option.bind_some]
  obtain ⟨l, c, i2, h2, e2, hg, hi2⟩ := l4DrawRight_ok hc (h := h1) (cur0 hc)
  rw [e2]
  simp only [Option.bind_some]
  obtain ⟨g1, g2, g3, g4, g5⟩ := id hg
  obtain ⟨w, i3, h3, e3, hw, hi3⟩ := l8DrawRight_ok hc (c := (l, c, ())) (by simp only; omega) (h := h2) hi2
  rw [e3]
  simp only [Option.bind_some]
  rw [spec_WriterPack_eq (c := (l, c, ())) (w := (w.1, w.2.1, ())) (by simp only; omega) (by have := hw.w; simp only; omega)]
  simp only [Option.bind_some]
  have hq : Bytes (if writerOk (l, c, ()) (w.1, w.2.1, ()) = true then writerB (w.1, w.2.1, ()) else []) ∧ (if writerOk (l, c, ()) (w.1, w.2.1, ()) = true then writerB (w.1, w.2.1, ()) else []).length ≤ 2 ^ 20 := by
    rcases Bool.eq_false_or_eq_true (writerOk (l, c, ()) (w.1, w.2.1, ())) with hf | hf
    · rw [if_pos hf]
      exact ⟨writerB_bytes _, writerB_len hf⟩
    · rw [if_neg (by rw [hf]; simp)]
      exact ⟨fun c hcc => by simp at hcc, by simp⟩
  obtain ⟨q, i4, h4, e4, hq1, hq2⟩ := l17Spoil_ok hc (h := h3) hi3 hq.1 (by omega)
  rw [e4]
  exact ⟨(l, c, ()), q, rfl, by simp only; omega, hq1, by omega⟩

end

theorem WriterSure_ok {w : TWriter} (hl : w.2.1.length ≤ 2 ^ 40) : ∃ r, impl_WriterSure w = some ((r, ()), ()) := by
  have key : ∀ (n i : Nat), i ≤ w.2.1.length → w.2.1.length - i < n → ∃ r, impl_WriterSure_L2 n w.2.1 w.2.1.length i w.1 w.2.1 = some ((r, ()), ()) := by
    intro n
    induction n with
    | zero => intro i _ h; omega
    | succ n ih =>
      intro i hi h
      simp only [impl_WriterSure_L2, impl_WriterSure_step2, cond_decide']
      by_cases hc : i < w.2.1.length
      · rw [if_pos (by omega), if_pos (by omega), w64_eq (by omega) (by omega), show ((i : Int) + 1) = ((i + 1 : Nat) : Int) by omega]
        cases !(w.2.1.getD ((i : Int).toNat) ([], [], false, ())).2.2.1 with
        | true => exact ⟨_, rfl⟩
        | false => exact ih (i + 1) (by omega) (by omega)
      · rw [if_neg (by omega)]
        exact ⟨_, rfl⟩
  unfold impl_WriterSure impl_WriterSure_entry
  have := key FUEL 0 (by omega) (FUEL_lt (by omega))
  simpa using this

theorem FnWriterBytes_true {x : List Int} (hv : Go.Fw.Vd (.sl (.int .u8)) x) : laws_FnWriterBytes x = some ((true, ()), ()) := by
  unfold laws_FnWriterBytes laws_big
  simp only [Option.bind_some, cond_decide']
  by_cases hs : (x.length : Int) > 1048576
  · rw [if_pos hs]
  rw [if_neg hs]
  have hc : x.length ≤ 2 ^ 30 := by omega
  obtain ⟨c, w, e1, hcl, hw⟩ := DrawWriterPack_ok hc
  rw [e1]
  simp only [Option.bind_some]
  rw [show (c.1, c.2.1, ()) = c from rfl, show (w.1, w.2.1, ()) = w from rfl, impl_WriterPack_eq (by omega) (by omega), spec_WriterPack_eq (by omega) (by omega)]
  simp only [Option.bind_some, bne_self_eq_false, cond_false]
  obtain ⟨c2, q, e2, hcl2, hq, hql⟩ := DrawWriterRead_ok hc
  rw [e2]
  simp only [Option.bind_some]
  rw [show (c2.1, c2.2.1, ()) = c2 from rfl, impl_WriterRead_eq hq (by omega) (by omega)]
  simp only [Option.bind_some]
  have hsame : (wrRes q (pWr q c2)).2.1 = q := by cases pWr q c2 <;> rfl
  rw [hsame, spec_WriterRead_eq hq (by omega) (by omega)]
  simp only [Option.bind_some, bne_self_eq_false, cond_false]
  obtain ⟨y, f, hr, hy1, hy3⟩ : ∃ (y : TWriter) (f : Bool), wrRes q (pWr q c2) = ((((y.1, (), ()), f, ()), ()), (q, y.2.1, ())) ∧ wsum wWord y.2.1 ≤ 2 ^ 30 ∧ ((f = true ∧ writerOk c2 y = true ∧ q = writerB y) ∨ (f = false ∧ y = (0, [], ()))) := by
    cases hp : pWr q c2 with
    | none => exact ⟨(0, [], ()), false, rfl, by simp [wsum], .inr ⟨rfl, rfl⟩⟩
    | some y =>
      obtain ⟨k1, k3⟩ := (pWr_iff hq (by omega)).1 hp
      have := (WI.of k1).w
      exact ⟨y, true, rfl, by omega, .inl ⟨rfl, k1, k3⟩⟩
  rw [hr]
  simp only
  rw [show (y.1, y.2.1, ()) = y from rfl, impl_WriterPack_eq (by omega) hy1]
  simp only [Option.bind_some]
  have fin : (cond (!f)
        (cond ((y.2.1.length : Int) == 0)
          (some ((true, ()), ()))
        (cond f
          (cond (writerOk c2 y)
            (some ((((if writerOk c2 y = true then writerB y else []).map fun n : Int => UInt8.ofNat n.toNat) == (q.map fun n : Int => UInt8.ofNat n.toNat), ()), ()))
          (some ((false, ()), ())))
        (some ((false, ()), ()))))
      (cond f
        (cond (writerOk c2 y)
          (some ((((if writerOk c2 y = true then writerB y else []).map fun n : Int => UInt8.ofNat n.toNat) == (q.map fun n : Int => UInt8.ofNat n.toNat), ()), ()))
        (some ((false, ()), ())))
      (some ((false, ()), ())))) = some ((true, ()), ()) := by
    rcases hy3 with ⟨rfl, h2, h3⟩ | ⟨rfl, rfl⟩
    · simp [h2, ← h3]
    · simp
  rcases Bool.eq_false_or_eq_true (writerOk c w) with hok | hok
  · simp only [hok, cond_true, if_true]
    have hb := writerB_bytes w
    have hlen := writerB_len hok
    rw [impl_WriterRead_eq hb (by omega) (by omega), (pWr_iff hb (by omega)).2 ⟨hok, rfl⟩]
    simp only [Option.bind_some, wrRes, Bool.not_true, cond_false]
    have hll := (WI.of hok).1
    obtain ⟨r, hr2⟩ := WriterSure_ok (w := w) (by omega)
    rw [show (w.1, w.2.1, ()) = w from rfl, hr2]
    simp only [Option.bind_some, cond_true, beq_self_eq_true, Bool.not_true, cond_false]
    exact fin
  · simp only [hok, cond_false]
    exact fin

end Go.M
end
