/- The framework, part 2: a checked interpreter of the model's code over abstract states; no claim is made here. -/
import Derived.Test.YtobkjajoopkgkaaF0
import Derived.Deep.MidRow
import Derived.Tactics
import Derived.OrdersHeld
import Derived.ChangeArms
import Derived.ChangeOld
import Derived.DataReads
import Derived.Below
set_option linter.unusedVariables false
set_option linter.unusedSimpArgs false
section
namespace Go.Fw
theorem setCell_heap (w : World) (b o : Nat) (v : Value) : (w.setCell ⟨b, o, none⟩ v).heap = w.heap.modify b fun
    | .cells c elem frozen => .cells (c.setIfInBounds o v) elem frozen
    | o => o := rfl
theorem setCells_heap : ∀ (vs : List Value) (o : Nat) (w : World) (b : Nat) (arr : Array Value) (ty : TypeId) (fr : Nat × Nat), w.heap[b]? = some (.cells arr ty fr) →
    (w.setCells b o vs).heap[b]? = some (.cells (setsFrom arr o vs) ty fr)
  | [], _, _, _, _, _, _, h => h
  | v :: l, o, w, b, arr, ty, fr, h => by
    simp only [World.setCells, setsFrom]
    refine setCells_heap l (o + 1) _ b _ ty fr ?_
    rw [setCell_heap, Array.getElem?_modify, if_pos rfl, h]
    rfl
theorem setCells_size : ∀ (vs : List Value) (o : Nat) (w : World) (b : Nat), (w.setCells b o vs).heap.size = w.heap.size
  | [], _, _, _ => rfl
  | v :: l, o, w, b => by
    simp only [World.setCells]
    rw [setCells_size l, setCell_heap, Array.size_modify]
theorem setCells_other : ∀ (vs : List Value) (o : Nat) (w : World) (b c : Nat), c ≠ b → (w.setCells b o vs).heap[c]? = w.heap[c]?
  | [], _, _, _, _, _ => rfl
  | v :: l, o, w, b, c, h => by
    simp only [World.setCells]
    rw [setCells_other l _ _ _ _ h, setCell_heap, Array.getElem?_modify, if_neg (fun e => h e.symm)]
theorem setCells_grown : ∀ (vs : List Value) (o : Nat) (w : World) (b : Nat), Grown w (w.setCells b o vs)
  | [], _, _, _ => ⟨rfl, rfl, rfl, Nat.le_refl _⟩
  | v :: l, o, w, b => by
    have := setCells_grown l (o + 1) (w.setCell ⟨b, o, none⟩ v) b
    refine ⟨this.os, this.tape, this.output, ?_⟩
    rw [setCells_size]
    exact Nat.le_refl _
theorem setsFrom_get {arr : Array Value} : ∀ {l : List Value} {o j : Nat}, o + l.length ≤ arr.size → (setsFrom arr o l)[j]? = if o ≤ j ∧ j < o + l.length then l[j - o]? else arr[j]? := by
  intro l
  induction l generalizing arr with
  | nil => intro o j _; rw [if_neg (fun hh => by simp only [List.length_nil] at hh; omega)]; rfl
  | cons c l ih =>
    intro o j h
    simp only [List.length_cons] at h
    simp only [setsFrom]
    rw [ih (by simp; omega)]
    by_cases h1 : o + 1 ≤ j ∧ j < o + 1 + l.length
    · rw [if_pos h1, if_pos (by simp; omega)]
      rw [show j - o = (j - (o + 1)) + 1 by omega]
      simp
    · rw [if_neg h1]
      by_cases h2 : o = j
      · subst h2
        rw [if_pos (by simp), Array.getElem?_setIfInBounds_self_of_lt (by omega), Nat.sub_self]
        rfl
      · rw [if_neg (fun hh => by simp only [List.length_cons] at hh; omega), Array.getElem?_setIfInBounds_ne h2]
theorem cell_of_block {w : World} {b o : Nat} {arr : Array Value} {ty : TypeId} {fr : Nat × Nat} (h : w.heap[b]? = some (.cells arr ty fr)) : w.cell? ⟨b, o, none⟩ = arr[o]? := by
  simp [World.cell?, h]
theorem cellsAt_set {w : World} {b o : Nat} {vs : List Value} {arr : Array Value} {ty : TypeId} {fr : Nat × Nat} (h : w.heap[b]? = some (.cells arr ty fr)) (hs : o + vs.length ≤ arr.size) : CellsAt (w.setCells b o vs) b o vs := by
  intro j v hj
  have hl := (List.getElem?_eq_some_iff.1 hj).1
  rw [cell_of_block (setCells_heap vs o w b arr ty fr h), setsFrom_get hs, if_pos (by omega), show o + j - o = j by omega, hj]
theorem cellsAt_apart {w : World} {b b' o o' : Nat} {vs cs : List Value} {arr : Array Value} {ty : TypeId} {fr : Nat × Nat} (hc : CellsAt w b' o' cs) (h : w.heap[b]? = some (.cells arr ty fr)) (hs : o + vs.length ≤ arr.size)
    (ha : b' ≠ b ∨ o' + cs.length ≤ o ∨ o + vs.length ≤ o') : CellsAt (w.setCells b o vs) b' o' cs := by
  intro j v hj
  have hl := (List.getElem?_eq_some_iff.1 hj).1
  by_cases hb : b' = b
  · subst hb
    have := hc j v hj
    rw [cell_of_block h] at this
    rw [cell_of_block (setCells_heap vs o w b' arr ty fr h), setsFrom_get hs, if_neg (by omega), this]
  · rw [World.cell?_of_block (a := ⟨b', o' + j, none⟩) (setCells_other vs o w b b' hb)]
    exact hc j v hj
theorem there_of {w : World} {b o n : Nat} {arr : Array Value} {ty : TypeId} {fr : Nat × Nat} (h : w.heap[b]? = some (.cells arr ty fr)) (hs : o + n ≤ arr.size) (hu : Unfr fr arr.size) : w.there b o n := by
  intro j hj
  refine ⟨?_, ?_⟩
  · rw [cell_of_block h]
    simp; omega
  · have := hu (o + j) (by omega)
    obtain ⟨lo, hi⟩ := fr
    simp only [World.frozen?, h]
    simp at this ⊢
    omega
theorem Ow_one {w : World} {S : Nat → Prop} : ∀ {r : Ty} {d : Nat} {cs : List Value} {y : r.D} {F : List Nat}, Ow w S d r cs y F → ∀ v ∈ cs, v.oneCell' = true
  | .int _, _, _, _, _, h, v, hv => by simp only [Ow] at h; rw [h.1] at hv; simp at hv; subst hv; rfl
  | .bool, _, _, _, _, h, v, hv => by simp only [Ow] at h; rw [h.1] at hv; simp at hv; subst hv; rfl
  | .str, _, _, _, _, h, v, hv => by simp only [Ow] at h; rw [h.1] at hv; simp at hv; subst hv; rfl
  | .unit, _, _, _, _, h, v, hv => by simp only [Ow] at h; rw [h.1] at hv; simp at hv
  | .sl _, 0, _, _, _, h, v, hv => by
    simp only [Ow, Rd] at h
    obtain ⟨⟨_, _, rfl, _⟩, _⟩ := h
    simp at hv; subst hv; rfl
  | .sl _, _ + 1, _, _, _, h, v, hv => by
    simp only [Ow] at h
    obtain ⟨_, _, rfl, _⟩ := h
    simp at hv; subst hv; rfl
  | .cons _ _, _, _, _, _, h, v, hv => by
    simp only [Ow] at h
    obtain ⟨u, l, F1, F2, rfl, _, h1, h2⟩ := h
    rcases List.mem_cons.1 hv with rfl | hv
    · exact Ow_one h1 _ (by simp)
    · exact Ow_one h2 _ hv
section
variable {P : Program} {w : World}
structure News (P : Program) (w : World) (size n : Nat) (x : Value) (news : List Value) : Prop where
  len : ∀ w', (Builtin.lenOf x).run P w' = .ok n w'
  cells : ∀ w', w'.heap = w.heap → (Builtin.firstCells size n x).run P w' = .ok news.toArray w'
theorem drew_heap : w.drew.heap = w.heap := rfl
theorem und_not_int {u : TypeId} (hu : (∃ e, P.underlying u = some (.slice e)) ∨ P.underlying u = some .string) :
    ∃ d, P.underlying u = some d ∧ (match d with | .int _ => true | _ => false) = false := by
  rcases hu with ⟨e, hu⟩ | hu
  · exact ⟨_, hu, rfl⟩
  · exact ⟨_, hu, rfl⟩
theorem run_append_in {ts : Array TypeId} {t u ty e : TypeId} (ht0 : ts[0]? = some t) (ht1 : ts[1]? = some u) {i : TypeInfo} {size : Nat} (ht : P.underlying t = some (.slice e)) (hu : (∃ e, P.underlying u = some (.slice e)) ∨ P.underlying u = some .string) (hi : P.info? e = some i) (hsz : i.size = size)
    {b o sLen sCap n : Nat} {x : Value} {news : List Value} (hn : News P w size n x news) (hroom : sLen + n ≤ sCap) (hth : w.there b (o + sLen * size) news.length) (h1 : ∀ v ∈ news, v.oneCell' = true) :
    (Builtin.append_ ts ty #[.slice (some ⟨b, o, none⟩) sLen sCap, x]).run P w = .ok (.slice (some ⟨b, o, none⟩) (sLen + n) sCap) (w.setCells b (o + sLen * size) news) := by
  subst hsz
  have hst := run_storeCells_cells (P := P) b (o + sLen * i.size) news 0 w (fun j hj => by simpa using (hth j hj).1) (fun j hj => by simpa using (hth j hj).2) h1
  simp only [Nat.add_zero] at hst
  have hl := hn.len w
  have hf := hn.cells w rfl
  rcases hu with ⟨e', hu⟩ | hu
  · simp [Builtin.append_, ht0, ht1, run_underlying ht, run_underlying hu, sizeOf, typeInfo, hi, hl, hroom, hf, Addr.add_eq, hst]
  · simp [Builtin.append_, ht0, ht1, run_underlying ht, run_underlying hu, sizeOf, typeInfo, hi, hl, hroom, hf, Addr.add_eq, hst]
theorem run_append_none {ts : Array TypeId} {t u ty e : TypeId} (ht0 : ts[0]? = some t) (ht1 : ts[1]? = some u) {i : TypeInfo} {size : Nat} (ht : P.underlying t = some (.slice e)) (hu : (∃ e, P.underlying u = some (.slice e)) ∨ P.underlying u = some .string) (hi : P.info? e = some i) (hsz : i.size = size)
    {a : Option Addr} {x : Value} (hn : News P w size 0 x []) :
    (Builtin.append_ ts ty #[.slice a 0 0, x]).run P w = .ok (.slice a 0 0) w := by
  subst hsz
  have hl := hn.len w
  have hf := hn.cells w rfl
  cases a with
  | none =>
    rcases hu with ⟨e', hu⟩ | hu
    · simp [Builtin.append_, ht0, ht1, run_underlying ht, run_underlying hu, sizeOf, typeInfo, hi, hl, hf]
    · simp [Builtin.append_, ht0, ht1, run_underlying ht, run_underlying hu, sizeOf, typeInfo, hi, hl, hf]
  | some a =>
    have hst : (storeCells (a.add (0 * i.size)) [] 0).run P w = .ok () w := rfl
    rcases hu with ⟨e', hu⟩ | hu
    · simp [Builtin.append_, ht0, ht1, run_underlying ht, run_underlying hu, sizeOf, typeInfo, hi, hl, hf, storeCells]
    · simp [Builtin.append_, ht0, ht1, run_underlying ht, run_underlying hu, sizeOf, typeInfo, hi, hl, hf, storeCells]
theorem run_append_more {ts : Array TypeId} {t u ty e : TypeId} (ht0 : ts[0]? = some t) (ht1 : ts[1]? = some u) {i : TypeInfo} {z : Value} {size : Nat} (ht : P.underlying t = some (.slice e)) (hu : (∃ e, P.underlying u = some (.slice e)) ∨ P.underlying u = some .string) (hi : P.info? e = some i) (hz : i.zero = some z) (hsz : i.size = size)
    {a : Option Addr} {sLen sCap n : Nat} {x : Value} {olds news : List Value} (ho : ∀ w', w'.heap = w.heap → (Builtin.firstCells size sLen (.slice a sLen sCap)).run P w' = .ok olds.toArray w')
    (hn : News P w size n x news) (hmore : sCap < sLen + n) (h63 : sLen + n ≤ LIM) (hby : i.bytes ≤ 512) :
    (Builtin.append_ ts ty #[.slice a sLen sCap, x]).run P w = .ok (.slice (some ⟨w.heap.size, 0, none⟩) (sLen + n) (grownCap w (sLen + n) sCap e))
      (w.drew.alloc (.cells (olds.toArray ++ news.toArray ++ Builtin.zeroCells z.cells (grownCap w (sLen + n) sCap e - (sLen + n))) e)) := by
  subst hsz
  have hl := hn.len w
  have hf := hn.cells w.drew rfl
  have hfo := ho w.drew rfl
  have hno : ¬ (sLen + n ≤ sCap) := by omega
  have hb : (sLen + n) * i.bytes ≤ 140737488355328 := by
    have : (sLen + n) * i.bytes ≤ LIM * 512 := Nat.mul_le_mul h63 hby
    simp only [LIM] at this
    omega
  have h48 := growslice_fits hmore hb
  have h48' : ¬ (281474976710656 < Builtin.nextslicecap (sLen + n) sCap * i.bytes) := by omega
  have h63' : ¬ (9223372036854775807 < ((sLen : Int) + (n : Int))) := by simp only [LIM] at h63; omega
  rcases hu with ⟨e', hu⟩ | hu
  · simp [Builtin.append_, ht0, ht1, run_underlying ht, run_underlying hu, sizeOf, typeInfo, zeroValue, hi, hz, hl, hno, h63', h48', Question.forced, hf, hfo, newRow, grownCap]
    congr 2
    apply Array.ext'
    simp [List.append_assoc]
  · simp [Builtin.append_, ht0, ht1, run_underlying ht, run_underlying hu, sizeOf, typeInfo, zeroValue, hi, hz, hl, hno, h63', h48', Question.forced, hf, hfo, newRow, grownCap]
    congr 2
    apply Array.ext'
    simp [List.append_assoc]
end
end Go.Fw
end

section
namespace Go.Fw
def RowsAt (w : World) (S : Nat → Prop) (d : Nat) (r : Ty) (css : List (List Value)) (rows : List r.D) (Fs : List (List Nat)) : Prop :=
  css.length = rows.length ∧ Fs.length = rows.length ∧ (∀ c ∈ css, c.length = r.n) ∧ ∀ (i : Nat) cs y G, css[i]? = some cs → rows[i]? = some y → Fs[i]? = some G → Ow w S d r cs y G
theorem RowsAt.mono {w w' : World} {S S' : Nat → Prop} {d : Nat} {r : Ty} {css : List (List Value)} {rows : List r.D} {Fs : List (List Nat)} (h : RowsAt w S d r css rows Fs) (hS : ∀ c, S c → S' c) (hw : ∀ c, S c → w'.heap[c]? = w.heap[c]?)
    (hF : ∀ c ∈ Fs.flatten, w'.heap[c]? = w.heap[c]?) : RowsAt w' S' d r css rows Fs :=
  ⟨h.1, h.2.1, h.2.2.1, fun i cs y G a b c => Ow_mono hS hw (fun x hx => hF x (List.mem_flatten.2 ⟨G, List.mem_of_getElem? c, hx⟩)) (h.2.2.2 i cs y G a b c)⟩
theorem RowsAt.append {w : World} {S : Nat → Prop} {d : Nat} {r : Ty} {css css' : List (List Value)} {rows rows' : List r.D} {Fs Fs' : List (List Nat)} (h : RowsAt w S d r css rows Fs) (k : RowsAt w S d r css' rows' Fs') :
    RowsAt w S d r (css ++ css') (rows ++ rows') (Fs ++ Fs') := by
  refine ⟨by simp [h.1, k.1], by simp [h.2.1, k.2.1], fun c hc => (List.mem_append.1 hc).elim (h.2.2.1 c) (k.2.2.1 c), fun i cs y G a b c => ?_⟩
  by_cases hi : i < rows.length
  · rw [List.getElem?_append_left (by rw [h.1]; exact hi)] at a
    rw [List.getElem?_append_left hi] at b
    rw [List.getElem?_append_left (by rw [h.2.1]; exact hi)] at c
    exact h.2.2.2 i cs y G a b c
  · rw [List.getElem?_append_right (by rw [h.1]; omega)] at a
    rw [List.getElem?_append_right (by omega)] at b
    rw [List.getElem?_append_right (by rw [h.2.1]; omega)] at c
    rw [h.1] at a; rw [h.2.1] at c
    exact k.2.2.2 _ cs y G a b c
theorem RowsAt.weaken {w : World} {S : Nat → Prop} {d d' : Nat} {r : Ty} {css : List (List Value)} {rows : List r.D} {Fs : List (List Nat)} (h : RowsAt w S d r css rows Fs) (hd : d' ≤ d) :
    ∃ (Gs : List (List Nat)) (W : List Nat), Fs.flatten.Perm (Gs.flatten ++ W) ∧ RowsAt w (fun c => S c ∨ c ∈ W) d' r css rows Gs := by
  obtain ⟨Gs, Ws, h1, h2, h3, h4⟩ := splitAll (R := fun i G F W => ∀ cs y, css[i]? = some cs → rows[i]? = some y → Ow w (fun c => S c ∨ c ∈ W) d' r cs y F) Fs 0 (fun i G hG => by
    rw [Nat.zero_add]
    have hi := (List.getElem?_eq_some_iff.1 hG).1
    have h1 := h.1
    have h2 := h.2.1
    obtain ⟨F, W, hp, ho⟩ := Ow_weaken hd (h.2.2.2 i _ _ G (List.getElem?_eq_getElem (by omega)) (List.getElem?_eq_getElem (by omega)) hG)
    refine ⟨F, W, hp, fun cs y a b => ?_⟩
    rw [List.getElem?_eq_getElem (by omega)] at a b
    cases a; cases b
    exact ho)
  refine ⟨Gs, Ws.flatten, h3, h.1, h1.trans h.2.1, h.2.2.1, fun i cs y G a b c => ?_⟩
  have hi := (List.getElem?_eq_some_iff.1 c).1
  have hw : Ws[i]? = some (Ws[i]'(by omega)) := List.getElem?_eq_getElem _
  have hf : Fs[i]? = some (Fs[i]'(by omega)) := List.getElem?_eq_getElem _
  have := h4 i _ _ _ hf c hw cs y (by rw [Nat.zero_add]; exact a) (by rw [Nat.zero_add]; exact b)
  exact Ow_mono (fun x hx => hx.imp id fun hx => List.mem_flatten.2 ⟨_, List.mem_of_getElem? hw, hx⟩) (fun _ _ => rfl) (fun _ _ => rfl) this
theorem flatten_len {n : Nat} : ∀ {css : List (List Value)}, (∀ c ∈ css, c.length = n) → css.flatten.length = css.length * n
  | [], _ => by simp
  | c :: l, h => by simp [h c (by simp), flatten_len (css := l) (fun c hc => h c (by simp [hc])), Nat.succ_mul]; omega
theorem RowsAt.one {w : World} {S : Nat → Prop} {d : Nat} {r : Ty} {css : List (List Value)} {rows : List r.D} {Fs : List (List Nat)} (h : RowsAt w S d r css rows Fs) : ∀ v ∈ css.flatten, v.oneCell' = true := by
  intro v hv
  obtain ⟨c, hc, hv⟩ := List.mem_flatten.1 hv
  obtain ⟨i, hi, rfl⟩ := List.getElem_of_mem hc
  have h1 := h.1
  have h2 := h.2.1
  exact Ow_one (h.2.2.2 i _ _ _ (List.getElem?_eq_getElem hi) (List.getElem?_eq_getElem (by omega)) (List.getElem?_eq_getElem (by omega))) v hv
theorem RowsAt.flat {w : World} {B S : Nat → Prop} {d : Nat} {r : Ty} (hf : r.flat = true) {css : List (List Value)} {rows : List r.D} (h1 : css.length = rows.length) (h2 : ∀ c ∈ css, c.length = r.n)
    (h3 : ∀ (i : Nat) cs y, css[i]? = some cs → rows[i]? = some y → Rd w B r cs y) : RowsAt w S d r css rows (List.replicate rows.length []) := by
  refine ⟨h1, by simp, h2, fun i cs y G a b c => ?_⟩
  have : G = [] := List.eq_of_mem_replicate (List.mem_of_getElem? c)
  subst this
  exact Ow_flat hf (h3 i cs y a b)
theorem flatten_nils {n : Nat} : (List.replicate n ([] : List Nat)).flatten = [] := by simp
theorem CellsAt.heap {w w' : World} {b o : Nat} {cs : List Value} (h : CellsAt w b o cs) (e : w'.heap = w.heap) : CellsAt w' b o cs := h.of_block (by rw [e])
theorem news_slice {P : Program} {w : World} {a : Option Addr} {n cap size : Nat} {css : List (List Value)} (hl : css.length = n) (hc : ∀ c ∈ css, c.length = size)
    (h : n = 0 ∨ ∃ b o, a = some ⟨b, o, none⟩ ∧ CellsAt w b o css.flatten) : News P w size n (.slice a n cap) css.flatten := by
  refine ⟨fun w' => rfl, fun w' e => ?_⟩
  have hlen : css.flatten.length = n * size := by rw [flatten_len hc, hl]
  rcases h with rfl | ⟨b, o, rfl, h⟩
  · have : css = [] := List.eq_nil_of_length_eq_zero hl
    subst this
    cases a with
    | none => rfl
    | some a =>
      simp only [Builtin.firstCells, Nat.zero_mul, List.flatten_nil]
      exact run_loadCells_zero a
  · simp only [Builtin.firstCells]
    rw [← hlen]
    exact run_loadCells_at (h.heap e)
theorem news_str {P : Program} {w : World} {s : List UInt8} : News P w 1 s.length (.string ⟨s.toArray⟩) (s.map fun c => [Value.int .u8 (c.toNat : Int)]).flatten := by
  refine ⟨fun w' => rfl, fun w' _ => ?_⟩
  have hsz : (⟨s.toArray⟩ : ByteArray).size = s.length := by simp [ByteArray.size]
  have e1 : (⟨s.toArray⟩ : ByteArray).extract 0 s.length = ⟨s.toArray⟩ := by
    rw [← hsz]
    apply ByteArray.ext
    simp
  simp only [Builtin.firstCells, e1, Sem.run_pure]
  have : (s.map fun c => [Value.int .u8 (c.toNat : Int)]).flatten = s.map fun c => Value.int .u8 (c.toNat : Int) := by
    have := flatten_single (l := s.map fun c => Value.int .u8 (c.toNat : Int))
    simpa [List.map_map, Function.comp_def] using this
  rw [this]
  simp
theorem Ow_rows {w : World} {S : Nat → Prop} {d : Nat} {r : Ty} {v : Value} {rows : List r.D} {F : List Nat} (h : Ow w S (d + 1) (.sl r) [v] rows F) :
    ∃ a cap css Fs R, v = .slice a rows.length cap ∧ rows.length ≤ cap ∧ RowsAt w S d r css rows Fs ∧ F.Perm (Fs.flatten ++ R) ∧
      ((cap = 0 ∧ F = []) ∨ ∃ b o arr ty fr, a = some ⟨b, o, none⟩ ∧ w.heap[b]? = some (.cells arr ty fr) ∧ o + cap * r.n ≤ arr.size ∧ Unfr fr arr.size ∧ F = b :: Fs.flatten ∧ CellsAt w b o css.flatten) := by
  simp only [Ow] at h
  obtain ⟨a, cap, e, hle, h⟩ := h
  simp only [List.cons.injEq, and_true] at e
  subst e
  rcases h with ⟨h, rfl⟩ | ⟨b, o, arr, ty, fr, Fs, rfl, hb, hsz, hu, rfl, hFl, hr⟩
  · have : rows = [] := List.eq_nil_of_length_eq_zero (by omega)
    subst this
    exact ⟨a, cap, [], [], [], rfl, hle, ⟨rfl, rfl, by simp, fun i cs y G h => by simp at h⟩, by simp, .inl ⟨h, rfl⟩⟩
  ·
    have key : ∀ (n o : Nat) (ys : List r.D) (Fs : List (List Nat)), ys.length = n → Fs.length = n → (∀ (i : Nat) (y : r.D) (G : List Nat), ys[i]? = some y → Fs[i]? = some G → ∃ cs, cs.length = r.n ∧ CellsAt w b (o + i * r.n) cs ∧ Ow w S d r cs y G) →
        ∃ css, RowsAt w S d r css ys Fs ∧ CellsAt w b o css.flatten := by
      intro n
      induction n with
      | zero =>
        intro o ys Fs h1 h2 _
        obtain rfl := List.eq_nil_of_length_eq_zero h1
        obtain rfl := List.eq_nil_of_length_eq_zero h2
        exact ⟨[], ⟨rfl, rfl, by simp, fun i cs y G h => by simp at h⟩, fun _ _ h => by simp at h⟩
      | succ n ih =>
        intro o ys Fs h1 h2 hh
        obtain ⟨y, ys, rfl⟩ := List.exists_cons_of_length_eq_add_one h1
        obtain ⟨G, Fs, rfl⟩ := List.exists_cons_of_length_eq_add_one h2
        obtain ⟨cs, c1, c2, c3⟩ := hh 0 y G rfl rfl
        obtain ⟨css, d1, d2⟩ := ih (o + r.n) ys Fs (by simpa using h1) (by simpa using h2) (fun i z G hz hG => by
          obtain ⟨cs, e1, e2, e3⟩ := hh (i + 1) z G (by simpa using hz) (by simpa using hG)
          refine ⟨cs, e1, ?_, e3⟩
          rw [Nat.add_mul, Nat.one_mul] at e2
          rwa [show o + r.n + i * r.n = o + (i * r.n + r.n) by omega])
        refine ⟨cs :: css, ⟨by simp [d1.1], by simp [d1.2.1], fun c hc => ?_, fun i cs' y' G' a b c => ?_⟩, ?_⟩
        · rcases List.mem_cons.1 hc with rfl | hc
          · exact c1
          · exact d1.2.2.1 c hc
        · cases i with
          | zero => simp at a b c; subst a b c; exact c3
          | succ i => exact d1.2.2.2 i cs' y' G' (by simpa using a) (by simpa using b) (by simpa using c)
        · rw [List.flatten_cons]
          refine CellsAt.append (by simpa using c2) ?_
          rw [c1]; exact d2
    obtain ⟨css, k1, k2⟩ := key rows.length o rows Fs rfl hFl hr
    refine ⟨_, cap, css, Fs, [b], rfl, hle, k1, ?_, .inr ⟨b, o, arr, ty, fr, rfl, hb, hsz, hu, rfl, k2⟩⟩
    exact (List.perm_append_comm (l₁ := [b]) (l₂ := Fs.flatten))
theorem Ow_shared {w : World} {S : Nat → Prop} : ∀ {r : Ty} {cs : List Value} {x : r.D}, Rd w S r cs x → Ow w S 0 r cs x []
  | .cons c r, cs, x, hr => by
    simp only [Rd] at hr
    obtain ⟨v, l, rfl, h1, h2⟩ := hr
    simp only [Ow]
    exact ⟨v, l, [], [], rfl, rfl, Ow_shared h1, Ow_shared h2⟩
  | .unit, _, _, hr => by simp only [Rd] at hr; simp [Ow, hr]
  | .int k, _, _, hr => by simp only [Rd] at hr; simp [Ow, hr]
  | .bool, _, _, hr => by simp only [Rd] at hr; simp [Ow, hr]
  | .str, _, _, hr => by simp only [Rd] at hr; simp [Ow, hr]
  | .sl q, _, _, hr => by simp only [Ow]; exact ⟨hr, trivial⟩
theorem srcRows_sound {P : Program} {E : Env} {w : World} {vw bx : List Bx} {G : List Nat} (h : Boxes E w vw bx G) (hw : Within bx vw) {x : AV} {v : Value} (hv : VR E w vw x v) {r : Ty} {rows : List r.D} {bx' : List Bx} {d : Nat}
    (e : srcRows bx x = some ⟨r, rows, bx', d⟩) : 1 ≤ d ∧ ∃ E' F css Fs R, Taken E w vw bx G E' bx' F ∧ F.Perm (List.flatten Fs ++ R) ∧ RowsAt w E'.S (d - 1) r css rows Fs ∧ News P w r.n rows.length v css.flatten := by
  have plain : ∀ {B : Nat → Prop} {ys : List r.D}, r.flat = true → Rd w B (.sl r) [v] ys → ∀ S : Nat → Prop, ∃ css, RowsAt w S 8 r css ys (List.replicate ys.length []) ∧ News P w r.n ys.length v css.flatten := by
    intro B ys hf hr S
    simp only [Rd] at hr
    obtain ⟨a, cap, e1, hle, hr⟩ := hr
    simp only [List.cons.injEq, and_true] at e1
    subst e1
    rcases hr with hr | ⟨b, o, rfl, _, hr⟩
    · have : ys = [] := List.eq_nil_of_length_eq_zero hr
      subst this
      exact ⟨[], ⟨rfl, rfl, by simp, fun i cs y G h => by simp at h⟩, news_slice (css := []) rfl (by simp) (.inl rfl)⟩
    · obtain ⟨css, c1, c2, c3, c4⟩ := Rd_cells hr
      exact ⟨css, RowsAt.flat hf c1 c2 c4, news_slice c1 c2 (.inr ⟨b, o, rfl, c3⟩)⟩
  have done : ∀ {B : Nat → Prop} {ys : List r.D}, r.flat = true → Rd w B (.sl r) [v] ys → rows = ys → bx' = bx → d = 9 →
      1 ≤ d ∧ ∃ E' F css Fs R, Taken E w vw bx G E' bx' F ∧ F.Perm (List.flatten Fs ++ R) ∧ RowsAt w E'.S (d - 1) r css rows Fs ∧ News P w r.n rows.length v css.flatten := by
    intro B ys hf hr e1 e2 e3
    subst e1 e2 e3
    obtain ⟨css, k1, k2⟩ := plain hf hr E.S
    exact ⟨by omega, E, [], css, _, [], Taken.refl h, by simp, k1, k2⟩
  unfold srcRows at e
  split at e
  · rename_i s
    simp only [Option.some.injEq, Sigma.mk.injEq] at e
    obtain ⟨rfl, e⟩ := e
    have e := eq_of_heq e
    simp only [Prod.mk.injEq] at e
    obtain ⟨rfl, rfl, rfl⟩ := e
    have hv' := VR_str hv
    subst hv'
    refine ⟨by omega, E, [], s.map fun c => [Value.int .u8 (c.toNat : Int)], _, [], Taken.refl h, ?_, RowsAt.flat (B := fun _ => False) rfl (by simp) (by simp [Ty.n]) (fun i cs y a b => ?_), ?_⟩
    · simp
    · simp only [List.getElem?_map, Option.map_eq_some_iff] at a b
      obtain ⟨c1, z1, rfl⟩ := a
      obtain ⟨c2, z2, rfl⟩ := b
      rw [z1] at z2; cases z2
      simp [Rd]
    · have := news_str (P := P) (w := w) (s := s)
      simpa [Ty.n] using this
  · rename_i s q ys
    split at e
    · rename_i hf
      simp only [Option.some.injEq, Sigma.mk.injEq] at e
      obtain ⟨rfl, e⟩ := e
      have e := eq_of_heq e
      simp only [Prod.mk.injEq] at e
      obtain ⟨rfl, rfl, rfl⟩ := e
      exact done hf hv rfl rfl rfl
    · split at e
      case isFalse => cases e
      rename_i hs
      simp only [Option.some.injEq, Sigma.mk.injEq] at e
      obtain ⟨rfl, e⟩ := e
      have e := eq_of_heq e
      simp only [Prod.mk.injEq] at e
      obtain ⟨rfl, rfl, rfl⟩ := e
      subst hs
      simp only [VR, if_true] at hv
      simp only [Rd] at hv
      obtain ⟨a, cap, e1, hle, hr⟩ := hv
      simp only [List.cons.injEq, and_true] at e1
      subst e1
      have key : ∃ css : List (List Value), List.length css = ys.length ∧ (∀ c ∈ css, c.length = q.n) ∧ (∀ (i : Nat) cs y, css[i]? = some cs → ys[i]? = some y → Rd w E.S q cs y) ∧ News P w q.n ys.length (.slice a ys.length cap) css.flatten := by
        rcases hr with hr | ⟨b, o, rfl, _, hr⟩
        · have : ys = [] := List.eq_nil_of_length_eq_zero hr
          subst this
          exact ⟨[], rfl, by simp, fun i cs y h => by simp at h, news_slice (css := []) rfl (by simp) (.inl rfl)⟩
        · obtain ⟨css, c1, c2, c3, c4⟩ := Rd_cells hr
          exact ⟨css, c1, c2, c4, news_slice c1 c2 (.inr ⟨b, o, rfl, c3⟩)⟩
      obtain ⟨css, c1, c2, c3, c4⟩ := key
      refine ⟨Nat.le_refl _, E, [], css, List.replicate ys.length [], [], Taken.refl h, by simp, ⟨c1, by simp, c2, fun i cs y G a b c => ?_⟩, c4⟩
      have : G = [] := List.eq_of_mem_replicate (List.mem_of_getElem? c)
      subst this
      exact Ow_shared (c3 i cs y a b)
  · rename_i b
    split at e
    case h_2 => cases e
    rename_i d0 q ys hb
    split at e
    · rename_i hf
      simp only [Option.some.injEq, Sigma.mk.injEq] at e
      obtain ⟨rfl, e⟩ := e
      have e := eq_of_heq e
      simp only [Prod.mk.injEq] at e
      obtain ⟨rfl, rfl, rfl⟩ := e
      obtain ⟨Fs, hB, hS⟩ := h
      exact done hf (readSl_rd hw hB hS.st hv (q := q) (ys := ys) (by simp [readSl, hb, getP])) rfl rfl rfl
    · simp only [Option.some.injEq, Sigma.mk.injEq] at e
      obtain ⟨rfl, e⟩ := e
      have e := eq_of_heq e
      simp only [Prod.mk.injEq] at e
      obtain ⟨rfl, rfl, rfl⟩ := e
      obtain ⟨F, ⟨hd, ho⟩, hB⟩ := h.take hb
      have hvw := view_sl hw hb
      simp only [VR, hvw, hdrAt_here, Option.some.injEq] at hv
      obtain ⟨_, _, _, rfl⟩ := hv
      obtain ⟨m, rfl⟩ : ∃ m, d0 = m + 1 := ⟨d0 - 1, by omega⟩
      obtain ⟨a, cap, css, Fs, R, e1, hle, hrows, hp, hcase⟩ := Ow_rows ho
      refine ⟨hd, E, F, css, Fs, R, ⟨Le.refl _, by simp, fun n B hn => ?_, hB⟩, hp, hrows, ?_⟩
      · rw [List.getElem?_set] at hn
        split at hn
        · split at hn
          · exact .inl (by simpa using hn.symm)
          · cases hn
        · exact .inr hn
      · rw [e1]
        refine news_slice hrows.1 hrows.2.2.1 ?_
        rcases hcase with ⟨h0, _⟩ | ⟨b, o, arr, ty, fr, rfl, _, _, _, _, hc⟩
        · exact .inl (by omega)
        · exact .inr ⟨b, o, rfl, hc⟩
  · rename_i b p _
    split at e
    case h_2 => cases e
    rename_i d0 q ys hb
    simp only [Option.bind_eq_some_iff] at e
    obtain ⟨⟨q', zs⟩, e1, e⟩ := e
    dsimp only at e
    split at e
    case isFalse => cases e
    rename_i hf
    simp only [Option.some.injEq, Sigma.mk.injEq] at e
    obtain ⟨rfl, e⟩ := e
    have e := eq_of_heq e
    simp only [Prod.mk.injEq] at e
    obtain ⟨rfl, rfl, rfl⟩ := e
    obtain ⟨Fs, hB, hS⟩ := h
    exact done hf (readSl_rd hw hB hS.st hv (q := q') (ys := zs) (by simp [readSl, hb, e1])) rfl rfl rfl
  · rename_i b p off n
    split at e
    case h_2 => cases e
    rename_i d0 q ys hb
    simp only [Option.bind_eq_some_iff] at e
    obtain ⟨⟨q', zs⟩, e1, e⟩ := e
    dsimp only at e
    split at e
    case isFalse => cases e
    rename_i hf
    simp only [Option.some.injEq, Sigma.mk.injEq] at e
    obtain ⟨rfl, e⟩ := e
    have e := eq_of_heq e
    simp only [Prod.mk.injEq] at e
    obtain ⟨rfl, rfl, rfl⟩ := e
    obtain ⟨Fs, hB, hS⟩ := h
    exact done hf (readSl_rd hw hB hS.st hv (q := q') (ys := (zs.drop off).take n) (by simp [readSl, hb, e1])) rfl rfl rfl
  · cases e
theorem dstRows_sound {E : Env} {w : World} {vw bx : List Bx} {G : List Nat} (h : Boxes E w vw bx G) (hw : Within bx vw) {x : AV} {v : Value} (hv : VR E w vw x v) {r : Ty} {rows : List r.D} {bx' : List Bx} {d : Nat}
    (e : dstRows bx x = some ⟨r, rows, bx', d⟩) : 1 ≤ d ∧ ∃ F1 F2, Taken E w vw bx G E bx' (F1 ++ F2) ∧ Ow w E.S d (.sl r) [v] rows F1 := by
  have tk : ∀ {b d0 : Nat} {q : Ty} {ys : List q.D}, bx[b]? = some (.sl d0 q ys) → ∃ F, 1 ≤ d0 ∧ Ow w E.S d0 (.sl q) [E.hdr b] ys F ∧ Taken E w vw bx G E (bx.set b .dead) F := by
    intro b d0 q ys hb
    obtain ⟨F, ⟨hd, ho⟩, hB⟩ := h.take hb
    refine ⟨F, hd, ho, ⟨Le.refl _, by simp, fun n B hn => ?_, hB⟩⟩
    rw [List.getElem?_set] at hn
    split at hn
    · split at hn
      · exact .inl (by simpa using hn.symm)
      · cases hn
    · exact .inr hn
  unfold dstRows at e
  split at e
  · rename_i b
    split at e
    case h_2 => cases e
    rename_i d0 q ys hb
    simp only [Option.some.injEq, Sigma.mk.injEq] at e
    obtain ⟨rfl, e⟩ := e
    have e := eq_of_heq e
    simp only [Prod.mk.injEq] at e
    obtain ⟨rfl, rfl, rfl⟩ := e
    obtain ⟨F, hd, ho, hT⟩ := tk hb
    have hvw := view_sl hw hb
    simp only [VR, hvw, hdrAt_here, Option.some.injEq] at hv
    obtain ⟨_, _, _, rfl⟩ := hv
    exact ⟨hd, F, [], by simpa using hT, ho⟩
  · rename_i b off n
    split at e
    case h_2 => cases e
    rename_i d0 q ys hb
    simp only [Option.some.injEq, Sigma.mk.injEq] at e
    obtain ⟨rfl, e⟩ := e
    have e := eq_of_heq e
    simp only [Prod.mk.injEq] at e
    obtain ⟨rfl, rfl, rfl⟩ := e
    obtain ⟨F, hd, ho, hT⟩ := tk hb
    have hvw := view_sl hw hb
    simp only [VR, hvw, hdrAt_here, Option.some.injEq] at hv
    obtain ⟨_, _, q', zs, a, len, cap, h1, h2, h3, rfl⟩ := hv
    simp only [getP, Option.some.injEq, Sigma.mk.injEq] at h1
    obtain ⟨rfl, h1⟩ := h1
    obtain rfl := eq_of_heq h1
    rw [h3] at ho
    obtain ⟨m, rfl⟩ : ∃ m, d0 = m + 1 := ⟨d0 - 1, by omega⟩
    obtain ⟨F1, F2, hp, ho'⟩ := Ow_sub ho h2
    exact ⟨hd, F1, F2, ⟨hT.le, hT.len, hT.within, hT.boxes.perm (List.Perm.append_right _ hp)⟩, ho'⟩
  · cases e
end Go.Fw
end

section
namespace Go.Fw
theorem firstCells_at {P : Program} {w : World} {a : Option Addr} {n cap size : Nat} {css : List (List Value)} (hl : css.length = n) (hc : ∀ c ∈ css, c.length = size)
    (h : n = 0 ∨ ∃ b o, a = some ⟨b, o, none⟩ ∧ CellsAt w b o css.flatten) : ∀ w', w'.heap = w.heap → (Builtin.firstCells size n (.slice a n cap)).run P w' = .ok css.flatten.toArray w' :=
  (news_slice (P := P) (cap := cap) hl hc h).cells
theorem zeroCells_len {z : Array Value} {n : Nat} : (Builtin.zeroCells z n).size = n * z.size := size_zeroCells z n
section
variable {Y : Type} {P : Program} {T : Tab} (hT : TabOk P T) {o : Oper} {E : Env} {σ : St} {a : Act} {w : World} {k : K Y} {y : Y}
include hT
theorem append_core (h : Rel E σ a w) {E2 : Env} {bx2 : List Bx} {F Fd R : List Nat} {t u ty : TypeId} {ts : Array TypeId} (ht0 : ts[0]? = some t) (ht1 : ts[1]? = some u)
    (hu : (∃ e, P.underlying u = some (.slice e)) ∨ P.underlying u = some .string) {m : Nat} {r : Ty} (hel : T.elemIs t r = true)
    (kT : Taken E w σ.bx σ.bx [] E2 bx2 F) {v1 v2 : Value} {drows srows : List r.D} {css : List (List Value)} {Fs : List (List Nat)}
    (ho : Ow w E2.S (m + 1) (.sl r) [v1] drows Fd) (hs : RowsAt w E2.S m r css srows Fs) (hn : News P w r.n srows.length v2 css.flatten) (hp : F.Perm (Fd ++ Fs.flatten ++ R)) (hlim : drows.length + srows.length ≤ LIM) :
    ∃ v w' E', (Builtin.append_ ts ty #[v1, v2]).run P w = .ok v w' ∧ Rel E' { σ with bx := bx2 ++ [.sl (m + 1) r (drows ++ srows)] } a w' ∧ Went [] E σ.bx w E' (bx2 ++ [.sl (m + 1) r (drows ++ srows)]) w' ∧
      XR E' w' (bx2 ++ [.sl (m + 1) r (drows ++ srows)]) (.c (.ref bx2.length [])) v := by
  obtain ⟨e, ti, hut, hti, hs1, hby, hrow⟩ := elemIs_spec hT hel
  obtain ⟨i, z, i1, i2, i3, i4, i5, hg⟩ := elem_zero hT hti hrow
  rw [hs1] at i2
  obtain ⟨Fs0, hB1, hB2⟩ := kT.boxes
  simp only [List.append_nil] at hB2
  have hdF : ∀ c ∈ Fd, c ∈ F := fun c hc => hp.mem_iff.2 (by simp [hc])
  have hsF : ∀ c ∈ Fs.flatten, c ∈ F := fun c hc => hp.mem_iff.2 (by simp only [List.mem_append]; exact .inl (.inr hc))
  have ndF := (List.nodup_append.1 (hp.nodup_iff.1 (List.nodup_append.1 hB2.nodup).2.1)).1
  have ltF : ∀ c ∈ F, c < w.heap.size := fun c hc => hB2.lt c (by simp only [List.mem_append]; exact .inr hc)
  have freeF : ∀ c ∈ F, ¬ E2.S c := fun c hc hS => hB2.free c (by simp only [List.mem_append]; exact .inr hc) (hB2.st c hS)
  have ho0 := ho
  obtain ⟨ad, cap, dcss, Fs1, R1, rfl, hle, hd, hp1, hcase⟩ := Ow_rows ho
  have hcl : css.flatten.length = srows.length * r.n := by rw [flatten_len hs.2.2.1, hs.1]
  have hdl : dcss.flatten.length = drows.length * r.n := by rw [flatten_len hd.2.2.1, hd.1]
  by_cases hroom : drows.length + srows.length ≤ cap
  · rcases hcase with ⟨h0, hF0⟩ | ⟨b, of, arr, ty0, fr, rfl, hb, hsz, hunf, rfl, hc⟩
    ·
      have hd0 : drows = [] := List.eq_nil_of_length_eq_zero (by omega)
      have hs0 : srows = [] := List.eq_nil_of_length_eq_zero (by omega)
      subst hd0 hs0
      have hc0 : css = [] := List.eq_nil_of_length_eq_zero hs.1
      subst hc0 h0
      have hrun := run_append_none (P := P) (w := w) (ty := ty) ht0 ht1 hut hu i1 i2 (a := ad) (x := v2) (by simpa using hn)
      obtain ⟨r1, r2, r3⟩ := finish_sl h kT (w' := w) (d := m + 1) (by omega) ho0 (fun c hc => .inl (hdF c hc)) (List.nodup_append.1 ndF).1 (fun c hc => ltF c (hdF c hc)) (fun _ _ _ => rfl) ⟨rfl, rfl, rfl, Nat.le_refl _⟩
      exact ⟨_, _, _, hrun, r1, r2, r3⟩
    ·
      have hfit : of + drows.length * r.n + css.flatten.length ≤ arr.size := by
        have : (drows.length + srows.length) * r.n ≤ cap * r.n := Nat.mul_le_mul_right _ hroom
        rw [Nat.add_mul] at this
        omega
      have hrun := run_append_in (P := P) (w := w) (ty := ty) ht0 ht1 hut hu i1 i2 (b := b) (o := of) hn hroom (there_of hb hfit hunf) hs.one
      have hbF : b ∈ F := hdF b (by simp)
      have hne : ∀ c, c ∈ Fs1.flatten ∨ c ∈ Fs.flatten ∨ E2.S c → c ≠ b := by
        intro c hcc e
        subst e
        rcases hcc with hcc | hcc | hcc
        · exact (List.nodup_cons.1 (List.nodup_append.1 ndF).1).1 hcc
        · exact (List.nodup_append.1 ndF).2.2 c (by simp) c hcc rfl
        · exact freeF c hbF hcc
      have oth : ∀ c, c ≠ b → (w.setCells b (of + drows.length * r.n) css.flatten).heap[c]? = w.heap[c]? := fun c hc => setCells_other _ _ _ _ _ hc
      have hd' := hd.mono (w' := w.setCells b (of + drows.length * r.n) css.flatten) (S' := E2.S) (fun _ h => h) (fun c hc => oth c (hne c (.inr (.inr hc)))) (fun c hc => oth c (hne c (.inl hc)))
      have hs' := hs.mono (w' := w.setCells b (of + drows.length * r.n) css.flatten) (S' := E2.S) (fun _ h => h) (fun c hc => oth c (hne c (.inr (.inr hc)))) (fun c hc => oth c (hne c (.inr (.inl hc))))
      have hall := hd'.append hs'
      have hcells : CellsAt (w.setCells b (of + drows.length * r.n) css.flatten) b of (dcss ++ css).flatten := by
        rw [List.flatten_append]
        refine CellsAt.append (cellsAt_apart hc hb hfit (.inr (.inl (by omega)))) ?_
        rw [hdl]
        exact cellsAt_set hb hfit
      have how : Ow (w.setCells b (of + drows.length * r.n) css.flatten) E2.S (m + 1) (.sl r) [.slice (some ⟨b, of, none⟩) (drows.length + srows.length) cap] (drows ++ srows) (b :: (Fs1 ++ Fs).flatten) := by
        simp only [Ow]
        refine ⟨_, cap, by rw [List.length_append], by rw [List.length_append]; exact hroom, .inr ⟨b, of, _, ty0, fr, Fs1 ++ Fs, rfl, setCells_heap _ _ _ _ _ _ _ hb, by rw [setsFrom_size]; exact hsz, by rw [setsFrom_size]; exact hunf, rfl, hall.2.1, fun j q G hq hG => ?_⟩⟩
        have hj := (List.getElem?_eq_some_iff.1 hq).1
        have h1 := hall.1
        have hjl : j < (dcss ++ css).length := by omega
        refine ⟨(dcss ++ css)[j], hall.2.2.1 _ (List.getElem_mem _), fun x u hx => ?_, hall.2.2.2 j _ _ _ (List.getElem?_eq_getElem hjl) hq hG⟩
        have hxl := (List.getElem?_eq_some_iff.1 hx).1
        rw [hall.2.2.1 _ (List.getElem_mem _)] at hxl
        have := flatten_get (n := r.n) (css := dcss ++ css) (ex := []) (i := j) hall.2.2.1 (List.getElem?_eq_getElem hjl) hxl
        rw [List.append_nil, hx] at this
        have := hcells _ _ this
        rwa [← Nat.add_assoc] at this
      have hperm : (b :: (Fs1 ++ Fs).flatten) = (b :: Fs1.flatten) ++ Fs.flatten := by simp
      rw [hperm] at how
      obtain ⟨r1, r2, r3⟩ := finish_sl h kT (w' := w.setCells b (of + drows.length * r.n) css.flatten) (d := m + 1) (by omega) how (fun c hc => .inl ((List.mem_append.1 hc).elim (hdF c) (hsF c))) ndF
        (fun c hc => by rw [setCells_size]; exact ltF c ((List.mem_append.1 hc).elim (hdF c) (hsF c))) (fun c hc hcF => oth c (fun e => hcF (e ▸ hbF))) (setCells_grown _ _ _ _)
      exact ⟨_, _, _, hrun, r1, r2, r3⟩
  ·
    have hold : drows.length = 0 ∨ ∃ b o, ad = some ⟨b, o, none⟩ ∧ CellsAt w b o dcss.flatten := by
      rcases hcase with ⟨h0, _⟩ | ⟨b, of, arr, ty0, fr, rfl, hb, hsz, hunf, rfl, hc⟩
      · exact .inl (by omega)
      · exact .inr ⟨b, of, rfl, hc⟩
    have hrun := run_append_more (P := P) (w := w) (ty := ty) ht0 ht1 hut hu i1 i4 i2 (firstCells_at (P := P) (cap := cap) hd.1 hd.2.2.1 hold) hn (by omega) hlim (by omega)
    have hge := grownCap_ge w (drows.length + srows.length) cap e
    generalize hgc : grownCap w (drows.length + srows.length) cap e = gc at hrun hge
    let arr : Array Value := dcss.flatten.toArray ++ css.flatten.toArray ++ Builtin.zeroCells z.cells (gc - (drows.length + srows.length))
    have harr : arr.toList = (dcss ++ css).flatten ++ (Builtin.zeroCells z.cells (gc - (drows.length + srows.length))).toList := by simp [arr]
    have hzl : z.cells.size = r.n := by rw [← Array.length_toList, i5, zvRow_len]
    have hasz : arr.size = gc * r.n := by
      simp only [arr, Array.size_append, List.size_toArray, zeroCells_len, hzl, hcl, hdl, ← Nat.add_mul]
      congr 1; omega
    let w' := w.drew.alloc (.cells arr e)
    have new : w'.heap[w.heap.size]? = some (.cells arr e) := by
      show (w.heap.push (.cells arr e))[w.heap.size]? = _
      simp
    have oldh : ∀ c, c < w.heap.size → w'.heap[c]? = w.heap[c]? := fun c hc => heap_push_old (w := w) (o := .cells arr e) hc
    have hR1 : ∀ c ∈ Fs1.flatten, c ∈ Fd := fun c hc => hp1.mem_iff.2 (by simp only [List.mem_append]; exact .inl hc)
    have hd' := hd.mono (w' := w') (S' := E2.S) (fun _ h => h) (fun c hc => oldh c (hB2.tlt c (hB2.st c hc))) (fun c hc => oldh c (ltF c (hdF c (hR1 c hc))))
    have hs' := hs.mono (w' := w') (S' := E2.S) (fun _ h => h) (fun c hc => oldh c (hB2.tlt c (hB2.st c hc))) (fun c hc => oldh c (ltF c (hsF c hc)))
    have hall := hd'.append hs'
    have how : Ow w' E2.S (m + 1) (.sl r) [.slice (some ⟨w.heap.size, 0, none⟩) (drows ++ srows).length gc] (drows ++ srows) (w.heap.size :: (Fs1 ++ Fs).flatten) :=
      Ow_block new harr hall.1 (by rw [List.length_append]; exact hge) (by omega) (Unfr_none _) hall.2.1 hall.2.2.2
    rw [List.length_append] at how
    have hin : ∀ c ∈ (Fs1 ++ Fs).flatten, c ∈ Fd ++ Fs.flatten := by
      intro c hc
      rw [List.flatten_append, List.mem_append] at hc
      exact List.mem_append.2 (hc.imp (hR1 c) id)
    have nd1 : (Fs1 ++ Fs).flatten.Nodup := by
      rw [List.flatten_append]
      have n1 := (List.nodup_append.1 (hp1.nodup_iff.1 (List.nodup_append.1 ndF).1)).1
      exact List.nodup_append.2 ⟨n1, (List.nodup_append.1 ndF).2.1, fun x hx y hy => (List.nodup_append.1 ndF).2.2 x (hR1 x hx) y hy⟩
    have hinF : ∀ c ∈ (Fs1 ++ Fs).flatten, c ∈ F := fun c hc => (List.mem_append.1 (hin c hc)).elim (hdF c) (hsF c)
    obtain ⟨r1, r2, r3⟩ := finish_sl h kT (w' := w') (d := m + 1) (by omega) how (by
        intro c hc
        rcases List.mem_cons.1 hc with rfl | hc
        · exact .inr (Nat.le_refl _)
        · exact .inl (hinF c hc)) (by
        refine List.nodup_cons.2 ⟨fun hc => ?_, nd1⟩
        have := ltF _ (hinF _ hc)
        omega) (by
        intro c hc
        rcases List.mem_cons.1 hc with rfl | hc
        · simp [w']
        · have := ltF _ (hinF _ hc)
          simp [w']; omega) (fun c hc _ => oldh c hc) ⟨rfl, rfl, rfl, by simp [w']⟩
    exact ⟨_, _, _, hrun, r1, r2, r3⟩
end
end Go.Fw
end

section
namespace Go.Fw
theorem toList_two {α β : Type} {args : Array α} {f : α → β} {x y : β} (h : args.toList.map f = [x, y]) : ∃ a b, args = #[a, b] ∧ f a = x ∧ f b = y := by
  obtain ⟨l⟩ := args
  match l, h with
  | [a, b], h => simp at h; exact ⟨a, b, rfl, h.1, h.2⟩
theorem toList_one {α β : Type} {args : Array α} {f : α → β} {x : β} (h : args.toList.map f = [x]) : ∃ a, args = #[a] ∧ f a = x := by
  obtain ⟨l⟩ := args
  match l, h with
  | [a], h => simp at h; exact ⟨a, rfl, h⟩
section
variable {Y : Type} {P : Program} {T : Tab} (hT : TabOk P T) {o : Oper} {E : Env} {σ : St} {a : Act} {w : World} {k : K Y} {y : Y}
include hT
theorem append_done (h : Rel E σ a w) {c : Call} {x1 x2 : XV} (ho : o.op = .call c) (hc : c.callee = .builtin .append) (hargs : c.args.toList.map σ.ev = [x1, x2]) (e : appendX T c.argTypes σ x1 x2 k = some y) : OpDone P o E σ a w k y := by
  obtain ⟨o1, o2, hargs', rfl, rfl⟩ := toList_two hargs
  have hv1 := h.ev o1
  have hv2 := h.ev o2
  have exec : ∀ {v w'}, (Builtin.append_ c.argTypes o.type #[a.eval o1, a.eval o2]).run P w = .ok v w' → (execOp a.eval o).run P w = .ok (.value v) w' := by
    intro v w' hr
    simp only [execOp, ho, resolve, hc, hargs', invoke, builtin, Sem.run_bind, Sem.run_pure, Result.andThen_ok, List.map_toArray, List.map_cons, List.map_nil, hr]
  unfold appendX at e
  split at e
  case h_2 => cases e
  rename_i t u ht0 ht1
  split at e
  case isFalse => cases e
  rename_i hu
  have hu' : (∃ e, P.underlying u = some (.slice e)) ∨ P.underlying u = some .string := by
    rw [Bool.or_eq_true] at hu
    exact hu.imp (isSl_spec hT) (isStr_spec hT)
  split at e
  ·
    rename_i z hz1 hz2
    rw [hz1] at hv1
    rw [hz2] at hv2
    simp only [Option.bind_eq_some_iff] at e
    obtain ⟨⟨r, rows, bx', d⟩, e1, e⟩ := e
    dsimp only at e
    split at e
    case isFalse => cases e
    rename_i hel
    split at e
    case isFalse => cases e
    rename_i hlim
    obtain ⟨hd, E', F, css, Fs, R, kT, hp, hs, hn⟩ := srcRows_sound (P := P) h.bx (Within.refl _) hv2 e1
    obtain ⟨m, rfl⟩ : ∃ m, d = m + 1 := ⟨d - 1, by omega⟩
    have hv1' : a.eval o1 = .slice none 0 0 := hv1
    obtain ⟨v, w', E3, hr, r1, r2, r3⟩ := append_core hT h (ty := o.type) ht0 ht1 hu' hel kT (v1 := .slice none 0 0) (Fd := []) (drows := []) Ow_nil hs hn (R := R) (by simpa using hp) (by simpa using hlim)
    rw [← hv1'] at hr
    simp only [List.nil_append] at r1 r3
    exact ⟨_, _, _, _, _, .inl (exec hr), r1, r3, r2.any, rfl, e⟩
  · rename_i z1 z2 hnn hz1 hz2
    rw [hz1] at hv1
    rw [hz2] at hv2
    simp only [Option.bind_eq_some_iff] at e
    obtain ⟨⟨r, rows, bx1, d⟩, e1, e⟩ := e
    dsimp only at e
    split at e
    case isFalse => cases e
    rename_i hel
    simp only [Option.bind_eq_some_iff] at e
    obtain ⟨⟨q, srows0, bx2, ds⟩, e2, srows, e3, e⟩ := e
    dsimp only at e e3
    obtain ⟨hqr, e4⟩ := sameTy_eq e3
    subst hqr
    subst e4
    dsimp only at e
    split at e
    case isFalse => cases e
    rename_i hlim
    obtain ⟨hd, F1, F2, k1, ho1⟩ := dstRows_sound h.bx (Within.refl _) hv1 e1
    obtain ⟨hds, E', F3, css, Fs, R, k2, hp, hs, hn⟩ := srcRows_sound (P := P) k1.boxes ((Within.refl _).of_taken k1) hv2 e2
    obtain ⟨m, hm⟩ : ∃ m, min d ds = m + 1 := ⟨min d ds - 1, by omega⟩
    rw [hm] at e
    obtain ⟨A, W1, p1, ho1'⟩ := Ow_weaken (d := m + 1) (by omega) ho1
    obtain ⟨Gs, W2, p2, hs'⟩ := hs.weaken (d' := m) (by omega)
    have hB := k2.boxes.perm (G' := (A ++ Gs.flatten ++ (R ++ F2)) ++ (W1 ++ W2) ++ []) (by
      rw [List.append_nil, List.append_nil]
      refine ((hp.trans (p2.append_right R)).append (p1.append_right F2)).trans ?_
      classical
      rw [List.perm_iff_count]
      intro c
      simp only [List.count_append]
      omega)
    obtain ⟨hle, hB2⟩ := hB.share
    have kT : Taken E w σ.bx σ.bx [] _ bx2 (A ++ Gs.flatten ++ (R ++ F2)) := ⟨(k1.le.trans k2.le).trans hle, k2.len.trans k1.len, fun b B hb => (k2.within b B hb).elim .inl (k1.within b B), hB2⟩
    have ho2 : Ow w (fun c => E'.S c ∨ c ∈ W1 ++ W2) (m + 1) (.sl q) [a.eval o1] rows A :=
      Ow_mono (fun c hc => hc.imp (k2.le.S c) (by simp_all)) (fun _ _ => rfl) (fun _ _ => rfl) ho1'
    have hs2 : RowsAt w (fun c => E'.S c ∨ c ∈ W1 ++ W2) m q css srows0 Gs := hs'.mono (fun c hc => hc.imp id (by simp_all)) (fun _ _ => rfl) (fun _ _ => rfl)
    obtain ⟨v, w', E3, hr, r1, r2, r3⟩ := append_core hT h (ty := o.type) ht0 ht1 hu' hel kT ho2 hs2 hn (List.Perm.refl _) hlim
    exact ⟨_, _, _, _, _, .inl (exec hr), r1, r3, r2.any, rfl, e⟩
  · cases e
end
end Go.Fw
end

section
namespace Go.Fw
theorem run_storeAt_any {P : Program} {w : World} {b o : Nat} {ty : TypeId} {v : Value} (ht : w.there b o v.cells.toList.length) (hi : (P.info? ty).map (·.size) = some v.cells.toList.length) (h1 : ∀ u ∈ v.cells.toList, u.oneCell' = true) :
    (Instr.storeAt ty (.pointer (some ⟨b, o, none⟩)) v).run P w = .ok () (w.setCells b o v.cells.toList) := by
  have := run_storeCells_cells (P := P) b o v.cells.toList 0 w (fun j hj => by simpa using (ht j hj).1) (fun j hj => by simpa using (ht j hj).2) h1
  cases hq : P.info? ty with
  | none => simp [hq] at hi
  | some i =>
    have hs : v.cells.size = i.size := by simp [hq] at hi; omega
    simp only [Nat.add_zero] at this
    simp [Instr.storeAt, Instr.sureAddr, storeVar, sizeOf, typeInfo, hq, hs, this]
theorem keep_store {E E1 E' : Env} {w w' : World} {vw bx1 bx' : List Bx} {F : List Nat} (b0 : Nat) (k : Taken E w vw vw [] E1 bx1 F) (st : ∀ c, E.S c → E.T c) (hlen : vw.length ≤ bx'.length)
    (hbx : ∀ b d r rows, b ≠ b0 → b < vw.length → bx'[b]? = some (.sl d r rows) → bx1[b]? = some (.sl d r rows)) (hblk : ∀ b, b < vw.length → E'.blk b = E1.blk b) (hhdr : ∀ b, b < vw.length → E'.hdr b = E1.hdr b) (hT : E'.T = E1.T) (hS : E'.S = E1.S)
    (hw : ∀ c, c < w.heap.size → c ∉ F → w'.heap[c]? = w.heap[c]?)
    (h0 : ∀ d r rows, bx'[b0]? = some (.sl d r rows) → ∃ d0 rows0, vw[b0]? = some (.sl d0 r rows0) ∧
      ∀ p, PathOk r rows0 p → ∀ q ys, getP r rows0 p = some ⟨q, ys⟩ → PathOk r rows p ∧ (∃ ys', getP r rows p = some ⟨q, ys'⟩ ∧ List.length ys' = List.length ys) ∧
        ∀ h, hdrAt w (E.hdr b0) p = some h → hdrAt w' (E'.hdr b0) p = some h) : Keep E w vw E' w' bx' := by
  have hB := k.boxes
  obtain ⟨Fs, ⟨h1, h2⟩, h3⟩ := hB
  simp only [List.append_nil] at h3
  have hT' : ∀ c, E1.T c → w'.heap[c]? = w.heap[c]? := fun c hc => hw c (h3.tlt c hc) fun hf => h3.free c (by simp [hf]) hc
  refine ⟨hlen, fun b hb => by rw [hblk b hb, k.le.blk], fun c hc => by rw [hT]; exact k.le.T c hc, fun c hc => by rw [hS]; exact k.le.S c hc, st, fun c hc => hT' c (k.le.T c hc), fun b d r rows hb e => ?_⟩
  by_cases hb0 : b = b0
  · subst hb0
    exact h0 d r rows e
  have e1 := hbx b _ _ _ hb0 hb e
  rcases k.within b _ e1 with e2 | e2
  · cases e2
  · refine ⟨d, rows, e2, fun p hp q ys hg => ⟨hp, ⟨ys, hg, rfl⟩, fun h' hh => ?_⟩⟩
    have hF : Fs[b]? = some (Fs[b]'(by have := (List.getElem?_eq_some_iff.1 e1).1; omega)) := List.getElem?_eq_getElem _
    obtain ⟨hd, ho⟩ := h2 b _ _ e1 hF
    rw [hhdr b hb]
    rw [← k.le.hdr] at hh
    refine Ow_hdr ho (fun c hc => hT' c (h3.st c hc)) (fun c hc => ?_) hp hg hh
    have hin : c ∈ Fs.flatten := List.mem_flatten.2 ⟨_, List.mem_of_getElem? hF, hc⟩
    exact hw c (h3.lt c (by simp [hin])) fun hf => (List.nodup_append.1 h3.nodup).2.2 c hin c hf rfl
def Bx.map (f : AV → AV) : Bx → Bx
  | .mem cs => .mem (cs.map f)
  | B => B
theorem Boxes.turnF {E E' : Env} {w w' : World} {vw vw' bx : List Bx} {G : List Nat} (f : AV → AV) (h : Boxes E w vw bx G) (k : ∀ x v, VR E w vw x v → VR E' w' vw' (f x) v)
    (hS : ∀ c, E.S c → E'.S c) (hblk : ∀ b, b < bx.length → E'.blk b = E.blk b) (hhdr : ∀ b, b < bx.length → E'.hdr b = E.hdr b)
    (hw : ∀ c, (E.S c ∨ (¬ E.T c ∧ c ∉ G)) → c < w.heap.size → w'.heap[c]? = w.heap[c]?)
    (hsep : ∀ F, Sep E w (F ++ G) → Sep E' w' (F ++ G)) : Boxes E' w' vw' (bx.map (Bx.map f)) G := by
  obtain ⟨Fs, ⟨hl, h1⟩, h2⟩ := h
  refine ⟨Fs, ⟨by simpa using hl, fun n B F hn hF => ?_⟩, hsep _ h2⟩
  rw [List.getElem?_map, Option.map_eq_some_iff] at hn
  obtain ⟨B, hn, rfl⟩ := hn
  have hlt := (List.getElem?_eq_some_iff.1 hn).1
  have h3 := h1 n B F hn hF
  have hFin : ∀ c ∈ F, c ∈ Fs.flatten := fun c hc => List.mem_flatten.2 ⟨F, List.mem_of_getElem? hF, hc⟩
  have hFw : ∀ c ∈ F, w'.heap[c]? = w.heap[c]? := fun c hc => hw c (.inr ⟨h2.free c (by simp [hFin c hc]), fun hg => by
    have := (List.nodup_append.1 h2.nodup).2.2 c (hFin c hc) c hg
    exact this rfl⟩) (h2.lt c (by simp [hFin c hc]))
  have hSw : ∀ c, E.S c → w'.heap[c]? = w.heap[c]? := fun c hc => hw c (.inl hc) (h2.tlt c (h2.st c hc))
  cases B with
  | mem cs =>
    obtain ⟨rfl, arr, ty, fr, ha, hu, hv⟩ := h3
    refine ⟨by rw [hblk n hlt], arr, ty, fr, ?_, hu, All2.map_left f k hv⟩
    rw [hblk n hlt, hFw _ (by simp), ha]
  | sl d r rows =>
    obtain ⟨hd, ho⟩ := h3
    refine ⟨hd, ?_⟩
    rw [hhdr n hlt]
    exact Ow_mono hS hSw hFw ho
  | dead => exact h3
theorem Bx.map_id : ∀ B : Bx, Bx.map id B = B
  | .mem cs => by simp [Bx.map]
  | .sl _ _ _ => rfl
  | .dead => rfl
theorem map_id_bx (bx : List Bx) : bx.map (Bx.map id) = bx := by
  induction bx with
  | nil => rfl
  | cons B l ih => simp [ih, Bx.map_id]
theorem scrubBx_map (b : Nat) (bx : List Bx) : bx.map (scrubBx b) = bx.map (Bx.map (scrubAV b)) := by
  apply List.map_congr_left
  intro B _
  cases B <;> rfl
theorem store_mem {E : Env} {σ : St} {a : Act} {w : World} (h : Rel E σ a w) {b j : Nat} {cs cs' : List AV} (hb : σ.bx[b]? = some (.mem cs)) {xs : List AV} {vs : List Value} (hx : VRs E w σ.bx xs vs) (hne : xs ≠ [])
    (e : storeMem cs j xs = some cs') :
    w.there (E.blk b) j vs.length ∧ Rel E { σ with bx := σ.bx.set b (.mem cs') } a (w.setCells (E.blk b) j vs) ∧ Went [b] E σ.bx w E (σ.bx.set b (.mem cs')) (w.setCells (E.blk b) j vs) := by
  have st := h.bx.st
  obtain ⟨F, ⟨rfl, arr, ty, fr, ha, hu, hv⟩, hB⟩ := h.bx.take hb
  simp only [List.append_nil] at hB
  have hlt := (List.getElem?_eq_some_iff.1 hb).1
  rcases storeMem_sound hv hx e with ⟨h1, h2⟩ | ⟨h1, _⟩
  case inr => exact absurd h1 hne
  have hfit : j + vs.length ≤ arr.size := by
    have l1 := All2.len hv
    have l2 := All2.len hx
    simp only [Array.length_toList] at l1
    omega
  have hfree : ¬ E.T (E.blk b) := hB.gfree _ (by simp)
  have hB0 := hB
  have oth : ∀ c, c ≠ E.blk b → (w.setCells (E.blk b) j vs).heap[c]? = w.heap[c]? := fun c hc => setCells_other _ _ _ _ _ hc
  have hw : ∀ c, c < w.heap.size → c ∉ [E.blk b] → (w.setCells (E.blk b) j vs).heap[c]? = w.heap[c]? := fun c _ hc => oth c (by simpa using hc)
  have kT : Taken E w σ.bx σ.bx [] E (σ.bx.set b .dead) [E.blk b] := ⟨Le.refl _, by simp, fun n B hn => by
    by_cases en : n = b
    · subst en
      rw [List.getElem?_set_self hlt] at hn
      exact .inl (by simpa using hn.symm)
    · rw [List.getElem?_set_ne (fun h => en h.symm)] at hn
      exact .inr hn, by simpa using hB⟩
  have keep : Keep E w σ.bx E (w.setCells (E.blk b) j vs) (σ.bx.set b (.mem cs')) := keep_store b kT st (by simp) (fun n d r rows hn _ hq => by
      rw [List.getElem?_set_ne (by omega)] at hq ⊢; exact hq) (fun _ _ => rfl) (fun _ _ => rfl) rfl rfl hw (fun d r rows hq => by
      rw [List.getElem?_set_self hlt] at hq; cases hq)
  refine ⟨there_of ha hfit hu, ⟨h.nodefer, h.tm.imp fun _ _ hq => XR_keep keep hq, ?_⟩, ⟨⟨fun _ h => h, fun _ h => h, fun _ h => .inl h, fun _ h => .inl h, fun c hc => oth c (fun e => hfree (e ▸ hc)), (setCells_grown _ _ _ _).os, (setCells_grown _ _ _ _).tape, (setCells_grown _ _ _ _).output, (setCells_grown _ _ _ _).size⟩, by simp, fun _ _ => ⟨rfl, rfl⟩, fun n hn => by
    rw [List.getElem?_set_ne (fun e => by subst e; rw [hb] at hn; cases hn)]; exact hn, fun n B B' hnb hB hB' hnd => by
    simp at hnb
    rw [List.getElem?_set_ne (fun e => hnb e.symm), hB] at hB'
    cases hB'
    refine ⟨SameBx.refl hnd, fun c hc => oth c (fun e => ?_)⟩
    obtain ⟨Fs, ⟨f1, f2⟩, f3⟩ := hB0
    have hB2 : (σ.bx.set b .dead)[n]? = some B := by rw [List.getElem?_set_ne (fun e => hnb e.symm)]; exact hB
    have hF : Fs[n]? = some (Fs[n]'(by have := (List.getElem?_eq_some_iff.1 hB2).1; omega)) := List.getElem?_eq_getElem _
    rcases BRB_sub (f2 n B _ hB2 hF) hc with hs | hs
    · exact hfree (e ▸ st c hs)
    · exact (List.nodup_append.1 f3.nodup).2.2 c (List.mem_flatten.2 ⟨_, List.mem_of_getElem? hF, hs⟩) (E.blk b) (by simp) e⟩⟩
  have hT := hB.turn (E' := E) (w' := w.setCells (E.blk b) j vs) (vw' := σ.bx.set b (.mem cs')) (fun x v hq => VR_keep keep hq) (fun _ h => h) (fun _ _ => rfl) (fun _ _ => rfl) (fun c hc _ => oth c (fun e => by
      rcases hc with hc | hc
      · exact hfree (e ▸ st c hc)
      · exact hc.2 (by simp [e]))) (fun F hF => ⟨hF.nodup, hF.free, fun c hc => by rw [setCells_size]; exact hF.lt c hc, hF.st, fun c hc => by rw [setCells_size]; exact hF.tlt c hc⟩)
  have := Boxes.put (b := b) (B := .mem cs') (F := [E.blk b]) (G := []) (by simpa using hT) (by rw [List.getElem?_set_self hlt]) ⟨rfl, setsFrom arr j vs, ty, fr, setCells_heap _ _ _ _ _ _ _ ha, by rw [setsFrom_size]; exact hu, h1.imp fun _ _ hq => VR_keep keep hq⟩
  rw [List.set_set] at this
  exact this
theorem cellGet_set_ne : ∀ {r : Ty} {j j' : Nat} {x : r.D} {t : Ty} {y : t.D} {x' : r.D}, cellSet r j x t y = some x' → j' ≠ j → cellGet r j' x' = cellGet r j' x
  | .cons c r, 0, j', x, t, y, x', e, hj => by
    simp only [cellSet] at e
    split at e
    · rename_i h
      subst h
      simp only [Option.some.injEq] at e
      subst e
      cases j' with
      | zero => exact absurd rfl hj
      | succ j' => simp [cellGet]
    · cases e
  | .cons c r, j + 1, j', x, t, y, x', e, hj => by
    simp only [cellSet, Option.map_eq_some_iff] at e
    obtain ⟨z, e1, rfl⟩ := e
    cases j' with
    | zero => simp [cellGet]
    | succ j' =>
      simp only [cellGet]
      exact cellGet_set_ne e1 (by omega)
  | .unit, _, _, _, _, _, _, e, _ => by simp [cellSet] at e
  | .int k, 0, j', x, t, y, x', e, hj => by cases j' with
    | zero => exact absurd rfl hj
    | succ j' => simp [cellGet]
  | .bool, 0, j', x, t, y, x', e, hj => by cases j' with
    | zero => exact absurd rfl hj
    | succ j' => simp [cellGet]
  | .str, 0, j', x, t, y, x', e, hj => by cases j' with
    | zero => exact absurd rfl hj
    | succ j' => simp [cellGet]
  | .sl _, 0, j', x, t, y, x', e, hj => by cases j' with
    | zero => exact absurd rfl hj
    | succ j' => simp [cellGet]
  | .int _, _ + 1, _, _, _, _, _, e, _ => by simp [cellSet] at e
  | .bool, _ + 1, _, _, _, _, _, e, _ => by simp [cellSet] at e
  | .str, _ + 1, _, _, _, _, _, e, _ => by simp [cellSet] at e
  | .sl _, _ + 1, _, _, _, _, _, e, _ => by simp [cellSet] at e
theorem cellGet_set : ∀ {r : Ty} {j : Nat} {x : r.D} {t : Ty} {y : t.D} {x' : r.D}, cellSet r j x t y = some x' → cellGet r j x' = some ⟨t, y⟩ ∧ ∃ y0 : t.D, cellGet r j x = some ⟨t, y0⟩
  | .cons c r, 0, x, t, y, x', e => by
    simp only [cellSet] at e
    split at e
    · rename_i h
      subst h
      simp only [Option.some.injEq] at e
      subst e
      exact ⟨rfl, _, rfl⟩
    · cases e
  | .cons c r, j + 1, x, t, y, x', e => by
    simp only [cellSet, Option.map_eq_some_iff] at e
    obtain ⟨z, e1, rfl⟩ := e
    simp only [cellGet]
    exact cellGet_set e1
  | .unit, _, _, _, _, _, e => by simp [cellSet] at e
  | .int k, 0, x, t, y, x', e => by
    simp only [cellSet] at e
    split at e
    · rename_i h; subst h; cases e; exact ⟨rfl, _, rfl⟩
    · cases e
  | .bool, 0, x, t, y, x', e => by
    simp only [cellSet] at e
    split at e
    · rename_i h; subst h; cases e; exact ⟨rfl, _, rfl⟩
    · cases e
  | .str, 0, x, t, y, x', e => by
    simp only [cellSet] at e
    split at e
    · rename_i h; subst h; cases e; exact ⟨rfl, _, rfl⟩
    · cases e
  | .sl _, 0, x, t, y, x', e => by
    simp only [cellSet] at e
    split at e
    · rename_i h; subst h; cases e; exact ⟨rfl, _, rfl⟩
    · cases e
  | .int _, _ + 1, _, _, _, _, e => by simp [cellSet] at e
  | .bool, _ + 1, _, _, _, _, e => by simp [cellSet] at e
  | .str, _ + 1, _, _, _, _, e => by simp [cellSet] at e
  | .sl _, _ + 1, _, _, _, _, e => by simp [cellSet] at e
theorem rowAt_set {r : Ty} {rows : List r.D} {i k : Nat} {x : r.D} (hi : i < rows.length) : rowAt r (rows.set i x) k = if k = i then x else rowAt r rows k := by
  unfold rowAt
  rw [List.getD_eq_getElem?_getD, List.getD_eq_getElem?_getD, List.getElem?_set]
  by_cases e : k = i
  · subst e; simp [hi]
  · rw [if_neg (fun h => e h.symm), if_neg e]
theorem setP_len : ∀ {p : List Stp} {r : Ty} {rows rows' : List r.D} {q : Ty} {ys ys' : List q.D}, getP r rows p = some ⟨q, ys⟩ → ys'.length = ys.length → setP r rows p q ys' = some rows' → rows'.length = rows.length
  | [], r, rows, rows', q, ys, ys', h1, h2, h3 => by
    simp only [getP, Option.some.injEq, Sigma.mk.injEq] at h1
    obtain ⟨rfl, h1⟩ := h1
    obtain rfl := eq_of_heq h1
    simp only [setP, dite_true, castD_rfl, Option.some.injEq] at h3
    rw [← h3]; exact h2
  | s :: p, r, rows, rows', q, ys, ys', h1, h2, h3 => by
    simp only [setP] at h3
    split at h3
    · simp only [Option.bind_eq_some_iff, Option.map_eq_some_iff] at h3
      obtain ⟨_, _, _, _, rfl⟩ := h3
      simp
    · cases h3
theorem place_plain {t : Ty} (ht : t.scalar = true) {y : t.D} {q : Ty} {i j : Nat} : ∀ {p' : List Stp} {r : Ty} {rows rows' : List r.D} {p : List Stp} {ys : List q.D} {row' : q.D}, PathOk r rows p → getP r rows p = some ⟨q, ys⟩ → i < ys.length →
    cellSet q j (rowAt q ys i) t y = some row' → setP r rows p q (ys.set i row') = some rows' → PathOk r rows p' → ∀ q' zs, getP r rows p' = some ⟨q', zs⟩ →
      PathOk r rows' p' ∧ ∃ zs', getP r rows' p' = some ⟨q', zs'⟩ ∧ List.length zs' = List.length zs
  | [], r, rows, rows', p, ys, row', _, hg, hi, hc, hs, _, q', zs, hg' => by
    simp only [getP, Option.some.injEq, Sigma.mk.injEq] at hg'
    obtain ⟨rfl, hg'⟩ := hg'
    obtain rfl := eq_of_heq hg'
    exact ⟨by simp [PathOk], rows', by simp [getP], setP_len hg (by simp) hs⟩
  | s' :: p', r, rows, rows', p, ys, row', hp, hg, hi, hc, hs, hp', q', zs, hg' => by
    have hlen := setP_len hg (by simp) hs
    simp only [PathOk] at hp' ⊢
    obtain ⟨g1, g2, g3⟩ := hp'
    simp only [getP] at hg' ⊢
    split at hg'
    case h_2 => cases hg'
    rename_i q0 x0 hcg
    rw [hcg] at g3
    dsimp only at g3
    have key : ∃ x1, cellGet r s'.j (rowAt r rows' s'.i) = some ⟨.sl q0, x1⟩ ∧ PathOk q0 x1 p' ∧ ∃ zs', getP q0 x1 p' = some ⟨q', zs'⟩ ∧ List.length zs' = List.length zs := by
      have same : cellGet r s'.j (rowAt r rows' s'.i) = some ⟨.sl q0, x0⟩ → ∃ x1, cellGet r s'.j (rowAt r rows' s'.i) = some ⟨.sl q0, x1⟩ ∧ PathOk q0 x1 p' ∧ ∃ zs', getP q0 x1 p' = some ⟨q', zs'⟩ ∧ List.length zs' = List.length zs :=
        fun h => ⟨x0, h, g3, zs, hg', rfl⟩
      cases p with
      | nil =>
        simp only [getP, Option.some.injEq, Sigma.mk.injEq] at hg
        obtain ⟨rfl, hg⟩ := hg
        obtain rfl := eq_of_heq hg
        simp only [setP, dite_true, castD_rfl, Option.some.injEq] at hs
        subst hs
        apply same
        rw [rowAt_set hi]
        split
        · rename_i e
          subst e
          by_cases ej : s'.j = j
          · obtain ⟨_, y0, h0⟩ := cellGet_set hc
            rw [ej, h0] at hcg
            simp only [Option.some.injEq, Sigma.mk.injEq] at hcg
            obtain ⟨rfl, _⟩ := hcg
            simp [Ty.scalar] at ht
          · rw [cellGet_set_ne hc ej]; exact hcg
        · exact hcg
      | cons s p =>
        simp only [PathOk] at hp
        obtain ⟨k1, k2, k3⟩ := hp
        simp only [getP] at hg
        split at hg
        case h_2 => cases hg
        rename_i r' x hcx
        rw [hcx] at k3
        dsimp only at k3
        simp only [setP, hcx, Option.bind_eq_some_iff, Option.map_eq_some_iff] at hs
        obtain ⟨x', hs1, row2, hs2, rfl⟩ := hs
        rw [rowAt_set k1]
        rw [rowAt_set k1] at same
        split
        · rename_i e
          rw [if_pos e] at same
          rw [e] at hcg
          by_cases ej : s'.j = s.j
          · rw [ej] at hcg ⊢
            rw [hcx] at hcg
            simp only [Option.some.injEq, Sigma.mk.injEq, Ty.sl.injEq] at hcg
            obtain ⟨rfl, hcg⟩ := hcg
            obtain rfl := eq_of_heq hcg
            obtain ⟨m1, m2⟩ := place_plain ht k3 hg hi hc hs1 g3 q' zs hg'
            exact ⟨x', (cellGet_set hs2).1, m1, m2⟩
          · exact same (by rw [cellGet_set_ne hs2 ej]; exact hcg)
        · rename_i e
          rw [if_neg e] at same
          exact same hcg
    obtain ⟨x1, e1, e2, e3⟩ := key
    rw [e1]
    exact ⟨⟨by omega, g2, e2⟩, e3⟩
theorem hdr_plain {w w' : World} {B : Nat → Prop} (hcell : ∀ A, w'.cell? A = w.cell? A ∨ ∃ v, w'.cell? A = some v ∧ isSlice v = false) : ∀ {p : List Stp} {r : Ty} {h : Value} {rows : List r.D} {hh : Value},
    Rd w' B (.sl r) [h] rows → PathOk r rows p → hdrAt w h p = some hh → hdrAt w' h p = some hh
  | [], _, h, _, hh, _, _, e => by rw [hdrAt_here] at e ⊢; exact e
  | s :: p, r, h, rows, hh, hr, hp, e => by
    simp only [PathOk] at hp
    obtain ⟨hi, hsz, hp⟩ := hp
    simp only [Rd] at hr
    obtain ⟨a, cap, e1, _, hr⟩ := hr
    obtain rfl := (List.cons.inj e1).1
    rcases hr with hr | ⟨b, o, rfl, hb, hr⟩
    · omega
    obtain ⟨cs, hl, hc, hrow⟩ := hr s.i _ (rowAt_get hi)
    split at hp
    case h_2 => exact hp.elim
    rename_i q x hcg
    obtain ⟨v, hv, hrv⟩ := Rd_cell hrow hcg
    have hcv := hc _ _ hv
    rw [← hsz] at hcv
    simp only [hdrAt] at e ⊢
    split at e
    case h_2 => cases e
    rename_i v0 hv0
    rcases hcell ⟨b, o + s.i * s.sz + s.j, none⟩ with h1 | ⟨u, h1, h2⟩
    · rw [h1, hv0]
      rw [h1, hv0] at hcv
      cases hcv
      exact hdr_plain hcell hrv hp e
    · rw [hcv] at h1
      cases h1
      simp only [Rd] at hrv
      obtain ⟨_, _, e2, _⟩ := hrv
      simp only [List.cons.injEq, and_true] at e2
      subst e2
      simp [isSlice] at h2
theorem VR_scrub {E E' : Env} {w w' : World} {vw vw' : List Bx} {b d d' : Nat} {r : Ty} {rows rows' : List r.D} (k : Keep E w vw E' w' (vw'.set b .dead)) (hb : vw[b]? = some (.sl d r rows)) (hb' : vw'[b]? = some (.sl d' r rows')) (hl : rows'.length = rows.length)
    (hh : E'.hdr b = E.hdr b) {x : AV} {v : Value} (h : VR E w vw x v) : VR E' w' vw' (scrubAV b x) v := by
  have h1 := VR_keep k h
  have oth : ∀ {b'}, b' ≠ b → (vw'.set b .dead)[b']? = vw'[b']? := fun e => List.getElem?_set_ne (fun h => e h.symm)
  cases x with
  | v t x => exact h1
  | sl s r x => exact h1
  | nil => exact h1
  | maddr c j => exact ⟨by simpa using h1.1, h1.2⟩
  | raddr s r x j => exact h1
  | fn f caps => exact ⟨fun c hc => by simpa using h1.1 c hc, h1.2⟩
  | rfn f rows => exact h1
  | nilp => exact h1
  | undef => trivial
  | ref c p =>
    cases p with
    | nil =>
      simp only [scrubAV]
      by_cases e : c = b
      · subst e
        simp only [VR, hb, hb'] at h ⊢
        refine ⟨h.1, by simp [PathOk], ⟨_, rfl⟩, ?_⟩
        rw [hdrAt_here, hh, ← hdrAt_here (w := w) (h := E.hdr c)]
        exact h.2.2.2
      · simp only [VR, oth e] at h1 ⊢; exact h1
    | cons s p =>
      simp only [scrubAV]
      split
      · trivial
      · rename_i e
        simp only [VR, oth e] at h1 ⊢; exact h1
  | win c p off n =>
    cases p with
    | nil =>
      simp only [scrubAV]
      by_cases e : c = b
      · subst e
        simp only [VR, hb, hb'] at h ⊢
        obtain ⟨h0, _, q, ys, a, len, cap, e1, e2, e3, e4⟩ := h
        simp only [getP, Option.some.injEq, Sigma.mk.injEq] at e1
        obtain ⟨rfl, e1⟩ := e1
        obtain rfl := eq_of_heq e1
        refine ⟨h0, by simp [PathOk], r, rows', a, len, cap, rfl, by rw [hl]; exact e2, ?_, e4⟩
        rw [hdrAt_here, hh, ← hdrAt_here (w := w) (h := E.hdr c)]
        exact e3
      · simp only [VR, oth e] at h1 ⊢; exact h1
    | cons s p =>
      simp only [scrubAV]
      split
      · trivial
      · rename_i e
        simp only [VR, oth e] at h1 ⊢; exact h1
  | saddr c p i sz j =>
    cases p with
    | nil =>
      simp only [scrubAV]
      by_cases e : c = b
      · subst e
        simp only [VR, hb, hb'] at h ⊢
        obtain ⟨h0, _, q, ys, bb, o, len, cap, e1, e2, e3, e4⟩ := h
        simp only [getP, Option.some.injEq, Sigma.mk.injEq] at e1
        obtain ⟨rfl, e1⟩ := e1
        obtain rfl := eq_of_heq e1
        refine ⟨h0, by simp [PathOk], r, rows', bb, o, len, cap, rfl, by rw [hl]; exact e2, ?_, e4⟩
        rw [hdrAt_here, hh, ← hdrAt_here (w := w) (h := E.hdr c)]
        exact e3
      · simp only [VR, oth e] at h1 ⊢; exact h1
    | cons s p =>
      simp only [scrubAV]
      split
      · trivial
      · rename_i e
        simp only [VR, oth e] at h1 ⊢; exact h1
theorem XR_scrub {E E' : Env} {w w' : World} {vw vw' : List Bx} {b : Nat} (k : ∀ x v, VR E w vw x v → VR E' w' vw' (scrubAV b x) v) {x : XV} {v : Value} (h : XR E w vw x v) : XR E' w' vw' (scrubXV b x) v := by
  cases x with
  | c x => exact k x v h
  | agg l =>
    obtain ⟨vs, rfl, hvs⟩ := h
    exact ⟨vs, rfl, All2.map_left _ k hvs⟩
  | tup l =>
    obtain ⟨vs, rfl, hvs⟩ := h
    refine ⟨vs, rfl, All2.map_left _ (fun x v hx => ?_) hvs⟩
    cases x with
    | inl x => exact k x v hx
    | inr q =>
      obtain ⟨us, rfl, hus⟩ := hx
      exact ⟨us, rfl, All2.map_left _ k hus⟩
end Go.Fw
end

section
namespace Go.Fw
theorem storeRow_sound {w : World} {vw : List Bx} {E : Env} {bx : List Bx} {G : List Nat} (h : Boxes E w vw bx G) (hw : Within bx vw) {d : Nat} (hd : 1 ≤ d) {q : Ty} {old : q.D} {j : Nat} {x : XV} {v : Value} (hv : XR E w vw x v) {row' : q.D} {bx' : List Bx} {d' : Nat}
    (e : storeRow d q old j x bx = some (row', bx', d')) : 1 ≤ d' ∧ d' ≤ d ∧ ∃ E' F, Taken E w vw bx G E' bx' F ∧
      ((j = 0 ∧ x.plain = false ∧ Ow w E'.S (d' - 1) q v.cells.toList row' F) ∨ (∃ t y, v.cells.toList = [v] ∧ Ow w E'.S (d' - 1) t [v] y F ∧ cellSet q j old t y = some row' ∧ (x.plain = true → t.scalar = true ∧ isSlice v = false))) := by
  unfold storeRow at e
  split at e
  · rename_i l
    split at e
    case isFalse => cases e
    rename_i hj
    obtain ⟨vs, rfl, hvs⟩ := hv
    obtain ⟨h1, h2, E', F, h3, h4⟩ := cellsIn_sound h hw hd hvs e
    exact ⟨h1, h2, E', F, h3, .inl ⟨hj, rfl, h4⟩⟩
  · rename_i x
    split at e
    case h_2 => cases e
    rename_i t y0 hc
    simp only [Option.bind_eq_some_iff, Option.map_eq_some_iff, Prod.mk.injEq] at e
    obtain ⟨⟨y, bx1, d1⟩, e1, row, e2, rfl, rfl, rfl⟩ := e
    dsimp only at e2
    have hv' : VR E w vw x v := hv
    have hk : x.known = true := by cases x <;> simp_all [AV.known, cellIn]
    obtain ⟨h1, h2, E', F, h3, h4⟩ := cellIn_sound h hw hd hv' e1
    refine ⟨h1, h2, E', F, h3, .inr ⟨t, y, by rw [(VR_one hv' hk).2], h4, e2, fun hp => ?_⟩⟩
    cases x with
    | v u z =>
      simp only [cellIn, Option.map_eq_some_iff, Prod.mk.injEq] at e1
      obtain ⟨z', e3, _⟩ := e1
      obtain ⟨rfl, _⟩ := sameTy_eq e3
      obtain ⟨hs, hr⟩ := hv'
      refine ⟨hs, ?_⟩
      cases u <;> simp_all [Ty.scalar, Rd] <;> rfl
    | _ => simp [XV.plain] at hp
  · cases e
theorem map_set_bx {f : AV → AV} {bx : List Bx} {b d : Nat} {r : Ty} {rows : List r.D} : (bx.set b (.sl d r rows)).map (Bx.map f) = (bx.map (Bx.map f)).set b (.sl d r rows) := by
  rw [List.map_set]; rfl
theorem map_sl {f : AV → AV} {bx : List Bx} {n d : Nat} {r : Ty} {rows : List r.D} (h : (bx.map (Bx.map f))[n]? = some (.sl d r rows)) : bx[n]? = some (.sl d r rows) := by
  rw [List.getElem?_map, Option.map_eq_some_iff] at h
  obtain ⟨B, h1, h2⟩ := h
  cases B with
  | mem cs => simp [Bx.map] at h2
  | sl d' r' rows' => rw [h1]; exact congrArg some h2
  | dead => simp [Bx.map] at h2
theorem store_row {E : Env} {σ : St} {a : Act} {w : World} (h : Rel E σ a w) {b i sz j : Nat} {p : List Stp} {va v : Value} (hva : VR E w σ.bx (.saddr b p i sz j) va) {x : XV} (hv : XR E w σ.bx x v) (h1c : ∀ u ∈ v.cells.toList, u.oneCell' = true)
    {σ' : St} (e : storeX σ (.c (.saddr b p i sz j)) x = some σ') :
    ∃ bb oo E', va = .pointer (some ⟨bb, oo, none⟩) ∧ w.there bb oo v.cells.toList.length ∧ Rel E' σ' a (w.setCells bb oo v.cells.toList) ∧ Went [b] E σ.bx w E' σ'.bx (w.setCells bb oo v.cells.toList) ∧ σ'.tm.length = σ.tm.length := by
  simp only [storeX] at e
  split at e
  case h_2 => cases e
  rename_i d r rows hb
  split at e
  case isFalse => cases e
  rename_i hpl
  simp only [Option.bind_eq_some_iff] at e
  obtain ⟨⟨q, ys⟩, hg, e⟩ := e
  dsimp only at e
  split at e
  case isFalse => cases e
  rename_i hsz
  simp only [Option.bind_eq_some_iff, Option.map_eq_some_iff] at e
  obtain ⟨⟨row', bx2, d2⟩, e1, rows', e2, e3⟩ := e
  dsimp only at e1 e2 e3
  have st := h.bx.st
  simp only [VR, hb] at hva
  obtain ⟨_, hp, q1, ys1, bb, o, len, cap, g1, hi, g3, rfl⟩ := hva
  rw [hg] at g1
  simp only [Option.some.injEq, Sigma.mk.injEq] at g1
  obtain ⟨rfl, g1⟩ := g1
  obtain rfl := eq_of_heq g1
  have hlt := (List.getElem?_eq_some_iff.1 hb).1
  obtain ⟨Gb, ⟨hd1, ho⟩, hB⟩ := h.bx.take hb
  have hwin : Within (σ.bx.set b .dead) σ.bx := fun n B hn => by
    by_cases en : n = b
    · subst en
      rw [List.getElem?_set_self hlt] at hn
      exact .inl (by simpa using hn.symm)
    · rw [List.getElem?_set_ne (fun h => en h.symm)] at hn
      exact .inr hn
  obtain ⟨hd2, hd3, E1, Fx, k1, hrow⟩ := storeRow_sound hB hwin (by omega) hv e1
  obtain ⟨A, W, pG, ho2⟩ := Ow_weaken (d := d2 + p.length) (by omega) ho
  have hB2 := k1.boxes.perm (G' := (Fx ++ A) ++ W ++ []) (by
    rw [List.append_nil, List.append_nil, List.append_assoc]
    exact List.Perm.append_left _ pG)
  obtain ⟨hle, hB3⟩ := hB2.share
  simp only [List.append_nil] at hB3
  generalize hE3 : ({ E1 with S := fun c => E1.S c ∨ c ∈ W, T := fun c => E1.T c ∨ c ∈ W } : Env) = E3 at hle hB3
  have hle3 : Le E E3 := k1.le.trans hle
  have ho3 : Ow w E3.S (d2 + p.length) (.sl r) [E.hdr b] rows A := Ow_mono (fun c hc => by
    subst hE3
    exact hc.imp (k1.le.S c) id) (fun _ _ => rfl) (fun _ _ => rfl) ho2
  obtain ⟨h', F1, F2, m1, m2, m3, m4⟩ := Ow_place ho3 hp hg (by omega)
  rw [g3] at m1
  cases m1
  obtain ⟨m, rfl⟩ : ∃ m, d2 = m + 1 := ⟨d2 - 1, by omega⟩
  rw [show m + 1 + p.length - p.length = m + 1 by omega] at m2 m4
  simp only [Nat.add_sub_cancel] at hrow
  obtain ⟨b1, o1, arr, ty, fr, cs, G, R, n1, n2, n3, n4, n5, n6, n7, n8, n9⟩ := Ow_row m2 hi
  simp only [Option.some.injEq, Addr.mk.injEq, and_true] at n1
  obtain ⟨rfl, rfl⟩ := n1
  subst hsz
  have hAp : A.Perm (G ++ (bb :: R) ++ F2) := m3.trans (n8.append_right F2)
  obtain ⟨Fs, hFs1, hFs2⟩ := hB3
  have hbA : bb ∈ A := hAp.mem_iff.2 (by simp)
  have hfree : ¬ E3.T bb := hFs2.free bb (by simp [hbA])
  have hfreeS : ¬ E3.S bb := fun hc => hfree (hFs2.st bb hc)
  have nd : (Fx ++ (G ++ (bb :: R) ++ F2)).Nodup := (List.Perm.append_left Fx hAp).nodup_iff.1 (List.nodup_append.1 hFs2.nodup).2.1
  have hnx : bb ∉ Fx := fun hc => (List.nodup_append.1 nd).2.2 bb hc bb (by simp) rfl
  have hnG : bb ∉ G := fun hc => (List.nodup_append.1 (List.nodup_append.1 (List.nodup_append.1 nd).2.1).1).2.2 bb hc bb (by simp) rfl
  have hnR : bb ∉ R := (List.nodup_cons.1 (List.nodup_append.1 (List.nodup_append.1 (List.nodup_append.1 nd).2.1).1).2.1).1
  have hn2 : bb ∉ F2 := fun hc => (List.nodup_append.1 (List.nodup_append.1 nd).2.1).2.2 bb (by simp) bb hc rfl
  have hcl : j + v.cells.toList.length ≤ q.n := by
    rcases hrow with ⟨rfl, _, ho4⟩ | ⟨t, y, hc1, ho4, hset, _⟩
    · rw [Ow_len ho4]; omega
    · rw [hc1]
      obtain ⟨_, y0, hc0⟩ := cellGet_set hset
      obtain ⟨u, _, _, hu, _⟩ := Ow_cell n7 hc0
      have := (List.getElem?_eq_some_iff.1 hu).1
      simp; omega
  have hfit : o + i * q.n + j + v.cells.toList.length ≤ arr.size := by omega
  let w' := w.setCells bb (o + i * q.n + j) v.cells.toList
  have oth : ∀ c, c ≠ bb → w'.heap[c]? = w.heap[c]? := fun c hc => setCells_other _ _ _ _ _ hc
  have hSw : ∀ c, E3.S c → w'.heap[c]? = w.heap[c]? := fun c hc => oth c (fun e => hfreeS (e ▸ hc))
  have hb' := setCells_heap v.cells.toList (o + i * q.n + j) w bb arr ty fr n2
  have hcell : ∃ cs' G' D0, cs'.length = q.n ∧ CellsAt w' bb (o + i * q.n) cs' ∧ Ow w' E3.S m q cs' row' G' ∧ (Fx ++ G).Perm (G' ++ D0) := by
    rcases hrow with ⟨rfl, _, ho4⟩ | ⟨t, y, hc1, ho4, hset, _⟩
    · refine ⟨v.cells.toList, Fx, G, Ow_len ho4, cellsAt_set n2 hfit, Ow_mono (fun c hc => hle.S c hc) (fun c hc => oth c (fun e => hfreeS (e ▸ hle.S c hc))) (fun c hc => oth c (fun e => hnx (e ▸ hc))) ho4, List.Perm.refl _⟩
    · obtain ⟨_, y0, hc0⟩ := cellGet_set hset
      obtain ⟨u, K1, K2, z1, z2, z3, z4⟩ := Ow_cell n7 hc0
      have hnK2 : bb ∉ K2 := fun hc => hnG (z3.mem_iff.2 (by simp [hc]))
      obtain ⟨F', f1, f2⟩ := z4 w' E3.S v y Fx row' (fun _ hc => hc) hSw (fun c hc => oth c (fun e => hnK2 (e ▸ hc)))
        (Ow_mono (fun c hc => hle.S c hc) (fun c hc => oth c (fun e => hfreeS (e ▸ hle.S c hc))) (fun c hc => oth c (fun e => hnx (e ▸ hc))) ho4) hset
      refine ⟨cs.set j v, F', K1, by simpa using n5, fun x u' hx => ?_, f2, ?_⟩
      · rw [List.getElem?_set] at hx
        split at hx
        · rename_i ejx
          subst ejx
          split at hx
          · cases hx
            have := cellsAt_set (w := w) (b := bb) (o := o + i * q.n + j) (vs := v.cells.toList) n2 hfit 0 v (by rw [hc1]; rfl)
            simpa using this
          · cases hx
        · rename_i ejx
          have hold := n6 x u' hx
          rw [cell_of_block n2] at hold
          rw [cell_of_block hb', setsFrom_get hfit, if_neg (fun hh => by rw [hc1] at hh; simp only [List.length_cons, List.length_nil] at hh; omega), hold]
      · refine (List.Perm.append_left Fx z3).trans ?_
        refine List.Perm.trans ?_ (f1.symm.append_right K1)
        rw [List.append_assoc]
        exact List.Perm.append_left _ List.perm_append_comm
  obtain ⟨cs', G', D0, c1, c2, c3, c4⟩ := hcell
  obtain ⟨F1', f1, f2⟩ := n9 w' E3.S (setsFrom arr (o + i * q.n + j) v.cells.toList) cs' row' G' (fun _ hc => hc) hSw (fun c hc => oth c (fun e => hnR (e ▸ hc))) hb' (setsFrom_size _ _ _) (fun k hk => by
    rw [setsFrom_get hfit, if_neg (by omega)]) c1 c2 c3
  obtain ⟨F', f3, f4⟩ := m4 w' E3.S (ys.set i row') F1' rows' (fun _ hc => hc) hSw (fun c hc => oth c (fun e => hn2 (e ▸ hc))) f2 e2
  have hperm : (Fx ++ A).Perm (F' ++ D0) := by
    have p1 : F'.Perm (G' ++ (bb :: R) ++ F2) := f3.trans (f1.append_right F2)
    refine (List.Perm.append_left Fx hAp).trans (List.Perm.trans ?_ (p1.symm.append_right D0))
    classical
    rw [List.perm_iff_count]
    intro c
    have h4 := (List.perm_iff_count.1 c4) c
    simp only [List.count_append] at h4 ⊢
    omega
  have hbF' : bb ∈ F' := (f3.trans (f1.append_right F2)).mem_iff.2 (by simp)
  have hB4 : Boxes E3 w σ.bx bx2 F' := by
    have : Boxes E3 w σ.bx bx2 (F' ++ D0) := Boxes.perm (G := Fx ++ A) ⟨Fs, hFs1, hFs2⟩ hperm
    exact this.drop
  have hlen2 : bx2.length = σ.bx.length := by rw [k1.len]; simp
  have hdead : bx2[b]? = some .dead := by
    obtain ⟨B, hB⟩ : ∃ B, bx2[b]? = some B := ⟨_, List.getElem?_eq_getElem (by omega)⟩
    rcases k1.within b B hB with e | e
    · rw [hB, e]
    · rw [List.getElem?_set_self hlt] at e; rw [hB]; exact e.symm
  have hrl : rows'.length = rows.length := setP_len hg (by simp) e2
  have kT : ∀ E0, Le E0 E3 → Taken E0 w σ.bx σ.bx [] E3 bx2 (Fx ++ A) := fun E0 hl => ⟨hl, hlen2, fun n B hn => by
    rcases k1.within n B hn with e | e
    · exact .inl e
    · exact (hwin n B e), ⟨Fs, hFs1, by simpa using hFs2⟩⟩
  have hhdr : ∀ n, E3.hdr n = E.hdr n := fun n => by rw [hle3.hdr]
  have hww : ∀ c, c < w.heap.size → c ∉ Fx ++ A → w'.heap[c]? = w.heap[c]? := fun c _ hc => oth c (fun e => hc (by rw [e]; simp [hbA]))
  have base : Base E w E3 w' := ⟨hle3.T, hle3.S, hle3.Tof, hle3.Sof, fun c hc => oth c (fun e => hfree (e ▸ hle3.T c hc)), (setCells_grown _ _ _ _).os, (setCells_grown _ _ _ _).tape, (setCells_grown _ _ _ _).output, (setCells_grown _ _ _ _).size⟩
  have finish : ∀ (f : AV → AV) (g : XV → XV), (∀ E0, Le E0 E3 → (∀ c, E0.S c → E0.T c) → ∀ x v, VR E0 w σ.bx x v → VR E3 w' ((bx2.map (Bx.map f)).set b (.sl (m + 1 + p.length) r rows')) (f x) v) →
      (∀ x v, XR E w σ.bx x v → XR E3 w' ((bx2.map (Bx.map f)).set b (.sl (m + 1 + p.length) r rows')) (g x) v) →
      Rel E3 { tm := σ.tm.map g, bx := (bx2.map (Bx.map f)).set b (.sl (m + 1 + p.length) r rows') } a w' := by
    intro f g hf hg
    refine ⟨h.nodefer, All2.map_left _ hg h.tm, ?_⟩
    have hT := hB4.turnF (E' := E3) (w' := w') (vw' := (bx2.map (Bx.map f)).set b (.sl (m + 1 + p.length) r rows')) f (hf E3 (Le.refl _) hFs2.st) (fun _ h => h) (fun _ _ => rfl) (fun _ _ => rfl) (fun c hc _ => oth c (fun e => by
        rcases hc with hc | hc
        · exact hfreeS (e ▸ hc)
        · exact hc.2 (by rw [e]; exact hbF'))) (fun F hF => ⟨hF.nodup, hF.free, fun c hc => by rw [setCells_size]; exact hF.lt c hc, hF.st, fun c hc => by rw [setCells_size]; exact hF.tlt c hc⟩)
    refine Boxes.put (F := F') (G := []) (by simpa using hT) (by rw [List.getElem?_map, hdead]; rfl) ⟨by omega, ?_⟩
    rw [hhdr]
    exact f4
  have went : ∀ f : AV → AV, Went [b] E σ.bx w E3 ((bx2.map (Bx.map f)).set b (.sl (m + 1 + p.length) r rows')) w' := fun f => ⟨base, by simp [hlen2], fun n _ => ⟨by rw [hle3.blk], hhdr n⟩, fun n hn => by
    have hnb : n ≠ b := fun e => by subst e; rw [hb] at hn; cases hn
    have hnl := (List.getElem?_eq_some_iff.1 hn).1
    rw [List.getElem?_set_ne (fun e => hnb e.symm), List.getElem?_map]
    obtain ⟨B, hB⟩ : ∃ B, bx2[n]? = some B := ⟨_, List.getElem?_eq_getElem (by omega)⟩
    have hBd : B = .dead := by
      rcases (kT E hle3).within n B hB with e | e
      · exact e
      · rw [hn] at e; cases e; rfl
    rw [hB, hBd]; rfl, fun n B B' hnb hB hB' hnd => by
    simp at hnb
    have hnl := (List.getElem?_eq_some_iff.1 hB).1
    rw [List.getElem?_set_ne (fun e => hnb e.symm), List.getElem?_map] at hB'
    obtain ⟨B2, hB2⟩ : ∃ B2, bx2[n]? = some B2 := ⟨_, List.getElem?_eq_getElem (by omega)⟩
    rw [hB2] at hB'
    have hB' : Bx.map f B2 = B' := by simpa using hB'
    have hBB : B2 = B := by
      rcases (kT E hle3).within n B2 hB2 with e | e
      · subst e; exact absurd hB'.symm hnd
      · rw [hB] at e; cases e; rfl
    subst hBB
    refine ⟨?_, fun c hc => oth c (fun e => ?_)⟩
    · subst hB'
      cases B2 with
      | mem cs => trivial
      | sl d r rows => rfl
      | dead => exact absurd rfl hnd
    · have hF : Fs[n]? = some (Fs[n]'(by have := (List.getElem?_eq_some_iff.1 hB2).1; rw [hFs1.1]; exact this)) := List.getElem?_eq_getElem _
      have hc' : BRB E3 w n B2 c := by
        cases B2 with
        | mem cs => simp only [BRB] at hc ⊢; rw [hle3.blk]; exact hc
        | sl d r rows => simp only [BRB] at hc ⊢; rw [hhdr]; exact hc
        | dead => exact hc
      rcases BRB_sub (hFs1.2 n B2 _ hB2 hF) hc' with hs | hs
      · exact hfreeS (e ▸ hs)
      · exact (List.nodup_append.1 hFs2.nodup).2.2 c (List.mem_flatten.2 ⟨_, List.mem_of_getElem? hF, hs⟩) bb (by simp [hbA]) e⟩
  refine ⟨bb, o + i * q.n + j, E3, rfl, there_of n2 hfit n3, ?_, ?_, ?_⟩
  · split at e3
    · rename_i hpl'
      have h0 : ∀ E0, Le E0 E3 → (∀ c, E0.S c → E0.T c) → Keep E0 w σ.bx E3 w' (bx2.set b (.sl (m + 1 + p.length) r rows')) := by
        intro E0 hl st0
        refine keep_store b (kT E0 hl) st0 (by simp [hlen2]) (fun n d r rows hn _ hq => by
            rw [List.getElem?_set_ne (fun e => hn e.symm)] at hq; exact hq) (fun _ _ => rfl) (fun _ _ => rfl) rfl rfl hww (fun d0 r0 rows0 hq => ?_)
        rw [List.getElem?_set_self (by omega)] at hq
        simp only [Option.some.injEq, Bx.sl.injEq] at hq
        obtain ⟨rfl, rfl, hq⟩ := hq
        obtain rfl := eq_of_heq hq
        refine ⟨d, rows, hb, fun p' hp' q' zs hg' => ?_⟩
        rcases hrow with ⟨_, hpf, _⟩ | ⟨t, y, hc1, ho4, hset, hsc⟩
        · rw [hpl'] at hpf; cases hpf
        obtain ⟨hs1, hs2⟩ := hsc hpl'
        have hk := place_plain hs1 hp hg hi hset e2 hp' q' zs hg'
        refine ⟨hk.1, hk.2, fun hh hhe => ?_⟩
        rw [hhdr]
        rw [← hl.hdr, hhdr] at hhe
        refine hdr_plain (fun Ad => ?_) (Ow_rd f4) hk.1 hhe
        by_cases eA : Ad.block = bb ∧ Ad.spot = none ∧ Ad.off = o + i * q.n + j
        · right
          obtain ⟨ab, ao, as⟩ := Ad
          simp only at eA
          rw [eA.1, eA.2.1, eA.2.2]
          refine ⟨v, ?_, hs2⟩
          have := cellsAt_set (w := w) (b := bb) (o := o + i * q.n + j) (vs := v.cells.toList) n2 hfit 0 v (by rw [hc1]; rfl)
          simpa using this
        · left
          refine World.cell?_setCells_out bb v.cells.toList (o + i * q.n + j) w Ad (fun q1 q2 => ?_)
          rw [hc1]
          simp only [List.length_cons, List.length_nil]
          have : Ad.off ≠ o + i * q.n + j := fun q3 => eA ⟨q1, q2, q3⟩
          omega
      have := finish id id (fun E0 hl st0 x v hx => by rw [map_id_bx]; exact VR_keep (h0 E0 hl st0) hx) (fun x v hx => by rw [map_id_bx]; exact XR_keep (h0 E hle3 st) hx)
      rw [map_id_bx, List.map_id] at this
      rw [← e3]
      exact this
    · have h0 : ∀ E0, Le E0 E3 → (∀ c, E0.S c → E0.T c) → ∀ x v, VR E0 w σ.bx x v → VR E3 w' ((bx2.map (Bx.map (scrubAV b))).set b (.sl (m + 1 + p.length) r rows')) (scrubAV b x) v := by
        intro E0 hl st0 x v hx
        have keep : Keep E0 w σ.bx E3 w' (((bx2.map (Bx.map (scrubAV b))).set b (.sl (m + 1 + p.length) r rows')).set b .dead) := by
          refine keep_store b (kT E0 hl) st0 (by simp [hlen2]) (fun n d r rows hn _ hq => by
            rw [List.getElem?_set_ne (fun e => hn e.symm), List.getElem?_set_ne (fun e => hn e.symm)] at hq
            exact map_sl hq) (fun _ _ => rfl) (fun _ _ => rfl) rfl rfl hww (fun d0 r0 rows0 hq => ?_)
          rw [List.getElem?_set_self (by simp; omega)] at hq
          cases hq
        exact VR_scrub keep hb (by rw [List.getElem?_set_self (by simp; omega)]) hrl (by rw [hl.hdr]) hx
      have := finish (scrubAV b) (scrubXV b) h0 (fun x v hx => XR_scrub (h0 E hle3 st) hx)
      rw [← e3]
      simp only [St.scrub]
      rw [scrubBx_map, map_set_bx]
      exact this
  · rw [← e3]
    split
    · have := went id
      rw [map_id_bx] at this
      exact this
    · simp only [St.scrub]
      rw [scrubBx_map, map_set_bx]
      exact went _
  · rw [← e3]
    split <;> simp [St.scrub]
end Go.Fw
end

section
namespace Go.Fw
theorem Ow_plain {w w' : World} {S S' : Nat → Prop} {d d' : Nat} {r : Ty} (hr : r.scalar = true) {cs : List Value} {y : r.D} {F : List Nat} (h : Ow w S d r cs y F) : F = [] ∧ cs.length = 1 ∧ Ow w' S' d' r cs y [] := by
  cases r with
  | int k => simp only [Ow] at h ⊢; obtain ⟨rfl, rfl⟩ := h; exact ⟨rfl, rfl, rfl, trivial⟩
  | bool => simp only [Ow] at h ⊢; obtain ⟨rfl, rfl⟩ := h; exact ⟨rfl, rfl, rfl, trivial⟩
  | str => simp only [Ow] at h ⊢; obtain ⟨rfl, rfl⟩ := h; exact ⟨rfl, rfl, rfl, trivial⟩
  | _ => simp [Ty.scalar] at hr
theorem scalar_n {r : Ty} (hr : r.scalar = true) : r.n = 1 := by
  cases r <;> simp_all [Ty.scalar, Ty.n]
theorem Ow_zv {w : World} {S : Nat → Prop} {d : Nat} {r : Ty} (hr : r.scalar = true) : Ow w S d r (zvRow r) r.z [] := Ow_zero (by cases r <;> simp_all [Ty.scalar, Ty.good])
theorem scalar_path {r : Ty} (hr : r.scalar = true) {rows : List r.D} : ∀ {p : List Stp}, PathOk r rows p → p = []
  | [], _ => rfl
  | s :: p, h => by
    simp only [PathOk] at h
    obtain ⟨_, _, h⟩ := h
    exfalso
    cases r with
    | int k =>
      cases hj : s.j with
      | zero => rw [hj] at h; exact h
      | succ j => rw [hj] at h; exact h
    | bool =>
      cases hj : s.j with
      | zero => rw [hj] at h; exact h
      | succ j => rw [hj] at h; exact h
    | str =>
      cases hj : s.j with
      | zero => rw [hj] at h; exact h
      | succ j => rw [hj] at h; exact h
    | _ => simp [Ty.scalar] at hr
theorem flatten_nil {l : List (List Nat)} (h : ∀ x ∈ l, x = []) : l.flatten = [] := by
  induction l with
  | nil => rfl
  | cons x l ih =>
    rw [List.flatten_cons, h x (by simp), ih (fun y hy => h y (by simp [hy]))]
    rfl
theorem clear_box {E : Env} {σ : St} {a : Act} {w : World} (h : Rel E σ a w) {b d off n : Nat} {r : Ty} {rows : List r.D} (hb : σ.bx[b]? = some (.sl d r rows)) (hr : r.scalar = true) (hl : off + n ≤ rows.length) (hn : 0 < n) :
    ∃ bb o cap, E.hdr b = .slice (some ⟨bb, o, none⟩) rows.length cap ∧ rows.length ≤ cap ∧ w.there bb (o + off) n ∧
      Rel E { σ with bx := σ.bx.set b (.sl d r ((rows.take off ++ List.replicate n r.z) ++ rows.drop (off + n))) } a (w.setCells bb (o + off) (List.replicate n (zvRow r)).flatten) ∧
      Went [b] E σ.bx w E (σ.bx.set b (.sl d r ((rows.take off ++ List.replicate n r.z) ++ rows.drop (off + n)))) (w.setCells bb (o + off) (List.replicate n (zvRow r)).flatten) := by
  have st := h.bx.st
  have hn1 := scalar_n hr
  obtain ⟨F, ⟨hd, ho⟩, hB⟩ := h.bx.take hb
  simp only [List.append_nil] at hB
  have hlt := (List.getElem?_eq_some_iff.1 hb).1
  obtain ⟨d', rfl⟩ : ∃ m, d = m + 1 := ⟨d - 1, by omega⟩
  simp only [Ow] at ho
  obtain ⟨ad, cap, hh, hcap, ho⟩ := ho
  simp only [List.cons.injEq, and_true] at hh
  rcases ho with ⟨rfl, _⟩ | ⟨bb, o, arr, ty, fr, Fs, rfl, ha, hsz, hu, rfl, hFl, hrows⟩
  · omega
  have hFn : List.flatten Fs = [] := flatten_nil fun x hx => by
    obtain ⟨i, hi, hxi⟩ := List.getElem_of_mem hx
    obtain ⟨cs, _, _, h3⟩ := hrows i (rows[i]'(by omega)) x (List.getElem?_eq_getElem _) (by rw [List.getElem?_eq_getElem hi, hxi])
    exact (Ow_plain (w' := w) (S' := E.S) (d' := 0) hr h3).1
  rw [hFn] at hB
  have hzl : (zvRow r).length = 1 := by rw [zvRow_len, hn1]
  have hvl : ((List.replicate n (zvRow r)).flatten).length = n := by rw [flatten_replicate_len, hzl, Nat.mul_one]
  rw [hn1, Nat.mul_one] at hsz
  have hfit : o + off + ((List.replicate n (zvRow r)).flatten).length ≤ arr.size := by omega
  generalize hvs : (List.replicate n (zvRow r)).flatten = vs at hvl hfit
  refine ⟨bb, o, cap, hh, hcap, there_of ha (by omega) hu, ?_⟩
  have hfree : ¬ E.T bb := hB.gfree _ (by simp)
  have hB0 := hB
  have oth : ∀ c, c ≠ bb → (w.setCells bb (o + off) vs).heap[c]? = w.heap[c]? := fun c hc => setCells_other _ _ _ _ _ hc
  have hw : ∀ c, c < w.heap.size → c ∉ [bb] → (w.setCells bb (o + off) vs).heap[c]? = w.heap[c]? := fun c _ hc => oth c (by simpa using hc)
  have kT : Taken E w σ.bx σ.bx [] E (σ.bx.set b .dead) [bb] := ⟨Le.refl _, by simp, fun n B hn => by
    by_cases en : n = b
    · subst en
      rw [List.getElem?_set_self hlt] at hn
      exact .inl (by simpa using hn.symm)
    · rw [List.getElem?_set_ne (fun h => en h.symm)] at hn
      exact .inr hn, by simpa using hB⟩
  generalize hrows' : (rows.take off ++ List.replicate n r.z) ++ rows.drop (off + n) = rows'
  have hlen' : rows'.length = rows.length := by
    rw [← hrows']
    simp
    omega
  have keep : Keep E w σ.bx E (w.setCells bb (o + off) vs) (σ.bx.set b (.sl (d' + 1) r rows')) := keep_store b kT st (by simp) (fun n d r rows hn _ hq => by
      rw [List.getElem?_set_ne (by omega)] at hq ⊢; exact hq) (fun _ _ => rfl) (fun _ _ => rfl) rfl rfl hw (fun d1 r1 rows1 hq => by
      rw [List.getElem?_set_self hlt] at hq
      simp only [Option.some.injEq, Bx.sl.injEq] at hq
      obtain ⟨rfl, rfl, hq⟩ := hq
      obtain rfl := eq_of_heq hq
      refine ⟨d' + 1, rows, hb, fun p hp q ys hg => ?_⟩
      obtain rfl := scalar_path hr hp
      simp only [getP, Option.some.injEq, Sigma.mk.injEq] at hg
      obtain ⟨rfl, hg⟩ := hg
      obtain rfl := eq_of_heq hg
      exact ⟨by simp [PathOk], ⟨rows', by simp [getP], hlen'⟩, fun h' hh' => hh'⟩)
  refine ⟨⟨h.nodefer, h.tm.imp fun _ _ hq => XR_keep keep hq, ?_⟩, ⟨⟨fun _ h => h, fun _ h => h, fun _ h => .inl h, fun _ h => .inl h, fun c hc => oth c (fun e => hfree (e ▸ hc)), (setCells_grown _ _ _ _).os, (setCells_grown _ _ _ _).tape, (setCells_grown _ _ _ _).output, (setCells_grown _ _ _ _).size⟩, by simp, fun _ _ => ⟨rfl, rfl⟩, fun n hn => by
    rw [List.getElem?_set_ne (fun e => by subst e; rw [hb] at hn; cases hn)]; exact hn, fun n B B' hnb hB hB' hnd => by
    simp at hnb
    rw [List.getElem?_set_ne (fun e => hnb e.symm), hB] at hB'
    cases hB'
    refine ⟨SameBx.refl hnd, fun c hc => oth c (fun e => ?_)⟩
    obtain ⟨Fs, ⟨f1, f2⟩, f3⟩ := hB0
    have hB2 : (σ.bx.set b .dead)[n]? = some B := by rw [List.getElem?_set_ne (fun e => hnb e.symm)]; exact hB
    have hF : Fs[n]? = some (Fs[n]'(by have := (List.getElem?_eq_some_iff.1 hB2).1; omega)) := List.getElem?_eq_getElem _
    rcases BRB_sub (f2 n B _ hB2 hF) hc with hs | hs
    · exact hfree (e ▸ st c hs)
    · exact (List.nodup_append.1 f3.nodup).2.2 c (List.mem_flatten.2 ⟨_, List.mem_of_getElem? hF, hs⟩) bb (by simp) e⟩⟩
  have hT := hB.turn (E' := E) (w' := w.setCells bb (o + off) vs) (vw' := σ.bx.set b (.sl (d' + 1) r rows')) (fun x v hq => VR_keep keep hq) (fun _ h => h) (fun _ _ => rfl) (fun _ _ => rfl) (fun c hc _ => oth c (fun e => by
      rcases hc with hc | hc
      · exact hfree (e ▸ st c hc)
      · exact hc.2 (by simp [e]))) (fun F hF => ⟨hF.nodup, hF.free, fun c hc => by rw [setCells_size]; exact hF.lt c hc, hF.st, fun c hc => by rw [setCells_size]; exact hF.tlt c hc⟩)
  have hbox : BoxR E (w.setCells bb (o + off) vs) (σ.bx.set b (.sl (d' + 1) r rows')) b (.sl (d' + 1) r rows') [bb] := by
    refine ⟨hd, ?_⟩
    simp only [Ow]
    refine ⟨_, cap, by rw [hh, hlen'], by omega, .inr ⟨bb, o, setsFrom arr (o + off) vs, ty, fr, List.replicate rows'.length [], rfl, setCells_heap _ _ _ _ _ _ _ ha, by rw [setsFrom_size, hn1]; omega, by rw [setsFrom_size]; exact hu, by simp, by simp, fun i y G hy hG => ?_⟩⟩
    have hG' : G = [] := List.eq_of_mem_replicate (List.mem_of_getElem? hG)
    subst hG'
    have hil : i < rows.length := by have := (List.getElem?_eq_some_iff.1 hy).1; omega
    rw [hn1, Nat.mul_one]
    by_cases hin : off ≤ i ∧ i < off + n
    · have hyz : y = r.z := by
        rw [← hrows', List.getElem?_append_left (by simp; omega), List.getElem?_append_right (by simp; omega)] at hy
        exact List.eq_of_mem_replicate (List.mem_of_getElem? hy)
      subst hyz
      refine ⟨zvRow r, hzl, fun j v hj => ?_, Ow_zv hr⟩
      have hj0 : j = 0 := by have := (List.getElem?_eq_some_iff.1 hj).1; omega
      subst hj0
      rw [Nat.add_zero]
      have := cellsAt_set ha hfit (i - off) v (by
        rw [← hvs, flatten_replicate_get (by rw [hzl]; omega), hzl, Nat.mod_one]
        exact hj)
      rw [show o + off + (i - off) = o + i by omega] at this
      exact this
    · have hyo : rows[i]? = some y := by
        rw [← hrows'] at hy
        by_cases h1 : i < off
        · rw [List.getElem?_append_left (by simp; omega), List.getElem?_append_left (by simp; omega), List.getElem?_take, if_pos h1] at hy
          exact hy
        · rw [List.getElem?_append_right (by simp; omega), List.getElem?_drop] at hy
          rw [← hy]
          congr 1
          simp
          omega
      obtain ⟨cs, c1, c2, c3⟩ := hrows i y (Fs[i]'(by omega)) hyo (List.getElem?_eq_getElem _)
      obtain ⟨_, c4, c5⟩ := Ow_plain (w' := w.setCells bb (o + off) vs) (S' := E.S) (d' := d') hr c3
      rw [hn1, Nat.mul_one] at c2
      exact ⟨cs, c4, cellsAt_apart c2 ha hfit (.inr (by omega)), c5⟩
  have := Boxes.put (b := b) (B := .sl (d' + 1) r rows') (F := [bb]) (G := []) (by simpa using hT) (by rw [List.getElem?_set_self hlt]) hbox
  rw [List.set_set] at this
  exact this
section
variable {Y : Type} {P : Program} {T : Tab} (hT : TabOk P T) {o : Oper} {E : Env} {σ : St} {a : Act} {w : World} {k : K Y} {y : Y}
include hT
theorem clear_done (h : Rel E σ a w) {c : Call} {x : XV} (ho : o.op = .call c) (hc : c.callee = .builtin .clear) (hargs : c.args.toList.map σ.ev = [x]) (e : clearX T c.argTypes σ x k = some y)
    (htch : ∀ b p off n, x = .c (.win b p off n) → touched (fun _ => none) σ o.op = [b]) : ∃ v w' E' xv σ', ((execOp a.eval o).run P w = .ok (.value v) w' ∨ ((execOp a.eval o).run P w = .ok .skip w' ∧ v = undef)) ∧ Rel E' σ' a w' ∧ XR E' w' σ'.bx xv v ∧
      Went (touched (fun _ => none) σ o.op) E σ.bx w E' σ'.bx w' ∧ σ'.tm.length = σ.tm.length ∧ k xv σ' = some y := by
  obtain ⟨o1, hargs', rfl⟩ := toList_one hargs
  have hv1 := h.ev o1
  unfold clearX at e
  split at e
  case h_2 => cases e
  rename_i t b off n ht hx
  rw [hx] at hv1
  rw [htch b [] off n hx]
  split at e
  case h_2 => cases e
  rename_i d r rows hb
  split at e
  case isFalse => cases e
  rename_i hel
  rw [Bool.and_eq_true] at hel
  obtain ⟨hel, hr⟩ := hel
  obtain ⟨el, ti, hu, hti, hs, hby, hrow⟩ := elemIs_spec hT hel
  obtain ⟨i, z, i1, i2, i3, i4, i5, hg⟩ := elem_zero hT hti hrow
  have hv2 : VR E w σ.bx (.win b [] off n) (a.eval o1) := hv1
  simp only [VR, hb] at hv2
  obtain ⟨_, _, q, ys, ad, len, cap, hgp, hl, hh, hv⟩ := hv2
  simp only [getP, Option.some.injEq, Sigma.mk.injEq] at hgp
  obtain ⟨rfl, hgp⟩ := hgp
  obtain rfl := eq_of_heq hgp
  simp only [hdrAt, Option.some.injEq] at hh
  have hn1 := scalar_n hr
  by_cases hn : n = 0
  · subst hn
    have hsame : (rows.take off ++ List.replicate 0 r.z) ++ rows.drop (off + 0) = rows := by simp
    rw [hsame] at e
    have hset : σ.bx.set b (.sl d r rows) = σ.bx := by
      apply List.ext_getElem?
      intro j
      rw [List.getElem?_set]
      split
      · rename_i e1
        subst e1
        rw [hb]
        simp [(List.getElem?_eq_some_iff.1 hb).1]
      · rfl
    rw [hset] at e
    refine ⟨.tuple #[], w, E, .c .undef, σ, .inl ?_, h, trivial, Went.refl _ _ _ _, rfl, e⟩
    have hz : ∃ a' c', a.eval o1 = .slice a' 0 c' := ⟨_, _, by rw [hv]; rfl⟩
    obtain ⟨a', c', hz⟩ := hz
    simp only [execOp, ho, resolve, hc, hargs', invoke, builtin, Sem.run_bind, Sem.run_pure, Result.andThen_ok, List.map_toArray, List.map_cons, List.map_nil, Builtin.clear_, ht, hz]
    cases a' <;> simp [run_underlying' hu]
  · obtain ⟨bb, oo, cap', g1, g2, g3, g4, g5⟩ := clear_box h (d := d) hb hr hl (by omega)
    rw [g1] at hh
    simp only [Value.slice.injEq] at hh
    obtain ⟨rfl, rfl, rfl⟩ := hh
    have hv' : a.eval o1 = .slice (some ⟨bb, oo + off, none⟩) n (cap' - off) := by
      rw [hv, hn1]
      unfold cutHdr
      rw [if_neg (by omega)]
      simp [Addr.add]
    refine ⟨.tuple #[], _, E, .c .undef, _, .inl ?_, g4, trivial, g5, rfl, e⟩
    have hz : (Builtin.zeroCells z.cells n).toList = (List.replicate n (zvRow r)).flatten := by
      unfold Builtin.zeroCells
      have hzn : z.cells.size = (zvRow r).length := by rw [← i5]; simp
      have := zeros_toList i5 n (fun hh => by have := zvRow_len r; rw [hh, hn1] at this; simp at this)
      rw [← hzn] at this
      exact this
    have h1 : ∀ v ∈ (List.replicate n (zvRow r)).flatten, v.oneCell' = true := fun v hv => by
      obtain ⟨l, hl1, hl2⟩ := List.mem_flatten.1 hv
      rw [List.eq_of_mem_replicate hl1] at hl2
      exact Ow_one (w := w) (S := E.S) (d := 0) (Ow_zv hr) v hl2
    have hvl : ((List.replicate n (zvRow r)).flatten).length = n := by rw [flatten_replicate_len, zvRow_len, hn1, Nat.mul_one]
    have hst := run_storeCells_cells (P := P) bb (oo + off) (List.replicate n (zvRow r)).flatten 0 w (fun j hj => by simpa using (g3 j (by omega)).1) (fun j hj => by simpa using (g3 j (by omega)).2) h1
    rw [Nat.add_zero] at hst
    obtain ⟨n', rfl⟩ : ∃ n', n = n' + 1 := ⟨n - 1, by omega⟩
    simp only [execOp, ho, resolve, hc, hargs', invoke, builtin, Sem.run_bind, Sem.run_pure, Result.andThen_ok, List.map_toArray, List.map_cons, List.map_nil, Builtin.clear_, ht, hv']
    simp [run_underlying' hu, zeroValue, typeInfo, i1, i4, hz, hst]
end
end Go.Fw
end

section
namespace Go.Fw
theorem capsX_spec {E : Env} {w : World} {vw : List Bx} : ∀ {l : List XV} {bs : List Nat} {vs : List Value}, capsX l = some bs → All2 (XR E w vw) l vs → (∀ b ∈ bs, b < vw.length) ∧ vs = bs.map fun b => Value.pointer (some ⟨E.blk b, 0, none⟩)
  | [], bs, vs, e, h => by
    simp only [capsX, Option.some.injEq] at e
    subst e
    cases vs with
    | nil => exact ⟨by simp, rfl⟩
    | cons _ _ => exact h.elim
  | x :: l, bs, vs, e, h => by
    unfold capsX at e
    split at e
    · rename_i heq; cases heq
    · rename_i b l' heq
      cases heq
      simp only [Option.map_eq_some_iff] at e
      obtain ⟨r, e1, rfl⟩ := e
      cases vs with
      | nil => exact h.elim
      | cons v vs =>
        obtain ⟨h1, h2⟩ := h
        obtain ⟨k1, k2⟩ := capsX_spec e1 h2
        obtain ⟨h3, h4⟩ : b < vw.length ∧ v = .pointer (some ⟨E.blk b, 0, none⟩) := h1
        exact ⟨fun c hc => (List.mem_cons.1 hc).elim (fun e => e ▸ h3) (k1 c), by rw [h4, k2]; rfl⟩
    · cases e
theorem All2.map_both {α β γ δ : Type} {R : α → β → Prop} {S : γ → δ → Prop} (f : α → γ) (g : β → δ) (h : ∀ a b, R a b → S (f a) (g b)) : ∀ {l : List α} {m : List β}, All2 R l m → All2 S (l.map f) (m.map g)
  | [], [], _ => trivial
  | _ :: _, _ :: _, k => ⟨h _ _ k.1, All2.map_both f g h k.2⟩
theorem evs {E : Env} {σ : St} {a : Act} {w : World} (h : Rel E σ a w) : ∀ l : List Operand, All2 (XR E w σ.bx) (l.map σ.ev) (l.map a.eval)
  | [] => trivial
  | x :: l => ⟨h.ev x, evs h l⟩
theorem OR_ev {E : Env} {σ : St} {a : Act} {w : World} (h : Rel E σ a w) : ∀ o : Option Operand, OR E w σ.bx (o.map σ.ev) (o.map a.eval)
  | none => trivial
  | some x => h.ev x
theorem Ow_path0 {w : World} {S : Nat → Prop} : ∀ {p : List Stp} {d : Nat} {r : Ty} {h : Value} {rows : List r.D} {F : List Nat} {q : Ty} {ys : List q.D} {v : Value}, Ow w S d (.sl r) [h] rows F → PathOk r rows p →
    getP r rows p = some ⟨q, ys⟩ → d ≤ p.length → hdrAt w h p = some v → Rd w S (.sl q) [v] ys
  | p, 0, r, h, rows, F, q, ys, v, ho, hp, hg, _, hv => by
    simp only [Ow] at ho
    obtain ⟨h', k, hr⟩ := path_rd ho.1 hp hg
    have := k w (fun _ _ => rfl)
    rw [hv] at this
    cases this
    exact hr
  | [], d + 1, r, h, rows, F, q, ys, v, ho, hp, hg, hd, hv => by simp at hd
  | s :: p, d + 1, r, h, rows, F, q, ys, v, ho, hp, hg, hd, hv => by
    simp only [PathOk] at hp
    obtain ⟨hi, hsz, hp⟩ := hp
    simp only [getP] at hg
    obtain ⟨a, len, cap, rfl⟩ : ∃ a len cap, h = .slice a len cap := by
      have := ho
      simp only [Ow] at this
      obtain ⟨a, cap, e, _⟩ := this
      simp only [List.cons.injEq, and_true] at e
      exact ⟨_, _, _, e⟩
    split at hg
    case h_2 => cases hg
    rename_i q' x' hcg
    rw [hcg] at hp
    obtain ⟨b, o, arr, ty, fr, cs, G, R, rfl, hb, hu, hbd, c1, c2, c3, hperm, hback⟩ := Ow_row ho hi
    obtain ⟨u, A1, A2, k1, k2, k3, k4⟩ := Ow_cell c3 hcg
    simp only [hdrAt] at hv
    rw [hsz, c2 _ _ k1] at hv
    exact Ow_path0 k2 hp hg (by simp at hd; omega) hv
theorem store_rowW {E : Env} {σ : St} {a : Act} {w : World} (h : Rel E σ a w) {b i sz j : Nat} {p : List Stp} {va v : Value} (hva : VR E w σ.bx (.saddr b p i sz j) va) {x : XV} (hv : XR E w σ.bx x v) (h1c : ∀ u ∈ v.cells.toList, u.oneCell' = true)
    {σ' : St} (e : storeW σ (.c (.saddr b p i sz j)) x = some σ') :
    ∃ bb oo E', va = .pointer (some ⟨bb, oo, none⟩) ∧ w.there bb oo v.cells.toList.length ∧ Rel E' σ' a (w.setCells bb oo v.cells.toList) ∧ Went [b] E σ.bx w E' σ'.bx (w.setCells bb oo v.cells.toList) ∧ σ'.tm.length = σ.tm.length := by
  unfold storeW lowerWin at e
  split at e
  · rename_i b0 _ _ _ _ b' s p' off n heq
    cases heq
    split at e
    case isFalse => cases e
    rename_i hbb
    subst hbb
    split at e
    case h_2 => cases e
    rename_i d r rows hb
    simp only [Option.bind_eq_some_iff, Option.map_eq_some_iff] at e
    obtain ⟨q, ⟨⟨q0, ys⟩, hg, rfl⟩, e⟩ := e
    dsimp only at e
    have hlt := (List.getElem?_eq_some_iff.1 hb).1
    obtain ⟨F, ⟨hd1, ho⟩, hB⟩ := h.bx.take hb
    obtain ⟨A, W, pF, ho2⟩ := Ow_weaken (d := min d (p'.length + 1)) (by omega) ho
    have hB2 := hB.perm (G' := A ++ W ++ []) (by rw [List.append_nil, List.append_nil]; exact pF)
    obtain ⟨hle, hB3⟩ := hB2.share
    generalize hE1 : ({ E with S := fun c => E.S c ∨ c ∈ W, T := fun c => E.T c ∨ c ∈ W } : Env) = E1 at hle hB3
    have ho3 : Ow w E1.S (min d (p'.length + 1)) (.sl r) [E1.hdr b'] rows A := by
      rw [hle.hdr]; subst hE1; exact ho2
    have hB4 := hB3.put (b := b') (B := .sl (min d (p'.length + 1)) r rows) (by rw [List.getElem?_set_self hlt]) ⟨by omega, ho3⟩
    rw [List.set_set] at hB4
    have hk : Keep E w σ.bx E1 w (σ.bx.set b' (.sl (min d (p'.length + 1)) r rows)) := by
      refine ⟨by simp, fun _ _ => by rw [hle.blk], hle.T, hle.S, h.bx.st, fun _ _ => rfl, fun c d' r' rows' hc e => ?_⟩
      by_cases hcb : b' = c
      · subst hcb
        rw [List.getElem?_set_self hlt] at e
        simp only [Option.some.injEq, Bx.sl.injEq] at e
        obtain ⟨rfl, rfl, e⟩ := e
        obtain rfl := eq_of_heq e
        exact ⟨d, rows, hb, fun p hp q ys hg => ⟨hp, ⟨ys, hg, rfl⟩, fun h' hh => by rw [hle.hdr]; exact hh⟩⟩
      · rw [List.getElem?_set_ne hcb] at e
        exact ⟨d', rows', e, fun p hp q ys hg => ⟨hp, ⟨ys, hg, rfl⟩, fun h' hh => by rw [hle.hdr]; exact hh⟩⟩
    have hv1 : VR E w σ.bx (.win b' (s :: p') off n) v := hv
    have hv2 : XR E1 w (σ.bx.set b' (.sl (min d (p'.length + 1)) r rows)) (.c (.sl true q0 ((ys.drop off).take n))) v := by
      simp only [VR, hb] at hv1
      obtain ⟨_, hp, q1, ys1, a1, len, cap, g1, g2, g3, rfl⟩ := hv1
      rw [hg] at g1
      simp only [Option.some.injEq, Sigma.mk.injEq] at g1
      obtain ⟨rfl, g1⟩ := g1
      obtain rfl := eq_of_heq g1
      have := Ow_path0 ho3 hp hg (by simp only [List.length_cons]; omega) (by rw [hle.hdr]; exact g3)
      exact Rd_sub this g2
    have hr : Rel E1 { σ with bx := σ.bx.set b' (.sl (min d (p'.length + 1)) r rows) } a w :=
      ⟨h.nodefer, h.tm.imp fun _ _ hx => XR_keep hk hx, hB4.turn (E' := E1) (w' := w) (fun _ _ hv => VR_keep ⟨by simp, fun _ _ => rfl, fun _ h => h, fun _ h => h, hB3.st, fun _ _ => rfl, fun c d' r' rows' hc e => by
        by_cases hcb : b' = c
        · subst hcb
          rw [List.getElem?_set_self hlt] at e
          simp only [Option.some.injEq, Bx.sl.injEq] at e
          obtain ⟨rfl, rfl, e⟩ := e
          obtain rfl := eq_of_heq e
          exact ⟨d, rows, hb, fun p hp q ys hg => ⟨hp, ⟨ys, hg, rfl⟩, fun h' hh => hh⟩⟩
        · rw [List.getElem?_set_ne hcb] at e
          exact ⟨d', rows', e, fun p hp q ys hg => ⟨hp, ⟨ys, hg, rfl⟩, fun h' hh => hh⟩⟩⟩ hv) (fun _ h => h) (fun _ _ => rfl) (fun _ _ => rfl) (fun _ _ _ => rfl) fun F hF => hF⟩
    obtain ⟨bb, oo, E', q1, q2, q3, q4, q5⟩ := store_row hr (VR_keep hk hva) hv2 h1c e
    refine ⟨bb, oo, E', q1, q2, q3, ⟨(hle.base w).trans q4.base, by simpa using q4.len, fun c hc => ?_, fun c hc => ?_, fun c B B' hct hB hB' hd => ?_⟩, q5⟩
    · have := q4.ids c (by simpa using hc)
      exact ⟨this.1.trans (by rw [hle.blk]), this.2.trans (by rw [hle.hdr])⟩
    · refine q4.dead c ?_
      have hcb : b' ≠ c := fun e => by subst e; rw [hb] at hc; cases hc
      simp only
      rw [List.getElem?_set_ne hcb]
      exact hc
    · have hcb : b' ≠ c := fun e => hct (by simp [e])
      obtain ⟨f1, f2⟩ := q4.frame c B B' hct (by simp only; rw [List.getElem?_set_ne hcb]; exact hB) hB' hd
      refine ⟨f1, fun c' hc' => f2 c' ?_⟩
      cases B with
      | mem cs => exact hc'.trans (by rw [hle.blk])
      | sl d0 r0 rows0 => simp only [BRB] at hc' ⊢; rw [hle.hdr]; exact hc'
      | dead => exact hc'
  · simp only [Option.bind_some] at e
    exact store_row h hva hv h1c e
def isCall : Op → Bool
  | .call { callee := .value _, .. } => true
  | _ => false
section
variable {Y : Type} {P : Program} {T : Tab} (hT : TabOk P T) {o : Oper} {E : Env} {σ : St} {a : Act} {w : World} {k : K Y} {y : Y}
include hT
theorem store_done (h : Rel E σ a w) {t : TypeId} {oa ox : Operand} (ho : o.op = .store t oa ox) {ti : TI} (hti : T.get t = some ti)
    (hc : (σ.ev ox).cells.length = ti.size ∧ ti.size ≠ 0 ∧ (σ.ev ox).cells.all AV.known = true) {σ' : St} (hs : storeW σ (σ.ev oa) (σ.ev ox) = some σ') (e : k (.c .undef) σ' = some y) : OpDone P o E σ a w k y := by
  obtain ⟨c1, c2, c3⟩ := hc
  have hne : (σ.ev ox).cells ≠ [] := fun hh => by rw [hh] at c1; exact c2 c1.symm
  obtain ⟨hvs, h1c⟩ := XR_cells (h.ev ox) c3 hne
  have hlen : (a.eval ox).cells.toList.length = ti.size := by rw [← All2.len hvs]; exact c1
  have hi : (P.info? t).map (·.size) = some (a.eval ox).cells.toList.length := by rw [hlen]; exact TabOk.size hT hti
  have hva := h.ev oa
  have fin : ∀ {bb oo : Nat} {E' : Env}, a.eval oa = .pointer (some ⟨bb, oo, none⟩) → w.there bb oo (a.eval ox).cells.toList.length → Rel E' σ' a (w.setCells bb oo (a.eval ox).cells.toList) →
      Went (touched (fun _ => none) σ o.op) E σ.bx w E' σ'.bx (w.setCells bb oo (a.eval ox).cells.toList) → σ'.tm.length = σ.tm.length → OpDone P o E σ a w k y := by
    intro bb oo E' e1 e2 e3 e4 e5
    have hr := run_storeAt_any (P := P) e2 hi h1c
    refine ⟨undef, _, E', .c .undef, σ', .inr ⟨?_, rfl⟩, e3, trivial, e4, e5, e⟩
    simp only [execOp, ho, e1, Sem.run_bind, hr, Result.andThen_ok, Sem.run_pure]
  generalize hxa : σ.ev oa = xa at hs hva
  cases xa with
  | agg l => simp [storeW, lowerWin, storeX] at hs
  | tup l => simp [storeW, lowerWin, storeX] at hs
  | c x =>
    cases x with
    | maddr b j =>
      simp only [storeW, lowerWin, Option.bind_some, storeX] at hs
      split at hs
      case h_2 => cases hs
      rename_i cs hb
      simp only [Option.map_eq_some_iff] at hs
      obtain ⟨cs', hs, rfl⟩ := hs
      have hva' : b < σ.bx.length ∧ a.eval oa = .pointer (some ⟨E.blk b, j, none⟩) := hva
      obtain ⟨q1, q2, q3⟩ := store_mem h hb hvs hne hs
      exact fin hva'.2 q1 q2 (by rw [ho]; simp only [touched, hxa]; exact q3) rfl
    | saddr b p i sz j =>
      obtain ⟨bb, oo, E', q1, q2, q3, q4, q5⟩ := store_rowW h hva (h.ev ox) h1c hs
      exact fin q1 q2 q3 (by rw [ho]; simp only [touched, hxa]; exact q4) q5
    | _ => simp [storeW, lowerWin, storeX] at hs
omit hT in
theorem assign_done (h : Rel E σ a w) {x : Operand} (ho : o.op = .assign x) (e : assignX σ (σ.ev x) k = some y) : OpDone P o E σ a w k y := by
  have hr : (execOp a.eval o).run P w = .ok (.value (a.eval x)) w := by simp only [execOp, ho, Sem.run_pure]
  have hv := h.ev x
  unfold assignX at e
  split at e
  · rename_i b off n hx
    rw [hx] at hv
    simp only [Option.bind_eq_some_iff] at e
    obtain ⟨⟨r, rows, bx, d⟩, e1, e⟩ := e
    dsimp only at e
    have hv' : VR E w σ.bx (.win b [] off n) (a.eval x) := hv
    obtain ⟨hd, F1, F2, k1, ho1⟩ := dstRows_sound h.bx (Within.refl _) hv' e1
    obtain ⟨Fs0, hB1, hB2⟩ := k1.boxes
    simp only [List.append_nil] at hB2
    have nd := (List.nodup_append.1 (List.nodup_append.1 hB2.nodup).2.1).1
    obtain ⟨r1, r2, r3⟩ := finish_sl h k1 (w' := w) hd ho1 (fun c hc => .inl (List.mem_append.2 (.inl hc))) nd (fun c hc => hB2.lt c (by simp [hc])) (fun _ _ _ => rfl) ⟨rfl, rfl, rfl, Nat.le_refl _⟩
    exact ⟨_, _, _, _, _, .inl hr, r1, r3, r2.any, rfl, e⟩
  · exact OpDone.same h hr hv e
theorem exec_done {Γ : Nat → Option Con} (h : Rel E σ a w) (e : execX T Γ o σ k = some y) (hcall : isCall o.op = false) : OpDone P o E σ a w k y := by
  have same : ∀ {v : Value} {x : XV}, (execOp a.eval o).run P w = .ok (.value v) w → XR E w σ.bx x v → k x σ = some y → OpDone P o E σ a w k y := fun h1 h2 h3 => OpDone.same h h1 h2 h3
  obtain ⟨Fs, hB, hS⟩ := h.bx
  have st := hS.st
  unfold execX at e
  split at e
  · rename_i x ho
    exact same (v := a.eval x) (by simp only [execOp, ho, Sem.run_pure]) (h.ev x) e
  · rename_i x ho
    exact assign_done h ho e
  · rename_i c xa xb ho
    split at e
    case h_2 => cases e
    rename_i p hp
    have hc := h.ev c
    rw [hp] at hc
    have hc' := VR_bool (E := E) (w := w) (vw := σ.bx) hc
    refine same (v := if p then a.eval xa else a.eval xb) (x := if p then σ.ev xa else σ.ev xb) (by simp [execOp, ho, hc', asBool]) (by cases p <;> simp [h.ev]) ?_
    cases p <;> simpa [pickX] using e
  · rename_i t ho
    split at e
    case h_2 => cases e
    rename_i r hr
    exact alloc_done hT h ho hr e
  · rename_i t x ho
    split at e
    case h_2 => cases e
    rename_i ti hti
    split at e
    case isFalse => cases e
    rename_i hc
    exact box_done h ho hc.2.2 (fun hh => by rw [hh] at hc; exact hc.2.1 hc.1.symm) e
  · rename_i t ps ho
    split at e
    case h_2 => cases e
    rename_i s b fs rw r hti hr
    split at e
    case h_2 => cases e
    rename_i cs hcs
    exact build_done hT h ho hti hr hcs e
  · rename_i t n ps ho
    exact buildSlice_done hT h ho e
  · rename_i t x ho
    split at e
    case h_2 => cases e
    rename_i z hz
    obtain ⟨u, h1, h2⟩ := loadX_sound hT hB st hz (h.ev x)
    exact same (by simp only [execOp, ho, Sem.run_bind, h1, Result.andThen_ok, Sem.run_pure]) h2 e
  · rename_i t xa xx ho
    split at e
    case h_2 => cases e
    rename_i ti hti
    split at e
    case isFalse => cases e
    rename_i hc
    split at e
    case h_2 => cases e
    rename_i σ' hs
    exact store_done hT h ho hti hc hs e
  · rename_i x ho
    have hx := h.ev x
    split at e
    · rename_i b j hp
      rw [hp] at hx
      have hx' : b < σ.bx.length ∧ a.eval x = .pointer (some ⟨E.blk b, j, none⟩) := hx
      exact same (v := a.eval x) (by simp only [execOp, ho, hx'.2, Sem.run_pure]) hx e
    · rename_i b p i sz j hp
      rw [hp] at hx
      have hpt : isPtr (a.eval x) = true := hx.1
      refine same (v := a.eval x) ?_ hx e
      unfold isPtr at hpt
      split at hpt
      · rename_i hv
        simp only [execOp, ho, hv, Sem.run_pure]
      · cases hpt
    · rename_i s r z j hp
      rw [hp] at hx
      obtain ⟨bb, oo, cs, hv, hrest⟩ := hx
      exact same (v := a.eval x) (x := .c (.raddr s r z j)) (by simp only [execOp, ho, hv, Sem.run_pure]) ⟨bb, oo, cs, hv, hrest⟩ e
    · rename_i f caps hp
      rw [hp] at hx
      have hx' : (∀ b ∈ caps, b < σ.bx.length) ∧ a.eval x = .func (.func f) #[] (caps.map fun b => Value.pointer (some ⟨E.blk b, 0, none⟩)).toArray := hx
      exact same (v := a.eval x) (by simp only [execOp, ho, hx'.2, Sem.run_pure]) hx e
    · cases e
  · rename_i op t x z s ho
    obtain ⟨r, val, h1, h2, h3⟩ := binX_sound hT e (h.ev x) (h.ev z) x z
    exact same (v := val) (x := .c r) (by
      simp only [execOp, ho, Sem.run_bind]
      simp only [Sem.run_bind] at h2
      rw [h2]; rfl) h3 h1
  · rename_i op t x ho
    obtain ⟨r, val, h1, h2, h3⟩ := unX_sound (P := P) e (h.ev x)
    exact same (v := val) (x := .c r) (by simp only [execOp, ho, Sem.run_bind, h2, Result.andThen_ok, Sem.run_pure]) h3 h1
  · rename_i s d x ho
    exact conv_done hT h ho e
  · rename_i f first caps ho
    split at e
    case isFalse => cases e
    rename_i hf
    split at e
    case h_2 => cases e
    rename_i bs hbs
    obtain ⟨q1, q2⟩ := capsX_spec hbs (evs h caps.toList)
    have hfirst : first.map a.eval = #[] := by
      have : first = #[] := Array.eq_empty_of_size_eq_zero hf
      rw [this]; simp
    have hcaps : caps.map a.eval = (bs.map fun b => Value.pointer (some ⟨E.blk b, 0, none⟩)).toArray := by
      apply Array.ext'
      simpa using q2
    refine same (v := .func (.func f) #[] (bs.map fun b => Value.pointer (some ⟨E.blk b, 0, none⟩)).toArray) ?_ (x := .c (.fn f bs)) ⟨q1, rfl⟩ e
    simp only [execOp, ho, Instr.makeFunc, hfirst, hcaps, Sem.run_bind, Sem.run_pure, Result.andThen_ok]
  · rename_i t l c ho
    exact make_done hT h ho e
  · rename_i t x lo hi ho
    obtain ⟨z, val, h1, h2, h3⟩ := sliceX_sound hT hB st e (h.ev x) (OR_ev h lo) (OR_ev h hi)
    exact same (v := val) (by simp only [execOp, ho, Option.map_none, Sem.run_bind, h2, Result.andThen_ok, Sem.run_pure]) h3 h1
  · rename_i t x f ho
    split at e
    case h_2 => cases e
    rename_i z hz
    obtain ⟨u, h1, h2⟩ := fieldX_sound hT hz (h.ev x)
    exact same (by simp only [execOp, ho, Sem.run_bind, h1, Result.andThen_ok, Sem.run_pure]) h2 e
  · rename_i t x f ho
    split at e
    case h_2 => cases e
    rename_i z hz
    obtain ⟨u, h1, h2⟩ := partX_sound hT hz (h.ev x)
    exact same (by simp only [execOp, ho, Sem.run_bind, h1, Result.andThen_ok, Sem.run_pure]) h2 e
  · rename_i t x i ho
    obtain ⟨z, val, h1, h2, h3⟩ := indexX_sound hT hB st e (h.ev x) (h.ev i)
    exact same (v := val) (by simp only [execOp, ho, Sem.run_bind, h2, Result.andThen_ok, Sem.run_pure]) h3 h1
  · rename_i t x i ho
    obtain ⟨z, val, h1, h2, h3⟩ := strIndexX_sound hT e (h.ev x) (h.ev i)
    exact same (v := val) (by simp only [execOp, ho, Sem.run_bind, h2, Result.andThen_ok, Sem.run_pure]) h3 h1
  · rename_i x i ho
    split at e
    case h_2 => cases e
    rename_i z hz
    obtain ⟨u, h1, h2⟩ := extractX_sound (P := P) hz (h.ev x)
    exact same (by simp only [execOp, ho, Sem.run_bind, h1, Result.andThen_ok, Sem.run_pure]) h2 e
  · rename_i f args ats ho
    rw [ho] at hcall
    cases hcall
  · rename_i args ats ho
    split at e
    · rename_i s t hargs hts
      obtain ⟨x, rfl, hx⟩ := toList_one hargs
      have hv := h.ev x
      rw [hx] at hv
      have hv' := VR_str (E := E) (w := w) (vw := σ.bx) hv
      split at e
      case isFalse => cases e
      rename_i hs
      have hu := isStr_spec hT hs
      refine same (v := .int .i64 (s.length : Int)) (x := .c (.v (.int .i64) (s.length : Int))) ?_ (VR.int (E := E) (vw := σ.bx) _ _) e
      have hsz : (⟨s.toArray⟩ : ByteArray).size = s.length := by simp [ByteArray.size]
      simp [execOp, ho, resolve, invoke, builtin, Builtin.len_, hts, hv', run_underlying' hu, goInt, hsz]
    · rename_i z t _ hargs hts
      obtain ⟨x, rfl, hx⟩ := toList_one hargs
      have hv := h.ev x
      rw [hx] at hv
      split at e
      case isFalse => cases e
      rename_i hs
      split at e
      case h_2 => cases e
      rename_i n hn
      obtain ⟨el, hu⟩ := isSl_spec hT hs
      obtain ⟨ad, cap, hv'⟩ := lenOf_sound hB st hn hv
      refine same (v := .int .i64 (n : Int)) (x := .c (.v (.int .i64) (n : Int))) ?_ (VR.int (E := E) (vw := σ.bx) _ _) e
      simp [execOp, ho, resolve, invoke, builtin, Builtin.len_, hts, hv', run_underlying' hu, goInt]
    · cases e
  · rename_i args ats ho
    split at e
    case h_2 => cases e
    rename_i x1 x2 hargs
    exact append_done hT h ho rfl hargs e
  · rename_i args ats ho
    split at e
    case h_2 => cases e
    rename_i x hargs
    exact clear_done hT h ho rfl hargs e (fun b p off n hx => by rw [ho]; simp only [touched]; rw [hargs, hx])
  · rename_i args ats ho
    split at e
    case h_2 => cases e
    rename_i x1 x2 hargs
    obtain ⟨o1, o2, rfl, hx1, hx2⟩ := toList_two hargs
    have hv1 := h.ev o1
    have hv2 := h.ev o2
    rw [hx1] at hv1
    rw [hx2] at hv2
    obtain ⟨r, val, h1, h2, h3⟩ := maxX_sound (P := P) (big := true) e hv1 hv2 ats #[] o.type
    simp only [if_true] at h2
    exact same (v := val) (x := .c r) (by simp [execOp, ho, resolve, invoke, builtin, h2]) h3 h1
  · rename_i args ats ho
    split at e
    case h_2 => cases e
    rename_i x1 x2 hargs
    obtain ⟨o1, o2, rfl, hx1, hx2⟩ := toList_two hargs
    have hv1 := h.ev o1
    have hv2 := h.ev o2
    rw [hx1] at hv1
    rw [hx2] at hv2
    obtain ⟨r, val, h1, h2, h3⟩ := maxX_sound (P := P) (big := false) e hv1 hv2 ats #[] o.type
    simp only [Bool.false_eq_true, if_false] at h2
    exact same (v := val) (x := .c r) (by simp [execOp, ho, resolve, invoke, builtin, h2]) h3 h1
  · cases e
end
end Go.Fw
end

section
namespace Go.Fw
def alive (l : List BP) (i : Nat) : Bool :=
  match l[i]? with
  | some .gone => false
  | some _ => true
  | none => false
def AP.okOut (l : List BP) : AP → Bool
  | .sl s _ => s
  | .prow _ => false
  | .refp _ _ => false
  | .rfn _ _ => false
  | .ref i => alive l i
  | .ptr i _ => alive l i
  | .fn _ caps => caps.all (alive l)
  | _ => true
def XP.okOut (l : List BP) : XP → Bool
  | .c p => p.okOut l
  | .agg q => q.all (AP.okOut l)
  | .tup q => q.all fun | .inl p => p.okOut l | .inr q => q.all (AP.okOut l)
  | .row _ => false
def BP.okOut (l : List BP) : BP → Bool
  | .mem q => q.all (AP.okOut l)
  | _ => true
def kinds : List BP → List BP → Bool
  | [], _ => true
  | .mem _ :: l, .mem _ :: m => kinds l m
  | .sl _ r :: l, .sl _ q :: m => decide (r = q) && kinds l m
  | .mem _ :: l, .gone :: m => kinds l m
  | .sl _ _ :: l, .gone :: m => kinds l m
  | _, _ => false
def slotOk (l : List BP) : List (Nat × XP) → Bool
  | [(0, p)] => p.okOut l
  | _ => false
def Con.ok (c : Con) : Bool :=
  kinds c.ins.bxs c.outs.bxs && slotOk c.outs.bxs c.outs.slots && c.outs.bxs.all (BP.okOut c.outs.bxs)
theorem kinds_spec : ∀ {l m : List BP}, kinds l m = true → l.length ≤ m.length ∧ ∀ (i : Nat) p, l[i]? = some p → p ≠ .gone ∧ ∀ d r, m[i]? = some (.sl d r) → ∃ d', p = .sl d' r
  | [], m, _ => ⟨by simp, fun i p h => by simp at h⟩
  | .gone :: l, [], h => by simp [kinds] at h
  | .gone :: l, _ :: _, h => by simp [kinds] at h
  | .mem _ :: l, [], h => by simp [kinds] at h
  | .sl _ _ :: l, [], h => by simp [kinds] at h
  | .mem q :: l, .mem _ :: m, h => by
    obtain ⟨h1, h2⟩ := kinds_spec (l := l) (m := m) (by simpa [kinds] using h)
    refine ⟨by simpa using h1, fun i p hp => ?_⟩
    cases i with
    | zero => simp at hp; subst hp; exact ⟨by simp, fun d r hh => by simp at hh⟩
    | succ i => simpa using h2 i p (by simpa using hp)
  | .mem q :: l, .gone :: m, h => by
    obtain ⟨h1, h2⟩ := kinds_spec (l := l) (m := m) (by simpa [kinds] using h)
    refine ⟨by simpa using h1, fun i p hp => ?_⟩
    cases i with
    | zero => simp at hp; subst hp; exact ⟨by simp, fun d r hh => by simp at hh⟩
    | succ i => simpa using h2 i p (by simpa using hp)
  | .mem q :: l, .sl _ _ :: m, h => by simp [kinds] at h
  | .sl d0 r0 :: l, .sl _ q :: m, h => by
    simp only [kinds, Bool.and_eq_true, decide_eq_true_eq] at h
    obtain ⟨h1, h2⟩ := kinds_spec (l := l) (m := m) h.2
    refine ⟨by simpa using h1, fun i p hp => ?_⟩
    cases i with
    | zero => simp at hp; subst hp; exact ⟨by simp, fun d r hh => by simp at hh; exact ⟨d0, by rw [h.1, hh.2]⟩⟩
    | succ i => simpa using h2 i p (by simpa using hp)
  | .sl d0 r0 :: l, .gone :: m, h => by
    obtain ⟨h1, h2⟩ := kinds_spec (l := l) (m := m) (by simpa [kinds] using h)
    refine ⟨by simpa using h1, fun i p hp => ?_⟩
    cases i with
    | zero => simp at hp; subst hp; exact ⟨by simp, fun d r hh => by simp at hh⟩
    | succ i => simpa using h2 i p (by simpa using hp)
  | .sl _ _ :: l, .mem _ :: m, h => by simp [kinds] at h
def SoundC (P : Program) (f : Nat) (c : Con) : Prop :=
  c.ok = true ∧ (∀ args w, (callFunc f args).run P w = .ok (.enter f args) w) ∧
  ∀ (E : Env) (w : World) (v : c.ins.V) (args : Array Value) (u : c.outs.V), args.size = c.ins.slots.length →
    Boxes E w (BPs.mk id c.ins.bxs v.2) (BPs.mk id c.ins.bxs v.2) [] → SlotsR E w (BPs.mk id c.ins.bxs v.2) id c.ins.slots v.1 args.toList → c.g v = some u →
    Calls P f args w fun e w' => ∃ x E', e = .returned x ∧ Base E w E' w' ∧ Boxes E' w' (BPs.mk id c.outs.bxs u.2) (BPs.mk id c.outs.bxs u.2) [] ∧
      SlotsR E' w' (BPs.mk id c.outs.bxs u.2) id c.outs.slots u.1 [x] ∧ ∀ i, i < c.ins.bxs.length → alive c.outs.bxs i = true → E'.blk i = E.blk i ∧ E'.hdr i = E.hdr i
theorem scrubsAV_nil : ∀ x : AV, scrubsAV [] x = x
  | .ref b (s :: p) => by simp [scrubsAV]
  | .ref b [] => rfl
  | .win b (s :: p) i n => by simp [scrubsAV]
  | .win b [] i n => rfl
  | .saddr b (s :: p) i sz j => by simp [scrubsAV]
  | .saddr b [] i sz j => rfl
  | .v _ _ => rfl
  | .sl _ _ _ => rfl
  | .nil => rfl
  | .maddr _ _ => rfl
  | .raddr _ _ _ _ => rfl
  | .fn _ _ => rfl
  | .rfn _ _ => rfl
  | .nilp => rfl
  | .undef => rfl
theorem scrubsAV_nil' : scrubsAV [] = id := funext scrubsAV_nil
theorem scrubsXV_nil : ∀ x : XV, scrubsXV [] x = x
  | .c x => by simp [scrubsXV, scrubsAV_nil]
  | .agg l => by simp [scrubsXV, scrubsAV_nil']
  | .tup l => by
    simp only [scrubsXV, scrubsAV_nil']
    congr 1
    conv => rhs; rw [← List.map_id l]
    apply List.map_congr_left
    intro x _
    cases x with
    | inl x => simp
    | inr q => simp
theorem scrubs_tm (m : Asg) (σ : St) : (σ.scrubs m).tm = σ.tm.map (scrubsXV m) := by
  cases m with
  | nil =>
    simp only [St.scrubs]
    have : scrubsXV [] = id := funext scrubsXV_nil
    rw [this, List.map_id]
  | cons _ _ => rfl
theorem scrubs_bx (m : Asg) (σ : St) : (σ.scrubs m).bx = σ.bx.map (Bx.map (scrubsAV m)) := by
  cases m with
  | nil => simp only [St.scrubs]; rw [scrubsAV_nil', map_id_bx]
  | cons _ _ =>
    simp only [St.scrubs]
    apply List.map_congr_left
    intro B _
    cases B <;> rfl
theorem killAll_map (f : AV → AV) : ∀ (m : Asg) (bx : List Bx), killAll (bx.map (Bx.map f)) m = (killAll bx m).map (Bx.map f)
  | [], _ => rfl
  | none :: m, bx => by simp only [killAll]; exact killAll_map f m bx
  | some b :: m, bx => by
    simp only [killAll]
    rw [← killAll_map f m (bx.set b .dead), List.map_set]
    rfl
theorem killAll_not : ∀ {m : Asg} {bx : List Bx} {b : Nat}, some b ∉ m → (killAll bx m)[b]? = bx[b]?
  | [], _, _, _ => rfl
  | none :: m, bx, b, h => by simp only [killAll]; exact killAll_not (by simpa using h)
  | some c :: m, bx, b, h => by
    simp only [killAll]
    rw [killAll_not (by simp at h; exact h.2), List.getElem?_set_ne (by simp at h; omega)]
theorem VR_scrubs {E E' : Env} {w w' : World} {vw vw' : List Bx} {m : Asg} (k : Keep E w vw E' w' (killAll vw' m))
    (hb : ∀ b d' r rows', some b ∈ m → vw'[b]? = some (.sl d' r rows') → ∃ d rows, vw[b]? = some (.sl d r rows) ∧ List.length rows' = List.length rows ∧ E'.hdr b = E.hdr b) (hlen : vw.length ≤ vw'.length) {x : AV} {v : Value} (h : VR E w vw x v) : VR E' w' vw' (scrubsAV m x) v := by
  have h1 := VR_keep k h
  have oth : ∀ {b'}, some b' ∉ m → (killAll vw' m)[b']? = vw'[b']? := fun e => killAll_not e
  have get : ∀ {b'}, b' < vw.length → ∃ B, vw'[b']? = some B := fun hl => ⟨_, List.getElem?_eq_getElem (by omega)⟩
  cases x with
  | v t x => exact h1
  | sl s r x => exact h1
  | nil => exact h1
  | maddr c j => exact ⟨by simpa [killAll_len] using h1.1, h1.2⟩
  | raddr s r x j => exact h1
  | fn f caps => exact ⟨fun c hc => by simpa [killAll_len] using h1.1 c hc, h1.2⟩
  | rfn f rows => exact h1
  | nilp => exact h1
  | undef => trivial
  | ref c p =>
    have other : some c ∉ m → VR E' w' vw' (.ref c p) v := fun e => by
      simp only [VR, oth e] at h1 ⊢; exact h1
    cases p with
    | nil =>
      simp only [scrubsAV]
      by_cases e : some c ∈ m
      · simp only [VR] at h ⊢
        obtain ⟨h0, h⟩ := h
        refine ⟨h0, ?_⟩
        cases hc : vw[c]? with
        | none => rw [hc] at h; exact h.elim
        | some B =>
          obtain ⟨B', hB'⟩ := get (List.getElem?_eq_some_iff.1 hc).1
          rw [hB']
          cases B' with
          | mem cs => trivial
          | dead => trivial
          | sl d' r rows' =>
            obtain ⟨d, rows, e1, e2, e3⟩ := hb c d' r rows' e hB'
            rw [e1] at h
            refine ⟨by simp [PathOk], ⟨_, rfl⟩, ?_⟩
            have := h.2.2
            rw [hdrAt_here] at this ⊢
            rw [e3]; exact this
      · exact other e
    | cons s p =>
      simp only [scrubsAV]
      split
      · trivial
      · rename_i e
        exact other (by simpa using e)
  | win c p off n =>
    have other : some c ∉ m → VR E' w' vw' (.win c p off n) v := fun e => by
      simp only [VR, oth e] at h1 ⊢; exact h1
    cases p with
    | nil =>
      simp only [scrubsAV]
      by_cases e : some c ∈ m
      · simp only [VR] at h ⊢
        obtain ⟨h0, h⟩ := h
        refine ⟨h0, ?_⟩
        cases hc : vw[c]? with
        | none => rw [hc] at h; exact h.elim
        | some B =>
          obtain ⟨B', hB'⟩ := get (List.getElem?_eq_some_iff.1 hc).1
          rw [hB']
          cases B' with
          | mem cs => trivial
          | dead => trivial
          | sl d' r rows' =>
            obtain ⟨d, rows, e1, e2, e3⟩ := hb c d' r rows' e hB'
            rw [e1] at h
            obtain ⟨_, q, ys, a, len, cap, g1, g2, g3, g4⟩ := h
            simp only [getP, Option.some.injEq, Sigma.mk.injEq] at g1
            obtain ⟨rfl, g1⟩ := g1
            obtain rfl := eq_of_heq g1
            rw [hdrAt_here] at g3
            exact ⟨by simp [PathOk], r, rows', a, len, cap, rfl, by rw [e2]; exact g2, by rw [hdrAt_here, e3]; exact g3, g4⟩
      · exact other e
    | cons s p =>
      simp only [scrubsAV]
      split
      · trivial
      · rename_i e
        exact other (by simpa using e)
  | saddr c p i sz j =>
    have other : some c ∉ m → VR E' w' vw' (.saddr c p i sz j) v := fun e => by
      simp only [VR, oth e] at h1 ⊢; exact h1
    cases p with
    | nil =>
      simp only [scrubsAV]
      by_cases e : some c ∈ m
      · simp only [VR] at h ⊢
        obtain ⟨h0, h⟩ := h
        refine ⟨h0, ?_⟩
        cases hc : vw[c]? with
        | none => rw [hc] at h; exact h.elim
        | some B =>
          obtain ⟨B', hB'⟩ := get (List.getElem?_eq_some_iff.1 hc).1
          rw [hB']
          cases B' with
          | mem cs => trivial
          | dead => trivial
          | sl d' r rows' =>
            obtain ⟨d, rows, e1, e2, e3⟩ := hb c d' r rows' e hB'
            rw [e1] at h
            obtain ⟨_, q, ys, bb, o, len, cap, g1, g2, g3, g4⟩ := h
            simp only [getP, Option.some.injEq, Sigma.mk.injEq] at g1
            obtain ⟨rfl, g1⟩ := g1
            obtain rfl := eq_of_heq g1
            rw [hdrAt_here] at g3
            exact ⟨by simp [PathOk], r, rows', bb, o, len, cap, rfl, by rw [e2]; exact g2, by rw [hdrAt_here, e3]; exact g3, g4⟩
      · exact other e
    | cons s p =>
      simp only [scrubsAV]
      split
      · trivial
      · rename_i e
        exact other (by simpa using e)
theorem XR_scrubs {E E' : Env} {w w' : World} {vw vw' : List Bx} {m : Asg} (k : ∀ x v, VR E w vw x v → VR E' w' vw' (scrubsAV m x) v) {x : XV} {v : Value} (h : XR E w vw x v) : XR E' w' vw' (scrubsXV m x) v := by
  cases x with
  | c x => exact k x v h
  | agg l =>
    obtain ⟨vs, rfl, hvs⟩ := h
    exact ⟨vs, rfl, All2.map_left _ k hvs⟩
  | tup l =>
    obtain ⟨vs, rfl, hvs⟩ := h
    refine ⟨vs, rfl, All2.map_left _ (fun x v hx => ?_) hvs⟩
    cases x with
    | inl x => exact k x v hx
    | inr q =>
      obtain ⟨us, rfl, hus⟩ := hx
      exact ⟨us, rfl, All2.map_left _ k hus⟩
def putBoxes (ren : Nat → Nat) : Nat → List Bx → List Bx → List Bx
  | _, [], bx => bx
  | i, B :: l, bx => putBoxes ren (i + 1) l (if ren i < bx.length then bx.set (ren i) B else bx ++ [B])
theorem setBoxes_eq (ren : Nat → Nat) : ∀ (i : Nat) (l : List BP) (x : BPs.V l) (bx : List Bx), setBoxes ren i l x bx = putBoxes ren i (BPs.mk ren l x) bx
  | _, [], _, _ => rfl
  | i, p :: l, x, bx => by simp only [setBoxes, BPs.mk, putBoxes]; exact setBoxes_eq ren (i + 1) l x.2 _
structure RenOk (ren : Nat → Nat) (M N : Nat) : Prop where
  lt : ∀ k, k < M → ren k < N
  eq : ∀ k, M ≤ k → ren k = N + (k - M)
  inj : ∀ k k', k < M → k' < M → ren k = ren k' → k = k'
theorem RenOk.inj' {ren : Nat → Nat} {M N : Nat} (h : RenOk ren M N) {k k' : Nat} (e : ren k = ren k') : k = k' := by
  by_cases h1 : k < M
  · by_cases h2 : k' < M
    · exact h.inj k k' h1 h2 e
    · have := h.lt k h1
      have := h.eq k' (by omega)
      omega
  · by_cases h2 : k' < M
    · have := h.lt k' h2
      have := h.eq k (by omega)
      omega
    · have := h.eq k (by omega)
      have := h.eq k' (by omega)
      omega
theorem putBoxes_spec {ren : Nat → Nat} {M N : Nat} (h : RenOk ren M N) : ∀ {l : List Bx} {i : Nat} {bx : List Bx}, bx.length = N + (i - M) →
    (putBoxes ren i l bx).length = N + (i + l.length - M) ∧ (∀ (j : Nat) B, l[j]? = some B → (putBoxes ren i l bx)[ren (i + j)]? = some B) ∧
      ∀ n, n < bx.length → (∀ j, j < l.length → ren (i + j) ≠ n) → (putBoxes ren i l bx)[n]? = bx[n]?
  | [], i, bx, hl => ⟨by simpa [putBoxes] using hl, fun j B hj => by simp at hj, fun _ _ _ => rfl⟩
  | B :: l, i, bx, hl => by
    simp only [putBoxes]
    have hnext : (if ren i < bx.length then bx.set (ren i) B else bx ++ [B]).length = N + (i + 1 - M) := by
      split
      · rename_i hlt
        by_cases hi : i < M
        · simp; omega
        · have := h.eq i (by omega); omega
      · rename_i hlt
        by_cases hi : i < M
        · have := h.lt i hi; omega
        · simp; omega
    have hcell : (if ren i < bx.length then bx.set (ren i) B else bx ++ [B])[ren i]? = some B := by
      split
      · rename_i hlt; rw [List.getElem?_set_self hlt]
      · rename_i hlt
        by_cases hi : i < M
        · have := h.lt i hi; omega
        · have := h.eq i (by omega)
          rw [List.getElem?_append_right (by omega), show ren i - bx.length = 0 by omega]; rfl
    obtain ⟨q1, q2, q3⟩ := putBoxes_spec h (l := l) hnext
    refine ⟨by rw [q1]; simp; omega, fun j C hj => ?_, fun n hn hne => ?_⟩
    · cases j with
      | zero =>
        simp at hj; subst hj
        exact (q3 (ren i) (List.getElem?_eq_some_iff.1 hcell).1 (fun j hj e => by have := h.inj' e; omega)).trans hcell
      | succ j =>
        have := q2 j C (by simpa using hj)
        rwa [show i + 1 + j = i + (j + 1) by omega] at this
    · have hne0 := hne 0 (by simp)
      rw [Nat.add_zero] at hne0
      rw [q3 n (by split <;> simp <;> omega) (fun j hj => by have := hne (j + 1) (by simp; omega); rwa [show i + (j + 1) = i + 1 + j by omega] at this)]
      split
      · rw [List.getElem?_set_ne hne0]
      · rw [List.getElem?_append_left hn]
theorem putBoxes_boxes {ren : Nat → Nat} {M N : Nat} (h : RenOk ren M N) {E : Env} {w : World} {vw : List Bx} : ∀ {l : List Bx} {i : Nat} {bx : List Bx} {Fs : List (List Nat)}, bx.length = N + (i - M) → (∀ k, i ≤ k → k < M → bx[ren k]? = some .dead) →
    Fs.length = l.length → (∀ (j : Nat) B F, l[j]? = some B → Fs[j]? = some F → BoxR E w vw (ren (i + j)) B F) → Boxes E w vw bx Fs.flatten → Boxes E w vw (putBoxes ren i l bx) []
  | [], i, bx, Fs, hl, hd, hF, hB, hbx => by
    have : Fs = [] := List.eq_nil_of_length_eq_zero hF
    subst this
    simpa [putBoxes] using hbx
  | B :: l, i, bx, F :: Fs, hl, hd, hF, hB, hbx => by
    simp only [putBoxes]
    have hBi := hB 0 B F rfl rfl
    rw [Nat.add_zero] at hBi
    have next : ∀ {bx'}, bx'.length = N + (i + 1 - M) → (∀ k, i + 1 ≤ k → k < M → bx'[ren k]? = some .dead) → Boxes E w vw bx' Fs.flatten → Boxes E w vw (putBoxes ren (i + 1) l bx') [] := by
      intro bx' h1 h2 h3
      refine putBoxes_boxes h h1 h2 (by simpa using hF) (fun j C G hC hG => ?_) h3
      have := hB (j + 1) C G (by simpa using hC) (by simpa using hG)
      rwa [show i + (j + 1) = i + 1 + j by omega] at this
    rw [List.flatten_cons] at hbx
    by_cases hi : i < M
    · have hlt := h.lt i hi
      rw [if_pos (by omega)]
      refine next (by simp; omega) (fun k hk1 hk2 => ?_) (hbx.put (hd i (Nat.le_refl _) hi) hBi)
      rw [List.getElem?_set_ne (fun e => by have := h.inj' e; omega)]
      exact hd k (by omega) hk2
    · have heq := h.eq i (by omega)
      rw [if_neg (by omega)]
      have e1 : ren i = bx.length := by omega
      rw [e1] at hBi
      exact next (by simp; omega) (fun k hk1 hk2 => by omega) (hbx.push hBi)
  | _ :: _, _, _, [], _, _, hF, _, _ => by simp at hF
structure Renamed (E' E2 : Env) (l : List BP) (u : BPs.V l) (vw2 : List Bx) (ren : Nat → Nat) : Prop where
  ids : ∀ i, alive l i = true → E2.blk (ren i) = E'.blk i ∧ E2.hdr (ren i) = E'.hdr i
  bx : ∀ (i : Nat) p, l[i]? = some p → ∃ y, (BPs.mk id l u)[i]? = some (p.mk id y) ∧ vw2[ren i]? = some (p.mk ren y)
  S : E2.S = E'.S
theorem BPs_mk_get (ren : Nat → Nat) : ∀ {l : List BP} {u : BPs.V l} {i : Nat} {p : BP}, l[i]? = some p → ∃ y : p.V, (BPs.mk id l u)[i]? = some (p.mk id y) ∧ (BPs.mk ren l u)[i]? = some (p.mk ren y)
  | q :: l, u, 0, p, h => by
    simp at h; subst h
    exact ⟨u.1, rfl, rfl⟩
  | q :: l, u, i + 1, p, h => by
    obtain ⟨y, h1, h2⟩ := BPs_mk_get ren (u := u.2) (i := i) (by simpa using h)
    exact ⟨y, by simpa [BPs.mk] using h1, by simpa [BPs.mk] using h2⟩
  | [], _, _, _, h => by simp at h
theorem BPs_mk_len (ren : Nat → Nat) : ∀ {l : List BP} {u : BPs.V l}, (BPs.mk ren l u).length = l.length
  | [], _ => rfl
  | _ :: l, u => by simp [BPs.mk, BPs_mk_len ren (l := l)]
section
variable {E' E2 : Env} {w : World} {l : List BP} {u : BPs.V l} {vw2 : List Bx} {ren : Nat → Nat} (r : Renamed E' E2 l u vw2 ren)
include r
omit r in
theorem alive_get {i : Nat} (h : alive l i = true) : ∃ p, l[i]? = some p ∧ p ≠ .gone := by
  unfold alive at h
  cases e : l[i]? with
  | none => rw [e] at h; cases h
  | some p =>
    refine ⟨p, rfl, fun hp => ?_⟩
    rw [e, hp] at h
    cases h
theorem AP_ren {p : AP} {y : p.V} {v : Value} (hok : p.okOut l = true) (h : VR E' w (BPs.mk id l u) (p.mk id y) v) : VR E2 w vw2 (p.mk ren y) v := by
  cases p with
  | v t => exact h
  | sl s q =>
    simp only [AP.okOut] at hok
    subst hok
    simp only [AP.mk, VR, if_true] at h ⊢
    rw [r.S]; exact h
  | nil => exact h
  | ref i =>
    simp only [AP.okOut] at hok
    obtain ⟨p, hp, hg⟩ := alive_get hok
    obtain ⟨z, z1, z2⟩ := r.bx i p hp
    have hid := (r.ids i hok).2
    simp only [AP.mk, VR, id] at h ⊢
    refine ⟨h.1, ?_⟩
    have h2 := h.2
    rw [z1] at h2
    rw [z2]
    cases p with
    | mem q => trivial
    | gone => exact absurd rfl hg
    | sl d q =>
      simp only [BP.mk] at h2 ⊢
      refine ⟨h2.1, h2.2.1, ?_⟩
      rw [hid]; exact h2.2.2
  | ptr i j =>
    simp only [AP.okOut] at hok
    obtain ⟨p, hp, hg⟩ := alive_get hok
    obtain ⟨z, z1, z2⟩ := r.bx i p hp
    refine ⟨(List.getElem?_eq_some_iff.1 z2).1, ?_⟩
    rw [(r.ids i hok).1]
    exact h.2
  | prow q => simp [AP.okOut] at hok
  | refp i sz => simp [AP.okOut] at hok
  | rfn f rs => simp [AP.okOut] at hok
  | fn f caps =>
    simp only [AP.okOut, List.all_eq_true] at hok
    obtain ⟨h1, h2⟩ := h
    refine ⟨fun b hb => ?_, ?_⟩
    · obtain ⟨i, hi, rfl⟩ := List.mem_map.1 hb
      obtain ⟨p, hp, _⟩ := alive_get (hok i hi)
      obtain ⟨z, _, z2⟩ := r.bx i p hp
      exact (List.getElem?_eq_some_iff.1 z2).1
    · rw [h2, List.map_map]
      congr 2
      rw [List.map_map]
      apply List.map_congr_left
      intro i hi
      simp only [Function.comp, id, (r.ids i (hok i hi)).1]
  | any => trivial
theorem APs_ren : ∀ {q : List AP} {y : APs.V q} {vs : List Value}, q.all (AP.okOut l) = true → VRs E' w (BPs.mk id l u) (APs.mk id q y) vs → VRs E2 w vw2 (APs.mk ren q y) vs
  | [], _, [], _, _ => trivial
  | [], _, _ :: _, _, h => h.elim
  | p :: q, y, [], _, h => h.elim
  | p :: q, y, v :: vs, hok, h => by
    simp only [List.all_cons, Bool.and_eq_true] at hok
    exact ⟨AP_ren r hok.1 h.1, APs_ren hok.2 h.2⟩
theorem TPs_ren : ∀ {q : List (AP ⊕ List AP)} {y : TPs.V q} {vs : List Value}, (q.all fun | .inl p => p.okOut l | .inr q => q.all (AP.okOut l)) = true → All2 (TR E' w (BPs.mk id l u)) (TPs.mk id q y) vs → All2 (TR E2 w vw2) (TPs.mk ren q y) vs
  | [], _, [], _, _ => trivial
  | [], _, _ :: _, _, h => h.elim
  | .inl p :: q, y, [], _, h => h.elim
  | .inr p :: q, y, [], _, h => h.elim
  | .inl p :: q, y, v :: vs, hok, h => by
    simp only [List.all_cons, Bool.and_eq_true] at hok
    exact ⟨AP_ren r hok.1 h.1, TPs_ren hok.2 h.2⟩
  | .inr p :: q, y, v :: vs, hok, h => by
    simp only [List.all_cons, Bool.and_eq_true] at hok
    obtain ⟨us, e, hus⟩ := h.1
    exact ⟨⟨us, e, APs_ren r hok.1 hus⟩, TPs_ren hok.2 h.2⟩
theorem XP_ren {p : XP} {y : p.V} {v : Value} (hok : p.okOut l = true) (h : XR E' w (BPs.mk id l u) (p.mk id y) v) : XR E2 w vw2 (p.mk ren y) v := by
  cases p with
  | c p => exact AP_ren r hok h
  | agg q =>
    obtain ⟨vs, e, hvs⟩ := h
    exact ⟨vs, e, APs_ren r hok hvs⟩
  | row q => simp [XP.okOut] at hok
  | tup q =>
    obtain ⟨vs, e, hvs⟩ := h
    exact ⟨vs, e, TPs_ren r hok hvs⟩
theorem BP_ren {i : Nat} {p : BP} {y : p.V} {F : List Nat} (hi : l[i]? = some p) (hok : p.okOut l = true) (h : BoxR E' w (BPs.mk id l u) i (p.mk id y) F) : BoxR E2 w vw2 (ren i) (p.mk ren y) F := by
  cases p with
  | mem q =>
    obtain ⟨h1, arr, ty, fr, h2, h3, h4⟩ := h
    have hid := (r.ids i (by simp [alive, hi])).1
    exact ⟨by rw [hid]; exact h1, arr, ty, fr, by rw [hid]; exact h2, h3, APs_ren r hok h4⟩
  | sl d q =>
    obtain ⟨h1, h2⟩ := h
    refine ⟨h1, ?_⟩
    rw [(r.ids i (by simp [alive, hi])).2, r.S]
    exact h2
  | gone => exact h
end
end Go.Fw
end

section
namespace Go.Fw
theorem fit_get {s : Shp} {N : Nat} {m0 m : Asg} {tm : List XV} {bx : List Bx} {x : s.V} (e : s.fit N m0 tm bx = some (x, m)) : ∀ (k : Nat) p, s.bxs[k]? = some p → p ≠ .gone → ∃ b B, m[k]? = some (some b) ∧ bx[b]? = some B ∧ B ≠ .dead ∧
    ∀ d r, p = .sl d r → ∃ d' rows, B = .sl d' r rows := by
  simp only [Shp.fit, Option.bind_eq_some_iff, Option.map_eq_some_iff] at e
  obtain ⟨m1, e1, m2, e2, a, e3, c, e4, e5⟩ := e
  cases e5
  obtain ⟨q1, q2⟩ := BPs_get_spec (ren := id) e4
  intro k p hp hg
  obtain ⟨y, _, h⟩ := q2 k p hp
  cases p with
  | gone => exact absurd rfl hg
  | mem q =>
    obtain ⟨b, cs, h1, h2, _⟩ := h
    exact ⟨b, _, h1, h2, by simp, fun d r hh => by cases hh⟩
  | sl d r =>
    obtain ⟨b, d', h1, h2, _⟩ := h
    exact ⟨b, _, h1, h2, by simp, fun d r hh => by cases hh; exact ⟨d', y, rfl⟩⟩
theorem inj_none (n : Nat) : Inj (List.replicate n none) := fun i j b h => by
  simp [List.getElem?_replicate] at h
theorem Rd_hdr_len {w : World} {B B' : Nat → Prop} {w' : World} {r : Ty} {v : Value} {x y : List r.D} (h : Rd w B (.sl r) [v] x) (h' : Rd w' B' (.sl r) [v] y) : y.length = x.length := by
  simp only [Rd] at h h'
  obtain ⟨_, _, e, _⟩ := h
  obtain ⟨_, _, e', _⟩ := h'
  rw [e] at e'
  simp only [List.cons.injEq, Value.slice.injEq, and_true] at e'
  exact e'.2.1.symm
section
variable {Y : Type} {P : Program} {E : Env} {σ : St} {a : Act} {w : World} {k : K Y} {y : Y}
theorem firstSlot_ren {E' E2 : Env} {l : List BP} {u : BPs.V l} {vw2 : List Bx} {ren : Nat → Nat} (r : Renamed E' E2 l u vw2 ren) : ∀ {sl : List (Nat × XP)} {z : Slots.V sl} {x : Value},
    slotOk l sl = true → SlotsR E' w (BPs.mk id l u) id sl z [x] → XR E2 w vw2 (firstSlot sl z ren) x
  | [(0, p)], z, x, hok, h => by
    obtain ⟨⟨v, hv, hx⟩, _⟩ := h
    simp at hv
    subst hv
    exact XP_ren r hok hx
  | [], _, _, hok, _ => by simp [slotOk] at hok
  | (_ + 1, _) :: _, _, _, hok, _ => by simp [slotOk] at hok
  | (0, _) :: _ :: _, _, _, hok, _ => by simp [slotOk] at hok
def callTouch (c : Con) (xs : List XV) (σ : St) : List Nat :=
  match c.ins.fit σ.bx.length c.ins.m0 xs (c.ins.opens σ.bx) with
  | some (_, m) => m.filterMap id
  | none => []
theorem opens_rel (h : Rel E σ a w) (s : Shp) : ∃ E', Rel E' { σ with bx := s.opens σ.bx } a w ∧ Went [] E σ.bx w E' (s.opens σ.bx) w ∧ (∀ (i : Nat) d r, s.bxs[i]? = some (.sl d r) → E'.hdr (σ.bx.length + i) = .slice none 0 0) ∧
    (∀ x v, XR E w σ.bx x v → XR E' w (s.opens σ.bx) x v) := by
  let E' : Env := { E with hdr := fun k => if k < σ.bx.length then E.hdr k else .slice none 0 0 }
  have hlen : σ.bx.length ≤ (s.opens σ.bx).length := by simp [Shp.opens]
  have hold : ∀ b, b < σ.bx.length → (s.opens σ.bx)[b]? = σ.bx[b]? := fun b hb => by simp only [Shp.opens]; rw [List.getElem?_append_left hb]
  have hhdr : ∀ b, b < σ.bx.length → E'.hdr b = E.hdr b := fun b hb => by simp only [E']; rw [if_pos hb]
  have keep : Keep E w σ.bx E' w (s.opens σ.bx) :=
    ⟨hlen, fun _ _ => rfl, fun _ h => h, fun _ h => h, h.bx.st, fun _ _ => rfl, fun b d r rows hb e => ⟨d, rows, by rw [← hold b hb]; exact e, fun p hp q ys hg => ⟨hp, ⟨ys, hg, rfl⟩, fun hh he => by rw [hhdr b hb]; exact he⟩⟩⟩
  obtain ⟨Fs, ⟨f1, f2⟩, f3⟩ := h.bx
  refine ⟨E', ⟨h.nodefer, h.tm.imp fun _ _ hx => XR_keep keep hx, ?_⟩, ?_, fun i d r hi => by simp only [E']; rw [if_neg (by omega)], fun x v hx => XR_keep keep hx⟩
  · refine ⟨Fs ++ List.replicate s.bxs.length [], ⟨by simp [Shp.opens, f1], fun n B F hB hF => ?_⟩, ?_⟩
    · by_cases hn : n < σ.bx.length
      · rw [hold n hn] at hB
        rw [List.getElem?_append_left (by omega)] at hF
        have := f2 n B F hB hF
        cases B with
        | mem cs =>
          obtain ⟨rfl, arr, ty, fr, a1, a2, a3⟩ := this
          exact ⟨rfl, arr, ty, fr, a1, a2, a3.imp fun _ _ hv => VR_keep keep hv⟩
        | sl d r rows => exact ⟨this.1, by rw [hhdr n hn]; exact this.2⟩
        | dead => exact this
      · rw [List.getElem?_append_right (by omega)] at hF
        have hF' : F = [] := List.eq_of_mem_replicate (List.mem_of_getElem? hF)
        subst hF'
        simp only [Shp.opens] at hB
        rw [List.getElem?_append_right (by omega), List.getElem?_map, Option.map_eq_some_iff] at hB
        obtain ⟨p, _, rfl⟩ := hB
        have hh : E'.hdr n = .slice none 0 0 := by simp only [E']; rw [if_neg hn]
        cases p with
        | mem q => rfl
        | gone => rfl
        | sl d r => exact ⟨by omega, by rw [hh]; exact Ow_nil⟩
    · have : (Fs ++ List.replicate s.bxs.length []).flatten = Fs.flatten := by simp
      rw [this]
      exact ⟨f3.nodup, f3.free, f3.lt, f3.st, f3.tlt⟩
  · refine ⟨⟨fun _ h => h, fun _ h => h, fun _ h => .inl h, fun _ h => .inl h, fun _ _ => rfl, rfl, rfl, rfl, Nat.le_refl _⟩, hlen, fun b hb => ⟨rfl, hhdr b hb⟩, fun b hb => ?_, fun n B B' _ hB hB' hd => ?_⟩
    · rw [hold b (List.getElem?_eq_some_iff.1 hb).1]; exact hb
    · rw [hold n (List.getElem?_eq_some_iff.1 hB).1, hB] at hB'
      cases hB'
      exact ⟨SameBx.refl hd, fun _ _ => rfl⟩
theorem Went.after {t : List Nat} {E E' E'' : Env} {bx bx' bx'' : List Bx} {w w' : World} (h : Went [] E bx w E' bx' w) (hb : ∀ b, b < bx.length → bx'[b]? = bx[b]?) (k : Went t E' bx' w E'' bx'' w') : Went t E bx w E'' bx'' w' :=
  ⟨h.base.trans k.base, Nat.le_trans h.len k.len, fun b hlt => ⟨(k.ids b (Nat.lt_of_lt_of_le hlt h.len)).1.trans (h.ids b hlt).1, (k.ids b (Nat.lt_of_lt_of_le hlt h.len)).2.trans (h.ids b hlt).2⟩, fun b hd => k.dead b (h.dead b hd), fun n B B' hn hB hB' hd => by
    have hlt := (List.getElem?_eq_some_iff.1 hB).1
    obtain ⟨k1, k2⟩ := k.frame n B B' hn (by rw [hb n hlt]; exact hB) hB' hd
    refine ⟨k1, fun c hc => k2 c ?_⟩
    cases B with
    | mem cs => simp only [BRB] at hc ⊢; rw [(h.ids n hlt).1]; exact hc
    | sl d r rows => simp only [BRB] at hc ⊢; rw [(h.ids n hlt).2]; exact hc
    | dead => exact hc⟩
def callO (c : Con) (N : Nat) (xs : List XV) (σ : St) (k : K Y) : Option Y :=
  match c.ins.fit N c.ins.m0 xs σ.bx with
  | some (v, m) => (c.g v).bind fun u =>
      let ren := renOf m σ.bx.length
      let σ1 := σ.scrubs m
      k (firstSlot c.outs.slots u.1 ren) { σ1 with bx := setBoxes ren 0 c.outs.bxs u.2 (killAll σ1.bx m) }
  | none => none
def touchO (c : Con) (N : Nat) (xs : List XV) (σ : St) : List Nat :=
  match c.ins.fit N c.ins.m0 xs σ.bx with
  | some (_, m) => m.filterMap id
  | none => []
theorem call_done0 {f : Nat} {c : Con} (hc : SoundC P f c) (h : Rel E σ a w) {N0 : Nat} (hnil : ∀ (i : Nat) d r, c.ins.bxs[i]? = some (.sl d r) → E.hdr (N0 + i) = .slice none 0 0) {xs : List XV} {vs : List Value} (hxs : All2 (XR E w σ.bx) xs vs) (hlen : xs.length = c.ins.slots.length) (e : callO c N0 xs σ k = some y) :
    Calls P f vs.toArray w fun e w' => ∃ x E' xv σ', e = .returned x ∧ Rel E' σ' a w' ∧ XR E' w' σ'.bx xv x ∧ Went (touchO c N0 xs σ) E σ.bx w E' σ'.bx w' ∧ σ'.tm.length = σ.tm.length ∧ k xv σ' = some y := by
  obtain ⟨hok, _, hcall⟩ := hc
  simp only [Con.ok, Bool.and_eq_true] at hok
  obtain ⟨⟨hk, hslot⟩, hbo⟩ := hok
  obtain ⟨hklen, hk⟩ := kinds_spec hk
  unfold callO at e
  split at e
  case h_2 => cases e
  rename_i v m hfit
  simp only [Option.bind_eq_some_iff] at e
  obtain ⟨u, hg, e⟩ := e
  obtain ⟨_, E1, hf⟩ := fit_sound h.bx hxs hnil (by simp [Shp.m0]) (inj_none _) hfit
  have hsz : vs.toArray.size = c.ins.slots.length := by rw [← hlen, All2.len hxs]; simp
  refine (hcall E1 w v vs.toArray u hsz hf.boxes (by simpa using hf.slots) hg).mono fun e' w' hR => ?_
  obtain ⟨x, E', rfl, base, ⟨Fs, hFs1, hFs2⟩, slots, hids⟩ := hR
  simp only [List.append_nil] at hFs2
  obtain ⟨Fk, k1, k2, k3, k4⟩ := hf.rest
  have st := h.bx.st
  have tlt := h.bx.tlt
  have hM : m.length = c.ins.bxs.length := hf.len
  have all : ∀ i, i < m.length → ∃ b B, m[i]? = some (some b) ∧ σ.bx[b]? = some B ∧ B ≠ .dead ∧ ∀ d r, c.ins.bxs[i]? = some (.sl d r) → ∃ d' rows, B = .sl d' r rows := by
    intro i hi
    have hp : c.ins.bxs[i]? = some (c.ins.bxs[i]'(by omega)) := List.getElem?_eq_getElem _
    obtain ⟨b, B, h1, h2, h3, h4⟩ := fit_get hfit i _ hp (hk i _ hp).1
    exact ⟨b, B, h1, h2, h3, fun d r hh => h4 d r (by rw [hp] at hh; exact Option.some.inj hh)⟩
  let N := σ.bx.length
  let M := m.length
  have hren : ∀ i b, m[i]? = some (some b) → renOf m N i = b := fun i b h => by simp [renOf, h]
  have hren2 : ∀ i, M ≤ i → renOf m N i = N + (i - M) := fun i hi => by
    have : m[i]? = none := List.getElem?_eq_none hi
    simp [renOf, this, M]
  have ro : RenOk (renOf m N) M N := ⟨fun i hi => by
      obtain ⟨b, B, h1, h2, _⟩ := all i hi
      rw [hren i b h1]
      exact (List.getElem?_eq_some_iff.1 h2).1, hren2, fun i j hi hj e => by
      obtain ⟨b, B, h1, h2, _⟩ := all i hi
      obtain ⟨b', B', h1', h2', _⟩ := all j hj
      rw [hren i b h1, hren j b' h1'] at e
      subst e
      exact hf.inj i j b h1 h1'⟩
  let E2 : Env := { blk := fun n => if n < N then E.blk n else E'.blk (M + (n - N))
                    hdr := fun n => if n < N then E.hdr n else E'.hdr (M + (n - N))
                    T := fun c => E.T c ∨ E'.S c
                    S := E'.S }
  have hS : ∀ c, E.S c → E'.S c := fun d hd => base.S d (hf.S d hd)
  have hSk : ∀ d ∈ Fk.flatten, ¬ E'.S d := fun d hd hs => by
    obtain ⟨_, n2, _, n4⟩ := k3 d hd
    exact (base.Sof d hs).elim n2 (fun h => h n4)
  have heapT : ∀ d, E.T d → w'.heap[d]? = w.heap[d]? := fun d hd => base.heap d (hf.T d hd)
  have heapK : ∀ d ∈ Fk.flatten, w'.heap[d]? = w.heap[d]? := fun d hd => base.heap d (k3 d hd).2.2.2
  have base2 : Base E w E2 w' := ⟨fun d hd => .inl hd, hS, fun d hd => hd, fun d hd => by
      rcases base.Sof d hd with h | h
      · exact hf.Sof d h
      · exact .inr fun ht => h (hf.T d ht), heapT, base.os, base.tape, base.output, base.size⟩
  let vw' := BPs.mk id c.outs.bxs u.2
  let Bs := BPs.mk (renOf m N) c.outs.bxs u.2
  let bk := (killAll σ.bx m).map (Bx.map (scrubsAV m))
  have hbk : killAll (σ.scrubs m).bx m = bk := by rw [scrubs_bx, killAll_map]
  have hbkl : bk.length = N := by simp [bk, killAll_len, N]
  let bx2 := putBoxes (renOf m N) 0 Bs bk
  have hbx2 : setBoxes (renOf m N) 0 c.outs.bxs u.2 (killAll (σ.scrubs m).bx m) = bx2 := by rw [setBoxes_eq, hbk]
  obtain ⟨s1, s2, s3⟩ := putBoxes_spec ro (l := Bs) (i := 0) (bx := bk) (by simp [hbkl])
  have hBsl : Bs.length = c.outs.bxs.length := BPs_mk_len _
  have hlen2 : σ.bx.length ≤ bx2.length := by
    show N ≤ bx2.length
    have : bx2.length = N + (0 + Bs.length - M) := s1
    omega
  have rn : Renamed E' E2 c.outs.bxs u.2 bx2 (renOf m N) := by
    refine ⟨fun i hi => ?_, fun i p hp => ?_, rfl⟩
    · by_cases him : i < M
      · obtain ⟨b, B, h1, h2, _⟩ := all i him
        have hbl : b < N := (List.getElem?_eq_some_iff.1 h2).1
        have g1 := hf.ids i b h1
        have g2 := hids i (by omega) hi
        rw [hren i b h1]
        simp only [E2, if_pos hbl]
        exact ⟨by rw [g2.1, g1.1], by rw [g2.2, g1.2]⟩
      · rw [hren2 i (by omega)]
        have : ¬ (N + (i - M) < N) := by omega
        simp only [E2, if_neg this]
        rw [show M + (N + (i - M) - N) = i by omega]
        exact ⟨rfl, rfl⟩
    · obtain ⟨z, z1, z2⟩ := BPs_mk_get (renOf m N) (u := u.2) hp
      refine ⟨z, z1, ?_⟩
      have := s2 i _ z2
      rwa [Nat.zero_add] at this
  have hbx2n : ∀ n, n < N → some n ∉ m → bx2[n]? = bk[n]? := fun n hn hm => by
    refine s3 n (by omega) fun j hj he => ?_
    rw [Nat.zero_add] at he
    by_cases hjm : j < M
    · obtain ⟨b, B, h1, h2, _⟩ := all j hjm
      rw [hren j b h1] at he
      subst he
      exact hm (List.mem_of_getElem? h1)
    · have := hren2 j (by omega)
      omega
  have keep : Keep E w σ.bx E2 w' (killAll bx2 m) := by
    refine ⟨by rw [killAll_len]; exact hlen2, fun b hb => by simp only [E2]; rw [if_pos hb], fun d hd => .inl hd, hS, st, heapT, fun b d r rows hb hq => ?_⟩
    have hbm : some b ∉ m := fun hm => by have := killAll_dead hm hq; cases this
    rw [killAll_not hbm, hbx2n b hb hbm] at hq
    have hq1 := map_sl hq
    have hq2 : σ.bx[b]? = some (.sl d r rows) := by
      rcases killAll_within (Within.refl σ.bx) b _ hq1 with e | e
      · cases e
      · exact e
    refine ⟨d, rows, hq2, fun p hp q ys hgp => ⟨hp, ⟨ys, hgp, rfl⟩, fun h' hh => ?_⟩⟩
    have hFk : Fk[b]? = some (Fk[b]'(by rw [k1.1, killAll_len]; exact hb)) := List.getElem?_eq_getElem _
    obtain ⟨_, ho⟩ := k1.2 b _ _ hq1 hFk
    have e2 : E2.hdr b = E.hdr b := by simp only [E2]; rw [if_pos hb]
    rw [e2]
    exact Ow_hdr ho (fun d hd => heapT d (st d hd)) (fun d hd => heapK d (List.mem_flatten.2 ⟨_, List.mem_of_getElem? hFk, hd⟩)) hp hgp hh
  have vr : ∀ x v, VR E w σ.bx x v → VR E2 w' bx2 (scrubsAV m x) v := fun x v hx => by
    refine VR_scrubs keep (fun b d' r rows' hbm hq => ?_) hlen2 hx
    obtain ⟨i, hi, him⟩ := List.getElem_of_mem hbm
    have him' : m[i]? = some (some b) := by rw [List.getElem?_eq_getElem hi, him]
    obtain ⟨b', B, h1, h2, h3, h4⟩ := all i hi
    rw [him'] at h1; cases h1
    have hio : i < c.outs.bxs.length := by omega
    have hp : c.outs.bxs[i]? = some c.outs.bxs[i] := List.getElem?_eq_getElem hio
    obtain ⟨z, z1, z2⟩ := rn.bx i _ hp
    rw [hren i b him', hq] at z2
    have hpin : c.ins.bxs[i]? = some (c.ins.bxs[i]'(by omega)) := List.getElem?_eq_getElem _
    generalize c.outs.bxs[i] = po at z hp z1 z2
    cases po with
    | mem q => simp [BP.mk] at z2
    | gone => simp [BP.mk] at z2
    | sl d0 q =>
      simp only [BP.mk, Option.some.injEq, Bx.sl.injEq] at z2
      obtain ⟨rfl, rfl, z2⟩ := z2
      obtain rfl := eq_of_heq z2
      obtain ⟨d1, hpo⟩ := (hk i _ hpin).2 _ _ hp
      obtain ⟨d2, rows, rfl⟩ := h4 d1 r (by rw [hpin, hpo])
      have hbl : b < N := (List.getElem?_eq_some_iff.1 h2).1
      have eh : E2.hdr b = E.hdr b := by simp only [E2]; rw [if_pos hbl]
      refine ⟨d2, rows, h2, ?_, eh⟩
      obtain ⟨F0, hR0, _⟩ := h.bx.take h2
      have hFi : Fs[i]? = some (Fs[i]'(by rw [hFs1.1, BPs_mk_len]; exact hio)) := List.getElem?_eq_getElem _
      obtain ⟨_, ho'⟩ := hFs1.2 i _ _ z1 hFi
      have hal : alive c.outs.bxs i = true := by simp [alive, hp]
      rw [(hids i (by omega) hal).2, (hf.ids i b him').2] at ho'
      exact Rd_hdr_len (Ow_rd hR0.2) (Ow_rd ho')
  have hall : c.outs.bxs.all (BP.okOut c.outs.bxs) = true := hbo
  have rel : Rel E2 { tm := (σ.scrubs m).tm, bx := bx2 } a w' := by
    refine ⟨h.nodefer, ?_, ?_⟩
    · rw [scrubs_tm]
      exact All2.map_left _ (fun x v hx => XR_scrubs vr hx) h.tm
    · refine putBoxes_boxes ro (Fs := Fs) (by simp [hbkl]) (fun i _ hi => ?_) (by rw [hFs1.1, BPs_mk_len]; exact hBsl.symm) (fun j B F hB hF => ?_) ?_
      · obtain ⟨b, B, h1, h2, _⟩ := all i hi
        rw [hren i b h1]
        have hbl : b < (killAll σ.bx m).length := by rw [killAll_len]; exact (List.getElem?_eq_some_iff.1 h2).1
        have hd : (killAll σ.bx m)[b]? = some .dead := by
          rw [List.getElem?_eq_getElem hbl]
          exact congrArg some (killAll_dead (List.mem_of_getElem? h1) (List.getElem?_eq_getElem hbl))
        simp only [bk]
        rw [List.getElem?_map, hd]; rfl
      · rw [Nat.zero_add]
        have hjl := (List.getElem?_eq_some_iff.1 hB).1
        have hp : c.outs.bxs[j]? = some (c.outs.bxs[j]'(by omega)) := List.getElem?_eq_getElem _
        obtain ⟨z, z1, z2⟩ := BPs_mk_get (renOf m N) (u := u.2) hp
        have hB' : Bs[j]? = _ := z2
        rw [hB] at hB'
        cases hB'
        exact BP_ren rn hp (List.all_eq_true.1 hall _ (List.getElem_mem _)) (hFs1.2 j _ _ z1 hF)
      ·
        refine ⟨Fk, ⟨by simp [bk, k1.1], fun n B F hn hF => ?_⟩, ?_⟩
        · simp only [bk] at hn
          rw [List.getElem?_map, Option.map_eq_some_iff] at hn
          obtain ⟨B0, hn, rfl⟩ := hn
          have hnl : n < N := by have := (List.getElem?_eq_some_iff.1 hn).1; rwa [killAll_len] at this
          have h3 := k1.2 n B0 F hn hF
          have hFw : ∀ d ∈ F, w'.heap[d]? = w.heap[d]? := fun d hd => heapK d (List.mem_flatten.2 ⟨F, List.mem_of_getElem? hF, hd⟩)
          have eb : E2.blk n = E.blk n := by simp only [E2]; rw [if_pos hnl]
          have eh : E2.hdr n = E.hdr n := by simp only [E2]; rw [if_pos hnl]
          cases B0 with
          | mem cs =>
            obtain ⟨rfl, arr, ty, fr, ha, hu, hv⟩ := h3
            exact ⟨by rw [eb], arr, ty, fr, by rw [eb, hFw _ (by simp), ha], hu, All2.map_left _ vr hv⟩
          | sl d r rows =>
            refine ⟨h3.1, ?_⟩
            rw [eh]
            exact Ow_mono hS (fun d hd => heapT d (st d hd)) hFw h3.2
          | dead => exact h3
        · refine ⟨List.nodup_append.2 ⟨k2, hFs2.nodup, fun x hx z hz he => ?_⟩, fun d hd ht => ?_, fun d hd => ?_, fun d hd => .inr hd, fun d hd => ?_⟩
          · subst he
            exact hFs2.free x hz (base.T x (k3 x hx).2.2.2)
          · rcases List.mem_append.1 hd with hd | hd
            · rcases ht with ht | ht
              · exact (k3 d hd).1 ht
              · exact hSk d hd ht
            · rcases ht with ht | ht
              · exact hFs2.free d hd (base.T d (hf.T d ht))
              · exact hFs2.free d hd (hFs2.st d ht)
          · rcases List.mem_append.1 hd with hd | hd
            · exact Nat.lt_of_lt_of_le (k3 d hd).2.2.1 base.size
            · exact hFs2.lt d hd
          · rcases hd with hd | hd
            · exact Nat.lt_of_lt_of_le (tlt d hd) base.size
            · exact hFs2.tlt d (hFs2.st d hd)
  have went : Went (touchO c N0 xs σ) E σ.bx w E2 bx2 w' := by
    refine ⟨base2, hlen2, fun n hn => ⟨by simp only [E2]; rw [if_pos hn], by simp only [E2]; rw [if_pos hn]⟩, fun n hn => ?_, fun n B B' hnt hB hB' hnd => ?_⟩
    rotate_left 1
    · have hnl := (List.getElem?_eq_some_iff.1 hB).1
      have hnm : some n ∉ m := fun hm => hnt (by
        simp only [touchO, hfit, List.mem_filterMap]
        exact ⟨some n, hm, rfl⟩)
      rw [hbx2n n hnl hnm] at hB'
      simp only [bk] at hB'
      have hkn : (killAll σ.bx m)[n]? = some B := by rw [killAll_not hnm]; exact hB
      rw [List.getElem?_map, hkn] at hB'
      have hB' : Bx.map (scrubsAV m) B = B' := by simpa using hB'
      have hFk : Fk[n]? = some (Fk[n]'(by rw [k1.1, killAll_len]; exact hnl)) := List.getElem?_eq_getElem _
      refine ⟨?_, fun d hd => ?_⟩
      · subst hB'
        cases B with
        | mem cs => trivial
        | sl d r rows => rfl
        | dead => exact absurd rfl hnd
      · rcases BRB_sub (k1.2 n B _ hkn hFk) hd with hs | hs
        · exact heapT d (st d hs)
        · exact heapK d (List.mem_flatten.2 ⟨_, List.mem_of_getElem? hFk, hs⟩)
    have hnl := (List.getElem?_eq_some_iff.1 hn).1
    have hnm : some n ∉ m := fun hm => by
      obtain ⟨i, hi, him⟩ := List.getElem_of_mem hm
      obtain ⟨b, B, h1, h2, h3, _⟩ := all i hi
      rw [List.getElem?_eq_getElem hi, him] at h1
      cases h1
      rw [hn] at h2
      cases h2
      exact h3 rfl
    rw [hbx2n n hnl hnm]
    simp only [bk]
    rw [List.getElem?_map, killAll_not hnm, hn]; rfl
  refine ⟨x, E2, firstSlot c.outs.slots u.1 (renOf m N), { tm := (σ.scrubs m).tm, bx := bx2 }, rfl, rel, firstSlot_ren rn hslot slots, went, by simp [scrubs_tm], ?_⟩
  rw [hbx2] at e
  exact e
theorem call_done {f : Nat} {c : Con} (hc : SoundC P f c) (h : Rel E σ a w) {xs : List XV} {vs : List Value} (hxs : All2 (XR E w σ.bx) xs vs) (e : callX c xs σ k = some y) :
    Calls P f vs.toArray w fun e w' => ∃ x E' xv σ', e = .returned x ∧ Rel E' σ' a w' ∧ XR E' w' σ'.bx xv x ∧ Went (callTouch c xs σ) E σ.bx w E' σ'.bx w' ∧ σ'.tm.length = σ.tm.length ∧ k xv σ' = some y := by
  unfold callX at e
  split at e
  case isFalse => cases e
  rename_i hlen
  obtain ⟨E', h1, h2, h3, h4⟩ := opens_rel h c.ins
  have hold : ∀ b, b < σ.bx.length → (c.ins.opens σ.bx)[b]? = σ.bx[b]? := fun b hb => by simp only [Shp.opens]; rw [List.getElem?_append_left hb]
  refine (call_done0 (N0 := σ.bx.length) hc h1 h3 (hxs.imp fun x v hx => h4 x v hx) hlen (k := k) (y := y) e).mono fun e' w' hR => ?_
  obtain ⟨x, E2, xv, σ', q0, q1, q2, q3, q4, q5⟩ := hR
  exact ⟨x, E2, xv, σ', q0, q1, q2, h2.after hold q3, q4, q5⟩
end
end Go.Fw
end

section
namespace Go.Fw
def SoundΓ (P : Program) (Γ : Nat → Option Con) : Prop := ∀ f c, Γ f = some c → SoundC P f c
theorem touched_plain {Γ : Nat → Option Con} {σ : St} {o : Op} (h : isCall o = false) : touched (fun _ => none) σ o = touched Γ σ o := by
  cases o with
  | call c =>
    obtain ⟨callee, args, ats⟩ := c
    cases callee with
    | value f => simp [isCall] at h
    | invoke _ _ => rfl
    | builtin b => cases b <;> rfl
  | _ => rfl
theorem goOn {Y : Type} {P : Program} {Γ : Nat → Option Con} {o : Oper} {E : Env} {σ : St} {a : Act} {w : World} {k : K Y} {y : Y} {g : Nat} {c : Con} (hsc : SoundC P g c) (h : Rel E σ a w) {f : Operand} {args : Array Operand} {ats : Array TypeId}
    (ho : o.op = .call { callee := .value f, args := args, argTypes := ats }) {ps : List Value} (hv2 : a.eval f = .func (.func g) #[] ps.toArray) {xs : List XV} (hargs : All2 (XR E w σ.bx) xs (args.toList.map a.eval ++ ps)) (ht : touched Γ σ o.op = callTouch c xs σ)
    (e : callX c xs σ k = some y) {next : Act → World → Prop} {Q : Exit → Act → World → Prop}
    (hn : ∀ v w' E' x σ', Rel E' σ' a w' → XR E' w' σ'.bx x v → Went (touched Γ σ o.op) E σ.bx w E' σ'.bx w' → σ'.tm.length = σ.tm.length → k x σ' = some y → next (a.put o.dst v) w') : o.wp P a w next Q := by
  have hcall := call_done hsc h hargs e
  have hrun : (execOp a.eval o).run P w = .ok (.enter g (args.toList.map a.eval ++ ps).toArray) w := by
    have e2 : (args.map a.eval) ++ ps.toArray = (args.toList.map a.eval ++ ps).toArray := by
      apply Array.ext'
      simp
    simp only [execOp, ho, resolve, hv2, Deferred.ofValue, Sem.run_bind, Sem.run_pure, Result.andThen_ok, invoke, Array.empty_append, e2, hsc.2.1]
  unfold Oper.wp
  rw [hrun]
  simp only [Oper.upon]
  refine hcall.mono fun e w' hR => ?_
  obtain ⟨x, E', xv, σ', rfl, h1, h2, h3, h4, h5⟩ := hR
  rw [← ht] at h3
  exact hn x w' E' xv σ' h1 h2 h3 h4 h5
section
variable {Y : Type} {P : Program} {T : Tab} (hT : TabOk P T) {Γ : Nat → Option Con} (hΓ : SoundΓ P Γ) {o : Oper} {E : Env} {σ : St} {a : Act} {w : World} {k : K Y} {y : Y}
include hT hΓ
theorem exec_wp (h : Rel E σ a w) (e : execX T Γ o σ k = some y) {next : Act → World → Prop} {Q : Exit → Act → World → Prop}
    (hn : ∀ v w' E' x σ', Rel E' σ' a w' → XR E' w' σ'.bx x v → Went (touched Γ σ o.op) E σ.bx w E' σ'.bx w' → σ'.tm.length = σ.tm.length → k x σ' = some y → next (a.put o.dst v) w') : o.wp P a w next Q := by
  by_cases hc : isCall o.op = false
  · obtain ⟨v, w', E', x, σ', hr, h1, h2, h3, h4, h5⟩ := exec_done hT h e hc
    rw [touched_plain hc] at h3
    unfold Oper.wp
    rcases hr with hr | ⟨hr, rfl⟩
    · rw [hr]
      exact hn v w' E' x σ' h1 h2 h3 h4 h5
    · rw [hr]
      exact hn _ w' E' x σ' h1 h2 h3 h4 h5
  ·
    unfold isCall at hc
    split at hc
    case h_2 => simp at hc
    rename_i f args ats ho
    unfold execX at e
    rw [ho] at e
    dsimp only at e
    split at e
    case h_3 => cases e
    · rename_i g caps hf
      split at e
      case h_2 => cases e
      rename_i c hg
      have hv := h.ev f
      rw [hf] at hv
      obtain ⟨hv1, hv2⟩ : (∀ b ∈ caps, b < σ.bx.length) ∧ a.eval f = .func (.func g) #[] (caps.map fun b => Value.pointer (some ⟨E.blk b, 0, none⟩)).toArray := hv
      have hsc := hΓ g c hg
      have hargs : All2 (XR E w σ.bx) (args.toList.map σ.ev ++ caps.map fun b => .c (.maddr b 0)) (args.toList.map a.eval ++ caps.map fun b => Value.pointer (some ⟨E.blk b, 0, none⟩)) := by
        refine All2.append (evs h args.toList) ?_
        clear hv2 hf e
        induction caps with
        | nil => trivial
        | cons b l ih => exact ⟨⟨hv1 b (by simp), rfl⟩, ih (fun c hc => hv1 c (by simp [hc]))⟩
      have ht : touched Γ σ o.op = callTouch c (args.toList.map σ.ev ++ caps.map fun b => .c (.maddr b 0)) σ := by
        rw [ho]
        simp only [touched, hf, hg, callTouch]
        rfl
      exact goOn hsc h ho hv2 hargs ht e hn
    · rename_i g rows hf
      split at e
      case h_2 => cases e
      rename_i c hg
      have hv := h.ev f
      rw [hf] at hv
      obtain ⟨ps, hv2, hv1⟩ : ∃ ps : List Value, a.eval f = .func (.func g) #[] ps.toArray ∧ All2 (RA E w) rows ps := hv
      have hsc := hΓ g c hg
      have hargs : All2 (XR E w σ.bx) (args.toList.map σ.ev ++ rows.map fun q => .c (.raddr false q.1 q.2 0)) (args.toList.map a.eval ++ ps) := by
        refine All2.append (evs h args.toList) ?_
        clear hv2 hf e
        induction rows generalizing ps with
        | nil =>
          cases ps with
          | nil => trivial
          | cons _ _ => exact hv1.elim
        | cons q l ih =>
          cases ps with
          | nil => exact hv1.elim
          | cons p ps =>
            obtain ⟨⟨bb, o, cs, h1, h2, h3, h4, h5⟩, hv1⟩ := hv1
            exact ⟨⟨bb, o, cs, h1, h2, h3, h4, h5⟩, ih ps hv1⟩
      have ht : touched Γ σ o.op = callTouch c (args.toList.map σ.ev ++ rows.map fun q => .c (.raddr false q.1 q.2 0)) σ := by
        rw [ho]
        simp only [touched, hf, hg, callTouch]
        rfl
      exact goOn hsc h ho hv2 hargs ht e hn
end
theorem Rel.tmp {E : Env} {σ : St} {a : Act} {w : World} (h : Rel E σ a w) {t : Nat} {x : XV} (e : σ.tm[t]? = some x) : ∃ v, a.tmps[t]? = some v ∧ XR E w σ.bx x v := by
  obtain ⟨v, h1, h2⟩ := h.tm.get e
  exact ⟨v, by simpa using h1, h2⟩
theorem Rel.know {E : Env} {σ : St} {a : Act} {w : World} (h : Rel E σ a w) {t : Nat} {b : Bool} (e : σ.tm[t]? = some (.c (.v .bool b))) : Rel E (σ.put (some t) (.c (.v .bool b))) a w := by
  have : σ.put (some t) (.c (.v .bool b)) = σ := by
    simp only [St.put]
    obtain ⟨tm, bx⟩ := σ
    simp only [St.mk.injEq, and_true]
    obtain ⟨hlt, he⟩ := List.getElem?_eq_some_iff.1 e
    apply List.ext_getElem?
    intro i
    rw [List.getElem?_set]
    split
    · rename_i e1; subst e1; exact e.symm
    · rfl
  rw [this]; exact h
def boolOf : Value → Option Bool
  | .bool b => some b
  | _ => none
theorem yielded_eq {ops : Array Oper} {tmps : Array Value} {j t : Nat} (e : (ops[j]?).bind (·.dst) = some t) {v : Value} (hv : tmps[t]? = some v) : yielded ops tmps j = boolOf v := by
  simp only [yielded, e, Option.bind_some, hv]
  cases v <;> rfl
theorem XR_undef {E : Env} {w : World} {vw : List Bx} : XR E w vw (.tup []) undef := ⟨#[], rfl, trivial⟩
structure Ok (E0 : Env) (w0 : World) (N nb : Nat) (E : Env) (σ : St) (a : Act) (w : World) : Prop where
  rel : Rel E σ a w
  base : Base E0 w0 E w
  tm : σ.tm.length = N
  hnb : nb ≤ σ.bx.length
  ids : ∀ i, i < nb → σ.bx[i]? ≠ some .dead → E.blk i = E0.blk i ∧ E.hdr i = E0.hdr i
theorem Ok.next {E0 E E' : Env} {w0 w w' : World} {N nb : Nat} {σ σ' : St} {a a' : Act} {t : List Nat} (h : Ok E0 w0 N nb E σ a w) (hr : Rel E' σ' a' w') (hw : Went t E σ.bx w E' σ'.bx w') (hl : σ'.tm.length = σ.tm.length) : Ok E0 w0 N nb E' σ' a' w' :=
  ⟨hr, h.base.trans hw.base, hl.trans h.tm, Nat.le_trans h.hnb hw.len, fun i hi hd => by
    have h1 := hw.ids i (Nat.lt_of_lt_of_le hi h.hnb)
    have h2 := h.ids i hi (fun hh => hd (hw.dead i hh))
    exact ⟨h1.1.trans h2.1, h1.2.trans h2.2⟩⟩
theorem Ok.put {E0 E : Env} {w0 w : World} {N nb : Nat} {σ : St} {a : Act} (h : Ok E0 w0 N nb E σ a w) (dst : Option Tmp) {x : XV} {v : Value} (hx : XR E w σ.bx x v) : Ok E0 w0 N nb E (σ.put dst x) (a.put dst v) w := by
  have e1 : (σ.put dst x).bx = σ.bx := by cases dst <;> rfl
  have e2 : (σ.put dst x).tm.length = σ.tm.length := by cases dst <;> simp [St.put]
  refine ⟨h.rel.put dst hx, h.base, e2.trans h.tm, by rw [e1]; exact h.hnb, fun i hi hd => h.ids i hi (by rwa [e1] at hd)⟩
theorem Ok.same {E0 E : Env} {w0 w : World} {N nb : Nat} {σ σ1 : St} {a : Act} (h : Ok E0 w0 N nb E σ a w) (hr : Rel E σ1 a w) (hb : σ1.bx = σ.bx) (hl : σ1.tm.length = σ.tm.length) : Ok E0 w0 N nb E σ1 a w :=
  ⟨hr, h.base, hl.trans h.tm, by rw [hb]; exact h.hnb, fun i hi hd => h.ids i hi (by rwa [hb] at hd)⟩
end Go.Fw
end

section
namespace Go.Fw
section
variable {Y : Type}
abbrev k0 : K (XV × St) := fun x σ => some (x, σ)
theorem intOp_nat {op : BinOp} {κ : IntKind} {a b : Int} (k : AV → Option Y) : intOp op κ a b k = (intOp op κ a b some).bind k := by
  cases op <;> simp [intOp] <;> split <;> rfl
theorem shiftOp_nat {op : BinOp} {κ : IntKind} {a b : Int} (k : AV → Option Y) : shiftOp op κ a b k = (shiftOp op κ a b some).bind k := by
  unfold shiftOp
  split
  · rfl
  · cases op <;> simp
theorem strOp_nat {op : BinOp} {a b : List UInt8} (k : AV → Option Y) : strOp op a b k = (strOp op a b some).bind k := by
  cases op <;> simp [strOp] <;> split <;> rfl
theorem binX_nat {T : Tab} {t : Nat} {op : BinOp} {a b : XV} (k : AV → Option Y) : binX T t op a b k = (binX T t op a b some).bind k := by
  unfold binX
  split
  · split
    · exact shiftOp_nat k
    · exact shiftOp_nat k
    · split
      · exact intOp_nat k
      · rfl
  · exact strOp_nat k
  · split
    · split
      · split <;> rfl
      · rfl
    · rfl
  · split <;> rfl
  · rfl
theorem unX_nat {op : UnOp} {a : XV} (k : AV → Option Y) : unX op a k = (unX op a some).bind k := by
  unfold unX
  split <;> rfl
theorem maxX_nat {g : Bool} {a b : XV} (k : AV → Option Y) : maxX g a b k = (maxX g a b some).bind k := by
  unfold maxX
  split
  · split
    · cases g <;> rfl
    · rfl
  · rfl
theorem partBounds_nat {len : Nat} {lo hi : Option XV} (k : Nat → Nat → Option Y) : partBounds len lo hi k = (partBounds len lo hi fun l h => some (l, h)).bind fun p => k p.1 p.2 := by
  unfold partBounds
  dsimp only
  split
  · split <;> rfl
  · rfl
theorem sliceX_nat {T : Tab} {t : Nat} {σ : St} {x : XV} {lo hi : Option XV} (k : K Y) : sliceX T t σ x lo hi k = (sliceX T t σ x lo hi k0).bind fun p => k p.1 p.2 := by
  unfold sliceX
  split
  · split
    · rw [partBounds_nat, partBounds_nat (Y := XV × St), Option.bind_assoc]; rfl
    · rfl
  · split
    · rw [partBounds_nat, partBounds_nat (Y := XV × St), Option.bind_assoc]; rfl
    · rfl
  · split
    · split
      · rw [partBounds_nat, partBounds_nat (Y := XV × St), Option.bind_assoc]; rfl
      · rfl
    · rfl
  · rfl
theorem indexX_nat {T : Tab} {t : Nat} {σ : St} {x i : XV} (k : K Y) : indexX σ T t x i k = (indexX σ T t x i k0).bind fun p => k p.1 p.2 := by
  unfold indexX
  split
  · split
    · split <;> rfl
    · rfl
  · split
    · split
      · split <;> rfl
      · rfl
    · rfl
  · split
    · split
      · split <;> rfl
      · rfl
    · rfl
  · rfl
theorem strIndexX_nat {T : Tab} {t : Nat} {σ : St} {x i : XV} (k : K Y) : strIndexX T t σ x i k = (strIndexX T t σ x i k0).bind fun p => k p.1 p.2 := by
  unfold strIndexX
  split
  · split
    · split <;> rfl
    · rfl
  · rfl
theorem convX_nat {T : Tab} {s d : Nat} {σ : St} {x : XV} (k : K Y) : convX T s d σ x k = (convX T s d σ x k0).bind fun p => k p.1 p.2 := by
  unfold convX
  split
  · rfl
  · rfl
  · split
    · split <;> rfl
    · rfl
  · split <;> rfl
  · rfl
theorem makeX_nat {T : Tab} {t : Nat} {σ : St} {l c : XV} (k : K Y) : makeX T t σ l c k = (makeX T t σ l c k0).bind fun p => k p.1 p.2 := by
  unfold makeX
  split
  · split
    · split
      · split <;> rfl
      · rfl
    · rfl
  · rfl
theorem buildSliceX_nat {T : Tab} {t n : Nat} {ps : List (Nat × XV)} {σ : St} (k : K Y) : buildSliceX T t n ps σ k = (buildSliceX T t n ps σ k0).bind fun p => k p.1 p.2 := by
  unfold buildSliceX
  split
  · split
    · split
      · rw [Option.bind_assoc]; rfl
      · rfl
    · rfl
  · rfl
theorem appendX_nat {T : Tab} {ts : Array TypeId} {σ : St} {a x : XV} (k : K Y) : appendX T ts σ a x k = (appendX T ts σ a x k0).bind fun p => k p.1 p.2 := by
  unfold appendX
  split
  · split
    · split
      · rw [Option.bind_assoc]
        congr 1; funext s
        split
        · split <;> rfl
        · rfl
      · rw [Option.bind_assoc]
        congr 1; funext s
        split
        · rw [Option.bind_assoc]
          congr 1; funext q
          rw [Option.bind_assoc]
          congr 1; funext z
          split <;> rfl
        · rfl
      · rfl
    · rfl
  · rfl
theorem clearX_nat {T : Tab} {ts : Array TypeId} {σ : St} {x : XV} (k : K Y) : clearX T ts σ x k = (clearX T ts σ x k0).bind fun p => k p.1 p.2 := by
  unfold clearX
  split
  · split
    · split <;> rfl
    · rfl
  · rfl
theorem callX_nat {c : Con} {xs : List XV} {σ : St} (k : K Y) : callX c xs σ k = (callX c xs σ k0).bind fun p => k p.1 p.2 := by
  unfold callX
  split
  · split
    · rw [Option.bind_assoc]; rfl
    · rfl
  · rfl
theorem assignX_nat {σ : St} {x : XV} (k : K Y) : assignX σ x k = (assignX σ x k0).bind fun p => k p.1 p.2 := by
  unfold assignX
  split
  · rw [Option.bind_assoc]; rfl
  · rfl
theorem execX_nat {T : Tab} {Γ : Nat → Option Con} {o : Oper} {σ : St} (k : K Y) : execX T Γ o σ k = (execX T Γ o σ k0).bind fun p => k p.1 p.2 := by
  unfold execX
  split
  · rfl
  · exact assignX_nat k
  · split
    · rename_i x _
      cases x <;> rfl
    · rfl
  · split <;> rfl
  · split
    · split <;> rfl
    · rfl
  · split
    · split <;> rfl
    · rfl
  · exact buildSliceX_nat k
  · split <;> rfl
  · split
    · split
      · split <;> rfl
      · rfl
    · rfl
  · split <;> rfl
  · rw [binX_nat, binX_nat (Y := XV × St), Option.bind_assoc]; rfl
  · rw [unX_nat, unX_nat (Y := XV × St), Option.bind_assoc]; rfl
  · exact convX_nat k
  · split
    · split <;> rfl
    · rfl
  · exact makeX_nat k
  · exact sliceX_nat k
  · split <;> rfl
  · split <;> rfl
  · exact indexX_nat k
  · exact strIndexX_nat k
  · split <;> rfl
  · split
    · split
      · exact callX_nat k
      · rfl
    · split
      · exact callX_nat k
      · rfl
    · rfl
  · split
    · split <;> rfl
    · split
      · split <;> rfl
      · rfl
    · rfl
  · split
    · exact appendX_nat k
    · rfl
  · split
    · exact clearX_nat k
    · rfl
  · split
    · rw [maxX_nat, maxX_nat (Y := XV × St), Option.bind_assoc]; rfl
    · rfl
  · split
    · rw [maxX_nat, maxX_nat (Y := XV × St), Option.bind_assoc]; rfl
    · rfl
  · rfl
theorem execX_all {I : Type} [Nonempty I] {T : Tab} {Γ : Nat → Option Con} {o : Oper} {σ : St} {k : I → K Y} {y : Y} (h : ∀ i, execX T Γ o σ (k i) = some y) : ∃ x σ', execX T Γ o σ k0 = some (x, σ') ∧ ∀ i, k i x σ' = some y := by
  obtain ⟨i0⟩ := ‹Nonempty I›
  have h0 := h i0
  rw [execX_nat] at h0
  rw [Option.bind_eq_some_iff] at h0
  obtain ⟨⟨x, σ'⟩, h1, h2⟩ := h0
  refine ⟨x, σ', h1, fun i => ?_⟩
  have := h i
  rw [execX_nat, h1] at this
  exact this
end
end Go.Fw
end

section
namespace Go.Fw
def WF {α : Type} (P : Program) (s : Sem α) : Prop := ∀ w v w1, s.run P w = .ok v w1 → ∀ w', s.run P w' = .ok v w'
section
variable {α β : Type} {P : Program}
theorem WF.pure (x : α) : WF P (Pure.pure x : Sem α) := fun w v w1 h w' => by
  simp only [Sem.run_pure, Result.ok.injEq] at h ⊢
  exact ⟨h.1, trivial⟩
theorem WF.bind {s : Sem α} {f : α → Sem β} (h : WF P s) (k : ∀ v, WF P (f v)) : WF P (s >>= f) := fun w v w1 e w' => by
  rw [Sem.run_bind] at e ⊢
  cases hs : s.run P w with
  | ok u w2 =>
    rw [hs] at e
    simp only [Result.andThen_ok] at e
    rw [h w u w2 hs w']
    simp only [Result.andThen_ok]
    exact k u w2 v w1 e w'
  | halt x w2 =>
    rw [hs] at e
    simp [Result.andThen] at e
theorem WF.halt (x : Halt) : WF P (.halt x : Sem α) := fun w v w1 e w' => by simp [Sem.run] at e
theorem WF.program : WF P program := fun w v w1 e w' => by
  rw [run_program] at e ⊢
  cases e; rfl
theorem WF.typeInfo (t : TypeId) : WF P (typeInfo t) := WF.bind WF.program fun p => by
  split
  · exact WF.pure _
  · exact WF.halt _
theorem WF.underlying (t : TypeId) : WF P (underlying t) := WF.bind WF.program fun p => by
  split
  · exact WF.pure _
  · exact WF.halt _
theorem WF.sizeOf (t : TypeId) : WF P (Go.sizeOf t) := WF.bind (WF.typeInfo t) fun _ => WF.pure _
theorem WF.isAgg (t : TypeId) : WF P (isAgg t) := WF.bind (WF.underlying t) fun d => by
  split <;> exact WF.pure _
theorem WF.zeroValue (t : TypeId) : WF P (zeroValue t) := WF.bind (WF.typeInfo t) fun i => by
  split
  · exact WF.pure _
  · exact WF.halt _
theorem WF.asIntOf (v : Value) : WF P (asIntOf v) := by
  unfold Go.asIntOf
  split
  · exact WF.pure _
  · exact WF.halt _
  · exact WF.halt _
theorem WF.asBool (v : Value) : WF P (asBool v) := by
  unfold Go.asBool
  split
  · exact WF.pure _
  · exact WF.halt _
theorem WF.asAgg (v : Value) : WF P (asAgg v) := by
  unfold Go.asAgg
  split
  · exact WF.pure _
  · exact WF.halt _
theorem WF.sureAddr (v : Value) : WF P (Instr.sureAddr v) := by
  unfold Instr.sureAddr
  split
  · exact WF.pure _
  · exact WF.halt _
theorem WF.of_never {s : Sem α} (h : ∀ w v w1, s.run P w ≠ .ok v w1) : WF P s := fun w v w1 e => absurd e (h w v w1)
theorem never_bind {s : Sem α} {f : α → Sem β} (h : ∀ x w v w1, (f x).run P w ≠ .ok v w1) : ∀ w v w1, (s >>= f).run P w ≠ .ok v w1 := fun w v w1 e => by
  rw [Sem.run_bind] at e
  cases hs : s.run P w with
  | ok u w2 => rw [hs] at e; exact h u w2 v w1 e
  | halt x w2 => rw [hs] at e; simp [Result.andThen] at e
theorem never_halt (x : Halt) : ∀ w v w1, (.halt x : Sem α).run P w ≠ .ok v w1 := fun w v w1 e => by simp [Sem.run] at e
theorem never_panic (e : RuntimeError) : ∀ w v w1, (runtimePanic e : Sem α).run P w ≠ .ok v w1 := by
  unfold runtimePanic
  refine never_bind fun p => ?_
  dsimp only
  split <;> first
    | exact never_halt _
    | exact never_bind fun _ => never_bind fun _ => never_halt _
    | exact never_bind fun _ => never_halt _
theorem WF.bounds (k : IntKind) (x y : Int) (c : BoundsCode) : WF P (boundsPanic k x y c : Sem α) := WF.of_never (by
  unfold boundsPanic
  dsimp only
  split <;> exact never_bind fun _ => never_panic _)
theorem WF.part (t : TypeId) (cs : Array Value) (o : Nat) : WF P (part t cs o) := WF.bind (WF.isAgg t) fun b => by
  split
  · exact WF.bind (WF.sizeOf t) fun _ => WF.pure _
  · split
    · exact WF.pure _
    · exact WF.halt _
theorem WF.field (t : TypeId) (x : Value) (f : Nat) : WF P (Instr.field t x f) := WF.bind (WF.underlying t) fun d => by
  split
  · split
    · exact WF.bind (WF.asAgg x) fun _ => WF.part _ _ _
    · exact WF.halt _
  · exact WF.halt _
theorem WF.indexAt (t : TypeId) (x i : Value) : WF P (Instr.indexAt t x i) := WF.bind (WF.asIntOf i) fun q => by
  obtain ⟨k, i⟩ := q
  dsimp only
  refine WF.bind (WF.underlying t) fun d => ?_
  have rest : ∀ q : Option Addr × Nat × TypeId, WF P (do
      let d ← Go.underlying t
      match q.1 with
      | some a =>
        if 0 ≤ i ∧ i < (q.2.1 : Int) then do
          let s ← Go.sizeOf q.2.2
          Pure.pure (Value.pointer (some (a.add (i.toNat * s))))
        else if (decide (q.2.1 ≤ 1) && (match d with | .array .. => true | _ => false)) = true then unsupported (.noEntry "op/indexAddr.an index out of range at an array of length 0 or 1 (ledger 616)")
        else boundsPanic k i q.2.1 .index
      | none => boundsPanic k i 0 .index : Sem Value) := fun q => by
    refine WF.bind (WF.underlying t) fun d => ?_
    split
    · split
      · exact WF.bind (WF.sizeOf _) fun _ => WF.pure _
      · repeat' split
        all_goals first | exact WF.halt _ | exact WF.bounds _ _ _ _
    · exact WF.bounds _ _ _ _
  split
  · exact WF.bind (WF.sureAddr _) fun _ => WF.bind (WF.pure _) fun q => rest q
  · exact WF.bind (WF.pure _) fun q => rest q
  · exact WF.bind (WF.halt _) fun q => rest q
theorem WF.index (t : TypeId) (x i : Value) : WF P (Instr.index t x i) := WF.bind (WF.asIntOf i) fun q => by
  obtain ⟨k, i⟩ := q
  dsimp only
  refine WF.bind (WF.underlying t) fun d => ?_
  split
  · split
    · exact WF.bind (WF.sizeOf _) fun _ => WF.part _ _ _
    · exact WF.bounds _ _ _ _
  · split
    · exact WF.pure _
    · exact WF.bounds _ _ _ _
  · exact WF.halt _
theorem WF.extract (x : Value) (i : Nat) : WF P (Instr.extract x i) := by
  unfold Instr.extract
  split
  · split
    · exact WF.pure _
    · exact WF.halt _
  · exact WF.halt _
theorem WF.sliceBound (x : Value) (y : Nat) (c : BoundsCode) : WF P (Instr.sliceBound x y c) := WF.bind (WF.asIntOf x) fun q => by
  obtain ⟨k, i⟩ := q
  dsimp only
  split
  · exact WF.pure _
  · exact WF.bounds _ _ _ _
theorem WF.sliceBounds (b : Bool) (len cap : Nat) (l h : Option Value) : WF P (Instr.sliceBounds b len cap l h none) := by
  cases h with
  | none =>
    cases l with
    | none => exact WF.bind (WF.pure _) fun _ => WF.bind (WF.pure _) fun _ => WF.bind (WF.pure _) fun _ => WF.pure _
    | some l => exact WF.bind (WF.pure _) fun _ => WF.bind (WF.pure _) fun _ => WF.bind (WF.sliceBound _ _ _) fun _ => WF.pure _
  | some h =>
    cases l with
    | none => exact WF.bind (WF.pure _) fun _ => WF.bind (WF.sliceBound _ _ _) fun _ => WF.bind (WF.pure _) fun _ => WF.pure _
    | some l => exact WF.bind (WF.pure _) fun _ => WF.bind (WF.sliceBound _ _ _) fun _ => WF.bind (WF.sliceBound _ _ _) fun _ => WF.pure _
theorem WF.asAddr (v : Value) : WF P (asAddr v) := by
  unfold Go.asAddr
  split
  · exact WF.pure _
  · exact WF.of_never (never_panic _)
  · exact WF.halt _
theorem WF.slice (t : TypeId) (x : Value) (l h : Option Value) : WF P (Instr.slice t x l h none) := WF.bind (WF.underlying t) fun d => by
  split
  · exact WF.bind (WF.sliceBounds _ _ _ _ _) fun _ => WF.pure _
  · exact WF.bind (WF.sliceBounds _ _ _ _ _) fun _ => WF.bind (WF.sizeOf _) fun _ => WF.pure _
  · refine WF.bind (WF.asAddr _) fun _ => WF.bind (WF.underlying _) fun d => ?_
    split
    · exact WF.bind (WF.sliceBounds _ _ _ _ _) fun _ => WF.bind (WF.sizeOf _) fun _ => WF.pure _
    · exact WF.halt _
  · exact WF.halt _
theorem WF.sliceAt (t : TypeId) (x : Value) (l h : Option Value) : WF P (Instr.sliceAt t x l h none) := WF.bind (WF.underlying t) fun d => by
  split
  · exact WF.bind (WF.sureAddr _) fun _ => WF.bind (WF.sliceBounds _ _ _ _ _) fun _ => WF.bind (WF.sizeOf _) fun _ => WF.pure _
  · exact WF.slice _ _ _ _
theorem WF.mapM_list {f : α → Sem β} (h : ∀ x, WF P (f x)) : ∀ l : List α, WF P (l.mapM f)
  | [] => WF.pure _
  | x :: l => by
    rw [List.mapM_cons]
    exact WF.bind (h x) fun _ => WF.bind (WF.mapM_list h l) fun _ => WF.pure _
theorem WF.mapM {f : α → Sem β} (h : ∀ x, WF P (f x)) (a : Array α) : WF P (a.mapM f) := by
  rw [Array.mapM_eq_mapM_toList, ← bind_pure_comp]
  exact WF.bind (WF.mapM_list h _) fun _ => WF.pure _
theorem WF.build (t : TypeId) (ps : Array (Nat × Value)) : WF P (Instr.build t ps) := WF.bind (WF.zeroValue t) fun z => by
  refine WF.bind (WF.underlying t) fun d => ?_
  split
  · refine WF.bind (WF.mapM (fun f => WF.bind (WF.sizeOf _) fun _ => WF.pure _) _) fun _ => ?_
    split
    · exact WF.pure _
    · exact WF.halt _
  · refine WF.bind (WF.sizeOf _) fun _ => ?_
    split
    · exact WF.pure _
    · exact WF.halt _
  · exact WF.halt _
end
end Go.Fw
end

section
namespace Go.Fw
def Kof (hint : List Nat) (E : Env) (w : World) (bx : List Bx) (c : Nat) : Prop := E.T c ∨ ∃ n B, n ∈ hint ∧ bx[n]? = some B ∧ BRB E w n B c
def Same (K : Nat → Prop) (w w' : World) : Prop := ∀ c, K c → w'.heap[c]? = w.heap[c]?
theorem RB_path {w : World} {B : Nat → Prop} : ∀ {p : List Stp} {r : Ty} {h : Value} {rows : List r.D} {q : Ty} {ys : List q.D} {bb o len cap i : Nat}, Rd w B (.sl r) [h] rows → PathOk r rows p → getP r rows p = some ⟨q, ys⟩ →
    hdrAt w h p = some (.slice (some ⟨bb, o, none⟩) len cap) → i < ys.length → RB w (.sl r) [h] rows bb
  | [], r, h, rows, q, ys, bb, o, len, cap, i, hr, hp, hg, hh, hi => by
    rw [hdrAt_here] at hh
    cases hh
    simp only [getP, Option.some.injEq, Sigma.mk.injEq] at hg
    obtain ⟨rfl, hg⟩ := hg
    obtain rfl := eq_of_heq hg
    simp only [RB]
    exact ⟨bb, o, len, cap, rfl, by omega, .inl rfl⟩
  | s :: p, r, h, rows, q, ys, bb, o, len, cap, i, hr, hp, hg, hh, hi => by
    simp only [PathOk] at hp
    obtain ⟨hsi, hsz, hp⟩ := hp
    simp only [Rd] at hr
    obtain ⟨a, cap', e1, _, hr⟩ := hr
    obtain rfl := (List.cons.inj e1).1
    rcases hr with hr | ⟨b', o', rfl, hb, hr⟩
    · omega
    obtain ⟨cs, hl, hc, hrow⟩ := hr s.i _ (rowAt_get hsi)
    simp only [getP] at hg
    split at hg
    case h_2 => cases hg
    rename_i q' x hcg
    rw [hcg] at hp
    dsimp only at hp
    obtain ⟨v, hv, hrv⟩ := Rd_cell hrow hcg
    have hcv := hc _ _ hv
    rw [← hsz] at hcv
    simp only [hdrAt, hcv] at hh
    have := RB_path hrv hp hg hh hi
    simp only [RB]
    refine ⟨b', o', _, cap', rfl, by omega, .inr ⟨s.i, _, cs, rowAt_get hsi, hl, hc, ?_⟩⟩
    clear hc hcv e1 hr
    exact RB_cell hrow hcg hv this
where
  RB_cell {w : World} {B : Nat → Prop} {c : Nat} : ∀ {r : Ty} {cs : List Value} {x : r.D} {j : Nat} {t : Ty} {y : t.D} {v : Value}, Rd w B r cs x → cellGet r j x = some ⟨t, y⟩ → cs[j]? = some v → RB w t [v] y c → RB w r cs x c
  | .cons c r, cs, x, 0, t, y, v, h, e, hv, k => by
    simp only [Rd] at h
    obtain ⟨u, l, rfl, h1, h2⟩ := h
    simp only [cellGet, Option.some.injEq, Sigma.mk.injEq] at e
    obtain ⟨rfl, e⟩ := e
    obtain rfl := eq_of_heq e
    simp at hv; subst hv
    simp only [RB]
    exact ⟨u, l, rfl, .inl k⟩
  | .cons c r, cs, x, j + 1, t, y, v, h, e, hv, k => by
    simp only [Rd] at h
    obtain ⟨u, l, rfl, h1, h2⟩ := h
    simp only [cellGet] at e
    have := RB_cell h2 e (by simpa using hv) k
    simp only [RB]
    exact ⟨u, l, rfl, .inr this⟩
  | .int k, cs, x, 0, t, y, v, h, e, hv, k' => by
    simp only [cellGet, Option.some.injEq, Sigma.mk.injEq] at e
    obtain ⟨rfl, _⟩ := e
    simp [RB] at k'
  | .bool, cs, x, 0, t, y, v, h, e, hv, k' => by
    simp only [cellGet, Option.some.injEq, Sigma.mk.injEq] at e
    obtain ⟨rfl, _⟩ := e
    simp [RB] at k'
  | .str, cs, x, 0, t, y, v, h, e, hv, k' => by
    simp only [cellGet, Option.some.injEq, Sigma.mk.injEq] at e
    obtain ⟨rfl, _⟩ := e
    simp [RB] at k'
  | .sl r, cs, x, 0, t, y, v, h, e, hv, k => by
    simp only [cellGet, Option.some.injEq, Sigma.mk.injEq] at e
    obtain ⟨rfl, e⟩ := e
    obtain rfl := eq_of_heq e
    have hl := Rd_len h
    simp only [Ty.n] at hl
    obtain ⟨u, rfl⟩ := List.length_eq_one_iff.1 hl
    simp at hv; subst hv
    exact k
  | .unit, _, _, _, _, _, _, _, e, _, _ => by simp [cellGet] at e
  | .int _, _, _, _ + 1, _, _, _, _, e, _, _ => by simp [cellGet] at e
  | .bool, _, _, _ + 1, _, _, _, _, e, _, _ => by simp [cellGet] at e
  | .str, _, _, _ + 1, _, _, _, _, e, _, _ => by simp [cellGet] at e
  | .sl _, _, _, _ + 1, _, _, _, _, e, _, _ => by simp [cellGet] at e
section
variable {P : Program} {T : Tab} (hT : TabOk P T) {E : Env} {w : World}
include hT
theorem loadX_all {σ : St} {Fs : List (List Nat)} (hB : BoxesF E w σ.bx σ.bx Fs) (st : ∀ c, E.S c → E.T c) {t : Nat} {x : AV} {z : XV} (e : loadX T t σ (.c x) = some z) {v : Value} (hx : VR E w σ.bx x v) :
    ∃ bb oo u y, v = .pointer (some ⟨bb, oo, none⟩) ∧ cellAtAddr σ.bx x 0 = some y ∧ XR E w σ.bx z u ∧ ∀ w', w'.heap[bb]? = w.heap[bb]? → (Instr.loadAt t v).run P w' = .ok u w' := by
  unfold loadX at e
  split at e
  case h_2 => cases e
  rename_i x' ti hx' hti
  cases hx'
  split at e
  case isTrue => cases e
  rename_i hsz
  have hagg := fun w => TabOk.isAgg hT hti w
  split at e
  · rename_i ha
    simp only [Option.map_eq_some_iff] at e
    obtain ⟨l, hl, rfl⟩ := e
    obtain ⟨h1, h2⟩ := seqCells_get hl
    have h0 : 0 < l.length := by omega
    obtain ⟨b, o, u, hv, _, _⟩ := cellAtAddr_sound hB st (h2 0 _ (List.getElem?_eq_getElem h0)) hx
    obtain ⟨cs, c1, c2, c3⟩ := cellsAtAddr hB st hx hv (l := l) (j := 0) (fun i y hy => by simpa using h2 i y hy)
    subst hv
    have hund := (hT t ti hti).und
    cases hd : ti.desc with
    | st fs =>
      rw [hd] at hund
      obtain ⟨fields, hu, _⟩ := hund
      refine ⟨b, o, .agg cs.toArray, _, rfl, by simpa using h2 0 _ (List.getElem?_eq_getElem h0), ⟨cs.toArray, rfl, by simpa using c3⟩, fun w' hw => run_loadAt_mid w' b o t cs _ (by have := c2.of_block hw; simpa [CellsAt, World.rangeAt] using this) hu rfl ?_⟩
      rw [TabOk.size hT hti, c1, h1]
    | _ => rw [hd] at ha; simp [TD.agg] at ha
  · rename_i ha
    simp only [Bool.not_eq_true] at ha
    simp only [Option.map_eq_some_iff] at e
    obtain ⟨y, hy, rfl⟩ := e
    obtain ⟨b, o, u, hv, hc, hr⟩ := cellAtAddr_sound hB st hy hx
    subst hv
    refine ⟨b, o, u, y, rfl, hy, hr, fun w' hw => ?_⟩
    have hagg' := hagg w'
    rw [ha] at hagg'
    simp only [Nat.add_zero] at hc
    have hc' : w'.cell? ⟨b, o, none⟩ = some u := by rw [World.cell?_of_block (a := ⟨b, o, none⟩) hw]; exact hc
    simp [Instr.loadAt, Instr.sureAddr, loadVar, hagg', hc']
end
theorem VR_v_any {E E' : Env} {w w' : World} {vw vw' : List Bx} {t : Ty} {x : t.D} {v : Value} (h : VR E w vw (.v t x) v) : VR E' w' vw' (.v t x) v := by
  obtain ⟨h1, h2⟩ := h
  refine ⟨h1, ?_⟩
  cases t <;> simp_all [Ty.scalar, Rd]
theorem VR_v_one {E E' : Env} {w w' : World} {vw vw' : List Bx} {t : Ty} {x : t.D} {v u : Value} (h : VR E w vw (.v t x) v) (k : VR E' w' vw' (.v t x) u) : v = u := by
  obtain ⟨h1, h2⟩ := h
  obtain ⟨_, k2⟩ := k
  cases t <;> simp_all [Ty.scalar, Rd]
def PlainX (x : XV) : Prop := (∃ t z, x = .c (.v t z)) ∨ (∃ l, x = .agg l ∧ ∀ c ∈ l, ∃ t z, c = .v t z)
theorem XR_plain_any {E E' : Env} {w w' : World} {vw vw' : List Bx} {x : XV} {v : Value} (hp : PlainX x) (h : XR E w vw x v) : XR E' w' vw' x v := by
  rcases hp with ⟨t, z, rfl⟩ | ⟨l, rfl, hl⟩
  · exact VR_v_any (E := E) (w := w) (vw := vw) (E' := E') (w' := w') (vw' := vw') h
  · obtain ⟨vs, rfl, hvs⟩ := h
    refine ⟨vs, rfl, ?_⟩
    generalize vs.toList = m at hvs
    induction l generalizing m with
    | nil => cases m with
      | nil => trivial
      | cons _ _ => exact hvs.elim
    | cons c l ih => cases m with
      | nil => exact hvs.elim
      | cons u m =>
        obtain ⟨t, z, rfl⟩ := hl c (by simp)
        exact ⟨VR_v_any hvs.1, ih (fun c hc => hl c (by simp [hc])) m hvs.2⟩
theorem cellEq_plain {d : TD} {x z : AV} {p : Bool} (e : cellEq d x z = some p) : (∃ t y, x = .v t y) ∧ ∃ t y, z = .v t y := by
  unfold cellEq at e
  split at e
  · exact ⟨⟨_, _, rfl⟩, _, _, rfl⟩
  · exact ⟨⟨_, _, rfl⟩, _, _, rfl⟩
  · exact ⟨⟨_, _, rfl⟩, _, _, rfl⟩
  · cases e
theorem eqCells_plain {T : Tab} : ∀ {i : Nat} {fs : List (Nat × Nat)} {l m : List AV} {r : Bool}, eqCells T i fs l m = some r → (∀ c ∈ l, ∃ t z, c = .v t z) ∧ ∀ c ∈ m, ∃ t z, c = .v t z
  | i, [], [], [], r, e => by simp
  | i, (o, t) :: fs, x :: l, z :: m, r, e => by
    simp only [eqCells] at e
    split at e
    case isFalse => cases e
    split at e
    case h_2 => cases e
    split at e
    case h_2 => cases e
    rename_i p hp
    simp only [Option.map_eq_some_iff] at e
    obtain ⟨r', e1, _⟩ := e
    obtain ⟨a1, a2⟩ := cellEq_plain hp
    obtain ⟨b1, b2⟩ := eqCells_plain e1
    exact ⟨fun c hc => (List.mem_cons.1 hc).elim (fun e => e ▸ a1) (b1 c), fun c hc => (List.mem_cons.1 hc).elim (fun e => e ▸ a2) (b2 c)⟩
  | _, [], [], _ :: _, _, e => by simp [eqCells] at e
  | _, [], _ :: _, _, _, e => by simp [eqCells] at e
  | _, _ :: _, [], _, _, e => by simp [eqCells] at e
  | _, _ :: _, _ :: _, [], _, e => by simp [eqCells] at e
theorem intOp_v {op : BinOp} {κ : IntKind} {a b : Int} {r : AV} (e : intOp op κ a b some = some r) : ∃ t x, r = .v t x := by
  cases op <;> simp only [intOp, Option.some.injEq] at e <;> first
    | exact ⟨_, _, e.symm⟩
    | (split at e
       · cases e
       · cases e; exact ⟨_, _, rfl⟩)
    | cases e
theorem shiftOp_v {op : BinOp} {κ : IntKind} {a b : Int} {r : AV} (e : shiftOp op κ a b some = some r) : ∃ t x, r = .v t x := by
  unfold shiftOp at e
  split at e
  · cases e
  · cases op <;> simp only [Option.some.injEq] at e <;> first
      | exact ⟨_, _, e.symm⟩
      | cases e
theorem strOp_v {op : BinOp} {a b : List UInt8} {r : AV} (e : strOp op a b some = some r) : ∃ t x, r = .v t x := by
  cases op <;> simp only [strOp, Option.some.injEq] at e <;> first
    | exact ⟨_, _, e.symm⟩
    | (split at e
       · cases e; exact ⟨_, _, rfl⟩
       · cases e)
    | cases e
theorem binX_v {T : Tab} {t : Nat} {op : BinOp} {a b : XV} {r : AV} (e : binX T t op a b some = some r) : (∃ t x, r = .v t x) ∧ PlainX a ∧ PlainX b := by
  unfold binX at e
  split at e
  · refine ⟨?_, .inl ⟨_, _, rfl⟩, .inl ⟨_, _, rfl⟩⟩
    split at e
    · exact shiftOp_v e
    · exact shiftOp_v e
    · split at e
      · exact intOp_v e
      · cases e
  · exact ⟨strOp_v e, .inl ⟨_, _, rfl⟩, .inl ⟨_, _, rfl⟩⟩
  · refine ⟨?_, .inl ⟨_, _, rfl⟩, .inl ⟨_, _, rfl⟩⟩
    split at e
    · split at e
      · split at e
        · cases e; exact ⟨_, _, rfl⟩
        · cases e; exact ⟨_, _, rfl⟩
        · cases e
      · cases e
    · cases e
  · split at e
    · rename_i hq
      rw [Option.bind_eq_some_iff] at hq
      obtain ⟨fs, _, hq⟩ := hq
      obtain ⟨q1, q2⟩ := eqCells_plain hq
      cases e
      exact ⟨⟨_, _, rfl⟩, .inr ⟨_, rfl, q1⟩, .inr ⟨_, rfl, q2⟩⟩
    · rename_i hq
      rw [Option.bind_eq_some_iff] at hq
      obtain ⟨fs, _, hq⟩ := hq
      obtain ⟨q1, q2⟩ := eqCells_plain hq
      cases e
      exact ⟨⟨_, _, rfl⟩, .inr ⟨_, rfl, q1⟩, .inr ⟨_, rfl, q2⟩⟩
    · cases e
  · cases e
theorem maxX_v {g : Bool} {a b : XV} {r : AV} (e : maxX g a b some = some r) : (∃ t x, r = .v t x) ∧ PlainX a ∧ PlainX b := by
  unfold maxX at e
  split at e
  · refine ⟨?_, .inl ⟨_, _, rfl⟩, .inl ⟨_, _, rfl⟩⟩
    split at e
    · cases g <;> (cases e; exact ⟨_, _, rfl⟩)
    · cases e
  · cases e
theorem unX_v {op : UnOp} {a : XV} {r : AV} (e : unX op a some = some r) : (∃ t x, r = .v t x) ∧ PlainX a := by
  unfold unX at e
  split at e
  · cases e; exact ⟨⟨_, _, rfl⟩, .inl ⟨_, _, rfl⟩⟩
  · cases e; exact ⟨⟨_, _, rfl⟩, .inl ⟨_, _, rfl⟩⟩
  · cases e
section
variable {Y : Type} {P : Program} {T : Tab} (hT : TabOk P T) {Γ : Nat → Option Con} {o : Oper} {E : Env} {σ : St} {a : Act} {w : World} {k : K Y} {y : Y}
include hT
theorem build_run (h : Rel E σ a w) {t : TypeId} (ps : Array (Nat × Operand)) {s b : Nat} {fs : List (Nat × Nat)} {rw : Option Ty} (hti : T.get t = some ⟨s, b, .st fs, rw⟩) {r : Ty} (hr : T.rowTy t = some r)
    {cs : List AV} (hb : buildX T fs (zeroRow r) (ps.toList.map fun q => (q.1, σ.ev q.2)) = some cs) :
    ∃ arr', (∀ w', (Instr.build t (ps.map fun (i, x) => (i, a.eval x))).run P w' = .ok (.agg arr') w') ∧ VRs E w σ.bx cs arr'.toList := by
  obtain ⟨i, z, h1, h2, h3, _⟩ := row_zero hT hr
  obtain ⟨fields, hu, hfs, hsz⟩ := stOf hT hti
  obtain ⟨arr', f1, f2⟩ := buildX_sound hT (parts_ev h ps) (arr := z.cells) (by rw [h3]; exact zeroRow_VRs r) hb
  refine ⟨arr', fun w' => ?_, f2⟩
  have hb : P.built t (ps.map fun (i, x) => (i, a.eval x)).toList = some arr' := by
    unfold Program.built
    simp only [h1, hu, h2]
    have hm : fields.toList.mapM (fun f => (P.info? f.type).map fun i => (f.offset, i.size)) = some (fields.toList.map fun f => (f.offset, ((P.info? f.type).map (·.size)).getD 0)) := by
      refine mapM_all fun f hf => ?_
      obtain ⟨i', hi', _⟩ := hsz f hf
      simp [hi']
    simp only [hm]
    rw [← f1]
    congr 1
    funext n
    subst hfs
    simp only [List.getElem?_toArray, List.getElem?_map]
    cases hn : fields.toList[n]? with
    | none => simp
    | some f =>
      obtain ⟨i', hi', _⟩ := hsz f (List.mem_of_getElem? hn)
      simp [hi']
  exact run_build (P := P) w' t (ps.map fun (i, x) => (i, a.eval x)) arr' hb
theorem quiet_done {hint : List Nat} (h : Rel E σ a w) (hq : quietOp hint σ o.op = true) (e : execX T Γ o σ k = some y) :
    ∃ v x, XR E w σ.bx x v ∧ k x σ = some y ∧ ∀ w', Same (Kof hint E w σ.bx) w w' → (execOp a.eval o).run P w' = .ok (.value v) w' := by
  obtain ⟨Fs, hB, hS⟩ := h.bx
  have st := hS.st
  have wf : ∀ {s : Sem Value} {v : Value}, WF P s → s.run P w = .ok v w → ∀ w', s.run P w' = .ok v w' := fun h1 h2 w' => h1 w _ w h2 w'
  unfold execX at e
  split at e
  · rename_i x ho
    exact ⟨a.eval x, _, h.ev x, e, fun w' _ => by simp only [execOp, ho, Sem.run_pure]⟩
  · rename_i x ho
    unfold assignX at e
    split at e
    · rename_i hx
      rw [ho] at hq
      simp only [quietOp, hx] at hq
      cases hq
    · exact ⟨a.eval x, _, h.ev x, e, fun w' _ => by simp only [execOp, ho, Sem.run_pure]⟩
  · rename_i c xa xb ho
    split at e
    case h_2 => cases e
    rename_i p hp
    have hc := h.ev c
    rw [hp] at hc
    have hc' := VR_bool (E := E) (w := w) (vw := σ.bx) hc
    refine ⟨if p then a.eval xa else a.eval xb, if p then σ.ev xa else σ.ev xb, by cases p <;> simp [h.ev], by cases p <;> simpa [pickX] using e, fun w' _ => by simp [execOp, ho, hc', asBool]⟩
  · rename_i t ho; rw [ho] at hq; cases hq
  · rename_i t x ho; rw [ho] at hq; cases hq
  · rename_i t ps ho
    split at e
    case h_2 => cases e
    rename_i s b fs rw r hti hr
    split at e
    case h_2 => cases e
    rename_i cs hcs
    obtain ⟨arr', h1, h2⟩ := build_run hT h ps hti hr hcs
    exact ⟨.agg arr', .agg cs, ⟨arr', rfl, h2⟩, e, fun w' _ => by simp only [execOp, ho, Sem.run_bind, h1 w', Result.andThen_ok, Sem.run_pure]⟩
  · rename_i t n ps ho; rw [ho] at hq; cases hq
  · rename_i t x ho
    rw [ho] at hq
    split at e
    case h_2 => cases e
    rename_i z hz
    have hv := h.ev x
    simp only [quietOp] at hq
    generalize hX : σ.ev x = X at hq hv hz
    cases X with
    | agg l => cases hq
    | tup l => cases hq
    | c ad =>
      obtain ⟨bb, oo, u, cell, hp, hc, h2, h3⟩ := loadX_all hT hB st hz hv
      refine ⟨u, z, h2, e, fun w' hw' => ?_⟩
      have hbb : w'.heap[bb]? = w.heap[bb]? := by
        refine hw' bb ?_
        have hv' : VR E w σ.bx ad (a.eval x) := hv
        cases ad with
        | maddr b j =>
          simp only [loadStable, List.contains_iff_mem] at hq
          simp only [cellAtAddr] at hc
          split at hc
          · rename_i cs hb
            refine .inr ⟨b, _, hq, hb, ?_⟩
            have := hv'.2
            rw [hp] at this
            simp only [Value.pointer.injEq, Option.some.injEq, Addr.mk.injEq] at this
            exact this.1
          · cases hc
        | saddr b p i sz j =>
          simp only [loadStable, List.contains_iff_mem] at hq
          simp only [cellAtAddr] at hc
          split at hc
          · rename_i d q rows hb
            refine .inr ⟨b, _, hq, hb, ?_⟩
            simp only [VR, hb] at hv'
            obtain ⟨_, hpp, q1, ys, b2, o2, len, cap, g1, g2, g3, g4⟩ := hv'
            rw [hp] at g4
            simp only [Value.pointer.injEq, Option.some.injEq, Addr.mk.injEq] at g4
            obtain ⟨rfl, _⟩ := g4
            obtain ⟨F, ⟨_, ho2⟩, _⟩ := hB.get hb
            exact RB_path (Ow_rd ho2) hpp g1 g3 g2
          · cases hc
        | raddr s r z j =>
          obtain ⟨b2, o2, cs, g1, g2, _⟩ := hv'
          rw [hp] at g1
          simp only [Value.pointer.injEq, Option.some.injEq, Addr.mk.injEq] at g1
          obtain ⟨rfl, _⟩ := g1
          left
          cases s with
          | true => exact st _ (by simpa using g2)
          | false => simpa using g2
        | _ => cases hq
      simp only [execOp, ho, Sem.run_bind, h3 w' hbb, Result.andThen_ok, Sem.run_pure]
  · rename_i t xa xx ho; rw [ho] at hq; cases hq
  · rename_i x ho
    have hx := h.ev x
    split at e
    · rename_i b j hp
      rw [hp] at hx
      have hx' : b < σ.bx.length ∧ a.eval x = .pointer (some ⟨E.blk b, j, none⟩) := hx
      exact ⟨a.eval x, _, hx, e, fun w' _ => by simp only [execOp, ho, hx'.2, Sem.run_pure]⟩
    · rename_i b p i sz j hp
      rw [hp] at hx
      have hpt : isPtr (a.eval x) = true := hx.1
      refine ⟨a.eval x, _, hx, e, fun w' _ => ?_⟩
      unfold isPtr at hpt
      split at hpt
      · rename_i hv
        simp only [execOp, ho, hv, Sem.run_pure]
      · cases hpt
    · rename_i s r z j hp
      rw [hp] at hx
      obtain ⟨bb, oo, cs, hv, hrest⟩ := hx
      exact ⟨a.eval x, .c (.raddr s r z j), ⟨bb, oo, cs, hv, hrest⟩, e, fun w' _ => by simp only [execOp, ho, hv, Sem.run_pure]⟩
    · rename_i f caps hp
      rw [hp] at hx
      have hx' : (∀ b ∈ caps, b < σ.bx.length) ∧ a.eval x = .func (.func f) #[] (caps.map fun b => Value.pointer (some ⟨E.blk b, 0, none⟩)).toArray := hx
      exact ⟨a.eval x, _, hx, e, fun w' _ => by simp only [execOp, ho, hx'.2, Sem.run_pure]⟩
    · cases e
  · rename_i op t x z s ho
    rw [binX_nat, Option.bind_eq_some_iff] at e
    obtain ⟨r, e1, e⟩ := e
    obtain ⟨⟨t', x', rfl⟩, p1, p2⟩ := binX_v e1
    obtain ⟨r0, val, h1, h2, h3⟩ := binX_sound hT e1 (h.ev x) (h.ev z) x z
    cases h1
    refine ⟨val, .c (.v t' x'), h3, e, fun w' _ => ?_⟩
    obtain ⟨r1, val', g1, g2, g3⟩ := binX_sound hT e1 (XR_plain_any (E' := E) (w' := w') (vw' := σ.bx) p1 (h.ev x)) (XR_plain_any p2 (h.ev z)) x z
    cases g1
    have := VR_v_one h3 g3
    subst this
    simp only [execOp, ho, Sem.run_bind]
    simp only [Sem.run_bind] at g2
    rw [g2]; rfl
  · rename_i op t x ho
    rw [unX_nat, Option.bind_eq_some_iff] at e
    obtain ⟨r, e1, e⟩ := e
    obtain ⟨⟨t', x', rfl⟩, p1⟩ := unX_v e1
    obtain ⟨r0, val, h1, h2, h3⟩ := unX_sound (P := P) e1 (h.ev x)
    cases h1
    refine ⟨val, .c (.v t' x'), h3, e, fun w' _ => ?_⟩
    obtain ⟨r1, val', g1, g2, g3⟩ := unX_sound (P := P) e1 (XR_plain_any (E' := E) (w' := w') (vw' := σ.bx) p1 (h.ev x))
    cases g1
    have := VR_v_one h3 g3
    subst this
    simp only [execOp, ho, Sem.run_bind, g2, Result.andThen_ok, Sem.run_pure]
  · rename_i s d x ho; rw [ho] at hq; cases hq
  · rename_i f first caps ho; rw [ho] at hq; cases hq
  · rename_i t l c ho; rw [ho] at hq; cases hq
  · rename_i t x lo hi ho
    obtain ⟨z, val, h1, h2, h3⟩ := sliceX_sound hT hB st e (h.ev x) (OR_ev h lo) (OR_ev h hi)
    exact ⟨val, z, h3, h1, fun w' _ => by simp only [execOp, ho, Option.map_none, Sem.run_bind, wf (WF.sliceAt _ _ _ _) h2 w', Result.andThen_ok, Sem.run_pure]⟩
  · rename_i t x f ho
    split at e
    case h_2 => cases e
    rename_i z hz
    obtain ⟨u, h1, h2⟩ := fieldX_sound hT hz (h.ev x)
    refine ⟨u, z, h2, e, fun w' _ => ?_⟩
    have hw : (Instr.fieldAt t (a.eval x) f).run P w' = .ok u w' := by
      have hx := h.ev x
      unfold fieldX at hz
      split at hz
      case h_2 => cases hz
      rename_i s b fs _ hti
      split at hz
      case h_2 => cases hz
      rename_i o' u' hf
      have key : ∀ ad, a.eval x = .pointer (some ad) → (Instr.fieldAt t (a.eval x) f).run P w' = .ok u w' := by
        intro ad had
        rw [had] at h1 ⊢
        have r1 := run_fieldAt hT (w := w) hti hf (a := ad)
        have r2 := run_fieldAt hT (w := w') hti hf (a := ad)
        rw [r1] at h1
        cases h1
        exact r2
      split at hz
      · rename_i b' j hp
        rw [hp] at hx
        exact key _ hx.2
      · rename_i b' p i sz j hp
        rw [hp] at hx
        have hpt : isPtr (a.eval x) = true := hx.1
        unfold isPtr at hpt
        split at hpt
        · rename_i hv; exact key _ hv
        · cases hpt
      · rename_i s r y' j hp
        rw [hp] at hx
        obtain ⟨bb, oo, cs, hv, _⟩ := hx
        exact key _ hv
      · cases hz
    simp only [execOp, ho, Sem.run_bind, hw, Result.andThen_ok, Sem.run_pure]
  · rename_i t x f ho
    split at e
    case h_2 => cases e
    rename_i z hz
    obtain ⟨u, h1, h2⟩ := partX_sound hT hz (h.ev x)
    exact ⟨u, z, h2, e, fun w' _ => by simp only [execOp, ho, Sem.run_bind, wf (WF.field _ _ _) h1 w', Result.andThen_ok, Sem.run_pure]⟩
  · rename_i t x i ho
    obtain ⟨z, val, h1, h2, h3⟩ := indexX_sound hT hB st e (h.ev x) (h.ev i)
    exact ⟨val, z, h3, h1, fun w' _ => by simp only [execOp, ho, Sem.run_bind, wf (WF.indexAt _ _ _) h2 w', Result.andThen_ok, Sem.run_pure]⟩
  · rename_i t x i ho
    obtain ⟨z, val, h1, h2, h3⟩ := strIndexX_sound hT e (h.ev x) (h.ev i)
    exact ⟨val, z, h3, h1, fun w' _ => by simp only [execOp, ho, Sem.run_bind, wf (WF.index _ _ _) h2 w', Result.andThen_ok, Sem.run_pure]⟩
  · rename_i x i ho
    split at e
    case h_2 => cases e
    rename_i z hz
    obtain ⟨u, h1, h2⟩ := extractX_sound (P := P) hz (h.ev x)
    exact ⟨u, z, h2, e, fun w' _ => by simp only [execOp, ho, Sem.run_bind, wf (WF.extract _ _) h1 w', Result.andThen_ok, Sem.run_pure]⟩
  · rename_i f args ats ho; rw [ho] at hq; cases hq
  · rename_i args ats ho
    split at e
    · rename_i s t hargs hts
      obtain ⟨x, rfl, hx⟩ := toList_one hargs
      have hv := h.ev x
      rw [hx] at hv
      have hv' := VR_str (E := E) (w := w) (vw := σ.bx) hv
      split at e
      case isFalse => cases e
      rename_i hs
      have hu := isStr_spec hT hs
      refine ⟨.int .i64 (s.length : Int), .c (.v (.int .i64) (s.length : Int)), VR.int (E := E) (vw := σ.bx) _ _, e, fun w' _ => ?_⟩
      have hsz : (⟨s.toArray⟩ : ByteArray).size = s.length := by simp [ByteArray.size]
      simp [execOp, ho, resolve, invoke, builtin, Builtin.len_, hts, hv', run_underlying' hu, goInt, hsz]
    · rename_i z t _ hargs hts
      obtain ⟨x, rfl, hx⟩ := toList_one hargs
      have hv := h.ev x
      rw [hx] at hv
      split at e
      case isFalse => cases e
      rename_i hs
      split at e
      case h_2 => cases e
      rename_i n hn
      obtain ⟨el, hu⟩ := isSl_spec hT hs
      obtain ⟨ad, cap, hv'⟩ := lenOf_sound hB st hn hv
      refine ⟨.int .i64 (n : Int), .c (.v (.int .i64) (n : Int)), VR.int (E := E) (vw := σ.bx) _ _, e, fun w' _ => ?_⟩
      simp [execOp, ho, resolve, invoke, builtin, Builtin.len_, hts, hv', run_underlying' hu, goInt]
    · cases e
  · rename_i args ats ho; rw [ho] at hq; cases hq
  · rename_i args ats ho; rw [ho] at hq; cases hq
  · rename_i args ats ho
    split at e
    case h_2 => cases e
    rename_i x1 x2 hargs
    obtain ⟨o1, o2, rfl, hx1, hx2⟩ := toList_two hargs
    have hv1 := h.ev o1
    have hv2 := h.ev o2
    rw [hx1] at hv1
    rw [hx2] at hv2
    rw [maxX_nat, Option.bind_eq_some_iff] at e
    obtain ⟨r, e1, e⟩ := e
    obtain ⟨⟨t', x', rfl⟩, p1, p2⟩ := maxX_v e1
    obtain ⟨r0, val, h1, h2, h3⟩ := maxX_sound (P := P) (big := true) e1 hv1 hv2 ats #[] o.type
    cases h1
    refine ⟨val, .c (.v t' x'), h3, e, fun w' _ => ?_⟩
    obtain ⟨r1, val', g1, g2, g3⟩ := maxX_sound (P := P) (big := true) e1 (XR_plain_any (E' := E) (w' := w') (vw' := σ.bx) p1 hv1) (XR_plain_any p2 hv2) ats #[] o.type
    cases g1
    have := VR_v_one h3 g3
    subst this
    simp only [if_true] at g2
    simp [execOp, ho, resolve, invoke, builtin, g2]
  · rename_i args ats ho
    split at e
    case h_2 => cases e
    rename_i x1 x2 hargs
    obtain ⟨o1, o2, rfl, hx1, hx2⟩ := toList_two hargs
    have hv1 := h.ev o1
    have hv2 := h.ev o2
    rw [hx1] at hv1
    rw [hx2] at hv2
    rw [maxX_nat, Option.bind_eq_some_iff] at e
    obtain ⟨r, e1, e⟩ := e
    obtain ⟨⟨t', x', rfl⟩, p1, p2⟩ := maxX_v e1
    obtain ⟨r0, val, h1, h2, h3⟩ := maxX_sound (P := P) (big := false) e1 hv1 hv2 ats #[] o.type
    cases h1
    refine ⟨val, .c (.v t' x'), h3, e, fun w' _ => ?_⟩
    obtain ⟨r1, val', g1, g2, g3⟩ := maxX_sound (P := P) (big := false) e1 (XR_plain_any (E' := E) (w' := w') (vw' := σ.bx) p1 hv1) (XR_plain_any p2 hv2) ats #[] o.type
    cases g1
    have := VR_v_one h3 g3
    subst this
    simp only [Bool.false_eq_true, if_false] at g2
    simp [execOp, ho, resolve, invoke, builtin, g2]
  · cases e
end
end Go.Fw
end

section
namespace Go.Fw
section
variable {P : Program} {md : Region.Mode} {ops : Array Oper} {Q : Exit → Act → World → Prop}
theorem Same.refl (K : Nat → Prop) (w : World) : Same K w w := fun _ _ => rfl
def TreeR (P : Program) (md : Region.Mode) (ops : Array Oper) (Q : Exit → Act → World → Prop) : Nat → Array Bool → (Nat → Prop) → Act → World → Prop
  | 0, listed, _, a, w => Region.ready md ops listed = [] ∧ Q .normal a w
  | fuel + 1, listed, K, a, w => (Region.ready md ops listed = [] → Q .normal a w) ∧
    ∀ i ∈ Region.ready md ops listed, wpOp P ops Q i (fun a' w' => ∃ K' : Nat → Prop, (∀ c, K c → K' c) ∧ Same K w w' ∧ TreeR P md ops Q fuel (listed.setIfInBounds i true) K' a' w') a w
theorem treeR_any : ∀ (fuel : Nat) (listed : Array Bool) (K : Nat → Prop) (a : Act) (w : World), TreeR P md ops Q fuel listed K a w → wpAny P md ops Q fuel listed a w
  | 0, _, _, _, _, h => h
  | fuel + 1, _, _, _, _, h => ⟨h.1, fun i hi => wpOp_mono (fun a' w' ⟨K', _, _, h'⟩ => treeR_any fuel _ K' a' w' h') (h.2 i hi)⟩
theorem YieldsIf.mono {S S' : World → Prop} {o : Oper} {v : Value} {a : Act} (h : YieldsIf P ops S o v a) (hs : ∀ w, S' w → S w) : YieldsIf P ops S' o v a :=
  h.imp (fun ⟨h1, h2⟩ => ⟨h1, fun w hw => h2 w (hs w hw)⟩) id
theorem treeR_first {i : Nat} {oi : Oper} {v : Value} (hi : ops[i]? = some oi) (hsel : ∀ (j : Nat) (o : Oper) cs b, ops[j]? = some o → o.op ≠ .select cs b) (hQ : ∀ c a w, ¬ Q (.panic c) a w) :
    ∀ (fuel : Nat) (listed : Array Bool) (K : Nat → Prop) (a : Act) (w : World),
      (∀ j oj, ops[j]? = some oj → j ≠ i → listed.getD j true = false → (∀ e ∈ oj.after, Region.binds md e = true → e.on ≠ i) → oi.apart ops oj = true) →
      i ∈ Region.ready md ops listed → YieldsIf P ops (Same K w) oi v a → TreeR P md ops Q fuel (listed.setIfInBounds i true) K (a.put oi.dst v) w → TreeR P md ops Q (fuel + 1) listed K a w := by
  intro fuel
  induction fuel with
  | zero =>
    intro listed K a w _ hr hy H
    refine ⟨fun h => (by rw [h] at hr; cases hr), fun j hj => ?_⟩
    by_cases hji : j = i
    · subst hji; exact hy.wpOp hi (Same.refl K w) ⟨K, fun _ h => h, Same.refl K w, H⟩
    · have := ready_mono hj hji
      rw [H.1] at this
      cases this
  | succ fuel ih =>
    intro listed K a w hfree hr hy H
    refine ⟨fun h => (by rw [h] at hr; cases hr), fun j hj => ?_⟩
    by_cases hji : j = i
    · subst hji; exact hy.wpOp hi (Same.refl K w) ⟨K, fun _ h => h, Same.refl K w, H⟩
    · have h1 := H.2 j (ready_mono hj hji)
      obtain ⟨hjun, oj, hoj, hall⟩ := mem_ready.1 hj
      have hnot : ∀ e ∈ oj.after, Region.binds md e = true → e.on ≠ i := fun e he hb heq => by
        have h1 := hall e he hb
        have h0 := (mem_ready.1 hr).1
        rw [heq] at h1
        rcases Nat.lt_or_ge i listed.size with h' | h'
        · simp [h'] at h0 h1; rw [h0] at h1; cases h1
        · simp [Array.getElem?_eq_none h'] at h1
      have h2 := wpOp_putIf hoj (hfree j oj hoj hji hjun hnot) (fun cs b => hsel i oi cs b hi) (fun cs b => hsel j oj cs b hoj) (fun c a w h => absurd h (hQ c _ w)) hy h1
      have hfree' : ∀ k ok, ops[k]? = some ok → k ≠ i → (listed.setIfInBounds j true).getD k true = false →
          (∀ e ∈ ok.after, Region.binds md e = true → e.on ≠ i) → oi.apart ops ok = true := fun k ok hk hki hun hno => by
        refine hfree k ok hk hki ?_ hno
        by_cases hjk : j = k
        · subst hjk; exact hjun
        · rw [getD_set_ne true hjk] at hun; exact hun
      refine wpOp_mono (fun a' w' h3 => ?_) h2
      obtain ⟨hy', K', hK, hs, ht⟩ := h3
      refine ⟨K', hK, hs, ih (listed.setIfInBounds j true) K' a' w' hfree' (ready_mono hr (Ne.symm hji)) (YieldsIf.mono hy' fun w'' hw'' c hc => (hw'' c (hK c hc)).trans (hs c hc)) ?_⟩
      rw [Array.setIfInBounds_comm _ _ hji]
      exact ht
end
theorem pickOne_all {Y : Type} {f : Nat → List Bool → Option Y} {y : Y} : ∀ {rs : List Nat}, (∀ ω, pickOne f rs ω = some y) → ∀ i ∈ rs, ∀ ω, f i ω = some y
  | [i], h, j, hj, ω => by
    simp at hj; subst hj
    exact h ω
  | i :: j :: r, h, k, hk, ω => by
    rcases List.mem_cons.1 hk with rfl | hk
    · exact h (true :: ω)
    · exact pickOne_all (rs := j :: r) (fun ω => h (false :: ω)) k hk ω
theorem put_know {σ : St} {t : Nat} {b : Bool} (e : σ.tm[t]? = some (.c (.v .bool b))) : σ.put (some t) (.c (.v .bool b)) = σ := by
  simp only [St.put]
  obtain ⟨tm, bx⟩ := σ
  simp only [St.mk.injEq, and_true]
  obtain ⟨hlt, he⟩ := List.getElem?_eq_some_iff.1 e
  apply List.ext_getElem?
  intro i
  rw [List.getElem?_set]
  split
  · rename_i e1; subst e1; exact e.symm
  · rfl
theorem execG_all {Y I : Type} [Nonempty I] {C : Cfg} {ops : Array Oper} {o : Oper} {kn : I → St → Option Y} {σ : St} {y : Y} {E : Env} {a : Act} {w : World} (h : Rel E σ a w)
    (e : ∀ ω, execG C ops o (kn ω) σ = some y) :
    (Region.wanted o (yielded ops a.tmps) = true ∧ ∀ ω, (execX C.T C.Γ o σ fun x σ' => kn ω (σ'.put o.dst x)) = some y) ∨
    (Region.wanted o (yielded ops a.tmps) = false ∧ ∀ ω, kn ω (σ.put o.dst (.tup [])) = some y) := by
  unfold execG at e
  cases hg : o.guard with
  | none =>
    simp only [hg] at e
    exact .inl ⟨by simp [Region.wanted, hg], e⟩
  | some q =>
    obtain ⟨j, want⟩ := q
    simp only [hg] at e
    cases ht : (ops[j]?).bind (·.dst) with
    | none =>
      simp only [ht] at e
      obtain ⟨i0⟩ := ‹Nonempty I›
      cases e i0
    | some t =>
      simp only [ht] at e
      obtain ⟨i0⟩ := ‹Nonempty I›
      have e0 := e i0
      split at e0
      · rename_i b hb
        simp only [hb] at e
        obtain ⟨v, hv, hx⟩ := h.tmp hb
        have hvb := VR_bool (E := E) (w := w) (vw := σ.bx) hx
        subst hvb
        have hy : yielded ops a.tmps j = some b := by rw [yielded_eq ht hv]; rfl
        have hk := put_know hb
        cases b with
        | true =>
          simp only [cond_true, tt, hk] at e
          cases want with
          | true => exact .inl ⟨by simp [Region.wanted, hg, hy], fun ω => by simpa using e ω⟩
          | false => exact .inr ⟨by simp [Region.wanted, hg, hy], fun ω => by simpa using e ω⟩
        | false =>
          simp only [cond_false, ff, hk] at e
          cases want with
          | true => exact .inr ⟨by simp [Region.wanted, hg, hy], fun ω => by simpa using e ω⟩
          | false => exact .inl ⟨by simp [Region.wanted, hg, hy], fun ω => by simpa using e ω⟩
      · rename_i hb
        simp only [hb] at e
        obtain ⟨v, hv, vs, rfl, hx⟩ := h.tmp hb
        have hy : yielded ops a.tmps j = none := by rw [yielded_eq ht hv]; rfl
        exact .inr ⟨by simp [Region.wanted, hg, hy], e⟩
      · cases e0
theorem idle_not {ops : Array Oper} {o : Oper} {σ : St} {E : Env} {a : Act} {w : World} (h : Rel E σ a w) (e : idle ops σ o = true) : Region.wanted o (yielded ops a.tmps) = false := by
  unfold idle at e
  cases hg : o.guard with
  | none => simp [hg] at e
  | some q =>
    obtain ⟨j, want⟩ := q
    simp only [hg] at e
    cases ht : (ops[j]?).bind (·.dst) with
    | none => simp [ht] at e
    | some t =>
      simp only [ht] at e
      split at e
      · rename_i b hb
        obtain ⟨v, hv, hx⟩ := h.tmp hb
        have hvb := VR_bool (E := E) (w := w) (vw := σ.bx) hx
        subst hvb
        have hy : yielded ops a.tmps j = some b := by rw [yielded_eq ht hv]; rfl
        cases b <;> cases want <;> simp_all [Region.wanted]
      · rename_i hb
        obtain ⟨v, hv, vs, rfl, hx⟩ := h.tmp hb
        have hy : yielded ops a.tmps j = none := by rw [yielded_eq ht hv]; rfl
        simp [Region.wanted, hg, hy]
      · cases e
theorem exec1_all {Y I : Type} [Nonempty I] {C : Cfg} {ops : Array Oper} {i : Nat} {o : Oper} (ho : ops[i]? = some o) {kn : I → St → Option Y} {σ : St} {y : Y} {E : Env} {a : Act} {w : World} (h : Rel E σ a w)
    (e : ∀ ω, exec1 C ops i (kn ω) σ = some y) :
    (Region.wanted o (yielded ops a.tmps) = true ∧ ∀ ω, (execX C.T C.Γ o σ fun x σ' => kn ω (σ'.put o.dst x)) = some y) ∨
    (Region.wanted o (yielded ops a.tmps) = false ∧ ∀ ω, kn ω (σ.put o.dst (.tup [])) = some y) :=
  execG_all h fun ω => by
    have := e ω
    unfold exec1 at this
    simpa only [ho] using this
theorem Kof_step {hint t : List Nat} {E E' : Env} {bx bx' : List Bx} {w w' : World} (h : Went t E bx w E' bx' w') (ht : ∀ b ∈ t, b ∉ hint) (ha : ∀ b ∈ hint, isDead bx' b = false) :
    (∀ c, Kof hint E w bx c → Kof hint E' w' bx' c) ∧ Same (Kof hint E w bx) w w' := by
  have key : ∀ n B, n ∈ hint → bx[n]? = some B → ∃ B', bx'[n]? = some B' ∧ SameBx B B' ∧ ∀ c, BRB E w n B c → w'.heap[c]? = w.heap[c]? := by
    intro n B hn hB
    have hd := ha n hn
    unfold isDead at hd
    split at hd
    · cases hd
    · rename_i B' hne hB'
      obtain ⟨h1, h2⟩ := h.frame n B B' (fun hm => ht n hm hn) hB hB' hne
      exact ⟨B', hB', h1, h2⟩
    · cases hd
  refine ⟨fun c hc => ?_, fun c hc => ?_⟩
  · rcases hc with hc | ⟨n, B, hn, hB, hc⟩
    · exact .inl (h.base.T c hc)
    · obtain ⟨B', hB', hs, hh⟩ := key n B hn hB
      have hid := h.ids n (List.getElem?_eq_some_iff.1 hB).1
      refine .inr ⟨n, B', hn, hB', ?_⟩
      cases B with
      | mem cs =>
        cases B' with
        | mem cs' => simp only [BRB] at hc ⊢; rw [hid.1]; exact hc
        | sl _ _ _ => exact hs.elim
        | dead => exact hs.elim
      | sl d r rows =>
        cases B' with
        | mem cs' => exact hs.elim
        | dead => exact hs.elim
        | sl d' r' rows' =>
          simp only [SameBx, Sigma.mk.injEq] at hs
          obtain ⟨rfl, hs⟩ := hs
          obtain rfl := eq_of_heq hs
          simp only [BRB] at hc ⊢
          rw [hid.2]
          exact RB_keep (fun d hd => hh d hd) hc
      | dead => exact hc.elim
  · rcases hc with hc | ⟨n, B, hn, hB, hc⟩
    · exact h.base.heap c hc
    · obtain ⟨B', _, _, hh⟩ := key n B hn hB
      exact hh c hc
theorem runDraw_alive {Y : Type} {C : Cfg} {hint : List Nat} {ops : Array Oper} {kn : List Bool → St → Option Y} {fuel : Nat} {listed : Array Bool} {ω : List Bool} {σ : St} {y : Y} (e : runDraw C hint ops kn fuel listed ω σ = some y) : ∀ b ∈ hint, isDead σ.bx b = false := by
  unfold runDraw at e
  split at e
  · rename_i h
    intro b hb
    simpa using (List.all_eq_true.1 h) b hb
  · cases e
theorem runDraw_tree {Y : Type} {P : Program} {C : Cfg} (hT : TabOk P C.T) (hΓ : SoundΓ P C.Γ) {E0 : Env} {w0 : World} {N nb : Nat} {hint : List Nat} {ops : Array Oper} {kn : List Bool → St → Option Y} {y : Y} {Q : Exit → Act → World → Prop}
    (hsel : Region.noSelect ops = true) (hP : ∀ c a w, ¬ Q (.panic c) a w) (hk : ∀ E σ a w, Ok E0 w0 N nb E σ a w → (∀ ω, kn ω σ = some y) → Q .normal a w) :
    ∀ (fuel : Nat) {listed : Array Bool} {E : Env} {σ : St} {a : Act} {w : World}, Ok E0 w0 N nb E σ a w → (∀ ω, runDraw C hint ops kn fuel listed ω σ = some y) → TreeR P .any ops Q fuel listed (Kof hint E w σ.bx) a w := by
  intro fuel
  induction fuel with
  | zero =>
    intro listed E σ a w h e
    have e1 := fun ω => e ω
    unfold runDraw at e1
    have hal := runDraw_alive (e [])
    have hal' : (hint.all fun b => !isDead σ.bx b) = true := List.all_eq_true.2 fun b hb => by simp [hal b hb]
    simp only [hal', if_true] at e1
    cases hr : Region.ready .any ops listed with
    | nil =>
      simp only [hr] at e1
      exact ⟨hr, hk E σ a w h e1⟩
    | cons i rs =>
      simp only [hr] at e1
      cases e1 []
  | succ fuel ih =>
    intro listed E σ a w h e
    have e1 := fun ω => e ω
    unfold runDraw at e1
    have hal := runDraw_alive (e [])
    have hal' : (hint.all fun b => !isDead σ.bx b) = true := List.all_eq_true.2 fun b hb => by simp [hal b hb]
    simp only [hal', if_true] at e1
    cases hr : Region.ready .any ops listed with
    | nil =>
      simp only [hr] at e1
      exact ⟨fun _ => hk E σ a w h e1, by rw [hr]; simp⟩
    | cons i0 rs =>
      simp only [hr] at e1
      cases hf : (i0 :: rs).find? (takeable hint ops listed σ) with
      | some i =>
        simp only [hf] at e1
        have hi := List.mem_of_find?_eq_some hf
        have ht := List.find?_some hf
        unfold takeable at ht
        cases ho : ops[i]? with
        | none => rw [ho] at ht; cases ht
        | some o =>
          simp only [ho, Bool.and_eq_true] at ht
          have hfree := Region.free_spec ho ht.2
          rw [← hr] at hi
          have hy := exec1_all (I := List Bool) (kn := fun ω σ' => runDraw C hint ops kn fuel (listed.setIfInBounds i true) ω σ') ho h.rel e1
          rcases hy with ⟨hw, hx⟩ | ⟨hw, hx⟩
          · have hq : quietOp hint σ o.op = true := by
              rcases Bool.or_eq_true _ _ ▸ ht.1 with hq | hi
              · exact hq
              · rw [idle_not h.rel hi] at hw
                cases hw
            obtain ⟨x, σ', hx0, hx1⟩ := execX_all hx
            obtain ⟨v, x', q1, q2, q3⟩ := quiet_done hT h.rel hq hx0
            simp only [k0, Option.some.injEq, Prod.mk.injEq] at q2
            obtain ⟨rfl, rfl⟩ := q2
            have hnext := ih (h.put o.dst q1) hx1
            have hbx : (σ.put o.dst x').bx = σ.bx := by cases o.dst <;> rfl
            rw [hbx] at hnext
            exact treeR_first ho (Region.noSelect_spec hsel) hP fuel listed _ a w hfree hi (.inl ⟨hw, q3⟩) hnext
          · have hnext := ih (h.put o.dst XR_undef) hx
            have hbx : (σ.put o.dst (.tup [])).bx = σ.bx := by cases o.dst <;> rfl
            rw [hbx] at hnext
            exact treeR_first ho (Region.noSelect_spec hsel) hP fuel listed _ a w hfree hi (.inr ⟨hw, rfl⟩) hnext
      | none =>
        simp only [hf] at e1
        have hall := pickOne_all e1
        refine ⟨fun h0 => (by rw [h0] at hr; cases hr), fun i hi => ?_⟩
        rw [hr] at hi
        have hx := hall i hi
        cases ho : ops[i]? with
        | none =>
          simp only [ho] at hx
          cases hx []
        | some o =>
          simp only [ho] at hx
          have htc : (touched C.Γ σ o.op).all (fun b => !hint.contains b) = true := by
            have := hx []
            split at this
            · rename_i hh; exact hh
            · cases this
          simp only [htc, if_true] at hx
          have htn : ∀ b ∈ touched C.Γ σ o.op, b ∉ hint := fun b hb hh => by
            have := (List.all_eq_true.1 htc) b hb
            simp [hh] at this
          unfold wpOp
          simp only [ho]
          rcases exec1_all (I := List Bool) (kn := fun ω σ' => runDraw C hint ops kn fuel (listed.setIfInBounds i true) ω σ') ho h.rel hx with ⟨hw, hx⟩ | ⟨hw, hx⟩
          · rw [if_pos hw]
            obtain ⟨x, σ', hx0, hx1⟩ := execX_all hx
            refine .inl (exec_wp hT hΓ h.rel hx0 fun v w' E' x' σ'' g1 g2 g3 g4 g5 => ?_)
            simp only [k0, Option.some.injEq, Prod.mk.injEq] at g5
            obtain ⟨rfl, rfl⟩ := g5
            have hbx : (σ''.put o.dst x').bx = σ''.bx := by cases o.dst <;> rfl
            have hal2 := runDraw_alive (hx1 [])
            rw [hbx] at hal2
            obtain ⟨k1, k2⟩ := Kof_step g3 htn hal2
            have hnext := ih ((h.next g1 g3 g4).put o.dst g2) hx1
            rw [hbx] at hnext
            exact ⟨_, k1, k2, hnext⟩
          · rw [if_neg (by simp [hw])]
            have hnext := ih (h.put o.dst XR_undef) hx
            have hbx : (σ.put o.dst (.tup [])).bx = σ.bx := by cases o.dst <;> rfl
            rw [hbx] at hnext
            exact ⟨_, fun _ h => h, Same.refl _ _, hnext⟩
end Go.Fw
end

section
namespace Go.Fw
theorem Rel.heap {E : Env} {σ : St} {a : Act} {w w' : World} (h : Rel E σ a w) (hw : w'.heap = w.heap) : Rel E σ a w' := by
  have keep : Keep E w σ.bx E w' σ.bx := by
    refine ⟨Nat.le_refl _, fun _ _ => rfl, fun _ h => h, fun _ h => h, h.bx.st, fun _ _ => by rw [hw], fun b d r rows hb e => ⟨d, rows, e, fun p hp q ys hg => ⟨hp, ⟨ys, hg, rfl⟩, fun hh he => ?_⟩⟩⟩
    obtain ⟨Fs, ⟨f1, f2⟩, _⟩ := h.bx
    have hF : Fs[b]? = some (Fs[b]'(by have := (List.getElem?_eq_some_iff.1 e).1; omega)) := List.getElem?_eq_getElem _
    exact Ow_hdr (f2 b _ _ e hF).2 (fun _ _ => by rw [hw]) (fun _ _ => by rw [hw]) hp hg he
  exact ⟨h.nodefer, h.tm.imp fun _ _ hx => XR_keep keep hx, h.bx.turn (fun _ _ hv => VR_keep keep hv) (fun _ h => h) (fun _ _ => rfl) (fun _ _ => rfl) (fun _ _ _ => by rw [hw]) fun F hF => ⟨hF.nodup, hF.free, fun c hc => by rw [hw]; exact hF.lt c hc, hF.st, fun c hc => by rw [hw]; exact hF.tlt c hc⟩⟩
theorem Ok.drawn {E0 E : Env} {w0 w : World} {N nb : Nat} {σ : St} {a : Act} (h : Ok E0 w0 N nb E σ a w) (n : Nat) : Ok E0 w0 N nb E σ a { w with drawn := n } :=
  ⟨h.rel.heap rfl, ⟨h.base.T, h.base.S, h.base.Tof, h.base.Sof, h.base.heap, h.base.os, h.base.tape, h.base.output, h.base.size⟩, h.tm, h.hnb, h.ids⟩
theorem runOps_wp {Y I : Type} [Nonempty I] {P : Program} {C : Cfg} (hT : TabOk P C.T) (hΓ : SoundΓ P C.Γ) {E0 : Env} {w0 : World} {N nb : Nat} {all : Array Oper} {kn : I → St → Option Y} {y : Y} {Q : Exit → Act → World → Prop}
    (hk : ∀ E σ a w, Ok E0 w0 N nb E σ a w → (∀ ω, kn ω σ = some y) → Q .normal a w) : ∀ {l : List Oper} {E : Env} {σ : St} {a : Act} {w : World}, Ok E0 w0 N nb E σ a w → (∀ ω, runOps C all l (kn ω) σ = some y) → wpList P all Q l a w
  | [], E, σ, a, w, h, e => hk E σ a w h e
  | o :: rest, E, σ, a, w, h, e => by
    unfold wpList
    rcases execG_all (kn := fun ω σ => runOps C all rest (kn ω) σ) h.rel e with ⟨hw, hx⟩ | ⟨hw, hx⟩
    · rw [if_pos hw]
      obtain ⟨x, σ', hx0, hx1⟩ := execX_all hx
      refine .inl (exec_wp hT hΓ h.rel hx0 fun v w' E' x' σ'' g1 g2 g3 g4 g5 => ?_)
      simp only [k0, Option.some.injEq, Prod.mk.injEq] at g5
      obtain ⟨rfl, rfl⟩ := g5
      exact runOps_wp hT hΓ hk ((h.next g1 g3 g4).put o.dst g2) hx1
    · rw [if_neg (by simp [hw])]
      exact runOps_wp hT hΓ hk (h.put o.dst XR_undef) hx
def LoopRuns (P : Program) (body : Code) (Q : Exit → Act → World → Prop) (a : Act) (w : World) : Prop :=
  ∀ (b : Frame) (k : List Item) (cs : List Frame), ∃ e a' w', Q e a' w' ∧ Arrives P (lone (b.at a (.code body :: .inLoop body :: k)) cs w) b k cs e a' w'
theorem LoopRuns.wp {P : Program} {body : Code} {Q : Exit → Act → World → Prop} {a : Act} {w : World} (h : LoopRuns P body Q a w) : (Code.loop body).wp P Q a w := fun b k cs => by
  obtain ⟨e, a', w', hq, harr⟩ := h b k cs
  exact ⟨e, a', w', hq, .of_steps (.one step_loop) harr⟩
theorem LoopRuns.of_body {P : Program} {body : Code} {Q : Exit → Act → World → Prop} {a : Act} {w : World} (h : body.wp P (Exit.then (LoopRuns P body Q) Q) a w) : LoopRuns P body Q a w := fun b k cs => by
  obtain ⟨e, a₁, w₁, hq, harr⟩ := h b (.inLoop body :: k) cs
  cases e with
  | normal =>
    obtain ⟨e₂, a₂, w₂, hq₂, harr₂⟩ := hq b k cs
    exact ⟨e₂, a₂, w₂, hq₂, .of_steps (Steps.trans harr (.one step_inLoop)) harr₂⟩
  | exit id => exact ⟨_, a₁, w₁, hq, .pass (x := .inLoop body) rfl (fun _ _ => .inl (by simp)) harr⟩
  | goto l => exact ⟨_, a₁, w₁, hq, .pass (x := .inLoop body) rfl (fun _ _ => .inl (by simp)) harr⟩
  | ret => exact ⟨_, a₁, w₁, hq, .pass (x := .inLoop body) rfl (fun _ _ => .inl (by simp)) harr⟩
  | panic ch => exact ⟨_, a₁, w₁, hq, .pass (x := .inLoop body) rfl (fun _ _ => .inl (by simp)) harr⟩
  | outgrown => exact ⟨_, a₁, w₁, hq, .pass (x := .inLoop body) rfl (fun _ _ => .inl (by simp)) harr⟩
abbrev Post := Exit → Act → World → Prop
def At (P : Program) : Code → Post → Nat → Code → Post → Prop
  | .seq a b, Q, ℓ, body, Q' => At P a (Exit.then (b.wp P Q) Q) ℓ body Q' ∨ At P b Q ℓ body Q'
  | .cond _ a b, Q, ℓ, body, Q' => At P a Q ℓ body Q' ∨ At P b Q ℓ body Q'
  | .block id c, Q, ℓ, body, Q' => At P c (Exit.inBlock id Q) ℓ body Q'
  | .loop c, Q, ℓ, body, Q' => (first c = ℓ ∧ body = c ∧ Q' = Q) ∨ At P c (Exit.then (LoopRuns P c Q) Q) ℓ body Q'
  | _, _, _, _, _ => False
def NoPan (Q : Post) : Prop := ∀ c a w, ¬ Q (.panic c) a w
theorem NoPan.then {Q : Post} (h : NoPan Q) (n : Act → World → Prop) : NoPan (Exit.then n Q) := fun c a w hq => h c a w hq
theorem NoPan.inBlock {Q : Post} (h : NoPan Q) (id : Nat) : NoPan (Exit.inBlock id Q) := fun c a w hq => h c a w hq
section
variable {Y : Type} {P : Program} {C : Cfg} (hT : TabOk P C.T) (hΓ : SoundΓ P C.Γ) (hm : P.follows .mixedOrders = true) {E0 : Env} {w0 : World} {N nb : Nat} {y : Y} {J : Nat → St → Option Y}
structure Good (E0 : Env) (w0 : World) (N nb : Nat) (y : Y) (kn : KN Y) (kx : Nat → KN Y) (kr : KN Y) (Q : Post) : Prop where
  n : ∀ E σ a w, Ok E0 w0 N nb E σ a w → (∀ ω, kn ω σ = some y) → Q .normal a w
  x : ∀ id E σ a w, Ok E0 w0 N nb E σ a w → (∀ ω, kx id ω σ = some y) → Q (.exit id) a w
  r : ∀ E σ a w, Ok E0 w0 N nb E σ a w → (∀ ω, kr ω σ = some y) → Q .ret a w
def JOk (P : Program) (E0 : Env) (w0 : World) (N nb : Nat) (y : Y) (J : Nat → St → Option Y) (cd : Code) (Q : Post) : Prop :=
  ∀ ℓ body Q', At P cd Q ℓ body Q' → ∀ E σ a w, Ok E0 w0 N nb E σ a w → J ℓ σ = some y → LoopRuns P body Q' a w
include hT hΓ hm in
theorem run_wp : ∀ {cd : Code} {kn : KN Y} {kx : Nat → KN Y} {kr : KN Y} {Q : Post} {E : Env} {σ : St} {a : Act} {w : World}, NoPan Q → Good E0 w0 N nb y kn kx kr Q → JOk P E0 w0 N nb y J cd Q → Ok E0 w0 N nb E σ a w →
    (∀ ω, run C J cd kn kx kr ω σ = some y) → cd.wp P Q a w := by
  intro cd
  induction cd with
  | skip => intro kn kx kr Q E σ a w hp hg hj h e; exact wp_skip (hg.n E σ a w h e)
  | region id ops draw =>
    intro kn kx kr Q E σ a w hp hg hj h e
    simp only [run] at e
    cases draw with
    | false =>
      simp only [Bool.false_eq_true, if_false] at e
      exact wp_region_list (runOps_wp hT hΓ hg.n h e)
    | true =>
      simp only [if_true] at e
      have hs : Region.noSelect ops = true := by
        have := e []
        split at this
        · rename_i hh; exact hh
        · cases this
      simp only [hs, if_true] at e
      exact wp_region_any hm (treeR_any _ _ _ _ _ (runDraw_tree hT hΓ hs hp hg.n _ (h.drawn _) e))
  | seq x z ihx ihz =>
    intro kn kx kr Q E σ a w hp hg hj h e
    simp only [run] at e
    refine wp_seq (ihx (hp.then _) ⟨fun E σ a w h e => ihz hp hg (fun ℓ body Q' hat => hj ℓ body Q' (.inr hat)) h e, fun id E σ a w h e => hg.x id E σ a w h e, hg.r⟩ (fun ℓ body Q' hat => hj ℓ body Q' (.inl hat)) h e)
  | cond c x z ihx ihz =>
    intro kn kx kr Q E σ a w hp hg hj h e
    cases c with
    | tmp t =>
      simp only [run] at e
      have e0 := e []
      split at e0
      · rename_i b hb
        simp only [hb] at e
        obtain ⟨v, hv, hx⟩ := h.rel.tmp hb
        have hvb := VR_bool (E := E) (w := w) (vw := σ.bx) hx
        subst hvb
        have hev : a.eval (.tmp t) = .bool b := by simp [Act.eval, Array.getD_eq_getD_getElem?, hv]
        have hk := put_know hb
        cases b with
        | true =>
          simp only [cond_true, tt, hk] at e
          exact wp_cond_true hev (ihx hp hg (fun ℓ body Q' hat => hj ℓ body Q' (.inl hat)) h e)
        | false =>
          simp only [cond_false, ff, hk] at e
          exact wp_cond_false hev (ihz hp hg (fun ℓ body Q' hat => hj ℓ body Q' (.inr hat)) h e)
      · cases e0
    | _ => cases e []
  | block id c ih =>
    intro kn kx kr Q E σ a w hp hg hj h e
    simp only [run] at e
    refine wp_block (ih (hp.inBlock id) ⟨hg.n, fun j E σ a w h e => ?_, hg.r⟩ (fun ℓ body Q' hat => hj ℓ body Q' hat) h e)
    simp only [Exit.inBlock]
    split
    · rename_i hid
      simp only [hid, if_true] at e
      exact hg.n E σ a w h e
    · rename_i hid
      simp only [hid, if_false] at e
      exact hg.x j E σ a w h e
  | loop body ih =>
    intro kn kx kr Q E σ a w hp hg hj h e
    simp only [run] at e
    exact LoopRuns.wp (hj (first body) body Q (.inl ⟨rfl, rfl, rfl⟩) E σ a w h (e []))
  | exit id => intro kn kx kr Q E σ a w hp hg hj h e; exact wp_exit (hg.x id E σ a w h e)
  | ret => intro kn kx kr Q E σ a w hp hg hj h e; exact wp_ret (hg.r E σ a w h e)
  | _ => intro kn kx kr Q E σ a w hp hg hj h e; cases e []
end
end Go.Fw
end

section
namespace Go.Fw
def labels : Code → List Nat
  | .seq a b => labels a ++ labels b
  | .cond _ a b => labels a ++ labels b
  | .block _ c => labels c
  | .loop c => first c :: labels c
  | _ => []
theorem At.label {P : Program} : ∀ {cd : Code} {Q : Post} {ℓ : Nat} {body : Code} {Q' : Post}, At P cd Q ℓ body Q' → ℓ ∈ labels cd
  | .seq a b, Q, ℓ, body, Q', h => by
    simp only [labels, List.mem_append]
    exact h.imp At.label At.label
  | .cond _ a b, Q, ℓ, body, Q', h => by
    simp only [labels, List.mem_append]
    exact h.imp At.label At.label
  | .block _ c, Q, ℓ, body, Q', h => At.label (cd := c) h
  | .loop c, Q, ℓ, body, Q', h => by
    simp only [labels, List.mem_cons]
    exact h.imp (fun h => h.1.symm) At.label
section
variable {Y : Type} {P : Program} {C : Cfg} (hT : TabOk P C.T) (hΓ : SoundΓ P C.Γ) (hm : P.follows .mixedOrders = true) {E0 : Env} {w0 : World} {N nb : Nat} {y : Y} {J : Nat → St → Option Y}
theorem find_none {ℓ : Nat} : ∀ {cd : Code} {kn : KN Y} {kx : Nat → KN Y} {kr : KN Y}, ℓ ∉ labels cd → find C J ℓ cd kn kx kr = none
  | .seq a b, kn, kx, kr, h => by
    simp only [labels, List.mem_append, not_or] at h
    simp only [find]
    rw [find_none h.1]
    exact find_none h.2
  | .cond _ a b, kn, kx, kr, h => by
    simp only [labels, List.mem_append, not_or] at h
    simp only [find]
    rw [find_none h.1]
    exact find_none h.2
  | .block _ c, kn, kx, kr, h => by simp only [find]; exact find_none (cd := c) h
  | .loop c, kn, kx, kr, h => by
    simp only [labels, List.mem_cons, not_or] at h
    simp only [find]
    rw [if_neg (fun e => h.1 e.symm)]
    exact find_none h.2
  | .skip, _, _, _, _ => rfl
  | .region _ _ _, _, _, _, _ => rfl
  | .rangeFunc _ _ _ _, _, _, _, _ => rfl
  | .exit _, _, _, _, _ => rfl
  | .scope _, _, _, _, _ => rfl
  | .label _, _, _, _, _ => rfl
  | .goto _, _, _, _, _ => rfl
  | .ret, _, _, _, _ => rfl
  | .refuse _, _, _, _, _ => rfl
include hT hΓ hm in
theorem find_at {ℓ : Nat} : ∀ {cd : Code} {kn : KN Y} {kx : Nat → KN Y} {kr : KN Y} {Q : Post} {body : Code} {Q' : Post}, (labels cd).Nodup → NoPan Q → Good E0 w0 N nb y kn kx kr Q → JOk P E0 w0 N nb y J cd Q → At P cd Q ℓ body Q' →
    ∃ kn' kx' kr', find C J ℓ cd kn kx kr = some (fun ω σ => run C J body (fun _ σ => J ℓ σ) kx' kr' ω σ) ∧ Good E0 w0 N nb y kn' kx' kr' Q' ∧ NoPan Q' ∧ JOk P E0 w0 N nb y J body (Exit.then (LoopRuns P body Q') Q') := by
  intro cd
  induction cd with
  | seq a b iha ihb =>
    intro kn kx kr Q body Q' hn hp hg hj hat
    simp only [labels, List.nodup_append] at hn
    obtain ⟨n1, n2, n3⟩ := hn
    have hja : JOk P E0 w0 N nb y J a (Exit.then (b.wp P Q) Q) := fun ℓ body Q' hat => hj ℓ body Q' (.inl hat)
    have hjb : JOk P E0 w0 N nb y J b Q := fun ℓ body Q' hat => hj ℓ body Q' (.inr hat)
    simp only [find]
    rcases hat with hat | hat
    · obtain ⟨kn', kx', kr', h1, h2⟩ := iha n1 (hp.then _) (kn := fun ω σ => run C J b kn kx kr ω σ) (kx := kx) (kr := kr)
        ⟨fun E σ a w h e => run_wp hT hΓ hm hp hg hjb h e, fun id E σ a w h e => hg.x id E σ a w h e, hg.r⟩ hja hat
      exact ⟨kn', kx', kr', by rw [h1], h2⟩
    · have : ℓ ∉ labels a := fun h => n3 ℓ h ℓ hat.label rfl
      rw [find_none this]
      exact ihb n2 hp hg hjb hat
  | cond c a b iha ihb =>
    intro kn kx kr Q body Q' hn hp hg hj hat
    simp only [labels, List.nodup_append] at hn
    obtain ⟨n1, n2, n3⟩ := hn
    simp only [find]
    rcases hat with hat | hat
    · obtain ⟨kn', kx', kr', h1, h2⟩ := iha n1 hp hg (fun ℓ body Q' hat => hj ℓ body Q' (.inl hat)) hat
      exact ⟨kn', kx', kr', by rw [h1], h2⟩
    · have : ℓ ∉ labels a := fun h => n3 ℓ h ℓ hat.label rfl
      rw [find_none this]
      exact ihb n2 hp hg (fun ℓ body Q' hat => hj ℓ body Q' (.inr hat)) hat
  | block id c ih =>
    intro kn kx kr Q body Q' hn hp hg hj hat
    simp only [find]
    refine ih hn (hp.inBlock id) ⟨hg.n, fun j E σ a w h e => ?_, hg.r⟩ (fun ℓ body Q' hat => hj ℓ body Q' hat) hat
    simp only [Exit.inBlock]
    split
    · rename_i hid
      simp only [hid, if_true] at e
      exact hg.n E σ a w h e
    · rename_i hid
      simp only [hid, if_false] at e
      exact hg.x j E σ a w h e
  | loop c ih =>
    intro kn kx kr Q body Q' hn hp hg hj hat
    simp only [labels, List.nodup_cons] at hn
    have hj' : JOk P E0 w0 N nb y J c (Exit.then (LoopRuns P c Q) Q) := fun ℓ body Q' hat => hj ℓ body Q' (.inr hat)
    simp only [find]
    by_cases hl : first c = ℓ
    · rw [if_pos hl]
      rcases hat with ⟨_, rfl, rfl⟩ | hat
      · exact ⟨kn, kx, kr, rfl, hg, hp, hj'⟩
      · exact absurd (hl ▸ hat.label) hn.1
    · rw [if_neg hl]
      rcases hat with ⟨h, _⟩ | hat
      · exact absurd h hl
      · exact ih hn.2 (hp.then _) ⟨fun E σ a w h e => hj (first c) c Q (.inl ⟨rfl, rfl, rfl⟩) E σ a w h (e []), fun id E σ a w h e => hg.x id E σ a w h e, hg.r⟩ hj' hat
  | _ => intro kn kx kr Q body Q' hn hp hg hj hat; exact hat.elim
end
theorem slots_tm {E : Env} {w : World} {vw : List Bx} : ∀ {l : List (Nat × XP)} {x : Slots.V l} {vals : List Value} {tm : List XV}, SlotsR E w vw id l x vals → All2 (XR E w vw) tm vals → All2 (XR E w vw) (Slots.mk id l x tm) vals
  | [], _, _, _, _, h => h
  | (i, p) :: l, x, vals, tm, hs, h => by
    obtain ⟨⟨v, hv, hx⟩, hs⟩ := hs
    simp only [Slots.mk]
    refine slots_tm hs ?_
    have := All2.set (i := i) h hx
    have e : vals.set i v = vals := by
      apply List.ext_getElem?
      intro j
      rw [List.getElem?_set]
      split
      · rename_i e; subst e
        rw [if_pos (List.getElem?_eq_some_iff.1 hv).1, hv]
      · rfl
    rwa [e] at this
theorem All2.undef {E : Env} {w : World} {vw : List Bx} : ∀ {vals : List Value} {n : Nat}, n = vals.length → All2 (XR E w vw) (List.replicate n (.c .undef)) vals
  | [], n, h => by subst h; trivial
  | v :: vals, n, h => by
    subst h
    simp only [List.length_cons, List.replicate_succ]
    exact ⟨trivial, All2.undef rfl⟩
theorem Fitted.shared {E E1 : Env} {w : World} {bx : List Bx} {m : Asg} {s : Shp} {x : s.V} {vals : List Value} (h : Fitted E w bx m s x vals E1) (hb : Boxes E w bx bx []) :
    ∃ E2, E2.blk = E1.blk ∧ E2.hdr = E1.hdr ∧ Base E w E2 w ∧ Boxes E2 w (BPs.mk id s.bxs x.2) (BPs.mk id s.bxs x.2) [] ∧ SlotsR E2 w (BPs.mk id s.bxs x.2) id s.slots x.1 vals := by
  obtain ⟨Fk, k1, k2, k3, k4⟩ := h.rest
  let E2 : Env := { E1 with S := fun c => E1.S c ∨ c ∈ Fk.flatten }
  have st1 := h.boxes.st
  have keep : Keep E1 w (BPs.mk id s.bxs x.2) E2 w (BPs.mk id s.bxs x.2) :=
    ⟨Nat.le_refl _, fun _ _ => rfl, fun _ h => h, fun _ h => .inl h, st1, fun _ _ => rfl, fun b d r rows _ e => ⟨d, rows, e, fun p hp q ys hg => ⟨hp, ⟨ys, hg, rfl⟩, fun _ h => h⟩⟩⟩
  refine ⟨E2, rfl, rfl, ⟨h.T, fun c hc => .inl (h.S c hc), fun c hc => ?_, fun c hc => ?_, fun _ _ => rfl, rfl, rfl, rfl, Nat.le_refl _⟩, ?_, ?_⟩
  · rcases k4 c hc with h | h | h
    · exact .inl h
    · exact .inr (.inl h)
    · exact .inr (.inr h)
  · rcases hc with hc | hc
    · exact h.Sof c hc
    · exact .inr (k3 c hc).1
  · refine h.boxes.turn (E' := E2) (w' := w) (fun _ _ hv => VR_keep keep hv) (fun _ h => .inl h) (fun _ _ => rfl) (fun _ _ => rfl) (fun _ _ _ => rfl) fun F hF => ⟨hF.nodup, hF.free, hF.lt, fun c hc => hc.elim (hF.st c) fun h => (k3 c h).2.2.2, hF.tlt⟩
  · have : ∀ {l : List (Nat × XP)} {z : Slots.V l}, SlotsR E1 w (BPs.mk id s.bxs x.2) id l z vals → SlotsR E2 w (BPs.mk id s.bxs x.2) id l z vals := by
      intro l
      induction l with
      | nil => intro z h; trivial
      | cons q l ih =>
        obtain ⟨i, p⟩ := q
        intro z h
        obtain ⟨⟨v, hv, hx⟩, hs⟩ := h
        exact ⟨⟨v, hv, XR_keep keep hx⟩, ih hs⟩
    exact this h.slots
theorem retAsg_len : ∀ {l : List BP} {i n : Nat}, (retAsg i n l).length = l.length
  | [], _, _ => rfl
  | _ :: l, i, n => by simp [retAsg, retAsg_len (l := l)]
theorem retAsg_get : ∀ {l : List BP} {i n k b : Nat}, (retAsg i n l)[k]? = some (some b) → b = i + k ∧ b < n ∧ l[k]? ≠ some .gone
  | [], i, n, k, b, h => by simp [retAsg] at h
  | p :: l, i, n, 0, b, h => by
    simp only [retAsg, List.getElem?_cons_zero, Option.some.injEq] at h
    cases p with
    | gone => simp at h
    | mem q => split at h <;> simp_all <;> omega
    | sl d r => split at h <;> simp_all <;> omega
  | p :: l, i, n, k + 1, b, h => by
    simp only [retAsg, List.getElem?_cons_succ] at h
    obtain ⟨h1, h2, h3⟩ := retAsg_get h
    exact ⟨by omega, h2, by simpa using h3⟩
theorem retAsg_put : ∀ {l : List BP} {i n k : Nat} {p : BP}, l[k]? = some p → p ≠ .gone → i + k < n → (retAsg i n l)[k]? = some (some (i + k))
  | q :: l, i, n, 0, p, h, hg, hn => by
    simp at h; subst h
    simp only [retAsg, List.getElem?_cons_zero, Option.some.injEq]
    cases q with
    | gone => exact absurd rfl hg
    | mem q => simp at hn ⊢; exact hn
    | sl d r => simp at hn ⊢; exact hn
  | q :: l, i, n, k + 1, p, h, hg, hn => by
    simp only [retAsg, List.getElem?_cons_succ]
    rw [retAsg_put (l := l) (i := i + 1) (k := k) (by simpa using h) hg (by omega)]
    congr 2; omega
  | [], _, _, _, _, h, _, _ => by simp at h
theorem retAsg_inj {l : List BP} {n : Nat} : Inj (retAsg 0 n l) := fun i j b h k => by
  have := (retAsg_get h).1
  have := (retAsg_get k).1
  omega
end Go.Fw
end

section
namespace Go.Fw
structure FnOk (P : Program) (f : Nat) (fn : Func) (c : Con) : Prop where
  at_ : P.funcs[f]? = some fn
  call : ∀ args w, (callFunc f args).run P w = .ok (.enter f args) w
  con : c.ok = true
  tmps : c.ins.slots.length ≤ fn.ntmps
  labels : ∀ code, fn.body = some code → (labels code).Nodup
section
variable {P : Program} {C : Cfg} (hT : TabOk P C.T) {E : Env} {σ : St} {a : Act} {w : World}
include hT in
theorem resX_all (h : Rel E σ a w) :
    ∀ {rs : List ResultVar} {xs : List XV}, rs.mapM (resX C.T σ) = some xs → ∃ vs, (∀ f : ResultVar → Sem Value, (∀ u, f (.tmp u) = pure (a.tmps.getD u undef)) → (∀ b t, f (.cell b t) = (do loadVar t (← asAddr (a.tmps.getD b undef)))) →
      (rs.mapM f).run P w = .ok vs w) ∧ All2 (XR E w σ.bx) xs vs := by
  intro rs
  induction rs with
  | nil =>
    intro xs e
    have hx : xs = [] := by simpa using e.symm
    subst hx
    exact ⟨[], fun f _ _ => by simp, trivial⟩
  | cons r rs ih =>
    intro xs e
    rw [List.mapM_cons] at e
    simp only [Option.bind_eq_bind, Option.bind_eq_some_iff, Option.pure_def, Option.some.injEq] at e
    obtain ⟨x, e1, ys, e2, rfl⟩ := e
    obtain ⟨vs, h1, h2⟩ := ih e2
    have one : ∃ v, (∀ f : ResultVar → Sem Value, (∀ u, f (.tmp u) = pure (a.tmps.getD u undef)) → (∀ b t, f (.cell b t) = (do loadVar t (← asAddr (a.tmps.getD b undef)))) → (f r).run P w = .ok v w) ∧ XR E w σ.bx x v := by
      cases r with
      | tmp t =>
        simp only [resX] at e1
        obtain ⟨v, hv, hx⟩ := h.tmp e1
        refine ⟨v, fun f hf hc => ?_, hx⟩
        rw [hf]
        simp [Array.getD_eq_getD_getElem?, hv]
      | cell b t =>
        simp only [resX] at e1
        split at e1
        case h_2 => cases e1
        rename_i z hz
        obtain ⟨v, hv, hx⟩ := h.tmp hz
        obtain ⟨Fs, hB, hS⟩ := h.bx
        cases z with
        | agg l => simp [loadX] at e1
        | tup l => simp [loadX] at e1
        | c ad =>
          obtain ⟨bb, oo, u, cell, hp, _, q2, q3⟩ := loadX_all hT hB hS.st e1 hx
          refine ⟨u, fun f hf hc => ?_, q2⟩
          have hgd : a.tmps.getD b undef = v := by simp [Array.getD_eq_getD_getElem?, hv]
          have := q3 w rfl
          rw [hc, hgd, hp]
          rw [hp] at this
          simpa [Instr.loadAt, Instr.sureAddr, asAddr] using this
    obtain ⟨v, g1, g2⟩ := one
    refine ⟨v :: vs, fun f hf hc => ?_, g2, h2⟩
    rw [List.mapM_cons]
    simp [g1 f hf hc, h1 f hf hc]
theorem tupX_sound {vw : List Bx} : ∀ {l : List XV} {q : List (AV ⊕ List AV)} {vs : List Value}, tupX l = some q → All2 (XR E w vw) l vs → All2 (TR E w vw) q vs
  | [], q, [], e, _ => by
    simp only [tupX, Option.some.injEq] at e
    subst e; trivial
  | [], _, _ :: _, _, h => h.elim
  | .c x :: l, q, v :: vs, e, h => by
    simp only [tupX, Option.map_eq_some_iff] at e
    obtain ⟨r, e1, rfl⟩ := e
    exact ⟨h.1, tupX_sound e1 h.2⟩
  | .agg x :: l, q, v :: vs, e, h => by
    simp only [tupX, Option.map_eq_some_iff] at e
    obtain ⟨r, e1, rfl⟩ := e
    exact ⟨h.1, tupX_sound e1 h.2⟩
  | .tup _ :: _, _, _, e, _ => by simp [tupX] at e
  | .c _ :: _, _, [], _, h => h.elim
  | .agg _ :: _, _, [], _, h => h.elim
include hT in
theorem results_sound (h : Rel E σ a w) {fn : Func} {x : XV} (e : resultsX C.T σ fn.results.toList = some x) : ∃ v, (results fn a.tmps).run P w = .ok v w ∧ XR E w σ.bx x v := by
  unfold resultsX at e
  have key : ∀ xs, fn.results.toList.mapM (resX C.T σ) = some xs → ∃ vs : List Value, (results fn a.tmps).run P w = .ok (if h : vs.toArray.size = 1 then vs.toArray[0] else .tuple vs.toArray) w ∧ All2 (XR E w σ.bx) xs vs := by
    intro xs hx
    obtain ⟨vs, h1, h2⟩ := resX_all (P := P) hT h hx
    refine ⟨vs, ?_, h2⟩
    unfold results
    rw [Array.mapM_eq_mapM_toList]
    simp only [Sem.run_bind, Sem.run_map]
    rw [h1 _ (fun _ => rfl) (fun _ _ => rfl)]
    simp only [Result.andThen_ok, Sem.run_pure]
  split at e
  · rename_i z hz
    cases e
    obtain ⟨vs, h1, h2⟩ := key _ hz
    match vs, h2 with
    | [v], h2 => exact ⟨v, by simpa using h1, h2.1⟩
    | v :: _ :: _, h2 => exact h2.2.elim
    | [], h2 => exact h2.elim
  · rename_i l hl hz
    simp only [Option.map_eq_some_iff] at e
    obtain ⟨q, e1, rfl⟩ := e
    obtain ⟨vs, h1, h2⟩ := key _ hz
    have hne : ¬ vs.toArray.size = 1 := fun hs => by
      have := All2.len h2
      match l, this with
      | [z], _ => exact hl z rfl
      | [], t => simp at t hs; omega
      | _ :: _ :: _, t => simp at t hs; omega
    rw [dif_neg hne] at h1
    exact ⟨_, h1, vs.toArray, rfl, by simpa using tupX_sound e1 h2⟩
  · cases e
end
theorem SlotsR_append {E : Env} {w : World} {vw : List Bx} {more : List Value} : ∀ {l : List (Nat × XP)} {x : Slots.V l} {vals : List Value}, SlotsR E w vw id l x vals → SlotsR E w vw id l x (vals ++ more)
  | [], _, _, _ => trivial
  | (i, p) :: l, x, vals, h => by
    obtain ⟨⟨v, hv, hx⟩, hs⟩ := h
    exact ⟨⟨v, by rw [List.getElem?_append_left (List.getElem?_eq_some_iff.1 hv).1]; exact hv, hx⟩, SlotsR_append hs⟩
def LoopsOk (C : Cfg) (c : Con) (fn : Func) (code : Code) (J : Nat → Nat → St → Option c.outs.V) : Prop :=
  ∀ ℓ, ℓ ∈ labels code → ∃ (s : Shp) (F : Nat → s.V → Option c.outs.V), (∀ n, J n ℓ = jump c.ins.bxs.length s (F n)) ∧ (∀ v, F 0 v = none) ∧
    ∀ n v y, F (n + 1) v = some y → ∀ ω, loopF C c fn (J n) ℓ ω (s.st fn.ntmps v) = some y
section
variable {P : Program} {C : Cfg} (hT : TabOk P C.T) (hΓ : SoundΓ P C.Γ) (hm : P.follows .mixedOrders = true) {fn : Func} {c : Con}
def RetR (c : Con) (E0 : Env) (w0 : World) (u : c.outs.V) (e : Ending) (w' : World) : Prop :=
  ∃ x E', e = .returned x ∧ Base E0 w0 E' w' ∧ Boxes E' w' (BPs.mk id c.outs.bxs u.2) (BPs.mk id c.outs.bxs u.2) [] ∧
    SlotsR E' w' (BPs.mk id c.outs.bxs u.2) id c.outs.slots u.1 [x] ∧ ∀ i, i < c.ins.bxs.length → alive c.outs.bxs i = true → E'.blk i = E0.blk i ∧ E'.hdr i = E0.hdr i
theorem Ok.opens {E0 E : Env} {w0 w : World} {N nb : Nat} {σ : St} {a : Act} (h : Ok E0 w0 N nb E σ a w) (s : Shp) : ∃ E', Ok E0 w0 N nb E' { σ with bx := s.opens σ.bx } a w ∧
    (∀ (i : Nat) d r, s.bxs[i]? = some (.sl d r) → E'.hdr (σ.bx.length + i) = .slice none 0 0) ∧ (∀ x v, XR E w σ.bx x v → XR E' w (s.opens σ.bx) x v) := by
  obtain ⟨E', h1, h2, h3, h4⟩ := opens_rel h.rel s
  exact ⟨E', h.next h1 h2 rfl, h3, h4⟩
theorem frz_keep {E E' : Env} {w : World} {vw : List Bx} {b : Nat} (h : Le E E') (st : ∀ c, E.S c → E.T c) : Keep E w vw E' w (vw.set b .dead) := by
  refine ⟨by simp, fun b _ => by rw [h.blk], h.T, h.S, st, fun _ _ => rfl, fun c d r rows _ e => ?_⟩
  by_cases hc : c = b
  · subst hc
    rw [List.getElem?_set] at e
    simp only [if_true] at e
    split at e <;> cases e
  · rw [List.getElem?_set_ne (fun e => hc e.symm)] at e
    exact ⟨d, rows, e, fun p hp q ys hg => ⟨hp, ⟨ys, hg, rfl⟩, fun h' hh => by rw [h.hdr]; exact hh⟩⟩
theorem frz_rel {E : Env} {σ : St} {a : Act} {w : World} (h : Rel E σ a w) (b : Nat) : ∃ E', Rel E' (σ.frz b) a w ∧ Le E E' := by
  unfold St.frz
  split
  case h_2 => exact ⟨E, h, Le.refl E⟩
  rename_i d r rows hb
  obtain ⟨F, hF, hB⟩ := h.bx.take hb
  have hB2 : Boxes E w σ.bx (σ.bx.set b .dead) ([] ++ F ++ []) := by simpa using hB
  obtain ⟨hle, hB3⟩ := hB2.share
  have hk := frz_keep (vw := σ.bx) (b := b) (w := w) hle h.bx.st
  have hk2 : Keep E w σ.bx { E with S := fun c => E.S c ∨ c ∈ F, T := fun c => E.T c ∨ c ∈ F } w ((σ.bx.set b .dead).map (Bx.frz b r rows)) := by
    refine ⟨by simp, hk.blk, hk.T, hk.S, hk.st, hk.heap, fun c d' r' rows' hc e => ?_⟩
    rw [List.getElem?_map, Option.map_eq_some_iff] at e
    obtain ⟨B, e, eB⟩ := e
    cases B with
    | mem cs => cases eB
    | dead => cases eB
    | sl d0 r0 rows0 =>
      cases eB
      exact hk.box c _ _ _ hc e
  have hv : ∀ x v, VR E w σ.bx x v → VR { E with S := fun c => E.S c ∨ c ∈ F, T := fun c => E.T c ∨ c ∈ F } w ((σ.bx.set b .dead).map (Bx.frz b r rows)) (x.frz b r rows) v := fun x v hx => by
    unfold AV.frz
    split
    · rename_i c
      split
      · rename_i hc
        subst hc
        obtain ⟨h1, h2⟩ := hx
        rw [hb] at h2
        have hv := h2.2.2
        rw [hdrAt_here] at hv
        simp only [Option.some.injEq] at hv
        have := Ow_rd hF.2
        rw [hv] at this
        exact Rd_mono (fun c hc => hc) (fun _ _ => rfl) this
      · exact VR_keep hk2 hx
    · exact VR_keep hk2 hx
  refine ⟨_, ⟨h.nodefer, ?_, ?_⟩, hle⟩
  · refine All2.map_left _ (fun x v hx => ?_) h.tm
    unfold XV.frz
    split
    · exact hv _ _ hx
    · exact XR_keep hk2 hx
  · obtain ⟨Fs, ⟨hl, h1⟩, h2⟩ := hB
    have h2' : Sep E w (F ++ Fs.flatten) := h2.perm (by simpa using List.perm_append_comm)
    refine ⟨Fs, ⟨by simpa using hl, fun k B G hB' hG => ?_⟩, ?_⟩
    · rw [List.getElem?_map, Option.map_eq_some_iff] at hB'
      obtain ⟨B0, e, rfl⟩ := hB'
      have h3 := h1 k B0 G e hG
      cases B0 with
      | mem cs =>
        obtain ⟨rfl, arr, ty, fr, a1, a2, a3⟩ := h3
        exact ⟨rfl, arr, ty, fr, a1, a2, All2.map_left _ (fun x v hx => hv x v hx) a3⟩
      | sl d0 r0 rows0 => exact ⟨h3.1, Ow_mono hle.S (fun _ _ => rfl) (fun _ _ => rfl) h3.2⟩
      | dead => exact h3
    · rw [List.append_nil]
      have st := h.bx.st
      refine ⟨(List.nodup_append.1 h2'.nodup).2.1, fun c hc ht => ?_, fun c hc => h2'.lt c (by simp only [List.mem_append]; exact .inr hc), fun c hc => hc.imp (st c) id, fun c hc => hc.elim (h2'.tlt c) fun h' => h2'.lt c (by simp [h'])⟩
      rcases ht with ht | ht
      · exact h2'.free c (List.mem_append.2 (.inr hc)) ht
      · exact (List.nodup_append.1 h2'.nodup).2.2 c ht c hc rfl
theorem frz_dead {σ : St} {b i : Nat} (h : σ.bx[i]? = some .dead) : (σ.frz b).bx[i]? = some .dead := by
  unfold St.frz
  split
  · simp only [List.getElem?_map, List.getElem?_set]
    split
    · split
      · rfl
      · rename_i h2
        subst_vars
        exact absurd (List.getElem?_eq_some_iff.1 h).1 h2
    · rw [h]; rfl
  · exact h
theorem frz_len {σ : St} {b : Nat} : (σ.frz b).bx.length = σ.bx.length ∧ (σ.frz b).tm.length = σ.tm.length := by
  unfold St.frz
  split <;> simp
theorem Ok.frz {E0 E : Env} {w0 w : World} {N nb : Nat} {σ : St} {a : Act} (h : Ok E0 w0 N nb E σ a w) (b : Nat) : ∃ E', Ok E0 w0 N nb E' (σ.frz b) a w := by
  obtain ⟨E', h1, h2⟩ := frz_rel h.rel b
  refine ⟨E', ⟨h1, h.base.trans (h2.base w), by rw [frz_len.2]; exact h.tm, by rw [frz_len.1]; exact h.hnb, fun i hi hd => ?_⟩⟩
  rw [h2.blk, h2.hdr]
  exact h.ids i hi fun e => hd (frz_dead e)
theorem Ok.frzCells {E0 : Env} {w0 w : World} {N nb : Nat} {a : Act} : ∀ (l : List AP) (xs : List AV) {E : Env} {σ : St}, Ok E0 w0 N nb E σ a w → ∃ E', Ok E0 w0 N nb E' (frzCells l xs σ) a w := by
  intro l xs E σ h
  induction l generalizing xs E σ with
  | nil => unfold Fw.frzCells; exact ⟨E, h⟩
  | cons p l ih =>
    unfold Fw.frzCells
    split
    · rename_i heq
      cases heq
      obtain ⟨E', h'⟩ := h.frz _
      exact ih _ h'
    · rename_i heq
      cases heq
      exact ih _ h
    · exact ⟨E, h⟩
theorem Ok.frzs {E0 : Env} {w0 w : World} {N nb : Nat} {a : Act} {bs : List BP} : ∀ (l : List (Nat × XP)) {E : Env} {σ : St}, Ok E0 w0 N nb E σ a w → ∃ E', Ok E0 w0 N nb E' (frzSlots bs l σ) a w := by
  intro l
  induction l with
  | nil => intro E σ h; exact ⟨E, h⟩
  | cons q l ih =>
    intro E σ h
    unfold frzSlots
    split
    · cases ‹_ :: _ = []›
    · rename_i e
      cases e
      split
      · obtain ⟨E', h'⟩ := h.frzCells [_] [_]
        exact ih h'
      · exact ih h
    · rename_i e
      cases e
      split
      · split
        · obtain ⟨E', h'⟩ := h.frzCells _ _
          exact ih h'
        · exact ih h
      · exact ih h
    · rename_i e
      cases e
      exact ih h
theorem someSlice_is {E : Env} {w : World} {vw : List Bx} {x : AV} {v : Value} (h : VR E w vw x v) (hx : x.someSlice = true) : isSlice v = true := by
  cases x with
  | ref b p => exact h.1
  | win b p o n => exact h.1
  | sl s r y =>
    simp only [VR, Rd] at h
    obtain ⟨a, cap, h, _⟩ := h
    simp only [List.cons.injEq, and_true] at h
    rw [h]; rfl
  | nil => cases h; rfl
  | _ => cases hx
theorem forget_rel {E : Env} {σ : St} {a : Act} {w : World} (h : Rel E σ a w) (b j : Nat) : Rel E (σ.forget b j) a w ∧ σ.bx.length ≤ (σ.forget b j).bx.length ∧ (∀ i : Nat, σ.bx[i]? = some Bx.dead → (σ.forget b j).bx[i]? = some Bx.dead) ∧ (σ.forget b j).tm = σ.tm := by
  unfold St.forget
  split
  case h_2 => exact ⟨h, Nat.le_refl _, fun _ h => h, rfl⟩
  rename_i cs hb
  split
  case h_2 => exact ⟨h, Nat.le_refl _, fun _ h => h, rfl⟩
  rename_i x hx
  split
  case isFalse => exact ⟨h, Nat.le_refl _, fun _ h => h, rfl⟩
  rename_i hs
  have hbl := (List.getElem?_eq_some_iff.1 hb).1
  have hk : Keep E w σ.bx E w (σ.bx.set b (.mem (cs.set j (.ref σ.bx.length []))) ++ [.dead]) := by
    refine ⟨by simp, fun _ _ => rfl, fun _ h => h, fun _ h => h, h.bx.st, fun _ _ => rfl, fun c d r rows hc e => ?_⟩
    rw [List.getElem?_append_left (by simpa using hc)] at e
    by_cases hcb : b = c
    · subst hcb
      rw [List.getElem?_set_self hc] at e
      cases e
    · rw [List.getElem?_set_ne hcb] at e
      exact ⟨d, rows, e, fun p hp q ys hg => ⟨hp, ⟨ys, hg, rfl⟩, fun h' hh => hh⟩⟩
  refine ⟨⟨h.nodefer, h.tm.imp fun _ _ hx => XR_keep hk hx, ?_⟩, by simp, fun i hi => ?_, rfl⟩
  · obtain ⟨Fs, ⟨hl, h1⟩, h2⟩ := h.bx
    refine ⟨Fs ++ [[]], ⟨by simp [hl], fun k B G hB hG => ?_⟩, by simpa using h2⟩
    by_cases hk2 : k < σ.bx.length
    · rw [List.getElem?_append_left (by simpa using hk2)] at hB
      rw [List.getElem?_append_left (by omega)] at hG
      by_cases hkb : b = k
      · subst hkb
        rw [List.getElem?_set_self hk2] at hB
        cases hB
        obtain ⟨rfl, arr, ty, fr, a1, a2, a3⟩ := h1 b _ G hb hG
        refine ⟨rfl, arr, ty, fr, a1, a2, ?_⟩
        have a4 : VRs E w (σ.bx.set b (.mem (cs.set j (.ref σ.bx.length []))) ++ [.dead]) cs arr.toList := a3.imp fun _ _ hv => VR_keep hk hv
        obtain ⟨v, hv, hvr⟩ := a3.get hx
        have hset : arr.toList.set j v = arr.toList := by
          apply List.ext_getElem?
          intro i
          by_cases hij : j = i
          · subst hij
            rw [List.getElem?_set_self (List.getElem?_eq_some_iff.1 hv).1, hv]
          · rw [List.getElem?_set_ne hij]
        rw [← hset]
        refine All2.set a4 ⟨someSlice_is hvr hs, ?_⟩
        have : (σ.bx.set b (.mem (cs.set j (.ref σ.bx.length []))) ++ [.dead])[σ.bx.length]? = some .dead := by
          rw [List.getElem?_append_right (by simp)]
          simp
        rw [this]
        trivial
      · rw [List.getElem?_set_ne hkb] at hB
        have h3 := h1 k B G hB hG
        cases B with
        | mem cs' =>
          obtain ⟨rfl, arr, ty, fr, a1, a2, a3⟩ := h3
          exact ⟨rfl, arr, ty, fr, a1, a2, a3.imp fun _ _ hv => VR_keep hk hv⟩
        | sl d0 r0 rows0 => exact h3
        | dead => exact h3
    · have hlen := (List.getElem?_eq_some_iff.1 hB).1
      simp only [List.length_append, List.length_set, List.length_cons, List.length_nil] at hlen
      have hkk : k = σ.bx.length := by omega
      subst hkk
      rw [List.getElem?_append_right (by simp)] at hB
      rw [List.getElem?_append_right (by omega)] at hG
      simp [hl] at hB hG
      subst hB hG
      rfl
  · have hil := (List.getElem?_eq_some_iff.1 hi).1
    rw [List.getElem?_append_left (by simpa using hil)]
    have hbi : b ≠ i := fun e => by
      subst e
      rw [hb] at hi; cases hi
    rw [List.getElem?_set_ne hbi]
    exact hi
theorem Ok.forget {E0 E : Env} {w0 w : World} {N nb : Nat} {σ : St} {a : Act} (h : Ok E0 w0 N nb E σ a w) (b j : Nat) : Ok E0 w0 N nb E (σ.forget b j) a w := by
  obtain ⟨h1, h2, h3, h4⟩ := forget_rel h.rel b j
  exact ⟨h1, h.base, by rw [h4]; exact h.tm, Nat.le_trans h.hnb h2, fun i hi hd => h.ids i hi fun e => hd (h3 i e)⟩
theorem Ok.fgtCells {E0 E : Env} {w0 w : World} {N nb : Nat} {a : Act} {bs : List BP} {b : Nat} : ∀ (l : List AP) (j : Nat) {σ : St}, Ok E0 w0 N nb E σ a w → Ok E0 w0 N nb E (fgtCells bs b j l σ) a w
  | [], _, _, h => h
  | p :: l, j, σ, h => by
    simp only [Fw.fgtCells]
    refine Ok.fgtCells l (j + 1) ?_
    split
    · split
      · exact h.forget _ _
      · exact h
    · exact h
theorem Ok.fgts {E0 E : Env} {w0 w : World} {N nb : Nat} {a : Act} {bs : List BP} : ∀ (l : List (Nat × XP)) {σ : St}, Ok E0 w0 N nb E σ a w → Ok E0 w0 N nb E (fgtSlots bs l σ) a w
  | [], _, h => h
  | (i, p) :: l, σ, h => by
    simp only [fgtSlots]
    refine Ok.fgts l ?_
    split
    · split
      · exact h.fgtCells _ _
      · exact h
    · exact h
include hT in
theorem ret_sound {E0 E : Env} {w0 w : World} {N : Nat} {σ : St} {a : Act} {u : c.outs.V} (h : Ok E0 w0 N c.ins.bxs.length E σ a w) (e : retK C.T c fn.results.toList σ = some u) :
    a.defers = [] ∧ ∃ v, (results fn a.tmps).run P w = .ok v w ∧ RetR c E0 w0 u (.returned v) w := by
  unfold retK at e
  simp only [Option.bind_eq_some_iff, Option.map_eq_some_iff] at e
  obtain ⟨x, e1, ⟨u', m⟩, e2, rfl⟩ := e
  obtain ⟨v, h1, h2⟩ := results_sound hT h.rel e1
  obtain ⟨E, h, hnil, h4⟩ := h.opens c.outs
  replace h2 := h4 _ _ h2
  obtain ⟨hext, E1, hf⟩ := fit_sound (tm := [x]) (vals := [v]) h.rel.bx ⟨h2, trivial⟩ hnil retAsg_len retAsg_inj e2
  obtain ⟨E2, q1, q2, q3, q4, q5⟩ := hf.shared h.rel.bx
  refine ⟨h.rel.nodefer, v, h1, v, E2, rfl, h.base.trans q3, q4, q5, fun i hi hal => ?_⟩
  obtain ⟨p, hp, hg⟩ : ∃ p, c.outs.bxs[i]? = some p ∧ p ≠ .gone := by
    unfold alive at hal
    cases hh : c.outs.bxs[i]? with
    | none => rw [hh] at hal; cases hal
    | some p =>
      refine ⟨p, rfl, fun hp => ?_⟩
      rw [hh, hp] at hal
      cases hal
  have hm1 := hext.2 i i (by have := retAsg_put (i := 0) (n := c.ins.bxs.length) hp hg (by omega); simpa using this)
  obtain ⟨b, B, g1, g2, g3, _⟩ := fit_get e2 i p hp hg
  rw [hm1] at g1
  cases g1
  have hid := hf.ids i i hm1
  have hid2 := h.ids i hi (fun hd => by rw [g2] at hd; cases hd; exact g3 rfl)
  rw [q1, q2]
  exact ⟨hid.1.trans hid2.1, hid.2.trans hid2.2⟩
include hT hΓ hm in
theorem loops_ok {code : Code} (hb : fn.body = some code) (hl : (labels code).Nodup) {J : Nat → Nat → St → Option c.outs.V} (hJ : LoopsOk C c fn code J)
    {E0 : Env} {w0 : World} {u : c.outs.V} {Q : Post} (hp : NoPan Q)
    (hg : Good E0 w0 fn.ntmps c.ins.bxs.length u (fun _ => retK C.T c fn.results.toList) (fun _ _ _ => none) (fun _ => retK C.T c fn.results.toList) Q) :
    ∀ n, JOk P E0 w0 fn.ntmps c.ins.bxs.length u (J n) code Q := by
  intro n
  induction n with
  | zero =>
    intro ℓ body Q' hat E σ a w h e
    obtain ⟨s, F, j1, j2, j3⟩ := hJ ℓ hat.label
    rw [j1] at e
    simp only [jump] at e
    split at e
    · rw [Option.bind_eq_some_iff] at e
      obtain ⟨q, _, e⟩ := e
      rw [j2] at e
      cases e
    · cases e
  | succ n ih =>
    intro ℓ body Q' hat E σ a w h e
    obtain ⟨s, F, j1, j2, j3⟩ := hJ ℓ hat.label
    rw [j1] at e
    simp only [jump] at e
    split at e
    case isFalse => cases e
    rename_i hnb
    rw [Option.bind_eq_some_iff] at e
    obtain ⟨⟨v, m⟩, e1, e2⟩ := e
    dsimp only at e2
    obtain ⟨E, h⟩ := h.frzs (bs := s.bxs) s.slots
    replace h := h.fgts (bs := s.bxs) s.slots
    revert h e1
    generalize fgtSlots s.bxs s.slots (frzSlots s.bxs s.slots σ) = σ
    intro e1 h
    obtain ⟨E, h, hnil, h4⟩ := h.opens s
    obtain ⟨hext, E1, hf⟩ := fit_sound h.rel.bx h.rel.tm hnil retAsg_len retAsg_inj e1
    obtain ⟨E2, q1, q2, q3, q4, q5⟩ := hf.shared h.rel.bx
    have hsz : fn.ntmps = a.tmps.toList.length := by rw [← All2.len h.rel.tm, h.tm]
    have hok : Ok E0 w0 fn.ntmps c.ins.bxs.length E2 (s.st fn.ntmps v) a w := by
      refine ⟨⟨h.rel.nodefer, slots_tm q5 (All2.undef hsz), q4⟩, h.base.trans q3, ?_, ?_, fun i hi hd => ?_⟩
      · have := All2.len (slots_tm q5 (All2.undef hsz))
        simp only [Shp.st]
        rw [this, ← hsz]
      · simp only [Shp.st]
        rw [BPs_mk_len]
        exact hnb
      · simp only [Shp.st] at hd
        have hp' : s.bxs[i]? = some (s.bxs[i]'(by omega)) := List.getElem?_eq_getElem _
        have hng : s.bxs[i]'(by omega) ≠ .gone := fun hg' => by
          obtain ⟨z, z1, _⟩ := BPs_mk_get id (u := v.2) hp'
          apply hd
          rw [z1]
          generalize s.bxs[i]'(by omega) = pp at z hg'
          subst hg'
          rfl
        have hm1 := hext.2 i i (by have := retAsg_put (i := 0) (n := c.ins.bxs.length) hp' hng (by omega); simpa using this)
        obtain ⟨b, B, g1, g2, g3, _⟩ := fit_get e1 i _ hp' hng
        rw [hm1] at g1
        cases g1
        have hid := hf.ids i i hm1
        have hid2 := h.ids i hi (fun hd => by rw [g2] at hd; cases hd; exact g3 rfl)
        rw [q1, q2]
        exact ⟨hid.1.trans hid2.1, hid.2.trans hid2.2⟩
    have hloop := j3 n v u e2
    obtain ⟨kn', kx', kr', hfind, hgood, hnp, hj⟩ := find_at hT hΓ hm hl hp hg ih hat
    simp only [loopF, hb, hfind] at hloop
    refine LoopRuns.of_body (run_wp hT hΓ hm (hnp.then _) (kn := fun _ σ => J n ℓ σ) ⟨fun E σ a w h e => ?_, fun id E σ a w h e => hgood.x id E σ a w h e, hgood.r⟩ hj hok hloop)
    exact ih ℓ body Q' hat E σ a w h (e [])
include hT hΓ hm in
theorem sound_fn {f : Nat} (hf : FnOk P f fn c) {J : Nat → Nat → St → Option c.outs.V} (hJ : ∀ code, fn.body = some code → LoopsOk C c fn code J)
    (hg : ∀ v u, c.g v = some u → ∃ n, ∀ ω, enterF C c fn (J n) ω v = some u) : SoundC P f c := by
  refine ⟨hf.con, hf.call, fun E w v args u hargs hB hS hgv => ?_⟩
  obtain ⟨n, hn⟩ := hg v u hgv
  cases hb : fn.body with
  | none =>
    have := hn []
    simp only [enterF, hb] at this
    cases this
  | some code =>
    simp only [enterF, hb] at hn
    refine calls_of_wp hf.at_ hb ?_
    have hp : NoPan (bodyPost P fn (RetR c E w u)) := fun ch a w' hq => by
      obtain ⟨_, x, E', hx, _⟩ := hq
      cases hx
    have hgood : Good E w fn.ntmps c.ins.bxs.length u (fun _ => retK C.T c fn.results.toList) (fun _ _ _ => none) (fun _ => retK C.T c fn.results.toList) (bodyPost P fn (RetR c E w u)) :=
      ⟨fun E' σ a w' h e => ret_sound hT h (e []), fun id E' σ a w' h e => (by cases e []), fun E' σ a w' h e => ret_sound hT h (e [])⟩
    have hok : Ok E w fn.ntmps c.ins.bxs.length E (c.ins.st fn.ntmps v) { tmps := args ++ Array.replicate (fn.ntmps - args.size) undef, defers := [] } w := by
      have htm : All2 (XR E w (BPs.mk id c.ins.bxs v.2)) (Slots.mk id c.ins.slots v.1 (List.replicate fn.ntmps (.c .undef))) (args ++ Array.replicate (fn.ntmps - args.size) undef).toList := by
        rw [Array.toList_append]
        refine slots_tm (SlotsR_append hS) (All2.undef ?_)
        have := hf.tmps
        simp
        omega
      refine ⟨⟨rfl, htm, hB⟩, Base.refl E w, ?_, by simp only [Shp.st]; rw [BPs_mk_len]; exact Nat.le_refl _, fun _ _ _ => ⟨rfl, rfl⟩⟩
      simp only [Shp.st]
      rw [All2.len htm]
      have := hf.tmps
      simp
      omega
    exact run_wp hT hΓ hm hp hgood (loops_ok hT hΓ hm hb (hf.labels code hb) (hJ code hb) hp hgood n) hok hn
end
end Go.Fw
end

section
namespace Go.Fw
def consTy : List Ty → Ty
  | [] => .unit
  | c :: l => .cons c (consTy l)
def rowFs (row : TypeId → Option (List Ty × Bool)) (cells : TypeId → Nat) : Nat → List Field → Option (List Ty)
  | _, [] => some []
  | o, f :: fs =>
    match row f.type with
    | some (l, _) => if f.offset = o ∧ cells f.type = l.length then (rowFs row cells (o + l.length) fs).map (l ++ ·) else none
    | none => none
def asTy : List Ty × Bool → Ty
  | (l, true) => consTy l
  | ([c], false) => c
  | _ => .unit
def rowOf (P : Program) : Nat → TypeId → Option (List Ty × Bool)
  | 0, _ => none
  | n + 1, t =>
    match P.underlying t with
    | some (.int k) => some ([.int k], false)
    | some .bool => some ([.bool], false)
    | some .string => some ([.str], false)
    | some (.slice e) =>
      match rowOf P n e with
      | some q => if P.cellsOf e = q.1.length ∧ 0 < q.1.length then some ([.sl (asTy q)], false) else none
      | none => none
    | some (.struct fs) =>
      match rowFs (rowOf P n) P.cellsOf 0 fs.toList with
      | some l => if P.cellsOf t = l.length then some (l, true) else none
      | none => none
    | _ => none
def Vd : (t : Ty) → t.D → Prop
  | .int k, x => (Lit.int k x).wf = true
  | .bool, _ => True
  | .str, x => List.length x ≤ maxLen
  | .sl r, x => List.length x ≤ maxLen ∧ ∀ y ∈ x, Vd r y
  | .unit, _ => True
  | .cons c r, x => Vd c x.1 ∧ Vd r x.2
theorem list_of_each {α : Type} {p : Nat → α → Prop} : ∀ {n : Nat}, (∀ i, i < n → ∃ y, p i y) → ∃ x : List α, x.length = n ∧ ∀ (i : Nat) y, x[i]? = some y → p i y
  | 0, _ => ⟨[], rfl, fun i y h => by simp at h⟩
  | n + 1, h => by
    obtain ⟨x, h1, h2⟩ := list_of_each (n := n) (p := p) (fun i hi => h i (by omega))
    obtain ⟨y, hy⟩ := h n (by omega)
    refine ⟨x ++ [y], by simp [h1], fun i z hz => ?_⟩
    by_cases hi : i < x.length
    · rw [List.getElem?_append_left hi] at hz
      exact h2 i z hz
    · rw [List.getElem?_append_right (by omega)] at hz
      have hil := (List.getElem?_eq_some_iff.1 hz).1
      simp at hil
      have : i = n := by omega
      subst this
      simp [h1] at hz
      subst hz
      exact hy
theorem Rd_append {w : World} {B : Nat → Prop} : ∀ {l m : List Ty} {cs ds : List Value} {x : (consTy l).D} {y : (consTy m).D}, Rd w B (consTy l) cs x → Rd w B (consTy m) ds y → Vd (consTy l) x → Vd (consTy m) y →
    ∃ z : (consTy (l ++ m)).D, Rd w B (consTy (l ++ m)) (cs ++ ds) z ∧ Vd (consTy (l ++ m)) z
  | [], m, cs, ds, x, y, h, k, hx, hy => by
    simp only [consTy, Rd] at h
    subst h
    exact ⟨y, k, hy⟩
  | c :: l, m, cs, ds, x, y, h, k, hx, hy => by
    simp only [consTy, Rd] at h
    obtain ⟨v, r, rfl, h1, h2⟩ := h
    obtain ⟨z, z1, z2⟩ := Rd_append h2 k hx.2 hy
    exact ⟨(x.1, z), by simp only [List.cons_append, consTy, Rd]; exact ⟨v, r ++ ds, rfl, h1, z1⟩, hx.1, z2⟩
theorem rowOf_one {P : Program} {n : Nat} {t : TypeId} {l : List Ty} (h : rowOf P n t = some (l, false)) : ∃ c, l = [c] := by
  cases n with
  | zero => simp [rowOf] at h
  | succ n =>
    simp only [rowOf] at h
    split at h
    · cases h; exact ⟨_, rfl⟩
    · cases h; exact ⟨_, rfl⟩
    · cases h; exact ⟨_, rfl⟩
    · split at h
      · split at h
        · cases h; exact ⟨_, rfl⟩
        · cases h
      · cases h
    · split at h
      · split at h
        · cases h
        · cases h
      · cases h
    · cases h
theorem asTy_rd {w : World} {B : Nat → Prop} {P : Program} {n : Nat} {t : TypeId} {q : List Ty × Bool} (h : rowOf P n t = some q) {cs : List Value} {x : (consTy q.1).D} (hx : Rd w B (consTy q.1) cs x) (hv : Vd (consTy q.1) x) :
    (asTy q).n = q.1.length ∧ ∃ y : (asTy q).D, Rd w B (asTy q) cs y ∧ Vd (asTy q) y := by
  obtain ⟨l, b⟩ := q
  cases b with
  | true =>
    refine ⟨?_, x, hx, hv⟩
    clear h hx hv x
    simp only [asTy]
    induction l with
    | nil => rfl
    | cons c l ih => simp [consTy, Ty.n, ih]
  | false =>
    obtain ⟨c, rfl⟩ := rowOf_one h
    simp only [consTy, Rd] at hx
    obtain ⟨v, r, rfl, h1, h2⟩ := hx
    subst h2
    refine ⟨?_, x.1, h1, hv.1⟩
    have := Rd_len h1
    simp only [asTy]
    simpa using this.symm
theorem addr_zero (a : Addr) : a.add 0 = a := by simp [Addr.add]
theorem spot_none {w : World} {a : Addr} {v : Value} (h : w.cell? a = some v) : a.spot = none := by
  unfold World.cell? at h
  split at h
  · split at h
    · cases h
    · rename_i hs; simpa using hs
  · cases h
section
variable {H : Type} {enc : TypeId × Value → H} {P : Program} {w : World} {spare : Nat → Bool} {held : Bool}
theorem trod_rd : ∀ (n : Nat) {t : TypeId} {q : List Ty × Bool}, rowOf P n t = some q → ∀ {fuel : Nat} {cs : List Value} {x : DataW H × List MemPlace}, DataW.trod enc P w 0 spare held fuel t cs = some x →
    ∃ y : (consTy q.1).D, Rd w (fun b => b < w.heap.size) (consTy q.1) cs y ∧ Vd (consTy q.1) y
  | 0, t, q, h, _, _, _, _ => by simp [rowOf] at h
  | n + 1, t, q, h, fuel, cs, x, hx => by
    simp only [rowOf] at h
    split at h
    · rename_i k hu
      cases h
      obtain ⟨m, rfl, _, hw⟩ := DataW.trod_int hu hx
      exact ⟨(m, ()), by simp [consTy, Rd], hw, trivial⟩
    · rename_i hu
      cases h
      obtain ⟨b, rfl, _⟩ := DataW.trod_bool hu hx
      exact ⟨(b, ()), by simp [consTy, Rd], trivial, trivial⟩
    · rename_i hu
      cases h
      obtain ⟨s, rfl, _, hs⟩ := DataW.trod_string hu hx
      refine ⟨(s.data.toList, ()), by simp [consTy, Rd], ?_, trivial⟩
      show s.data.toList.length ≤ maxLen
      rw [Array.length_toList]
      exact hs
    · rename_i e hu
      split at h
      case h_2 => cases h
      rename_i q' hq'
      split at h
      case isFalse => cases h
      rename_i hcells
      cases h
      rcases DataW.trod_slice hu hx with ⟨rfl, _⟩ | ⟨a, len, cap, elems, rest, m, _, rfl, _, _, hlc, hcm, hel, hat, _, _⟩
      · refine ⟨([], ()), ?_, ⟨by simp, by simp⟩, trivial⟩
        simp only [consTy, Rd]
        exact ⟨_, [], rfl, ⟨_, _, rfl, by simp, .inl rfl⟩, rfl⟩
      · have each : ∀ i, i < len → ∃ y : (asTy q').D, Vd (asTy q') y ∧ ∃ ds, ds.length = (asTy q').n ∧ (∀ j, j < ds.length → w.cell? ((a.add (i * P.cellsOf e)).add j) = ds[j]?) ∧ Rd w (fun b => b < w.heap.size) (asTy q') ds y := by
          intro i hi
          have hz : elems[i]? = some (elems[i]'(by omega)) := List.getElem?_eq_getElem _
          have h1 := hat i hi
          rw [hz, Option.bind_eq_some_iff] at h1
          obtain ⟨ds, hds, htr⟩ := h1
          obtain ⟨z, z1, z2⟩ := trod_rd n hq' htr
          obtain ⟨_, c1, c2⟩ := World.cells?_some hds
          obtain ⟨a1, y, a2, a3⟩ := asTy_rd hq' z1 z2
          exact ⟨y, a3, ds, by rw [c1, a1, hcells.1], fun j hj => c2 j (by omega), a2⟩
        obtain ⟨xs, x1, x2⟩ := list_of_each each
        refine ⟨(xs, ()), ?_, ⟨by show xs.length ≤ maxLen; omega, fun y hy => ?_⟩, trivial⟩
        · simp only [consTy, Rd]
          refine ⟨_, [], rfl, ⟨_, cap, by rw [x1], by omega, ?_⟩, rfl⟩
          by_cases h0 : len = 0
          · exact .inl (by omega)
          right
          obtain ⟨y0, _, ds0, d0, d1, _⟩ := each 0 (by omega)
          have hn0 : 0 < (asTy q').n := by
            rw [d0.symm]
            have hz : elems[0]? = some (elems[0]'(by omega)) := List.getElem?_eq_getElem _
            have h1 := hat 0 (by omega)
            rw [hz, Option.bind_eq_some_iff] at h1
            obtain ⟨ds, hds, htr⟩ := h1
            obtain ⟨z, z1, z2⟩ := trod_rd n hq' htr
            have := (asTy_rd hq' z1 z2).1
            omega
          have hc0 := d1 0 (by omega)
          simp only [Nat.zero_mul, addr_zero] at hc0
          have hcs : w.cell? a = some (ds0[0]'(by omega)) := by rw [hc0]; exact List.getElem?_eq_getElem _
          have hsp := spot_none hcs
          obtain ⟨b, o, s⟩ := a
          simp only at hsp
          subst hsp
          refine ⟨b, o, rfl, ?_, fun i y hy => ?_⟩
          · unfold World.cell? at hcs
            split at hcs
            · rename_i hb; exact (Array.getElem?_eq_some_iff.1 hb).1
            · cases hcs
          · have hil := (List.getElem?_eq_some_iff.1 hy).1
            obtain ⟨_, ds, e0, e1, e2⟩ := x2 i y hy
            have hcn : P.cellsOf e = (asTy q').n := by
              have hz : elems[i]? = some (elems[i]'(by omega)) := List.getElem?_eq_getElem _
              have h1 := hat i (by omega)
              rw [hz, Option.bind_eq_some_iff] at h1
              obtain ⟨ds, hds, htr⟩ := h1
              obtain ⟨z, z1, z2⟩ := trod_rd n hq' htr
              rw [(asTy_rd hq' z1 z2).1, hcells.1]
            refine ⟨ds, e0, fun j v hj => ?_, e2⟩
            have hjl := (List.getElem?_eq_some_iff.1 hj).1
            have := e1 j hjl
            rw [Addr.add_eq, Addr.add_eq, hcn] at this
            rw [this, hj]
        · obtain ⟨i, hi, rfl⟩ := List.getElem_of_mem hy
          exact (x2 i _ (List.getElem?_eq_getElem hi)).1
    · rename_i fs hu
      split at h
      case h_2 => cases h
      rename_i l hl
      split at h
      case isFalse => cases h
      rename_i hcl
      cases h
      obtain ⟨xs, m, _, _, hlen, hxs, hat⟩ := DataW.trod_struct hu hx
      have key : ∀ (fs : List Field) (o : Nat) (l : List Ty) (i0 : Nat), rowFs (rowOf P n) P.cellsOf o fs = some l → cs.length = o + l.length → (∀ (i : Nat) (f : Field), fs[i]? = some f → ∃ z, DataW.trod enc P w 0 spare held m f.type ((cs.drop f.offset).take (P.cellsOf f.type)) = some z) →
          ∃ y : (consTy l).D, Rd w (fun b => b < w.heap.size) (consTy l) (cs.drop o) y ∧ Vd (consTy l) y := by
        intro fs
        induction fs with
        | nil =>
          intro o l i0 hl hc _
          simp only [rowFs, Option.some.injEq] at hl
          subst hl
          refine ⟨(), ?_, trivial⟩
          simp only [consTy, Rd]
          simp at hc
          simp [hc]
        | cons f fs ih =>
          intro o l i0 hl hc hat
          simp only [rowFs] at hl
          split at hl
          case h_2 => cases hl
          rename_i l1 b1 hr
          split at hl
          case isFalse => cases hl
          rename_i hof
          simp only [Option.map_eq_some_iff] at hl
          obtain ⟨l2, hl2, rfl⟩ := hl
          obtain ⟨z, hz⟩ := hat 0 f rfl
          obtain ⟨y1, a1, a2⟩ := trod_rd n hr hz
          obtain ⟨y2, b1, b2⟩ := ih (o + l1.length) l2 0 hl2 (by simp at hc; omega) (fun i f hf => hat (i + 1) f (by simpa using hf))
          obtain ⟨y, c1, c2⟩ := Rd_append a1 b1 a2 b2
          refine ⟨y, ?_, c2⟩
          rw [hof.1, hof.2, ← List.drop_drop, List.take_append_drop] at c1
          exact c1
      have := key fs.toList 0 l 0 hl (by rw [hlen, hcl]; simp) (fun i f hf => by
        have hf' : fs[i]? = some f := by simpa using hf
        have hil : i < xs.length := by rw [hxs]; exact (Array.getElem?_eq_some_iff.1 hf').1
        exact ⟨xs[i], by rw [hat i f hf']; exact List.getElem?_eq_getElem hil⟩)
      simpa using this
    · cases h
end
end Go.Fw
end

section
open Go.RowKit
namespace Go.Fw
def rowEnv (W : World) : Env := { blk := fun _ => 0, hdr := fun _ => .nilFunc, T := fun b => b < W.heap.size, S := fun b => b < W.heap.size }
abbrev lawOut : Shp := ⟨[(0, .c (.v .bool))], []⟩
theorem law_calls {P : Program} {f : Nat} {slots : List (Nat × XP)} {g : Shp.V ⟨slots, []⟩ → Option lawOut.V} (hs : SoundC P f ⟨⟨slots, []⟩, lawOut, g⟩) {W : World} {args : Array Value} (x : Slots.V slots) (hlen : args.size = slots.length)
    (hx : SlotsR (rowEnv W) W [] id slots x args.toList) (hg : g (x, ()) = some ((true, ()), ())) : Calls P f args W fun e W' => e = .returned (.bool true) ∧ Below W.heap.size W W' := by
  obtain ⟨_, _, h⟩ := hs
  refine (h (rowEnv W) W (x, ()) args _ hlen ⟨[], ⟨rfl, fun k B F h => by simp [BPs.mk] at h⟩, by simp, by simp, by simp, fun _ h => h, fun _ h => h⟩ hx hg).mono fun e W' hR => ?_
  obtain ⟨v, E', rfl, base, _, ⟨⟨v', hv, hxr⟩, _⟩, _⟩ := hR
  simp at hv
  subst hv
  have : v = .bool true := by
    have h2 : VR E' W' [] (.v .bool true) v := hxr
    exact VR_bool h2
  subst this
  exact ⟨rfl, base.os, base.tape, base.output, base.size, fun k hk => base.heap k hk⟩
theorem slot_row {W : World} {vw : List Bx} {l : List Ty} (hl : l.all Ty.cell = true) {cs : Array Value} {y : (consTy l).D} (h : Rd W (fun b => b < W.heap.size) (consTy l) cs.toList y) : XR (rowEnv W) W vw (XP.mk id (.row (consTy l)) y) (.agg cs) := by
  refine ⟨cs, rfl, ?_⟩
  have key : ∀ (l : List Ty) (cs : List Value) (y : (consTy l).D), l.all Ty.cell = true → Rd W (fun b => b < W.heap.size) (consTy l) cs y → VRs (rowEnv W) W vw (rowCells (consTy l) y) cs := by
    intro l
    induction l with
    | nil =>
      intro cs y _ h
      simp only [consTy, Rd] at h
      subst h
      trivial
    | cons c l ih =>
      intro cs y hc h
      simp only [List.all_cons, Bool.and_eq_true] at hc
      simp only [consTy, Rd] at h
      obtain ⟨v, r, rfl, h1, h2⟩ := h
      refine ⟨?_, ih r y.2 hc.2 h2⟩
      cases c with
      | sl q => exact h1
      | int k => exact ⟨rfl, by simpa [Rd] using h1⟩
      | bool => exact ⟨rfl, by simpa [Rd] using h1⟩
      | str => exact ⟨rfl, by simpa [Rd] using h1⟩
      | unit => simp [Ty.cell] at hc
      | cons c r => simp [Ty.cell] at hc
  exact key l cs.toList y hl h
theorem slot_sl {W : World} {vw : List Bx} {s : Bool} {r : Ty} {v : Value} {y : List r.D} (h : Rd W (fun b => b < W.heap.size) (.sl r) [v] y) : XR (rowEnv W) W vw (XP.mk id (.c (.sl s r)) y) v := by
  show Rd W (if s then _ else _) (.sl r) [v] y
  cases s <;> exact h
theorem slot_v {W : World} {vw : List Bx} {t : Ty} (ht : t.scalar = true) {v : Value} {y : t.D} (h : Rd W (fun b => b < W.heap.size) t [v] y) : XR (rowEnv W) W vw (XP.mk id (.c (.v t)) y) v := by
  refine ⟨ht, ?_⟩
  cases t <;> simp_all [Ty.scalar, Rd]
end Go.Fw
end

section
namespace Go.Fw
def gam : List (Nat × Con) → Nat → Option Con
  | [], _ => none
  | (f, c) :: l, g => if f = g then some c else gam l g
def AllS (P : Program) : List (Nat × Con) → Prop
  | [] => True
  | q :: l => SoundC P q.1 q.2 ∧ AllS P l
theorem soundΓ_gam {P : Program} : ∀ {l : List (Nat × Con)}, AllS P l → SoundΓ P (gam l)
  | [], _ => fun f c e => by cases e
  | (g, d) :: l, h => fun f c e => by
    simp only [gam] at e
    split at e
    · rename_i hg
      cases e
      subst hg
      exact h.1
    · exact soundΓ_gam h.2 f c e
theorem callFunc_enter {P : Program} {f : Nat} {fn : Func} (hf : P.funcs[f]? = some fn) (hn : (fn.name == "runtime.NumGoroutine") = false) (hb : fn.body.isNone = false) (args : Array Value) (w : World) :
    (callFunc f args).run P w = .ok (.enter f args) w := by
  have h1 : fn.name ≠ "runtime.NumGoroutine" := by simpa using hn
  have h2 : fn.body ≠ none := by
    intro h
    rw [h] at hb
    cases hb
  simp [callFunc, hf, h1, h2]
def fnCheck (fn : Func) (c : Con) : Bool :=
  !(fn.name == "runtime.NumGoroutine") && !fn.body.isNone && c.ok && decide (c.ins.slots.length ≤ fn.ntmps) && (match fn.body with
    | some code => decide (labels code).Nodup
    | none => true)
theorem fnOk {P : Program} {f : Nat} {fn : Func} {c : Con} (hf : P.funcs[f]? = some fn) (h : fnCheck fn c = true) : FnOk P f fn c := by
  simp only [fnCheck, Bool.and_eq_true, Bool.not_eq_true', decide_eq_true_eq] at h
  obtain ⟨⟨⟨⟨h1, h2⟩, h3⟩, h4⟩, h5⟩ := h
  refine ⟨hf, callFunc_enter hf h1 h2, h3, h4, fun code hc => ?_⟩
  rw [hc] at h5
  simpa using h5
def LoopsL (C : Cfg) (c : Con) (fn : Func) (J : Nat → Nat → St → Option c.outs.V) : List Nat → Prop
  | [] => True
  | ℓ :: l => (∃ (s : Shp) (F : Nat → s.V → Option c.outs.V), (∀ n, J n ℓ = jump c.ins.bxs.length s (F n)) ∧ (∀ v, F 0 v = none) ∧
    ∀ n v, ∀ ω, loopF C c fn (J n) ℓ ω (s.st fn.ntmps v) = F (n + 1) v) ∧ LoopsL C c fn J l
theorem LoopsL.ok {C : Cfg} {c : Con} {fn : Func} {J : Nat → Nat → St → Option c.outs.V} : ∀ {l : List Nat}, LoopsL C c fn J l → ∀ ℓ ∈ l, ∃ (s : Shp) (F : Nat → s.V → Option c.outs.V), (∀ n, J n ℓ = jump c.ins.bxs.length s (F n)) ∧ (∀ v, F 0 v = none) ∧
    ∀ n v y, F (n + 1) v = some y → ∀ ω, loopF C c fn (J n) ℓ ω (s.st fn.ntmps v) = some y
  | [], _, ℓ, h => by cases h
  | k :: l, hl, ℓ, h => by
    rcases List.mem_cons.1 h with rfl | h
    · obtain ⟨⟨s, F, h1, h2, h3⟩, _⟩ := hl
      exact ⟨s, F, h1, h2, fun n v y e ω => (h3 n v ω).trans e⟩
    · exact LoopsL.ok hl.2 ℓ h
def labelsOf (fn : Func) : List Nat :=
  match fn.body with
  | some code => labels code
  | none => []
def hintOf : List (Nat × List Nat) → Nat → List Nat
  | [], _ => []
  | (r, h) :: l, q => if r = q then h else hintOf l q
theorem sound_by {P : Program} {T : Tab} {l : List (Nat × Con)} {hint : Nat → List Nat} {f : Nat} {fn : Func} {c : Con} (hT : TabOk P T) (hm : P.follows .mixedOrders = true) (hf : P.funcs[f]? = some fn) (hl : AllS P l) (hc : fnCheck fn c = true)
    {J : Nat → Nat → St → Option c.outs.V} {L : List Nat} (hL : labelsOf fn = L) (hJ : LoopsL ⟨T, gam l, hint⟩ c fn J L) (n : Nat) (he : ∀ ω v, enterF ⟨T, gam l, hint⟩ c fn (J n) ω v = c.g v) : SoundC P f c :=
  sound_fn (C := ⟨T, gam l, hint⟩) hT (soundΓ_gam hl) hm (fnOk hf hc) (J := J) (fun code hb ℓ hℓ => LoopsL.ok hJ ℓ (by
    rw [← hL]
    simp only [labelsOf, hb]
    exact hℓ)) fun v u hg => ⟨n, fun ω => (he ω v).trans hg⟩
theorem sound_by0 {P : Program} {T : Tab} {l : List (Nat × Con)} {hint : Nat → List Nat} {f : Nat} {fn : Func} {c : Con} (hT : TabOk P T) (hm : P.follows .mixedOrders = true) (hf : P.funcs[f]? = some fn) (hl : AllS P l) (hc : fnCheck fn c = true)
    (hL : labelsOf fn = []) (he : ∀ ω v, enterF ⟨T, gam l, hint⟩ c fn (fun _ _ => none) ω v = c.g v) : SoundC P f c :=
  sound_by hT hm hf hl hc (J := fun _ _ _ => none) hL trivial 0 he
end Go.Fw
end
