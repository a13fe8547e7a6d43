/- The framework, part 3: a checked interpreter of the model's code over abstract states; no claim is made here. -/
import Derived.Test.YtobkjajoopkgkaaF1
set_option linter.unusedVariables false
set_option linter.unusedSimpArgs false
section
namespace Go.Fw
def plainSlots : List (Nat × XP) → Bool
  | [] => true
  | (_, .c (.v _)) :: l => plainSlots l
  | (_, .tup []) :: l => plainSlots l
  | _ :: _ => false
theorem plainSlots_any {E E' : Env} {w w' : World} {vw vw' : List Bx} : ∀ {l : List (Nat × XP)} {x : Slots.V l} {vals : List Value}, plainSlots l = true → SlotsR E w vw id l x vals → SlotsR E' w' vw' id l x vals
  | [], _, _, _, _ => trivial
  | (i, .c (.v t)) :: l, x, vals, h, k => by
    obtain ⟨⟨v, hv, hx⟩, k⟩ := k
    exact ⟨⟨v, hv, VR_v_any (E := E) (E' := E') (vw := vw) (vw' := vw') (t := t) hx⟩, plainSlots_any (l := l) (by simpa [plainSlots] using h) k⟩
  | (i, .tup []) :: l, x, vals, h, k => by
    obtain ⟨⟨v, hv, hx⟩, k⟩ := k
    refine ⟨⟨v, hv, ?_⟩, plainSlots_any (l := l) (by simpa [plainSlots] using h) k⟩
    obtain ⟨vs, e, hvs⟩ := hx
    refine ⟨vs, e, ?_⟩
    cases hq : vs.toList with
    | nil => trivial
    | cons _ _ => rw [hq] at hvs; exact hvs.elim
  | (i, .c (.sl _ _)) :: l, _, _, h, _ => by simp [plainSlots] at h
  | (i, .c .nil) :: l, _, _, h, _ => by simp [plainSlots] at h
  | (i, .c (.ref _)) :: l, _, _, h, _ => by simp [plainSlots] at h
  | (i, .c (.ptr _ _)) :: l, _, _, h, _ => by simp [plainSlots] at h
  | (i, .c (.prow _)) :: l, _, _, h, _ => by simp [plainSlots] at h
  | (i, .c (.fn _ _)) :: l, _, _, h, _ => by simp [plainSlots] at h
  | (i, .c .any) :: l, _, _, h, _ => by simp [plainSlots] at h
  | (i, .c (.refp _ _)) :: l, _, _, h, _ => by simp [plainSlots] at h
  | (i, .agg _) :: l, _, _, h, _ => by simp [plainSlots] at h
  | (i, .row _) :: l, _, _, h, _ => by simp [plainSlots] at h
  | (i, .tup (_ :: _)) :: l, _, _, h, _ => by simp [plainSlots] at h
abbrev ownIns (d : Nat) (q : Ty) (rest : List (Nat × XP)) : Shp := ⟨(0, .c (.ref 0)) :: rest, [.sl d q]⟩
abbrev ownOuts (d : Nat) (q : Ty) (outs : List (Nat × XP)) : Shp := ⟨outs, [.sl d q]⟩
abbrev rowIns (d : Nat) (r : Ty) (sz : Nat) (rest : List (Nat × XP)) : Shp := ⟨(0, .c (.refp 0 sz)) :: rest, [.sl d r]⟩
def liftG (d : Nat) (q : Ty) (rest outs : List (Nat × XP)) (g : (ownIns d q rest).V → Option (ownOuts d q outs).V) (d' : Nat) (r : Ty) (sz : Nat) (v : (rowIns d' r sz rest).V) : Option (ownOuts d' r outs).V :=
  (getP r v.2.1 [⟨v.1.1.1, sz, v.1.1.2⟩]).bind fun s => (sameTy (β := fun r => List r.D) s.1 q s.2).bind fun ys =>
    (g (((), v.1.2), (ys, ()))).bind fun u => (setP r v.2.1 [⟨v.1.1.1, sz, v.1.1.2⟩] q u.2.1).map fun rows => (u.1, (rows, ()))
theorem flat_depth {w : World} {S : Nat → Prop} {d d' : Nat} : ∀ {r : Ty} {cs : List Value} {x : r.D} {G : List Nat}, r.flat = true → Ow w S d r cs x G → Ow w S d' r cs x G
  | .cons c r, cs, x, G, h, hr => by
    simp only [Ty.flat, Bool.and_eq_true] at h
    simp only [Ow] at hr ⊢
    obtain ⟨v, l, F1, F2, h1, h2, h3, h4⟩ := hr
    exact ⟨v, l, F1, F2, h1, h2, flat_depth h.1 h3, flat_depth h.2 h4⟩
  | .unit, _, _, _, _, hr => by simpa only [Ow] using hr
  | .int k, _, _, _, _, hr => by simpa only [Ow] using hr
  | .bool, _, _, _, _, hr => by simpa only [Ow] using hr
  | .str, _, _, _, _, hr => by simpa only [Ow] using hr
  | .sl q, _, _, _, h, _ => by simp [Ty.flat] at h
theorem Ow_any_depth {w : World} {S : Nat → Prop} {d d' : Nat} {q : Ty} (h : q.flat = true ∨ d = d') (hd : 1 ≤ d) (hd' : 1 ≤ d') {v : Value} {rows : List q.D} {F : List Nat} (ho : Ow w S d (.sl q) [v] rows F) : Ow w S d' (.sl q) [v] rows F := by
  rcases h with h | rfl
  · obtain ⟨d, rfl⟩ : ∃ n, d = n + 1 := ⟨d - 1, by omega⟩
    obtain ⟨d', rfl⟩ : ∃ n, d' = n + 1 := ⟨d' - 1, by omega⟩
    simp only [Ow] at ho ⊢
    obtain ⟨a, cap, e, hle, hx⟩ := ho
    refine ⟨a, cap, e, hle, ?_⟩
    rcases hx with hx | ⟨b, of, arr, ty, fr, Fs, h1, h2, h3, h4, h5, h6, h7⟩
    · exact .inl hx
    · refine .inr ⟨b, of, arr, ty, fr, Fs, h1, h2, h3, h4, h5, h6, fun i y G hy hG => ?_⟩
      obtain ⟨cs, k1, k2, k3⟩ := h7 i y G hy hG
      exact ⟨cs, k1, k2, flat_depth h k3⟩
  · exact ho
def liftCheck (d : Nat) (q : Ty) (rest outs : List (Nat × XP)) (d' : Nat) (r : Ty) (sz : Nat) : Bool :=
  plainSlots rest && plainSlots outs && (q.flat || decide (d = d' - 1)) && decide (1 ≤ d) && decide (2 ≤ d') && slotOk [.sl d' r] outs && decide (1 ≤ outs.length)
theorem lift_sound {P : Program} {f d : Nat} {q : Ty} {rest outs : List (Nat × XP)} {g : (ownIns d q rest).V → Option (ownOuts d q outs).V} (hs : SoundC P f ⟨ownIns d q rest, ownOuts d q outs, g⟩) {d' : Nat} {r : Ty} {sz : Nat}
    (hc : liftCheck d q rest outs d' r sz = true) {g' : (rowIns d' r sz rest).V → Option (ownOuts d' r outs).V} (hg : ∀ v u, g' v = some u → liftG d q rest outs g d' r sz v = some u) : SoundC P f ⟨rowIns d' r sz rest, ownOuts d' r outs, g'⟩ := by
  simp only [liftCheck, Bool.and_eq_true, Bool.or_eq_true, decide_eq_true_eq] at hc
  obtain ⟨⟨⟨⟨⟨⟨c1, c2⟩, c3⟩, c4⟩, c5⟩, c6⟩, c7⟩ := hc
  obtain ⟨hok, hcall, hsound⟩ := hs
  refine ⟨?_, hcall, fun E w v args u hlen hB hS hgu => ?_⟩
  · simp only [Con.ok, kinds, Bool.and_eq_true, decide_eq_true_eq, true_and, List.all_cons, List.all_nil, BP.okOut, Bool.and_true]
    exact c6
  · simp only at v u hlen hB hS hgu
    replace hgu := hg _ _ hgu
    simp only [liftG, Option.bind_eq_some_iff, Option.map_eq_some_iff] at hgu
    obtain ⟨⟨q0, ys0⟩, hget, ys, hys, u0, hgc, rows', hset, rfl⟩ := hgu
    obtain ⟨hq, e4⟩ := sameTy_eq hys
    dsimp only at hq hys hset
    subst hq
    subst e4
    dsimp only at hgc hset
    obtain ⟨⟨a0, ha0, hv0⟩, hrest⟩ := hS
    obtain ⟨Fs, ⟨f1, f2⟩, f3⟩ := hB
    simp only [BPs.mk, BP.mk, List.length_cons, List.length_nil] at f1 f2
    obtain ⟨F, rfl⟩ : ∃ F, Fs = [F] := by
      match Fs, f1 with
      | [F], _ => exact ⟨F, rfl⟩
    obtain ⟨hd1, how⟩ := f2 0 _ F rfl rfl
    simp only [List.flatten_cons, List.flatten_nil, List.append_nil] at f3
    have hv : VR E w [.sl d' r v.2.1] (.ref 0 [⟨v.1.1.1, sz, v.1.1.2⟩]) a0 := hv0
    simp only [VR, List.getElem?_cons_zero] at hv
    obtain ⟨hsl, hpath, _, hhdr⟩ := hv
    obtain ⟨h', F1, F2, m1, m2, m3, m4⟩ := Ow_place how hpath hget (by simp; omega)
    rw [hhdr] at m1
    cases m1
    have hdep : q0.flat = true ∨ d' - [(⟨v.1.1.1, sz, v.1.1.2⟩ : Stp)].length = d := by
      rcases c3 with c3 | c3
      · exact .inl c3
      · right; simp; omega
    have m2' := Ow_any_depth hdep (by simp; omega) c4 m2
    have nd : (F1 ++ F2).Nodup := m3.nodup_iff.1 f3.nodup
    have inF : ∀ c, c ∈ F1 ++ F2 → c ∈ F := fun c hc => m3.mem_iff.2 hc
    let E1 : Env := { blk := E.blk, hdr := fun n => if n = 0 then a0 else E.hdr n, T := fun c => E.T c ∨ c ∈ F2, S := E.S }
    have hB1 : Boxes E1 w (BPs.mk id (ownIns d q0 rest).bxs (ys0, ())) (BPs.mk id (ownIns d q0 rest).bxs (ys0, ())) [] := by
      refine ⟨[F1], ⟨rfl, fun k B G hB hG => ?_⟩, ?_⟩
      · cases k with
        | zero =>
          simp only [BPs.mk, BP.mk, List.getElem?_cons_zero, Option.some.injEq] at hB hG
          subst hB hG
          exact ⟨c4, by simpa only [E1, if_true] using m2'⟩
        | succ k => simp [BPs.mk] at hB
      · simp only [List.flatten_cons, List.flatten_nil, List.append_nil]
        refine ⟨(List.nodup_append.1 nd).1, fun c hc hT => ?_, fun c hc => f3.lt c (inF c (by simp [hc])), fun c hc => .inl (f3.st c hc), fun c hc => ?_⟩
        · rcases hT with hT | hT
          · exact f3.free c (inF c (by simp [hc])) hT
          · exact (List.nodup_append.1 nd).2.2 c hc c hT rfl
        · rcases hc with hc | hc
          · exact f3.tlt c hc
          · exact f3.lt c (inF c (by simp [hc]))
    have hS1 : SlotsR E1 w (BPs.mk id (ownIns d q0 rest).bxs (ys0, ())) id (ownIns d q0 rest).slots ((), v.1.2) args.toList := by
      refine ⟨⟨a0, ha0, ?_⟩, plainSlots_any c1 hrest⟩
      show VR E1 w [.sl d q0 ys0] (.ref 0 []) a0
      simp only [VR, List.getElem?_cons_zero]
      exact ⟨hsl, by simp [PathOk], ⟨_, rfl⟩, by simp only [E1, if_true]; exact hdrAt_here⟩
    refine (hsound E1 w (((), v.1.2), (ys0, ())) args u0 hlen hB1 hS1 hgc).mono fun e w' hR => ?_
    obtain ⟨x, E', rfl, base, ⟨Gs, ⟨g1, g2⟩, g3⟩, slots, hids⟩ := hR
    have hid := hids 0 (by simp) (by simp [alive])
    obtain ⟨G, rfl⟩ : ∃ G, Gs = [G] := by
      simp only [BPs.mk, List.length_cons, List.length_nil] at g1
      match Gs, g1 with
      | [G], _ => exact ⟨G, rfl⟩
    obtain ⟨_, ho'⟩ := g2 0 _ G rfl rfl
    simp only [List.flatten_cons, List.flatten_nil, List.append_nil] at g3
    have hh : E'.hdr 0 = a0 := by rw [hid.2]; simp only [E1, if_true]
    rw [hh] at ho'
    have ho2 := Ow_any_depth (d' := d' - [(⟨v.1.1.1, sz, v.1.1.2⟩ : Stp)].length) (hdep.imp id Eq.symm) c4 (by simp; omega) ho'
    obtain ⟨F', p1, p2⟩ := m4 w' E'.S u0.2.1 G rows' (fun c hc => base.S c hc) (fun c hc => base.heap c (.inl (f3.st c hc))) (fun c hc => base.heap c (.inr hc)) ho2 hset
    let E2 : Env := { blk := E.blk, hdr := E.hdr, T := fun c => E.T c ∨ E'.S c, S := E'.S }
    have hsub : ∀ c, E2.T c → E'.T c := fun c hc => hc.elim (fun h => base.T c (.inl h)) (fun h => g3.st c h)
    refine ⟨x, E2, rfl, ⟨fun c hc => .inl hc, fun c hc => base.S c hc, fun c hc => hc, fun c hc => (base.Sof c hc).imp id (fun h h' => h (.inl h')), fun c hc => base.heap c (.inl hc), base.os, base.tape, base.output, base.size⟩, ?_, plainSlots_any c2 slots, fun i hi hal => ⟨rfl, rfl⟩⟩
    refine ⟨[F'], ⟨rfl, fun k B H hB hH => ?_⟩, ?_⟩
    · cases k with
      | zero =>
        simp only [BPs.mk, BP.mk, List.getElem?_cons_zero, Option.some.injEq] at hB hH
        subst hB hH
        exact ⟨by omega, p2⟩
      | succ k => simp [BPs.mk] at hB
    · simp only [List.flatten_cons, List.flatten_nil, List.append_nil]
      have hF2T : ∀ c ∈ F2, E'.T c := fun c hc => base.T c (.inr hc)
      refine ⟨?_, fun c hc hT => ?_, fun c hc => ?_, fun c hc => .inr hc, fun c hc => ?_⟩
      · rw [p1.nodup_iff, List.nodup_append]
        refine ⟨g3.nodup, (List.nodup_append.1 nd).2.1, fun a ha b hb e => ?_⟩
        subst e
        exact g3.free a ha (hF2T a hb)
      · rcases List.mem_append.1 (p1.mem_iff.1 hc) with hc | hc
        · exact g3.free c hc (hsub c hT)
        · rcases hT with hT | hT
          · exact f3.free c (inF c (by simp [hc])) hT
          · rcases base.Sof c hT with h | h
            · exact f3.free c (inF c (by simp [hc])) (f3.st c h)
            · exact h (.inr hc)
      · rcases List.mem_append.1 (p1.mem_iff.1 hc) with hc | hc
        · exact g3.lt c hc
        · exact Nat.lt_of_lt_of_le (f3.lt c (inF c (by simp [hc]))) base.size
      · exact g3.tlt c (hsub c hc)
end Go.Fw
end

section
namespace Go.M
abbrev LIM : Nat := Go.Fw.LIM
def w64 (x : Int) : Int := IntKind.wrap .i64 x
def w8 (x : Int) : Int := IntKind.wrap .u8 x
def bAnd (κ : IntKind) (a b : Int) : Int := κ.wrap (BitVec.ofInt κ.bits a &&& BitVec.ofInt κ.bits b).toNat
def bOr (κ : IntKind) (a b : Int) : Int := κ.wrap (BitVec.ofInt κ.bits a ||| BitVec.ofInt κ.bits b).toNat
def bXor (κ : IntKind) (a b : Int) : Int := κ.wrap (BitVec.ofInt κ.bits a ^^^ BitVec.ofInt κ.bits b).toNat
def bAndNot (κ : IntKind) (a b : Int) : Int := κ.wrap (BitVec.ofInt κ.bits a &&& ~~~BitVec.ofInt κ.bits b).toNat
theorem fuel_there : ∃ n : Nat, 2 ^ 64 ≤ n := ⟨_, Nat.le_refl _⟩
noncomputable def FUEL : Nat := Classical.choose fuel_there
theorem FUEL_ge : 2 ^ 64 ≤ FUEL := Classical.choose_spec fuel_there
end Go.M
end
