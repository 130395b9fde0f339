/- Proved: for every code, the law FnClockDrop answers true and leaves its argument as it was (what is dropped does not ring). No condition beyond the row's own. -/
import Derived.Test.YtpacdakadkblgaaPFnClockDropx12
import Derived.Test.YtpacdakadkblgaaAuxFnClockDrop
namespace Go.Proofs.Ytpacdakadkblgaa.Pure
open Go.RowKit Go.Proofs.Ytpacdakadkblgaa.PFnClockDrop Go.Proofs.YtpacdakadkblgaaW.PrintWords Go.Proofs.YtpacdakadkblgaaW.PrintLast Go.Proofs.YtpacdakadkblgaaW.PrintMore Go.Proofs.Ytpacdakadkblgaa.Aux
set_option linter.unusedVariables false
set_option linter.unusedSimpArgs false
theorem aT_get {l : List S35} {i : Nat} (h : i < l.length) : aT l i = l[i] := by
  unfold aT rd_T35
  rw [Int.toNat_natCast, List.getD_eq_getElem?_getD, List.getElem?_eq_getElem h]; rfl
theorem mem_aT {l : List S35} {a : S35} (h : a ∈ l) : ∃ i, i < l.length ∧ aT l i = a := by
  obtain ⟨i, hi, e⟩ := List.mem_iff_getElem.1 h
  exact ⟨i, hi, by rw [aT_get hi, e]⟩
theorem aT_mem {l : List S35} {i : Nat} (h : i < l.length) : aT l i ∈ l := by
  rw [aT_get h]; exact List.getElem_mem h
/-- An alarm is ahead of another one. -/
def ltA (a b : S35) : Prop := a.f1 < b.f1 ∨ (a.f1 = b.f1 ∧ a.f0 < b.f0)
theorem ltA_trans {a b c : S35} (h1 : ltA a b) (h2 : ltA b c) : ltA a c := by unfold ltA at *; omega
def InR (a : S35) : Prop := (0 ≤ a.f0 ∧ a.f0 ≤ 99) ∧ (0 ≤ a.f1 ∧ a.f1 ≤ 4095)
theorem byT_lt {a b : S35} (ha : InR a) (hb : InR b) : byT a b < 0 ↔ ltA a b := by
  unfold byT ltA
  obtain ⟨h1, h2⟩ := ha
  obtain ⟨h3, h4⟩ := hb
  split
  · rw [wrap_in (by omega) (by omega)]; omega
  · rw [wrap_in (by omega) (by omega)]; omega
/-- What a valid clock's alarms are. -/
structure OkA (now : Int) (l : List S35) : Prop where
  rng : ∀ i, i < l.length → InR (aT l i) ∧ now < (aT l i).f1 ∧ 0 ≤ (aT l i).f2 ∧ (aT l i).f2 ≤ 99
  ids : ∀ i j, i < l.length → j < i → (aT l j).f0 ≠ (aT l i).f0
  adj : ∀ i, i + 1 < l.length → ltA (aT l i) (aT l (i + 1))
theorem OkA.lt {now : Int} {l : List S35} (h : OkA now l) {j i : Nat} (hj : j < i) (hi : i < l.length) : ltA (aT l j) (aT l i) := by
  obtain ⟨d, rfl⟩ : ∃ d, i = j + 1 + d := ⟨i - (j + 1), by omega⟩
  clear hj
  induction d with
  | zero => exact h.adj j hi
  | succ d ih => exact ltA_trans (ih (by omega)) (h.adj (j + 1 + d) hi)
theorem seen_iff {l : List S35} {x : Int} {i : Nat} : clkSeen l x i = true ↔ ∃ j, j < i ∧ (aT l j).f0 = x := by
  induction i with
  | zero => simp [clkSeen]
  | succ i ih =>
    unfold clkSeen
    rw [Bool.or_eq_true, ih, decide_eq_true_eq]
    constructor
    · rintro (⟨j, h1, h2⟩ | h)
      · exact ⟨j, by omega, h2⟩
      · exact ⟨i, by omega, h⟩
    · rintro ⟨j, h1, h2⟩
      by_cases e : j = i
      · subst e; exact .inr h2
      · exact .inl ⟨j, by omega, h2⟩
theorem rows_iff {now : Int} {l : List S35} : ∀ (d i : Nat), clkRows now l d i = true ↔ ∀ j, i ≤ j → j < i + d → clkBad now l j = false
  | 0, i => by simp [clkRows]; intro j h1 h2; omega
  | d + 1, i => by
    unfold clkRows
    rw [Bool.and_eq_true, rows_iff d (i + 1), Bool.not_eq_true']
    constructor
    · rintro ⟨h1, h2⟩ j h3 h4
      by_cases e : j = i
      · rw [e]; exact h1
      · exact h2 j (by omega) (by omega)
    · intro h
      exact ⟨h i (by omega) (by omega), fun j h1 h2 => h j (by omega) (by omega)⟩
theorem bad_iff {now : Int} {l : List S35} {i : Nat} (hn : -1 ≤ now) (hn2 : now ≤ 1000000) : clkBad now l i = false ↔
    (0 ≤ (aT l i).f0 ∧ (aT l i).f0 ≤ 99) ∧ (¬ ∃ j, j < i ∧ (aT l j).f0 = (aT l i).f0) ∧ (now < (aT l i).f1 ∧ (aT l i).f1 ≤ 4095) ∧ (0 ≤ (aT l i).f2 ∧ (aT l i).f2 ≤ 99) ∧ (0 < i → byT (aT l (i - 1)) (aT l i) < 0) := by
  have hw : wrap64 (now + 1) = now + 1 := wrap_in (by omega) (by omega)
  unfold clkBad
  rw [hw, ← seen_iff]
  simp only [Bool.or_eq_false_iff, Bool.and_eq_false_iff, Bool.not_eq_false', inB_iff, decide_eq_false_iff_not, Bool.not_eq_true]
  constructor
  · rintro ⟨h1, h2, h3, h4, h5⟩
    exact ⟨h1, h2, by omega, h4, by omega⟩
  · rintro ⟨h1, h2, h3, h4, h5⟩
    refine ⟨h1, h2, by omega, h4, ?_⟩
    by_cases h : 0 < i
    · exact .inr (by have := h5 h; omega)
    · exact .inl h
theorem okA_of {now : Int} {l : List S35} (hn : -1 ≤ now) (hn2 : now ≤ 1000000) (h : ∀ j, j < l.length → clkBad now l j = false) : OkA now l := by
  have hr : ∀ i, i < l.length → InR (aT l i) := fun i hi => by
    have := (bad_iff hn hn2).1 (h i hi)
    unfold InR; omega
  refine ⟨fun i hi => ?_, fun i j hi hj e => ?_, fun i hi => ?_⟩
  · have := (bad_iff hn hn2).1 (h i hi)
    exact ⟨hr i hi, by omega, by omega, by omega⟩
  · exact ((bad_iff hn hn2).1 (h i hi)).2.1 ⟨j, hj, e⟩
  · have := ((bad_iff hn hn2).1 (h (i + 1) hi)).2.2.2.2 (by omega)
    rw [Nat.add_sub_cancel] at this
    exact (byT_lt (hr i (by omega)) (hr (i + 1) hi)).1 this
theorem okA_bad {now : Int} {l : List S35} (hn : -1 ≤ now) (hn2 : now ≤ 1000000) (h : OkA now l) (j : Nat) (hj : j < l.length) : clkBad now l j = false := by
  have h1 := h.rng j hj
  refine (bad_iff hn hn2).2 ⟨h1.1.1, ?_, ⟨h1.2.1, h1.1.2.2⟩, h1.2.2, fun h0 => ?_⟩
  · rintro ⟨i, h2, h3⟩
    exact h.ids j i hj h2 h3
  · have h2 := h.adj (j - 1) (by omega)
    rw [Nat.sub_add_cancel (by omega)] at h2
    exact (byT_lt (h.rng (j - 1) (by omega)).1 h1.1).2 h2
theorem clkOk_iff {now : Int} {l : List S35} (hn : -1 ≤ now) (hn2 : now ≤ 1000000) : clkOk now l = true ↔ OkA now l ∧ (0 ≤ now ∧ now ≤ 4095) ∧ l.length ≤ 12 := by
  unfold clkOk
  rw [Bool.and_eq_true, Bool.and_eq_true, inB_iff, decide_eq_true_eq, rows_iff]
  constructor
  · rintro ⟨h1, h2, h3⟩
    exact ⟨okA_of hn hn2 (fun j hj => h1 j (by omega) (by omega)), h2, by omega⟩
  · rintro ⟨h1, h2, h3⟩
    exact ⟨fun j _ hj => okA_bad hn hn2 h1 j (by omega), h2, by omega⟩
theorem aT_erase {l : List S35} {k i : Nat} (hi : i < (l.eraseIdx k).length) (hk : k < l.length) : aT (l.eraseIdx k) i = aT l (if i < k then i else i + 1) := by
  have hl : (l.eraseIdx k).length = l.length - 1 := List.length_eraseIdx_of_lt hk
  rw [aT_get hi, List.getElem_eraseIdx]
  split
  · rw [aT_get]
  · rw [aT_get]
theorem okA_erase {now : Int} {l : List S35} {k : Nat} (h : OkA now l) (hk : k < l.length) : OkA now (l.eraseIdx k) := by
  have hl : (l.eraseIdx k).length = l.length - 1 := List.length_eraseIdx_of_lt hk
  refine ⟨fun i hi => ?_, fun i j hi hj => ?_, fun i hi => ?_⟩
  · rw [aT_erase hi hk]
    exact h.rng _ (by split <;> omega)
  · rw [aT_erase hi hk, aT_erase (by omega) hk]
    exact h.ids _ _ (by split <;> omega) (by split <;> split <;> omega)
  · rw [aT_erase hi hk, aT_erase (by omega) hk]
    exact h.lt (by split <;> split <;> omega) (by split <;> omega)
theorem idx_spec (l : List S35) (x : Int) : ∀ (d i : Nat), i + d = l.length → (impl_Clock_at.idx l x d i = -1 ∧ ∀ j, i ≤ j → j < l.length → (aT l j).f0 ≠ x) ∨ (∃ k : Nat, impl_Clock_at.idx l x d i = (k : Int) ∧ i ≤ k ∧ k < l.length ∧ (aT l k).f0 = x ∧ ∀ j, i ≤ j → j < k → (aT l j).f0 ≠ x)
  | 0, i, h => .inl ⟨rfl, fun j h1 h2 => by omega⟩
  | d + 1, i, h => by
    rw [impl_Clock_at.idx]
    by_cases c : (aT l i).f0 = x
    · rw [if_pos c]
      exact .inr ⟨i, rfl, by omega, by omega, c, fun j h1 h2 => by omega⟩
    · rw [if_neg c]
      rcases idx_spec l x d (i + 1) (by omega) with ⟨h1, h2⟩ | ⟨k, h1, h2, h3, h4, h5⟩
      · refine .inl ⟨h1, fun j h3 h4 => ?_⟩
        by_cases e : j = i
        · rw [e]; exact c
        · exact h2 j (by omega) h4
      · refine .inr ⟨k, h1, by omega, h3, h4, fun j h6 h7 => ?_⟩
        by_cases e : j = i
        · rw [e]; exact c
        · exact h5 j (by omega) h7
theorem idx_none {l : List S35} {x : Int} (h : ∀ a ∈ l, a.f0 ≠ x) : impl_Clock_at.idx l x l.length 0 = -1 := by
  rcases idx_spec l x l.length 0 (by omega) with ⟨h1, _⟩ | ⟨k, _, _, h3, h4, _⟩
  · exact h1
  · exact absurd h4 (h _ (aT_mem h3))
theorem erase_ids {now : Int} {l : List S35} {k : Nat} (h : OkA now l) (hk : k < l.length) : ∀ a ∈ l.eraseIdx k, a.f0 ≠ (aT l k).f0 := by
  intro a ha
  obtain ⟨i, hi, rfl⟩ := mem_aT ha
  have hl : (l.eraseIdx k).length = l.length - 1 := List.length_eraseIdx_of_lt hk
  rw [aT_erase hi hk]
  by_cases c : i < k
  · rw [if_pos c]; exact h.ids k i hk c
  · rw [if_neg c]; exact fun e => h.ids (i + 1) k (by omega) (by omega) e.symm
theorem erase_filter {now : Int} {l : List S35} {k : Nat} (h : OkA now l) (hk : k < l.length) : l.filter (fun a => !decide (a.f0 = (aT l k).f0)) = l.eraseIdx k := by
  have e : l = l.take k ++ aT l k :: l.drop (k + 1) := by
    rw [aT_get hk, List.getElem_cons_drop, List.take_append_drop]
  have h1 : ∀ a ∈ l.eraseIdx k, (!decide (a.f0 = (aT l k).f0)) = true := fun a ha => by rw [decide_eq_false (erase_ids h hk a ha)]; rfl
  have e2 : l.eraseIdx k = l.take k ++ l.drop (k + 1) := List.eraseIdx_eq_take_drop_succ l k
  rw [e2] at h1 ⊢
  obtain ⟨x, hx⟩ : ∃ x, x = aT l k := ⟨_, rfl⟩
  rw [← hx] at e h1 ⊢
  conv => lhs; rw [e]
  rw [List.filter_append, List.filter_cons_of_neg (by simp), ← List.filter_append]
  exact List.filter_eq_self.2 h1
theorem bsGo_eq {m : List S35} {a : S35} {k n : Nat} (hk : ∀ h, h < n → (byT (aT m h) a < 0 ↔ h < k)) : ∀ (d i j : Nat), i ≤ k → k ≤ j → j ≤ n → j - i ≤ d → bsGo m a d i j = k
  | 0, i, j, h1, h2, _, h4 => by unfold bsGo; omega
  | d + 1, i, j, h1, h2, h3, h4 => by
    rw [bsGo]
    by_cases c : i < j
    · rw [if_pos c]
      by_cases e : byT (aT m ((i + j) / 2)) a < 0
      · rw [if_pos e]
        have := (hk _ (by omega)).1 e
        exact bsGo_eq hk d _ _ (by omega) h2 h3 (by omega)
      · rw [if_neg e]
        have : ¬ (i + j) / 2 < k := fun h => e ((hk _ (by omega)).2 h)
        exact bsGo_eq hk d _ _ h1 (by omega) (by omega) (by omega)
    · rw [if_neg c]; omega
theorem put_back {now : Int} {l : List S35} {k : Nat} (h : OkA now l) (hk : k < l.length) : putM (l.eraseIdx k) (aT l k) = l := by
  have hl : (l.eraseIdx k).length = l.length - 1 := List.length_eraseIdx_of_lt hk
  have hr := (h.rng k hk).1
  have hb : bsI (l.eraseIdx k) (aT l k) = k := by
    unfold bsI
    refine bsGo_eq (n := (l.eraseIdx k).length) (fun i hi => ?_) _ _ _ (by omega) (by omega) (Nat.le_refl _) (by omega)
    rw [aT_erase hi hk, byT_lt (h.rng _ (by split <;> omega)).1 hr]
    by_cases c : i < k
    · rw [if_pos c]; exact ⟨fun _ => c, fun _ => h.lt c hk⟩
    · rw [if_neg c]
      refine ⟨fun h1 => ?_, fun h1 => absurd h1 c⟩
      have h2 := h.lt (show k < i + 1 by omega) (by omega)
      unfold ltA at h1 h2; omega
  unfold putM
  rw [if_pos hr.2.2, hb]
  unfold insAt
  rw [List.eraseIdx_eq_take_drop_succ]
  have hk2 : (l.take k).length = k := by rw [List.length_take]; omega
  rw [List.take_left' hk2, List.drop_left' hk2, aT_get hk, List.getElem_cons_drop, List.take_append_drop]
theorem l6in_eq (a lo hi : Int) : spec_l6In.f a lo hi = some (inB a lo hi) := by
  unfold spec_l6In.f inB
  by_cases h : lo ≤ a
  · rw [if_pos h, decide_eq_true h, Bool.true_and]
  · rw [if_neg h, decide_eq_false h, Bool.false_and]
theorem time_eq (a : Int) : spec_l19Time.f a = some (inB a 0 4095) := by
  unfold spec_l19Time.f
  rw [l6in_eq]; rfl
instance (a b : S35) : Decidable (ltA a b) := by unfold ltA; exact inferInstance
theorem ahead_eq (a b : S35) : spec_l19Ahead.f a.f0 a.f1 a.f2 b.f0 b.f1 b.f2 = some (decide (ltA a b)) := by
  unfold spec_l19Ahead.f
  by_cases h : a.f1 < b.f1
  · rw [if_pos h, decide_eq_true (show ltA a b from .inl h)]
  · rw [if_neg h]
    by_cases h2 : a.f1 = b.f1
    · rw [if_pos h2]
      congr 1
      by_cases h3 : a.f0 < b.f0
      · rw [decide_eq_true h3, decide_eq_true (show ltA a b from .inr ⟨h2, h3⟩)]
      · rw [decide_eq_false h3, decide_eq_false (show ¬ ltA a b by unfold ltA; omega)]
    · rw [if_neg h2, decide_eq_false (show ¬ ltA a b by unfold ltA; omega)]
theorem row_step (now : Int) (l : List S35) (i : Nat) (hi : i < l.length) (hl : l.length ≤ 1000000) :
    ∃ b, (∀ k, spec_ClockOk.l0 (k + 1) (i : Int) now l = spec_ClockOk.j1 k (i : Int) b now l (aT l i).f0 (aT l i).f1 (aT l i).f2) ∧
      (b = false ↔ inB (aT l i).f0 0 99 = true ∧ inB (aT l i).f1 0 4095 = true ∧ now < (aT l i).f1 ∧ inB (aT l i).f2 0 99 = true ∧ (0 < i → ltA (aT l (i - 1)) (aT l i))) := by
  have e0 : ∀ k, spec_ClockOk.l0 (k + 1) (i : Int) now l = spec_ClockOk.l0 (k + 1) (i : Int) now l := fun _ => rfl
  rcases bc (inB (aT l i).f0 0 99) with h1 | h1
  · refine ⟨true, fun k => ?_, by simp [h1]⟩
    simp only [spec_ClockOk.l0]
    rw [if_pos (by omega), if_pos (by omega), l6in_eq]
    show (if inB (aT l i).f0 0 99 = true then _ else _) = _
    rw [if_neg (by rw [h1]; decide)]; rfl
  rcases bc (inB (aT l i).f1 0 4095) with h2 | h2
  · refine ⟨true, fun k => ?_, by simp [h2]⟩
    simp only [spec_ClockOk.l0]
    rw [if_pos (by omega), if_pos (by omega), l6in_eq, time_eq]
    show (if inB (aT l i).f0 0 99 = true then (if inB (aT l i).f1 0 4095 = true then _ else _) else _) = _
    rw [if_pos h1, if_neg (by rw [h2]; decide)]; rfl
  by_cases h3 : (aT l i).f1 ≤ now
  · refine ⟨true, fun k => ?_, by simp; omega⟩
    simp only [spec_ClockOk.l0]
    rw [if_pos (by omega), if_pos (by omega), l6in_eq, time_eq]
    show (if inB (aT l i).f0 0 99 = true then (if inB (aT l i).f1 0 4095 = true then (if (aT l i).f1 ≤ now then _ else _) else _) else _) = _
    rw [if_pos h1, if_pos h2, if_pos h3]; rfl
  rcases bc (inB (aT l i).f2 0 99) with h4 | h4
  · refine ⟨true, fun k => ?_, by simp [h4]⟩
    simp only [spec_ClockOk.l0]
    rw [if_pos (by omega), if_pos (by omega), l6in_eq, time_eq, l6in_eq]
    show (if inB (aT l i).f0 0 99 = true then (if inB (aT l i).f1 0 4095 = true then (if (aT l i).f1 ≤ now then _ else (if inB (aT l i).f2 0 99 = true then _ else _)) else _) else _) = _
    rw [if_pos h1, if_pos h2, if_neg h3, if_neg (by rw [h4]; decide)]; rfl
  by_cases h5 : 0 < i
  · refine ⟨!decide (ltA (aT l (i - 1)) (aT l i)), fun k => ?_, by simp [h1, h2, h4, h5]; omega⟩
    simp only [spec_ClockOk.l0]
    rw [if_pos (by omega), if_pos (by omega), l6in_eq, time_eq, l6in_eq, show wrap64 ((i : Int) - 1) = ((i - 1 : Nat) : Int) by rw [wrap_in (by omega) (by omega)]; omega]
    show (if inB (aT l i).f0 0 99 = true then (if inB (aT l i).f1 0 4095 = true then (if (aT l i).f1 ≤ now then _ else (if inB (aT l i).f2 0 99 = true then (if (i : Int) > 0 then (if 0 ≤ ((i - 1 : Nat) : Int) then (if ((i - 1 : Nat) : Int) < (l.length : Int) then ((spec_l19Ahead.f (aT l (i - 1)).f0 (aT l (i - 1)).f1 (aT l (i - 1)).f2 (aT l i).f0 (aT l i).f1 (aT l i).f2).bind _) else _) else _) else _) else _)) else _) else _) = _
    rw [if_pos h1, if_pos h2, if_neg h3, if_pos h4, if_pos (by omega), if_pos (by omega), if_pos (by omega), ahead_eq]; rfl
  · refine ⟨false, fun k => ?_, by simp [h1, h2, h4, h5]; omega⟩
    simp only [spec_ClockOk.l0]
    rw [if_pos (by omega), if_pos (by omega), l6in_eq, time_eq, l6in_eq]
    show (if inB (aT l i).f0 0 99 = true then (if inB (aT l i).f1 0 4095 = true then (if (aT l i).f1 ≤ now then _ else (if inB (aT l i).f2 0 99 = true then (if (i : Int) > 0 then _ else _) else _)) else _) else _) = _
    rw [if_pos h1, if_pos h2, if_neg h3, if_pos h4, if_neg (by omega)]; rfl
theorem l1_pass (now : Int) (l : List S35) (x y z : Int) (i : Nat) (hi : i < l.length) (hl : l.length ≤ 1000000) (r : Bool) (hx : ∀ m, m < i → (aT l m).f0 ≠ x) (h : Evt (fun k => spec_ClockOk.l0 k ((i + 1 : Nat) : Int) now l = some r)) :
    ∀ (d j : Nat), j + d = i → Evt (fun k => spec_ClockOk.l1 k (i : Int) (j : Int) now l x y z = some r)
  | 0, j, hj => by
    refine h.step fun k hk => ?_
    simp only [spec_ClockOk.l1]
    rw [if_neg (by omega), nat_succ_wrap (by omega)]
    exact hk
  | d + 1, j, hj => by
    refine (l1_pass now l x y z i hi hl r hx h d (j + 1) (by omega)).step fun k hk => ?_
    simp only [spec_ClockOk.l1]
    rw [if_pos (by omega), if_pos (by omega), if_pos (by omega), if_neg (show ¬ (rd_T35 l (j : Int)).f0 = x from hx j (by omega)), nat_succ_wrap (by omega)]
    exact hk
theorem l1_found (now : Int) (l : List S35) (x y z : Int) (i : Nat) (hi : i < l.length) (hl : l.length ≤ 1000000) :
    ∀ (d j : Nat), j + d = i → (∃ m, j ≤ m ∧ m < i ∧ (aT l m).f0 = x) → Evt (fun k => spec_ClockOk.l1 k (i : Int) (j : Int) now l x y z = some false)
  | 0, j, hj, h => by
    obtain ⟨m, h1, h2, _⟩ := h
    omega
  | d + 1, j, hj, h => by
    by_cases c : (aT l j).f0 = x
    · refine Evt.of1 fun k => ?_
      simp only [spec_ClockOk.l1]
      rw [if_pos (by omega), if_pos (by omega), if_pos (by omega)]
      exact if_pos c
    · obtain ⟨m, h1, h2, h3⟩ := h
      refine (l1_found now l x y z i hi hl d (j + 1) (by omega) ⟨m, by
        have : m ≠ j := fun e => c (e ▸ h3)
        omega, h2, h3⟩).step fun k hk => ?_
      simp only [spec_ClockOk.l1]
      rw [if_pos (by omega), if_pos (by omega), if_pos (by omega), if_neg (show ¬ (rd_T35 l (j : Int)).f0 = x from c), nat_succ_wrap (by omega)]
      exact hk
theorem spec_ok_loop {now : Int} {l : List S35} (hn : -1 ≤ now) (hn2 : now ≤ 1000000) (hl : l.length ≤ 1000000) : ∀ (d i : Nat), i + d = l.length → (0 < i → InR (aT l (i - 1))) →
    Evt (fun k => spec_ClockOk.l0 k (i : Int) now l = some (clkRows now l d i && (inB now 0 4095 && decide ((l.length : Int) ≤ 12)))) := by
  intro d
  induction d with
  | zero =>
    intro i hi _
    refine Evt.of1 fun k => ?_
    simp only [spec_ClockOk.l0]
    rw [if_neg (by omega), time_eq]
    show (if inB now 0 4095 = true then _ else _) = _
    rcases bc (inB now 0 4095) with h | h
    · rw [if_neg (by rw [h]; decide), h]; rfl
    · rw [if_pos h, h]; rfl
  | succ d ih =>
    intro i hi hp
    obtain ⟨b, hb, hbi⟩ := row_step now l i (by omega) hl
    have hrow : clkRows now l (d + 1) i = (!clkBad now l i && clkRows now l d (i + 1)) := rfl
    have hIn : b = false → InR (aT l i) := fun h => by
      obtain ⟨h1, h2, _⟩ := hbi.1 h
      have h1 := inB_iff.1 h1
      have h2 := inB_iff.1 h2
      exact ⟨h1, h2⟩
    have hbad : clkBad now l i = false ↔ b = false ∧ ¬ ∃ j, j < i ∧ (aT l j).f0 = (aT l i).f0 := by
      rw [bad_iff hn hn2]
      constructor
      · rintro ⟨h1, h2, h3, h4, h5⟩
        have hr : InR (aT l i) := ⟨h1, by omega, h3.2⟩
        exact ⟨hbi.2 ⟨inB_iff.2 h1, inB_iff.2 (by omega), h3.1, inB_iff.2 h4, fun h0 => (byT_lt (hp h0) hr).1 (h5 h0)⟩, h2⟩
      · rintro ⟨h1, h2⟩
        obtain ⟨g1, g2, g3, g4, g5⟩ := hbi.1 h1
        have g1 := inB_iff.1 g1
        have g2 := inB_iff.1 g2
        have g4 := inB_iff.1 g4
        exact ⟨g1, h2, ⟨g3, g2.2⟩, g4, fun h0 => (byT_lt (hp h0) (hIn h1)).2 (g5 h0)⟩
    rw [hrow]
    rcases bc (clkBad now l i) with h | h
    · obtain ⟨h1, h2⟩ := hbad.1 h
      subst h1
      rw [h, Bool.not_false, Bool.true_and]
      have hev := ih (i + 1) (by omega) (fun _ => by rw [Nat.add_sub_cancel]; exact hIn rfl)
      refine ((l1_pass now l (aT l i).f0 (aT l i).f1 (aT l i).f2 i (by omega) hl _ (fun m hm e => h2 ⟨m, hm, e⟩) hev i 0 (by omega)).step (Q := fun k => spec_ClockOk.j1 k (i : Int) false now l (aT l i).f0 (aT l i).f1 (aT l i).f2 = some (clkRows now l d (i + 1) && (inB now 0 4095 && decide ((l.length : Int) ≤ 12)))) fun k hk => ?_).step fun k hk => ?_
      · simp only [spec_ClockOk.j1]
        rw [if_neg (by decide)]
        exact hk
      · rw [hb]; exact hk
    · rw [h, Bool.not_true, Bool.false_and, Bool.false_and]
      cases b with
      | true =>
        refine (Evt.of1 (P := fun k => spec_ClockOk.j1 k (i : Int) true now l (aT l i).f0 (aT l i).f1 (aT l i).f2 = some false) fun k => ?_).step fun k hk => ?_
        · simp only [spec_ClockOk.j1]; exact if_pos trivial
        · rw [hb]; exact hk
      | false =>
        have hx : ∃ m, 0 ≤ m ∧ m < i ∧ (aT l m).f0 = (aT l i).f0 := by
          apply Classical.byContradiction
          intro hc
          have := hbad.2 ⟨rfl, fun ⟨j, h1, h2⟩ => hc ⟨j, Nat.zero_le _, h1, h2⟩⟩
          rw [h] at this
          cases this
        refine ((l1_found now l (aT l i).f0 (aT l i).f1 (aT l i).f2 i (by omega) hl i 0 (by omega) hx).step (Q := fun k => spec_ClockOk.j1 k (i : Int) false now l (aT l i).f0 (aT l i).f1 (aT l i).f2 = some false) fun k hk => ?_).step fun k hk => ?_
        · simp only [spec_ClockOk.j1]
          rw [if_neg (by decide)]
          exact hk
        · rw [hb]; exact hk
theorem spec_ok_ev {now : Int} {l : List S35} (hn : -1 ≤ now) (hn2 : now ≤ 1000000) (hl : l.length ≤ 1000000) : Evt (fun k => spec_ClockOk.f k now l = some (clkOk now l)) :=
  spec_ok_loop hn hn2 hl l.length 0 (by omega) (fun h => by omega)
theorem drop_aT {l : List S35} {i : Nat} (h : i < l.length) : l.drop i = aT l i :: l.drop (i + 1) := by rw [aT_get h, List.getElem_cons_drop]
theorem less_loop (l : List S35) (x : Int) (hl : l.length ≤ 1000000) : ∀ (d i : Nat) (o : List S35), i + d = l.length → o.length ≤ i →
    Evt (fun k => spec_l19Less.l0 k l x o (i : Int) = some (o ++ (l.drop i).filter (fun a => !decide (a.f0 = x))))
  | 0, i, o, hi, ho => by
    refine Evt.of1 fun k => ?_
    simp only [spec_l19Less.l0]
    rw [if_neg (by omega), List.drop_of_length_le (by omega), List.filter_nil, List.append_nil]
  | d + 1, i, o, hi, ho => by
    rw [drop_aT (show i < l.length by omega)]
    by_cases c : (aT l i).f0 = x
    · rw [List.filter_cons_of_neg (by simp [c])]
      refine (less_loop l x hl d (i + 1) o (by omega) (by omega)).step fun k hk => ?_
      simp only [spec_l19Less.l0]
      rw [if_pos (by omega), if_pos (by omega), if_pos (show (rd_T35 l (i : Int)).f0 = x from c), nat_succ_wrap (by omega)]
      exact hk
    · rw [List.filter_cons_of_pos (by simp [c])]
      have ih := less_loop l x hl d (i + 1) (o ++ [aT l i]) (by omega) (by simp; omega)
      rw [List.append_assoc] at ih
      refine ih.step fun k hk => ?_
      simp only [spec_l19Less.l0]
      rw [if_pos (by omega), if_pos (by omega), if_neg (show ¬ (rd_T35 l (i : Int)).f0 = x from c), if_pos (by omega), nat_succ_wrap (by omega)]
      exact hk
theorem less_ev (l : List S35) (x : Int) (hl : l.length ≤ 1000000) : Evt (fun k => spec_l19Less.f k l x = some (l.filter (fun a => !decide (a.f0 = x)))) :=
  less_loop l x hl l.length 0 [] (by omega) (by simp)
def wsum (W : S35 → Nat) (l : List S35) : Nat := (l.map W).sum
theorem wsum_app (W : S35 → Nat) (a b : List S35) : wsum W (a ++ b) = wsum W a + wsum W b := by simp [wsum]
theorem wsum_cons (W : S35 → Nat) (a : S35) (b : List S35) : wsum W (a :: b) = W a + wsum W b := by simp [wsum]
theorem add_loop (W : S35 → Nat) (l : List S35) (n : S35) (hl : l.length ≤ 1000000) : ∀ (d i : Nat) (o : List S35) (b : Bool), i + d = l.length → o.length ≤ i + 1 → (b = false → o.length ≤ i) →
    ∃ r, Evt (fun k => spec_l19Add.l0 k l o b (i : Int) n.f0 n.f1 n.f2 = some r) ∧ wsum W r = wsum W o + wsum W (l.drop i) + (if b = true then 0 else W n) ∧ (∀ t ∈ r, t ∈ o ∨ t ∈ l ∨ t = n) ∧ r.length = o.length + d + (if b = true then 0 else 1)
  | 0, i, o, b, hi, ho, hb => by
    rw [List.drop_of_length_le (show l.length ≤ i by omega)]
    cases b with
    | true =>
      refine ⟨o, Evt.of1 fun k => ?_, by simp [wsum], fun t ht => .inl ht, by simp⟩
      simp only [spec_l19Add.l0]
      rw [if_neg (by omega), if_pos trivial]
    | false =>
      refine ⟨o ++ [n], Evt.of1 fun k => ?_, by rw [wsum_app]; simp [wsum], fun t ht => ?_, by simp⟩
      · simp only [spec_l19Add.l0]
        rw [if_neg (by omega), if_neg (by decide), if_pos (by omega)]
      · rcases List.mem_append.1 ht with h | h
        · exact .inl h
        · exact .inr (.inr (List.mem_singleton.1 h))
  | d + 1, i, o, b, hi, ho, hb => by
    have hd := drop_aT (show i < l.length by omega)
    have hm := aT_mem (show i < l.length by omega)
    rw [hd, wsum_cons]
    cases b with
    | true =>
      obtain ⟨r, h1, h2, h3, h4⟩ := add_loop W l n hl d (i + 1) (o ++ [aT l i]) true (by omega) (by simp; omega) (fun h => by cases h)
      refine ⟨r, h1.step fun k hk => ?_, by rw [h2, wsum_app]; simp [wsum]; omega, fun t ht => ?_, by rw [h4]; simp; omega⟩
      · simp only [spec_l19Add.l0]
        rw [if_pos (by omega), if_pos trivial, if_pos (by omega), if_pos (by omega), nat_succ_wrap (by omega)]
        exact hk
      · rcases h3 t ht with h | h
        · rcases List.mem_append.1 h with h | h
          · exact .inl h
          · exact .inr (.inl (by rw [List.mem_singleton.1 h]; exact hm))
        · exact .inr h
    | false =>
      have hb3 := hb rfl
      by_cases c : ltA n (aT l i)
      · obtain ⟨r, h1, h2, h3, h4⟩ := add_loop W l n hl d (i + 1) (o ++ [n] ++ [aT l i]) true (by omega) (by simp; omega) (fun h => by cases h)
        refine ⟨r, h1.step fun k hk => ?_, by rw [h2, wsum_app, wsum_app]; simp [wsum]; omega, fun t ht => ?_, by rw [h4]; simp; omega⟩
        · simp only [spec_l19Add.l0]
          rw [if_pos (by omega), if_neg (by decide), if_pos (by omega), show (rd_T35 l (i : Int)) = aT l i from rfl, ahead_eq, decide_eq_true c]
          refine bind_of rfl ?_
          rw [if_pos rfl, if_pos (by omega)]
          refine bind_of rfl ?_
          rw [if_pos (by simp; omega), nat_succ_wrap (by omega)]
          exact hk
        · rcases h3 t ht with h | h
          · rcases List.mem_append.1 h with h | h
            · rcases List.mem_append.1 h with h | h
              · exact .inl h
              · exact .inr (.inr (List.mem_singleton.1 h))
            · exact .inr (.inl (by rw [List.mem_singleton.1 h]; exact hm))
          · exact .inr h
      · have hb2 := hb rfl
        obtain ⟨r, h1, h2, h3, h4⟩ := add_loop W l n hl d (i + 1) (o ++ [aT l i]) false (by omega) (by simp; omega) (fun _ => by simp; omega)
        refine ⟨r, h1.step fun k hk => ?_, by rw [h2, wsum_app]; simp [wsum]; omega, fun t ht => ?_, by rw [h4]; simp; omega⟩
        · simp only [spec_l19Add.l0]
          rw [if_pos (by omega), if_neg (by decide), if_pos (by omega), show (rd_T35 l (i : Int)) = aT l i from rfl, ahead_eq, decide_eq_false c]
          refine bind_of rfl ?_
          rw [if_neg (by decide), if_pos (by omega), nat_succ_wrap (by omega)]
          exact hk
        · rcases h3 t ht with h | h
          · rcases List.mem_append.1 h with h | h
            · exact .inl h
            · exact .inr (.inl (by rw [List.mem_singleton.1 h]; exact hm))
          · exact .inr h
theorem add_ev (W : S35 → Nat) (l : List S35) (n : S35) (hl : l.length ≤ 1000000) :
    ∃ r, Evt (fun k => spec_l19Add.f k l n.f0 n.f1 n.f2 = some r) ∧ wsum W r = wsum W l + W n ∧ (∀ t ∈ r, t ∈ l ∨ t = n) ∧ r.length = l.length + 1 := by
  obtain ⟨r, h1, h2, h3, h4⟩ := add_loop W l n hl l.length 0 [] false (by omega) (by simp) (fun _ => by simp)
  refine ⟨r, h1, by rw [h2]; simp [wsum], fun t ht => ?_, by rw [h4]; simp⟩
  rcases h3 t ht with h | h
  · cases h
  · exact h
theorem set_ev {now : Int} {l : List S35} (hn : -1 ≤ now) (hn2 : now ≤ 1000000) (hl : l.length ≤ 1000000) (x t e : Int) :
    ∃ out, Evt (fun k => spec_ClockSet.f k now l x t e = some out) ∧ (out.2.2 = true → out.1 = now ∧ out.2.1.length ≤ 12) := by
  have hok := spec_ok_ev hn hn2 hl
  have hF : Evt (fun k => spec_ClockSet.j0 k x t e true now l = some (0, [], false)) := Evt.of1 fun k => by simp only [spec_ClockSet.j0]; exact if_pos trivial
  have hT : ∃ out, Evt (fun k => spec_ClockSet.j0 k x t e false now l = some out) ∧ (out.2.2 = true → out.1 = now ∧ out.2.1.length ≤ 12) := by
    have h1 := less_ev l x hl
    obtain ⟨r, h2, _, _, h3⟩ := add_ev (fun _ => 0) (l.filter (fun a => !decide (a.f0 = x))) ⟨x, wrap64 (now + t), e⟩ (Nat.le_trans (List.length_filter_le _ _) hl)
    by_cases c : (r.length : Int) > 12
    · refine ⟨(0, [], false), (h1.and h2).step fun k hk => ?_, fun h => by cases h⟩
      simp only [spec_ClockSet.j0]
      rw [if_neg (by decide)]
      refine bind_of hk.1 (bind_of hk.2 ?_)
      exact if_pos c
    · refine ⟨(now, r, true), (h1.and h2).step fun k hk => ?_, fun _ => ⟨rfl, by show r.length ≤ 12; omega⟩⟩
      simp only [spec_ClockSet.j0]
      rw [if_neg (by decide)]
      refine bind_of hk.1 (bind_of hk.2 ?_)
      exact if_neg c
  have fin : ∀ b, ∃ out, Evt (fun k => spec_ClockSet.j0 k x t e b now l = some out) ∧ (out.2.2 = true → out.1 = now ∧ out.2.1.length ≤ 12) := fun b => by
    cases b with
    | true => exact ⟨_, hF, fun h => by cases h⟩
    | false => exact hT
  obtain ⟨o1, hE1, hP1⟩ := fin true
  rcases bc (clkOk now l) with c0 | c0
  · refine ⟨o1, (hok.and hE1).imp fun k hk => ?_, hP1⟩
    unfold spec_ClockSet.f
    refine bind_of hk.1 ?_
    rw [if_neg (by rw [c0]; decide)]; exact hk.2
  rcases bc (inB x 0 99) with c1 | c1
  · refine ⟨o1, (hok.and hE1).imp fun k hk => ?_, hP1⟩
    unfold spec_ClockSet.f
    refine bind_of hk.1 ?_
    rw [if_pos c0]
    refine bind_of (l6in_eq _ _ _) ?_
    rw [if_neg (by rw [c1]; decide)]; exact hk.2
  rcases bc (inB t 1 (wrap64 (4095 - now))) with c2 | c2
  · refine ⟨o1, (hok.and hE1).imp fun k hk => ?_, hP1⟩
    unfold spec_ClockSet.f
    refine bind_of hk.1 ?_
    rw [if_pos c0]
    refine bind_of (l6in_eq _ _ _) ?_
    rw [if_pos c1]
    refine bind_of (l6in_eq _ _ _) ?_
    rw [if_neg (by rw [c2]; decide)]; exact hk.2
  obtain ⟨o2, hE2, hP2⟩ := fin (!inB e 0 99)
  refine ⟨o2, (hok.and hE2).imp fun k hk => ?_, hP2⟩
  unfold spec_ClockSet.f
  refine bind_of hk.1 ?_
  rw [if_pos c0]
  refine bind_of (l6in_eq _ _ _) ?_
  rw [if_pos c1]
  refine bind_of (l6in_eq _ _ _) ?_
  rw [if_pos c2]
  refine bind_of (l6in_eq _ _ _) ?_
  exact hk.2
/-- What an alarm weighs at a time: each ring makes it lighter. -/
def wt (lim : Int) (a : S35) : Nat := 1 + (lim + 1 - a.f1).toNat
def InT (a : S35) : Prop := (0 ≤ a.f1 ∧ a.f1 ≤ 4095) ∧ (0 ≤ a.f2 ∧ a.f2 ≤ 99)
theorem len_wsum (lim : Int) (l : List S35) : l.length ≤ wsum (wt lim) l := by
  induction l with
  | nil => simp [wsum]
  | cons a t ih =>
    have : 1 ≤ wt lim a := by unfold wt; omega
    rw [wsum_cons, List.length_cons]; omega
theorem stick_loop (lim : Int) (hlim : lim ≤ 4095) : ∀ (N : Nat) (l : List S35) (r : List Int), wsum (wt lim) l ≤ N → r.length + N ≤ 900000 → (∀ a ∈ l, InT a) →
    ∃ out, Evt (fun k => spec_ClockTick.l0 k lim l r = some out) ∧ out.1.length ≤ l.length := by
  intro N
  induction N with
  | zero =>
    intro l r h1 h2 h3
    rcases l with _ | ⟨a, t⟩
    · exact ⟨([], r), Evt.of1 fun k => by simp only [spec_ClockTick.l0], by simp⟩
    · rw [wsum_cons] at h1; unfold wt at h1; omega
  | succ N ih =>
    intro l r h1 h2 h3
    rcases l with _ | ⟨a, t⟩
    · exact ⟨([], r), Evt.of1 fun k => by simp only [spec_ClockTick.l0], by simp⟩
    · have hlt := len_wsum lim t
      rw [wsum_cons] at h1
      have hW : 1 ≤ wt lim a := by unfold wt; omega
      by_cases c : a.f1 ≤ lim
      · have hsz : r.length < 1000000 ∧ t.length < 1000000 := by omega
        by_cases e : 0 < a.f2 ∧ inB (wrap64 (a.f1 + a.f2)) 0 4095 = true
        · have ha := h3 a (by simp)
          unfold InT at ha
          have hw : wrap64 (a.f1 + a.f2) = a.f1 + a.f2 := wrap_in (by omega) (by omega)
          have hb := inB_iff.1 e.2
          rw [hw] at hb
          obtain ⟨l', g1, g2, g3, g4⟩ := add_ev (wt lim) t ⟨a.f0, wrap64 (a.f1 + a.f2), a.f2⟩ (by omega)
          have hw2 : wt lim (⟨a.f0, wrap64 (a.f1 + a.f2), a.f2⟩ : S35) + 1 ≤ wt lim a := by
            show 1 + (lim + 1 - wrap64 (a.f1 + a.f2)).toNat + 1 ≤ 1 + (lim + 1 - a.f1).toNat
            rw [hw]; omega
          obtain ⟨out, o1, o2⟩ := ih l' (r ++ [a.f0]) (by omega) (by simp; omega) (fun x hx => by
            rcases g3 x hx with h | h
            · exact h3 x (by simp [h])
            · rw [h]; show (0 ≤ wrap64 (a.f1 + a.f2) ∧ wrap64 (a.f1 + a.f2) ≤ 4095) ∧ _; rw [hw]; exact ⟨hb, ha.2⟩)
          refine ⟨out, (g1.and o1).step fun k hk => ?_, by rw [g4] at o2; exact o2⟩
          simp only [spec_ClockTick.l0]
          rw [if_pos c, if_pos hsz, if_pos e]
          exact bind_of hk.1 hk.2
        · obtain ⟨out, o1, o2⟩ := ih t (r ++ [a.f0]) (by omega) (by simp; omega) (fun x hx => h3 x (by simp [hx]))
          refine ⟨out, o1.step fun k hk => ?_, by rw [List.length_cons]; omega⟩
          simp only [spec_ClockTick.l0]
          rw [if_pos c, if_pos hsz, if_neg e]
          exact hk
      · refine ⟨(a :: t, r), Evt.of1 fun k => ?_, Nat.le_refl _⟩
        simp only [spec_ClockTick.l0]
        rw [if_neg c]
theorem wsum_bound {lim : Int} (hlim : lim ≤ 4095) {l : List S35} (h : ∀ a ∈ l, InT a) : wsum (wt lim) l ≤ l.length * 5000 := by
  induction l with
  | nil => simp [wsum]
  | cons a t ih =>
    have := ih (fun x hx => h x (by simp [hx]))
    have ha := h a (by simp)
    unfold InT at ha
    have h5 : wt lim a ≤ 5000 := by unfold wt; omega
    rw [wsum_cons, List.length_cons]
    omega
theorem ok_InT {now : Int} {l : List S35} (h : OkA now l) : ∀ a ∈ l, InT a := fun a ha => by
  obtain ⟨i, hi, rfl⟩ := mem_aT ha
  have := h.rng i hi
  exact ⟨this.1.2, this.2.2⟩
theorem stick_ev {now : Int} {l : List S35} (hn : -1 ≤ now) (hn2 : now ≤ 1000000) (hl : l.length ≤ 1000000) (t : Int) :
    ∃ out, Evt (fun k => spec_ClockTick.f k now l t = some out) ∧ (out.2.2.2 = true → (0 ≤ out.1 ∧ out.1 ≤ 4095) ∧ out.2.1.length ≤ 12) := by
  have hok := spec_ok_ev hn hn2 hl
  rcases bc (clkOk now l && (inB t 0 500 && inB (wrap64 (now + t)) 0 4095)) with c | c
  · refine ⟨(0, [], [], false), hok.imp fun k hk => ?_, fun h => by cases h⟩
    unfold spec_ClockTick.f
    refine bind_of hk ?_
    rw [if_neg (by rw [c]; decide)]
  · have c0 := c
    rw [Bool.and_eq_true, Bool.and_eq_true] at c
    obtain ⟨c1, c2, c3⟩ := c
    obtain ⟨h1, h2, h3⟩ := (clkOk_iff hn hn2).1 c1
    have hi := inB_iff.1 c3
    obtain ⟨p, g1, g2⟩ := stick_loop (wrap64 (now + t)) hi.2 (l.length * 5000) l [] (wsum_bound hi.2 (ok_InT h1)) (by simp; omega) (ok_InT h1)
    refine ⟨(wrap64 (now + t), p.1, p.2, true), (hok.and g1).imp fun k hk => ?_, fun _ => ⟨hi, Nat.le_trans g2 h3⟩⟩
    unfold spec_ClockTick.f
    refine bind_of hk.1 ?_
    rw [if_pos c0, if_pos (by omega)]
    exact bind_of hk.2 rfl
theorem insAt_mem {t : List S35} {i : Nat} {a x : S35} (h : x ∈ insAt t i a) : x ∈ t ∨ x = a := by
  unfold insAt at h
  rcases List.mem_append.1 h with h | h
  · exact .inl (List.mem_of_mem_take h)
  · rcases List.mem_cons.1 h with h | h
    · exact .inr h
    · exact .inl (List.mem_of_mem_drop h)
theorem insAt_wsum (W : S35 → Nat) (t : List S35) (i : Nat) (a : S35) : wsum W (insAt t i a) = wsum W t + W a := by
  unfold insAt
  rw [wsum_app, wsum_cons]
  have : wsum W t = wsum W (t.take i) + wsum W (t.drop i) := by rw [← wsum_app, List.take_append_drop]
  omega
theorem putM_mem {t : List S35} {a x : S35} (h : x ∈ putM t a) : x ∈ t ∨ (x = a ∧ a.f1 ≤ 4095) := by
  unfold putM at h
  split at h
  · rcases insAt_mem h with h | h
    · exact .inl h
    · exact .inr ⟨h, by assumption⟩
  · exact .inl h
theorem putM_wsum (W : S35 → Nat) (t : List S35) (a : S35) : wsum W (putM t a) ≤ wsum W t + W a := by
  unfold putM
  split
  · rw [insAt_wsum]; exact Nat.le_refl _
  · omega
theorem itick_loop (lim : Int) (hlim : lim ≤ 4095) (x : Int) : ∀ (N : Nat) (l : List S35) (r : List Int), wsum (wt lim) l ≤ N → r.length + N ≤ 900000 → (∀ a ∈ l, InT a) → (∀ a ∈ l, a.f0 ≠ x) → (∀ y ∈ r, y ≠ x) →
    ∃ out, Evt (fun k => impl_ClockTick.l0 k lim l r = some out) ∧ out.1.length < 1000000 ∧ out.2.length ≤ 900000 ∧ ∀ y ∈ out.2, y ≠ x := by
  intro N
  induction N with
  | zero =>
    intro l r h1 h2 h3 h4 h5
    rcases l with _ | ⟨a, t⟩
    · exact ⟨([], r), Evt.of1 fun k => by simp only [impl_ClockTick.l0], by simp, by show r.length ≤ _; omega, h5⟩
    · rw [wsum_cons] at h1; unfold wt at h1; omega
  | succ N ih =>
    intro l r h1 h2 h3 h4 h5
    rcases l with _ | ⟨a, t⟩
    · exact ⟨([], r), Evt.of1 fun k => by simp only [impl_ClockTick.l0], by simp, by show r.length ≤ _; omega, h5⟩
    · have hlt := len_wsum lim t
      rw [wsum_cons] at h1
      have hW : 1 ≤ wt lim a := by unfold wt; omega
      by_cases c : a.f1 ≤ lim
      · have hsz : r.length < 1000000 ∧ t.length < 1000000 := by omega
        have h5' : ∀ y ∈ r ++ [a.f0], y ≠ x := fun y hy => by
          rcases List.mem_append.1 hy with h | h
          · exact h5 y h
          · rw [List.mem_singleton.1 h]; exact h4 a (by simp)
        by_cases e : 0 < a.f2
        · have ha := h3 a (by simp)
          unfold InT at ha
          have hw : wrap64 (a.f1 + a.f2) = a.f1 + a.f2 := wrap_in (by omega) (by omega)
          have hw2 : wt lim (⟨a.f0, wrap64 (a.f1 + a.f2), a.f2⟩ : S35) + 1 ≤ wt lim a := by
            show 1 + (lim + 1 - wrap64 (a.f1 + a.f2)).toNat + 1 ≤ 1 + (lim + 1 - a.f1).toNat
            rw [hw]; omega
          have hp := putM_wsum (wt lim) t ⟨a.f0, wrap64 (a.f1 + a.f2), a.f2⟩
          obtain ⟨out, o1, o2⟩ := ih (putM t ⟨a.f0, wrap64 (a.f1 + a.f2), a.f2⟩) (r ++ [a.f0]) (by omega) (by simp; omega) (fun y hy => by
            rcases putM_mem hy with h | ⟨h, h'⟩
            · exact h3 y (by simp [h])
            · rw [h]
              have h'' : wrap64 (a.f1 + a.f2) ≤ 4095 := h'
              show (0 ≤ wrap64 (a.f1 + a.f2) ∧ wrap64 (a.f1 + a.f2) ≤ 4095) ∧ _
              rw [hw] at h'' ⊢
              exact ⟨⟨by omega, h''⟩, ha.2⟩) (fun y hy => by
            rcases putM_mem hy with h | ⟨h, _⟩
            · exact h4 y (by simp [h])
            · rw [h]; exact h4 a (by simp)) h5'
          refine ⟨out, o1.step fun k hk => ?_, o2⟩
          simp only [impl_ClockTick.l0]
          rw [if_pos c, if_pos hsz, if_pos e]
          exact hk
        · obtain ⟨out, o1, o2⟩ := ih t (r ++ [a.f0]) (by omega) (by simp; omega) (fun y hy => h3 y (by simp [hy])) (fun y hy => h4 y (by simp [hy])) h5'
          refine ⟨out, o1.step fun k hk => ?_, o2⟩
          simp only [impl_ClockTick.l0]
          rw [if_pos c, if_pos hsz, if_neg e]
          exact hk
      · refine ⟨(a :: t, r), Evt.of1 fun k => ?_, by show (a :: t).length < _; rw [List.length_cons]; omega, by show r.length ≤ _; omega, h5⟩
        simp only [impl_ClockTick.l0]
        rw [if_neg c]
theorem itick_ev {now : Int} {l : List S35} (hn : -1 ≤ now) (hn2 : now ≤ 1000000) (t x : Int) (hx : ∀ a ∈ l, a.f0 ≠ x) :
    ∃ out, Evt (fun k => impl_ClockTick.f k now l t = some out) ∧ out.2.2.1.length ≤ 900000 ∧ ∀ y ∈ out.2.2.1, y ≠ x := by
  rcases bc (clkOk now l && (inB t 0 500 && !decide (4095 < wrap64 (now + t)))) with c | c
  · refine ⟨(0, [], [], false), Evt.all fun k => ?_, by simp, by simp⟩
    unfold impl_ClockTick.f
    rw [if_neg (by rw [c]; decide)]
  · have c0 := c
    rw [Bool.and_eq_true, Bool.and_eq_true, Bool.not_eq_true', decide_eq_false_iff_not] at c
    obtain ⟨c1, c2, c3⟩ := c
    obtain ⟨h1, h2, h3⟩ := (clkOk_iff hn hn2).1 c1
    obtain ⟨p, g1, g2, g3, g4⟩ := itick_loop (wrap64 (now + t)) (by omega) x (l.length * 5000) l [] (wsum_bound (by omega) (ok_InT h1)) (by simp; omega) (ok_InT h1) hx (by simp)
    refine ⟨(wrap64 (now + t), p.1, p.2, true), g1.imp fun k hk => ?_, g3, g4⟩
    unfold impl_ClockTick.f
    rw [if_pos c0]
    exact bind_of hk (if_pos g2)
theorem pick_ev {l : List Int} (hl : Bytes l) {p : Int} (n : Int) (h0 : 0 ≤ p) (h1 : p < 1000000) :
    ∃ v, Evt (fun k => spec_l6Rd_pick.f k l p n = some (v, p + 1)) ∧ 0 ≤ v ∧ (1 ≤ n → v < n) ∧ (n < 1 → v = 0) := by
  have e1 : wrap64 (p + 1) = p + 1 := wrap_in (by omega) (by omega)
  have e2 : wrap64 (p + 1 - 1) = p := by rw [Int.add_sub_cancel]; exact wrap_in (by omega) (by omega)
  by_cases hn : n < 1
  · refine ⟨0, Evt.of1 fun k => ?_, by omega, by omega, fun _ => rfl⟩
    unfold spec_l6Rd_pick.f
    rw [if_pos hn, e1]
    simp only [spec_l6Rd_pick.j0, if_true]
  · by_cases hz : l.length = 0
    · refine ⟨0, Evt.of1 fun k => ?_, by omega, by omega, fun _ => rfl⟩
      unfold spec_l6Rd_pick.f
      have hz' : ((l.length : Int) == 0) = true := by simp [hz]
      rw [if_neg hn, e1, hz']
      simp only [spec_l6Rd_pick.j0, if_true]
    · have hz' : ((l.length : Int) == 0) = false := by simpa using hz
      have hlen : (0 : Int) < (l.length : Int) := by omega
      by_cases hlt : p < (l.length : Int)
      · have hr := rd_byte hl p
        have hr2 : wrap64 (rd l p) = rd l p := wrap_in (by omega) (by omega)
        have ht := tmod_range (a := rd l p) (n := n) (by omega) (by omega)
        refine ⟨Int.tmod (rd l p) n, Evt.of1 fun k => ?_, ht.1, fun _ => ht.2, fun h => by omega⟩
        unfold spec_l6Rd_pick.f
        rw [if_neg hn, e1, hz']
        simp only [spec_l6Rd_pick.j0]
        rw [e2, if_neg (by decide), if_pos hlt, if_pos h0, if_neg (by omega), hr2]
      · have e3 : wrap64 (wrap64 (p * 7) + 3) = p * 7 + 3 := by
          rw [wrap_in (n := p * 7) (by omega) (by omega)]
          exact wrap_in (by omega) (by omega)
        have ta := tmod_range (a := p) (n := (l.length : Int)) h0 hlen
        have tb := tmod_range (a := p * 7 + 3) (n := (l.length : Int)) (by omega) hlen
        have td := tdiv_range (a := p) (n := (l.length : Int)) h0 hlen
        have ra := rd_byte hl (Int.tmod p (l.length : Int))
        have rb := rd_byte hl (Int.tmod (p * 7 + 3) (l.length : Int))
        obtain ⟨x, hx, x0, x1⟩ := mix_range ra.1 ra.2 rb.1 rb.2 h0 (by omega) td.1 td.2
        have xd := tdiv_range (a := x) (n := 64) x0 (by decide)
        have xw : wrap64 (Int.tdiv x 64) = Int.tdiv x 64 := wrap_in (by omega) (by omega)
        have xx := xor_range (a := x) (b := Int.tdiv x 64) x0 x1 xd.1 (by omega)
        have tv := tmod_range (a := Go.bits .xor .i64 x (Int.tdiv x 64)) (n := n) xx.1 (by omega)
        refine ⟨Int.tmod (Go.bits .xor .i64 x (Int.tdiv x 64)) n, Evt.of1 fun k => ?_, tv.1, fun _ => tv.2, fun h => by omega⟩
        unfold spec_l6Rd_pick.f
        rw [if_neg hn, e1, hz']
        simp only [spec_l6Rd_pick.j0]
        rw [e2, e3, if_neg (by decide), if_neg hlt, if_neg (by omega), if_pos ta.1, if_pos ta.2, if_pos tb.1, if_pos tb.2, if_neg (by omega), hx, xw]
theorem open_ev {l : List Int} (hl : Bytes l) : ∃ s, spec_l6Open.f l = some (s, 0) ∧ Bytes s := by
  unfold spec_l6Open.f
  by_cases h : (l.length : Int) > 2000
  · exact ⟨l.take 2000, by rw [if_pos h, if_pos (by omega)], hl.take _⟩
  · exact ⟨l, by rw [if_neg h], hl⟩
theorem rd4 {a b c d v : Int} (h0 : 0 ≤ v) (h1 : v < 4) : rd [a, b, c, d] v = a ∨ rd [a, b, c, d] v = b ∨ rd [a, b, c, d] v = c ∨ rd [a, b, c, d] v = d := by
  rcases (by omega : v = 0 ∨ v = 1 ∨ v = 2 ∨ v = 3) with rfl | rfl | rfl | rfl
  · exact .inl rfl
  · exact .inr (.inl rfl)
  · exact .inr (.inr (.inl rfl))
  · exact .inr (.inr (.inr rfl))
def DrawnC (p : Int) (out : Int × List S35 × Int) : Prop := (-1 ≤ out.1 ∧ out.1 ≤ 1000000) ∧ out.2.1.length ≤ 13 ∧ p ≤ out.2.2
theorem draw_loop {s : List Int} (hs : Bytes s) : ∀ (n : Nat) (p now : Int) (l : List S35), 0 ≤ p → p + 20 * n < 900000 → 0 ≤ now → now ≤ 4095 → l.length ≤ 12 →
    ∃ out, Evt (fun k => spec_l97Clock.l0 k (n : Int) s p now l = some out) ∧ DrawnC p out ∧ out.2.2 ≤ p + 20 * n + 10 := by
  intro n
  induction n with
  | zero =>
    intro p now l h0 h1 h2 h3 h4
    obtain ⟨v, e1, g1, g2, _⟩ := pick_ev hs (p := p) 24 h0 (by omega)
    by_cases c0 : v = 0
    · obtain ⟨u, e2, g3, g4, _⟩ := pick_ev hs (p := p + 1) 4 (by omega) (by omega)
      have g4 := g4 (by omega)
      refine ⟨(rd [(-1), 4095, 4096, wrap64 (now + 9)] u, l, p + 1 + 1), (e1.and e2).step fun k hk => ?_, ⟨?_, by show l.length ≤ 13; omega, by show p ≤ p + 1 + 1; omega⟩, by show p + 1 + 1 ≤ _; omega⟩
      · simp only [spec_l97Clock.l0]
        rw [if_neg (by omega)]
        refine bind_of hk.1 ?_
        rw [if_pos c0]
        refine bind_of rfl (bind_of hk.2 ?_)
        rw [if_pos g3]
        exact if_pos (show u < 4 from g4)
      · have hw : wrap64 (now + 9) = now + 9 := wrap_in (by omega) (by omega)
        show -1 ≤ rd [(-1), 4095, 4096, wrap64 (now + 9)] u ∧ rd [(-1), 4095, 4096, wrap64 (now + 9)] u ≤ 1000000
        rcases rd4 (a := -1) (b := 4095) (c := 4096) (d := wrap64 (now + 9)) g3 g4 with h | h | h | h <;> rw [h] <;> omega
    · by_cases c1 : v = 1
      · obtain ⟨u1, e2, g3, g4, _⟩ := pick_ev hs (p := p + 1) 101 (by omega) (by omega)
        obtain ⟨u2, e3, g5, g6, _⟩ := pick_ev hs (p := p + 1 + 1) 3 (by omega) (by omega)
        obtain ⟨u3, e4, g7, g8, _⟩ := pick_ev hs (p := p + 1 + 1 + 1) 101 (by omega) (by omega)
        have g6 := g6 (by omega)
        refine ⟨(now, l ++ [⟨u1, rd [0, 4095, 4096] u2, u3⟩], p + 1 + 1 + 1 + 1), (e1.and (e2.and (e3.and e4))).step fun k hk => ?_, ⟨by show -1 ≤ now ∧ now ≤ 1000000; omega, by show (l ++ [_]).length ≤ 13; simp; omega, by show p ≤ p + 1 + 1 + 1 + 1; omega⟩, by show p + 1 + 1 + 1 + 1 ≤ _; omega⟩
        simp only [spec_l97Clock.l0]
        rw [if_neg (by omega)]
        refine bind_of hk.1 ?_
        rw [if_neg c0, if_pos c1]
        refine bind_of hk.2.1 (bind_of rfl (bind_of hk.2.2.1 ?_))
        rw [if_pos g5]
        refine Eq.trans (if_pos (show u2 < 3 from g6)) ?_
        refine bind_of hk.2.2.2 ?_
        exact if_pos (by omega)
      · refine ⟨(now, l, p + 1), e1.step fun k hk => ?_, ⟨by show -1 ≤ now ∧ now ≤ 1000000; omega, by show l.length ≤ 13; omega, by show p ≤ p + 1; omega⟩, by show p + 1 ≤ _; omega⟩
        simp only [spec_l97Clock.l0]
        rw [if_neg (by omega)]
        refine bind_of hk ?_
        rw [if_neg c0, if_neg c1]
  | succ n ih =>
    intro p now l h0 h1 h2 h3 h4
    have hj : ∀ (p now : Int) (l : List S35), 0 ≤ p → p + 20 * n + 10 < 900000 → 0 ≤ now → now ≤ 4095 → l.length ≤ 12 →
        ∃ out, Evt (fun k => spec_l97Clock.j1 k ((n + 1 : Nat) : Int) s p now l = some out) ∧ DrawnC p out ∧ out.2.2 ≤ p + 20 * n + 14 := by
      intro p now l h0 h1 h2 h3 h4
      have hw : wrap64 (((n + 1 : Nat) : Int) - 1) = (n : Int) := by rw [wrap_in (by omega) (by omega)]; omega
      obtain ⟨v, e1, g1, g2, _⟩ := pick_ev hs (p := p) 4 h0 (by omega)
      by_cases c0 : v = 0
      · obtain ⟨u, e2, g3, g4, _⟩ := pick_ev hs (p := p + 1) 20 (by omega) (by omega)
        obtain ⟨o, e3, g5⟩ := stick_ev (now := now) (l := l) (by omega) (by omega) (by omega) u
        rcases bc o.2.2.2 with c1 | c1
        · obtain ⟨out, e4, g6, g7⟩ := ih (p + 1 + 1) now l (by omega) (by omega) h2 h3 h4
          refine ⟨out, (e1.and (e2.and (e3.and e4))).step fun k hk => ?_, ⟨g6.1, g6.2.1, by have := g6.2.2; omega⟩, by omega⟩
          simp only [spec_l97Clock.j1]
          refine bind_of hk.1 ?_
          rw [if_pos c0]
          refine bind_of hk.2.1 (bind_of hk.2.2.1 ?_)
          rw [if_neg (by rw [c1]; decide), hw]
          exact hk.2.2.2
        · obtain ⟨⟨g8, g9⟩, g10⟩ := g5 c1
          obtain ⟨out, e4, g6, g7⟩ := ih (p + 1 + 1) o.1 o.2.1 (by omega) (by omega) g8 g9 g10
          refine ⟨out, (e1.and (e2.and (e3.and e4))).step fun k hk => ?_, ⟨g6.1, g6.2.1, by have := g6.2.2; omega⟩, by omega⟩
          simp only [spec_l97Clock.j1]
          refine bind_of hk.1 ?_
          rw [if_pos c0]
          refine bind_of hk.2.1 (bind_of hk.2.2.1 ?_)
          rw [if_pos c1, hw]
          exact hk.2.2.2
      · obtain ⟨out, e4, g6, g7⟩ := ih (p + 1) now l (by omega) (by omega) h2 h3 h4
        refine ⟨out, (e1.and e4).step fun k hk => ?_, ⟨g6.1, g6.2.1, by have := g6.2.2; omega⟩, by omega⟩
        simp only [spec_l97Clock.j1]
        refine bind_of hk.1 ?_
        rw [if_neg c0, hw]
        exact hk.2
    obtain ⟨v1, e1, _⟩ := pick_ev hs (p := p) 12 h0 (by omega)
    obtain ⟨v2, e2, _⟩ := pick_ev hs (p := p + 1) 60 (by omega) (by omega)
    obtain ⟨v3, e3, _⟩ := pick_ev hs (p := p + 1 + 1) 3 (by omega) (by omega)
    obtain ⟨v4, e4, _⟩ := pick_ev hs (p := p + 1 + 1 + 1) 40 (by omega) (by omega)
    obtain ⟨o, e5, g5⟩ := set_ev (now := now) (l := l) (by omega) (by omega) (by omega) v1 (wrap64 (1 + v2)) (wrap64 (v3 * v4))
    rcases bc o.2.2 with c1 | c1
    · obtain ⟨out, e6, g6, g7⟩ := hj (p + 1 + 1 + 1 + 1) now l (by omega) (by omega) h2 h3 h4
      refine ⟨out, (e1.and (e2.and (e3.and (e4.and (e5.and e6))))).step fun k hk => ?_, ⟨g6.1, g6.2.1, by have := g6.2.2; omega⟩, by omega⟩
      simp only [spec_l97Clock.l0]
      rw [if_pos (by omega)]
      refine bind_of hk.1 (bind_of hk.2.1 (bind_of hk.2.2.1 (bind_of hk.2.2.2.1 (bind_of hk.2.2.2.2.1 ?_))))
      rw [if_neg (by rw [c1]; decide)]
      exact hk.2.2.2.2.2
    · obtain ⟨g8, g9⟩ := g5 c1
      obtain ⟨out, e6, g6, g7⟩ := hj (p + 1 + 1 + 1 + 1) o.1 o.2.1 (by omega) (by omega) (by omega) (by omega) g9
      refine ⟨out, (e1.and (e2.and (e3.and (e4.and (e5.and e6))))).step fun k hk => ?_, ⟨g6.1, g6.2.1, by have := g6.2.2; omega⟩, by omega⟩
      simp only [spec_l97Clock.l0]
      rw [if_pos (by omega)]
      refine bind_of hk.1 (bind_of hk.2.1 (bind_of hk.2.2.1 (bind_of hk.2.2.2.1 (bind_of hk.2.2.2.2.1 ?_))))
      rw [if_pos c1]
      exact hk.2.2.2.2.2
theorem clock_ev {s : List Int} (hs : Bytes s) : ∃ out, Evt (fun k => spec_l97Clock.f k s 0 = some out) ∧ DrawnC 0 out ∧ out.2.2 ≤ 1000 := by
  obtain ⟨v, e1, g1, g2, _⟩ := pick_ev hs (p := 0) 4 (by omega) (by omega)
  have g2 := g2 (by omega)
  obtain ⟨n, e2, g3, g4, _⟩ := pick_ev hs (p := 0 + 1) 14 (by omega) (by omega)
  have g4 := g4 (by omega)
  have hr : 0 ≤ rd [0, 100, 4000, 4090] v ∧ rd [0, 100, 4000, 4090] v ≤ 4095 := by
    rcases rd4 (a := 0) (b := 100) (c := 4000) (d := 4090) g1 g2 with h | h | h | h <;> rw [h] <;> omega
  have hnew : spec_ClockNew.f (rd [0, 100, 4000, 4090] v) = some (rd [0, 100, 4000, 4090] v, [], true) := by
    unfold spec_ClockNew.f
    refine bind_of (time_eq _) ?_
    exact if_pos (inB_iff.2 hr)
  obtain ⟨m, rfl⟩ := Int.eq_ofNat_of_zero_le g3
  obtain ⟨out, e3, g5, g6⟩ := draw_loop hs m (0 + 1 + 1) (rd [0, 100, 4000, 4090] v) [] (by omega) (by omega) hr.1 hr.2 (by simp)
  refine ⟨out, (e1.and (e2.and e3)).imp fun k hk => ?_, ⟨g5.1, g5.2.1, by have := g5.2.2; omega⟩, by omega⟩
  unfold spec_l97Clock.f
  refine bind_of rfl (bind_of hk.1 ?_)
  rw [if_pos g1]
  refine Eq.trans (if_pos (show v < 4 from g2)) ?_
  refine bind_of hnew (bind_of hk.2.1 ?_)
  exact hk.2.2
theorem draw_ev {code : List Int} (hc : Bytes code) : ∃ now l x, Evt (fun k => spec_DrawClockDrop.f k code = some (now, l, x)) ∧ (-1 ≤ now ∧ now ≤ 1000000) ∧ l.length ≤ 13 := by
  obtain ⟨s, hs1, hs⟩ := open_ev hc
  obtain ⟨⟨now, l, p⟩, e1, ⟨g1, g2, g3⟩, g4⟩ := clock_ev hs
  have g1 : -1 ≤ now ∧ now ≤ 1000000 := g1
  have g2 : l.length ≤ 13 := g2
  have g3 : 0 ≤ p := g3
  have g4 : p ≤ 1000 := g4
  have hF : ∀ p : Int, 0 ≤ p → p ≤ 2000 → ∃ x, Evt (fun k => spec_DrawClockDrop.j0 k false s p now l = some (now, l, x)) := fun p h0 h1 => by
    obtain ⟨v, e, _⟩ := pick_ev hs (p := p) 13 h0 (by omega)
    refine ⟨v, e.step fun k hk => ?_⟩
    simp only [spec_DrawClockDrop.j0]
    rw [if_neg (by decide)]
    exact bind_of hk rfl
  by_cases c : (l.length : Int) > 0
  · obtain ⟨v, e2, _⟩ := pick_ev hs (p := p) 4 g3 (by omega)
    have hj : ∃ x, Evt (fun k => spec_DrawClockDrop.j0 k (decide (v > 0)) s (p + 1) now l = some (now, l, x)) := by
      by_cases c2 : v > 0
      · obtain ⟨u, e3, h0, h1, _⟩ := pick_ev hs (p := p + 1) (l.length : Int) (by omega) (by omega)
        have h1 := h1 (by omega)
        refine ⟨(rd_T35 l u).f0, e3.step fun k hk => ?_⟩
        simp only [spec_DrawClockDrop.j0]
        rw [decide_eq_true c2, if_pos rfl]
        refine bind_of hk ?_
        rw [if_pos h0, if_pos h1]
      · rw [decide_eq_false c2]
        exact hF (p + 1) (by omega) (by omega)
    obtain ⟨x, e3⟩ := hj
    refine ⟨now, l, x, (e1.and (e2.and e3)).imp fun k hk => ?_, g1, g2⟩
    unfold spec_DrawClockDrop.f
    refine bind_of hs1 (bind_of hk.1 ?_)
    rw [if_pos c]
    exact bind_of hk.2.1 hk.2.2
  · obtain ⟨x, e3⟩ := hF p g3 (by omega)
    refine ⟨now, l, x, (e1.and e3).imp fun k hk => ?_, g1, g2⟩
    unfold spec_DrawClockDrop.f
    refine bind_of hs1 (bind_of hk.1 ?_)
    rw [if_neg c]
    exact hk.2
theorem qd_loop (a b : Int) (l : List S35) (hl : l.length ≤ 1000000) : ∀ (d i : Nat), i + d = l.length → Evt (fun k => laws_qdClock.l0 k (i : Int) a l b l = some true)
  | 0, i, hi => by
    refine Evt.of1 fun k => ?_
    simp only [laws_qdClock.l0]
    rw [if_neg (by omega)]
  | d + 1, i, hi => by
    refine (qd_loop a b l hl d (i + 1) (by omega)).step fun k hk => ?_
    simp only [laws_qdClock.l0]
    rw [if_pos (by omega), if_pos (by omega), if_pos (by omega), if_neg (by simp), nat_succ_wrap (by omega)]
    exact hk
theorem qd_ev (a : Int) (l : List S35) (hl : l.length ≤ 1000000) : Evt (fun k => laws_qdClock.f k a l a l = some true) := by
  refine (qd_loop a a l hl l.length 0 (by omega)).step (Q := fun k => laws_qdClock.f k a l a l = some true) fun k hk => ?_
  unfold laws_qdClock.f
  rw [if_pos rfl, show ((l.length : Int) != (l.length : Int)) = false by simp]
  simp only [laws_qdClock.j0]
  rw [if_neg (by decide)]
  exact hk
theorem rang_loop (x now now' : Int) (l l' : List S35) (r : List Int) (hr : r.length ≤ 900000) (hx : ∀ y ∈ r, y ≠ x) (res : Bool) (h : Evt (fun k => laws_FnClockDrop.l1 k x 0 now l now' l' = some res)) :
    ∀ (d i : Nat), i + d = r.length → Evt (fun k => laws_FnClockDrop.l0 k x r (i : Int) now l now' l' = some res)
  | 0, i, hi => by
    refine h.step fun k hk => ?_
    simp only [laws_FnClockDrop.l0]
    rw [if_neg (by omega)]
    exact hk
  | d + 1, i, hi => by
    refine (rang_loop x now now' l l' r hr hx res h d (i + 1) (by omega)).step fun k hk => ?_
    simp only [laws_FnClockDrop.l0]
    have hne : ¬ rd r (i : Int) = x := by
      rw [rd_nat, List.getD_eq_getElem?_getD, List.getElem?_eq_getElem (show i < r.length by omega)]
      exact hx _ (List.getElem_mem _)
    rw [if_pos (by omega), if_pos (by omega), if_neg hne, nat_succ_wrap (by omega)]
    exact hk
theorem find_loop (x now now' : Int) (l l' : List S35) (hl : l.length ≤ 1000000) (q : Nat) (hq : q < l.length) (hqx : (aT l q).f0 = x) (hlt : ∀ j, j < q → (aT l j).f0 ≠ x)
    (h : Evt (fun k => ((impl_ClockSet.f now' l' x (wrap64 ((aT l q).f1 - now)) (aT l q).f2).bind fun bt315 => (if bt315.2.2 = true then ((laws_qdClock.f k bt315.1 bt315.2.1 now l).bind fun t321 => (if t321 = true then ((impl_ClockOk.f now' l').bind fun t322 => (some t322)) else (some false))) else (some false))) = some true)) :
    ∀ (d i : Nat), i + d = q → Evt (fun k => laws_FnClockDrop.l1 k x (i : Int) now l now' l' = some true)
  | 0, i, hi => by
    obtain rfl : i = q := by omega
    refine h.step fun k hk => ?_
    simp only [laws_FnClockDrop.l1]
    rw [if_pos (by omega), if_pos (by omega)]
    refine Eq.trans (if_pos hqx) ?_
    exact hk
  | d + 1, i, hi => by
    refine (find_loop x now now' l l' hl q hq hqx hlt h d (i + 1) (by omega)).step fun k hk => ?_
    simp only [laws_FnClockDrop.l1]
    rw [if_pos (by omega), if_pos (by omega)]
    refine Eq.trans (if_neg (hlt i (by omega))) ?_
    rw [nat_succ_wrap (by omega)]
    exact hk
theorem set_back {now : Int} {l : List S35} {q : Nat} (h : OkA now l) (h0 : 0 ≤ now) (h1 : now ≤ 4095) (h2 : l.length ≤ 12) (hq : q < l.length) :
    impl_ClockSet.f now (l.eraseIdx q) (aT l q).f0 (wrap64 ((aT l q).f1 - now)) (aT l q).f2 = some (now, l, true) := by
  have hl : (l.eraseIdx q).length = l.length - 1 := List.length_eraseIdx_of_lt hq
  have hr := h.rng q hq
  have hr1 := hr.1.1
  have hr2 := hr.1.2
  have hw : wrap64 ((aT l q).f1 - now) = (aT l q).f1 - now := wrap_in (by omega) (by omega)
  have hw2 : wrap64 (now + ((aT l q).f1 - now)) = (aT l q).f1 := by rw [show now + ((aT l q).f1 - now) = (aT l q).f1 by omega]; exact wrap_in (by omega) (by omega)
  have hk : clkOk now (l.eraseIdx q) = true := (clkOk_iff (by omega) (by omega)).2 ⟨okA_erase h hq, ⟨h0, h1⟩, by omega⟩
  have hless : lessM (l.eraseIdx q) (aT l q).f0 = l.eraseIdx q := by
    unfold lessM
    rw [idx_none (erase_ids h hq), if_neg (by decide)]
  unfold impl_ClockSet.f
  rw [hw, hw2, hless, hk, inB_iff.2 hr1, inB_iff.2 (show 1 ≤ (aT l q).f1 - now ∧ (aT l q).f1 - now ≤ 4095 by omega), inB_iff.2 hr.2.2, decide_eq_false (show ¬ 4095 < (aT l q).f1 by omega)]
  rw [show (true && (true && (true && (true && !false)))) = true from rfl, if_pos rfl, if_neg (by omega)]
  have hp := put_back h hq
  rw [show (⟨(aT l q).f0, (aT l q).f1, (aT l q).f2⟩ : S35) = aT l q from rfl, hp]
theorem filter_all {l : List S35} {x : Int} (h : ∀ a ∈ l, a.f0 ≠ x) : l.filter (fun a => !decide (a.f0 = x)) = l :=
  List.filter_eq_self.2 fun a ha => by rw [decide_eq_false (h a ha)]; rfl
theorem FnClockDrop : laws_FnClockDrop.Pure := by
  intro code _ _ hwf
  by_cases hc : (code.length : Int) > 1048576
  · exact ⟨0, by unfold laws_FnClockDrop.f; rw [if_pos hc]⟩
  obtain ⟨now, l, x, hD, hn, hl⟩ := draw_ev (bytes_of hwf)
  have hl' : l.length ≤ 1000000 := by omega
  have hok := spec_ok_ev hn.1 hn.2 hl'
  have hless := less_ev l x hl'
  -- what both drops answer, where nothing is dropped
  have none_ : impl_ClockDrop.f now l x = some (0, [], false) → Evt (fun k => spec_ClockDrop.f k now l x = some (0, [], false)) → ∃ k, laws_FnClockDrop.f k code = some true := by
    intro hI hS
    have hj : Evt (fun k => laws_FnClockDrop.j0 k x false true now l 0 [] = some true) := by
      refine (Evt.of1 (P := fun k => laws_FnClockDrop.j1 k x true true now l 0 [] = some true) fun k => ?_).step fun k hk => ?_
      · simp only [laws_FnClockDrop.j1]; exact if_pos trivial
      · simp only [laws_FnClockDrop.j0]; exact (if_pos trivial).trans hk
    refine ((hD.and (hS.and ((qd_ev 0 [] (by simp)).and hj))).imp fun k hk => ?_).some_
    unfold laws_FnClockDrop.f
    rw [if_neg hc]
    refine bind_of hk.1 (bind_of hI (bind_of hk.2.1 (bind_of hk.2.2.1 ?_)))
    exact (if_pos rfl).trans hk.2.2.2
  rcases bc (clkOk now l) with h | h
  · refine none_ ?_ ((hok.and hless).imp fun k hk => ?_)
    · unfold impl_ClockDrop.f
      rw [if_neg (by rw [h]; decide)]
    · unfold spec_ClockDrop.f
      refine bind_of hk.2 (bind_of hk.1 ?_)
      rw [if_neg (by rw [h]; decide)]
  obtain ⟨hA, hN, h12⟩ := (clkOk_iff hn.1 hn.2).1 h
  rcases idx_spec l x l.length 0 (by omega) with ⟨h1, h2⟩ | ⟨q, h1, _, h3, h4, h5⟩
  · have hall : ∀ a ∈ l, a.f0 ≠ x := fun a ha => by
      obtain ⟨i, hi, rfl⟩ := mem_aT ha
      exact h2 i (Nat.zero_le _) hi
    refine none_ ?_ ((hok.and hless).imp fun k hk => ?_)
    · unfold impl_ClockDrop.f
      rw [if_pos h, h1, if_neg (by decide)]
    · unfold spec_ClockDrop.f
      refine bind_of hk.2 (bind_of hk.1 ?_)
      rw [if_pos h, filter_all hall, if_pos rfl]
  · subst h4
    have hel : (l.eraseIdx q).length = l.length - 1 := List.length_eraseIdx_of_lt h3
    have hI : impl_ClockDrop.f now l (aT l q).f0 = some (now, l.eraseIdx q, true) := by
      unfold impl_ClockDrop.f
      rw [if_pos h, h1, if_pos (by omega), Int.toNat_natCast]
    have hS : Evt (fun k => spec_ClockDrop.f k now l (aT l q).f0 = some (now, l.eraseIdx q, true)) := (hok.and hless).imp fun k hk => by
      unfold spec_ClockDrop.f
      refine bind_of hk.2 (bind_of hk.1 ?_)
      rw [if_pos h, erase_filter hA h3, if_neg (by omega)]
    obtain ⟨out, hT, hr1, hr2⟩ := itick_ev (now := now) (l := l.eraseIdx q) hn.1 hn.2 100 (aT l q).f0 (erase_ids hA h3)
    have hfind := find_loop (aT l q).f0 now now l (l.eraseIdx q) hl' q h3 rfl (fun j hj => h5 j (Nat.zero_le _) hj) ((qd_ev now l hl').imp fun k hk => by
      refine bind_of (set_back hA hN.1 hN.2 h12 h3) ?_
      refine (if_pos rfl).trans ?_
      refine bind_of hk ?_
      refine (if_pos rfl).trans ?_
      refine bind_of rfl ?_
      rw [(clkOk_iff (by omega) (by omega)).2 ⟨okA_erase hA h3, hN, by omega⟩]) q 0 (by omega)
    have hrang := rang_loop (aT l q).f0 now now l (l.eraseIdx q) out.2.2.1 hr1 hr2 true hfind out.2.2.1.length 0 (by omega)
    have hj : Evt (fun k => laws_FnClockDrop.j0 k (aT l q).f0 true true now l now (l.eraseIdx q) = some true) := by
      refine ((hT.and hrang).step (Q := fun k => laws_FnClockDrop.j1 k (aT l q).f0 true false now l now (l.eraseIdx q) = some true) fun k hk => ?_).step fun k hk => ?_
      · simp only [laws_FnClockDrop.j1]
        rw [if_neg (by decide)]
        exact bind_of hk.1 hk.2
      · simp only [laws_FnClockDrop.j0]; exact (if_pos trivial).trans hk
    refine ((hD.and (hS.and ((qd_ev now (l.eraseIdx q) (by omega)).and hj))).imp fun k hk => ?_).some_
    unfold laws_FnClockDrop.f
    rw [if_neg hc]
    refine bind_of hk.1 (bind_of hI (bind_of hk.2.1 (bind_of hk.2.2.1 ?_)))
    exact (if_pos rfl).trans hk.2.2.2
end Go.Proofs.Ytpacdakadkblgaa.Pure
