/- Proved: for all queues and numbers, the law FnExactQueueLess answers true and leaves its argument as it was (QueueLess returns what the reference returns, in memory of its own). No condition beyond the row's own. -/
import Derived.Test.YtehekikjadjdaaaPFnExactQueueLessx12
import Derived.Test.YtehekikjadjdaaaAuxFnExactQueueLess
namespace Go.Proofs.Ytehekikjadjdaaa.Pure
open Go.RowKit Go.Proofs.Ytehekikjadjdaaa.PFnExactQueueLess Go.Proofs.YtehekikjadjdaaaW.PrintWords Go.Proofs.YtehekikjadjdaaaW.PrintLast Go.Proofs.YtehekikjadjdaaaW.PrintMore Go.Proofs.Ytehekikjadjdaaa.Aux
set_option linter.unusedVariables false
set_option linter.unusedSimpArgs false
theorem in_eq (a b c : Int) : impl_in.f a b c = some (decide (b ≤ a) && decide (a ≤ c)) := by
  unfold impl_in.f
  by_cases h : a ≥ b
  · rw [if_pos h]; simp [show b ≤ a from h]
  · rw [if_neg h]; simp [show ¬ b ≤ a from h]
theorem l6in_eq (a b c : Int) : spec_l6In.f a b c = some (decide (b ≤ a) && decide (a ≤ c)) := by
  unfold spec_l6In.f
  by_cases h : a ≥ b
  · rw [if_pos h]; simp [show b ≤ a from h]
  · rw [if_neg h]; simp [show ¬ b ≤ a from h]

theorem rdT_def (l : List S86) (i : Int) : rd_T86 l i = l.getD i.toNat z86 := rfl
theorem rdT_mem {l : List S86} {i : Int} (h0 : 0 ≤ i) (h1 : i < l.length) : rd_T86 l i ∈ l := by
  rw [rdT_def, List.getD_eq_getElem?_getD, List.getElem?_eq_getElem (by omega)]
  exact List.getElem_mem _
theorem mem_rdT {l : List S86} {t : S86} (h : t ∈ l) : ∃ j : Nat, j < l.length ∧ rd_T86 l (j : Int) = t := by
  obtain ⟨j, hj, e⟩ := List.getElem_of_mem h
  refine ⟨j, hj, ?_⟩
  rw [rdT_def, List.getD_eq_getElem?_getD, Int.toNat_natCast, List.getElem?_eq_getElem hj, e]
  rfl
theorem rdT_set (l : List S86) (i j : Int) (x : S86) (h0 : 0 ≤ i) (h1 : i < l.length) (hj : 0 ≤ j) : rd_T86 (l.set i.toNat x) j = if j = i then x else rd_T86 l j := by
  rw [rdT_def, rdT_def, List.getD_eq_getElem?_getD, List.getD_eq_getElem?_getD, List.getElem?_set]
  by_cases e : j = i
  · rw [if_pos e, e, if_pos rfl, if_pos (by omega)]
    rfl
  · rw [if_neg e, if_neg (by omega)]
/-- What a queue's tasks and floor keep within, so that nothing wraps and nothing is divided by nought. -/
def QB (ts : List S86) (fl : Int) : Prop := (∀ t ∈ ts, 1 ≤ t.f1 ∧ t.f1 ≤ 6 ∧ 0 ≤ t.f2 ∧ t.f2 ≤ 1000000) ∧ 0 ≤ fl ∧ fl ≤ 1000000
theorem QB.get {ts : List S86} {fl : Int} (h : QB ts fl) {i : Int} (h0 : 0 ≤ i) (h1 : i < ts.length) : 1 ≤ (rd_T86 ts i).f1 ∧ (rd_T86 ts i).f1 ≤ 6 ∧ 0 ≤ (rd_T86 ts i).f2 ∧ (rd_T86 ts i).f2 ≤ 1000000 := h.1 _ (rdT_mem h0 h1)
theorem QB.set {ts : List S86} {fl : Int} (h : QB ts fl) (n : Nat) (x : S86) (hx : 1 ≤ x.f1 ∧ x.f1 ≤ 6 ∧ 0 ≤ x.f2 ∧ x.f2 ≤ 1000000) : QB (ts.set n x) fl := by
  refine ⟨fun t ht => ?_, h.2⟩
  rcases List.mem_or_eq_of_mem_set ht with h1 | h1
  · exact h.1 t h1
  · rw [h1]; exact hx
theorem div60 {n : Int} (h1 : 1 ≤ n) (h6 : n ≤ 6) : 10 ≤ Int.tdiv 60 n ∧ Int.tdiv 60 n ≤ 60 ∧ Int.tdiv 60 n * n = 60 := by
  have : n = 1 ∨ n = 2 ∨ n = 3 ∨ n = 4 ∨ n = 5 ∨ n = 6 := by omega
  rcases this with rfl | rfl | rfl | rfl | rfl | rfl <;> decide
/-! the next task -/
def nextF (ts : List S86) : Nat → Nat → Int → Int
  | 0, _, b => b
  | d + 1, i, b => nextF ts d (i + 1) (if (rd_T86 ts (i : Int)).f3 = true ∧ (b < 0 ∨ (rd_T86 ts (i : Int)).f2 < (rd_T86 ts b).f2) then (i : Int) else b)
def next (ts : List S86) : Int := nextF ts ts.length 0 (-1)
def Nx (ts : List S86) (b : Int) (i : Nat) : Prop :=
  (b = -1 ∧ ∀ j : Nat, j < i → (rd_T86 ts (j : Int)).f3 = false) ∨ (0 ≤ b ∧ b < i ∧ (rd_T86 ts b).f3 = true ∧ ∀ j : Nat, j < i → (rd_T86 ts (j : Int)).f3 = true → (rd_T86 ts b).f2 ≤ (rd_T86 ts (j : Int)).f2)
theorem nx_step (ts : List S86) (b : Int) (i : Nat) (h : Nx ts b i) : Nx ts (if (rd_T86 ts (i : Int)).f3 = true ∧ (b < 0 ∨ (rd_T86 ts (i : Int)).f2 < (rd_T86 ts b).f2) then (i : Int) else b) (i + 1) := by
  by_cases c : (rd_T86 ts (i : Int)).f3 = true ∧ (b < 0 ∨ (rd_T86 ts (i : Int)).f2 < (rd_T86 ts b).f2)
  · rw [if_pos c]
    refine .inr ⟨by omega, by omega, c.1, fun j hj hr => ?_⟩
    rcases h with ⟨h1, h2⟩ | ⟨h1, h2, h3, h4⟩
    · by_cases e : j = i
      · subst e; exact Int.le_refl _
      · rw [h2 j (by omega)] at hr
        exact absurd hr (by decide)
    · by_cases e : j = i
      · subst e; exact Int.le_refl _
      · have := h4 j (by omega) hr
        rcases c.2 with c2 | c2
        · omega
        · omega
  · rw [if_neg c]
    rcases h with ⟨h1, h2⟩ | ⟨h1, h2, h3, h4⟩
    · refine .inl ⟨h1, fun j hj => ?_⟩
      by_cases e : j = i
      · subst e
        cases hr : (rd_T86 ts (j : Int)).f3 with
        | false => rfl
        | true => exact absurd ⟨hr, .inl (by omega)⟩ c
      · exact h2 j (by omega)
    · refine .inr ⟨h1, by omega, h3, fun j hj hr => ?_⟩
      by_cases e : j = i
      · subst e
        by_cases c2 : (rd_T86 ts (j : Int)).f2 < (rd_T86 ts b).f2
        · exact absurd ⟨hr, .inr c2⟩ c
        · omega
      · exact h4 j (by omega) hr
theorem nextF_nx (ts : List S86) : ∀ (d i : Nat) (b : Int), Nx ts b i → Nx ts (nextF ts d i b) (i + d)
  | 0, _, _, h => h
  | d + 1, i, b, h => by
    rw [nextF, show i + (d + 1) = i + 1 + d from by omega]
    exact nextF_nx ts d (i + 1) _ (nx_step ts b i h)
theorem next_nx (ts : List S86) : Nx ts (next ts) ts.length := by
  have := nextF_nx ts ts.length 0 (-1) (.inl ⟨rfl, fun j hj => by omega⟩)
  rwa [Nat.zero_add] at this
theorem next_lt (ts : List S86) : next ts < ts.length := by
  rcases next_nx ts with ⟨h, _⟩ | ⟨_, h, _⟩ <;> omega
theorem next_of_ready {ts : List S86} {i : Int} (h0 : 0 ≤ i) (h1 : i < ts.length) (hr : (rd_T86 ts i).f3 = true) : 0 ≤ next ts := by
  rcases next_nx ts with ⟨_, h⟩ | ⟨h, _⟩
  · have := h i.toNat (by omega)
    rw [show ((i.toNat : Nat) : Int) = i from by omega, hr] at this
    exact absurd this (by decide)
  · exact h
theorem next_ready {ts : List S86} (h : 0 ≤ next ts) : (rd_T86 ts (next ts)).f3 = true := by
  rcases next_nx ts with ⟨h1, _⟩ | ⟨_, _, h1, _⟩
  · omega
  · exact h1
theorem next_least {ts : List S86} (h : 0 ≤ next ts) {j : Int} (h0 : 0 ≤ j) (h1 : j < ts.length) (hr : (rd_T86 ts j).f3 = true) : (rd_T86 ts (next ts)).f2 ≤ (rd_T86 ts j).f2 := by
  rcases next_nx ts with ⟨h1, _⟩ | ⟨_, _, _, h4⟩
  · omega
  · have := h4 j.toNat (by omega)
    rw [show ((j.toNat : Nat) : Int) = j from by omega] at this
    exact this hr

def qRow (ts : List S86) (fl : Int) (i : Nat) : Bool :=
  (decide (0 ≤ (rd_T86 ts (i : Int)).f0) && decide ((rd_T86 ts (i : Int)).f0 ≤ 99)) && ((decide (1 ≤ (rd_T86 ts (i : Int)).f1) && decide ((rd_T86 ts (i : Int)).f1 ≤ 6)) && ((decide (0 ≤ (rd_T86 ts (i : Int)).f2) && decide ((rd_T86 ts (i : Int)).f2 ≤ 1000000)) &&
    (!(decide (0 < i) && decide ((rd_T86 ts ((i : Int) - 1)).f0 ≥ (rd_T86 ts (i : Int)).f0)) && !((rd_T86 ts (i : Int)).f3 && decide ((rd_T86 ts (i : Int)).f2 < fl)))))
def qRows (ts : List S86) (fl : Int) : Nat → Nat → Bool
  | 0, _ => true
  | d + 1, i => qRow ts fl i && qRows ts fl d (i + 1)
def queueOk (ts : List S86) (fl : Int) : Bool := qRows ts fl ts.length 0 && (decide ((ts.length : Int) ≤ 6) && (decide (0 ≤ fl) && decide (fl ≤ 1000000)))
theorem impl_queueok_loop (ts : List S86) (fl : Int) (hl : ts.length ≤ 1048576) : ∀ (d i : Nat), i + d = ts.length →
    Evt (fun k => impl_QueueOk.l0 k ts (ts.length : Int) (i : Int) ts fl = some (qRows ts fl d i && (decide ((ts.length : Int) ≤ 6) && (decide (0 ≤ fl) && decide (fl ≤ 1000000))))) := by
  intro d
  induction d with
  | zero =>
    intro i hi
    refine Evt.of1 fun k => ?_
    simp only [impl_QueueOk.l0]
    rw [if_neg (by omega)]
    by_cases c : (ts.length : Int) ≤ 6
    · rw [if_pos c, in_eq]
      simp only [qRows, decide_eq_true c, Bool.true_and, Option.bind_some]
    · rw [if_neg c]
      simp only [qRows, decide_eq_false c, Bool.false_and, Bool.and_false]
  | succ d ih =>
    intro i hi
    refine (ih (i + 1) (by omega)).step fun k hk => ?_
    simp only [impl_QueueOk.l0]
    rw [if_pos (by omega), if_pos (by omega), if_pos (by omega), nat_succ_wrap (by omega), nat_pred_wrap (by omega)]
    refine bind_of (in_eq _ _ _) ?_
    by_cases h1 : (decide (0 ≤ (rd_T86 ts (i : Int)).f0) && decide ((rd_T86 ts (i : Int)).f0 ≤ 99)) = true
    · rw [if_pos h1]
      refine bind_of (in_eq _ _ _) ?_
      by_cases h2 : (decide (1 ≤ (rd_T86 ts (i : Int)).f1) && decide ((rd_T86 ts (i : Int)).f1 ≤ 6)) = true
      · rw [if_pos h2]
        refine bind_of (in_eq _ _ _) ?_
        by_cases h3 : (decide (0 ≤ (rd_T86 ts (i : Int)).f2) && decide ((rd_T86 ts (i : Int)).f2 ≤ 1000000)) = true
        · rw [if_pos h3]
          have e : qRow ts fl i = (!(decide (0 < i) && decide ((rd_T86 ts ((i : Int) - 1)).f0 ≥ (rd_T86 ts (i : Int)).f0)) && !((rd_T86 ts (i : Int)).f3 && decide ((rd_T86 ts (i : Int)).f2 < fl))) := by
            simp only [qRow, h1, h2, h3, Bool.true_and]
          rw [qRows, e]
          by_cases h4 : (rd_T86 ts (i : Int)).f3 = true
          · rw [if_pos h4]
            by_cases h5 : (rd_T86 ts (i : Int)).f2 < fl
            · rw [if_pos h5]
              simp only [h4, decide_eq_true h5, Bool.and_self, Bool.not_true, Bool.and_false, Bool.false_and]
            · rw [if_neg h5]
              simp only [decide_eq_false h5, Bool.and_false, Bool.not_false, Bool.and_true]
              by_cases h6 : (i : Int) > 0
              · rw [if_pos h6, if_pos (by omega), if_pos (by omega)]
                by_cases h7 : (rd_T86 ts ((i : Int) - 1)).f0 ≥ (rd_T86 ts (i : Int)).f0
                · rw [if_pos h7]
                  simp only [decide_eq_true h7, decide_eq_true (show 0 < i from by omega), Bool.and_self, Bool.not_true, Bool.false_and]
                · rw [if_neg h7, hk]
                  simp only [decide_eq_false h7, Bool.and_false, Bool.not_false, Bool.true_and]
              · rw [if_neg h6, hk]
                simp only [decide_eq_false (show ¬ 0 < i from by omega), Bool.false_and, Bool.not_false, Bool.true_and]
          · rw [if_neg h4]
            simp only [eq_false_of_ne_true h4, Bool.false_and, Bool.not_false, Bool.and_true]
            by_cases h6 : (i : Int) > 0
            · rw [if_pos h6, if_pos (by omega), if_pos (by omega)]
              by_cases h7 : (rd_T86 ts ((i : Int) - 1)).f0 ≥ (rd_T86 ts (i : Int)).f0
              · rw [if_pos h7]
                simp only [decide_eq_true h7, decide_eq_true (show 0 < i from by omega), Bool.and_self, Bool.not_true, Bool.false_and]
              · rw [if_neg h7, hk]
                simp only [decide_eq_false h7, Bool.and_false, Bool.not_false, Bool.true_and]
            · rw [if_neg h6, hk]
              simp only [decide_eq_false (show ¬ 0 < i from by omega), Bool.false_and, Bool.not_false, Bool.true_and]
        · rw [if_neg h3]
          simp only [qRows, qRow, eq_false_of_ne_true h3, Bool.false_and, Bool.and_false]
      · rw [if_neg h2]
        simp only [qRows, qRow, eq_false_of_ne_true h2, Bool.false_and, Bool.and_false]
    · rw [if_neg h1]
      simp only [qRows, qRow, eq_false_of_ne_true h1, Bool.false_and]
theorem impl_queueok_ev (ts : List S86) (fl : Int) (hl : ts.length ≤ 1048576) : Evt (fun k => impl_QueueOk.f k ts fl = some (queueOk ts fl)) :=
  impl_queueok_loop ts fl hl ts.length 0 (by omega)
theorem spec_queueok_loop (ts : List S86) (fl : Int) (hl : ts.length ≤ 1048576) : ∀ (d i : Nat), i + d = ts.length →
    Evt (fun k => spec_QueueOk.l0 k (i : Int) ts fl = some (qRows ts fl d i && (decide ((ts.length : Int) ≤ 6) && (decide (0 ≤ fl) && decide (fl ≤ 1000000))))) := by
  intro d
  induction d with
  | zero =>
    intro i hi
    refine Evt.of1 fun k => ?_
    simp only [spec_QueueOk.l0]
    rw [if_neg (by omega)]
    by_cases c : (ts.length : Int) ≤ 6
    · rw [if_pos c, l6in_eq]
      simp only [qRows, decide_eq_true c, Bool.true_and, Option.bind_some]
    · rw [if_neg c]
      simp only [qRows, decide_eq_false c, Bool.false_and, Bool.and_false]
  | succ d ih =>
    intro i hi
    refine (ih (i + 1) (by omega)).step fun k hk => ?_
    simp only [spec_QueueOk.l0]
    rw [if_pos (by omega), if_pos (by omega), nat_succ_wrap (by omega), nat_pred_wrap (by omega)]
    refine bind_of (l6in_eq _ _ _) ?_
    by_cases h1 : (decide (0 ≤ (rd_T86 ts (i : Int)).f0) && decide ((rd_T86 ts (i : Int)).f0 ≤ 99)) = true
    · rw [if_pos h1]
      refine bind_of (l6in_eq _ _ _) ?_
      by_cases h2 : (decide (1 ≤ (rd_T86 ts (i : Int)).f1) && decide ((rd_T86 ts (i : Int)).f1 ≤ 6)) = true
      · rw [if_pos h2]
        refine bind_of (l6in_eq _ _ _) ?_
        by_cases h3 : (decide (0 ≤ (rd_T86 ts (i : Int)).f2) && decide ((rd_T86 ts (i : Int)).f2 ≤ 1000000)) = true
        · rw [if_pos h3]
          have e : qRow ts fl i = (!(decide (0 < i) && decide ((rd_T86 ts ((i : Int) - 1)).f0 ≥ (rd_T86 ts (i : Int)).f0)) && !((rd_T86 ts (i : Int)).f3 && decide ((rd_T86 ts (i : Int)).f2 < fl))) := by
            simp only [qRow, h1, h2, h3, Bool.true_and]
          rw [qRows, e]
          have last : (if (rd_T86 ts (i : Int)).f3 = true then (if (rd_T86 ts (i : Int)).f2 < fl then (some false) else (spec_QueueOk.l0 k ((i + 1 : Nat) : Int) ts fl)) else (spec_QueueOk.l0 k ((i + 1 : Nat) : Int) ts fl)) = some (!((rd_T86 ts (i : Int)).f3 && decide ((rd_T86 ts (i : Int)).f2 < fl)) && (qRows ts fl d (i + 1) && (decide ((ts.length : Int) ≤ 6) && (decide (0 ≤ fl) && decide (fl ≤ 1000000))))) := by
            by_cases h4 : (rd_T86 ts (i : Int)).f3 = true
            · rw [if_pos h4]
              by_cases h5 : (rd_T86 ts (i : Int)).f2 < fl
              · rw [if_pos h5]
                simp only [h4, decide_eq_true h5, Bool.and_self, Bool.not_true, Bool.false_and]
              · rw [if_neg h5, hk]
                simp only [decide_eq_false h5, Bool.and_false, Bool.not_false, Bool.true_and]
            · rw [if_neg h4, hk]
              simp only [eq_false_of_ne_true h4, Bool.false_and, Bool.not_false, Bool.true_and]
          by_cases h6 : (i : Int) > 0
          · rw [if_pos h6, if_pos (by omega), if_pos (by omega)]
            by_cases h7 : (rd_T86 ts ((i : Int) - 1)).f0 ≥ (rd_T86 ts (i : Int)).f0
            · rw [if_pos h7]
              simp only [decide_eq_true h7, decide_eq_true (show 0 < i from by omega), Bool.and_self, Bool.not_true, Bool.false_and]
            · rw [if_neg h7, last]
              simp only [decide_eq_false h7, Bool.and_false, Bool.not_false, Bool.true_and, Bool.and_assoc]
          · rw [if_neg h6, last]
            simp only [decide_eq_false (show ¬ 0 < i from by omega), Bool.false_and, Bool.not_false, Bool.true_and, Bool.and_assoc]
        · rw [if_neg h3]
          simp only [qRows, qRow, eq_false_of_ne_true h3, Bool.false_and, Bool.and_false]
      · rw [if_neg h2]
        simp only [qRows, qRow, eq_false_of_ne_true h2, Bool.false_and, Bool.and_false]
    · rw [if_neg h1]
      simp only [qRows, qRow, eq_false_of_ne_true h1, Bool.false_and]
theorem spec_queueok_ev (ts : List S86) (fl : Int) (hl : ts.length ≤ 1048576) : Evt (fun k => spec_QueueOk.f k ts fl = some (queueOk ts fl)) :=
  spec_queueok_loop ts fl hl ts.length 0 (by omega)
theorem qRows_get (ts : List S86) (fl : Int) : ∀ (d i : Nat), qRows ts fl d i = true → ∀ j, i ≤ j → j < i + d → qRow ts fl j = true
  | 0, _, _, _, _, _ => by omega
  | d + 1, i, k, j, h1, h2 => by
    simp only [qRows, Bool.and_eq_true] at k
    by_cases e : j = i
    · rw [e]; exact k.1
    · exact qRows_get ts fl d (i + 1) k.2 j (by omega) (by omega)
theorem queueOk_len {ts : List S86} {fl : Int} (h : queueOk ts fl = true) : ts.length ≤ 6 := by
  simp only [queueOk, Bool.and_eq_true, decide_eq_true_eq] at h
  omega
theorem queueOk_QB {ts : List S86} {fl : Int} (h : queueOk ts fl = true) : QB ts fl := by
  simp only [queueOk, Bool.and_eq_true, decide_eq_true_eq] at h
  refine ⟨fun t ht => ?_, h.2.2⟩
  obtain ⟨j, hj, rfl⟩ := mem_rdT ht
  have := qRows_get ts fl ts.length 0 h.1 j (by omega) (by omega)
  simp only [qRow, Bool.and_eq_true, decide_eq_true_eq] at this
  omega

theorem impl_qclone_eq (ts : List S86) (fl : Int) (hl : ts.length ≤ 1048576) : impl_Queue_clone.f ts fl = some (ts, fl) := by
  unfold impl_Queue_clone.f
  refine bind_of (a := ts) ?_ rfl
  show ((some ([] : List S86)).bind fun y => (if y.length + ts.length < 4398046511104 then (some (y ++ ts)) else (none))) = some ts
  refine bind_of rfl ?_
  rw [if_pos (by simp; omega)]
  rfl

/-- The place of a task, -1 if there is none. -/
def atQ (ts : List S86) (x : Int) : Int := impl_Queue_at.idx ts x ts.length 0
theorem idx_range (ts : List S86) (x : Int) : ∀ (d i : Nat), i + d = ts.length → (impl_Queue_at.idx ts x d i = -1 ∨ ((i : Int) ≤ impl_Queue_at.idx ts x d i ∧ impl_Queue_at.idx ts x d i < ts.length ∧ (rd_T86 ts (impl_Queue_at.idx ts x d i)).f0 = x))
  | 0, _, _ => .inl rfl
  | d + 1, i, h => by
    rw [impl_Queue_at.idx]
    by_cases c : (rd_T86 ts (i : Int)).f0 = x
    · rw [if_pos c]
      exact .inr ⟨by omega, by omega, c⟩
    · rw [if_neg c]
      rcases idx_range ts x d (i + 1) (by omega) with h1 | ⟨h1, h2, h3⟩
      · exact .inl h1
      · exact .inr ⟨by omega, h2, h3⟩
theorem atQ_lt (ts : List S86) (x : Int) : atQ ts x < ts.length ∧ (0 ≤ atQ ts x → (rd_T86 ts (atQ ts x)).f0 = x) := by
  rcases idx_range ts x ts.length 0 (by omega) with h | ⟨_, h2, h3⟩
  · unfold atQ
    rw [h]
    exact ⟨by omega, fun h => by omega⟩
  · exact ⟨h2, fun _ => h3⟩
theorem spec_at_loop (ts : List S86) (fl x : Int) (hl : ts.length ≤ 1048576) : ∀ (d i : Nat), i + d = ts.length → Evt (fun k => spec_l11At.l0 k x (i : Int) ts fl = some (impl_Queue_at.idx ts x d i)) := by
  intro d
  induction d with
  | zero =>
    intro i hi
    refine Evt.of1 fun k => ?_
    simp only [spec_l11At.l0]
    rw [if_neg (by omega)]
    rfl
  | succ d ih =>
    intro i hi
    rw [impl_Queue_at.idx]
    by_cases c : (rd_T86 ts (i : Int)).f0 = x
    · rw [if_pos c]
      refine Evt.of1 fun k => ?_
      simp only [spec_l11At.l0]
      rw [if_pos (by omega), if_pos (by omega), if_pos c]
    · rw [if_neg c]
      refine (ih (i + 1) (by omega)).step fun k hk => ?_
      simp only [spec_l11At.l0]
      rw [if_pos (by omega), if_pos (by omega), if_neg c, nat_succ_wrap (by omega)]
      exact hk
theorem spec_at_ev (ts : List S86) (fl x : Int) (hl : ts.length ≤ 1048576) : Evt (fun k => spec_l11At.f k ts fl x = some (atQ ts x)) := spec_at_loop ts fl x hl ts.length 0 (by omega)

def queueLess (ts : List S86) (fl x : Int) : List S86 × Int × Bool := if queueOk ts fl = true ∧ 0 ≤ atQ ts x then (ts.eraseIdx (atQ ts x).toNat, fl, true) else ([], 0, false)
theorem impl_less_ev (ts : List S86) (fl x : Int) (hl : ts.length ≤ 1048576) : Evt (fun k => impl_QueueLess.f k ts fl x = some (queueLess ts fl x)) := by
  have ha := (atQ_lt ts x).1
  refine (impl_queueok_ev ts fl hl).imp fun k hk => ?_
  unfold impl_QueueLess.f
  refine bind_of (a := atQ ts x) rfl ?_
  refine bind_of hk ?_
  cases hq : queueOk ts fl with
  | false => rw [if_neg (by decide), queueLess, if_neg (by simp [hq])]
  | true =>
    rw [if_pos rfl]
    by_cases c : atQ ts x < 0
    · rw [if_pos c, queueLess, if_neg (fun z => by have := z.2; omega)]
    · have e1 : wrap64 (atQ ts x + 1) = atQ ts x + 1 := wrap_in (by omega) (by omega)
      rw [if_neg c, queueLess, if_pos ⟨hq, by omega⟩]
      refine bind_of (impl_qclone_eq ts fl hl) ?_
      rw [e1, if_pos (by omega), if_pos (show atQ ts x ≤ (ts.length : Int) by omega), if_pos (by omega), if_pos (show atQ ts x + 1 ≤ (ts.length : Int) by omega)]
theorem spec_l11less_eq (ts : List S86) (fl a : Int) (hl : ts.length ≤ 1048576) (h0 : 0 ≤ a) (h1 : a < ts.length) : spec_l11Less.f ts fl a = some (ts.eraseIdx a.toNat, fl) := by
  have e1 : wrap64 (a + 1) = a + 1 := wrap_in (by omega) (by omega)
  unfold spec_l11Less.f
  refine bind_of rfl ?_
  rw [e1, if_pos h0, if_pos (by omega)]
  refine bind_of rfl ?_
  rw [if_pos (by simp; omega)]
  refine bind_of rfl ?_
  rw [if_pos (by omega), if_pos (by omega)]
  refine bind_of rfl ?_
  rw [if_pos (by simp; omega), List.eraseIdx_eq_take_drop_succ, show (a + 1).toNat = a.toNat + 1 by omega]
  simp
theorem spec_less_ev (ts : List S86) (fl x : Int) (hl : ts.length ≤ 1048576) : Evt (fun k => spec_QueueLess.f k ts fl x = some (queueLess ts fl x)) := by
  have ha := (atQ_lt ts x).1
  refine ((spec_at_ev ts fl x hl).and (spec_queueok_ev ts fl hl)).imp fun k hk => ?_
  unfold spec_QueueLess.f
  refine bind_of hk.1 ?_
  refine bind_of hk.2 ?_
  cases hq : queueOk ts fl with
  | false => rw [if_neg (by decide), queueLess, if_neg (by simp [hq])]
  | true =>
    rw [if_pos rfl]
    by_cases c : atQ ts x < 0
    · rw [if_pos c, queueLess, if_neg (fun z => by have := z.2; omega)]
    · rw [if_neg c, queueLess, if_pos ⟨hq, by omega⟩]
      refine bind_of (spec_l11less_eq ts fl _ hl (by omega) ha) ?_
      rfl
theorem queueLess_len (ts : List S86) (fl x : Int) : (queueLess ts fl x).1.length ≤ ts.length := by
  unfold queueLess
  split
  · exact List.length_eraseIdx_le ..
  · simp

def cvT (t : S108) : S86 := ⟨t.f0, t.f1, t.f2, t.f3⟩
theorem rdS_nat (l : List S108) (i : Nat) : rd_T108 l (i : Int) = l.getD i z108 := rfl
theorem rdU_nat (l : List S86) (i : Nat) : rd_T86 l (i : Int) = l.getD i z86 := rfl
theorem rdU_set (l : List S86) (i : Nat) (x : S86) (h : i < l.length) : rd_T86 (l.set i x) (i : Int) = x := by
  rw [rdU_nat, List.getD_eq_getElem?_getD, List.getElem?_set, if_pos rfl, if_pos h]
  rfl
theorem totasks_loop (l : List S108) (hl : l.length ≤ 1048576) : ∀ (d i : Nat) (x : List S86), i + d = l.length → x.length = l.length → (∀ j, j < i → x[j]? = (l.map cvT)[j]?) →
    Evt (fun k => laws_toTaskS.l0 k l x (i : Int) = some (l.map cvT)) := by
  intro d
  induction d with
  | zero =>
    intro i x hi hx hj
    have e : x = l.map cvT := by
      apply List.ext_getElem?
      intro j
      by_cases h : j < i
      · exact hj j h
      · rw [List.getElem?_eq_none (by omega), List.getElem?_eq_none (by simp; omega)]
    refine Evt.of1 fun k => ?_
    simp only [laws_toTaskS.l0]
    rw [if_neg (by omega), e]
  | succ d ih =>
    intro i x hi hx hj
    refine (ih (i + 1) (x.set i (cvT (rd_T108 l (i : Int)))) (by omega) (by simp [hx]) ?_).step fun k hk => ?_
    · intro j hlt
      rw [List.getElem?_set]
      split
      · rename_i e
        subst e
        rw [if_pos (by omega), List.getElem?_map, rdS_nat, List.getD_eq_getElem?_getD, List.getElem?_eq_getElem (by omega)]
        rfl
      · exact hj j (by omega)
    · simp only [laws_toTaskS.l0]
      rw [if_pos (by omega), if_pos (by omega)]
      refine bind_of rfl ?_
      rw [if_pos (by omega), nat_succ_wrap (by omega)]
      exact hk
theorem toqueue_ev (l : List S108) (fl : Int) (hl : l.length ≤ 1048576) : Evt (fun k => laws_toQueue.f k l fl = some (l.map cvT, fl)) := by
  refine (totasks_loop l hl l.length 0 (List.replicate l.length z86) (by omega) (by simp) (fun j h => by omega)).imp fun k hk => ?_
  unfold laws_toQueue.f
  refine bind_of (a := l.map cvT) ?_ rfl
  unfold laws_toTaskS.f
  rw [if_pos (by omega), Int.toNat_natCast, if_pos (by omega)]
  exact hk
theorem szqueue_eq (l : List S108) (fl : Int) (hl : l.length ≤ 9223372036854775807) : laws_szQueue.f l fl 1048576 = some (if 1048576 - (l.length : Int) < 0 then -1 else 1048576 - (l.length : Int)) := by
  unfold laws_szQueue.f laws_szTaskS.f
  rw [wrap_in (n := 1048576 - (l.length : Int)) (by omega) (by omega)]
  by_cases c : 1048576 - (l.length : Int) < 0
  · rw [if_pos c, if_pos c]
    refine bind_of rfl ?_
    rw [if_pos (by omega)]
  · rw [if_neg c, if_neg c]
    refine bind_of rfl ?_
    rw [if_neg c]
theorem eqtasks_loop (a : List S86) (ha : a.length ≤ 1048576) : ∀ (d i : Nat), i + d = a.length → Evt (fun k => laws_eqTaskS.l0 k a a (i : Int) = some true) := by
  intro d
  induction d with
  | zero =>
    intro i hi
    refine Evt.of1 fun k => ?_
    simp only [laws_eqTaskS.l0]
    rw [if_neg (by omega)]
  | succ d ih =>
    intro i hi
    refine (ih (i + 1) (by omega)).step fun k hk => ?_
    simp only [laws_eqTaskS.l0]
    rw [if_pos (by omega), if_pos (by omega), if_pos (by omega)]
    refine bind_of (a := true) ?_ ?_
    · unfold laws_eqTask.f
      rw [if_pos rfl, if_pos rfl, if_pos rfl, if_neg (by simp)]
    · rw [if_pos rfl, nat_succ_wrap (by omega)]
      exact hk
theorem eqqueue_ev (a : List S86) (fl : Int) (ha : a.length ≤ 1048576) : Evt (fun k => laws_eqQueue.f k a fl a fl = some true) := by
  refine (eqtasks_loop a ha a.length 0 (by omega)).imp fun k hk => ?_
  unfold laws_eqQueue.f
  refine bind_of (a := true) ?_ ?_
  · unfold laws_eqTaskS.f
    rw [if_pos rfl]
    exact hk
  · rw [if_pos rfl, if_pos rfl]
def mkT (v : Int) : S86 := ⟨v, v + 1, v + 2, Int.tmod (v + 3) 3 == 0⟩
def markQ : Nat → Nat → Int → List S86 → List S86
  | 0, _, _, l => l
  | d + 1, i, v, l => markQ d (i + 1) (v + 4) (l.set i (mkT v))
theorem markQ_len : ∀ (d i : Nat) (v : Int) (l : List S86), (markQ d i v l).length = l.length
  | 0, _, _, _ => rfl
  | d + 1, i, v, l => by rw [markQ, markQ_len d]; simp
theorem markQ_old : ∀ (d i : Nat) (v : Int) (l : List S86) (j : Nat), j < i → (markQ d i v l)[j]? = l[j]?
  | 0, _, _, _, _, _ => rfl
  | d + 1, i, v, l, j, h => by
    rw [markQ, markQ_old d (i + 1) (v + 4) _ j (by omega), List.getElem?_set, if_neg (by omega)]
theorem markQ_get : ∀ (d i : Nat) (v : Int) (l : List S86) (j : Nat), i + d ≤ l.length → j < d → (markQ d i v l)[i + j]? = some (mkT (v + 4 * j))
  | 0, _, _, _, _, _, h => by omega
  | d + 1, i, v, l, j, h, hj => by
    rw [markQ]
    cases j with
    | zero =>
      show (markQ d (i + 1) (v + 4) (l.set i (mkT v)))[i]? = some (mkT (v + 4 * ((0 : Nat) : Int)))
      rw [markQ_old d (i + 1) (v + 4) _ i (by omega), List.getElem?_set, if_pos rfl, if_pos (by omega)]
      simp
    | succ j =>
      have := markQ_get d (i + 1) (v + 4) (l.set i (mkT v)) j (by simp; omega) (by omega)
      rw [show i + (j + 1) = i + 1 + j from by omega, this, show v + 4 + 4 * (j : Int) = v + 4 * ((j + 1 : Nat) : Int) from by omega]
theorem marktasks_loop : ∀ (d i : Nat) (v : Int) (l : List S86), i + d = l.length → l.length ≤ 1048576 → 0 ≤ v → v + 4 * d ≤ 1000000000000 →
    Evt (fun k => laws_markTaskS.l0 k l v (i : Int) = some (v + 4 * d, markQ d i v l)) := by
  intro d
  induction d with
  | zero =>
    intro i v l hi hl h0 h1
    refine Evt.of1 fun k => ?_
    simp only [laws_markTaskS.l0]
    rw [if_neg (by omega)]
    simp [markQ]
  | succ d ih =>
    intro i v l hi hl h0 h1
    refine (ih (i + 1) (v + 4) (l.set i (mkT v)) (by simp; omega) (by simp; omega) (by omega) (by omega)).step fun k hk => ?_
    simp only [laws_markTaskS.l0]
    have w1 : wrap64 (v + 1) = v + 1 := wrap_in (by omega) (by omega)
    have w2 : wrap64 (v + 1 + 1) = v + 2 := by rw [wrap_in (by omega) (by omega)]; omega
    have w3 : wrap64 (v + 2 + 1) = v + 3 := by rw [wrap_in (by omega) (by omega)]; omega
    have w4 : wrap64 (v + 3 + 1) = v + 4 := by rw [wrap_in (by omega) (by omega)]; omega
    rw [if_pos (by omega), if_pos (by omega), w1, w2, w3, w4, nat_succ_wrap (by omega), Int.toNat_natCast]
    refine bind_of rfl ?_
    refine bind_of rfl ?_
    refine bind_of rfl ?_
    have h2 : i < l.length := by omega
    simp only [List.set_set, rdU_set _ _ _ h2]
    rw [show v + 4 * ((d + 1 : Nat) : Int) = v + 4 + 4 * (d : Int) from by omega]
    exact hk
theorem markqueue_ev (l : List S86) (fl : Int) (hl : l.length ≤ 1048576) :
    ∃ m l', Evt (fun k => laws_markQueue.f k l fl 1 = some (m, l')) ∧ Evt (fun k => laws_heldQueue.f k l' fl 1 = some m) ∧ 0 ≤ m ∧ m ≤ 8000000 := by
  refine ⟨1 + 4 * l.length, markQ l.length 0 1 l, ?_, ?_, by omega, by omega⟩
  · refine (marktasks_loop l.length 0 1 l (by omega) hl (by omega) (by omega)).imp fun k hk => ?_
    unfold laws_markQueue.f
    exact bind_of (by unfold laws_markTaskS.f; exact hk) rfl
  · have hm := markQ_len l.length 0 1 l
    have hg : ∀ j : Nat, j < l.length → rd_T86 (markQ l.length 0 1 l) (j : Int) = mkT (1 + 4 * j) := fun j hj => by
      have := markQ_get l.length 0 1 l j (by omega) (by omega)
      rw [Nat.zero_add] at this
      rw [rdU_nat, List.getD_eq_getElem?_getD, this]
      rfl
    have loop : ∀ (d i : Nat), i + d = l.length → Evt (fun k => laws_heldTaskS.l0 k (markQ l.length 0 1 l) (1 + 4 * i) (i : Int) = some (1 + 4 * (l.length : Int))) := by
      intro d
      induction d with
      | zero =>
        intro i hi
        refine Evt.of1 fun k => ?_
        simp only [laws_heldTaskS.l0]
        rw [if_neg (by omega)]
        congr 2
        omega
      | succ d ih =>
        intro i hi
        refine (ih (i + 1) (by omega)).step fun k hk => ?_
        have w1 : wrap64 (1 + 4 * (i : Int) + 1) = 1 + 4 * (i : Int) + 1 := wrap_in (by omega) (by omega)
        have w2 : wrap64 (1 + 4 * (i : Int) + 1 + 1) = 1 + 4 * (i : Int) + 2 := by rw [wrap_in (by omega) (by omega)]; omega
        have w3 : wrap64 (1 + 4 * (i : Int) + 2 + 1) = 1 + 4 * (i : Int) + 3 := by rw [wrap_in (by omega) (by omega)]; omega
        have w4 : wrap64 (1 + 4 * (i : Int) + 3 + 1) = 1 + 4 * ((i + 1 : Nat) : Int) := by rw [wrap_in (by omega) (by omega)]; omega
        simp only [laws_heldTaskS.l0]
        rw [if_pos (by omega), if_pos (by omega), hg i (by omega), w1, w2, w3, w4, if_pos (by rfl), if_pos (by rfl), if_pos (by rfl), if_neg (by simp [mkT]), nat_succ_wrap (by omega)]
        exact hk
    refine (loop l.length 0 (by omega)).imp fun k hk => ?_
    unfold laws_heldQueue.f
    refine bind_of (by unfold laws_heldTaskS.f; exact hk) ?_
    rw [if_neg (by omega)]

theorem FnExactQueueLess : laws_FnExactQueueLess.Pure := by
  intro l fl x hl0 _ _ _
  have hz := szqueue_eq l fl hl0
  by_cases cz : 1048576 - (l.length : Int) < 0
  · rw [if_pos cz] at hz
    refine ⟨0, ?_⟩
    unfold laws_FnExactQueueLess.f
    refine bind_of hz ?_
    rw [if_pos (by omega)]
  rw [if_neg cz] at hz
  have t := toqueue_ev l fl (by omega)
  have hts : (l.map cvT).length ≤ 1048576 := by simp; omega
  generalize l.map cvT = ts at t hts
  have h1 := impl_less_ev ts fl x hts
  have h2 := spec_less_ev ts fl x hts
  have g1 := queueLess_len ts fl x
  generalize queueLess ts fl x = y at h1 h2 g1
  obtain ⟨zt, zf, zo⟩ := y
  simp only at g1
  have e1 := eqqueue_ev ts fl hts
  have e2 := eqqueue_ev zt zf (by omega)
  obtain ⟨m1, _, hm1, _, p1, _⟩ := markqueue_ev ts fl hts
  obtain ⟨m2, t', hm2, hd2, p2, _⟩ := markqueue_ev zt zf (by omega)
  have j2 : Evt (fun k => laws_FnExactQueueLess.j2 k m2 false t' zf = some true) := by
    refine hd2.step fun k hk => ?_
    simp only [laws_FnExactQueueLess.j2]
    rw [if_neg (by decide)]
    refine bind_of hk ?_
    rw [if_neg (by omega), if_pos rfl]
  have j1 : Evt (fun k => laws_FnExactQueueLess.j1 k x zo false l fl zt zf zt zf = some true) := by
    refine (((hm2.and hd2).and (t.and h1)).and (e2.and j2)).step fun k hk => ?_
    obtain ⟨⟨⟨k1, k2⟩, k3, k4⟩, k5, k6⟩ := hk
    simp only [laws_FnExactQueueLess.j1]
    rw [if_neg (by decide)]
    refine bind_of k1 ?_
    refine bind_of k2 ?_
    rw [if_neg (by omega), if_pos rfl]
    refine bind_of k3 ?_
    refine bind_of k4 ?_
    refine bind_of k5 ?_
    rw [if_pos rfl]
    simp only [bne_self_eq_false]
    exact k6
  have j0 : Evt (fun k => laws_FnExactQueueLess.j0 k x zo zo false l fl zt zf ts fl zt zf = some true) := by
    refine (((e1.and hm1).and (t.and e2)).and j1).step fun k hk => ?_
    obtain ⟨⟨⟨k1, k2⟩, k3, k4⟩, k5⟩ := hk
    simp only [laws_FnExactQueueLess.j0]
    rw [if_neg (by decide)]
    refine bind_of k3 ?_
    refine bind_of k1 ?_
    rw [if_pos rfl]
    refine bind_of k2 ?_
    rw [if_neg (show ¬ m1 < 0 from by omega)]
    refine bind_of k4 ?_
    rw [if_pos rfl]
    simp only [bne_self_eq_false]
    exact k5
  refine Evt.some_ (((t.and h1).and (h2.and e2)).and j0 |>.imp fun k hk => ?_)
  obtain ⟨⟨⟨k1, k2⟩, k3, k4⟩, k5⟩ := hk
  unfold laws_FnExactQueueLess.f
  refine bind_of hz ?_
  rw [if_neg (by omega)]
  refine bind_of k1 ?_
  refine bind_of k3 ?_
  refine bind_of k1 ?_
  refine bind_of k2 ?_
  refine bind_of k4 ?_
  rw [if_pos rfl]
  simp only [bne_self_eq_false]
  exact k5

end Go.Proofs.Ytehekikjadjdaaa.Pure
