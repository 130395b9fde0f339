/- Proved: for every code, the law FnQueueLess answers true and leaves its argument as it was (what is taken out is not there). No condition beyond the row's own. -/
import Derived.Test.YtfhcgmfodfcpeaaPFnQueueLessx16
import Derived.Test.YtfhcgmfodfcpeaaAuxFnQueueLess
namespace Go.Proofs.Ytfhcgmfodfcpeaa.Pure
open Go.RowKit Go.Proofs.Ytfhcgmfodfcpeaa.PFnQueueLess Go.Proofs.YtfhcgmfodfcpeaaW.PrintWords Go.Proofs.YtfhcgmfodfcpeaaW.PrintLast Go.Proofs.YtfhcgmfodfcpeaaW.PrintMore Go.Proofs.Ytfhcgmfodfcpeaa.Aux
set_option linter.unusedVariables false
set_option linter.unusedSimpArgs false
theorem pick_ev {l : List Int} (hl : Bytes l) {p : Int} (n : Int) (h0 : 0 ≤ p) (h1 : p < 1000000) :
    ∃ v, Evt (fun k => spec_l6Rd_pick.f k l p n = some (v, p + 1)) ∧ 0 ≤ v ∧ (1 ≤ n → v < n) ∧ (n < 1 → v = 0) := by
  have e1 : wrap64 (p + 1) = p + 1 := wrap_in (by omega) (by omega)
  have e2 : wrap64 (p + 1 - 1) = p := by rw [Int.add_sub_cancel]; exact wrap_in (by omega) (by omega)
  by_cases hn : n < 1
  · refine ⟨0, Evt.of1 fun k => ?_, by omega, by omega, fun _ => rfl⟩
    unfold spec_l6Rd_pick.f
    rw [if_pos hn, e1]
    simp only [spec_l6Rd_pick.j0, if_true]
  · by_cases hz : l.length = 0
    · refine ⟨0, Evt.of1 fun k => ?_, by omega, by omega, fun _ => rfl⟩
      unfold spec_l6Rd_pick.f
      have hz' : ((l.length : Int) == 0) = true := by simp [hz]
      rw [if_neg hn, e1, hz']
      simp only [spec_l6Rd_pick.j0, if_true]
    · have hz' : ((l.length : Int) == 0) = false := by simpa using hz
      have hlen : (0 : Int) < (l.length : Int) := by omega
      by_cases hlt : p < (l.length : Int)
      · have hr := rd_byte hl p
        have hr2 : wrap64 (rd l p) = rd l p := wrap_in (by omega) (by omega)
        have ht := tmod_range (a := rd l p) (n := n) (by omega) (by omega)
        refine ⟨Int.tmod (rd l p) n, Evt.of1 fun k => ?_, ht.1, fun _ => ht.2, fun h => by omega⟩
        unfold spec_l6Rd_pick.f
        rw [if_neg hn, e1, hz']
        simp only [spec_l6Rd_pick.j0]
        rw [e2, if_neg (by decide), if_pos hlt, if_pos h0, if_neg (by omega), hr2]
      · have e3 : wrap64 (wrap64 (p * 7) + 3) = p * 7 + 3 := by
          rw [wrap_in (n := p * 7) (by omega) (by omega)]
          exact wrap_in (by omega) (by omega)
        have ta := tmod_range (a := p) (n := (l.length : Int)) h0 hlen
        have tb := tmod_range (a := p * 7 + 3) (n := (l.length : Int)) (by omega) hlen
        have td := tdiv_range (a := p) (n := (l.length : Int)) h0 hlen
        have ra := rd_byte hl (Int.tmod p (l.length : Int))
        have rb := rd_byte hl (Int.tmod (p * 7 + 3) (l.length : Int))
        obtain ⟨x, hx, x0, x1⟩ := mix_range ra.1 ra.2 rb.1 rb.2 h0 (by omega) td.1 td.2
        have xd := tdiv_range (a := x) (n := 64) x0 (by decide)
        have xw : wrap64 (Int.tdiv x 64) = Int.tdiv x 64 := wrap_in (by omega) (by omega)
        have xx := xor_range (a := x) (b := Int.tdiv x 64) x0 x1 xd.1 (by omega)
        have tv := tmod_range (a := Go.bits .xor .i64 x (Int.tdiv x 64)) (n := n) xx.1 (by omega)
        refine ⟨Int.tmod (Go.bits .xor .i64 x (Int.tdiv x 64)) n, Evt.of1 fun k => ?_, tv.1, fun _ => tv.2, fun h => by omega⟩
        unfold spec_l6Rd_pick.f
        rw [if_neg hn, e1, hz']
        simp only [spec_l6Rd_pick.j0]
        rw [e2, e3, if_neg (by decide), if_neg hlt, if_neg (by omega), if_pos ta.1, if_pos ta.2, if_pos tb.1, if_pos tb.2, if_neg (by omega), hx, xw]
theorem open_ev {l : List Int} (hl : Bytes l) : ∃ s, spec_l6Open.f l = some (s, 0) ∧ Bytes s := by
  unfold spec_l6Open.f
  by_cases h : (l.length : Int) > 2000
  · exact ⟨l.take 2000, by rw [if_pos h, if_pos (by omega)], hl.take _⟩
  · exact ⟨l, by rw [if_neg h], hl⟩

theorem in_eq (a b c : Int) : impl_in.f a b c = some (decide (b ≤ a) && decide (a ≤ c)) := by
  unfold impl_in.f
  by_cases h : a ≥ b
  · rw [if_pos h]; simp [show b ≤ a from h]
  · rw [if_neg h]; simp [show ¬ b ≤ a from h]
theorem l6in_eq (a b c : Int) : spec_l6In.f a b c = some (decide (b ≤ a) && decide (a ≤ c)) := by
  unfold spec_l6In.f
  by_cases h : a ≥ b
  · rw [if_pos h]; simp [show b ≤ a from h]
  · rw [if_neg h]; simp [show ¬ b ≤ a from h]

theorem rdT_def (l : List S40) (i : Int) : rd_T40 l i = l.getD i.toNat z40 := rfl
theorem rdT_mem {l : List S40} {i : Int} (h0 : 0 ≤ i) (h1 : i < l.length) : rd_T40 l i ∈ l := by
  rw [rdT_def, List.getD_eq_getElem?_getD, List.getElem?_eq_getElem (by omega)]
  exact List.getElem_mem _
theorem mem_rdT {l : List S40} {t : S40} (h : t ∈ l) : ∃ j : Nat, j < l.length ∧ rd_T40 l (j : Int) = t := by
  obtain ⟨j, hj, e⟩ := List.getElem_of_mem h
  refine ⟨j, hj, ?_⟩
  rw [rdT_def, List.getD_eq_getElem?_getD, Int.toNat_natCast, List.getElem?_eq_getElem hj, e]
  rfl
theorem rdT_set (l : List S40) (i j : Int) (x : S40) (h0 : 0 ≤ i) (h1 : i < l.length) (hj : 0 ≤ j) : rd_T40 (l.set i.toNat x) j = if j = i then x else rd_T40 l j := by
  rw [rdT_def, rdT_def, List.getD_eq_getElem?_getD, List.getD_eq_getElem?_getD, List.getElem?_set]
  by_cases e : j = i
  · rw [if_pos e, e, if_pos rfl, if_pos (by omega)]
    rfl
  · rw [if_neg e, if_neg (by omega)]
/-- What a queue's tasks and floor keep within, so that nothing wraps and nothing is divided by nought. -/
def QB (ts : List S40) (fl : Int) : Prop := (∀ t ∈ ts, 1 ≤ t.f1 ∧ t.f1 ≤ 6 ∧ 0 ≤ t.f2 ∧ t.f2 ≤ 1000000) ∧ 0 ≤ fl ∧ fl ≤ 1000000
theorem QB.get {ts : List S40} {fl : Int} (h : QB ts fl) {i : Int} (h0 : 0 ≤ i) (h1 : i < ts.length) : 1 ≤ (rd_T40 ts i).f1 ∧ (rd_T40 ts i).f1 ≤ 6 ∧ 0 ≤ (rd_T40 ts i).f2 ∧ (rd_T40 ts i).f2 ≤ 1000000 := h.1 _ (rdT_mem h0 h1)
theorem QB.set {ts : List S40} {fl : Int} (h : QB ts fl) (n : Nat) (x : S40) (hx : 1 ≤ x.f1 ∧ x.f1 ≤ 6 ∧ 0 ≤ x.f2 ∧ x.f2 ≤ 1000000) : QB (ts.set n x) fl := by
  refine ⟨fun t ht => ?_, h.2⟩
  rcases List.mem_or_eq_of_mem_set ht with h1 | h1
  · exact h.1 t h1
  · rw [h1]; exact hx
theorem div60 {n : Int} (h1 : 1 ≤ n) (h6 : n ≤ 6) : 10 ≤ Int.tdiv 60 n ∧ Int.tdiv 60 n ≤ 60 ∧ Int.tdiv 60 n * n = 60 := by
  have : n = 1 ∨ n = 2 ∨ n = 3 ∨ n = 4 ∨ n = 5 ∨ n = 6 := by omega
  rcases this with rfl | rfl | rfl | rfl | rfl | rfl <;> decide
/-! the next task -/
def nextF (ts : List S40) : Nat → Nat → Int → Int
  | 0, _, b => b
  | d + 1, i, b => nextF ts d (i + 1) (if (rd_T40 ts (i : Int)).f3 = true ∧ (b < 0 ∨ (rd_T40 ts (i : Int)).f2 < (rd_T40 ts b).f2) then (i : Int) else b)
def next (ts : List S40) : Int := nextF ts ts.length 0 (-1)
def Nx (ts : List S40) (b : Int) (i : Nat) : Prop :=
  (b = -1 ∧ ∀ j : Nat, j < i → (rd_T40 ts (j : Int)).f3 = false) ∨ (0 ≤ b ∧ b < i ∧ (rd_T40 ts b).f3 = true ∧ ∀ j : Nat, j < i → (rd_T40 ts (j : Int)).f3 = true → (rd_T40 ts b).f2 ≤ (rd_T40 ts (j : Int)).f2)
theorem nx_step (ts : List S40) (b : Int) (i : Nat) (h : Nx ts b i) : Nx ts (if (rd_T40 ts (i : Int)).f3 = true ∧ (b < 0 ∨ (rd_T40 ts (i : Int)).f2 < (rd_T40 ts b).f2) then (i : Int) else b) (i + 1) := by
  by_cases c : (rd_T40 ts (i : Int)).f3 = true ∧ (b < 0 ∨ (rd_T40 ts (i : Int)).f2 < (rd_T40 ts b).f2)
  · rw [if_pos c]
    refine .inr ⟨by omega, by omega, c.1, fun j hj hr => ?_⟩
    rcases h with ⟨h1, h2⟩ | ⟨h1, h2, h3, h4⟩
    · by_cases e : j = i
      · subst e; exact Int.le_refl _
      · rw [h2 j (by omega)] at hr
        exact absurd hr (by decide)
    · by_cases e : j = i
      · subst e; exact Int.le_refl _
      · have := h4 j (by omega) hr
        rcases c.2 with c2 | c2
        · omega
        · omega
  · rw [if_neg c]
    rcases h with ⟨h1, h2⟩ | ⟨h1, h2, h3, h4⟩
    · refine .inl ⟨h1, fun j hj => ?_⟩
      by_cases e : j = i
      · subst e
        cases hr : (rd_T40 ts (j : Int)).f3 with
        | false => rfl
        | true => exact absurd ⟨hr, .inl (by omega)⟩ c
      · exact h2 j (by omega)
    · refine .inr ⟨h1, by omega, h3, fun j hj hr => ?_⟩
      by_cases e : j = i
      · subst e
        by_cases c2 : (rd_T40 ts (j : Int)).f2 < (rd_T40 ts b).f2
        · exact absurd ⟨hr, .inr c2⟩ c
        · omega
      · exact h4 j (by omega) hr
theorem nextF_nx (ts : List S40) : ∀ (d i : Nat) (b : Int), Nx ts b i → Nx ts (nextF ts d i b) (i + d)
  | 0, _, _, h => h
  | d + 1, i, b, h => by
    rw [nextF, show i + (d + 1) = i + 1 + d from by omega]
    exact nextF_nx ts d (i + 1) _ (nx_step ts b i h)
theorem next_nx (ts : List S40) : Nx ts (next ts) ts.length := by
  have := nextF_nx ts ts.length 0 (-1) (.inl ⟨rfl, fun j hj => by omega⟩)
  rwa [Nat.zero_add] at this
theorem next_lt (ts : List S40) : next ts < ts.length := by
  rcases next_nx ts with ⟨h, _⟩ | ⟨_, h, _⟩ <;> omega
theorem next_of_ready {ts : List S40} {i : Int} (h0 : 0 ≤ i) (h1 : i < ts.length) (hr : (rd_T40 ts i).f3 = true) : 0 ≤ next ts := by
  rcases next_nx ts with ⟨_, h⟩ | ⟨h, _⟩
  · have := h i.toNat (by omega)
    rw [show ((i.toNat : Nat) : Int) = i from by omega, hr] at this
    exact absurd this (by decide)
  · exact h
theorem next_ready {ts : List S40} (h : 0 ≤ next ts) : (rd_T40 ts (next ts)).f3 = true := by
  rcases next_nx ts with ⟨h1, _⟩ | ⟨_, _, h1, _⟩
  · omega
  · exact h1
theorem next_least {ts : List S40} (h : 0 ≤ next ts) {j : Int} (h0 : 0 ≤ j) (h1 : j < ts.length) (hr : (rd_T40 ts j).f3 = true) : (rd_T40 ts (next ts)).f2 ≤ (rd_T40 ts j).f2 := by
  rcases next_nx ts with ⟨h1, _⟩ | ⟨_, _, _, h4⟩
  · omega
  · have := h4 j.toNat (by omega)
    rw [show ((j.toNat : Nat) : Int) = j from by omega] at this
    exact this hr

theorem spec_next_loop (ts : List S40) (fl : Int) (hl : ts.length ≤ 1048576) : ∀ (d i : Nat) (b : Int), i + d = ts.length → -1 ≤ b → b < i →
    Evt (fun k => spec_l11Next.l0 k b (i : Int) ts fl = some (nextF ts d i b)) := by
  intro d
  induction d with
  | zero =>
    intro i b hi h0 h1
    refine Evt.of1 fun k => ?_
    simp only [spec_l11Next.l0]
    rw [if_neg (by omega)]
    rfl
  | succ d ih =>
    intro i b hi h0 h1
    refine (ih (i + 1) (if (rd_T40 ts (i : Int)).f3 = true ∧ (b < 0 ∨ (rd_T40 ts (i : Int)).f2 < (rd_T40 ts b).f2) then (i : Int) else b) (by omega) (by split <;> omega) (by split <;> omega)).step fun k hk => ?_
    simp only [spec_l11Next.l0]
    rw [if_pos (by omega), if_pos (by omega), nat_succ_wrap (by omega), nextF]
    by_cases hr : (rd_T40 ts (i : Int)).f3 = true
    · rw [if_pos hr]
      by_cases hb : b < 0
      · rw [if_pos hb]
        rw [if_pos (And.intro hr (Or.inl hb))] at hk ⊢
        exact hk
      · rw [if_neg hb, if_pos (by omega), if_pos (by omega)]
        by_cases hc : (rd_T40 ts (i : Int)).f2 < (rd_T40 ts b).f2
        · rw [if_pos hc]
          rw [if_pos (And.intro hr (Or.inr hc))] at hk ⊢
          exact hk
        · rw [if_neg hc]
          rw [if_neg (fun h => h.2.elim hb hc)] at hk ⊢
          exact hk
    · rw [if_neg hr]
      rw [if_neg (fun h => hr h.1)] at hk ⊢
      exact hk
theorem spec_next_ev (ts : List S40) (fl : Int) (hl : ts.length ≤ 1048576) : Evt (fun k => spec_l11Next.f k ts fl = some (next ts)) :=
  spec_next_loop ts fl hl ts.length 0 (-1) (by omega) (by omega) (by omega)
/-! one tick -/
def tickC (ts : List S40) (k : Int) : Int := (rd_T40 ts k).f2 + Int.tdiv 60 (rd_T40 ts k).f1
def tickTs (ts : List S40) (k : Int) : List S40 := ts.set k.toNat ⟨(rd_T40 ts k).f0, (rd_T40 ts k).f1, tickC ts k, (rd_T40 ts k).f3⟩
def tickV (ts : List S40) (fl : Int) : List S40 × Int × Int :=
  if next ts < 0 then (ts, fl, -1) else if tickC ts (next ts) > 1000000 then (ts, fl, -1) else
    (tickTs ts (next ts), mx fl (rd_T40 (tickTs ts (next ts)) (next (tickTs ts (next ts)))).f2, (rd_T40 (tickTs ts (next ts)) (next ts)).f0)
theorem tickTs_len (ts : List S40) (k : Int) : (tickTs ts k).length = ts.length := by simp [tickTs]
theorem tick_next {ts : List S40} (h : 0 ≤ next ts) : 0 ≤ next (tickTs ts (next ts)) := by
  have h1 := next_lt ts
  refine next_of_ready (i := next ts) h (by rw [tickTs_len]; exact h1) ?_
  rw [tickTs, rdT_set ts (next ts) (next ts) _ h h1 h, if_pos rfl]
  exact next_ready h
theorem tickC_range {ts : List S40} {fl : Int} (q : QB ts fl) {k : Int} (h0 : 0 ≤ k) (h1 : k < ts.length) : 10 ≤ tickC ts k ∧ tickC ts k ≤ 1000060 ∧ (rd_T40 ts k).f2 + 10 ≤ tickC ts k := by
  have h2 := q.get h0 h1
  have h3 := div60 h2.1 h2.2.1
  unfold tickC
  omega
theorem mx_range {a b lo hi : Int} (h1 : lo ≤ a) (h2 : a ≤ hi) (h3 : lo ≤ b) (h4 : b ≤ hi) : lo ≤ mx a b ∧ mx a b ≤ hi := by
  unfold mx
  split <;> omega
theorem tickTs_QB {ts : List S40} {fl : Int} (q : QB ts fl) {k : Int} (h0 : 0 ≤ k) (h1 : k < ts.length) (hc : tickC ts k ≤ 1000000) : QB (tickTs ts k) fl := by
  have h2 := q.get h0 h1
  have h3 := tickC_range q h0 h1
  exact q.set _ _ ⟨h2.1, h2.2.1, by show 0 ≤ tickC ts k; omega, hc⟩
theorem tickV_QB {ts : List S40} {fl : Int} (q : QB ts fl) : QB (tickV ts fl).1 (tickV ts fl).2.1 ∧ (tickV ts fl).1.length = ts.length := by
  unfold tickV
  by_cases h : next ts < 0
  · rw [if_pos h]; exact ⟨q, rfl⟩
  · rw [if_neg h]
    by_cases hc : tickC ts (next ts) > 1000000
    · rw [if_pos hc]; exact ⟨q, rfl⟩
    · rw [if_neg hc]
      have h1 := next_lt ts
      have q2 := tickTs_QB q (k := next ts) (by omega) h1 (by omega)
      have h5 := tick_next (ts := ts) (by omega)
      have h6 := next_lt (tickTs ts (next ts))
      have h7 := q2.get h5 h6
      exact ⟨⟨q2.1, mx_range q.2.1 q.2.2 h7.2.2.1 h7.2.2.2⟩, tickTs_len _ _⟩
theorem spec_tick_ev {ts : List S40} {fl : Int} (q : QB ts fl) (hl : ts.length ≤ 1048576) : Evt (fun k => spec_l11Tick.f k ts fl = some (tickV ts fl)) := by
  have h1 := next_lt ts
  refine ((spec_next_ev ts fl hl).and (spec_next_ev (tickTs ts (next ts)) fl (by rw [tickTs_len]; exact hl))).imp fun k hk => ?_
  unfold spec_l11Tick.f
  refine bind_of hk.1 ?_
  unfold tickV
  by_cases h : next ts < 0
  · rw [if_pos h, if_pos h]
  · have h2 := q.get (i := next ts) (by omega) h1
    have h3 := div60 h2.1 h2.2.1
    have h4 := tickC_range q (k := next ts) (by omega) h1
    have e : wrap64 ((rd_T40 ts (next ts)).f2 + wrap64 (Int.tdiv (60 : Int) (rd_T40 ts (next ts)).f1)) = tickC ts (next ts) := by
      rw [wrap_in (n := Int.tdiv (60 : Int) (rd_T40 ts (next ts)).f1) (by omega) (by omega)]
      exact wrap_in (by unfold tickC at h4; omega) (by unfold tickC at h4; omega)
    rw [if_neg h, if_neg h, if_pos (by omega), if_pos (by omega), if_neg (by omega), e]
    by_cases hc : tickC ts (next ts) > 1000000
    · rw [if_pos hc, if_pos hc]
    · rw [if_neg hc, if_neg hc]
      refine bind_of rfl ?_
      refine bind_of hk.2 ?_
      have h5 := tick_next (ts := ts) (by omega)
      have h6 := next_lt (tickTs ts (next ts))
      rw [tickTs_len] at h6
      rw [if_pos h5, if_pos h6]
      rfl

theorem at_loop (ts : List S40) (fl x : Int) (hl : ts.length ≤ 1048576) : ∀ (d i : Nat), i + d = ts.length → ∃ r, Evt (fun k => spec_l11At.l0 k x (i : Int) ts fl = some r) := by
  intro d
  induction d with
  | zero =>
    intro i hi
    refine ⟨-1, Evt.of1 fun k => ?_⟩
    simp only [spec_l11At.l0]
    rw [if_neg (by omega)]
  | succ d ih =>
    intro i hi
    by_cases c : (rd_T40 ts (i : Int)).f0 = x
    · refine ⟨(i : Int), Evt.of1 fun k => ?_⟩
      simp only [spec_l11At.l0]
      rw [if_pos (by omega), if_pos (by omega), if_pos c]
    · obtain ⟨r, hr⟩ := ih (i + 1) (by omega)
      refine ⟨r, hr.step fun k hk => ?_⟩
      simp only [spec_l11At.l0]
      rw [if_pos (by omega), if_pos (by omega), if_neg c, nat_succ_wrap (by omega)]
      exact hk
theorem add_loop (ts : List S40) (fl : Int) (n : S40) (hl : ts.length ≤ 1048576) : ∀ (d i : Nat) (o : List S40) (b : Bool), i + d = ts.length → o.length ≤ i + 1 → (b = false → o.length ≤ i) → (∀ t ∈ o, t ∈ ts ∨ t = n) →
    ∃ o', Evt (fun k => spec_l11Add.l0 k o b (i : Int) ts fl n.f0 n.f1 n.f2 n.f3 = some (o', fl)) ∧ o'.length ≤ ts.length + 1 ∧ ∀ t ∈ o', t ∈ ts ∨ t = n := by
  intro d
  have app : ∀ (o : List S40) (x : S40), (∀ t ∈ o, t ∈ ts ∨ t = n) → (x ∈ ts ∨ x = n) → ∀ t ∈ o ++ [x], t ∈ ts ∨ t = n := by
    intro o x ho hx t ht
    rcases List.mem_append.mp ht with h | h
    · exact ho t h
    · rw [List.mem_singleton.mp h]; exact hx
  induction d with
  | zero =>
    intro i o b hi h1 h2 h3
    cases b with
    | true =>
      refine ⟨o, Evt.of1 fun k => ?_, by omega, h3⟩
      simp only [spec_l11Add.l0]
      rw [if_neg (by omega), if_pos trivial]
    | false =>
      have h4 := h2 rfl
      refine ⟨o ++ [n], Evt.of1 fun k => ?_, by simp; omega, app o n h3 (.inr rfl)⟩
      simp only [spec_l11Add.l0]
      rw [if_neg (by omega), if_neg (by decide), if_pos (by omega)]
  | succ d ih =>
    intro i o b hi h1 h2 h3
    have hm : rd_T40 ts (i : Int) ∈ ts := rdT_mem (by omega) (by omega)
    cases b with
    | true =>
      obtain ⟨o', r1, r2, r3⟩ := ih (i + 1) (o ++ [rd_T40 ts (i : Int)]) true (by omega) (by simp; omega) (by simp) (app o _ h3 (.inl hm))
      refine ⟨o', r1.step fun k hk => ?_, r2, r3⟩
      simp only [spec_l11Add.l0]
      rw [if_pos (by omega), if_pos trivial, if_pos (by omega), if_pos (by omega), nat_succ_wrap (by omega)]
      exact hk
    | false =>
      have h4 := h2 rfl
      by_cases c : (rd_T40 ts (i : Int)).f0 > n.f0
      · obtain ⟨o', r1, r2, r3⟩ := ih (i + 1) (o ++ [n] ++ [rd_T40 ts (i : Int)]) true (by omega) (by simp; omega) (by simp) (app _ _ (app o n h3 (.inr rfl)) (.inl hm))
        refine ⟨o', r1.step fun k hk => ?_, r2, r3⟩
        simp only [spec_l11Add.l0]
        rw [if_pos (by omega), if_neg (by decide), if_pos (by omega), if_pos c, if_pos (by omega)]
        refine bind_of rfl ?_
        rw [if_pos (by simp; omega), nat_succ_wrap (by omega)]
        exact hk
      · obtain ⟨o', r1, r2, r3⟩ := ih (i + 1) (o ++ [rd_T40 ts (i : Int)]) false (by omega) (by simp; omega) (by simp; omega) (app o _ h3 (.inl hm))
        refine ⟨o', r1.step fun k hk => ?_, r2, r3⟩
        simp only [spec_l11Add.l0]
        rw [if_pos (by omega), if_neg (by decide), if_pos (by omega), if_neg c, if_pos (by omega), nat_succ_wrap (by omega)]
        exact hk
theorem add_ev {ts : List S40} {fl : Int} (q : QB ts fl) (hl : ts.length ≤ 1048576) (a b c : Int) (e : Bool) (hb : 1 ≤ b ∧ b ≤ 6 ∧ 0 ≤ c ∧ c ≤ 1000000) :
    ∃ o, Evt (fun k => spec_l11Add.f k ts fl a b c e = some (o, fl)) ∧ QB o fl ∧ o.length ≤ ts.length + 1 := by
  obtain ⟨o, r1, r2, r3⟩ := add_loop ts fl ⟨a, b, c, e⟩ hl ts.length 0 [] false (by omega) (by simp) (by simp) (by simp)
  refine ⟨o, r1, ⟨fun t ht => ?_, q.2⟩, r2⟩
  rcases r3 t ht with h | h
  · exact q.1 t h
  · rw [h]; exact hb
theorem wake_ev {ts : List S40} {fl : Int} (q : QB ts fl) {i : Int} (h0 : 0 ≤ i) (h1 : i < ts.length) : ∃ o, spec_l11Wake.f ts fl i = some (o, fl) ∧ QB o fl ∧ o.length = ts.length := by
  unfold spec_l11Wake.f
  rw [if_pos h0, if_pos h1]
  by_cases c : (rd_T40 ts i).f3 = true
  · rw [if_pos c]
    exact ⟨ts, rfl, q, rfl⟩
  · rw [if_neg c]
    have g := q.get h0 h1
    refine ⟨_, bind_of rfl rfl, ?_, by simp⟩
    have q2 := q.set i.toNat (⟨(rd_T40 ts i).f0, (rd_T40 ts i).f1, (rd_T40 ts i).f2, true⟩ : S40) g
    have g2 := q2.get h0 (by rw [List.length_set]; exact h1)
    have := mx_range (lo := 0) (hi := 1000000) g2.2.2.1 g2.2.2.2 q.2.1 q.2.2
    exact q2.set i.toNat _ ⟨g2.1, g2.2.1, this.1, this.2⟩
theorem drawq_l1 {l : List Int} (x4 p : Int) (K : Nat → Option (List S40 × Int × Int)) : ∀ (n : Nat) (ts : List S40) (fl : Int), n ≤ 1000 → QB ts fl → ts.length ≤ 1000 →
    (∀ ts fl, QB ts fl → ts.length ≤ 1000 → True) → ∃ ts' fl', QB ts' fl' ∧ ts'.length = ts.length ∧
      ∀ r, Evt (fun k => spec_l92Queue.l1 k x4 0 l p ts' fl' = some r) → Evt (fun k => spec_l92Queue.l1 k x4 (n : Int) l p ts fl = some r) := by
  intro n
  induction n with
  | zero => exact fun ts fl _ q _ _ => ⟨ts, fl, q, rfl, fun r h => h⟩
  | succ n ih =>
    intro ts fl hn q hl hh
    have q2 := tickV_QB q
    obtain ⟨ts', fl', r1, r2, r3⟩ := ih (tickV ts fl).1 (tickV ts fl).2.1 (by omega) q2.1 (by omega) hh
    refine ⟨ts', fl', r1, by omega, fun r hr => ?_⟩
    refine ((r3 r hr).and (spec_tick_ev q (by omega))).step fun k hk => ?_
    simp only [spec_l92Queue.l1]
    rw [if_pos (by omega)]
    refine bind_of hk.2 ?_
    rw [wrap_in (n := ((n + 1 : Nat) : Int) - 1) (by omega) (by omega), show ((n + 1 : Nat) : Int) - 1 = (n : Int) from by omega]
    exact hk.1
theorem drawq_l0 {l : List Int} (hl : Bytes l) : ∀ (n : Nat) (p : Int) (ts : List S40) (fl : Int), n ≤ 6 → 0 ≤ p → p + 10 * n < 900000 → QB ts fl → ts.length + n ≤ 6 →
    ∃ ts' fl' p', Evt (fun k => spec_l92Queue.l0 k (n : Int) l p ts fl = some (ts', fl', p')) ∧ ts'.length ≤ 7 ∧ -1 ≤ fl' ∧ fl' ≤ 1000030 ∧ p ≤ p' ∧ p' ≤ p + 10 * n + 10 := by
  intro n
  induction n with
  | zero =>
    intro p ts fl _ h0 h1 q hn
    obtain ⟨v, hv, v0, v1, _⟩ := pick_ev hl 24 h0 (by omega)
    by_cases c0 : v = 0
    · obtain ⟨w, hw, w0, w1, _⟩ := pick_ev hl (p := p + 1) 4 (by omega) (by omega)
      have w2 := w1 (by omega)
      have q2 := q.2
      have e : wrap64 (fl + 30) = fl + 30 := wrap_in (by omega) (by omega)
      have hr : -1 ≤ rd [-1, fl + 30, 1000000, 1000001] w ∧ rd [-1, fl + 30, 1000000, 1000001] w ≤ 1000030 := by
        have : w = 0 ∨ w = 1 ∨ w = 2 ∨ w = 3 := by omega
        rcases this with rfl | rfl | rfl | rfl <;> simp [rd] <;> omega
      refine ⟨ts, rd [-1, fl + 30, 1000000, 1000001] w, p + 1 + 1, (hv.and hw).step fun k hk => ?_, by omega, hr.1, hr.2, by omega, by omega⟩
      simp only [spec_l92Queue.l0]
      rw [if_neg (by omega)]
      refine bind_of hk.1 ?_
      rw [if_pos c0, e]
      refine bind_of rfl ?_
      refine bind_of hk.2 ?_
      rw [if_pos w0, if_pos (show w < (([-1, fl + 30, 1000000, 1000001] : List Int).length : Int) from by simpa using w2)]
    · by_cases c1 : v = 1
      · obtain ⟨w, hw, _, _, _⟩ := pick_ev hl (p := p + 1) 101 (by omega) (by omega)
        obtain ⟨x, hx, _, _, _⟩ := pick_ev hl (p := p + 1 + 1) 8 (by omega) (by omega)
        obtain ⟨y, hy, y0, y1, _⟩ := pick_ev hl (p := p + 1 + 1 + 1) 3 (by omega) (by omega)
        have y2 := y1 (by omega)
        have q2 := q.2
        refine ⟨ts ++ [(⟨w, x, rd [0, 1000000, 999990] y, true⟩ : S40)], fl, p + 1 + 1 + 1 + 1, (hv.and (hw.and (hx.and hy))).step fun k hk => ?_, by simp; omega, by omega, by omega, by omega, by omega⟩
        simp only [spec_l92Queue.l0]
        rw [if_neg (by omega)]
        refine bind_of hk.1 ?_
        rw [if_neg c0, if_pos c1]
        refine bind_of hk.2.1 ?_
        refine bind_of hk.2.2.1 ?_
        refine bind_of rfl ?_
        refine bind_of hk.2.2.2 ?_
        rw [if_pos y0, if_pos (show y < (([0, 1000000, 999990] : List Int).length : Int) from by simpa using y2), if_pos (by omega)]
      · have q2 := q.2
        refine ⟨ts, fl, p + 1, hv.step fun k hk => ?_, by omega, by omega, by omega, by omega, by omega⟩
        simp only [spec_l92Queue.l0]
        rw [if_neg (by omega)]
        refine bind_of hk ?_
        rw [if_neg c0, if_neg c1]
  | succ n ih =>
    intro p ts fl hn6 h0 h1 q hn
    -- what follows the number of ticks
    have tail : ∀ (p : Int) (ts : List S40) (fl : Int), 0 ≤ p → p + 10 * n + 3 < 900000 → QB ts fl → ts.length + n ≤ 6 →
        ∃ ts' fl' p', Evt (fun k => spec_l92Queue.l1 k ((n + 1 : Nat) : Int) 0 l p ts fl = some (ts', fl', p')) ∧ ts'.length ≤ 7 ∧ -1 ≤ fl' ∧ fl' ≤ 1000030 ∧ p ≤ p' ∧ p' ≤ p + 3 + 10 * n + 10 := by
      intro p ts fl h0 h1 q hn
      have ew : wrap64 (((n + 1 : Nat) : Int) - 1) = (n : Int) := by
        rw [wrap_in (by omega) (by omega)]
        omega
      by_cases c : (ts.length : Int) > 0
      · obtain ⟨v, hv, _, _, _⟩ := pick_ev hl 3 h0 (by omega)
        by_cases cv : (v == 0) = true
        · obtain ⟨a, ha, a0, a1, _⟩ := pick_ev hl (p := p + 1) (ts.length : Int) (by omega) (by omega)
          have a2 := a1 (by omega)
          obtain ⟨b, hb, _, _, _⟩ := pick_ev hl (p := p + 1 + 1) 2 (by omega) (by omega)
          have g := q.get a0 a2
          have q2 := q.set a.toNat (⟨(rd_T40 ts a).f0, (rd_T40 ts a).f1, (rd_T40 ts a).f2, false⟩ : S40) g
          by_cases cb : b = 0
          · obtain ⟨o, ho, o1, o2⟩ := wake_ev q2 (i := a) a0 (by rw [List.length_set]; exact a2)
            rw [List.length_set] at o2
            obtain ⟨ts', fl', p', r1, r2, r3, r4, r5, r6⟩ := ih (p + 1 + 1 + 1) o fl (by omega) (by omega) (by omega) o1 (by omega)
            refine ⟨ts', fl', p', ((hv.and (ha.and (hb.and r1))).step (Q := fun k => spec_l92Queue.j3 k ((n + 1 : Nat) : Int) true l (p + 1) ts fl = some (ts', fl', p') ∧ spec_l6Rd_pick.f (k - 1) l p 3 = some (v, p + 1)) fun k hk => ⟨?_, hk.1⟩).and hv |>.step fun k hk => ?_, r2, r3, r4, by omega, by omega⟩
            · simp only [spec_l92Queue.j3]
              rw [if_pos trivial]
              refine bind_of hk.2.1 ?_
              rw [if_pos a0, if_pos a2]
              refine bind_of rfl ?_
              refine bind_of hk.2.2.1 ?_
              rw [if_pos cb]
              refine bind_of ho ?_
              rw [ew]
              exact hk.2.2.2
            · simp only [spec_l92Queue.l1]
              rw [if_neg (by omega), if_pos c]
              refine bind_of hk.2 ?_
              rw [cv]
              exact hk.1.1
          · obtain ⟨ts', fl', p', r1, r2, r3, r4, r5, r6⟩ := ih (p + 1 + 1 + 1) _ fl (by omega) (by omega) (by omega) q2 (by rw [List.length_set]; omega)
            refine ⟨ts', fl', p', ((hv.and (ha.and (hb.and r1))).step (Q := fun k => spec_l92Queue.j3 k ((n + 1 : Nat) : Int) true l (p + 1) ts fl = some (ts', fl', p')) fun k hk => ?_).and hv |>.step fun k hk => ?_, r2, r3, r4, by omega, by omega⟩
            · simp only [spec_l92Queue.j3]
              rw [if_pos trivial]
              refine bind_of hk.2.1 ?_
              rw [if_pos a0, if_pos a2]
              refine bind_of rfl ?_
              refine bind_of hk.2.2.1 ?_
              rw [if_neg cb, ew]
              exact hk.2.2.2
            · simp only [spec_l92Queue.l1]
              rw [if_neg (by omega), if_pos c]
              refine bind_of hk.2 ?_
              rw [cv]
              exact hk.1
        · obtain ⟨ts', fl', p', r1, r2, r3, r4, r5, r6⟩ := ih (p + 1) ts fl (by omega) (by omega) (by omega) q (by omega)
          refine ⟨ts', fl', p', (r1.step (Q := fun k => spec_l92Queue.j3 k ((n + 1 : Nat) : Int) false l (p + 1) ts fl = some (ts', fl', p')) fun k hk => ?_).and hv |>.step fun k hk => ?_, r2, r3, r4, by omega, by omega⟩
          · simp only [spec_l92Queue.j3]
            rw [if_neg (by decide), ew]
            exact hk
          · simp only [spec_l92Queue.l1]
            rw [if_neg (by omega), if_pos c]
            refine bind_of hk.2 ?_
            rw [eq_false_of_ne_true cv]
            exact hk.1
      · obtain ⟨ts', fl', p', r1, r2, r3, r4, r5, r6⟩ := ih p ts fl (by omega) (by omega) (by omega) q (by omega)
        refine ⟨ts', fl', p', (r1.step (Q := fun k => spec_l92Queue.j3 k ((n + 1 : Nat) : Int) false l p ts fl = some (ts', fl', p')) fun k hk => ?_).step fun k hk => ?_, r2, r3, r4, by omega, by omega⟩
        · simp only [spec_l92Queue.j3]
          rw [if_neg (by decide), ew]
          exact hk
        · simp only [spec_l92Queue.l1]
          rw [if_neg (by omega), if_neg c]
          exact hk
    have j1 : ∀ (p : Int) (ts : List S40) (fl : Int), 0 ≤ p → p + 10 * n + 4 < 900000 → QB ts fl → ts.length + n ≤ 6 →
        ∃ ts' fl' p', Evt (fun k => spec_l92Queue.j1 k ((n + 1 : Nat) : Int) l p ts fl = some (ts', fl', p')) ∧ ts'.length ≤ 7 ∧ -1 ≤ fl' ∧ fl' ≤ 1000030 ∧ p ≤ p' ∧ p' ≤ p + 4 + 10 * n + 10 := by
      intro p ts fl h0 h1 q hn
      obtain ⟨v, hv, v0, v1, _⟩ := pick_ev hl 9 h0 (by omega)
      have v2 := v1 (by omega)
      obtain ⟨ts1, fl1, s1, s2, s3⟩ := drawq_l1 (l := l) ((n + 1 : Nat) : Int) (p + 1) (fun _ => none) v.toNat ts fl (by omega) q (by omega) (fun _ _ _ _ => trivial)
      obtain ⟨ts', fl', p', r1, r2, r3, r4, r5, r6⟩ := tail (p + 1) ts1 fl1 (by omega) (by omega) s1 (by omega)
      refine ⟨ts', fl', p', ((s3 _ r1).and hv).step fun k hk => ?_, r2, r3, r4, by omega, by omega⟩
      simp only [spec_l92Queue.j1]
      refine bind_of hk.2 ?_
      have := hk.1
      rw [show ((v.toNat : Nat) : Int) = v from by omega] at this
      exact this
    obtain ⟨v, hv, v0, v1, _⟩ := pick_ev hl 8 h0 (by omega)
    obtain ⟨a, ha⟩ := at_loop ts fl v (by omega) ts.length 0 (by omega)
    by_cases ca : a < 0
    · obtain ⟨w, hw, w0, w1, _⟩ := pick_ev hl (p := p + 1) 6 (by omega) (by omega)
      have w2 := w1 (by omega)
      obtain ⟨o, ho, o1, o2⟩ := add_ev q (by omega) v (1 + w) fl true ⟨by omega, by omega, q.2.1, q.2.2⟩
      obtain ⟨ts', fl', p', r1, r2, r3, r4, r5, r6⟩ := j1 (p + 1 + 1) o fl (by omega) (by omega) o1 (by omega)
      refine ⟨ts', fl', p', ((hv.and ha).and (hw.and (ho.and r1))).step fun k hk => ?_, r2, r3, r4, by omega, by omega⟩
      obtain ⟨⟨k1, k2⟩, k3, k4, k5⟩ := hk
      simp only [spec_l92Queue.l0]
      rw [if_pos (by omega)]
      refine bind_of k1 ?_
      refine bind_of (by unfold spec_l11At.f; exact k2) ?_
      rw [if_pos ca]
      refine bind_of k3 ?_
      rw [wrap_in (n := 1 + w) (by omega) (by omega)]
      refine bind_of k4 ?_
      exact k5
    · obtain ⟨ts', fl', p', r1, r2, r3, r4, r5, r6⟩ := j1 (p + 1) ts fl (by omega) (by omega) q (by omega)
      refine ⟨ts', fl', p', ((hv.and ha).and r1).step fun k hk => ?_, r2, r3, r4, by omega, by omega⟩
      simp only [spec_l92Queue.l0]
      rw [if_pos (by omega)]
      refine bind_of hk.1.1 ?_
      refine bind_of (by unfold spec_l11At.f; exact hk.1.2) ?_
      rw [if_neg ca]
      exact hk.2
theorem drawqueue_ev {l : List Int} (hl : Bytes l) : ∃ ts fl p, Evt (fun k => spec_l92Queue.f k l 0 = some (ts, fl, p)) ∧ ts.length ≤ 7 ∧ -1 ≤ fl ∧ fl ≤ 1000030 ∧ 0 ≤ p ∧ p ≤ 100 := by
  obtain ⟨v, hv, v0, v1, _⟩ := pick_ev hl (p := 0) 6 (by omega) (by omega)
  have v2 := v1 (by omega)
  obtain ⟨ts, fl, p, r1, r2, r3, r4, r5, r6⟩ := drawq_l0 hl v.toNat (0 + 1) [] 0 (by omega) (by omega) (by omega) ⟨by simp, by omega, by omega⟩ (by simp; omega)
  refine ⟨ts, fl, p, (hv.and r1).imp fun k hk => ?_, r2, r3, r4, by omega, by omega⟩
  unfold spec_l92Queue.f
  refine bind_of hk.1 ?_
  have := hk.2
  rw [show ((v.toNat : Nat) : Int) = v from by omega] at this
  exact this

def qRow (ts : List S40) (fl : Int) (i : Nat) : Bool :=
  (decide (0 ≤ (rd_T40 ts (i : Int)).f0) && decide ((rd_T40 ts (i : Int)).f0 ≤ 99)) && ((decide (1 ≤ (rd_T40 ts (i : Int)).f1) && decide ((rd_T40 ts (i : Int)).f1 ≤ 6)) && ((decide (0 ≤ (rd_T40 ts (i : Int)).f2) && decide ((rd_T40 ts (i : Int)).f2 ≤ 1000000)) &&
    (!(decide (0 < i) && decide ((rd_T40 ts ((i : Int) - 1)).f0 ≥ (rd_T40 ts (i : Int)).f0)) && !((rd_T40 ts (i : Int)).f3 && decide ((rd_T40 ts (i : Int)).f2 < fl)))))
def qRows (ts : List S40) (fl : Int) : Nat → Nat → Bool
  | 0, _ => true
  | d + 1, i => qRow ts fl i && qRows ts fl d (i + 1)
def queueOk (ts : List S40) (fl : Int) : Bool := qRows ts fl ts.length 0 && (decide ((ts.length : Int) ≤ 6) && (decide (0 ≤ fl) && decide (fl ≤ 1000000)))
theorem impl_queueok_loop (ts : List S40) (fl : Int) (hl : ts.length ≤ 1048576) : ∀ (d i : Nat), i + d = ts.length →
    Evt (fun k => impl_QueueOk.l0 k ts (ts.length : Int) (i : Int) ts fl = some (qRows ts fl d i && (decide ((ts.length : Int) ≤ 6) && (decide (0 ≤ fl) && decide (fl ≤ 1000000))))) := by
  intro d
  induction d with
  | zero =>
    intro i hi
    refine Evt.of1 fun k => ?_
    simp only [impl_QueueOk.l0]
    rw [if_neg (by omega)]
    by_cases c : (ts.length : Int) ≤ 6
    · rw [if_pos c, in_eq]
      simp only [qRows, decide_eq_true c, Bool.true_and, Option.bind_some]
    · rw [if_neg c]
      simp only [qRows, decide_eq_false c, Bool.false_and, Bool.and_false]
  | succ d ih =>
    intro i hi
    refine (ih (i + 1) (by omega)).step fun k hk => ?_
    simp only [impl_QueueOk.l0]
    rw [if_pos (by omega), if_pos (by omega), if_pos (by omega), nat_succ_wrap (by omega), nat_pred_wrap (by omega)]
    refine bind_of (in_eq _ _ _) ?_
    by_cases h1 : (decide (0 ≤ (rd_T40 ts (i : Int)).f0) && decide ((rd_T40 ts (i : Int)).f0 ≤ 99)) = true
    · rw [if_pos h1]
      refine bind_of (in_eq _ _ _) ?_
      by_cases h2 : (decide (1 ≤ (rd_T40 ts (i : Int)).f1) && decide ((rd_T40 ts (i : Int)).f1 ≤ 6)) = true
      · rw [if_pos h2]
        refine bind_of (in_eq _ _ _) ?_
        by_cases h3 : (decide (0 ≤ (rd_T40 ts (i : Int)).f2) && decide ((rd_T40 ts (i : Int)).f2 ≤ 1000000)) = true
        · rw [if_pos h3]
          have e : qRow ts fl i = (!(decide (0 < i) && decide ((rd_T40 ts ((i : Int) - 1)).f0 ≥ (rd_T40 ts (i : Int)).f0)) && !((rd_T40 ts (i : Int)).f3 && decide ((rd_T40 ts (i : Int)).f2 < fl))) := by
            simp only [qRow, h1, h2, h3, Bool.true_and]
          rw [qRows, e]
          by_cases h4 : (rd_T40 ts (i : Int)).f3 = true
          · rw [if_pos h4]
            by_cases h5 : (rd_T40 ts (i : Int)).f2 < fl
            · rw [if_pos h5]
              simp only [h4, decide_eq_true h5, Bool.and_self, Bool.not_true, Bool.and_false, Bool.false_and]
            · rw [if_neg h5]
              simp only [decide_eq_false h5, Bool.and_false, Bool.not_false, Bool.and_true]
              by_cases h6 : (i : Int) > 0
              · rw [if_pos h6, if_pos (by omega), if_pos (by omega)]
                by_cases h7 : (rd_T40 ts ((i : Int) - 1)).f0 ≥ (rd_T40 ts (i : Int)).f0
                · rw [if_pos h7]
                  simp only [decide_eq_true h7, decide_eq_true (show 0 < i from by omega), Bool.and_self, Bool.not_true, Bool.false_and]
                · rw [if_neg h7, hk]
                  simp only [decide_eq_false h7, Bool.and_false, Bool.not_false, Bool.true_and]
              · rw [if_neg h6, hk]
                simp only [decide_eq_false (show ¬ 0 < i from by omega), Bool.false_and, Bool.not_false, Bool.true_and]
          · rw [if_neg h4]
            simp only [eq_false_of_ne_true h4, Bool.false_and, Bool.not_false, Bool.and_true]
            by_cases h6 : (i : Int) > 0
            · rw [if_pos h6, if_pos (by omega), if_pos (by omega)]
              by_cases h7 : (rd_T40 ts ((i : Int) - 1)).f0 ≥ (rd_T40 ts (i : Int)).f0
              · rw [if_pos h7]
                simp only [decide_eq_true h7, decide_eq_true (show 0 < i from by omega), Bool.and_self, Bool.not_true, Bool.false_and]
              · rw [if_neg h7, hk]
                simp only [decide_eq_false h7, Bool.and_false, Bool.not_false, Bool.true_and]
            · rw [if_neg h6, hk]
              simp only [decide_eq_false (show ¬ 0 < i from by omega), Bool.false_and, Bool.not_false, Bool.true_and]
        · rw [if_neg h3]
          simp only [qRows, qRow, eq_false_of_ne_true h3, Bool.false_and, Bool.and_false]
      · rw [if_neg h2]
        simp only [qRows, qRow, eq_false_of_ne_true h2, Bool.false_and, Bool.and_false]
    · rw [if_neg h1]
      simp only [qRows, qRow, eq_false_of_ne_true h1, Bool.false_and]
theorem impl_queueok_ev (ts : List S40) (fl : Int) (hl : ts.length ≤ 1048576) : Evt (fun k => impl_QueueOk.f k ts fl = some (queueOk ts fl)) :=
  impl_queueok_loop ts fl hl ts.length 0 (by omega)
theorem spec_queueok_loop (ts : List S40) (fl : Int) (hl : ts.length ≤ 1048576) : ∀ (d i : Nat), i + d = ts.length →
    Evt (fun k => spec_QueueOk.l0 k (i : Int) ts fl = some (qRows ts fl d i && (decide ((ts.length : Int) ≤ 6) && (decide (0 ≤ fl) && decide (fl ≤ 1000000))))) := by
  intro d
  induction d with
  | zero =>
    intro i hi
    refine Evt.of1 fun k => ?_
    simp only [spec_QueueOk.l0]
    rw [if_neg (by omega)]
    by_cases c : (ts.length : Int) ≤ 6
    · rw [if_pos c, l6in_eq]
      simp only [qRows, decide_eq_true c, Bool.true_and, Option.bind_some]
    · rw [if_neg c]
      simp only [qRows, decide_eq_false c, Bool.false_and, Bool.and_false]
  | succ d ih =>
    intro i hi
    refine (ih (i + 1) (by omega)).step fun k hk => ?_
    simp only [spec_QueueOk.l0]
    rw [if_pos (by omega), if_pos (by omega), nat_succ_wrap (by omega), nat_pred_wrap (by omega)]
    refine bind_of (l6in_eq _ _ _) ?_
    by_cases h1 : (decide (0 ≤ (rd_T40 ts (i : Int)).f0) && decide ((rd_T40 ts (i : Int)).f0 ≤ 99)) = true
    · rw [if_pos h1]
      refine bind_of (l6in_eq _ _ _) ?_
      by_cases h2 : (decide (1 ≤ (rd_T40 ts (i : Int)).f1) && decide ((rd_T40 ts (i : Int)).f1 ≤ 6)) = true
      · rw [if_pos h2]
        refine bind_of (l6in_eq _ _ _) ?_
        by_cases h3 : (decide (0 ≤ (rd_T40 ts (i : Int)).f2) && decide ((rd_T40 ts (i : Int)).f2 ≤ 1000000)) = true
        · rw [if_pos h3]
          have e : qRow ts fl i = (!(decide (0 < i) && decide ((rd_T40 ts ((i : Int) - 1)).f0 ≥ (rd_T40 ts (i : Int)).f0)) && !((rd_T40 ts (i : Int)).f3 && decide ((rd_T40 ts (i : Int)).f2 < fl))) := by
            simp only [qRow, h1, h2, h3, Bool.true_and]
          rw [qRows, e]
          have last : (if (rd_T40 ts (i : Int)).f3 = true then (if (rd_T40 ts (i : Int)).f2 < fl then (some false) else (spec_QueueOk.l0 k ((i + 1 : Nat) : Int) ts fl)) else (spec_QueueOk.l0 k ((i + 1 : Nat) : Int) ts fl)) = some (!((rd_T40 ts (i : Int)).f3 && decide ((rd_T40 ts (i : Int)).f2 < fl)) && (qRows ts fl d (i + 1) && (decide ((ts.length : Int) ≤ 6) && (decide (0 ≤ fl) && decide (fl ≤ 1000000))))) := by
            by_cases h4 : (rd_T40 ts (i : Int)).f3 = true
            · rw [if_pos h4]
              by_cases h5 : (rd_T40 ts (i : Int)).f2 < fl
              · rw [if_pos h5]
                simp only [h4, decide_eq_true h5, Bool.and_self, Bool.not_true, Bool.false_and]
              · rw [if_neg h5, hk]
                simp only [decide_eq_false h5, Bool.and_false, Bool.not_false, Bool.true_and]
            · rw [if_neg h4, hk]
              simp only [eq_false_of_ne_true h4, Bool.false_and, Bool.not_false, Bool.true_and]
          by_cases h6 : (i : Int) > 0
          · rw [if_pos h6, if_pos (by omega), if_pos (by omega)]
            by_cases h7 : (rd_T40 ts ((i : Int) - 1)).f0 ≥ (rd_T40 ts (i : Int)).f0
            · rw [if_pos h7]
              simp only [decide_eq_true h7, decide_eq_true (show 0 < i from by omega), Bool.and_self, Bool.not_true, Bool.false_and]
            · rw [if_neg h7, last]
              simp only [decide_eq_false h7, Bool.and_false, Bool.not_false, Bool.true_and, Bool.and_assoc]
          · rw [if_neg h6, last]
            simp only [decide_eq_false (show ¬ 0 < i from by omega), Bool.false_and, Bool.not_false, Bool.true_and, Bool.and_assoc]
        · rw [if_neg h3]
          simp only [qRows, qRow, eq_false_of_ne_true h3, Bool.false_and, Bool.and_false]
      · rw [if_neg h2]
        simp only [qRows, qRow, eq_false_of_ne_true h2, Bool.false_and, Bool.and_false]
    · rw [if_neg h1]
      simp only [qRows, qRow, eq_false_of_ne_true h1, Bool.false_and]
theorem spec_queueok_ev (ts : List S40) (fl : Int) (hl : ts.length ≤ 1048576) : Evt (fun k => spec_QueueOk.f k ts fl = some (queueOk ts fl)) :=
  spec_queueok_loop ts fl hl ts.length 0 (by omega)
theorem qRows_get (ts : List S40) (fl : Int) : ∀ (d i : Nat), qRows ts fl d i = true → ∀ j, i ≤ j → j < i + d → qRow ts fl j = true
  | 0, _, _, _, _, _ => by omega
  | d + 1, i, k, j, h1, h2 => by
    simp only [qRows, Bool.and_eq_true] at k
    by_cases e : j = i
    · rw [e]; exact k.1
    · exact qRows_get ts fl d (i + 1) k.2 j (by omega) (by omega)
theorem queueOk_len {ts : List S40} {fl : Int} (h : queueOk ts fl = true) : ts.length ≤ 6 := by
  simp only [queueOk, Bool.and_eq_true, decide_eq_true_eq] at h
  omega
theorem queueOk_QB {ts : List S40} {fl : Int} (h : queueOk ts fl = true) : QB ts fl := by
  simp only [queueOk, Bool.and_eq_true, decide_eq_true_eq] at h
  refine ⟨fun t ht => ?_, h.2.2⟩
  obtain ⟨j, hj, rfl⟩ := mem_rdT ht
  have := qRows_get ts fl ts.length 0 h.1 j (by omega) (by omega)
  simp only [qRow, Bool.and_eq_true, decide_eq_true_eq] at this
  omega

theorem qdq_loop (ts : List S40) (fl : Int) (hl : ts.length ≤ 1048576) : ∀ (d i : Nat), i + d = ts.length → Evt (fun k => laws_qdQueue.l0 k (i : Int) ts fl ts fl = some true) := by
  intro d
  induction d with
  | zero =>
    intro i hi
    refine Evt.of1 fun k => ?_
    simp only [laws_qdQueue.l0]
    rw [if_neg (by omega)]
  | succ d ih =>
    intro i hi
    refine (ih (i + 1) (by omega)).step fun k hk => ?_
    simp only [laws_qdQueue.l0]
    rw [if_pos (by omega), if_pos (by omega), if_pos (by omega), if_neg (by simp), nat_succ_wrap (by omega)]
    exact hk
theorem qdq_ev (ts : List S40) (fl : Int) (hl : ts.length ≤ 1048576) : Evt (fun k => laws_qdQueue.f k ts fl ts fl = some true) := by
  refine (qdq_loop ts fl hl ts.length 0 (by omega)).step fun k hk => ?_
  unfold laws_qdQueue.f
  rw [if_pos rfl]
  simp only [bne_self_eq_false, laws_qdQueue.j0]
  rw [if_neg (by decide)]
  exact hk
theorem impl_qclone_eq (ts : List S40) (fl : Int) (hl : ts.length ≤ 1048576) : impl_Queue_clone.f ts fl = some (ts, fl) := by
  unfold impl_Queue_clone.f
  refine bind_of (a := ts) ?_ rfl
  show ((some ([] : List S40)).bind fun y => (if y.length + ts.length < 4398046511104 then (some (y ++ ts)) else (none))) = some ts
  refine bind_of rfl ?_
  rw [if_pos (by simp; omega)]
  rfl

def QRow (ts : List S40) (fl : Int) (j : Nat) : Prop :=
  0 ≤ (rd_T40 ts (j : Int)).f0 ∧ (rd_T40 ts (j : Int)).f0 ≤ 99 ∧ 1 ≤ (rd_T40 ts (j : Int)).f1 ∧ (rd_T40 ts (j : Int)).f1 ≤ 6 ∧ 0 ≤ (rd_T40 ts (j : Int)).f2 ∧ (rd_T40 ts (j : Int)).f2 ≤ 1000000 ∧
    (0 < j → (rd_T40 ts ((j : Int) - 1)).f0 < (rd_T40 ts (j : Int)).f0) ∧ ((rd_T40 ts (j : Int)).f3 = true → fl ≤ (rd_T40 ts (j : Int)).f2)
theorem qRow_iff (ts : List S40) (fl : Int) (j : Nat) : qRow ts fl j = true ↔ QRow ts fl j := by
  unfold qRow QRow
  cases h : (rd_T40 ts (j : Int)).f3 <;> simp [h] <;> omega
theorem qRows_iff (ts : List S40) (fl : Int) : ∀ (d i : Nat), qRows ts fl d i = true ↔ ∀ j, i ≤ j → j < i + d → QRow ts fl j
  | 0, i => by simp only [qRows, true_iff]; intro j h1 h2; omega
  | d + 1, i => by
    rw [qRows, Bool.and_eq_true, qRow_iff, qRows_iff ts fl d (i + 1)]
    constructor
    · intro ⟨h1, h2⟩ j h3 h4
      by_cases e : j = i
      · rw [e]; exact h1
      · exact h2 j (by omega) (by omega)
    · intro h
      exact ⟨h i (by omega) (by omega), fun j h1 h2 => h j (by omega) (by omega)⟩
theorem queueOk_iff (ts : List S40) (fl : Int) : queueOk ts fl = true ↔ (∀ j : Nat, j < ts.length → QRow ts fl j) ∧ ts.length ≤ 6 ∧ 0 ≤ fl ∧ fl ≤ 1000000 := by
  simp only [queueOk, Bool.and_eq_true, decide_eq_true_eq, qRows_iff]
  constructor
  · intro ⟨h1, h2, h3⟩
    exact ⟨fun j hj => h1 j (by omega) (by omega), by omega, h3⟩
  · intro ⟨h1, h2, h3⟩
    exact ⟨fun j _ hj => h1 j (by omega), by omega, h3⟩
theorem ids_lt {ts : List S40} {fl : Int} (h : queueOk ts fl = true) : ∀ (d i : Nat), i + d + 1 < ts.length → (rd_T40 ts (i : Int)).f0 < (rd_T40 ts ((i + d + 1 : Nat) : Int)).f0 := by
  have h1 := ((queueOk_iff ts fl).mp h).1
  intro d
  induction d with
  | zero =>
    intro i hi
    have := (h1 (i + 1) (by omega)).2.2.2.2.2.2.1 (by omega)
    rw [show ((i + 1 : Nat) : Int) - 1 = (i : Int) from by omega] at this
    exact this
  | succ d ih =>
    intro i hi
    have h2 := ih i (by omega)
    have := (h1 (i + (d + 1) + 1) (by omega)).2.2.2.2.2.2.1 (by omega)
    rw [show ((i + (d + 1) + 1 : Nat) : Int) - 1 = ((i + d + 1 : Nat) : Int) from by omega] at this
    exact Int.lt_trans h2 this
theorem ids_inj {ts : List S40} {fl : Int} (h : queueOk ts fl = true) {i j : Int} (hi : 0 ≤ i) (hi' : i < ts.length) (hj : 0 ≤ j) (hj' : j < ts.length) (e : (rd_T40 ts i).f0 = (rd_T40 ts j).f0) : i = j := by
  have lt : ∀ a b : Nat, a < b → b < ts.length → (rd_T40 ts (a : Int)).f0 < (rd_T40 ts (b : Int)).f0 := fun a b hab hb => by
    have := ids_lt h (b - a - 1) a (by omega)
    rwa [show a + (b - a - 1) + 1 = b from by omega] at this
  rcases Nat.lt_trichotomy i.toNat j.toNat with c | c | c
  · have := lt _ _ c (by omega)
    rw [show ((i.toNat : Nat) : Int) = i from by omega, show ((j.toNat : Nat) : Int) = j from by omega] at this
    omega
  · omega
  · have := lt _ _ c (by omega)
    rw [show ((i.toNat : Nat) : Int) = i from by omega, show ((j.toNat : Nat) : Int) = j from by omega] at this
    omega
theorem tickTs_get {ts : List S40} {k j : Int} (h0 : 0 ≤ k) (h1 : k < ts.length) (hj : 0 ≤ j) :
    rd_T40 (tickTs ts k) j = if j = k then ⟨(rd_T40 ts k).f0, (rd_T40 ts k).f1, tickC ts k, (rd_T40 ts k).f3⟩ else rd_T40 ts j := rdT_set ts k j _ h0 h1 hj
theorem tickTs_f {ts : List S40} {k j : Int} (h0 : 0 ≤ k) (h1 : k < ts.length) (hj : 0 ≤ j) :
    (rd_T40 (tickTs ts k) j).f0 = (rd_T40 ts j).f0 ∧ (rd_T40 (tickTs ts k) j).f1 = (rd_T40 ts j).f1 ∧ (rd_T40 (tickTs ts k) j).f3 = (rd_T40 ts j).f3 ∧ (rd_T40 (tickTs ts k) j).f2 = if j = k then tickC ts k else (rd_T40 ts j).f2 := by
  rw [tickTs_get h0 h1 hj]
  by_cases e : j = k
  · subst e; simp
  · simp [e]
/-- A tick is had. -/
def Tk (ts : List S40) (fl : Int) : Prop := queueOk ts fl = true ∧ 0 ≤ next ts ∧ tickC ts (next ts) ≤ 1000000
def tickFl (ts : List S40) (fl : Int) : Int := mx fl (rd_T40 (tickTs ts (next ts)) (next (tickTs ts (next ts)))).f2
theorem tick_ok {ts : List S40} {fl : Int} (t : Tk ts fl) : queueOk (tickTs ts (next ts)) (tickFl ts fl) = true ∧ fl ≤ tickFl ts fl := by
  obtain ⟨hq, hn, hc⟩ := t
  have hlt := next_lt ts
  have q := queueOk_QB hq
  have q2 := tickTs_QB q hn hlt hc
  have n2 := tick_next hn
  have n3 := next_lt (tickTs ts (next ts))
  have g2 := q2.get n2 n3
  have hfl := mx_range (lo := 0) (hi := 1000000) q.2.1 q.2.2 g2.2.2.1 g2.2.2.2
  have hge : fl ≤ tickFl ts fl := by unfold tickFl mx; split <;> omega
  obtain ⟨h1, h2, h3⟩ := (queueOk_iff ts fl).mp hq
  refine ⟨(queueOk_iff _ _).mpr ⟨fun j hj => ?_, by rw [tickTs_len]; exact h2, hfl⟩, hge⟩
  rw [tickTs_len] at hj
  have r := h1 j hj
  have f := tickTs_f hn hlt (j := (j : Int)) (by omega)
  have g := q2.get (i := (j : Int)) (by omega) (by rw [tickTs_len]; omega)
  refine ⟨by rw [f.1]; exact r.1, by rw [f.1]; exact r.2.1, g.1, g.2.1, g.2.2.1, g.2.2.2, fun hp => ?_, fun hr => ?_⟩
  · have f' := tickTs_f hn hlt (j := (j : Int) - 1) (by omega)
    rw [f.1, f'.1]
    exact r.2.2.2.2.2.2.1 hp
  · have hl := next_least n2 (j := (j : Int)) (by omega) (by rw [tickTs_len]; omega) hr
    have hr2 : (rd_T40 ts (j : Int)).f3 = true := by rw [← f.2.2.1]; exact hr
    have ho := r.2.2.2.2.2.2.2 hr2
    have hc2 := (tickC_range q hn hlt).2.2
    have : fl ≤ (rd_T40 (tickTs ts (next ts)) (j : Int)).f2 := by
      rw [f.2.2.2]
      split
      · rename_i e
        rw [e] at ho
        omega
      · exact ho
    unfold tickFl mx
    split <;> omega
instance (ts : List S40) (fl : Int) : Decidable (Tk ts fl) := by unfold Tk; infer_instance
def queueTick (ts : List S40) (fl : Int) : List S40 × Int × Int × Bool :=
  if Tk ts fl then (tickTs ts (next ts), tickFl ts fl, (rd_T40 ts (next ts)).f0, true) else ([], 0, -1, false)

theorem impl_next_loop (ts : List S40) (fl : Int) (hl : ts.length ≤ 1048576) : ∀ (d i : Nat) (b : Int), i + d = ts.length → -1 ≤ b → b < i →
    Evt (fun k => impl_Queue_next.l0 k b ts (ts.length : Int) (i : Int) ts fl = some (nextF ts d i b)) := by
  intro d
  induction d with
  | zero =>
    intro i b hi h0 h1
    refine Evt.of1 fun k => ?_
    simp only [impl_Queue_next.l0]
    rw [if_neg (by omega)]
    rfl
  | succ d ih =>
    intro i b hi h0 h1
    refine (ih (i + 1) (if (rd_T40 ts (i : Int)).f3 = true ∧ (b < 0 ∨ (rd_T40 ts (i : Int)).f2 < (rd_T40 ts b).f2) then (i : Int) else b) (by omega) (by split <;> omega) (by split <;> omega)).step fun k hk => ?_
    simp only [impl_Queue_next.l0]
    rw [if_pos (by omega), if_pos (by omega), if_pos (by omega), nat_succ_wrap (by omega), nextF]
    by_cases hr : (rd_T40 ts (i : Int)).f3 = true
    · rw [if_pos hr]
      by_cases hb : b < 0
      · rw [if_pos hb]
        rw [if_pos (And.intro hr (Or.inl hb))] at hk ⊢
        exact hk
      · rw [if_neg hb, if_pos (by omega), if_pos (by omega)]
        by_cases hc : (rd_T40 ts (i : Int)).f2 < (rd_T40 ts b).f2
        · rw [if_pos hc]
          rw [if_pos (And.intro hr (Or.inr hc))] at hk ⊢
          exact hk
        · rw [if_neg hc]
          rw [if_neg (fun h => h.2.elim hb hc)] at hk ⊢
          exact hk
    · rw [if_neg hr]
      rw [if_neg (fun h => hr h.1)] at hk ⊢
      exact hk
theorem impl_next_ev (ts : List S40) (fl : Int) (hl : ts.length ≤ 1048576) : Evt (fun k => impl_Queue_next.f k ts fl = some (next ts)) :=
  impl_next_loop ts fl hl ts.length 0 (-1) (by omega) (by omega) (by omega)

/-- The place of a task, -1 if there is none. -/
def atQ (ts : List S40) (x : Int) : Int := impl_Queue_at.idx ts x ts.length 0
theorem idx_range (ts : List S40) (x : Int) : ∀ (d i : Nat), i + d = ts.length → (impl_Queue_at.idx ts x d i = -1 ∨ ((i : Int) ≤ impl_Queue_at.idx ts x d i ∧ impl_Queue_at.idx ts x d i < ts.length ∧ (rd_T40 ts (impl_Queue_at.idx ts x d i)).f0 = x))
  | 0, _, _ => .inl rfl
  | d + 1, i, h => by
    rw [impl_Queue_at.idx]
    by_cases c : (rd_T40 ts (i : Int)).f0 = x
    · rw [if_pos c]
      exact .inr ⟨by omega, by omega, c⟩
    · rw [if_neg c]
      rcases idx_range ts x d (i + 1) (by omega) with h1 | ⟨h1, h2, h3⟩
      · exact .inl h1
      · exact .inr ⟨by omega, h2, h3⟩
theorem atQ_lt (ts : List S40) (x : Int) : atQ ts x < ts.length ∧ (0 ≤ atQ ts x → (rd_T40 ts (atQ ts x)).f0 = x) := by
  rcases idx_range ts x ts.length 0 (by omega) with h | ⟨_, h2, h3⟩
  · unfold atQ
    rw [h]
    exact ⟨by omega, fun h => by omega⟩
  · exact ⟨h2, fun _ => h3⟩
theorem spec_at_loop (ts : List S40) (fl x : Int) (hl : ts.length ≤ 1048576) : ∀ (d i : Nat), i + d = ts.length → Evt (fun k => spec_l11At.l0 k x (i : Int) ts fl = some (impl_Queue_at.idx ts x d i)) := by
  intro d
  induction d with
  | zero =>
    intro i hi
    refine Evt.of1 fun k => ?_
    simp only [spec_l11At.l0]
    rw [if_neg (by omega)]
    rfl
  | succ d ih =>
    intro i hi
    rw [impl_Queue_at.idx]
    by_cases c : (rd_T40 ts (i : Int)).f0 = x
    · rw [if_pos c]
      refine Evt.of1 fun k => ?_
      simp only [spec_l11At.l0]
      rw [if_pos (by omega), if_pos (by omega), if_pos c]
    · rw [if_neg c]
      refine (ih (i + 1) (by omega)).step fun k hk => ?_
      simp only [spec_l11At.l0]
      rw [if_pos (by omega), if_pos (by omega), if_neg c, nat_succ_wrap (by omega)]
      exact hk
theorem spec_at_ev (ts : List S40) (fl x : Int) (hl : ts.length ≤ 1048576) : Evt (fun k => spec_l11At.f k ts fl x = some (atQ ts x)) := spec_at_loop ts fl x hl ts.length 0 (by omega)

def queueLess (ts : List S40) (fl x : Int) : List S40 × Int × Bool := if queueOk ts fl = true ∧ 0 ≤ atQ ts x then (ts.eraseIdx (atQ ts x).toNat, fl, true) else ([], 0, false)
theorem impl_less_ev (ts : List S40) (fl x : Int) (hl : ts.length ≤ 1048576) : Evt (fun k => impl_QueueLess.f k ts fl x = some (queueLess ts fl x)) := by
  have ha := (atQ_lt ts x).1
  refine (impl_queueok_ev ts fl hl).imp fun k hk => ?_
  unfold impl_QueueLess.f
  refine bind_of (a := atQ ts x) rfl ?_
  refine bind_of hk ?_
  cases hq : queueOk ts fl with
  | false => rw [if_neg (by decide), queueLess, if_neg (by simp [hq])]
  | true =>
    rw [if_pos rfl]
    by_cases c : atQ ts x < 0
    · rw [if_pos c, queueLess, if_neg (fun z => by have := z.2; omega)]
    · have e1 : wrap64 (atQ ts x + 1) = atQ ts x + 1 := wrap_in (by omega) (by omega)
      rw [if_neg c, queueLess, if_pos ⟨hq, by omega⟩]
      refine bind_of (impl_qclone_eq ts fl hl) ?_
      rw [e1, if_pos (by omega), if_pos (show atQ ts x ≤ (ts.length : Int) by omega), if_pos (by omega), if_pos (show atQ ts x + 1 ≤ (ts.length : Int) by omega)]
theorem spec_l11less_eq (ts : List S40) (fl a : Int) (hl : ts.length ≤ 1048576) (h0 : 0 ≤ a) (h1 : a < ts.length) : spec_l11Less.f ts fl a = some (ts.eraseIdx a.toNat, fl) := by
  have e1 : wrap64 (a + 1) = a + 1 := wrap_in (by omega) (by omega)
  unfold spec_l11Less.f
  refine bind_of rfl ?_
  rw [e1, if_pos h0, if_pos (by omega)]
  refine bind_of rfl ?_
  rw [if_pos (by simp; omega)]
  refine bind_of rfl ?_
  rw [if_pos (by omega), if_pos (by omega)]
  refine bind_of rfl ?_
  rw [if_pos (by simp; omega), List.eraseIdx_eq_take_drop_succ, show (a + 1).toNat = a.toNat + 1 by omega]
  simp
theorem spec_less_ev (ts : List S40) (fl x : Int) (hl : ts.length ≤ 1048576) : Evt (fun k => spec_QueueLess.f k ts fl x = some (queueLess ts fl x)) := by
  have ha := (atQ_lt ts x).1
  refine ((spec_at_ev ts fl x hl).and (spec_queueok_ev ts fl hl)).imp fun k hk => ?_
  unfold spec_QueueLess.f
  refine bind_of hk.1 ?_
  refine bind_of hk.2 ?_
  cases hq : queueOk ts fl with
  | false => rw [if_neg (by decide), queueLess, if_neg (by simp [hq])]
  | true =>
    rw [if_pos rfl]
    by_cases c : atQ ts x < 0
    · rw [if_pos c, queueLess, if_neg (fun z => by have := z.2; omega)]
    · rw [if_neg c, queueLess, if_pos ⟨hq, by omega⟩]
      refine bind_of (spec_l11less_eq ts fl _ hl (by omega) ha) ?_
      rfl
theorem queueLess_len (ts : List S40) (fl x : Int) : (queueLess ts fl x).1.length ≤ ts.length := by
  unfold queueLess
  split
  · exact List.length_eraseIdx_le ..
  · simp

theorem rdT_erase (ts : List S40) (a : Nat) (j : Nat) (hj : j + 1 < ts.length ∨ j < a) : rd_T40 (ts.eraseIdx a) (j : Int) = if j < a then rd_T40 ts (j : Int) else rd_T40 ts ((j + 1 : Nat) : Int) := by
  rw [rdT_def, rdT_def, rdT_def, List.getD_eq_getElem?_getD, List.getD_eq_getElem?_getD, List.getD_eq_getElem?_getD, List.getElem?_eraseIdx]
  simp only [Int.toNat_natCast]
  split <;> rfl
theorem ids_up {ts : List S40} {fl : Int} (h : queueOk ts fl = true) (i j : Nat) (hij : i < j) (hj : j < ts.length) : (rd_T40 ts (i : Int)).f0 < (rd_T40 ts (j : Int)).f0 := by
  have := ids_lt h (j - i - 1) i (by omega)
  rwa [show i + (j - i - 1) + 1 = j by omega] at this
theorem less_ok {ts : List S40} {fl : Int} (hq : queueOk ts fl = true) (a : Nat) (h1 : a < ts.length) : queueOk (ts.eraseIdx a) fl = true := by
  obtain ⟨g1, g2, g3⟩ := (queueOk_iff ts fl).mp hq
  have hl : (ts.eraseIdx a).length = ts.length - 1 := List.length_eraseIdx_of_lt h1
  refine (queueOk_iff _ _).mpr ⟨fun j hj => ?_, by rw [hl]; omega, g3⟩
  rw [hl] at hj
  have hd : ∀ i : Nat, i < ts.length - 1 → ∃ i' : Nat, (i' = i ∨ i' = i + 1) ∧ (i < a → i' = i) ∧ (a ≤ i → i' = i + 1) ∧ rd_T40 (ts.eraseIdx a) (i : Int) = rd_T40 ts (i' : Int) := by
    intro i hi
    have e := rdT_erase ts a i (.inl (by omega))
    by_cases c : i < a
    · exact ⟨i, .inl rfl, fun _ => rfl, fun _ => by omega, by rw [e, if_pos c]⟩
    · exact ⟨i + 1, .inr rfl, fun _ => by omega, fun _ => rfl, by rw [e, if_neg c]⟩
  obtain ⟨j', hj1, hj2, hj3, e⟩ := hd j hj
  have r := g1 j' (by omega)
  unfold QRow
  rw [e]
  refine ⟨r.1, r.2.1, r.2.2.1, r.2.2.2.1, r.2.2.2.2.1, r.2.2.2.2.2.1, fun hp => ?_, r.2.2.2.2.2.2.2⟩
  obtain ⟨i', hi1, hi2, hi3, e'⟩ := hd (j - 1) (by omega)
  rw [show ((j : Int) - 1) = ((j - 1 : Nat) : Int) by omega, e']
  exact ids_up hq i' j' (by
    by_cases c : j - 1 < a
    · have := hi2 c
      omega
    · have := hi3 (by omega)
      have := hj3 (by omega)
      omega) (by omega)
theorem impl_qnext_any (ts : List S40) (fl : Int) (hl : ts.length ≤ 1048576) (hq : queueOk ts fl = true) : Evt (fun k => impl_QueueNext.f k ts fl = some (if next ts ≥ 0 then (rd_T40 ts (next ts)).f0 else -1)) := by
  have hlt := next_lt ts
  refine ((impl_next_ev ts fl hl).and (impl_queueok_ev ts fl hl)).imp fun k hk => ?_
  unfold impl_QueueNext.f
  refine bind_of hk.1 ?_
  refine bind_of hk.2 ?_
  rw [hq, if_pos rfl]
  by_cases c : next ts ≥ 0
  · rw [if_pos c, if_pos c, if_pos c, if_pos hlt]
  · rw [if_neg c, if_neg c]
theorem FnQueueLess : laws_FnQueueLess.Pure := by
  intro l h0 _ hb
  have hb := bytes_of hb
  by_cases c : (l.length : Int) > 1048576
  · refine ⟨0, ?_⟩
    unfold laws_FnQueueLess.f
    rw [if_pos c]
  obtain ⟨s, hs, sb⟩ := open_ev hb
  obtain ⟨ts, fl, p, hd, hl, _, _, hp0, hp1⟩ := drawqueue_ev sb
  obtain ⟨x, hx, x0, _, _⟩ := pick_ev sb 8 hp0 (by omega)
  have h1 := impl_less_ev ts fl x (by omega)
  have h2 := spec_less_ev ts fl x (by omega)
  have hdr : Evt (fun k => spec_DrawQueueLess.f k l = some (ts, fl, x)) := by
    refine (hd.and hx).imp fun k hk => ?_
    unfold spec_DrawQueueLess.f
    refine bind_of hs ?_
    refine bind_of hk.1 ?_
    exact bind_of hk.2 rfl
  by_cases t : queueOk ts fl = true ∧ 0 ≤ atQ ts x
  · rw [queueLess, if_pos t] at h1 h2
    obtain ⟨a1, a2⟩ := atQ_lt ts x
    obtain ⟨a, ha⟩ : ∃ a : Nat, atQ ts x = (a : Int) := ⟨(atQ ts x).toNat, by omega⟩
    rw [ha] at h1 h2 a1 a2
    have t2 := t.2
    rw [ha] at t2
    simp only [Int.toNat_natCast] at h1 h2
    have ok := less_ok t.1 a (by omega)
    have ln : (ts.eraseIdx a).length = ts.length - 1 := List.length_eraseIdx_of_lt (by omega)
    have e := qdq_ev (ts.eraseIdx a) fl (by omega)
    have nx := impl_qnext_any (ts.eraseIdx a) fl (by omega) ok
    have ne : (if next (ts.eraseIdx a) ≥ 0 then (rd_T40 (ts.eraseIdx a) (next (ts.eraseIdx a))).f0 else -1) ≠ x := by
      have n1 := next_lt (ts.eraseIdx a)
      split
      · rename_i g
        obtain ⟨m, hm⟩ : ∃ m : Nat, next (ts.eraseIdx a) = (m : Int) := ⟨(next (ts.eraseIdx a)).toNat, by omega⟩
        rw [hm] at n1 ⊢
        have e1 := rdT_erase ts a m (.inl (by omega))
        intro e2
        rw [← a2 t2] at e2
        by_cases cm : m < a
        · rw [e1, if_pos cm] at e2
          have := ids_up t.1 m a cm (by omega)
          omega
        · rw [e1, if_neg cm] at e2
          have := ids_up t.1 a (m + 1) (by omega) (by omega)
          omega
      · omega
    have j1 : Evt (fun k => laws_FnQueueLess.j1 k x true false ts fl (ts.eraseIdx a) fl = some true) := by
      refine ((impl_queueok_ev (ts.eraseIdx a) fl (by omega)).and nx).step fun k hk => ?_
      have e3 : wrap64 ((ts.length : Int) - 1) = (ts.length : Int) - 1 := wrap_in (by omega) (by omega)
      simp only [laws_FnQueueLess.j1]
      rw [if_neg (by decide)]
      refine bind_of hk.1 ?_
      rw [ok, if_pos rfl, e3, if_pos (by rw [ln]; omega)]
      refine bind_of hk.2 ?_
      simp [ne]
    have j0 : Evt (fun k => laws_FnQueueLess.j0 k x true true ts fl (ts.eraseIdx a) fl = some true) := j1.step fun k hk => by
      simp only [laws_FnQueueLess.j0]
      rw [if_pos trivial]
      exact hk
    refine Evt.some_ (((hdr.and h1).and (h2.and e)).and j0 |>.imp fun k hk => ?_)
    obtain ⟨⟨⟨k1, k2⟩, k3, k4⟩, k5⟩ := hk
    unfold laws_FnQueueLess.f
    rw [if_neg c]
    refine bind_of k1 ?_
    refine bind_of k2 ?_
    refine bind_of k3 ?_
    refine bind_of k4 ?_
    rw [if_pos rfl]
    exact k5
  · rw [queueLess, if_neg t] at h1 h2
    have e := qdq_ev [] 0 (by simp)
    have j1 : Evt (fun k => laws_FnQueueLess.j1 k x true true ts fl [] 0 = some true) := Evt.of1 fun k => by
      simp only [laws_FnQueueLess.j1]
      rw [if_pos trivial]
    have j0 : Evt (fun k => laws_FnQueueLess.j0 k x false true ts fl [] 0 = some true) := j1.step fun k hk => by
      simp only [laws_FnQueueLess.j0]
      rw [if_pos trivial]
      exact hk
    refine Evt.some_ (((hdr.and h1).and (h2.and e)).and j0 |>.imp fun k hk => ?_)
    obtain ⟨⟨⟨k1, k2⟩, k3, k4⟩, k5⟩ := hk
    unfold laws_FnQueueLess.f
    rw [if_neg c]
    refine bind_of k1 ?_
    refine bind_of k2 ?_
    refine bind_of k3 ?_
    refine bind_of k4 ?_
    rw [if_pos rfl]
    exact k5

end Go.Proofs.Ytfhcgmfodfcpeaa.Pure
