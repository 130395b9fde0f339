/- Proved: for every code, the law FnCredGone answers true and leaves its argument as it was (the user 0 is given up for good). No condition beyond the row's own. -/
import Derived.Test.YtmabedbgfcinhaaPFnCredGonex5
import Derived.Test.YtmabedbgfcinhaaAux
namespace Go.Proofs.Ytmabedbgfcinhaa.Pure
open Go.RowKit Go.Proofs.Ytmabedbgfcinhaa.PFnCredGone Go.Proofs.YtmabedbgfcinhaaW.PrintWords Go.Proofs.YtmabedbgfcinhaaW.PrintLast Go.Proofs.YtmabedbgfcinhaaW.PrintMore Go.Proofs.Ytmabedbgfcinhaa.Aux
theorem pick_ev {l : List Int} (hl : Bytes l) {p : Int} (n : Int) (h0 : 0 ≤ p) (h1 : p < 1000000) :
    ∃ v, Evt (fun k => spec_l6Rd_pick.f k l p n = some (v, p + 1)) ∧ 0 ≤ v ∧ (1 ≤ n → v < n) ∧ (n < 1 → v = 0) := by
  have e1 : wrap64 (p + 1) = p + 1 := wrap_in (by omega) (by omega)
  have e2 : wrap64 (p + 1 - 1) = p := by rw [Int.add_sub_cancel]; exact wrap_in (by omega) (by omega)
  by_cases hn : n < 1
  · refine ⟨0, Evt.of1 fun k => ?_, by omega, by omega, fun _ => rfl⟩
    unfold spec_l6Rd_pick.f
    rw [if_pos hn, e1]
    simp only [spec_l6Rd_pick.j0, if_true]
  · by_cases hz : l.length = 0
    · refine ⟨0, Evt.of1 fun k => ?_, by omega, by omega, fun _ => rfl⟩
      unfold spec_l6Rd_pick.f
      have hz' : ((l.length : Int) == 0) = true := by simp [hz]
      rw [if_neg hn, e1, hz']
      simp only [spec_l6Rd_pick.j0, if_true]
    · have hz' : ((l.length : Int) == 0) = false := by simpa using hz
      have hlen : (0 : Int) < (l.length : Int) := by omega
      by_cases hlt : p < (l.length : Int)
      · have hr := rd_byte hl p
        have hr2 : wrap64 (rd l p) = rd l p := wrap_in (by omega) (by omega)
        have ht := tmod_range (a := rd l p) (n := n) (by omega) (by omega)
        refine ⟨Int.tmod (rd l p) n, Evt.of1 fun k => ?_, ht.1, fun _ => ht.2, fun h => by omega⟩
        unfold spec_l6Rd_pick.f
        rw [if_neg hn, e1, hz']
        simp only [spec_l6Rd_pick.j0]
        rw [e2, if_neg (by decide), if_pos hlt, if_pos h0, if_neg (by omega), hr2]
      · have e3 : wrap64 (wrap64 (p * 7) + 3) = p * 7 + 3 := by
          rw [wrap_in (n := p * 7) (by omega) (by omega)]
          exact wrap_in (by omega) (by omega)
        have ta := tmod_range (a := p) (n := (l.length : Int)) h0 hlen
        have tb := tmod_range (a := p * 7 + 3) (n := (l.length : Int)) (by omega) hlen
        have td := tdiv_range (a := p) (n := (l.length : Int)) h0 hlen
        have ra := rd_byte hl (Int.tmod p (l.length : Int))
        have rb := rd_byte hl (Int.tmod (p * 7 + 3) (l.length : Int))
        obtain ⟨x, hx, x0, x1⟩ := mix_range ra.1 ra.2 rb.1 rb.2 h0 (by omega) td.1 td.2
        have xd := tdiv_range (a := x) (n := 64) x0 (by decide)
        have xw : wrap64 (Int.tdiv x 64) = Int.tdiv x 64 := wrap_in (by omega) (by omega)
        have xx := xor_range (a := x) (b := Int.tdiv x 64) x0 x1 xd.1 (by omega)
        have tv := tmod_range (a := Go.bits .xor .i64 x (Int.tdiv x 64)) (n := n) xx.1 (by omega)
        refine ⟨Int.tmod (Go.bits .xor .i64 x (Int.tdiv x 64)) n, Evt.of1 fun k => ?_, tv.1, fun _ => tv.2, fun h => by omega⟩
        unfold spec_l6Rd_pick.f
        rw [if_neg hn, e1, hz']
        simp only [spec_l6Rd_pick.j0]
        rw [e2, e3, if_neg (by decide), if_neg hlt, if_neg (by omega), if_pos ta.1, if_pos ta.2, if_pos tb.1, if_pos tb.2, if_neg (by omega), hx, xw]
theorem open_ev {l : List Int} (hl : Bytes l) : ∃ s, spec_l6Open.f l = some (s, 0) ∧ Bytes s := by
  unfold spec_l6Open.f
  by_cases h : (l.length : Int) > 2000
  · exact ⟨l.take 2000, by rw [if_pos h, if_pos (by omega)], hl.take _⟩
  · exact ⟨l, by rw [if_neg h], hl⟩

theorem in_eq (a b c : Int) : impl_in.f a b c = some (decide (b ≤ a) && decide (a ≤ c)) := by
  unfold impl_in.f
  by_cases h : a ≥ b
  · rw [if_pos h]; simp [show b ≤ a from h]
  · rw [if_neg h]; simp [show ¬ b ≤ a from h]
theorem l6in_eq (a b c : Int) : spec_l6In.f a b c = some (decide (b ≤ a) && decide (a ≤ c)) := by
  unfold spec_l6In.f
  by_cases h : a ≥ b
  · rw [if_pos h]; simp [show b ≤ a from h]
  · rw [if_neg h]; simp [show ¬ b ≤ a from h]
theorem user_eq (a : Int) : spec_l5User.f a = some (decide (0 ≤ a) && decide (a ≤ 9)) := by
  unfold spec_l5User.f
  rw [l6in_eq]; rfl
def us (a : Int) : Bool := decide (0 ≤ a) && decide (a ≤ 9)
theorem us_iff {a : Int} : us a = true ↔ 0 ≤ a ∧ a ≤ 9 := by simp [us]
def cOk (g : List Int) (i : Nat) : Bool := us (rd g i) && (decide (i = 0) || decide (rd g ((i : Int) - 1) < rd g i))
def cAll (g : List Int) : Nat → Nat → Bool
  | 0, _ => true
  | d + 1, i => cOk g i && cAll g d (i + 1)
def credFin (u r : Int) (g : List Int) : Bool := us u && (us r && decide ((g.length : Int) ≤ 3))
def credOk (u r : Int) (g : List Int) : Bool := cAll g g.length 0 && credFin u r g
theorem impl_ok_loop (u r : Int) (g : List Int) (hg : g.length < 1000000000) : ∀ (d i : Nat), i + d = g.length →
    Evt (fun k => impl_CredOk.l0 k g (g.length : Int) (i : Int) u r g = some (cAll g d i && credFin u r g)) := by
  intro d
  induction d with
  | zero =>
    intro i hi
    refine Evt.of1 fun k => ?_
    simp only [impl_CredOk.l0]
    rw [if_neg (by omega), in_eq, in_eq]
    simp only [Option.bind_some, cAll, Bool.true_and, credFin]
    change (if us u = true then (if us r = true then _ else _) else _) = _
    cases us u <;> cases us r <;> simp
  | succ d ih =>
    intro i hi
    refine (ih (i + 1) (by omega)).step fun k hk => ?_
    simp only [impl_CredOk.l0]
    rw [if_pos (by omega), if_pos (by omega), if_pos (by omega), in_eq]
    simp only [Option.bind_some, cAll]
    change (if us (rd g i) = true then _ else _) = _
    unfold cOk
    cases hu : us (rd g i) with
    | false => simp
    | true =>
      simp only [if_true, Bool.true_and]
      by_cases h0 : i = 0
      · subst h0
        rw [if_neg (by omega), nat_succ_wrap (by omega), hk]
        simp
      · rw [if_pos (by omega), nat_pred_wrap (by omega), if_pos (by omega), if_pos (by omega)]
        by_cases hlt : rd g ((i : Int) - 1) < rd g i
        · rw [if_neg (by omega), nat_succ_wrap (by omega), hk]
          simp [hlt]
        · rw [if_pos (by omega)]
          simp [hlt, h0]
theorem impl_ok_ev (u r : Int) (g : List Int) (hg : g.length < 1000000000) : Evt (fun k => impl_CredOk.f k u r g = some (credOk u r g)) :=
  impl_ok_loop u r g hg g.length 0 (by omega)
theorem spec_ok_loop (u r : Int) (g : List Int) (hg : g.length < 1000000000) : ∀ (d i : Nat), i + d = g.length →
    Evt (fun k => spec_CredOk.l0 k (i : Int) u r g = some (cAll g d i && credFin u r g)) := by
  intro d
  induction d with
  | zero =>
    intro i hi
    refine Evt.of1 fun k => ?_
    simp only [spec_CredOk.l0]
    rw [if_neg (by omega), user_eq, user_eq]
    simp only [Option.bind_some, cAll, Bool.true_and, credFin]
    change (if us u = true then (if us r = true then _ else _) else _) = _
    cases us u <;> cases us r <;> simp
  | succ d ih =>
    intro i hi
    refine (ih (i + 1) (by omega)).step fun k hk => ?_
    simp only [spec_CredOk.l0]
    rw [if_pos (by omega), if_pos (by omega), user_eq]
    simp only [Option.bind_some, cAll]
    change (if us (rd g i) = true then _ else _) = _
    unfold cOk
    cases hu : us (rd g i) with
    | false => simp
    | true =>
      simp only [if_true, Bool.true_and]
      by_cases h0 : i = 0
      · subst h0
        rw [if_neg (by omega), nat_succ_wrap (by omega), hk]
        simp
      · rw [if_pos (by omega), nat_pred_wrap (by omega), if_pos (by omega), if_pos (by omega)]
        by_cases hlt : rd g ((i : Int) - 1) < rd g i
        · rw [if_neg (by omega), nat_succ_wrap (by omega), hk]
          simp [hlt]
        · rw [if_pos (by omega)]
          simp [hlt, h0]
theorem spec_ok_ev (u r : Int) (g : List Int) (hg : g.length < 1000000000) : Evt (fun k => spec_CredOk.f k u r g = some (credOk u r g)) :=
  spec_ok_loop u r g hg g.length 0 (by omega)
theorem credOk_user {u r : Int} {g : List Int} (h : credOk u r g = true) : us u = true ∧ us r = true ∧ g.length ≤ 3 := by
  simp [credOk, credFin] at h
  exact ⟨h.2.1, h.2.2.1, by omega⟩

def credBecome (u r : Int) (g : List Int) (x : Int) : Int × Int × List Int × Bool :=
  if (credOk u r g && us x) = true then (if u = 0 then (x, x, g, true) else if x = r then (x, r, g, true) else if x = u then (x, r, g, true) else (0, 0, [], false)) else (0, 0, [], false)
theorem clone_eq (u r : Int) (g : List Int) (hg : g.length < 1000000000) : impl_Cred_clone.f u r g = some (u, r, g) := by
  unfold impl_Cred_clone.f slices_Clone_int_int.f
  simp only [Option.bind_some]
  rw [if_pos (by simp; omega)]
  simp
theorem impl_become_ev (u r : Int) (g : List Int) (x : Int) (hg : g.length < 1000000000) : Evt (fun k => impl_CredBecome.f k u r g x = some (credBecome u r g x)) := by
  refine (impl_ok_ev u r g hg).step fun k hk => ?_
  have hk' := impl_CredOk.mono _ _ _ k _ hk
  unfold impl_CredBecome.f credBecome
  rw [hk', in_eq]
  simp only [Option.bind_some]
  change (if credOk u r g = true then impl_CredBecome.j0 (k + 1) x (!us x) u r g else _) = _
  cases credOk u r g <;> cases us x <;> simp [impl_CredBecome.j0]
  rw [clone_eq u r g hg]
  simp only [Option.bind_some]
  by_cases a : u = 0
  · simp only [if_pos a]
  · by_cases b : x = r
    · simp only [if_neg a, if_pos b]
    · by_cases c : x = u
      · simp only [if_neg a, if_neg b, if_pos c]
      · simp only [if_neg a, if_neg b, if_neg c]

theorem copy_eq (u r : Int) (g : List Int) (hg : g.length < 1000000000) : spec_l5Copy.f u r g = some (u, r, g) := by
  unfold spec_l5Copy.f
  simp only [Option.bind_some]
  rw [if_pos (by simp; omega)]
  simp

theorem spec_become_ev (u r : Int) (g : List Int) (x : Int) (hg : g.length < 1000000000) : Evt (fun k => spec_CredBecome.f k u r g x = some (credBecome u r g x)) := by
  refine (spec_ok_ev u r g hg).step fun k hk => ?_
  have hk' := spec_CredOk.mono _ _ _ k _ hk
  unfold spec_CredBecome.f credBecome
  rw [copy_eq u r g hg]
  simp only [Option.bind_some]
  rw [hk', user_eq]
  simp only [Option.bind_some]
  change (if credOk u r g = true then spec_CredBecome.j0 (k + 1) x (!us x) u r g x r g else _) = _
  cases credOk u r g <;> cases us x <;> simp [spec_CredBecome.j0]
  by_cases a : u = 0
  · simp only [if_pos a]
  · by_cases b : x = r
    · simp only [if_neg a, if_pos b]
    · by_cases c : x = u
      · simp only [if_neg a, if_neg b, if_pos c]
      · simp only [if_neg a, if_neg b, if_neg c]

theorem cred_tail {l : List Int} (hl : Bytes l) {p : Int} (h0 : 0 ≤ p) (h1 : p < 900000) (i u r : Int) (g : List Int) (hg : g.length ≤ 3) :
    ∃ a b c d, Evt (fun k => spec_l91Cred.j1 k i false l p u r g = some (a, b, c, d)) ∧ c.length ≤ 4 ∧ p ≤ d ∧ d ≤ p + 2 := by
  obtain ⟨v, hv, v0, v1, _⟩ := pick_ev hl 30 h0 (by omega)
  obtain ⟨w, hw, w0, w1, _⟩ := pick_ev hl (p := p + 1) 3 (by omega) (by omega)
  have w3 := w1 (by omega)
  by_cases hv0 : v = 0
  · refine ⟨rd [(-1), 10, 9] w, r, g, p + 1 + 1, (Evt.and hv hw).step fun k hk => ?_, by omega, by omega, by omega⟩
    simp only [spec_l91Cred.j1]
    rw [if_neg (by decide), hk.1]
    simp only [Option.bind_some, if_pos hv0]
    rw [hk.2]
    simp only [Option.bind_some]
    rw [if_pos w0, if_pos (by simpa using w3)]
  · by_cases hv1 : v = 1
    · refine ⟨u, r, g ++ [rd [0, 9, 10] w], p + 1 + 1, (Evt.and hv hw).step fun k hk => ?_, by simp; omega, by omega, by omega⟩
      simp only [spec_l91Cred.j1]
      rw [if_neg (by decide), hk.1]
      simp only [Option.bind_some, if_neg hv0, if_pos hv1]
      rw [hk.2]
      simp only [Option.bind_some]
      rw [if_pos w0, if_pos (by simpa using w3), if_pos (by omega)]
    · refine ⟨u, r, g, p + 1, Evt.step hv fun k hk => ?_, by omega, by omega, by omega⟩
      simp only [spec_l91Cred.j1]
      rw [if_neg (by decide), hk]
      simp only [Option.bind_some, if_neg hv0, if_neg hv1]
theorem cred_loop {l : List Int} (hl : Bytes l) (u r : Int) : ∀ (d i : Nat) (p : Int) (g : List Int), i + d = 5 → 0 ≤ p → p + d < 800000 → g.length ≤ 3 →
    ∃ a b c e, Evt (fun k => spec_l91Cred.l0 k (i : Int) l p u r g = some (a, b, c, e)) ∧ c.length ≤ 4 ∧ p ≤ e ∧ e ≤ p + d + 2 := by
  intro d
  induction d with
  | zero =>
    intro i p g hi h0 h1 hg
    obtain ⟨a, b, c, e, h, hc, h2, h3⟩ := cred_tail hl h0 (by omega) (i : Int) u r g hg
    refine ⟨a, b, c, e, h.step fun k hk => ?_, hc, h2, by omega⟩
    simp only [spec_l91Cred.l0]
    rw [if_neg (by omega)]
    exact hk
  | succ d ih =>
    intro i p g hi h0 h1 hg
    by_cases hlt : g.length < 3
    · obtain ⟨v, hv, v0, v1, _⟩ := pick_ev hl 4 h0 (by omega)
      by_cases hv0 : v = 0
      · obtain ⟨a, b, c, e, h, hc, h2, h3⟩ := ih (i + 1) (p + 1) (g ++ [(i : Int)]) (by omega) (by omega) (by omega) (by simp; omega)
        refine ⟨a, b, c, e, ((Evt.and hv h).step (Q := fun k => spec_l91Cred.j1 k (i : Int) true l p u r g = some (a, b, c, e)) fun k hk => ?_).step fun k hk => ?_, hc, by omega, by omega⟩
        · simp only [spec_l91Cred.j1]
          rw [if_pos trivial, hk.1]
          simp only [Option.bind_some, if_pos hv0]
          rw [if_pos (by omega), nat_succ_wrap (by omega)]
          exact hk.2
        · simp only [spec_l91Cred.l0]
          rw [if_pos (by omega), decide_eq_true (by omega)]
          exact hk
      · obtain ⟨a, b, c, e, h, hc, h2, h3⟩ := ih (i + 1) (p + 1) g (by omega) (by omega) (by omega) hg
        refine ⟨a, b, c, e, ((Evt.and hv h).step (Q := fun k => spec_l91Cred.j1 k (i : Int) true l p u r g = some (a, b, c, e)) fun k hk => ?_).step fun k hk => ?_, hc, by omega, by omega⟩
        · simp only [spec_l91Cred.j1]
          rw [if_pos trivial, hk.1]
          simp only [Option.bind_some, if_neg hv0]
          rw [nat_succ_wrap (by omega)]
          exact hk.2
        · simp only [spec_l91Cred.l0]
          rw [if_pos (by omega), decide_eq_true (by omega)]
          exact hk
    · obtain ⟨a, b, c, e, h, hc, h2, h3⟩ := cred_tail hl h0 (by omega) (i : Int) u r g hg
      refine ⟨a, b, c, e, h.step fun k hk => ?_, hc, h2, by omega⟩
      simp only [spec_l91Cred.l0]
      rw [if_pos (by omega), decide_eq_false (by omega)]
      exact hk
theorem drawcred_ev {l : List Int} (hl : Bytes l) {p : Int} (h0 : 0 ≤ p) (h1 : p < 700000) :
    ∃ a b c e, Evt (fun k => spec_l91Cred.f k l p = some (a, b, c, e)) ∧ c.length ≤ 4 ∧ p ≤ e ∧ e ≤ p + 9 := by
  obtain ⟨u, hu, _, _, _⟩ := pick_ev hl 4 h0 (by omega)
  obtain ⟨r, hr, _, _, _⟩ := pick_ev hl (p := p + 1) 4 (by omega) (by omega)
  obtain ⟨a, b, c, e, h, hc, h2, h3⟩ := cred_loop hl u r 5 0 (p + 1 + 1) [] (by omega) (by omega) (by omega) (by simp)
  refine ⟨a, b, c, e, (Evt.and (Evt.and hu hr) h).imp fun k hk => ?_, hc, by omega, by omega⟩
  unfold spec_l91Cred.f
  rw [hk.1.1]
  simp only [Option.bind_some]
  rw [hk.1.2]
  simp only [Option.bind_some]
  exact hk.2

theorem drawbecome_ev {l0 : List Int} (hb : ∀ x ∈ l0, (Lit.int .u8 x).wf = true) :
    ∃ u r g x, Evt (fun k => spec_DrawCredBecome.f k l0 = some (u, r, g, x)) ∧ g.length ≤ 4 := by
  obtain ⟨s, hs, hsb⟩ := open_ev (bytes_of hb)
  obtain ⟨u, r, g, e, hd, hg, he, he'⟩ := drawcred_ev hsb (p := 0) (by omega) (by omega)
  obtain ⟨v, hv, _, _, _⟩ := pick_ev hsb (p := e) 6 (by omega) (by omega)
  obtain ⟨w, hw, _, _, _⟩ := pick_ev hsb (p := e + 1) 9 (by omega) (by omega)
  refine ⟨u, r, g, wrap64 (v - wrap64 (Int.tdiv w 8)), (hd.and (hv.and hw)).imp fun k hk => ?_, hg⟩
  unfold spec_DrawCredBecome.f
  rw [hs]
  simp only [Option.bind_some]
  rw [hk.1]
  simp only [Option.bind_some]
  rw [hk.2.1]
  simp only [Option.bind_some]
  rw [hk.2.2]
  rfl

theorem become_len (u r : Int) (g : List Int) (x : Int) : (credBecome u r g x).2.2.1.length ≤ g.length := by
  unfold credBecome
  split
  · split
    · simp
    · split
      · simp
      · split <;> simp
  · simp
theorem become_cases (u r : Int) (g : List Int) (x : Int) :
    (credBecome u r g x).2.2.2 = false ∨ (credOk u r g = true ∧ us x = true ∧ ((u = 0 ∧ credBecome u r g x = (x, x, g, true)) ∨ (u ≠ 0 ∧ (x = r ∨ x = u) ∧ credBecome u r g x = (x, r, g, true)))) := by
  unfold credBecome
  cases h1 : credOk u r g <;> cases h2 : us x
  · simp
  · simp
  · simp
  · by_cases a : u = 0
    · simp [a]
    · by_cases b : x = r
      · simp [a, b]
      · by_cases c : x = u
        · simp [a, c]
        · simp [a, b, c]
theorem become_false (u r : Int) (g : List Int) (x : Int) (h : (credBecome u r g x).2.2.2 = false) : credBecome u r g x = (0, 0, [], false) := by
  rcases Classical.em (credBecome u r g x = (0, 0, [], false)) with h1 | h1
  · exact h1
  · exfalso
    apply h1
    revert h
    unfold credBecome
    split
    · split
      · simp
      · split
        · simp
        · split
          · simp
          · simp
    · simp
theorem credOk_of {u r a b : Int} {g : List Int} (h : credOk u r g = true) (ha : us a = true) (hb : us b = true) : credOk a b g = true := by
  simp only [credOk, credFin, Bool.and_eq_true] at h ⊢
  exact ⟨h.1, ha, hb, h.2.2.2⟩

theorem qdints_loop (a : List Int) (ha : a.length < 1000000000) : ∀ (d i : Nat), i + d = a.length → Evt (fun k => laws_qdInts.l0 k a a (i : Int) = some true) := by
  intro d
  induction d with
  | zero =>
    intro i hi
    refine Evt.of1 fun k => ?_
    simp only [laws_qdInts.l0]
    rw [if_neg (by omega)]
  | succ d ih =>
    intro i hi
    refine (ih (i + 1) (by omega)).step fun k hk => ?_
    simp only [laws_qdInts.l0]
    rw [if_pos (by omega), if_pos (by omega), if_pos (by omega), if_pos trivial, nat_succ_wrap (by omega)]
    exact hk
theorem qdints_refl (a : List Int) (ha : a.length < 1000000000) : Evt (fun k => laws_qdInts.f k a a = some true) := by
  refine (qdints_loop a ha a.length 0 (by omega)).imp fun k hk => ?_
  unfold laws_qdInts.f
  rw [if_pos rfl]
  exact hk

theorem qdcred_refl (u r : Int) (g : List Int) (hg : g.length < 1000000000) : Evt (fun k => laws_qdCred.f k u r g u r g = some true) := by
  refine (qdints_refl g hg).imp fun k hk => ?_
  unfold laws_qdCred.f
  rw [if_pos rfl, if_pos rfl, hk]
  rfl

theorem become_gone (x : Int) (r : Int) (g : List Int) (hx : x ≠ 0) (hr : r ≠ 0) : (credBecome x r g 0).2.2.2 = false := by
  unfold credBecome
  cases (credOk x r g && us 0)
  · simp
  · rw [if_pos rfl, if_neg hx, if_neg (fun h => hr h.symm), if_neg (fun h => hx h.symm)]
theorem FnCredGone : laws_FnCredGone.Pure := by
  intro l0 _ _ hb
  by_cases hlen : (l0.length : Int) > 1048576
  · exact ⟨0, by unfold laws_FnCredGone.f; rw [if_pos hlen]⟩
  obtain ⟨u, r, g, x, hd, hg⟩ := drawbecome_ev hb
  have h1 := impl_become_ev u r g x (by omega)
  have h2 := spec_become_ev u r g x (by omega)
  have hl := become_len u r g x
  generalize hb' : credBecome u r g x = b at h1 h2 hl
  obtain ⟨bu, br, bg, bo⟩ := b
  have hl' : bg.length ≤ g.length := hl
  have h3 := qdcred_refl bu br bg (by omega)
  have ht : Evt (fun k => laws_FnCredGone.j0 k x bo bo true bu br bg bu br bg = some true) := by
    refine h3.step fun k hk => ?_
    simp only [laws_FnCredGone.j0]
    rw [if_pos trivial, if_pos (by simp), hk]
    rfl
  have hj0 : Evt (fun k => (if bo = true then (if u = 0 then laws_FnCredGone.j0 k x bo bo (x == 0) bu br bg bu br bg else laws_FnCredGone.j0 k x bo bo true bu br bg bu br bg) else laws_FnCredGone.j0 k x bo bo true bu br bg bu br bg) = some true) := by
    rcases become_cases u r g x with hf | ⟨c1, c2, c3⟩
    · rw [hb'] at hf
      have hbo : bo = false := hf
      subst hbo
      exact ht
    · rcases c3 with ⟨c5, c6⟩ | ⟨c5, c6, c7⟩
      · rw [hb'] at c6
        simp only [Prod.mk.injEq] at c6
        obtain ⟨rfl, rfl, rfl, rfl⟩ := c6
        by_cases hx : br = 0
        · subst hx
          refine ht.imp fun k hk => ?_
          rw [if_pos rfl, if_pos c5]
          exact hk
        · have hx' : (br == 0) = false := by simpa using hx
          rw [hx']
          have e0 : credOk br br bg = true := credOk_of c1 c2 c2
          have e1 : credBecome br br bg br = (br, br, bg, true) := by
            unfold credBecome
            rw [e0, c2]
            simp [hx]
          have i1 := impl_become_ev br br bg br (by omega)
          rw [e1] at i1
          have i2 := impl_become_ev br br bg 0 (by omega)
          have e2 := become_gone br br bg hx hx
          generalize credBecome br br bg 0 = z at i2 e2
          obtain ⟨z1, z2, z3, z4⟩ := z
          have e2' : z4 = false := e2
          subst e2'
          refine ((i1.and i2).and h3).step fun k hk => ?_
          rw [if_pos rfl, if_pos c5]
          simp only [laws_FnCredGone.j0]
          rw [if_neg (by decide), hk.1.1, hk.1.2]
          simp only [Option.bind_some]
          rw [hk.1.2]
          simp only [Option.bind_some, if_true]
          rw [hk.2]
          simp
      · rw [hb'] at c7
        simp only [Prod.mk.injEq] at c7
        obtain ⟨rfl, rfl, rfl, rfl⟩ := c7
        refine ht.imp fun k hk => ?_
        rw [if_pos rfl, if_neg c5]
        exact hk
  refine Evt.some_ (((hd.and h1).and ((h2.and h3).and hj0)).imp fun k hk => ?_)
  obtain ⟨⟨k1, k2⟩, ⟨k3, k4⟩, k5⟩ := hk
  unfold laws_FnCredGone.f
  rw [if_neg hlen, k1]
  simp only [Option.bind_some]
  rw [k2, k3]
  simp only [Option.bind_some]
  rw [if_neg (by simp), k4]
  simp only [Option.bind_some, if_true]
  exact k5

end Go.Proofs.Ytmabedbgfcinhaa.Pure
