/- Proved: for every code, the law FnPagesSet answers true and leaves its argument as it was (a byte that is set is there, and no other one is another one). No condition beyond the row's own. -/
import Derived.Test.YtpdfkbggaihfpaaPFnPagesSetx17
import Derived.Test.YtpdfkbggaihfpaaAuxFnPagesSet
namespace Go.Proofs.Ytpdfkbggaihfpaa.Pure
open Go.RowKit Go.Proofs.Ytpdfkbggaihfpaa.PFnPagesSet Go.Proofs.YtpdfkbggaihfpaaW.PrintWords Go.Proofs.YtpdfkbggaihfpaaW.PrintLast Go.Proofs.YtpdfkbggaihfpaaW.PrintMore Go.Proofs.Ytpdfkbggaihfpaa.Aux
set_option linter.unusedVariables false
set_option linter.unusedSimpArgs false
theorem pick_ev {l : List Int} (hl : Bytes l) {p : Int} (n : Int) (h0 : 0 ≤ p) (h1 : p < 1000000) :
    ∃ v, Evt (fun k => spec_l6Rd_pick.f k l p n = some (v, p + 1)) ∧ 0 ≤ v ∧ (1 ≤ n → v < n) ∧ (n < 1 → v = 0) := by
  have e1 : wrap64 (p + 1) = p + 1 := wrap_in (by omega) (by omega)
  have e2 : wrap64 (p + 1 - 1) = p := by rw [Int.add_sub_cancel]; exact wrap_in (by omega) (by omega)
  by_cases hn : n < 1
  · refine ⟨0, Evt.of1 fun k => ?_, by omega, by omega, fun _ => rfl⟩
    unfold spec_l6Rd_pick.f
    rw [if_pos hn, e1]
    simp only [spec_l6Rd_pick.j0, if_true]
  · by_cases hz : l.length = 0
    · refine ⟨0, Evt.of1 fun k => ?_, by omega, by omega, fun _ => rfl⟩
      unfold spec_l6Rd_pick.f
      have hz' : ((l.length : Int) == 0) = true := by simp [hz]
      rw [if_neg hn, e1, hz']
      simp only [spec_l6Rd_pick.j0, if_true]
    · have hz' : ((l.length : Int) == 0) = false := by simpa using hz
      have hlen : (0 : Int) < (l.length : Int) := by omega
      by_cases hlt : p < (l.length : Int)
      · have hr := rd_byte hl p
        have hr2 : wrap64 (rd l p) = rd l p := wrap_in (by omega) (by omega)
        have ht := tmod_range (a := rd l p) (n := n) (by omega) (by omega)
        refine ⟨Int.tmod (rd l p) n, Evt.of1 fun k => ?_, ht.1, fun _ => ht.2, fun h => by omega⟩
        unfold spec_l6Rd_pick.f
        rw [if_neg hn, e1, hz']
        simp only [spec_l6Rd_pick.j0]
        rw [e2, if_neg (by decide), if_pos hlt, if_pos h0, if_neg (by omega), hr2]
      · have e3 : wrap64 (wrap64 (p * 7) + 3) = p * 7 + 3 := by
          rw [wrap_in (n := p * 7) (by omega) (by omega)]
          exact wrap_in (by omega) (by omega)
        have ta := tmod_range (a := p) (n := (l.length : Int)) h0 hlen
        have tb := tmod_range (a := p * 7 + 3) (n := (l.length : Int)) (by omega) hlen
        have td := tdiv_range (a := p) (n := (l.length : Int)) h0 hlen
        have ra := rd_byte hl (Int.tmod p (l.length : Int))
        have rb := rd_byte hl (Int.tmod (p * 7 + 3) (l.length : Int))
        obtain ⟨x, hx, x0, x1⟩ := mix_range ra.1 ra.2 rb.1 rb.2 h0 (by omega) td.1 td.2
        have xd := tdiv_range (a := x) (n := 64) x0 (by decide)
        have xw : wrap64 (Int.tdiv x 64) = Int.tdiv x 64 := wrap_in (by omega) (by omega)
        have xx := xor_range (a := x) (b := Int.tdiv x 64) x0 x1 xd.1 (by omega)
        have tv := tmod_range (a := Go.bits .xor .i64 x (Int.tdiv x 64)) (n := n) xx.1 (by omega)
        refine ⟨Int.tmod (Go.bits .xor .i64 x (Int.tdiv x 64)) n, Evt.of1 fun k => ?_, tv.1, fun _ => tv.2, fun h => by omega⟩
        unfold spec_l6Rd_pick.f
        rw [if_neg hn, e1, hz']
        simp only [spec_l6Rd_pick.j0]
        rw [e2, e3, if_neg (by decide), if_neg hlt, if_neg (by omega), if_pos ta.1, if_pos ta.2, if_pos tb.1, if_pos tb.2, if_neg (by omega), hx, xw]
theorem open_ev {l : List Int} (hl : Bytes l) : ∃ s, spec_l6Open.f l = some (s, 0) ∧ Bytes s := by
  unfold spec_l6Open.f
  by_cases h : (l.length : Int) > 2000
  · exact ⟨l.take 2000, by rw [if_pos h, if_pos (by omega)], hl.take _⟩
  · exact ⟨l, by rw [if_neg h], hl⟩

theorem in_eq (a b c : Int) : impl_in.f a b c = some (decide (b ≤ a) && decide (a ≤ c)) := by
  unfold impl_in.f
  by_cases h : a ≥ b
  · rw [if_pos h]; simp [show b ≤ a from h]
  · rw [if_neg h]; simp [show ¬ b ≤ a from h]
theorem l6in_eq (a b c : Int) : spec_l6In.f a b c = some (decide (b ≤ a) && decide (a ≤ c)) := by
  unfold spec_l6In.f
  by_cases h : a ≥ b
  · rw [if_pos h]; simp [show b ≤ a from h]
  · rw [if_neg h]; simp [show ¬ b ≤ a from h]

def okRow (h : List ByteArray) (c : List Int) (i : Nat) : Bool :=
  (decide (0 ≤ rd c i) && decide (rd c i ≤ 99)) && decide (((rdOf ByteArray.empty h (i : Int)).size : Int) = if rd c i = 0 then 0 else 4)
def okRows (h : List ByteArray) (c : List Int) : Nat → Nat → Bool
  | 0, _ => true
  | d + 1, i => okRow h c i && okRows h c d (i + 1)
def pagesOk (h : List ByteArray) (c : List Int) : Bool := decide (h.length = c.length) && (decide (1 ≤ (h.length : Int)) && decide ((h.length : Int) ≤ 12)) && okRows h c c.length 0
theorem pagesOk_len {h : List ByteArray} {c : List Int} (k : pagesOk h c = true) : h.length = c.length ∧ 1 ≤ h.length ∧ h.length ≤ 12 := by
  simp [pagesOk] at k
  omega
theorem okRows_get (h : List ByteArray) (c : List Int) : ∀ (d i : Nat), okRows h c d i = true → ∀ j, i ≤ j → j < i + d → okRow h c j = true
  | 0, _, _, _, _, _ => by omega
  | d + 1, i, k, j, h1, h2 => by
    simp only [okRows, Bool.and_eq_true] at k
    by_cases e : j = i
    · rw [e]; exact k.1
    · exact okRows_get h c d (i + 1) k.2 j (by omega) (by omega)
theorem pagesOk_row {h : List ByteArray} {c : List Int} (k : pagesOk h c = true) {j : Nat} (hj : j < c.length) : 0 ≤ rd c j ∧ rd c j ≤ 99 ∧ ((rdOf ByteArray.empty h (j : Int)).size : Int) = if rd c j = 0 then 0 else 4 := by
  simp only [pagesOk, Bool.and_eq_true] at k
  have := okRows_get h c c.length 0 k.2 j (by omega) (by omega)
  simp [okRow] at this
  simpa [and_assoc] using this
theorem impl_pagesok_loop (h : List ByteArray) (c : List Int) (hl : h.length = c.length) (hc : c.length ≤ 1048576) : ∀ (d i : Nat), i + d = c.length →
    Evt (fun k => impl_PagesOk.l0 k c (c.length : Int) (i : Int) h c = some (okRows h c d i)) := by
  intro d
  induction d with
  | zero =>
    intro i hi
    refine Evt.of1 fun k => ?_
    simp only [impl_PagesOk.l0]
    rw [if_neg (by omega)]
    rfl
  | succ d ih =>
    intro i hi
    refine (ih (i + 1) (by omega)).step fun k hk => ?_
    simp only [impl_PagesOk.l0]
    rw [if_pos (by omega), if_pos (by omega), if_pos (by omega), nat_succ_wrap (by omega)]
    by_cases h0 : rd c (i : Int) = 0
    · rw [if_pos h0]
      refine bind_of (in_eq _ _ _) ?_
      rw [if_pos (by simp [h0]), if_pos (by omega)]
      by_cases h2 : ((rdOf ByteArray.empty h (i : Int)).size : Int) = 0
      · rw [if_pos h2, hk]
        simp [okRows, okRow, h0, h2]
      · rw [if_neg h2]
        simp only [okRows, okRow, h0, if_pos, decide_eq_false h2, Bool.and_false, Bool.false_and]
    · rw [if_neg h0]
      refine bind_of (in_eq _ _ _) ?_
      by_cases h1 : (decide (0 ≤ rd c (i : Int)) && decide (rd c (i : Int) ≤ 99)) = true
      · rw [if_pos h1, if_pos (by omega)]
        by_cases h2 : ((rdOf ByteArray.empty h (i : Int)).size : Int) = 4
        · rw [if_pos h2, hk]
          simp only [okRows, okRow, h1, if_neg h0, decide_eq_true h2, Bool.and_true, Bool.true_and]
        · rw [if_neg h2]
          simp only [okRows, okRow, if_neg h0, decide_eq_false h2, Bool.and_false, Bool.false_and]
      · rw [if_neg h1]
        simp only [okRows, okRow, eq_false_of_ne_true h1, Bool.false_and]
theorem impl_pagesok_ev (h : List ByteArray) (c : List Int) (hh : h.length ≤ 1048576) (hc : c.length ≤ 1048576) : Evt (fun k => impl_PagesOk.f k h c = some (pagesOk h c)) := by
  by_cases hl : h.length = c.length
  · by_cases hb : (decide (1 ≤ (h.length : Int)) && decide ((h.length : Int) ≤ 12)) = true
    · refine (impl_pagesok_loop h c hl hc c.length 0 (by omega)).step fun k hk => ?_
      unfold impl_PagesOk.f
      rw [if_pos (by omega)]
      refine bind_of (in_eq _ _ _) ?_
      simp only [impl_PagesOk.j0, hb]
      rw [if_neg (by decide)]
      refine hk.trans ?_
      simp [pagesOk, hl]
      intro _ 
      simp only [hl, Bool.and_eq_true, decide_eq_true_eq] at hb
      omega
    · refine Evt.of1 fun k => ?_
      unfold impl_PagesOk.f
      rw [if_pos (by omega)]
      refine bind_of (in_eq _ _ _) ?_
      simp only [impl_PagesOk.j0, eq_false_of_ne_true hb]
      rw [if_pos (by decide)]
      simp only [pagesOk, eq_false_of_ne_true hb, Bool.and_false, Bool.false_and]
  · refine Evt.of1 fun k => ?_
    unfold impl_PagesOk.f
    rw [if_neg (by omega)]
    simp only [impl_PagesOk.j0]
    rw [if_pos trivial]
    simp only [pagesOk, decide_eq_false hl, Bool.false_and]
theorem spec_pagesok_loop (h : List ByteArray) (c : List Int) (hl : h.length = c.length) (hc : c.length ≤ 1048576) : ∀ (d i : Nat), i + d = c.length →
    Evt (fun k => spec_PagesOk.l0 k (i : Int) h c = some (okRows h c d i)) := by
  intro d
  induction d with
  | zero =>
    intro i hi
    refine Evt.of1 fun k => ?_
    simp only [spec_PagesOk.l0]
    rw [if_neg (by omega)]
    rfl
  | succ d ih =>
    intro i hi
    refine (ih (i + 1) (by omega)).step fun k hk => ?_
    simp only [spec_PagesOk.l0]
    rw [if_pos (by omega), if_pos (by omega), if_pos (by omega), nat_succ_wrap (by omega)]
    by_cases h0 : rd c (i : Int) = 0
    · rw [if_pos h0]
      refine bind_of (l6in_eq _ _ _) ?_
      rw [if_pos (by simp [h0])]
      by_cases h2 : ((rdOf ByteArray.empty h (i : Int)).size : Int) = 0
      · rw [if_pos h2, hk]
        simp [okRows, okRow, h0, h2]
      · rw [if_neg h2]
        simp only [okRows, okRow, h0, if_pos, decide_eq_false h2, Bool.and_false, Bool.false_and]
    · rw [if_neg h0]
      refine bind_of (l6in_eq _ _ _) ?_
      by_cases h1 : (decide (0 ≤ rd c (i : Int)) && decide (rd c (i : Int) ≤ 99)) = true
      · rw [if_pos h1]
        by_cases h2 : ((rdOf ByteArray.empty h (i : Int)).size : Int) = 4
        · rw [if_pos h2, hk]
          simp only [okRows, okRow, h1, if_neg h0, decide_eq_true h2, Bool.and_true, Bool.true_and]
        · rw [if_neg h2]
          simp only [okRows, okRow, if_neg h0, decide_eq_false h2, Bool.and_false, Bool.false_and]
      · rw [if_neg h1]
        simp only [okRows, okRow, eq_false_of_ne_true h1, Bool.false_and]
theorem spec_pagesok_ev (h : List ByteArray) (c : List Int) (hh : h.length ≤ 1048576) (hc : c.length ≤ 1048576) : Evt (fun k => spec_PagesOk.f k h c = some (pagesOk h c)) := by
  by_cases hl : h.length = c.length
  · by_cases hb : (decide (1 ≤ (h.length : Int)) && decide ((h.length : Int) ≤ 12)) = true
    · refine (spec_pagesok_loop h c hl hc c.length 0 (by omega)).step fun k hk => ?_
      unfold spec_PagesOk.f
      rw [if_pos (by omega)]
      refine bind_of (l6in_eq _ _ _) ?_
      simp only [spec_PagesOk.j0, hb]
      rw [if_neg (by decide)]
      refine hk.trans ?_
      simp [pagesOk, hl]
      intro _ 
      simp only [hl, Bool.and_eq_true, decide_eq_true_eq] at hb
      omega
    · refine Evt.of1 fun k => ?_
      unfold spec_PagesOk.f
      rw [if_pos (by omega)]
      refine bind_of (l6in_eq _ _ _) ?_
      simp only [spec_PagesOk.j0, eq_false_of_ne_true hb]
      rw [if_pos (by decide)]
      simp only [pagesOk, eq_false_of_ne_true hb, Bool.and_false, Bool.false_and]
  · refine Evt.of1 fun k => ?_
    unfold spec_PagesOk.f
    rw [if_neg (by omega)]
    simp only [spec_PagesOk.j0]
    rw [if_pos trivial]
    simp only [pagesOk, decide_eq_false hl, Bool.false_and]

def pagesHas (c : List Int) (a : Int) : Bool := (decide (0 ≤ a) && decide (a ≤ (c.length : Int) - 1)) && decide (rd c a > 0)

theorem impl_has_eq (h : List ByteArray) (c : List Int) (a : Int) (hc : c.length ≤ 1048576) : impl_Pages_has.f h c a = some (pagesHas c a) := by
  unfold impl_Pages_has.f
  rw [wrap_in (n := (c.length : Int) - 1) (by omega) (by omega)]
  refine bind_of (in_eq _ _ _) ?_
  by_cases h1 : (decide (0 ≤ a) && decide (a ≤ (c.length : Int) - 1)) = true
  · have h2 := h1
    simp only [Bool.and_eq_true, decide_eq_true_eq] at h2
    rw [if_pos h1, if_pos (by omega), if_pos (by omega)]
    simp only [pagesHas, h1, Bool.true_and]
  · rw [if_neg h1]
    simp only [pagesHas, eq_false_of_ne_true h1, Bool.false_and]

theorem spec_used_eq (h : List ByteArray) (c : List Int) (a : Int) (hc : c.length ≤ 1048576) : spec_l1Used.f h c a = some (pagesHas c a) := by
  unfold spec_l1Used.f
  rw [wrap_in (n := (c.length : Int) - 1) (by omega) (by omega)]
  refine bind_of (l6in_eq _ _ _) ?_
  by_cases h1 : (decide (0 ≤ a) && decide (a ≤ (c.length : Int) - 1)) = true
  · have h2 := h1
    simp only [Bool.and_eq_true, decide_eq_true_eq] at h2
    rw [if_pos h1, if_pos (by omega), if_pos (by omega)]
    simp only [pagesHas, h1, Bool.true_and]
  · rw [if_neg h1]
    simp only [pagesHas, eq_false_of_ne_true h1, Bool.false_and]

theorem impl_pclone_eq (h : List ByteArray) (c : List Int) (hh : h.length ≤ 1048576) (hc : c.length ≤ 1048576) : impl_Pages_clone.f h c = some (h, c) := by
  unfold impl_Pages_clone.f
  refine bind_of rfl ?_
  rw [if_pos (by simp; omega)]
  refine bind_of rfl ?_
  rw [if_pos (by simp; omega)]
  rfl

theorem spec_pcopy_eq (h : List ByteArray) (c : List Int) (hh : h.length ≤ 1048576) (hc : c.length ≤ 1048576) : spec_l1Copy.f h c = some (h, c) := by
  unfold spec_l1Copy.f
  refine bind_of rfl ?_
  rw [if_pos (by simp; omega)]
  refine bind_of rfl ?_
  rw [if_pos (by simp; omega)]
  rfl

theorem rd_setN (c : List Int) (a j : Nat) (v : Int) (ha : a < c.length) : rd (c.set a v) (j : Int) = if a = j then v else rd c (j : Int) := by
  unfold rd
  rw [Int.toNat_natCast, List.getD_eq_getElem?_getD, List.getD_eq_getElem?_getD, List.getElem?_set]
  by_cases e : a = j
  · rw [if_pos e, if_pos e, if_pos (by omega)]
    rfl
  · rw [if_neg e, if_neg e]
theorem rdB_setN (h : List ByteArray) (a j : Nat) (v : ByteArray) (ha : a < h.length) : rdOf ByteArray.empty (h.set a v) (j : Int) = if a = j then v else rdOf ByteArray.empty h (j : Int) := by
  unfold rdOf
  rw [Int.toNat_natCast, List.getD_eq_getElem?_getD, List.getD_eq_getElem?_getD, List.getElem?_set]
  by_cases e : a = j
  · rw [if_pos e, if_pos e, if_pos (by omega)]
    rfl
  · rw [if_neg e, if_neg e]
theorem set_same (c : List Int) (a : Nat) (v : Int) (ha : a < c.length) (hv : rd c (a : Int) = v) : c.set a v = c := by
  apply List.ext_getElem?
  intro j
  rw [List.getElem?_set]
  by_cases e : a = j
  · subst e
    rw [if_pos rfl, if_pos ha, ← hv]
    unfold rd
    rw [Int.toNat_natCast, List.getD_eq_getElem?_getD, List.getElem?_eq_getElem ha]
    rfl
  · rw [if_neg e]
theorem setB_same (c : List ByteArray) (a : Nat) (v : ByteArray) (ha : a < c.length) (hv : rdOf ByteArray.empty c (a : Int) = v) : c.set a v = c := by
  apply List.ext_getElem?
  intro j
  rw [List.getElem?_set]
  by_cases e : a = j
  · subst e
    rw [if_pos rfl, if_pos ha, ← hv]
    unfold rdOf
    rw [Int.toNat_natCast, List.getD_eq_getElem?_getD, List.getElem?_eq_getElem ha]
    rfl
  · rw [if_neg e]
theorem bytes_empty {b : ByteArray} (h : b.size = 0) : b = (⟨#[]⟩ : ByteArray) := by
  cases b with
  | mk d => exact congrArg ByteArray.mk (Array.eq_empty_of_size_eq_zero h)
def sumF (f : Int → Int) (c : List Int) : Nat → Nat → Int
  | 0, _ => 0
  | d + 1, i => f (rd c (i : Int)) + sumF f c d (i + 1)
theorem sumF_set (f : Int → Int) (c : List Int) (a : Nat) (v : Int) (ha : a < c.length) : ∀ (d i : Nat), sumF f (c.set a v) d i = sumF f c d i + if i ≤ a ∧ a < i + d then f v - f (rd c (a : Int)) else 0
  | 0, i => by simp [sumF]; intro h1 h2; omega
  | d + 1, i => by
    rw [sumF, sumF, sumF_set f c a v ha d (i + 1), rd_setN c a i v ha]
    by_cases e : a = i
    · subst e
      rw [if_pos rfl, if_neg (by omega), if_pos (by omega)]
      omega
    · rw [if_neg e]
      by_cases h : i ≤ a ∧ a < i + (d + 1)
      · rw [if_pos h, if_pos (by omega)]
        omega
      · rw [if_neg h, if_neg (by omega)]
        omega
theorem sumF_range (f : Int → Int) (c : List Int) (lo hi : Int) (hl : lo ≤ 0) (hh : 0 ≤ hi) : ∀ (d i : Nat), (∀ j : Nat, i ≤ j → j < i + d → lo ≤ f (rd c (j : Int)) ∧ f (rd c (j : Int)) ≤ hi) → lo * d ≤ sumF f c d i ∧ sumF f c d i ≤ hi * d
  | 0, i, _ => by simp [sumF]
  | d + 1, i, h => by
    have h1 := h i (by omega) (by omega)
    have h2 := sumF_range f c lo hi hl hh d (i + 1) (fun j g1 g2 => h j (by omega) (by omega))
    rw [sumF]
    constructor
    · have : lo * ((d + 1 : Nat) : Int) = lo * (d : Int) + lo := by rw [Int.natCast_add, Int.mul_add]; simp
      omega
    · have : hi * ((d + 1 : Nat) : Int) = hi * (d : Int) + hi := by rw [Int.natCast_add, Int.mul_add]; simp
      omega
def ind (x : Int) : Int := if x = 0 then 1 else 0
theorem ind_range (x : Int) : 0 ≤ ind x ∧ ind x ≤ 1 := by unfold ind; split <;> omega
def fr (c : List Int) : Nat → Nat → Int
  | 0, _ => -1
  | d + 1, i => if rd c (i : Int) = 0 then (i : Int) else fr c d (i + 1)
theorem fr_spec (c : List Int) : ∀ (d i : Nat), (fr c d i = -1 ∧ sumF ind c d i = 0) ∨ (∃ a : Nat, fr c d i = (a : Int) ∧ i ≤ a ∧ a < i + d ∧ rd c (a : Int) = 0 ∧ 0 < sumF ind c d i)
  | 0, i => .inl ⟨rfl, rfl⟩
  | d + 1, i => by
    have hr := (sumF_range ind c 0 1 (by omega) (by omega) d (i + 1) (fun j _ _ => ind_range _)).1
    rw [fr, sumF]
    by_cases e : rd c (i : Int) = 0
    · rw [if_pos e, show ind (rd c (i : Int)) = 1 from by rw [ind, if_pos e]]
      exact .inr ⟨i, rfl, by omega, by omega, e, by omega⟩
    · rw [if_neg e, show ind (rd c (i : Int)) = 0 from by rw [ind, if_neg e]]
      rcases fr_spec c d (i + 1) with ⟨h1, h2⟩ | ⟨a, h1, h2, h3, h4, h5⟩
      · exact .inl ⟨h1, by omega⟩
      · exact .inr ⟨a, h1, by omega, by omega, h4, by omega⟩

theorem has_get {c : List Int} {a : Int} (h : pagesHas c a = true) : ∃ m : Nat, a = (m : Int) ∧ m < c.length ∧ 0 < rd c (m : Int) := by
  simp only [pagesHas, Bool.and_eq_true, decide_eq_true_eq] at h
  refine ⟨a.toNat, by omega, by omega, ?_⟩
  rw [show ((a.toNat : Nat) : Int) = a by omega]
  exact h.2
theorem has_of {c : List Int} {m : Nat} (h1 : m < c.length) (h2 : 0 < rd c (m : Int)) : pagesHas c (m : Int) = true := by
  simp only [pagesHas, Bool.and_eq_true, decide_eq_true_eq]
  exact ⟨by omega, h2⟩
theorem pagesOk_iff (h : List ByteArray) (c : List Int) : pagesOk h c = true ↔ h.length = c.length ∧ 1 ≤ c.length ∧ c.length ≤ 12 ∧ ∀ j : Nat, j < c.length → (0 ≤ rd c (j : Int) ∧ rd c (j : Int) ≤ 99 ∧ (rdOf ByteArray.empty h (j : Int)).size = if rd c (j : Int) = 0 then 0 else 4) := by
  constructor
  · intro k
    obtain ⟨l1, l2, l3⟩ := pagesOk_len k
    refine ⟨l1, by omega, by omega, fun j hj => ?_⟩
    obtain ⟨r1, r2, r3⟩ := pagesOk_row k hj
    refine ⟨r1, r2, ?_⟩
    split at r3 <;> simp_all <;> omega
  · rintro ⟨l1, l2, l3, h4⟩
    have hr : ∀ (d i : Nat), i + d = c.length → okRows h c d i = true := by
      intro d
      induction d with
      | zero => intro i hi; rfl
      | succ d ih =>
        intro i hi
        obtain ⟨r1, r2, r3⟩ := h4 i (by omega)
        have e : ((rdOf ByteArray.empty h (i : Int)).size : Int) = if rd c (i : Int) = 0 then 0 else 4 := by
          rw [r3]
          split <;> rfl
        rw [okRows, okRow, ih (i + 1) (by omega), decide_eq_true r1, decide_eq_true r2, decide_eq_true e]
        rfl
    rw [pagesOk, decide_eq_true l1, decide_eq_true (show 1 ≤ (h.length : Int) by omega), decide_eq_true (show (h.length : Int) ≤ 12 by omega), hr c.length 0 (by omega)]
    rfl

theorem spec_take_loop (h : List ByteArray) (c : List Int) (x : ByteArray) (hl : h.length = c.length) (hc : c.length ≤ 1048576) : ∀ (d i : Nat), i + d = c.length →
    Evt (fun k => spec_l1Take.l0 k x (i : Int) h c = some (if fr c d i < 0 then (h, c, -1) else (h.set (fr c d i).toNat x, c.set (fr c d i).toNat 1, fr c d i))) := by
  intro d
  induction d with
  | zero =>
    intro i hi
    refine Evt.of1 fun k => ?_
    simp only [spec_l1Take.l0]
    rw [if_neg (by omega)]
    rfl
  | succ d ih =>
    intro i hi
    refine (ih (i + 1) (by omega)).step fun k hk => ?_
    simp only [spec_l1Take.l0]
    rw [if_pos (by omega), if_pos (by omega), nat_succ_wrap (by omega), hk, fr]
    by_cases e : rd c (i : Int) = 0
    · rw [if_pos e, if_pos (by omega), if_pos e, if_neg (by omega)]
    · rw [if_neg e, if_neg e]
theorem spec_l1take_ev (h : List ByteArray) (c : List Int) (x : ByteArray) (hl : h.length = c.length) (hc : c.length ≤ 1048576) :
    Evt (fun k => spec_l1Take.f k h c x = some (if fr c c.length 0 < 0 then (h, c, -1) else (h.set (fr c c.length 0).toNat x, c.set (fr c c.length 0).toNat 1, fr c c.length 0))) := spec_take_loop h c x hl hc c.length 0 (by omega)

theorem page_loop {l : List Int} (hl : Bytes l) : ∀ (e i : Nat) (p : Int) (x : List Int), i + e = 4 → x.length ≤ i → 0 ≤ p → p + 2 * e < 900000 →
    ∃ s q, Evt (fun k => spec_l91Page.l0 k x (i : Int) l p = some (s, q)) ∧ p ≤ q ∧ q ≤ p + 2 * e := by
  intro e
  induction e with
  | zero =>
    intro i p x hi hx h0 h1
    refine ⟨strOfNums x, p, Evt.of1 fun k => ?_, by omega, by omega⟩
    simp only [spec_l91Page.l0]
    rw [if_neg (by omega)]
  | succ e ih =>
    intro i p x hi hx h0 h1
    obtain ⟨v, hv, _⟩ := pick_ev hl (p := p) 4 h0 (by omega)
    obtain ⟨w, hw, _⟩ := pick_ev hl (p := p + 1) 90 (by omega) (by omega)
    obtain ⟨s, q, hr, q1, q2⟩ := ih (i + 1) (p + 1 + 1) (x ++ [(wrap64 (v * w)) % 256]) (by omega) (by simp; omega) (by omega) (by omega)
    refine ⟨s, q, (hv.and (hw.and hr)).step fun k hk => ?_, by omega, by omega⟩
    simp only [spec_l91Page.l0]
    rw [if_pos (by omega)]
    refine bind_of hk.1 ?_
    refine bind_of hk.2.1 ?_
    rw [if_pos (by omega), nat_succ_wrap (by omega)]
    exact hk.2.2
theorem page_ev {l : List Int} (hl : Bytes l) {p : Int} (h0 : 0 ≤ p) (h1 : p < 800000) : ∃ s q, Evt (fun k => spec_l91Page.f k l p = some (s, q)) ∧ p ≤ q ∧ q ≤ p + 8 := by
  obtain ⟨s, q, h, q1, q2⟩ := page_loop hl 4 0 p [] (by omega) (by simp) h0 (by omega)
  exact ⟨s, q, h, q1, by omega⟩
/-- What the drawn pages keep within. -/
def PB (h : List ByteArray) (c : List Int) : Prop := h.length ≤ 24 ∧ c.length ≤ 25
theorem drawp_j2 {l : List Int} (hl : Bytes l) {p : Int} (h0 : 0 ≤ p) (h1 : p < 700000) (h : List ByteArray) (c : List Int) (e : h.length = c.length) (n1 : 1 ≤ c.length) (n2 : c.length ≤ 12) :
    ∃ h' c' q, Evt (fun k => spec_l91Pages.j2 k l p h c = some (h', c', q)) ∧ PB h' c' ∧ p ≤ q ∧ q ≤ p + 2 := by
  obtain ⟨v, hv, v0, v1, _⟩ := pick_ev hl (p := p) 16 h0 (by omega)
  by_cases c0 : v = 0
  · obtain ⟨w, hw, w0, w1, _⟩ := pick_ev hl (p := p + 1) 4 (by omega) (by omega)
    have w2 := w1 (by omega)
    refine ⟨h, c.set 0 (rd [-1, 0, 99, 100] w), p + 1 + 1, (hv.and hw).step fun k hk => ?_, ⟨by omega, by simp; omega⟩, by omega, by omega⟩
    simp only [spec_l91Pages.j2]
    refine bind_of hk.1 ?_
    rw [if_pos c0]
    refine bind_of rfl ?_
    refine bind_of hk.2 ?_
    rw [if_pos w0, if_pos (show w < (([-1, 0, 99, 100] : List Int).length : Int) from by simpa using w2), if_pos (by omega)]
    rfl
  · by_cases c1 : v = 1
    · have e1 : wrap64 ((h.length : Int) - 1) = (h.length : Int) - 1 := wrap_in (by omega) (by omega)
      refine ⟨h.set ((h.length : Int) - 1).toNat (⟨#[116, 111, 111, 108, 111, 110, 103]⟩ : ByteArray), c, p + 1, hv.step fun k hk => ?_, ⟨by simp; omega, by omega⟩, by omega, by omega⟩
      simp only [spec_l91Pages.j2]
      refine bind_of hk ?_
      rw [if_neg c0, if_pos c1, e1, if_pos (by omega), if_pos (by omega)]
    · by_cases c2 : v = 2
      · refine ⟨h, c ++ [0], p + 1, hv.step fun k hk => ?_, ⟨by omega, by simp; omega⟩, by omega, by omega⟩
        simp only [spec_l91Pages.j2]
        refine bind_of hk ?_
        rw [if_neg c0, if_neg c1, if_pos c2, if_pos (by omega)]
      · by_cases c3 : v = 3
        · refine ⟨h ++ [(⟨#[]⟩ : ByteArray), (⟨#[]⟩ : ByteArray), (⟨#[]⟩ : ByteArray), (⟨#[]⟩ : ByteArray), (⟨#[]⟩ : ByteArray), (⟨#[]⟩ : ByteArray), (⟨#[]⟩ : ByteArray), (⟨#[]⟩ : ByteArray), (⟨#[]⟩ : ByteArray), (⟨#[]⟩ : ByteArray), (⟨#[]⟩ : ByteArray), (⟨#[]⟩ : ByteArray)],
            c ++ [0, 0, 0, 0, 0, 0, 0, 0, 0, 0, 0, 0], p + 1, hv.step fun k hk => ?_, ⟨by simp; omega, by simp; omega⟩, by omega, by omega⟩
          simp only [spec_l91Pages.j2]
          refine bind_of hk ?_
          rw [if_neg c0, if_neg c1, if_neg c2, if_pos c3]
          refine bind_of rfl ?_
          rw [if_pos (by simp; omega)]
          refine bind_of rfl ?_
          rw [if_pos (by simp; omega)]
        · refine ⟨h, c, p + 1, hv.step fun k hk => ?_, ⟨by omega, by omega⟩, by omega, by omega⟩
          simp only [spec_l91Pages.j2]
          refine bind_of hk ?_
          rw [if_neg c0, if_neg c1, if_neg c2, if_neg c3]
theorem drawp_j1 {l : List Int} (hl : Bytes l) {p : Int} (h0 : 0 ≤ p) (h1 : p < 600000) (h : List ByteArray) (c : List Int) (e : h.length = c.length) (n1 : 1 ≤ c.length) (n2 : c.length ≤ 12) (b : Bool) :
    ∃ h' c' q, Evt (fun k => spec_l91Pages.j1 k b l p h c = some (h', c', q)) ∧ PB h' c' ∧ p ≤ q ∧ q ≤ p + 3 := by
  cases b with
  | false =>
    obtain ⟨h', c', q, hr, r1, r2, r3⟩ := drawp_j2 hl h0 (by omega) h c e n1 n2
    refine ⟨h', c', q, hr.step fun k hk => ?_, r1, r2, by omega⟩
    simp only [spec_l91Pages.j1]
    rw [if_neg (by decide)]
    exact hk
  | true =>
    obtain ⟨v, hv, _⟩ := pick_ev hl (p := p) 99 h0 (by omega)
    obtain ⟨h', c', q, hr, r1, r2, r3⟩ := drawp_j2 hl (p := p + 1) (by omega) (by omega) h (c.set 0 (wrap64 (1 + v))) (by simpa using e) (by simpa using n1) (by simpa using n2)
    refine ⟨h', c', q, (hv.and hr).step fun k hk => ?_, r1, by omega, by omega⟩
    simp only [spec_l91Pages.j1]
    rw [if_pos trivial]
    refine bind_of hk.1 ?_
    rw [if_pos (by omega)]
    exact hk.2
theorem drawp_l0 {l : List Int} (hl : Bytes l) : ∀ (n : Nat) (p : Int) (h : List ByteArray) (c : List Int), n ≤ 8 → 0 ≤ p → p + 8 * n < 500000 → h.length = c.length → 1 ≤ c.length → c.length ≤ 12 →
    ∃ h' c' q, Evt (fun k => spec_l91Pages.l0 k (n : Int) l p h c = some (h', c', q)) ∧ PB h' c' ∧ p ≤ q ∧ q ≤ p + 8 * n + 4 := by
  intro n
  induction n with
  | zero =>
    intro p h c hn h0 h1 e n1 n2
    obtain ⟨v, hv, _⟩ := pick_ev hl (p := p) 2 h0 (by omega)
    cases hu : pagesHas c 0 with
    | true =>
      obtain ⟨h', c', q, hr, r1, r2, r3⟩ := drawp_j1 hl (p := p + 1) (by omega) (by omega) h c e n1 n2 (v == 0)
      refine ⟨h', c', q, (hv.and hr).step fun k hk => ?_, r1, by omega, by omega⟩
      simp only [spec_l91Pages.l0]
      rw [if_neg (by omega)]
      refine bind_of (spec_used_eq h c 0 (by omega)) ?_
      rw [if_pos hu]
      refine bind_of hk.1 ?_
      exact hk.2
    | false =>
      obtain ⟨h', c', q, hr, r1, r2, r3⟩ := drawp_j1 hl (p := p) (by omega) (by omega) h c e n1 n2 false
      refine ⟨h', c', q, hr.step fun k hk => ?_, r1, by omega, by omega⟩
      simp only [spec_l91Pages.l0]
      rw [if_neg (by omega)]
      refine bind_of (spec_used_eq h c 0 (by omega)) ?_
      rw [if_neg (by simp [hu])]
      exact hk
  | succ n ih =>
    intro p h c hn h0 h1 e n1 n2
    obtain ⟨s, q, hp, q1, q2⟩ := page_ev hl (p := p) h0 (by omega)
    have ht := spec_l1take_ev h c s e (by omega)
    have e1 : wrap64 (((n + 1 : Nat) : Int) - 1) = (n : Int) := by rw [wrap_in (by omega) (by omega)]; omega
    by_cases cf : fr c c.length 0 < 0
    · rw [if_pos cf] at ht
      obtain ⟨h', c', r, hr, r1, r2, r3⟩ := ih q h c (by omega) (by omega) (by omega) e n1 n2
      refine ⟨h', c', r, (hp.and (ht.and hr)).step fun k hk => ?_, r1, by omega, by omega⟩
      simp only [spec_l91Pages.l0]
      rw [if_pos (by omega)]
      refine bind_of hk.1 ?_
      refine bind_of hk.2.1 ?_
      rw [e1]
      exact hk.2.2
    · rw [if_neg cf] at ht
      obtain ⟨h', c', r, hr, r1, r2, r3⟩ := ih q (h.set (fr c c.length 0).toNat s) (c.set (fr c c.length 0).toNat 1) (by omega) (by omega) (by omega) (by simpa using e) (by simpa using n1) (by simpa using n2)
      refine ⟨h', c', r, (hp.and (ht.and hr)).step fun k hk => ?_, r1, by omega, by omega⟩
      simp only [spec_l91Pages.l0]
      rw [if_pos (by omega)]
      refine bind_of hk.1 ?_
      refine bind_of hk.2.1 ?_
      rw [e1]
      exact hk.2.2
theorem drawpages_ev {l : List Int} (hl : Bytes l) {p : Int} (h0 : 0 ≤ p) (h1 : p < 400000) : ∃ h c q, Evt (fun k => spec_l91Pages.f k l p = some (h, c, q)) ∧ PB h c ∧ p ≤ q ∧ q ≤ p + 80 := by
  obtain ⟨v, hv, v0, v1, _⟩ := pick_ev hl (p := p) 12 h0 (by omega)
  obtain ⟨w, hw, w0, w1, _⟩ := pick_ev hl (p := p + 1) 8 (by omega) (by omega)
  have v2 := v1 (by omega)
  have w2 := w1 (by omega)
  obtain ⟨n, rfl⟩ : ∃ n : Nat, w = (n : Int) := ⟨w.toNat, by omega⟩
  have hn : spec_PagesNew.f (wrap64 (1 + v)) = some (List.replicate (1 + v).toNat (⟨#[]⟩ : ByteArray), List.replicate (1 + v).toNat 0, true) := by
    unfold spec_PagesNew.f
    rw [wrap_in (by omega) (by omega)]
    refine bind_of (l6in_eq _ _ _) ?_
    rw [if_pos (by simp; omega), if_pos (by omega), if_pos (by omega), if_pos (by omega)]
  obtain ⟨h, c, q, hr, r1, r2, r3⟩ := drawp_l0 hl n (p + 1 + 1) (List.replicate (1 + v).toNat (⟨#[]⟩ : ByteArray)) (List.replicate (1 + v).toNat 0) (by omega) (by omega) (by omega) (by simp) (by simp; omega) (by simp; omega)
  refine ⟨h, c, q, (hv.and (hw.and hr)).imp fun k hk => ?_, r1, by omega, by omega⟩
  unfold spec_l91Pages.f
  refine bind_of hk.1 ?_
  refine bind_of hn ?_
  refine bind_of hk.2.1 ?_
  exact hk.2.2

theorem at_ev {l : List Int} (hl : Bytes l) {p : Int} (h0 : 0 ≤ p) (h1 : p < 900000) : ∃ a q, Evt (fun k => spec_l91At.f k l p = some (a, q)) ∧ p ≤ q ∧ q ≤ p + 2 := by
  obtain ⟨v, hv, _⟩ := pick_ev hl (p := p) 10 h0 (by omega)
  by_cases c0 : v = 0
  · obtain ⟨w, hw, w0, w1, _⟩ := pick_ev hl (p := p + 1) 3 (by omega) (by omega)
    have w2 := w1 (by omega)
    refine ⟨rd [-1, 12, 11] w, p + 1 + 1, (hv.and hw).imp fun k hk => ?_, by omega, by omega⟩
    unfold spec_l91At.f
    refine bind_of hk.1 ?_
    rw [if_pos c0]
    refine bind_of rfl ?_
    refine bind_of hk.2 ?_
    rw [if_pos w0, if_pos (show w < (([-1, 12, 11] : List Int).length : Int) from by simpa using w2)]
  · obtain ⟨w, hw, _⟩ := pick_ev hl (p := p + 1) 8 (by omega) (by omega)
    refine ⟨w, p + 1 + 1, (hv.and hw).imp fun k hk => ?_, by omega, by omega⟩
    unfold spec_l91At.f
    refine bind_of hk.1 ?_
    rw [if_neg c0]
    refine bind_of hk.2 ?_
    rfl

theorem impl_get_ev {h : List ByteArray} {c : List Int} (hok : pagesOk h c = true) {m : Nat} (m1 : m < c.length) (m2 : 0 < rd c (m : Int)) (hh : h.length ≤ 1048576) (hc : c.length ≤ 1048576) : Evt (fun k => impl_PagesGet.f k h c (m : Int) = some (rdOf ByteArray.empty h (m : Int), true)) := by
  have hs := impl_pagesok_ev h c hh hc
  rw [hok] at hs
  obtain ⟨l1, l2, l3⟩ := pagesOk_len hok
  refine hs.imp fun k hk => ?_
  unfold impl_PagesGet.f
  refine bind_of hk ?_
  rw [if_pos rfl]
  refine bind_of (impl_has_eq h c _ hc) ?_
  rw [has_of m1 m2, if_pos rfl, if_pos (by omega), if_pos (by omega)]

theorem qdints_loop (a : List Int) (ha : a.length < 1000000000) : ∀ (d i : Nat), i + d = a.length → Evt (fun k => laws_qdInts.l0 k a a (i : Int) = some true) := by
  intro d
  induction d with
  | zero =>
    intro i hi
    refine Evt.of1 fun k => ?_
    simp only [laws_qdInts.l0]
    rw [if_neg (by omega)]
  | succ d ih =>
    intro i hi
    refine (ih (i + 1) (by omega)).step fun k hk => ?_
    simp only [laws_qdInts.l0]
    rw [if_pos (by omega), if_pos (by omega), if_pos (by omega), if_pos trivial, nat_succ_wrap (by omega)]
    exact hk
theorem qdints_refl (a : List Int) (ha : a.length < 1000000000) : Evt (fun k => laws_qdInts.f k a a = some true) := by
  refine (qdints_loop a ha a.length 0 (by omega)).imp fun k hk => ?_
  unfold laws_qdInts.f
  rw [if_pos rfl]
  exact hk

theorem qdtexts_loop (a : List ByteArray) (ha : a.length < 1000000000) : ∀ (d i : Nat), i + d = a.length → Evt (fun k => laws_qdTexts.l0 k a a (i : Int) = some true) := by
  intro d
  induction d with
  | zero =>
    intro i hi
    refine Evt.of1 fun k => ?_
    simp only [laws_qdTexts.l0]
    rw [if_neg (by omega)]
  | succ d ih =>
    intro i hi
    refine (ih (i + 1) (by omega)).step fun k hk => ?_
    simp only [laws_qdTexts.l0]
    rw [if_pos (by omega), if_pos (by omega), if_pos (by omega), if_pos trivial, nat_succ_wrap (by omega)]
    exact hk
theorem qdtexts_refl (a : List ByteArray) (ha : a.length < 1000000000) : Evt (fun k => laws_qdTexts.f k a a = some true) := by
  refine (qdtexts_loop a ha a.length 0 (by omega)).imp fun k hk => ?_
  unfold laws_qdTexts.f
  rw [if_pos rfl]
  exact hk
theorem qdpages_refl (h : List ByteArray) (c : List Int) (hh : h.length < 1000000000) (hc : c.length < 1000000000) : Evt (fun k => laws_qdPages.f k h c h c = some true) := by
  refine ((qdtexts_refl h hh).and (qdints_refl c hc)).imp fun k hk => ?_
  unfold laws_qdPages.f
  refine bind_of hk.1 ?_
  rw [if_pos rfl]
  refine bind_of hk.2 ?_
  rfl

theorem str4 {s : ByteArray} (h : s.size = 4) : ∃ a b c d : UInt8, s = ⟨#[a, b, c, d]⟩ := by
  obtain ⟨⟨l⟩⟩ := s
  have hl : l.length = 4 := h
  match l, hl with
  | [a, b, c, d], _ => exact ⟨a, b, c, d, rfl⟩
def setB (s : ByteArray) (k : Nat) (v : Int) : ByteArray := strOfNums ((bytesOf s).set k v)
theorem u8_back (a : UInt8) : UInt8.ofNat ((a.toNat : Int)).toNat = a := by rw [Int.toNat_natCast]; exact UInt8.ofNat_toNat
theorem setB0 (a b c d : UInt8) (v : Int) : setB ⟨#[a, b, c, d]⟩ 0 v = ⟨#[UInt8.ofNat v.toNat, b, c, d]⟩ := by simp only [setB, strOfNums, bytesOf, List.map_cons, List.map_nil, List.set_cons_zero, List.set_cons_succ, u8_back]
theorem setB1 (a b c d : UInt8) (v : Int) : setB ⟨#[a, b, c, d]⟩ 1 v = ⟨#[a, UInt8.ofNat v.toNat, c, d]⟩ := by simp only [setB, strOfNums, bytesOf, List.map_cons, List.map_nil, List.set_cons_zero, List.set_cons_succ, u8_back]
theorem setB2 (a b c d : UInt8) (v : Int) : setB ⟨#[a, b, c, d]⟩ 2 v = ⟨#[a, b, UInt8.ofNat v.toNat, d]⟩ := by simp only [setB, strOfNums, bytesOf, List.map_cons, List.map_nil, List.set_cons_zero, List.set_cons_succ, u8_back]
theorem setB3 (a b c d : UInt8) (v : Int) : setB ⟨#[a, b, c, d]⟩ 3 v = ⟨#[a, b, c, UInt8.ofNat v.toNat]⟩ := by simp only [setB, strOfNums, bytesOf, List.map_cons, List.map_nil, List.set_cons_zero, List.set_cons_succ, u8_back]
theorem setB_size {s : ByteArray} (h : s.size = 4) (k : Nat) (v : Int) : (setB s k v).size = 4 := by
  unfold setB
  rw [strOfNums_size, List.length_set, bytesOf_length, h]
theorem four {k : Nat} (h : k < 4) : k = 0 ∨ k = 1 ∨ k = 2 ∨ k = 3 := by omega
theorem str_glue (a b c d v : UInt8) : ((⟨#[a, b, c, d]⟩ : ByteArray).extract 0 0 ++ (⟨#[v]⟩ : ByteArray)) ++ (⟨#[a, b, c, d]⟩ : ByteArray).extract 1 4 = ⟨#[v, b, c, d]⟩ ∧
    ((⟨#[a, b, c, d]⟩ : ByteArray).extract 0 1 ++ (⟨#[v]⟩ : ByteArray)) ++ (⟨#[a, b, c, d]⟩ : ByteArray).extract 2 4 = ⟨#[a, v, c, d]⟩ ∧
    ((⟨#[a, b, c, d]⟩ : ByteArray).extract 0 2 ++ (⟨#[v]⟩ : ByteArray)) ++ (⟨#[a, b, c, d]⟩ : ByteArray).extract 3 4 = ⟨#[a, b, v, d]⟩ ∧
    ((⟨#[a, b, c, d]⟩ : ByteArray).extract 0 3 ++ (⟨#[v]⟩ : ByteArray)) ++ (⟨#[a, b, c, d]⟩ : ByteArray).extract 4 4 = ⟨#[a, b, c, v]⟩ := by
  refine ⟨?_, ?_, ?_, ?_⟩ <;> rfl
theorem str_cut (a b c d : UInt8) : (⟨#[a, b, c, d]⟩ : ByteArray).extract 0 0 = ⟨#[]⟩ ∧ (⟨#[a, b, c, d]⟩ : ByteArray).extract 0 1 = ⟨#[a]⟩ ∧ (⟨#[a, b, c, d]⟩ : ByteArray).extract 0 2 = ⟨#[a, b]⟩ ∧ (⟨#[a, b, c, d]⟩ : ByteArray).extract 0 3 = ⟨#[a, b, c]⟩ ∧
    (⟨#[a, b, c, d]⟩ : ByteArray).extract 1 4 = ⟨#[b, c, d]⟩ ∧ (⟨#[a, b, c, d]⟩ : ByteArray).extract 2 4 = ⟨#[c, d]⟩ ∧ (⟨#[a, b, c, d]⟩ : ByteArray).extract 3 4 = ⟨#[d]⟩ ∧ (⟨#[a, b, c, d]⟩ : ByteArray).extract 4 4 = ⟨#[]⟩ := by
  refine ⟨?_, ?_, ?_, ?_, ?_, ?_, ?_, ?_⟩ <;> rfl
theorem strOf1 (v : Int) : strOfNums [v] = ⟨#[UInt8.ofNat v.toNat]⟩ := rfl
theorem l1set_eq {s : ByteArray} (h : s.size = 4) {k : Nat} (hk : k < 4) (v : Int) : spec_l1Set.f s (k : Int) v = some (setB s k (v % 256)) := by
  have ew : wrap64 ((k : Int) + 1) = ((k + 1 : Nat) : Int) := nat_succ_wrap (by omega)
  obtain ⟨a, b, c, d, rfl⟩ := str4 h
  have hsz : (⟨#[a, b, c, d]⟩ : ByteArray).size = 4 := rfl
  obtain ⟨g0, g1, g2, g3⟩ := str_glue a b c d (UInt8.ofNat (v % 256).toNat)
  obtain ⟨e0, e1, e2, e3, e4, e5, e6, e7⟩ := str_cut a b c d
  unfold spec_l1Set.f
  rw [if_pos (by omega), if_pos (by rw [hsz]; omega)]
  refine bind_of rfl ?_
  rw [ew, strOf1, hsz, Int.toNat_natCast, Int.toNat_natCast]
  rcases four hk with rfl | rfl | rfl | rfl
  · rw [if_pos (by rw [e0]; exact (by decide : (0 : Nat) + 1 ≤ 9223372036854775807)), if_pos (by decide), if_pos (by decide), if_pos (by rw [e0, e4, ByteArray.size_append]; exact (by decide : (0 : Nat) + 1 + 3 ≤ 9223372036854775807)), setB0]
    exact congrArg some g0
  · rw [if_pos (by rw [e1]; exact (by decide : (1 : Nat) + 1 ≤ 9223372036854775807)), if_pos (by decide), if_pos (by decide), if_pos (by rw [e1, e5, ByteArray.size_append]; exact (by decide : (1 : Nat) + 1 + 2 ≤ 9223372036854775807)), setB1]
    exact congrArg some g1
  · rw [if_pos (by rw [e2]; exact (by decide : (2 : Nat) + 1 ≤ 9223372036854775807)), if_pos (by decide), if_pos (by decide), if_pos (by rw [e2, e6, ByteArray.size_append]; exact (by decide : (2 : Nat) + 1 + 1 ≤ 9223372036854775807)), setB2]
    exact congrArg some g2
  · rw [if_pos (by rw [e3]; exact (by decide : (3 : Nat) + 1 ≤ 9223372036854775807)), if_pos (by decide), if_pos (by decide), if_pos (by rw [e3, e7, ByteArray.size_append]; exact (by decide : (3 : Nat) + 1 + 0 ≤ 9223372036854775807)), setB3]
    exact congrArg some g3
theorem with_eq {s : ByteArray} (h : s.size = 4) {k : Nat} (hk : k < 4) (v : Int) : impl_with.f s (k : Int) v = some (setB s k (v % 256)) := by
  unfold impl_with.f
  rw [if_pos (by omega), if_pos (by omega), if_pos (by omega), Int.toNat_natCast]
  rfl
theorem bt4 (a b c d : UInt8) : bt ⟨#[a, b, c, d]⟩ 0 = a.toNat ∧ bt ⟨#[a, b, c, d]⟩ 1 = b.toNat ∧ bt ⟨#[a, b, c, d]⟩ 2 = c.toNat ∧ bt ⟨#[a, b, c, d]⟩ 3 = d.toNat := ⟨rfl, rfl, rfl, rfl⟩
theorem u8_val (v : Int) (h0 : 0 ≤ v) (h1 : v ≤ 255) : ((UInt8.ofNat v.toNat).toNat : Int) = v := by
  rw [UInt8.toNat_ofNat']
  omega
theorem bt_set {s : ByteArray} (h : s.size = 4) {k : Nat} (hk : k < 4) {v : Int} (h0 : 0 ≤ v) (h1 : v ≤ 255) : bt (setB s k v) (k : Int) = v := by
  obtain ⟨a, b, c, d, rfl⟩ := str4 h
  rcases four hk with rfl | rfl | rfl | rfl
  · rw [setB0]; exact (bt4 _ _ _ _).1.trans (u8_val v h0 h1)
  · rw [setB1]; exact (bt4 _ _ _ _).2.1.trans (u8_val v h0 h1)
  · rw [setB2]; exact (bt4 _ _ _ _).2.2.1.trans (u8_val v h0 h1)
  · rw [setB3]; exact (bt4 _ _ _ _).2.2.2.trans (u8_val v h0 h1)
theorem set_back {s : ByteArray} (h : s.size = 4) {k : Nat} (hk : k < 4) (v : Int) : setB (setB s k v) k (bt s (k : Int)) = s := by
  obtain ⟨a, b, c, d, rfl⟩ := str4 h
  rcases four hk with rfl | rfl | rfl | rfl
  · rw [setB0, setB0, show bt ⟨#[a, b, c, d]⟩ ((0 : Nat) : Int) = a.toNat from rfl, u8_back]
  · rw [setB1, setB1, show bt ⟨#[a, b, c, d]⟩ ((1 : Nat) : Int) = b.toNat from rfl, u8_back]
  · rw [setB2, setB2, show bt ⟨#[a, b, c, d]⟩ ((2 : Nat) : Int) = c.toNat from rfl, u8_back]
  · rw [setB3, setB3, show bt ⟨#[a, b, c, d]⟩ ((3 : Nat) : Int) = d.toNat from rfl, u8_back]
theorem set_cuts {s : ByteArray} (h : s.size = 4) {k : Nat} (hk : k < 4) (v : Int) : (setB s k v).extract 0 k = s.extract 0 k ∧ (setB s k v).extract (k + 1) 4 = s.extract (k + 1) 4 := by
  obtain ⟨a, b, c, d, rfl⟩ := str4 h
  rcases four hk with rfl | rfl | rfl | rfl
  · rw [setB0]; exact ⟨rfl, rfl⟩
  · rw [setB1]; exact ⟨rfl, rfl⟩
  · rw [setB2]; exact ⟨rfl, rfl⟩
  · rw [setB3]; exact ⟨rfl, rfl⟩
def pagesSet (h : List ByteArray) (c : List Int) (a k b : Int) : List ByteArray × List Int × Bool :=
  if pagesOk h c = true ∧ pagesHas c a = true ∧ (0 ≤ k ∧ k ≤ 3) ∧ (0 ≤ b ∧ b ≤ 255) then (h.set a.toNat (setB (rdOf ByteArray.empty h a) k.toNat b), c, true) else ([], [], false)
theorem has_at {h : List ByteArray} {c : List Int} {a : Int} (hok : pagesOk h c = true) (ha : pagesHas c a = true) : ∃ m : Nat, a = (m : Int) ∧ m < c.length ∧ 0 < rd c (m : Int) ∧ (rdOf ByteArray.empty h (m : Int)).size = 4 := by
  unfold pagesHas at ha
  simp only [Bool.and_eq_true, decide_eq_true_eq] at ha
  refine ⟨a.toNat, by omega, by omega, by rw [show ((a.toNat : Nat) : Int) = a by omega]; omega, ?_⟩
  have := (pagesOk_row hok (j := a.toNat) (by omega)).2.2
  rw [if_neg (by rw [show ((a.toNat : Nat) : Int) = a by omega]; omega)] at this
  omega
theorem impl_get_any (h : List ByteArray) (c : List Int) (a : Int) (hh : h.length ≤ 1048576) (hc : c.length ≤ 1048576) : Evt (fun k => impl_PagesGet.f k h c a = some (if pagesOk h c = true ∧ pagesHas c a = true then (rdOf ByteArray.empty h a, true) else ((⟨#[]⟩ : ByteArray), false))) := by
  by_cases c1 : pagesOk h c = true
  · by_cases c2 : pagesHas c a = true
    · obtain ⟨m, rfl, m1, m2, m3⟩ := has_at c1 c2
      rw [if_pos ⟨c1, c2⟩]
      exact impl_get_ev c1 m1 m2 hh hc
    · rw [if_neg (fun x => c2 x.2)]
      refine (impl_pagesok_ev h c hh hc).imp fun k hk => ?_
      unfold impl_PagesGet.f
      refine bind_of hk ?_
      rw [if_pos c1]
      refine bind_of (impl_has_eq h c _ hc) ?_
      rw [if_neg c2]
  · rw [if_neg (fun x => c1 x.1)]
    refine (impl_pagesok_ev h c hh hc).imp fun k hk => ?_
    unfold impl_PagesGet.f
    refine bind_of hk ?_
    rw [if_neg c1]
theorem impl_set_ev (h : List ByteArray) (c : List Int) (a x b : Int) (hh : h.length ≤ 1048576) (hc : c.length ≤ 1048576) : Evt (fun k => impl_PagesSet.f k h c a x b = some (pagesSet h c a x b)) := by
  have hg := impl_get_any h c a hh hc
  have jt : ∀ s, Evt (fun k => impl_PagesSet.j0 k a x b s true h c = some ([], [], false)) := fun s => Evt.of1 fun k => by
    simp only [impl_PagesSet.j0]
    rw [if_pos trivial]
  unfold pagesSet
  by_cases c1 : pagesOk h c = true ∧ pagesHas c a = true
  · rw [if_pos c1] at hg
    by_cases c2 : (0 ≤ x ∧ x ≤ 3)
    · have e2 : (decide (0 ≤ x) && decide (x ≤ 3)) = true := by simp [c2]
      by_cases c3 : (0 ≤ b ∧ b ≤ 255)
      · have e3 : (!(decide (0 ≤ b) && decide (b ≤ 255))) = false := by simp [c3]
        rw [if_pos ⟨c1.1, c1.2, c2, c3⟩]
        obtain ⟨m, rfl, m1, m2, m3⟩ := has_at c1.1 c1.2
        obtain ⟨l1, l2, l3⟩ := pagesOk_len c1.1
        obtain ⟨y, rfl⟩ : ∃ y : Nat, x = (y : Int) := ⟨x.toNat, by omega⟩
        have jf : Evt (fun k => impl_PagesSet.j0 k (m : Int) (y : Int) b (rdOf ByteArray.empty h (m : Int)) false h c = some (h.set m (setB (rdOf ByteArray.empty h (m : Int)) y b), c, true)) := Evt.of1 fun k => by
          simp only [impl_PagesSet.j0]
          rw [if_neg (by decide)]
          refine bind_of (impl_pclone_eq h c hh hc) ?_
          refine bind_of (with_eq m3 (by omega) b) ?_
          rw [if_pos (by omega), if_pos (by show (m : Int) < (h.length : Int); omega), Int.toNat_natCast, show b % 256 = b by omega]
        refine (hg.and jf).imp fun k hk => ?_
        unfold impl_PagesSet.f
        refine bind_of hk.1 ?_
        rw [if_pos rfl]
        refine bind_of (in_eq _ _ _) ?_
        rw [e2, if_pos rfl]
        refine bind_of (in_eq _ _ _) ?_
        rw [e3]
        exact hk.2
      · have e3 : (!(decide (0 ≤ b) && decide (b ≤ 255))) = true := by simp; omega
        rw [if_neg (fun z => c3 z.2.2.2)]
        refine (hg.and (jt (rdOf ByteArray.empty h a))).imp fun k hk => ?_
        unfold impl_PagesSet.f
        refine bind_of hk.1 ?_
        rw [if_pos rfl]
        refine bind_of (in_eq _ _ _) ?_
        rw [e2, if_pos rfl]
        refine bind_of (in_eq _ _ _) ?_
        rw [e3]
        exact hk.2
    · have e2 : (decide (0 ≤ x) && decide (x ≤ 3)) = false := by simp; omega
      rw [if_neg (fun z => c2 z.2.2.1)]
      refine (hg.and (jt (rdOf ByteArray.empty h a))).imp fun k hk => ?_
      unfold impl_PagesSet.f
      refine bind_of hk.1 ?_
      rw [if_pos rfl]
      refine bind_of (in_eq _ _ _) ?_
      rw [e2, if_neg (by decide)]
      exact hk.2
  · rw [if_neg c1] at hg
    rw [if_neg (fun z => c1 ⟨z.1, z.2.1⟩)]
    refine (hg.and (jt (⟨#[]⟩ : ByteArray))).imp fun k hk => ?_
    unfold impl_PagesSet.f
    refine bind_of hk.1 ?_
    rw [if_neg (by simp)]
    exact hk.2
theorem spec_set_ev (h : List ByteArray) (c : List Int) (a x b : Int) (hh : h.length ≤ 1048576) (hc : c.length ≤ 1048576) : Evt (fun k => spec_PagesSet.f k h c a x b = some (pagesSet h c a x b)) := by
  have hg := spec_pagesok_ev h c hh hc
  have jt : Evt (fun k => spec_PagesSet.j0 k a x b true h c = some ([], [], false)) := Evt.of1 fun k => by
    simp only [spec_PagesSet.j0]
    rw [if_pos trivial]
  unfold pagesSet
  by_cases c1 : pagesOk h c = true
  · by_cases c1b : pagesHas c a = true
    · by_cases c2 : (0 ≤ x ∧ x ≤ 3)
      · have e2 : (decide (0 ≤ x) && decide (x ≤ 3)) = true := by simp [c2]
        by_cases c3 : (0 ≤ b ∧ b ≤ 255)
        · have e3 : (!(decide (0 ≤ b) && decide (b ≤ 255))) = false := by simp [c3]
          rw [if_pos ⟨c1, c1b, c2, c3⟩]
          obtain ⟨m, rfl, m1, m2, m3⟩ := has_at c1 c1b
          obtain ⟨l1, l2, l3⟩ := pagesOk_len c1
          obtain ⟨y, rfl⟩ : ∃ y : Nat, x = (y : Int) := ⟨x.toNat, by omega⟩
          have jf : Evt (fun k => spec_PagesSet.j0 k (m : Int) (y : Int) b false h c = some (h.set m (setB (rdOf ByteArray.empty h (m : Int)) y b), c, true)) := Evt.of1 fun k => by
            simp only [spec_PagesSet.j0]
            rw [if_neg (by decide)]
            refine bind_of (spec_pcopy_eq h c hh hc) ?_
            rw [if_pos (by omega), if_pos (by show (m : Int) < (h.length : Int); omega)]
            refine bind_of (l1set_eq m3 (by omega) b) ?_
            rw [Int.toNat_natCast, show b % 256 = b by omega]
          refine (hg.and jf).imp fun k hk => ?_
          unfold spec_PagesSet.f
          refine bind_of hk.1 ?_
          rw [if_pos c1]
          refine bind_of (spec_used_eq h c _ hc) ?_
          rw [if_pos c1b]
          refine bind_of (l6in_eq _ _ _) ?_
          rw [e2, if_pos rfl]
          refine bind_of (l6in_eq _ _ _) ?_
          rw [e3]
          exact hk.2
        · have e3 : (!(decide (0 ≤ b) && decide (b ≤ 255))) = true := by simp; omega
          rw [if_neg (fun z => c3 z.2.2.2)]
          refine (hg.and jt).imp fun k hk => ?_
          unfold spec_PagesSet.f
          refine bind_of hk.1 ?_
          rw [if_pos c1]
          refine bind_of (spec_used_eq h c _ hc) ?_
          rw [if_pos c1b]
          refine bind_of (l6in_eq _ _ _) ?_
          rw [e2, if_pos rfl]
          refine bind_of (l6in_eq _ _ _) ?_
          rw [e3]
          exact hk.2
      · have e2 : (decide (0 ≤ x) && decide (x ≤ 3)) = false := by simp; omega
        rw [if_neg (fun z => c2 z.2.2.1)]
        refine (hg.and jt).imp fun k hk => ?_
        unfold spec_PagesSet.f
        refine bind_of hk.1 ?_
        rw [if_pos c1]
        refine bind_of (spec_used_eq h c _ hc) ?_
        rw [if_pos c1b]
        refine bind_of (l6in_eq _ _ _) ?_
        rw [e2, if_neg (by decide)]
        exact hk.2
    · rw [if_neg (fun z => c1b z.2.1)]
      refine (hg.and jt).imp fun k hk => ?_
      unfold spec_PagesSet.f
      refine bind_of hk.1 ?_
      rw [if_pos c1]
      refine bind_of (spec_used_eq h c _ hc) ?_
      rw [if_neg c1b]
      exact hk.2
  · rw [if_neg (fun z => c1 z.1)]
    refine (hg.and jt).imp fun k hk => ?_
    unfold spec_PagesSet.f
    refine bind_of hk.1 ?_
    rw [if_neg c1]
    exact hk.2

theorem set_ok {h : List ByteArray} {c : List Int} (hok : pagesOk h c = true) {m : Nat} (m1 : m < c.length) (m2 : 0 < rd c (m : Int)) {t : ByteArray} (ht : t.size = 4) : pagesOk (h.set m t) c = true := by
  obtain ⟨l1, l2, l3, l4⟩ := (pagesOk_iff h c).1 hok
  refine (pagesOk_iff _ _).2 ⟨by simpa using l1, l2, l3, fun j hj => ?_⟩
  obtain ⟨r1, r2, r3⟩ := l4 j hj
  rw [rdB_setN _ _ _ _ (by omega)]
  by_cases e : m = j
  · rw [if_pos e]
    subst e
    rw [if_neg (by omega)]
    exact ⟨r1, r2, ht⟩
  · rw [if_neg e]
    exact ⟨r1, r2, r3⟩
theorem drawset_ev {l : List Int} (hl : Bytes l) : ∃ h c a x b, PB h c ∧ Evt (fun k => spec_DrawPagesSet.f k l = some (h, c, a, x, b)) := by
  obtain ⟨s, hs, hsb⟩ := open_ev hl
  obtain ⟨h, c, q, hd, hb, q1, q2⟩ := drawpages_ev hsb (p := 0) (by omega) (by omega)
  obtain ⟨a, r, ha, r1, r2⟩ := at_ev hsb (p := q) (by omega) (by omega)
  obtain ⟨x, hx, x0, x1, _⟩ := pick_ev hsb (p := r) 6 (by omega) (by omega)
  obtain ⟨y, hy, y0, y1, _⟩ := pick_ev hsb (p := r + 1) 256 (by omega) (by omega)
  obtain ⟨z, hz, z0, z1, _⟩ := pick_ev hsb (p := r + 1 + 1) 5 (by omega) (by omega)
  have z2 := z1 (by omega)
  refine ⟨h, c, a, wrap64 (x - 1), rd [0, 255, y, 256, -1] z, hb, (((hd.and ha).and hx).and (hy.and hz)).imp fun k hk => ?_⟩
  obtain ⟨⟨⟨k1, k2⟩, k3⟩, k4, k5⟩ := hk
  unfold spec_DrawPagesSet.f
  refine bind_of hs ?_
  refine bind_of k1 ?_
  refine bind_of k2 ?_
  refine bind_of k3 ?_
  refine bind_of k4 ?_
  refine bind_of rfl ?_
  refine bind_of k5 ?_
  rw [if_pos z0, if_pos (show z < (([0, 255, y, 256, -1] : List Int).length : Int) from by simpa using z2)]
theorem FnPagesSet : laws_FnPagesSet.Pure := by
  intro l0 _ _ hb0
  by_cases hlen : (l0.length : Int) > 1048576
  · exact ⟨0, by unfold laws_FnPagesSet.f; rw [if_pos hlen]⟩
  obtain ⟨h, c, a, x, b, ⟨b1, b2⟩, hdr⟩ := drawset_ev (bytes_of hb0)
  have h1 := impl_set_ev h c a x b (by omega) (by omega)
  have h2 := spec_set_ev h c a x b (by omega) (by omega)
  by_cases cc : pagesOk h c = true ∧ pagesHas c a = true ∧ (0 ≤ x ∧ x ≤ 3) ∧ (0 ≤ b ∧ b ≤ 255)
  · rw [pagesSet, if_pos cc] at h1 h2
    obtain ⟨c1, c2, c3, c4⟩ := cc
    obtain ⟨m, rfl, m1, m2, m3⟩ := has_at c1 c2
    obtain ⟨l1, l2, l3⟩ := pagesOk_len c1
    obtain ⟨y, rfl⟩ : ∃ y : Nat, x = (y : Int) := ⟨x.toNat, by omega⟩
    have hy : y < 4 := by omega
    rw [Int.toNat_natCast, Int.toNat_natCast] at h1 h2
    obtain ⟨t, ht⟩ : ∃ t, t = rdOf ByteArray.empty h (m : Int) := ⟨_, rfl⟩
    rw [← ht] at h1 h2 m3
    have t4 := setB_size m3 y b
    have ok2 := set_ok c1 m1 m2 t4
    have e3 := qdpages_refl (h.set m (setB t y b)) c (by simp; omega) (by omega)
    have g1 := impl_get_ev ok2 m1 m2 (by simp; omega) (by omega)
    rw [rdB_setN _ _ _ _ (by omega), if_pos rfl] at g1
    have g2 := impl_get_ev c1 m1 m2 (by omega) (by omega)
    rw [← ht] at g2
    obtain ⟨o, ho⟩ : ∃ o, o = bt t (y : Int) := ⟨_, rfl⟩
    have hr := bt_range t (y : Int)
    have ow : wrap64 (bt t (y : Int)) = o := by rw [ho]; exact wrap_in (by omega) (by omega)
    have g3 := impl_set_ev (h.set m (setB t y b)) c (m : Int) (y : Int) o (by simp; omega) (by omega)
    have back : pagesSet (h.set m (setB t y b)) c (m : Int) (y : Int) o = (h, c, true) := by
      rw [pagesSet, if_pos ⟨ok2, c2, c3, by omega⟩, Int.toNat_natCast, Int.toNat_natCast, rdB_setN _ _ _ _ (by omega), if_pos rfl, ho, set_back m3 hy, List.set_set, setB_same h m t (by omega) ht.symm]
    rw [back] at g3
    have e4 := qdpages_refl h c (by omega) (by omega)
    have cuts := set_cuts m3 hy b
    have btb := bt_set m3 hy c4.1 c4.2
    have yw : wrap64 ((y : Int) + 1) = ((y + 1 : Nat) : Int) := nat_succ_wrap (by omega)
    have bw : wrap64 (bt (setB t y b) (y : Int)) = b := by rw [btb]; exact wrap_in (by omega) (by omega)
    clear back ok2 hr btb ho
    generalize setB t y b = s2 at *
    have cut1 : (s2.extract 0 (y : Int).toNat).toList = (t.extract 0 (y : Int).toNat).toList := by rw [Int.toNat_natCast, cuts.1]
    have cut2 : (s2.extract ((y + 1 : Nat) : Int).toNat s2.size).toList = (t.extract ((y + 1 : Nat) : Int).toNat t.size).toList := by rw [Int.toNat_natCast, t4, m3, cuts.2]
    have OW := PLift.up ow
    have YW := PLift.up yw
    have BW := PLift.up bw
    clear ow yw bw
    have q1 : (0 : Int) ≤ (y : Int) := by omega
    have q2 : (y : Int) < (t.size : Int) := by rw [m3]; omega
    have q3 : (y : Int) < (s2.size : Int) := by rw [t4]; omega
    have q4 : (y : Int) ≤ (t.size : Int) := by rw [m3]; omega
    have q5 : (y : Int) ≤ (s2.size : Int) := by rw [t4]; omega
    have q6 : (0 : Int) ≤ ((y + 1 : Nat) : Int) := by omega
    have q7 : ((y + 1 : Nat) : Int) ≤ (t.size : Int) := by rw [m3]; omega
    have q8 : ((y + 1 : Nat) : Int) ≤ (s2.size : Int) := by rw [t4]; omega
    have j1 : Evt (fun k => laws_FnPagesSet.j1 k (m : Int) (y : Int) b true false h c (h.set m s2) c = some true) := by
      refine ((g1.and g2).and (g3.and e4)).step fun k hk => ?_
      obtain ⟨⟨k1, k2⟩, k3, k4⟩ := hk
      simp only [laws_FnPagesSet.j1]
      rw [if_neg (by decide)]
      refine bind_of k1 ?_
      refine bind_of k2 ?_
      show (if (0 : Int) ≤ (y : Int) then (if (y : Int) < (t.size : Int) then _ else none) else none) = some true
      rw [if_pos q1, if_pos q2, OW.down]
      refine bind_of k3 ?_
      rw [if_pos q3, BW.down, if_pos rfl, if_pos q5, if_pos q4, if_pos cut1, YW.down, if_pos q6, if_pos q8, if_pos q7, if_pos cut2, if_pos rfl]
      exact bind_of k4 rfl
    have j0 : Evt (fun k => laws_FnPagesSet.j0 k (m : Int) (y : Int) b true true h c (h.set m s2) c = some true) := j1.step fun k hk => by
      simp only [laws_FnPagesSet.j0]
      rw [if_pos trivial]
      exact hk
    refine Evt.some_ (((hdr.and h1).and (h2.and e3)).and j0 |>.imp fun k hk => ?_)
    obtain ⟨⟨⟨k1, k2⟩, k3, k4⟩, k5⟩ := hk
    unfold laws_FnPagesSet.f
    rw [if_neg hlen]
    refine bind_of k1 ?_
    refine bind_of k2 ?_
    refine bind_of k3 ?_
    refine bind_of k4 ?_
    rw [if_pos rfl]
    exact k5
  · rw [pagesSet, if_neg cc] at h1 h2
    have e3 := qdpages_refl [] [] (by simp) (by simp)
    have j1 : Evt (fun k => laws_FnPagesSet.j1 k a x b true true h c [] [] = some true) := Evt.of1 fun k => by
      simp only [laws_FnPagesSet.j1]
      rw [if_pos trivial]
    have j0 : Evt (fun k => laws_FnPagesSet.j0 k a x b false true h c [] [] = some true) := j1.step fun k hk => by
      simp only [laws_FnPagesSet.j0]
      rw [if_pos trivial]
      exact hk
    refine Evt.some_ (((hdr.and h1).and (h2.and e3)).and j0 |>.imp fun k hk => ?_)
    obtain ⟨⟨⟨k1, k2⟩, k3, k4⟩, k5⟩ := hk
    unfold laws_FnPagesSet.f
    rw [if_neg hlen]
    refine bind_of k1 ?_
    refine bind_of k2 ?_
    refine bind_of k3 ?_
    refine bind_of k4 ?_
    rw [if_pos rfl]
    exact k5

end Go.Proofs.Ytpdfkbggaihfpaa.Pure
