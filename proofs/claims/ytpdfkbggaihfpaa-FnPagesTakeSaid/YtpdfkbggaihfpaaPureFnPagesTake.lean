/- Proved: for every code, the law FnPagesTake answers true and leaves its argument as it was (what is taken is read, and can be given back). No condition beyond the row's own. -/
import Derived.Test.YtpdfkbggaihfpaaPFnPagesTakex15
import Derived.Test.YtpdfkbggaihfpaaAuxFnPagesTake
namespace Go.Proofs.Ytpdfkbggaihfpaa.Pure
open Go.RowKit Go.Proofs.Ytpdfkbggaihfpaa.PFnPagesTake Go.Proofs.YtpdfkbggaihfpaaW.PrintWords Go.Proofs.YtpdfkbggaihfpaaW.PrintLast Go.Proofs.YtpdfkbggaihfpaaW.PrintMore Go.Proofs.Ytpdfkbggaihfpaa.Aux
set_option linter.unusedVariables false
set_option linter.unusedSimpArgs false
theorem pick_ev {l : List Int} (hl : Bytes l) {p : Int} (n : Int) (h0 : 0 ≤ p) (h1 : p < 1000000) :
    ∃ v, Evt (fun k => spec_l6Rd_pick.f k l p n = some (v, p + 1)) ∧ 0 ≤ v ∧ (1 ≤ n → v < n) ∧ (n < 1 → v = 0) := by
  have e1 : wrap64 (p + 1) = p + 1 := wrap_in (by omega) (by omega)
  have e2 : wrap64 (p + 1 - 1) = p := by rw [Int.add_sub_cancel]; exact wrap_in (by omega) (by omega)
  by_cases hn : n < 1
  · refine ⟨0, Evt.of1 fun k => ?_, by omega, by omega, fun _ => rfl⟩
    unfold spec_l6Rd_pick.f
    rw [if_pos hn, e1]
    simp only [spec_l6Rd_pick.j0, if_true]
  · by_cases hz : l.length = 0
    · refine ⟨0, Evt.of1 fun k => ?_, by omega, by omega, fun _ => rfl⟩
      unfold spec_l6Rd_pick.f
      have hz' : ((l.length : Int) == 0) = true := by simp [hz]
      rw [if_neg hn, e1, hz']
      simp only [spec_l6Rd_pick.j0, if_true]
    · have hz' : ((l.length : Int) == 0) = false := by simpa using hz
      have hlen : (0 : Int) < (l.length : Int) := by omega
      by_cases hlt : p < (l.length : Int)
      · have hr := rd_byte hl p
        have hr2 : wrap64 (rd l p) = rd l p := wrap_in (by omega) (by omega)
        have ht := tmod_range (a := rd l p) (n := n) (by omega) (by omega)
        refine ⟨Int.tmod (rd l p) n, Evt.of1 fun k => ?_, ht.1, fun _ => ht.2, fun h => by omega⟩
        unfold spec_l6Rd_pick.f
        rw [if_neg hn, e1, hz']
        simp only [spec_l6Rd_pick.j0]
        rw [e2, if_neg (by decide), if_pos hlt, if_pos h0, if_neg (by omega), hr2]
      · have e3 : wrap64 (wrap64 (p * 7) + 3) = p * 7 + 3 := by
          rw [wrap_in (n := p * 7) (by omega) (by omega)]
          exact wrap_in (by omega) (by omega)
        have ta := tmod_range (a := p) (n := (l.length : Int)) h0 hlen
        have tb := tmod_range (a := p * 7 + 3) (n := (l.length : Int)) (by omega) hlen
        have td := tdiv_range (a := p) (n := (l.length : Int)) h0 hlen
        have ra := rd_byte hl (Int.tmod p (l.length : Int))
        have rb := rd_byte hl (Int.tmod (p * 7 + 3) (l.length : Int))
        obtain ⟨x, hx, x0, x1⟩ := mix_range ra.1 ra.2 rb.1 rb.2 h0 (by omega) td.1 td.2
        have xd := tdiv_range (a := x) (n := 64) x0 (by decide)
        have xw : wrap64 (Int.tdiv x 64) = Int.tdiv x 64 := wrap_in (by omega) (by omega)
        have xx := xor_range (a := x) (b := Int.tdiv x 64) x0 x1 xd.1 (by omega)
        have tv := tmod_range (a := Go.bits .xor .i64 x (Int.tdiv x 64)) (n := n) xx.1 (by omega)
        refine ⟨Int.tmod (Go.bits .xor .i64 x (Int.tdiv x 64)) n, Evt.of1 fun k => ?_, tv.1, fun _ => tv.2, fun h => by omega⟩
        unfold spec_l6Rd_pick.f
        rw [if_neg hn, e1, hz']
        simp only [spec_l6Rd_pick.j0]
        rw [e2, e3, if_neg (by decide), if_neg hlt, if_neg (by omega), if_pos ta.1, if_pos ta.2, if_pos tb.1, if_pos tb.2, if_neg (by omega), hx, xw]
theorem open_ev {l : List Int} (hl : Bytes l) : ∃ s, spec_l6Open.f l = some (s, 0) ∧ Bytes s := by
  unfold spec_l6Open.f
  by_cases h : (l.length : Int) > 2000
  · exact ⟨l.take 2000, by rw [if_pos h, if_pos (by omega)], hl.take _⟩
  · exact ⟨l, by rw [if_neg h], hl⟩

theorem in_eq (a b c : Int) : impl_in.f a b c = some (decide (b ≤ a) && decide (a ≤ c)) := by
  unfold impl_in.f
  by_cases h : a ≥ b
  · rw [if_pos h]; simp [show b ≤ a from h]
  · rw [if_neg h]; simp [show ¬ b ≤ a from h]
theorem l6in_eq (a b c : Int) : spec_l6In.f a b c = some (decide (b ≤ a) && decide (a ≤ c)) := by
  unfold spec_l6In.f
  by_cases h : a ≥ b
  · rw [if_pos h]; simp [show b ≤ a from h]
  · rw [if_neg h]; simp [show ¬ b ≤ a from h]

def okRow (h : List ByteArray) (c : List Int) (i : Nat) : Bool :=
  (decide (0 ≤ rd c i) && decide (rd c i ≤ 99)) && decide (((rdOf ByteArray.empty h (i : Int)).size : Int) = if rd c i = 0 then 0 else 4)
def okRows (h : List ByteArray) (c : List Int) : Nat → Nat → Bool
  | 0, _ => true
  | d + 1, i => okRow h c i && okRows h c d (i + 1)
def pagesOk (h : List ByteArray) (c : List Int) : Bool := decide (h.length = c.length) && (decide (1 ≤ (h.length : Int)) && decide ((h.length : Int) ≤ 12)) && okRows h c c.length 0
theorem pagesOk_len {h : List ByteArray} {c : List Int} (k : pagesOk h c = true) : h.length = c.length ∧ 1 ≤ h.length ∧ h.length ≤ 12 := by
  simp [pagesOk] at k
  omega
theorem okRows_get (h : List ByteArray) (c : List Int) : ∀ (d i : Nat), okRows h c d i = true → ∀ j, i ≤ j → j < i + d → okRow h c j = true
  | 0, _, _, _, _, _ => by omega
  | d + 1, i, k, j, h1, h2 => by
    simp only [okRows, Bool.and_eq_true] at k
    by_cases e : j = i
    · rw [e]; exact k.1
    · exact okRows_get h c d (i + 1) k.2 j (by omega) (by omega)
theorem pagesOk_row {h : List ByteArray} {c : List Int} (k : pagesOk h c = true) {j : Nat} (hj : j < c.length) : 0 ≤ rd c j ∧ rd c j ≤ 99 ∧ ((rdOf ByteArray.empty h (j : Int)).size : Int) = if rd c j = 0 then 0 else 4 := by
  simp only [pagesOk, Bool.and_eq_true] at k
  have := okRows_get h c c.length 0 k.2 j (by omega) (by omega)
  simp [okRow] at this
  simpa [and_assoc] using this
theorem impl_pagesok_loop (h : List ByteArray) (c : List Int) (hl : h.length = c.length) (hc : c.length ≤ 1048576) : ∀ (d i : Nat), i + d = c.length →
    Evt (fun k => impl_PagesOk.l0 k c (c.length : Int) (i : Int) h c = some (okRows h c d i)) := by
  intro d
  induction d with
  | zero =>
    intro i hi
    refine Evt.of1 fun k => ?_
    simp only [impl_PagesOk.l0]
    rw [if_neg (by omega)]
    rfl
  | succ d ih =>
    intro i hi
    refine (ih (i + 1) (by omega)).step fun k hk => ?_
    simp only [impl_PagesOk.l0]
    rw [if_pos (by omega), if_pos (by omega), if_pos (by omega), nat_succ_wrap (by omega)]
    by_cases h0 : rd c (i : Int) = 0
    · rw [if_pos h0]
      refine bind_of (in_eq _ _ _) ?_
      rw [if_pos (by simp [h0]), if_pos (by omega)]
      by_cases h2 : ((rdOf ByteArray.empty h (i : Int)).size : Int) = 0
      · rw [if_pos h2, hk]
        simp [okRows, okRow, h0, h2]
      · rw [if_neg h2]
        simp only [okRows, okRow, h0, if_pos, decide_eq_false h2, Bool.and_false, Bool.false_and]
    · rw [if_neg h0]
      refine bind_of (in_eq _ _ _) ?_
      by_cases h1 : (decide (0 ≤ rd c (i : Int)) && decide (rd c (i : Int) ≤ 99)) = true
      · rw [if_pos h1, if_pos (by omega)]
        by_cases h2 : ((rdOf ByteArray.empty h (i : Int)).size : Int) = 4
        · rw [if_pos h2, hk]
          simp only [okRows, okRow, h1, if_neg h0, decide_eq_true h2, Bool.and_true, Bool.true_and]
        · rw [if_neg h2]
          simp only [okRows, okRow, if_neg h0, decide_eq_false h2, Bool.and_false, Bool.false_and]
      · rw [if_neg h1]
        simp only [okRows, okRow, eq_false_of_ne_true h1, Bool.false_and]
theorem impl_pagesok_ev (h : List ByteArray) (c : List Int) (hh : h.length ≤ 1048576) (hc : c.length ≤ 1048576) : Evt (fun k => impl_PagesOk.f k h c = some (pagesOk h c)) := by
  by_cases hl : h.length = c.length
  · by_cases hb : (decide (1 ≤ (h.length : Int)) && decide ((h.length : Int) ≤ 12)) = true
    · refine (impl_pagesok_loop h c hl hc c.length 0 (by omega)).step fun k hk => ?_
      unfold impl_PagesOk.f
      rw [if_pos (by omega)]
      refine bind_of (in_eq _ _ _) ?_
      simp only [impl_PagesOk.j0, hb]
      rw [if_neg (by decide)]
      refine hk.trans ?_
      simp [pagesOk, hl]
      intro _ 
      simp only [hl, Bool.and_eq_true, decide_eq_true_eq] at hb
      omega
    · refine Evt.of1 fun k => ?_
      unfold impl_PagesOk.f
      rw [if_pos (by omega)]
      refine bind_of (in_eq _ _ _) ?_
      simp only [impl_PagesOk.j0, eq_false_of_ne_true hb]
      rw [if_pos (by decide)]
      simp only [pagesOk, eq_false_of_ne_true hb, Bool.and_false, Bool.false_and]
  · refine Evt.of1 fun k => ?_
    unfold impl_PagesOk.f
    rw [if_neg (by omega)]
    simp only [impl_PagesOk.j0]
    rw [if_pos trivial]
    simp only [pagesOk, decide_eq_false hl, Bool.false_and]
theorem spec_pagesok_loop (h : List ByteArray) (c : List Int) (hl : h.length = c.length) (hc : c.length ≤ 1048576) : ∀ (d i : Nat), i + d = c.length →
    Evt (fun k => spec_PagesOk.l0 k (i : Int) h c = some (okRows h c d i)) := by
  intro d
  induction d with
  | zero =>
    intro i hi
    refine Evt.of1 fun k => ?_
    simp only [spec_PagesOk.l0]
    rw [if_neg (by omega)]
    rfl
  | succ d ih =>
    intro i hi
    refine (ih (i + 1) (by omega)).step fun k hk => ?_
    simp only [spec_PagesOk.l0]
    rw [if_pos (by omega), if_pos (by omega), if_pos (by omega), nat_succ_wrap (by omega)]
    by_cases h0 : rd c (i : Int) = 0
    · rw [if_pos h0]
      refine bind_of (l6in_eq _ _ _) ?_
      rw [if_pos (by simp [h0])]
      by_cases h2 : ((rdOf ByteArray.empty h (i : Int)).size : Int) = 0
      · rw [if_pos h2, hk]
        simp [okRows, okRow, h0, h2]
      · rw [if_neg h2]
        simp only [okRows, okRow, h0, if_pos, decide_eq_false h2, Bool.and_false, Bool.false_and]
    · rw [if_neg h0]
      refine bind_of (l6in_eq _ _ _) ?_
      by_cases h1 : (decide (0 ≤ rd c (i : Int)) && decide (rd c (i : Int) ≤ 99)) = true
      · rw [if_pos h1]
        by_cases h2 : ((rdOf ByteArray.empty h (i : Int)).size : Int) = 4
        · rw [if_pos h2, hk]
          simp only [okRows, okRow, h1, if_neg h0, decide_eq_true h2, Bool.and_true, Bool.true_and]
        · rw [if_neg h2]
          simp only [okRows, okRow, if_neg h0, decide_eq_false h2, Bool.and_false, Bool.false_and]
      · rw [if_neg h1]
        simp only [okRows, okRow, eq_false_of_ne_true h1, Bool.false_and]
theorem spec_pagesok_ev (h : List ByteArray) (c : List Int) (hh : h.length ≤ 1048576) (hc : c.length ≤ 1048576) : Evt (fun k => spec_PagesOk.f k h c = some (pagesOk h c)) := by
  by_cases hl : h.length = c.length
  · by_cases hb : (decide (1 ≤ (h.length : Int)) && decide ((h.length : Int) ≤ 12)) = true
    · refine (spec_pagesok_loop h c hl hc c.length 0 (by omega)).step fun k hk => ?_
      unfold spec_PagesOk.f
      rw [if_pos (by omega)]
      refine bind_of (l6in_eq _ _ _) ?_
      simp only [spec_PagesOk.j0, hb]
      rw [if_neg (by decide)]
      refine hk.trans ?_
      simp [pagesOk, hl]
      intro _ 
      simp only [hl, Bool.and_eq_true, decide_eq_true_eq] at hb
      omega
    · refine Evt.of1 fun k => ?_
      unfold spec_PagesOk.f
      rw [if_pos (by omega)]
      refine bind_of (l6in_eq _ _ _) ?_
      simp only [spec_PagesOk.j0, eq_false_of_ne_true hb]
      rw [if_pos (by decide)]
      simp only [pagesOk, eq_false_of_ne_true hb, Bool.and_false, Bool.false_and]
  · refine Evt.of1 fun k => ?_
    unfold spec_PagesOk.f
    rw [if_neg (by omega)]
    simp only [spec_PagesOk.j0]
    rw [if_pos trivial]
    simp only [pagesOk, decide_eq_false hl, Bool.false_and]

def pagesHas (c : List Int) (a : Int) : Bool := (decide (0 ≤ a) && decide (a ≤ (c.length : Int) - 1)) && decide (rd c a > 0)

theorem impl_has_eq (h : List ByteArray) (c : List Int) (a : Int) (hc : c.length ≤ 1048576) : impl_Pages_has.f h c a = some (pagesHas c a) := by
  unfold impl_Pages_has.f
  rw [wrap_in (n := (c.length : Int) - 1) (by omega) (by omega)]
  refine bind_of (in_eq _ _ _) ?_
  by_cases h1 : (decide (0 ≤ a) && decide (a ≤ (c.length : Int) - 1)) = true
  · have h2 := h1
    simp only [Bool.and_eq_true, decide_eq_true_eq] at h2
    rw [if_pos h1, if_pos (by omega), if_pos (by omega)]
    simp only [pagesHas, h1, Bool.true_and]
  · rw [if_neg h1]
    simp only [pagesHas, eq_false_of_ne_true h1, Bool.false_and]

theorem spec_used_eq (h : List ByteArray) (c : List Int) (a : Int) (hc : c.length ≤ 1048576) : spec_l1Used.f h c a = some (pagesHas c a) := by
  unfold spec_l1Used.f
  rw [wrap_in (n := (c.length : Int) - 1) (by omega) (by omega)]
  refine bind_of (l6in_eq _ _ _) ?_
  by_cases h1 : (decide (0 ≤ a) && decide (a ≤ (c.length : Int) - 1)) = true
  · have h2 := h1
    simp only [Bool.and_eq_true, decide_eq_true_eq] at h2
    rw [if_pos h1, if_pos (by omega), if_pos (by omega)]
    simp only [pagesHas, h1, Bool.true_and]
  · rw [if_neg h1]
    simp only [pagesHas, eq_false_of_ne_true h1, Bool.false_and]

theorem impl_pclone_eq (h : List ByteArray) (c : List Int) (hh : h.length ≤ 1048576) (hc : c.length ≤ 1048576) : impl_Pages_clone.f h c = some (h, c) := by
  unfold impl_Pages_clone.f
  refine bind_of rfl ?_
  rw [if_pos (by simp; omega)]
  refine bind_of rfl ?_
  rw [if_pos (by simp; omega)]
  rfl

theorem spec_pcopy_eq (h : List ByteArray) (c : List Int) (hh : h.length ≤ 1048576) (hc : c.length ≤ 1048576) : spec_l1Copy.f h c = some (h, c) := by
  unfold spec_l1Copy.f
  refine bind_of rfl ?_
  rw [if_pos (by simp; omega)]
  refine bind_of rfl ?_
  rw [if_pos (by simp; omega)]
  rfl

theorem rd_setN (c : List Int) (a j : Nat) (v : Int) (ha : a < c.length) : rd (c.set a v) (j : Int) = if a = j then v else rd c (j : Int) := by
  unfold rd
  rw [Int.toNat_natCast, List.getD_eq_getElem?_getD, List.getD_eq_getElem?_getD, List.getElem?_set]
  by_cases e : a = j
  · rw [if_pos e, if_pos e, if_pos (by omega)]
    rfl
  · rw [if_neg e, if_neg e]
theorem rdB_setN (h : List ByteArray) (a j : Nat) (v : ByteArray) (ha : a < h.length) : rdOf ByteArray.empty (h.set a v) (j : Int) = if a = j then v else rdOf ByteArray.empty h (j : Int) := by
  unfold rdOf
  rw [Int.toNat_natCast, List.getD_eq_getElem?_getD, List.getD_eq_getElem?_getD, List.getElem?_set]
  by_cases e : a = j
  · rw [if_pos e, if_pos e, if_pos (by omega)]
    rfl
  · rw [if_neg e, if_neg e]
theorem set_same (c : List Int) (a : Nat) (v : Int) (ha : a < c.length) (hv : rd c (a : Int) = v) : c.set a v = c := by
  apply List.ext_getElem?
  intro j
  rw [List.getElem?_set]
  by_cases e : a = j
  · subst e
    rw [if_pos rfl, if_pos ha, ← hv]
    unfold rd
    rw [Int.toNat_natCast, List.getD_eq_getElem?_getD, List.getElem?_eq_getElem ha]
    rfl
  · rw [if_neg e]
theorem setB_same (c : List ByteArray) (a : Nat) (v : ByteArray) (ha : a < c.length) (hv : rdOf ByteArray.empty c (a : Int) = v) : c.set a v = c := by
  apply List.ext_getElem?
  intro j
  rw [List.getElem?_set]
  by_cases e : a = j
  · subst e
    rw [if_pos rfl, if_pos ha, ← hv]
    unfold rdOf
    rw [Int.toNat_natCast, List.getD_eq_getElem?_getD, List.getElem?_eq_getElem ha]
    rfl
  · rw [if_neg e]
theorem bytes_empty {b : ByteArray} (h : b.size = 0) : b = (⟨#[]⟩ : ByteArray) := by
  cases b with
  | mk d => exact congrArg ByteArray.mk (Array.eq_empty_of_size_eq_zero h)
def sumF (f : Int → Int) (c : List Int) : Nat → Nat → Int
  | 0, _ => 0
  | d + 1, i => f (rd c (i : Int)) + sumF f c d (i + 1)
theorem sumF_set (f : Int → Int) (c : List Int) (a : Nat) (v : Int) (ha : a < c.length) : ∀ (d i : Nat), sumF f (c.set a v) d i = sumF f c d i + if i ≤ a ∧ a < i + d then f v - f (rd c (a : Int)) else 0
  | 0, i => by simp [sumF]; intro h1 h2; omega
  | d + 1, i => by
    rw [sumF, sumF, sumF_set f c a v ha d (i + 1), rd_setN c a i v ha]
    by_cases e : a = i
    · subst e
      rw [if_pos rfl, if_neg (by omega), if_pos (by omega)]
      omega
    · rw [if_neg e]
      by_cases h : i ≤ a ∧ a < i + (d + 1)
      · rw [if_pos h, if_pos (by omega)]
        omega
      · rw [if_neg h, if_neg (by omega)]
        omega
theorem sumF_range (f : Int → Int) (c : List Int) (lo hi : Int) (hl : lo ≤ 0) (hh : 0 ≤ hi) : ∀ (d i : Nat), (∀ j : Nat, i ≤ j → j < i + d → lo ≤ f (rd c (j : Int)) ∧ f (rd c (j : Int)) ≤ hi) → lo * d ≤ sumF f c d i ∧ sumF f c d i ≤ hi * d
  | 0, i, _ => by simp [sumF]
  | d + 1, i, h => by
    have h1 := h i (by omega) (by omega)
    have h2 := sumF_range f c lo hi hl hh d (i + 1) (fun j g1 g2 => h j (by omega) (by omega))
    rw [sumF]
    constructor
    · have : lo * ((d + 1 : Nat) : Int) = lo * (d : Int) + lo := by rw [Int.natCast_add, Int.mul_add]; simp
      omega
    · have : hi * ((d + 1 : Nat) : Int) = hi * (d : Int) + hi := by rw [Int.natCast_add, Int.mul_add]; simp
      omega
def ind (x : Int) : Int := if x = 0 then 1 else 0
theorem ind_range (x : Int) : 0 ≤ ind x ∧ ind x ≤ 1 := by unfold ind; split <;> omega
def fr (c : List Int) : Nat → Nat → Int
  | 0, _ => -1
  | d + 1, i => if rd c (i : Int) = 0 then (i : Int) else fr c d (i + 1)
theorem fr_spec (c : List Int) : ∀ (d i : Nat), (fr c d i = -1 ∧ sumF ind c d i = 0) ∨ (∃ a : Nat, fr c d i = (a : Int) ∧ i ≤ a ∧ a < i + d ∧ rd c (a : Int) = 0 ∧ 0 < sumF ind c d i)
  | 0, i => .inl ⟨rfl, rfl⟩
  | d + 1, i => by
    have hr := (sumF_range ind c 0 1 (by omega) (by omega) d (i + 1) (fun j _ _ => ind_range _)).1
    rw [fr, sumF]
    by_cases e : rd c (i : Int) = 0
    · rw [if_pos e, show ind (rd c (i : Int)) = 1 from by rw [ind, if_pos e]]
      exact .inr ⟨i, rfl, by omega, by omega, e, by omega⟩
    · rw [if_neg e, show ind (rd c (i : Int)) = 0 from by rw [ind, if_neg e]]
      rcases fr_spec c d (i + 1) with ⟨h1, h2⟩ | ⟨a, h1, h2, h3, h4, h5⟩
      · exact .inl ⟨h1, by omega⟩
      · exact .inr ⟨a, h1, by omega, by omega, h4, by omega⟩

theorem has_get {c : List Int} {a : Int} (h : pagesHas c a = true) : ∃ m : Nat, a = (m : Int) ∧ m < c.length ∧ 0 < rd c (m : Int) := by
  simp only [pagesHas, Bool.and_eq_true, decide_eq_true_eq] at h
  refine ⟨a.toNat, by omega, by omega, ?_⟩
  rw [show ((a.toNat : Nat) : Int) = a by omega]
  exact h.2
theorem has_of {c : List Int} {m : Nat} (h1 : m < c.length) (h2 : 0 < rd c (m : Int)) : pagesHas c (m : Int) = true := by
  simp only [pagesHas, Bool.and_eq_true, decide_eq_true_eq]
  exact ⟨by omega, h2⟩
theorem pagesOk_iff (h : List ByteArray) (c : List Int) : pagesOk h c = true ↔ h.length = c.length ∧ 1 ≤ c.length ∧ c.length ≤ 12 ∧ ∀ j : Nat, j < c.length → (0 ≤ rd c (j : Int) ∧ rd c (j : Int) ≤ 99 ∧ (rdOf ByteArray.empty h (j : Int)).size = if rd c (j : Int) = 0 then 0 else 4) := by
  constructor
  · intro k
    obtain ⟨l1, l2, l3⟩ := pagesOk_len k
    refine ⟨l1, by omega, by omega, fun j hj => ?_⟩
    obtain ⟨r1, r2, r3⟩ := pagesOk_row k hj
    refine ⟨r1, r2, ?_⟩
    split at r3 <;> simp_all <;> omega
  · rintro ⟨l1, l2, l3, h4⟩
    have hr : ∀ (d i : Nat), i + d = c.length → okRows h c d i = true := by
      intro d
      induction d with
      | zero => intro i hi; rfl
      | succ d ih =>
        intro i hi
        obtain ⟨r1, r2, r3⟩ := h4 i (by omega)
        have e : ((rdOf ByteArray.empty h (i : Int)).size : Int) = if rd c (i : Int) = 0 then 0 else 4 := by
          rw [r3]
          split <;> rfl
        rw [okRows, okRow, ih (i + 1) (by omega), decide_eq_true r1, decide_eq_true r2, decide_eq_true e]
        rfl
    rw [pagesOk, decide_eq_true l1, decide_eq_true (show 1 ≤ (h.length : Int) by omega), decide_eq_true (show (h.length : Int) ≤ 12 by omega), hr c.length 0 (by omega)]
    rfl

theorem spec_take_loop (h : List ByteArray) (c : List Int) (x : ByteArray) (hl : h.length = c.length) (hc : c.length ≤ 1048576) : ∀ (d i : Nat), i + d = c.length →
    Evt (fun k => spec_l1Take.l0 k x (i : Int) h c = some (if fr c d i < 0 then (h, c, -1) else (h.set (fr c d i).toNat x, c.set (fr c d i).toNat 1, fr c d i))) := by
  intro d
  induction d with
  | zero =>
    intro i hi
    refine Evt.of1 fun k => ?_
    simp only [spec_l1Take.l0]
    rw [if_neg (by omega)]
    rfl
  | succ d ih =>
    intro i hi
    refine (ih (i + 1) (by omega)).step fun k hk => ?_
    simp only [spec_l1Take.l0]
    rw [if_pos (by omega), if_pos (by omega), nat_succ_wrap (by omega), hk, fr]
    by_cases e : rd c (i : Int) = 0
    · rw [if_pos e, if_pos (by omega), if_pos e, if_neg (by omega)]
    · rw [if_neg e, if_neg e]
theorem spec_l1take_ev (h : List ByteArray) (c : List Int) (x : ByteArray) (hl : h.length = c.length) (hc : c.length ≤ 1048576) :
    Evt (fun k => spec_l1Take.f k h c x = some (if fr c c.length 0 < 0 then (h, c, -1) else (h.set (fr c c.length 0).toNat x, c.set (fr c c.length 0).toNat 1, fr c c.length 0))) := spec_take_loop h c x hl hc c.length 0 (by omega)

theorem page_loop {l : List Int} (hl : Bytes l) : ∀ (e i : Nat) (p : Int) (x : List Int), i + e = 4 → x.length ≤ i → 0 ≤ p → p + 2 * e < 900000 →
    ∃ s q, Evt (fun k => spec_l91Page.l0 k x (i : Int) l p = some (s, q)) ∧ p ≤ q ∧ q ≤ p + 2 * e := by
  intro e
  induction e with
  | zero =>
    intro i p x hi hx h0 h1
    refine ⟨strOfNums x, p, Evt.of1 fun k => ?_, by omega, by omega⟩
    simp only [spec_l91Page.l0]
    rw [if_neg (by omega)]
  | succ e ih =>
    intro i p x hi hx h0 h1
    obtain ⟨v, hv, _⟩ := pick_ev hl (p := p) 4 h0 (by omega)
    obtain ⟨w, hw, _⟩ := pick_ev hl (p := p + 1) 90 (by omega) (by omega)
    obtain ⟨s, q, hr, q1, q2⟩ := ih (i + 1) (p + 1 + 1) (x ++ [(wrap64 (v * w)) % 256]) (by omega) (by simp; omega) (by omega) (by omega)
    refine ⟨s, q, (hv.and (hw.and hr)).step fun k hk => ?_, by omega, by omega⟩
    simp only [spec_l91Page.l0]
    rw [if_pos (by omega)]
    refine bind_of hk.1 ?_
    refine bind_of hk.2.1 ?_
    rw [if_pos (by omega), nat_succ_wrap (by omega)]
    exact hk.2.2
theorem page_ev {l : List Int} (hl : Bytes l) {p : Int} (h0 : 0 ≤ p) (h1 : p < 800000) : ∃ s q, Evt (fun k => spec_l91Page.f k l p = some (s, q)) ∧ p ≤ q ∧ q ≤ p + 8 := by
  obtain ⟨s, q, h, q1, q2⟩ := page_loop hl 4 0 p [] (by omega) (by simp) h0 (by omega)
  exact ⟨s, q, h, q1, by omega⟩
/-- What the drawn pages keep within. -/
def PB (h : List ByteArray) (c : List Int) : Prop := h.length ≤ 24 ∧ c.length ≤ 25
theorem drawp_j2 {l : List Int} (hl : Bytes l) {p : Int} (h0 : 0 ≤ p) (h1 : p < 700000) (h : List ByteArray) (c : List Int) (e : h.length = c.length) (n1 : 1 ≤ c.length) (n2 : c.length ≤ 12) :
    ∃ h' c' q, Evt (fun k => spec_l91Pages.j2 k l p h c = some (h', c', q)) ∧ PB h' c' ∧ p ≤ q ∧ q ≤ p + 2 := by
  obtain ⟨v, hv, v0, v1, _⟩ := pick_ev hl (p := p) 16 h0 (by omega)
  by_cases c0 : v = 0
  · obtain ⟨w, hw, w0, w1, _⟩ := pick_ev hl (p := p + 1) 4 (by omega) (by omega)
    have w2 := w1 (by omega)
    refine ⟨h, c.set 0 (rd [-1, 0, 99, 100] w), p + 1 + 1, (hv.and hw).step fun k hk => ?_, ⟨by omega, by simp; omega⟩, by omega, by omega⟩
    simp only [spec_l91Pages.j2]
    refine bind_of hk.1 ?_
    rw [if_pos c0]
    refine bind_of rfl ?_
    refine bind_of hk.2 ?_
    rw [if_pos w0, if_pos (show w < (([-1, 0, 99, 100] : List Int).length : Int) from by simpa using w2), if_pos (by omega)]
    rfl
  · by_cases c1 : v = 1
    · have e1 : wrap64 ((h.length : Int) - 1) = (h.length : Int) - 1 := wrap_in (by omega) (by omega)
      refine ⟨h.set ((h.length : Int) - 1).toNat (⟨#[116, 111, 111, 108, 111, 110, 103]⟩ : ByteArray), c, p + 1, hv.step fun k hk => ?_, ⟨by simp; omega, by omega⟩, by omega, by omega⟩
      simp only [spec_l91Pages.j2]
      refine bind_of hk ?_
      rw [if_neg c0, if_pos c1, e1, if_pos (by omega), if_pos (by omega)]
    · by_cases c2 : v = 2
      · refine ⟨h, c ++ [0], p + 1, hv.step fun k hk => ?_, ⟨by omega, by simp; omega⟩, by omega, by omega⟩
        simp only [spec_l91Pages.j2]
        refine bind_of hk ?_
        rw [if_neg c0, if_neg c1, if_pos c2, if_pos (by omega)]
      · by_cases c3 : v = 3
        · refine ⟨h ++ [(⟨#[]⟩ : ByteArray), (⟨#[]⟩ : ByteArray), (⟨#[]⟩ : ByteArray), (⟨#[]⟩ : ByteArray), (⟨#[]⟩ : ByteArray), (⟨#[]⟩ : ByteArray), (⟨#[]⟩ : ByteArray), (⟨#[]⟩ : ByteArray), (⟨#[]⟩ : ByteArray), (⟨#[]⟩ : ByteArray), (⟨#[]⟩ : ByteArray), (⟨#[]⟩ : ByteArray)],
            c ++ [0, 0, 0, 0, 0, 0, 0, 0, 0, 0, 0, 0], p + 1, hv.step fun k hk => ?_, ⟨by simp; omega, by simp; omega⟩, by omega, by omega⟩
          simp only [spec_l91Pages.j2]
          refine bind_of hk ?_
          rw [if_neg c0, if_neg c1, if_neg c2, if_pos c3]
          refine bind_of rfl ?_
          rw [if_pos (by simp; omega)]
          refine bind_of rfl ?_
          rw [if_pos (by simp; omega)]
        · refine ⟨h, c, p + 1, hv.step fun k hk => ?_, ⟨by omega, by omega⟩, by omega, by omega⟩
          simp only [spec_l91Pages.j2]
          refine bind_of hk ?_
          rw [if_neg c0, if_neg c1, if_neg c2, if_neg c3]
theorem drawp_j1 {l : List Int} (hl : Bytes l) {p : Int} (h0 : 0 ≤ p) (h1 : p < 600000) (h : List ByteArray) (c : List Int) (e : h.length = c.length) (n1 : 1 ≤ c.length) (n2 : c.length ≤ 12) (b : Bool) :
    ∃ h' c' q, Evt (fun k => spec_l91Pages.j1 k b l p h c = some (h', c', q)) ∧ PB h' c' ∧ p ≤ q ∧ q ≤ p + 3 := by
  cases b with
  | false =>
    obtain ⟨h', c', q, hr, r1, r2, r3⟩ := drawp_j2 hl h0 (by omega) h c e n1 n2
    refine ⟨h', c', q, hr.step fun k hk => ?_, r1, r2, by omega⟩
    simp only [spec_l91Pages.j1]
    rw [if_neg (by decide)]
    exact hk
  | true =>
    obtain ⟨v, hv, _⟩ := pick_ev hl (p := p) 99 h0 (by omega)
    obtain ⟨h', c', q, hr, r1, r2, r3⟩ := drawp_j2 hl (p := p + 1) (by omega) (by omega) h (c.set 0 (wrap64 (1 + v))) (by simpa using e) (by simpa using n1) (by simpa using n2)
    refine ⟨h', c', q, (hv.and hr).step fun k hk => ?_, r1, by omega, by omega⟩
    simp only [spec_l91Pages.j1]
    rw [if_pos trivial]
    refine bind_of hk.1 ?_
    rw [if_pos (by omega)]
    exact hk.2
theorem drawp_l0 {l : List Int} (hl : Bytes l) : ∀ (n : Nat) (p : Int) (h : List ByteArray) (c : List Int), n ≤ 8 → 0 ≤ p → p + 8 * n < 500000 → h.length = c.length → 1 ≤ c.length → c.length ≤ 12 →
    ∃ h' c' q, Evt (fun k => spec_l91Pages.l0 k (n : Int) l p h c = some (h', c', q)) ∧ PB h' c' ∧ p ≤ q ∧ q ≤ p + 8 * n + 4 := by
  intro n
  induction n with
  | zero =>
    intro p h c hn h0 h1 e n1 n2
    obtain ⟨v, hv, _⟩ := pick_ev hl (p := p) 2 h0 (by omega)
    cases hu : pagesHas c 0 with
    | true =>
      obtain ⟨h', c', q, hr, r1, r2, r3⟩ := drawp_j1 hl (p := p + 1) (by omega) (by omega) h c e n1 n2 (v == 0)
      refine ⟨h', c', q, (hv.and hr).step fun k hk => ?_, r1, by omega, by omega⟩
      simp only [spec_l91Pages.l0]
      rw [if_neg (by omega)]
      refine bind_of (spec_used_eq h c 0 (by omega)) ?_
      rw [if_pos hu]
      refine bind_of hk.1 ?_
      exact hk.2
    | false =>
      obtain ⟨h', c', q, hr, r1, r2, r3⟩ := drawp_j1 hl (p := p) (by omega) (by omega) h c e n1 n2 false
      refine ⟨h', c', q, hr.step fun k hk => ?_, r1, by omega, by omega⟩
      simp only [spec_l91Pages.l0]
      rw [if_neg (by omega)]
      refine bind_of (spec_used_eq h c 0 (by omega)) ?_
      rw [if_neg (by simp [hu])]
      exact hk
  | succ n ih =>
    intro p h c hn h0 h1 e n1 n2
    obtain ⟨s, q, hp, q1, q2⟩ := page_ev hl (p := p) h0 (by omega)
    have ht := spec_l1take_ev h c s e (by omega)
    have e1 : wrap64 (((n + 1 : Nat) : Int) - 1) = (n : Int) := by rw [wrap_in (by omega) (by omega)]; omega
    by_cases cf : fr c c.length 0 < 0
    · rw [if_pos cf] at ht
      obtain ⟨h', c', r, hr, r1, r2, r3⟩ := ih q h c (by omega) (by omega) (by omega) e n1 n2
      refine ⟨h', c', r, (hp.and (ht.and hr)).step fun k hk => ?_, r1, by omega, by omega⟩
      simp only [spec_l91Pages.l0]
      rw [if_pos (by omega)]
      refine bind_of hk.1 ?_
      refine bind_of hk.2.1 ?_
      rw [e1]
      exact hk.2.2
    · rw [if_neg cf] at ht
      obtain ⟨h', c', r, hr, r1, r2, r3⟩ := ih q (h.set (fr c c.length 0).toNat s) (c.set (fr c c.length 0).toNat 1) (by omega) (by omega) (by omega) (by simpa using e) (by simpa using n1) (by simpa using n2)
      refine ⟨h', c', r, (hp.and (ht.and hr)).step fun k hk => ?_, r1, by omega, by omega⟩
      simp only [spec_l91Pages.l0]
      rw [if_pos (by omega)]
      refine bind_of hk.1 ?_
      refine bind_of hk.2.1 ?_
      rw [e1]
      exact hk.2.2
theorem drawpages_ev {l : List Int} (hl : Bytes l) {p : Int} (h0 : 0 ≤ p) (h1 : p < 400000) : ∃ h c q, Evt (fun k => spec_l91Pages.f k l p = some (h, c, q)) ∧ PB h c ∧ p ≤ q ∧ q ≤ p + 80 := by
  obtain ⟨v, hv, v0, v1, _⟩ := pick_ev hl (p := p) 12 h0 (by omega)
  obtain ⟨w, hw, w0, w1, _⟩ := pick_ev hl (p := p + 1) 8 (by omega) (by omega)
  have v2 := v1 (by omega)
  have w2 := w1 (by omega)
  obtain ⟨n, rfl⟩ : ∃ n : Nat, w = (n : Int) := ⟨w.toNat, by omega⟩
  have hn : spec_PagesNew.f (wrap64 (1 + v)) = some (List.replicate (1 + v).toNat (⟨#[]⟩ : ByteArray), List.replicate (1 + v).toNat 0, true) := by
    unfold spec_PagesNew.f
    rw [wrap_in (by omega) (by omega)]
    refine bind_of (l6in_eq _ _ _) ?_
    rw [if_pos (by simp; omega), if_pos (by omega), if_pos (by omega), if_pos (by omega)]
  obtain ⟨h, c, q, hr, r1, r2, r3⟩ := drawp_l0 hl n (p + 1 + 1) (List.replicate (1 + v).toNat (⟨#[]⟩ : ByteArray)) (List.replicate (1 + v).toNat 0) (by omega) (by omega) (by omega) (by simp) (by simp; omega) (by simp; omega)
  refine ⟨h, c, q, (hv.and (hw.and hr)).imp fun k hk => ?_, r1, by omega, by omega⟩
  unfold spec_l91Pages.f
  refine bind_of hk.1 ?_
  refine bind_of hn ?_
  refine bind_of hk.2.1 ?_
  exact hk.2.2

theorem impl_free_loop (c : List Int) (hc : c.length ≤ 1048576) : ∀ (d i : Nat), i + d = c.length → Evt (fun k => impl_Pages_free.l0 k c (c.length : Int) (i : Int) = some (fr c d i)) := by
  intro d
  induction d with
  | zero =>
    intro i hi
    refine Evt.of1 fun k => ?_
    simp only [impl_Pages_free.l0]
    rw [if_neg (by omega)]
    rfl
  | succ d ih =>
    intro i hi
    refine (ih (i + 1) (by omega)).step fun k hk => ?_
    simp only [impl_Pages_free.l0]
    rw [if_pos (by omega), if_pos (by omega), if_pos (by omega), nat_succ_wrap (by omega), hk, fr]
    by_cases e : rd c (i : Int) = 0
    · rw [if_pos e, if_pos e]
    · rw [if_neg e, if_neg e]
theorem impl_free_ev (h : List ByteArray) (c : List Int) (hc : c.length ≤ 1048576) : Evt (fun k => impl_Pages_free.f k h c = some (fr c c.length 0)) := impl_free_loop c hc c.length 0 (by omega)

def pagesTake (h : List ByteArray) (c : List Int) (t : ByteArray) : List ByteArray × List Int × Int × Bool :=
  if pagesOk h c = true ∧ t.size = 4 ∧ 0 ≤ fr c c.length 0 then (h.set (fr c c.length 0).toNat t, c.set (fr c c.length 0).toNat 1, fr c c.length 0, true) else ([], [], -1, false)
theorem impl_take_ev (h : List ByteArray) (c : List Int) (t : ByteArray) (hh : h.length ≤ 1048576) (hc : c.length ≤ 1048576) : Evt (fun k => impl_PagesTake.f k h c t = some (pagesTake h c t)) := by
  have hs := impl_pagesok_ev h c hh hc
  have hf := impl_free_ev h c hc
  have jt : Evt (fun k => impl_PagesTake.j0 k t true h c = some ([], [], -1, false)) := Evt.of1 fun k => by
    simp only [impl_PagesTake.j0]
    rw [if_pos trivial]
  have jf : pagesOk h c = true → 0 ≤ fr c c.length 0 → Evt (fun k => impl_PagesTake.j0 k t false h c = some (h.set (fr c c.length 0).toNat t, c.set (fr c c.length 0).toNat 1, fr c c.length 0, true)) := by
    intro hok h0
    obtain ⟨l1, l2, l3⟩ := pagesOk_len hok
    refine hf.step fun k hk => ?_
    have hlt : fr c c.length 0 < (c.length : Int) := by
      rcases fr_spec c c.length 0 with ⟨h1, _⟩ | ⟨a, h1, h2, h3, _⟩
      · omega
      · omega
    simp only [impl_PagesTake.j0]
    rw [if_neg (by decide)]
    refine bind_of hk ?_
    refine bind_of (impl_pclone_eq h c hh hc) ?_
    rw [if_pos h0, if_pos (show fr c c.length 0 < (h.length : Int) by omega), if_pos (show fr c c.length 0 < (c.length : Int) by omega)]
  cases hok : pagesOk h c with
  | false =>
    rw [hok] at hs
    refine (hs.and jt).imp fun k hk => ?_
    unfold impl_PagesTake.f pagesTake
    refine bind_of hk.1 ?_
    rw [if_neg (by decide), if_neg (by simp [hok])]
    exact hk.2
  | true =>
    rw [hok] at hs
    by_cases ht : t.size = 4
    · by_cases h0 : 0 ≤ fr c c.length 0
      · refine ((hs.and hf).and (jf hok h0)).imp fun k hk => ?_
        unfold impl_PagesTake.f pagesTake
        refine bind_of hk.1.1 ?_
        rw [if_pos rfl, if_pos (by omega), if_pos ⟨hok, ht, h0⟩]
        refine bind_of hk.1.2 ?_
        rw [decide_eq_false (show ¬ fr c c.length 0 < 0 by omega)]
        exact hk.2
      · refine ((hs.and hf).and jt).imp fun k hk => ?_
        unfold impl_PagesTake.f pagesTake
        refine bind_of hk.1.1 ?_
        rw [if_pos rfl, if_pos (by omega), if_neg (fun z => h0 z.2.2)]
        refine bind_of hk.1.2 ?_
        rw [decide_eq_true (show fr c c.length 0 < 0 by omega)]
        exact hk.2
    · refine (hs.and jt).imp fun k hk => ?_
      unfold impl_PagesTake.f pagesTake
      refine bind_of hk.1 ?_
      rw [if_pos rfl, if_neg (by omega), if_neg (fun z => ht z.2.1)]
      exact hk.2

theorem spec_take_ev (h : List ByteArray) (c : List Int) (t : ByteArray) (hh : h.length ≤ 1048576) (hc : c.length ≤ 1048576) : Evt (fun k => spec_PagesTake.f k h c t = some (pagesTake h c t)) := by
  have hs := spec_pagesok_ev h c hh hc
  have jt : Evt (fun k => spec_PagesTake.j0 k t true h c = some ([], [], -1, false)) := Evt.of1 fun k => by
    simp only [spec_PagesTake.j0]
    rw [if_pos trivial]
  cases hok : pagesOk h c with
  | false =>
    rw [hok] at hs
    refine (hs.and jt).imp fun k hk => ?_
    unfold spec_PagesTake.f pagesTake
    refine bind_of hk.1 ?_
    rw [if_neg (by decide), if_neg (by simp [hok])]
    exact hk.2
  | true =>
    rw [hok] at hs
    obtain ⟨l1, l2, l3⟩ := pagesOk_len hok
    by_cases ht : t.size = 4
    · have hf := spec_l1take_ev h c t l1 hc
      have jf : Evt (fun k => spec_PagesTake.j0 k t false h c = some (pagesTake h c t)) := by
        refine hf.step fun k hk => ?_
        simp only [spec_PagesTake.j0]
        rw [if_neg (by decide)]
        refine bind_of (spec_pcopy_eq h c hh hc) ?_
        unfold pagesTake
        by_cases h0 : 0 ≤ fr c c.length 0
        · rw [if_neg (show ¬ fr c c.length 0 < 0 by omega)] at hk
          refine bind_of hk ?_
          exact (if_neg (by show ¬ fr c c.length 0 < 0; omega)).trans (by rw [if_pos ⟨hok, ht, h0⟩])
        · rw [if_pos (show fr c c.length 0 < 0 by omega)] at hk
          refine bind_of hk ?_
          exact (if_pos (by show (-1 : Int) < 0; omega)).trans (by rw [if_neg (fun z => h0 z.2.2)])
      refine (hs.and jf).imp fun k hk => ?_
      unfold spec_PagesTake.f
      refine bind_of hk.1 ?_
      rw [if_pos rfl, show ((t.size : Int) != 4) = false from by simp [ht]]
      exact hk.2
    · refine (hs.and jt).imp fun k hk => ?_
      unfold spec_PagesTake.f pagesTake
      refine bind_of hk.1 ?_
      rw [if_pos rfl, show ((t.size : Int) != 4) = true from by simp; omega, if_neg (fun z => ht z.2.1)]
      exact hk.2
theorem take_ok {h : List ByteArray} {c : List Int} (hok : pagesOk h c = true) {m : Nat} (m1 : m < c.length) {t : ByteArray} (ht : t.size = 4) : pagesOk (h.set m t) (c.set m 1) = true := by
  obtain ⟨l1, l2, l3, l4⟩ := (pagesOk_iff h c).1 hok
  refine (pagesOk_iff _ _).2 ⟨by simpa using l1, by simpa using l2, by simpa using l3, fun j hj => ?_⟩
  have hj' : j < c.length := by simpa using hj
  obtain ⟨r1, r2, r3⟩ := l4 j hj'
  rw [rd_setN c m j _ m1, rdB_setN _ _ _ _ (by omega)]
  by_cases e : m = j
  · rw [if_pos e, if_pos e]
    exact ⟨by omega, by omega, ht⟩
  · rw [if_neg e, if_neg e]
    exact ⟨r1, r2, r3⟩
theorem pagesTake_cases (h : List ByteArray) (c : List Int) (t : ByteArray) : pagesTake h c t = ([], [], -1, false) ∨ (pagesOk h c = true ∧ t.size = 4 ∧ ∃ m : Nat, m < c.length ∧ rd c (m : Int) = 0 ∧ pagesTake h c t = (h.set m t, c.set m 1, (m : Int), true)) := by
  unfold pagesTake
  by_cases z : pagesOk h c = true ∧ t.size = 4 ∧ 0 ≤ fr c c.length 0
  · rw [if_pos z]
    rcases fr_spec c c.length 0 with ⟨f1, _⟩ | ⟨m, f1, f2, f3, f4, _⟩
    · omega
    · exact .inr ⟨z.1, z.2.1, m, by omega, f4, by rw [f1]; simp⟩
  · rw [if_neg z]
    exact .inl rfl

theorem impl_get_ev {h : List ByteArray} {c : List Int} (hok : pagesOk h c = true) {m : Nat} (m1 : m < c.length) (m2 : 0 < rd c (m : Int)) (hh : h.length ≤ 1048576) (hc : c.length ≤ 1048576) : Evt (fun k => impl_PagesGet.f k h c (m : Int) = some (rdOf ByteArray.empty h (m : Int), true)) := by
  have hs := impl_pagesok_ev h c hh hc
  rw [hok] at hs
  obtain ⟨l1, l2, l3⟩ := pagesOk_len hok
  refine hs.imp fun k hk => ?_
  unfold impl_PagesGet.f
  refine bind_of hk ?_
  rw [if_pos rfl]
  refine bind_of (impl_has_eq h c _ hc) ?_
  rw [has_of m1 m2, if_pos rfl, if_pos (by omega), if_pos (by omega)]

def giveR (h : List ByteArray) (c : List Int) (m : Nat) : List ByteArray := if rd c (m : Int) - 1 = 0 then h.set m (⟨#[]⟩ : ByteArray) else h
def pagesGive (h : List ByteArray) (c : List Int) (a : Int) : List ByteArray × List Int × Bool :=
  if pagesOk h c = true ∧ pagesHas c a = true then (giveR h c a.toNat, c.set a.toNat (rd c a - 1), true) else ([], [], false)
theorem giveR_len (h : List ByteArray) (c : List Int) (m : Nat) : (giveR h c m).length = h.length := by
  unfold giveR
  split <;> simp
theorem pagesGive_len (h : List ByteArray) (c : List Int) (a : Int) : (pagesGive h c a).1.length ≤ h.length ∧ (pagesGive h c a).2.1.length ≤ c.length := by
  unfold pagesGive
  split
  · simp [giveR_len]
  · simp
theorem impl_give_ev (h : List ByteArray) (c : List Int) (a : Int) (hh : h.length ≤ 1048576) (hc : c.length ≤ 1048576) : Evt (fun k => impl_PagesGive.f k h c a = some (pagesGive h c a)) := by
  have hs := impl_pagesok_ev h c hh hc
  have jt : Evt (fun k => impl_PagesGive.j0 k a true h c = some ([], [], false)) := Evt.of1 fun k => by
    simp only [impl_PagesGive.j0]
    rw [if_pos trivial]
  cases hok : pagesOk h c with
  | false =>
    rw [hok] at hs
    refine (hs.and jt).imp fun k hk => ?_
    unfold impl_PagesGive.f pagesGive
    refine bind_of hk.1 ?_
    rw [if_neg (by decide), if_neg (by simp [hok])]
    exact hk.2
  | true =>
    rw [hok] at hs
    cases hg : pagesHas c a with
    | false =>
      refine (hs.and jt).imp fun k hk => ?_
      unfold impl_PagesGive.f pagesGive
      refine bind_of hk.1 ?_
      rw [if_pos rfl, if_neg (by simp [hg])]
      refine bind_of (impl_has_eq h c a hc) ?_
      rw [hg]
      exact hk.2
    | true =>
      obtain ⟨m, rfl, m1, m2⟩ := has_get hg
      obtain ⟨l1, l2, l3⟩ := pagesOk_len hok
      obtain ⟨r1, r2, r3⟩ := pagesOk_row hok m1
      have e1 : wrap64 (rd c (m : Int) - 1) = rd c (m : Int) - 1 := wrap_in (by omega) (by omega)
      have jf : Evt (fun k => impl_PagesGive.j0 k (m : Int) false h c = some (giveR h c m, c.set m (rd c (m : Int) - 1), true)) := Evt.of1 fun k => by
        simp only [impl_PagesGive.j0]
        rw [if_neg (by decide)]
        refine bind_of (impl_pclone_eq h c hh hc) ?_
        rw [if_pos (show (0 : Int) ≤ (m : Int) by omega), if_pos (show (m : Int) < (c.length : Int) by omega), e1]
        refine bind_of rfl ?_
        rw [show ((m : Int)).toNat = m from Int.toNat_natCast m, rd_setN c m m _ m1, if_pos rfl]
        unfold giveR
        by_cases e : rd c (m : Int) - 1 = 0
        · rw [if_pos e, if_pos (show (m : Int) < (h.length : Int) by omega), if_pos e]
        · rw [if_neg e, if_neg e]
      refine (hs.and jf).imp fun k hk => ?_
      unfold impl_PagesGive.f pagesGive
      refine bind_of hk.1 ?_
      rw [if_pos rfl, if_pos ⟨hok, hg⟩]
      refine bind_of (impl_has_eq h c _ hc) ?_
      rw [hg]
      exact hk.2
theorem give_ok {h : List ByteArray} {c : List Int} (hok : pagesOk h c = true) {m : Nat} (m1 : m < c.length) (m2 : 0 < rd c (m : Int)) : pagesOk (giveR h c m) (c.set m (rd c (m : Int) - 1)) = true := by
  obtain ⟨l1, l2, l3, l4⟩ := (pagesOk_iff h c).1 hok
  refine (pagesOk_iff _ _).2 ⟨by rw [giveR_len, l1]; simp, by simpa using l2, by simpa using l3, fun j hj => ?_⟩
  have hj' : j < c.length := by simpa using hj
  obtain ⟨r1, r2, r3⟩ := l4 j hj'
  rw [rd_setN c m j _ m1]
  unfold giveR
  by_cases e : m = j
  · subst e
    rw [if_pos rfl]
    by_cases z : rd c (m : Int) - 1 = 0
    · rw [if_pos z, if_pos z, rdB_setN _ _ _ _ (by omega), if_pos rfl]
      exact ⟨by omega, by omega, rfl⟩
    · rw [if_neg z, if_neg z]
      rw [if_neg (show ¬ rd c (m : Int) = 0 by omega)] at r3
      exact ⟨by omega, by omega, r3⟩
  · rw [if_neg e]
    refine ⟨r1, r2, ?_⟩
    rw [← r3]
    split
    · rw [rdB_setN _ _ _ _ (by omega), if_neg e]
    · rfl

theorem impl_room_loop (c : List Int) (hc : c.length ≤ 1048576) : ∀ (d i : Nat) (a : Int), i + d = c.length → 0 ≤ a → a ≤ i → Evt (fun k => impl_PagesRoom.l0 k a c (c.length : Int) (i : Int) = some (a + sumF ind c d i)) := by
  intro d
  induction d with
  | zero =>
    intro i a hi h0 h1
    refine Evt.of1 fun k => ?_
    simp only [impl_PagesRoom.l0, sumF]
    rw [if_neg (by omega), Int.add_zero]
  | succ d ih =>
    intro i a hi h0 h1
    rw [sumF]
    by_cases e : rd c (i : Int) = 0
    · refine (ih (i + 1) (a + 1) (by omega) (by omega) (by omega)).step fun k hk => ?_
      simp only [impl_PagesRoom.l0]
      rw [if_pos (by omega), if_pos (by omega), if_pos (by omega), if_pos e, nat_succ_wrap (by omega), wrap_in (by omega) (by omega), hk, show ind (rd c (i : Int)) = 1 from by rw [ind, if_pos e]]
      congr 1
      omega
    · refine (ih (i + 1) a (by omega) (by omega) (by omega)).step fun k hk => ?_
      simp only [impl_PagesRoom.l0]
      rw [if_pos (by omega), if_pos (by omega), if_pos (by omega), if_neg e, nat_succ_wrap (by omega), hk, show ind (rd c (i : Int)) = 0 from by rw [ind, if_neg e]]
      congr 1
      omega
def pagesRoom (h : List ByteArray) (c : List Int) : Int := if pagesOk h c = true then sumF ind c c.length 0 else -1
theorem impl_room_ev (h : List ByteArray) (c : List Int) (hh : h.length ≤ 1048576) (hc : c.length ≤ 1048576) : Evt (fun k => impl_PagesRoom.f k h c = some (pagesRoom h c)) := by
  refine ((impl_pagesok_ev h c hh hc).and (impl_room_loop c hc c.length 0 0 (by omega) (by omega) (by omega))).imp fun k hk => ?_
  unfold impl_PagesRoom.f pagesRoom
  refine bind_of hk.1 ?_
  by_cases e : pagesOk h c = true
  · rw [if_pos e, if_pos e, ← Int.zero_add (sumF ind c c.length 0)]
    exact hk.2
  · rw [if_neg e, if_neg e]

theorem qdints_loop (a : List Int) (ha : a.length < 1000000000) : ∀ (d i : Nat), i + d = a.length → Evt (fun k => laws_qdInts.l0 k a a (i : Int) = some true) := by
  intro d
  induction d with
  | zero =>
    intro i hi
    refine Evt.of1 fun k => ?_
    simp only [laws_qdInts.l0]
    rw [if_neg (by omega)]
  | succ d ih =>
    intro i hi
    refine (ih (i + 1) (by omega)).step fun k hk => ?_
    simp only [laws_qdInts.l0]
    rw [if_pos (by omega), if_pos (by omega), if_pos (by omega), if_pos trivial, nat_succ_wrap (by omega)]
    exact hk
theorem qdints_refl (a : List Int) (ha : a.length < 1000000000) : Evt (fun k => laws_qdInts.f k a a = some true) := by
  refine (qdints_loop a ha a.length 0 (by omega)).imp fun k hk => ?_
  unfold laws_qdInts.f
  rw [if_pos rfl]
  exact hk

theorem qdtexts_loop (a : List ByteArray) (ha : a.length < 1000000000) : ∀ (d i : Nat), i + d = a.length → Evt (fun k => laws_qdTexts.l0 k a a (i : Int) = some true) := by
  intro d
  induction d with
  | zero =>
    intro i hi
    refine Evt.of1 fun k => ?_
    simp only [laws_qdTexts.l0]
    rw [if_neg (by omega)]
  | succ d ih =>
    intro i hi
    refine (ih (i + 1) (by omega)).step fun k hk => ?_
    simp only [laws_qdTexts.l0]
    rw [if_pos (by omega), if_pos (by omega), if_pos (by omega), if_pos trivial, nat_succ_wrap (by omega)]
    exact hk
theorem qdtexts_refl (a : List ByteArray) (ha : a.length < 1000000000) : Evt (fun k => laws_qdTexts.f k a a = some true) := by
  refine (qdtexts_loop a ha a.length 0 (by omega)).imp fun k hk => ?_
  unfold laws_qdTexts.f
  rw [if_pos rfl]
  exact hk
theorem qdpages_refl (h : List ByteArray) (c : List Int) (hh : h.length < 1000000000) (hc : c.length < 1000000000) : Evt (fun k => laws_qdPages.f k h c h c = some true) := by
  refine ((qdtexts_refl h hh).and (qdints_refl c hc)).imp fun k hk => ?_
  unfold laws_qdPages.f
  refine bind_of hk.1 ?_
  rw [if_pos rfl]
  refine bind_of hk.2 ?_
  rfl

theorem FnPagesTake : laws_FnPagesTake.Pure := by
  intro l0 _ _ hb0
  by_cases hlen : (l0.length : Int) > 1048576
  · exact ⟨0, by unfold laws_FnPagesTake.f; rw [if_pos hlen]⟩
  obtain ⟨s, hs, hsb⟩ := open_ev (bytes_of hb0)
  obtain ⟨h, c, q, hd, ⟨b1, b2⟩, q1, q2⟩ := drawpages_ev hsb (p := 0) (by omega) (by omega)
  obtain ⟨pg, r, hpg, r1, r2⟩ := page_ev hsb (p := q) (by omega) (by omega)
  obtain ⟨w, hw, w0, w1, _⟩ := pick_ev hsb (p := r) 4 (by omega) (by omega)
  have w2 := w1 (by omega)
  obtain ⟨t, hdr⟩ : ∃ t, Evt (fun k => spec_DrawPagesTake.f k l0 = some (h, c, t)) := by
    refine ⟨rdOf ByteArray.empty [pg, (⟨#[112, 97, 103, 101]⟩ : ByteArray), (⟨#[116, 111, 111, 108, 111, 110, 103]⟩ : ByteArray), (⟨#[]⟩ : ByteArray)] w, (hd.and (hpg.and hw)).imp fun k hk => ?_⟩
    · unfold spec_DrawPagesTake.f
      refine bind_of hs ?_
      refine bind_of hk.1 ?_
      refine bind_of hk.2.1 ?_
      refine bind_of rfl ?_
      refine bind_of hk.2.2 ?_
      rw [if_pos w0, if_pos (by simpa using w2)]
  have h1 := impl_take_ev h c t (by omega) (by omega)
  have h2 := spec_take_ev h c t (by omega) (by omega)
  rcases pagesTake_cases h c t with hg | ⟨hok, ht, m, m1, m2, hg⟩
  · rw [hg] at h1 h2
    have e3 := qdpages_refl [] [] (by simp) (by simp)
    have j1 : Evt (fun k => laws_FnPagesTake.j1 k t (-1) true true h c [] [] = some true) := Evt.of1 fun k => by
      simp only [laws_FnPagesTake.j1]
      rw [if_pos trivial]
    have j0 : Evt (fun k => laws_FnPagesTake.j0 k t (-1) false true h c [] [] = some true) := j1.step fun k hk => by
      simp only [laws_FnPagesTake.j0]
      rw [if_pos trivial]
      exact hk
    refine Evt.some_ (((hdr.and h1).and (h2.and e3)).and j0 |>.imp fun k hk => ?_)
    obtain ⟨⟨⟨k1, k2⟩, k3, k4⟩, k5⟩ := hk
    unfold laws_FnPagesTake.f
    rw [if_neg hlen]
    refine bind_of k1 ?_
    refine bind_of k2 ?_
    refine bind_of k3 ?_
    refine bind_of k4 ?_
    rw [if_pos rfl, if_pos rfl]
    exact k5
  · rw [hg] at h1 h2
    obtain ⟨l1, l2, l3, l4⟩ := (pagesOk_iff h c).1 hok
    have ok2 := take_ok hok m1 ht
    have e3 := qdpages_refl (h.set m t) (c.set m 1) (by simp; omega) (by simp; omega)
    have v1 : rd (c.set m 1) (m : Int) = 1 := by rw [rd_setN c m m _ m1, if_pos rfl]
    have g1 := impl_get_ev ok2 (m := m) (by simpa using m1) (by omega) (by simp; omega) (by simp; omega)
    rw [rdB_setN _ _ _ _ (by omega), if_pos rfl] at g1
    have g2 := impl_give_ev (h.set m t) (c.set m 1) (m : Int) (by simp; omega) (by simp; omega)
    have z0 : (rdOf ByteArray.empty h (m : Int)).size = 0 := by
      have := (l4 m m1).2.2
      rwa [if_pos m2] at this
    have gv : pagesGive (h.set m t) (c.set m 1) (m : Int) = (h, c, true) := by
      rw [pagesGive, if_pos ⟨ok2, has_of (by simpa using m1) (by omega)⟩, Int.toNat_natCast, giveR, v1, if_pos (by omega), List.set_set, List.set_set, setB_same h m _ (by omega) (bytes_empty z0), set_same c m _ m1 (by omega)]
    rw [gv] at g2
    have e4 := qdpages_refl h c (by omega) (by omega)
    have rr := sumF_set ind c m 1 m1 c.length 0
    rw [if_pos (by omega), show ind 1 = 0 from rfl, m2, show ind 0 = 1 from rfl] at rr
    have rng := sumF_range ind c 0 1 (by omega) (by omega) c.length 0 (fun j _ _ => ind_range _)
    have ro1 := impl_room_ev (h.set m t) (c.set m 1) (by simp; omega) (by simp; omega)
    have ro2 := impl_room_ev h c (by omega) (by omega)
    rw [pagesRoom, if_pos ok2, List.length_set] at ro1
    rw [pagesRoom, if_pos hok] at ro2
    have j1 : Evt (fun k => laws_FnPagesTake.j1 k t (m : Int) true false h c (h.set m t) (c.set m 1) = some true) := by
      refine (((g1.and g2).and e4).and (ro1.and ro2)).step fun k hk => ?_
      simp only [laws_FnPagesTake.j1]
      rw [if_neg (by decide)]
      refine bind_of hk.1.1.1 ?_
      refine bind_of hk.1.1.2 ?_
      rw [if_pos rfl, if_pos rfl, if_pos rfl]
      refine bind_of hk.1.2 ?_
      rw [if_pos rfl]
      refine bind_of hk.2.1 ?_
      refine bind_of hk.2.2 ?_
      rw [rr, wrap_in (by omega) (by omega)]
      simp
      omega
    have j0 : Evt (fun k => laws_FnPagesTake.j0 k t (m : Int) true true h c (h.set m t) (c.set m 1) = some true) := j1.step fun k hk => by
      simp only [laws_FnPagesTake.j0]
      rw [if_pos trivial]
      exact hk
    refine Evt.some_ (((hdr.and h1).and (h2.and e3)).and j0 |>.imp fun k hk => ?_)
    obtain ⟨⟨⟨k1, k2⟩, k3, k4⟩, k5⟩ := hk
    unfold laws_FnPagesTake.f
    rw [if_neg hlen]
    refine bind_of k1 ?_
    refine bind_of k2 ?_
    refine bind_of k3 ?_
    refine bind_of k4 ?_
    rw [if_pos rfl, if_pos rfl]
    exact k5

end Go.Proofs.Ytpdfkbggaihfpaa.Pure
