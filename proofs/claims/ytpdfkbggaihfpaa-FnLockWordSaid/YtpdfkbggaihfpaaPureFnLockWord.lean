/- Proved: for all codes, the law FnLockWord answers true and leaves its arguments as they were (the word tells whether the lock is free). No condition beyond the row's own. -/
import Derived.Test.YtpdfkbggaihfpaaPFnLockWordx11
import Derived.Test.YtpdfkbggaihfpaaAuxFnLockWord
namespace Go.Proofs.Ytpdfkbggaihfpaa.Pure
open Go.RowKit Go.Proofs.Ytpdfkbggaihfpaa.PFnLockWord Go.Proofs.YtpdfkbggaihfpaaW.PrintWords Go.Proofs.YtpdfkbggaihfpaaW.PrintLast Go.Proofs.YtpdfkbggaihfpaaW.PrintMore Go.Proofs.Ytpdfkbggaihfpaa.Aux
set_option linter.unusedVariables false
set_option linter.unusedSimpArgs false
theorem pick_ev {l : List Int} (hl : Bytes l) {p : Int} (n : Int) (h0 : 0 ≤ p) (h1 : p < 1000000) :
    ∃ v, Evt (fun k => spec_l6Rd_pick.f k l p n = some (v, p + 1)) ∧ 0 ≤ v ∧ (1 ≤ n → v < n) ∧ (n < 1 → v = 0) := by
  have e1 : wrap64 (p + 1) = p + 1 := wrap_in (by omega) (by omega)
  have e2 : wrap64 (p + 1 - 1) = p := by rw [Int.add_sub_cancel]; exact wrap_in (by omega) (by omega)
  by_cases hn : n < 1
  · refine ⟨0, Evt.of1 fun k => ?_, by omega, by omega, fun _ => rfl⟩
    unfold spec_l6Rd_pick.f
    rw [if_pos hn, e1]
    simp only [spec_l6Rd_pick.j0, if_true]
  · by_cases hz : l.length = 0
    · refine ⟨0, Evt.of1 fun k => ?_, by omega, by omega, fun _ => rfl⟩
      unfold spec_l6Rd_pick.f
      have hz' : ((l.length : Int) == 0) = true := by simp [hz]
      rw [if_neg hn, e1, hz']
      simp only [spec_l6Rd_pick.j0, if_true]
    · have hz' : ((l.length : Int) == 0) = false := by simpa using hz
      have hlen : (0 : Int) < (l.length : Int) := by omega
      by_cases hlt : p < (l.length : Int)
      · have hr := rd_byte hl p
        have hr2 : wrap64 (rd l p) = rd l p := wrap_in (by omega) (by omega)
        have ht := tmod_range (a := rd l p) (n := n) (by omega) (by omega)
        refine ⟨Int.tmod (rd l p) n, Evt.of1 fun k => ?_, ht.1, fun _ => ht.2, fun h => by omega⟩
        unfold spec_l6Rd_pick.f
        rw [if_neg hn, e1, hz']
        simp only [spec_l6Rd_pick.j0]
        rw [e2, if_neg (by decide), if_pos hlt, if_pos h0, if_neg (by omega), hr2]
      · have e3 : wrap64 (wrap64 (p * 7) + 3) = p * 7 + 3 := by
          rw [wrap_in (n := p * 7) (by omega) (by omega)]
          exact wrap_in (by omega) (by omega)
        have ta := tmod_range (a := p) (n := (l.length : Int)) h0 hlen
        have tb := tmod_range (a := p * 7 + 3) (n := (l.length : Int)) (by omega) hlen
        have td := tdiv_range (a := p) (n := (l.length : Int)) h0 hlen
        have ra := rd_byte hl (Int.tmod p (l.length : Int))
        have rb := rd_byte hl (Int.tmod (p * 7 + 3) (l.length : Int))
        obtain ⟨x, hx, x0, x1⟩ := mix_range ra.1 ra.2 rb.1 rb.2 h0 (by omega) td.1 td.2
        have xd := tdiv_range (a := x) (n := 64) x0 (by decide)
        have xw : wrap64 (Int.tdiv x 64) = Int.tdiv x 64 := wrap_in (by omega) (by omega)
        have xx := xor_range (a := x) (b := Int.tdiv x 64) x0 x1 xd.1 (by omega)
        have tv := tmod_range (a := Go.bits .xor .i64 x (Int.tdiv x 64)) (n := n) xx.1 (by omega)
        refine ⟨Int.tmod (Go.bits .xor .i64 x (Int.tdiv x 64)) n, Evt.of1 fun k => ?_, tv.1, fun _ => tv.2, fun h => by omega⟩
        unfold spec_l6Rd_pick.f
        rw [if_neg hn, e1, hz']
        simp only [spec_l6Rd_pick.j0]
        rw [e2, e3, if_neg (by decide), if_neg hlt, if_neg (by omega), if_pos ta.1, if_pos ta.2, if_pos tb.1, if_pos tb.2, if_neg (by omega), hx, xw]
theorem open_ev {l : List Int} (hl : Bytes l) : ∃ s, spec_l6Open.f l = some (s, 0) ∧ Bytes s := by
  unfold spec_l6Open.f
  by_cases h : (l.length : Int) > 2000
  · exact ⟨l.take 2000, by rw [if_pos h, if_pos (by omega)], hl.take _⟩
  · exact ⟨l, by rw [if_neg h], hl⟩

theorem in_eq (a b c : Int) : impl_in.f a b c = some (decide (b ≤ a) && decide (a ≤ c)) := by
  unfold impl_in.f
  by_cases h : a ≥ b
  · rw [if_pos h]; simp [show b ≤ a from h]
  · rw [if_neg h]; simp [show ¬ b ≤ a from h]
theorem l6in_eq (a b c : Int) : spec_l6In.f a b c = some (decide (b ≤ a) && decide (a ≤ c)) := by
  unfold spec_l6In.f
  by_cases h : a ≥ b
  · rw [if_pos h]; simp [show b ≤ a from h]
  · rw [if_neg h]; simp [show ¬ b ≤ a from h]

theorem qdints_loop (a : List Int) (ha : a.length < 1000000000) : ∀ (d i : Nat), i + d = a.length → Evt (fun k => laws_qdInts.l0 k a a (i : Int) = some true) := by
  intro d
  induction d with
  | zero =>
    intro i hi
    refine Evt.of1 fun k => ?_
    simp only [laws_qdInts.l0]
    rw [if_neg (by omega)]
  | succ d ih =>
    intro i hi
    refine (ih (i + 1) (by omega)).step fun k hk => ?_
    simp only [laws_qdInts.l0]
    rw [if_pos (by omega), if_pos (by omega), if_pos (by omega), if_pos trivial, nat_succ_wrap (by omega)]
    exact hk
theorem qdints_refl (a : List Int) (ha : a.length < 1000000000) : Evt (fun k => laws_qdInts.f k a a = some true) := by
  refine (qdints_loop a ha a.length 0 (by omega)).imp fun k hk => ?_
  unfold laws_qdInts.f
  rw [if_pos rfl]
  exact hk

theorem Evt.mono_ {α : Type} {g : Nat → Option α} (hm : ∀ k, LeO (g k) (g (k + 1))) {K : Nat} {r : α} (h : g K = some r) : Evt (fun k => g k = some r) := by
  refine ⟨K, fun k hk => ?_⟩
  induction hk with
  | refl => exact h
  | step _ ih => exact hm _ _ ih

def lockNew (n t : Int) : Int × List S57 × List Int × Bool := if 1 ≤ n ∧ n ≤ 4 ∧ 0 ≤ t ∧ t ≤ 3 then (0, List.replicate n.toNat ⟨0, 0, t, false⟩, [], true) else (0, [], [], false)
theorem impl_new_loop (t : Int) : ∀ (d i : Nat) (l : List S57), i + d = l.length → l.length ≤ 4 → (∀ j : Nat, i ≤ j → j < l.length → rd_T57 l (j : Int) = z57) →
    Evt (fun k => impl_LockNew.l0 k t (l.length : Int) (i : Int) 0 l = some (0, l.take i ++ List.replicate d ⟨0, 0, t, false⟩, [], true)) := by
  intro d
  induction d with
  | zero =>
    intro i l hi h4 hz
    refine Evt.of1 fun k => ?_
    simp only [impl_LockNew.l0]
    rw [if_neg (by omega), List.take_of_length_le (by omega)]
    simp
  | succ d ih =>
    intro i l hi h4 hz
    have hzi := hz i (Nat.le_refl _) (by omega)
    have hr := ih (i + 1) (l.set i ⟨0, 0, t, false⟩) (by simp; omega) (by simpa using h4) (fun j h1 h2 => by
      have := hz j (by omega) (by simpa using h2)
      unfold rd_T57 at this ⊢
      rw [List.getD_eq_getElem?_getD] at this ⊢
      rw [List.getElem?_set, if_neg (by simp; omega)]
      exact this)
    refine hr.step fun k hk => ?_
    simp only [impl_LockNew.l0]
    rw [List.length_set] at hk
    rw [if_pos (by omega), if_pos (by omega), if_pos (by omega), nat_succ_wrap (by omega), hzi, Int.toNat_natCast]
    refine hk.trans ?_
    congr 2
    rw [List.take_set, List.take_succ_eq_append_getElem (by omega), List.set_append, List.length_take, if_neg (by omega)]
    simp [List.replicate_succ, show i - min i l.length = 0 by omega]
theorem impl_new_ev (n t : Int) : Evt (fun k => impl_LockNew.f k n t = some (lockNew n t)) := by
  have jt : Evt (fun k => impl_LockNew.j0 k n t true = some (0, [], [], false)) := Evt.of1 fun k => by
    simp only [impl_LockNew.j0]
    rw [if_pos trivial]
  by_cases c1 : 1 ≤ n ∧ n ≤ 4
  · by_cases c2 : 0 ≤ t ∧ t ≤ 3
    · have lp := impl_new_loop t n.toNat 0 (List.replicate n.toNat z57) (by simp) (by simp; omega) (fun j _ hj => by
        unfold rd_T57
        rw [List.getD_eq_getElem?_getD, List.getElem?_replicate, if_pos (by simpa using hj)]
        rfl)
      have jf : Evt (fun k => impl_LockNew.j0 k n t false = some (lockNew n t)) := by
        refine lp.step fun k hk => ?_
        simp only [impl_LockNew.j0]
        rw [if_neg (by decide), if_pos (by omega), if_pos (by omega)]
        refine bind_of rfl ?_
        refine hk.trans ?_
        rw [lockNew, if_pos ⟨c1.1, c1.2, c2.1, c2.2⟩]
        simp
      refine jf.imp fun k hk => ?_
      unfold impl_LockNew.f
      refine bind_of (in_eq _ _ _) ?_
      rw [if_pos (by simpa using c1)]
      refine bind_of (in_eq _ _ _) ?_
      rw [show (decide ((0 : Int) ≤ t) && decide (t ≤ 3)) = true from by simpa using c2]
      exact hk
    · refine jt.imp fun k hk => ?_
      unfold impl_LockNew.f
      refine bind_of (in_eq _ _ _) ?_
      rw [if_pos (by simpa using c1)]
      refine bind_of (in_eq _ _ _) ?_
      rw [show (decide ((0 : Int) ≤ t) && decide (t ≤ 3)) = false from by rw [← Bool.not_eq_true]; simpa using c2, lockNew, if_neg (by omega)]
      exact hk
  · refine jt.imp fun k hk => ?_
    unfold impl_LockNew.f
    refine bind_of (in_eq _ _ _) ?_
    rw [if_neg (by simpa using c1), lockNew, if_neg (by omega)]
    exact hk
theorem spec_new_loop (n t : Int) (hn : n ≤ 4) : ∀ (d i : Nat) (l : List S57), (i : Int) + d = n → l.length = i →
    Evt (fun k => spec_LockNew.l0 k n t (i : Int) 0 l [] = some (0, l ++ List.replicate d ⟨0, 0, t, false⟩, [], true)) := by
  intro d
  induction d with
  | zero =>
    intro i l hi hl
    refine Evt.of1 fun k => ?_
    simp only [spec_LockNew.l0]
    rw [if_neg (by omega)]
    simp
  | succ d ih =>
    intro i l hi hl
    refine (ih (i + 1) (l ++ [⟨0, 0, t, false⟩]) (by omega) (by simp; omega)).step fun k hk => ?_
    simp only [spec_LockNew.l0]
    rw [if_pos (by omega), if_pos (by omega), nat_succ_wrap (by omega)]
    refine hk.trans ?_
    simp [List.replicate_succ]
theorem spec_new_ev (n t : Int) : Evt (fun k => spec_LockNew.f k n t = some (lockNew n t)) := by
  have jt : Evt (fun k => spec_LockNew.j0 k n t true = some (0, [], [], false)) := Evt.of1 fun k => by
    simp only [spec_LockNew.j0]
    rw [if_pos trivial]
  by_cases c1 : 1 ≤ n ∧ n ≤ 4
  · by_cases c2 : 0 ≤ t ∧ t ≤ 3
    · have lp := spec_new_loop n t (by omega) n.toNat 0 [] (by omega) rfl
      have jf : Evt (fun k => spec_LockNew.j0 k n t false = some (lockNew n t)) := by
        refine lp.step fun k hk => ?_
        simp only [spec_LockNew.j0]
        rw [if_neg (by decide)]
        refine hk.trans ?_
        rw [lockNew, if_pos ⟨c1.1, c1.2, c2.1, c2.2⟩]
        simp
      refine jf.imp fun k hk => ?_
      unfold spec_LockNew.f
      refine bind_of (l6in_eq _ _ _) ?_
      rw [if_pos (by simpa using c1)]
      refine bind_of (l6in_eq _ _ _) ?_
      rw [show (decide ((0 : Int) ≤ t) && decide (t ≤ 3)) = true from by simpa using c2]
      exact hk
    · refine jt.imp fun k hk => ?_
      unfold spec_LockNew.f
      refine bind_of (l6in_eq _ _ _) ?_
      rw [if_pos (by simpa using c1)]
      refine bind_of (l6in_eq _ _ _) ?_
      rw [show (decide ((0 : Int) ≤ t) && decide (t ≤ 3)) = false from by rw [← Bool.not_eq_true]; simpa using c2, lockNew, if_neg (by omega)]
      exact hk
  · refine jt.imp fun k hk => ?_
    unfold spec_LockNew.f
    refine bind_of (l6in_eq _ _ _) ?_
    rw [if_neg (by simpa using c1), lockNew, if_neg (by omega)]
    exact hk
theorem qdlock_loop (a : Int) (l : List S57) (q : List Int) (hl : l.length ≤ 4) : ∀ (d i : Nat), i + d = l.length → Evt (fun k => laws_qdLock.l0 k (i : Int) a l q a l q = some true) := by
  intro d
  induction d with
  | zero =>
    intro i hi
    refine Evt.of1 fun k => ?_
    simp only [laws_qdLock.l0]
    rw [if_neg (by omega)]
  | succ d ih =>
    intro i hi
    refine (ih (i + 1) (by omega)).step fun k hk => ?_
    simp only [laws_qdLock.l0]
    rw [if_pos (by omega), if_pos (by omega), if_pos (by omega), if_neg (by simp), nat_succ_wrap (by omega)]
    exact hk
theorem qdlock_refl (a : Int) (l : List S57) (q : List Int) (hl : l.length ≤ 4) (hq : q.length < 1000000000) : Evt (fun k => laws_qdLock.f k a l q a l q = some true) := by
  have j : Evt (fun k => laws_qdLock.j0 k false a l q a l q = some true) := by
    refine (qdlock_loop a l q hl l.length 0 (by omega)).step fun k hk => ?_
    simp only [laws_qdLock.j0]
    rw [if_neg (by decide)]
    exact hk
  refine ((qdints_refl q hq).and j).imp fun k hk => ?_
  unfold laws_qdLock.f
  rw [if_pos rfl]
  refine bind_of hk.1 ?_
  rw [if_pos rfl]
  simp only [bne_self_eq_false]
  exact hk.2

theorem drawlock_ev {l : List Int} (hl : Bytes l) : ∃ n t, Evt (fun k => spec_DrawLockNew.f k l = some (n, t)) := by
  obtain ⟨s, hs, hsb⟩ := open_ev hl
  obtain ⟨v, hv, _⟩ := pick_ev hsb (p := 0) 6 (by omega) (by omega)
  obtain ⟨w, hw, _⟩ := pick_ev hsb (p := 0 + 1) 6 (by omega) (by omega)
  refine ⟨v, wrap64 (w - 1), (hv.and hw).imp fun k hk => ?_⟩
  unfold spec_DrawLockNew.f
  refine bind_of hs ?_
  refine bind_of hk.1 ?_
  refine bind_of hk.2 ?_
  rfl

def gt (l : List S57) (i : Nat) : S57 := l.getD i z57
theorem gt_set (l : List S57) (i j : Nat) (x : S57) (hi : i < l.length) : gt (l.set i x) j = if j = i then x else gt l j := by
  unfold gt
  rw [List.getD_eq_getElem?_getD, List.getD_eq_getElem?_getD, List.getElem?_set]
  by_cases h : i = j
  · rw [if_pos h, if_pos h.symm, if_pos (by omega)]; rfl
  · rw [if_neg h, if_neg (by omega)]
theorem gt_self (l : List S57) (i : Nat) (x : S57) (hi : i < l.length) : gt (l.set i x) i = x := by rw [gt_set _ _ _ _ hi, if_pos rfl]
theorem gt_other (l : List S57) (i j : Nat) (x : S57) (hi : i < l.length) (h : j ≠ i) : gt (l.set i x) j = gt l j := by rw [gt_set _ _ _ _ hi, if_neg h]
theorem rd57_gt (l : List S57) (i : Nat) : rd_T57 l (i : Int) = gt l i := by unfold rd_T57 gt; rw [Int.toNat_natCast]
def tOk (t : S57) : Prop := (0 ≤ t.f0 ∧ t.f0 ≤ 6) ∧ (0 ≤ t.f1 ∧ t.f1 ≤ 2) ∧ (t.f0 ≠ 1 → t.f1 = 0) ∧ (0 ≤ t.f2 ∧ t.f2 ≤ 3) ∧ (0 < t.f0 → 0 < t.f2) ∧ (t.f3 = true → t.f0 = 3)
def heldT (t : S57) : Prop := t.f0 = 4 ∨ t.f0 = 5
def wayT (t : S57) : Prop := t.f0 = 5 ∨ t.f0 = 6 ∨ (t.f0 = 3 ∧ t.f3 = false) ∨ t.f0 = 1 ∨ t.f0 = 2
def canT (t : S57) : Prop := t.f3 = false ∧ (0 < t.f0 ∨ 0 < t.f2)
instance (t : S57) : Decidable (canT t) := by unfold canT; infer_instance
def HoldT (w : Int) (l : List S57) : Prop := (w = 0 ∧ ∀ j, j < l.length → ¬ heldT (gt l j)) ∨ (w ≠ 0 ∧ ∃ h, h < l.length ∧ heldT (gt l h) ∧ ∀ j, j < l.length → heldT (gt l j) → j = h)
def slp : List S57 → Nat
| [] => 0
| t :: r => t.f3.toNat + slp r
def tns : List S57 → Int
| [] => 0
| t :: r => t.f2 + tns r
theorem slp_le : ∀ l : List S57, slp l ≤ l.length
| [] => Nat.le_refl _
| t :: r => by have := slp_le r; have := Bool.toNat_le t.f3; simp only [slp, List.length_cons]; omega
theorem slp_set : ∀ (l : List S57) (i : Nat) (x : S57), i < l.length → slp (l.set i x) + (gt l i).f3.toNat = slp l + x.f3.toNat
| [], i, x, h => absurd h (by simp)
| t :: r, 0, x, h => by simp only [List.set_cons_zero, slp, gt, List.getD_cons_zero]; omega
| t :: r, i + 1, x, h => by
  have := slp_set r i x (by simpa using h)
  simp only [List.set_cons_succ, slp, gt, List.getD_cons_succ] at this ⊢
  omega
theorem tns_set : ∀ (l : List S57) (i : Nat) (x : S57), i < l.length → tns (l.set i x) = tns l - (gt l i).f2 + x.f2
| [], i, x, h => absurd h (by simp)
| t :: r, 0, x, h => by simp only [List.set_cons_zero, tns, gt, List.getD_cons_zero]; omega
| t :: r, i + 1, x, h => by
  have := tns_set r i x (by simpa using h)
  simp only [List.set_cons_succ, tns, gt, List.getD_cons_succ] at this ⊢
  omega
theorem tns_bound : ∀ (l : List S57), (∀ j, j < l.length → 0 ≤ (gt l j).f2 ∧ (gt l j).f2 ≤ 3) → 0 ≤ tns l ∧ tns l ≤ 3 * l.length
| [], _ => by simp [tns]
| t :: r, h => by
  have h0 := h 0 (by simp)
  have := tns_bound r (fun j hj => by have := h (j + 1) (by simpa using hj); simpa [gt] using this)
  simp only [gt, List.getD_cons_zero] at h0
  simp only [tns, List.length_cons]
  omega
theorem tns_pos : ∀ (l : List S57), (∀ j, j < l.length → 0 ≤ (gt l j).f2 ∧ (gt l j).f2 ≤ 3) → ∀ i, i < l.length → (gt l i).f2 ≤ tns l
| [], _, i, hi => absurd hi (by simp)
| t :: r, h, 0, _ => by
  have := tns_bound r (fun j hj => by have := h (j + 1) (by simpa using hj); simpa [gt] using this)
  simp only [tns, gt, List.getD_cons_zero]; omega
| t :: r, h, i + 1, hi => by
  have h0 := h 0 (by simp)
  have := tns_pos r (fun j hj => by have := h (j + 1) (by simpa using hj); simpa [gt] using this) i (by simpa using hi)
  simp only [tns, gt, List.getD_cons_zero, List.getD_cons_succ] at h0 this ⊢
  omega
structure LkOk (w : Int) (l : List S57) (q : List Int) : Prop where
  n1 : 1 ≤ l.length
  n4 : l.length ≤ 4
  wd : 0 ≤ w ∧ w ≤ 2
  th : ∀ i, i < l.length → tOk (gt l i)
  qn : q.Nodup
  qr : ∀ x ∈ q, ∃ i : Nat, x = (i : Int) ∧ i < l.length
  qs : ∀ i, i < l.length → ((gt l i).f3 = true ↔ (i : Int) ∈ q)
  cn : slp l = q.length
  hd : HoldT w l
  wy : q ≠ [] → w = 2 ∨ ∃ i, i < l.length ∧ wayT (gt l i)
theorem LkOk.upd {w : Int} {l : List S57} {q : List Int} (I : LkOk w l q) {i : Nat} (hi : i < l.length) (ha : (gt l i).f3 = false) {w' : Int} {t : S57} (hw : 0 ≤ w' ∧ w' ≤ 2) (ht : tOk t) (hf : t.f3 = false) (hh : HoldT w' (l.set i t))
    (hy : q ≠ [] → w' = 2 ∨ ∃ j, j < (l.set i t).length ∧ wayT (gt (l.set i t) j)) : LkOk w' (l.set i t) q := by
  have e := slp_set l i t hi
  rw [ha, hf] at e
  refine ⟨by simpa using I.n1, by simpa using I.n4, hw, fun j hj => ?_, I.qn, fun x hx => by simpa using I.qr x hx, fun j hj => ?_, by have := I.cn; simp at e; omega, hh, hy⟩
  · rw [gt_set _ _ _ _ hi]; split
    · exact ht
    · exact I.th j (by simpa using hj)
  · rw [gt_set _ _ _ _ hi]; split
    · rename_i c; subst c
      have := I.qs j hi
      rw [ha] at this; rw [hf]; exact this
    · exact I.qs j (by simpa using hj)
theorem hold_acq {w w' : Int} {l : List S57} {i : Nat} {t : S57} (h : HoldT w l) (hw : w = 0) (hi : i < l.length) (ht : heldT t) (hw' : w' ≠ 0) : HoldT w' (l.set i t) := by
  rcases h with ⟨_, h⟩ | ⟨h, _⟩
  · refine .inr ⟨hw', i, by simpa using hi, by rw [gt_self _ _ _ hi]; exact ht, fun j hj hh => ?_⟩
    by_cases c : j = i
    · exact c
    · rw [gt_other _ _ _ _ hi c] at hh
      exact absurd hh (h j (by simpa using hj))
  · exact absurd hw h
theorem hold_same {w w' : Int} {l : List S57} {i : Nat} {t : S57} (h : HoldT w l) (hi : i < l.length) (h0 : ¬ heldT (gt l i)) (ht : ¬ heldT t) (hw' : w' = 0 ↔ w = 0) : HoldT w' (l.set i t) := by
  rcases h with ⟨e, h⟩ | ⟨e, g, hg, hh, hu⟩
  · refine .inl ⟨hw'.2 e, fun j hj => ?_⟩
    rw [gt_set _ _ _ _ hi]; split
    · exact ht
    · exact h j (by simpa using hj)
  · have c : g ≠ i := fun c => h0 (c ▸ hh)
    refine .inr ⟨fun c => e (hw'.1 c), g, by simpa using hg, by rw [gt_other _ _ _ _ hi c]; exact hh, fun j hj h2 => ?_⟩
    by_cases c2 : j = i
    · subst c2; rw [gt_self _ _ _ hi] at h2; exact absurd h2 ht
    · rw [gt_other _ _ _ _ hi c2] at h2; exact hu j (by simpa using hj) h2
theorem hold_rel {w : Int} {l : List S57} {i : Nat} {t : S57} (h : HoldT w l) (hi : i < l.length) (h0 : heldT (gt l i)) (ht : ¬ heldT t) : HoldT 0 (l.set i t) := by
  rcases h with ⟨_, h⟩ | ⟨_, g, hg, hh, hu⟩
  · exact absurd h0 (h i hi)
  · refine .inl ⟨rfl, fun j hj => ?_⟩
    rw [gt_set _ _ _ _ hi]; split
    · exact ht
    · rename_i c
      exact fun hj2 => c ((hu j (by simpa using hj) hj2).trans (hu i hi h0).symm)
theorem hold_keep {w w' : Int} {l : List S57} {i : Nat} {t : S57} (h : HoldT w l) (hi : i < l.length) (h0 : heldT (gt l i)) (ht : heldT t) (hw' : w' ≠ 0) : HoldT w' (l.set i t) := by
  rcases h with ⟨_, h⟩ | ⟨_, g, hg, hh, hu⟩
  · exact absurd h0 (h i hi)
  · refine .inr ⟨hw', i, by simpa using hi, by rw [gt_self _ _ _ hi]; exact ht, fun j hj hj2 => ?_⟩
    by_cases c : j = i
    · exact c
    · rw [gt_other _ _ _ _ hi c] at hj2
      exact (hu j (by simpa using hj) hj2).trans (hu i hi h0).symm
theorem way_here {l : List S57} {i : Nat} {t : S57} (hi : i < l.length) (ht : wayT t) : ∃ j, j < (l.set i t).length ∧ wayT (gt (l.set i t) j) := ⟨i, by simpa using hi, by rw [gt_self _ _ _ hi]; exact ht⟩
theorem way_rest {w : Int} {l : List S57} {q : List Int} {i : Nat} {t : S57} (hy : q ≠ [] → w = 2 ∨ ∃ i, i < l.length ∧ wayT (gt l i)) (hi : i < l.length) (hw : w ≠ 2) (h0 : ¬ wayT (gt l i)) (hq : q ≠ []) : ∃ j, j < (l.set i t).length ∧ wayT (gt (l.set i t) j) := by
  rcases hy hq with h | ⟨j, hj, h⟩
  · exact absurd h hw
  · exact ⟨j, by simpa using hj, by rw [gt_other _ _ _ _ hi (fun c => h0 (c ▸ h))]; exact h⟩
def stp (w : Int) (l : List S57) (q : List Int) (i : Nat) : Int × List S57 × List Int :=
  let t := gt l i
  if t.f0 = 0 then (if w = 0 then (1, l.set i ⟨4, t.f1, t.f2, t.f3⟩, q) else (w, l.set i ⟨1, w, t.f2, t.f3⟩, q))
  else if t.f0 = 1 then (if t.f1 = 2 then (w, l.set i ⟨2, 0, t.f2, t.f3⟩, q) else if w = 0 then (w, l.set i ⟨3, 0, t.f2, t.f3⟩, q) else (2, l.set i ⟨2, 0, t.f2, t.f3⟩, q))
  else if t.f0 = 2 then (if w = 2 then (w, l.set i ⟨3, t.f1, t.f2, true⟩, q ++ [(i : Int)]) else (w, l.set i ⟨3, t.f1, t.f2, t.f3⟩, q))
  else if t.f0 = 3 then (if w = 0 then (2, l.set i ⟨4, t.f1, t.f2, t.f3⟩, q) else (w, l.set i ⟨1, w, t.f2, t.f3⟩, q))
  else if t.f0 = 4 then (if w < 2 then (0, l.set i ⟨0, t.f1, t.f2 - 1, t.f3⟩, q) else (1, l.set i ⟨5, t.f1, t.f2, t.f3⟩, q))
  else if t.f0 = 5 then (0, l.set i ⟨6, t.f1, t.f2, t.f3⟩, q)
  else match q with
    | [] => (w, l.set i ⟨0, t.f1, t.f2 - 1, t.f3⟩, [])
    | x :: r => (w, (l.set x.toNat ⟨(gt l x.toNat).f0, (gt l x.toNat).f1, (gt l x.toNat).f2, false⟩).set i ⟨0, t.f1, t.f2 - 1, t.f3⟩, r)
theorem LkOk.stp {w : Int} {l : List S57} {q : List Int} (I : LkOk w l q) {i : Nat} (hi : i < l.length) (hc : canT (gt l i)) : LkOk (stp w l q i).1 (stp w l q i).2.1 (stp w l q i).2.2 := by
  obtain ⟨hf, hc⟩ := hc
  have T := I.th i hi
  obtain ⟨⟨T0, T1⟩, ⟨T2, T3⟩, T4, ⟨T5, T6⟩, T7, T8⟩ := T
  have wd := I.wd
  unfold Pure.stp
  simp only
  by_cases c0 : (gt l i).f0 = 0
  · rw [if_pos c0]
    by_cases cw : w = 0
    · rw [if_pos cw]
      refine I.upd hi hf (by simp) ⟨by simp, ⟨T2, T3⟩, fun _ => T4 (by omega), ⟨T5, T6⟩, fun _ => by show 0 < (gt l i).f2; omega, by simp [hf]⟩ hf (hold_acq I.hd cw hi (.inl rfl) (by simp)) fun hq => .inr (way_rest I.wy hi (by omega) (by unfold wayT; omega) hq)
    · rw [if_neg cw]
      refine I.upd hi hf wd ⟨by simp, wd, by simp, ⟨T5, T6⟩, fun _ => by show 0 < (gt l i).f2; omega, by simp [hf]⟩ hf (hold_same I.hd hi (by unfold heldT; omega) (by unfold heldT; simp) Iff.rfl) fun hq => .inr (way_here hi (by unfold wayT; simp))
  rw [if_neg c0]
  have f2 : 0 < (gt l i).f2 := T7 (by omega)
  by_cases c1 : (gt l i).f0 = 1
  · rw [if_pos c1]
    by_cases cs : (gt l i).f1 = 2
    · rw [if_pos cs]
      exact I.upd hi hf wd ⟨by simp, by simp, by simp, ⟨T5, T6⟩, fun _ => f2, by simp [hf]⟩ hf (hold_same I.hd hi (by unfold heldT; omega) (by unfold heldT; simp) Iff.rfl) fun hq => .inr (way_here hi (by unfold wayT; simp))
    rw [if_neg cs]
    by_cases cw : w = 0
    · rw [if_pos cw]
      exact I.upd hi hf wd ⟨by simp, by simp, by simp, ⟨T5, T6⟩, fun _ => f2, by simp [hf]⟩ hf (hold_same I.hd hi (by unfold heldT; omega) (by unfold heldT; simp) Iff.rfl) fun hq => .inr (way_here hi (by unfold wayT; simp [hf]))
    · rw [if_neg cw]
      exact I.upd hi hf (by simp) ⟨by simp, by simp, by simp, ⟨T5, T6⟩, fun _ => f2, by simp [hf]⟩ hf (hold_same I.hd hi (by unfold heldT; omega) (by unfold heldT; simp) (by simp [cw])) fun hq => .inr (way_here hi (by unfold wayT; simp))
  rw [if_neg c1]
  have f1 : (gt l i).f1 = 0 := T4 c1
  by_cases c2 : (gt l i).f0 = 2
  · rw [if_pos c2]
    by_cases cw : w = 2
    · rw [if_pos cw]
      have hq : (i : Int) ∉ q := fun hm => by have := (I.qs i hi).2 hm; rw [hf] at this; cases this
      have e := slp_set l i ⟨3, (gt l i).f1, (gt l i).f2, true⟩ hi
      rw [hf] at e
      refine ⟨by simpa using I.n1, by simpa using I.n4, wd, fun j hj => ?_, ?_, fun x hx => ?_, fun j hj => ?_, by have := I.cn; simp at e ⊢; omega, hold_same I.hd hi (by unfold heldT; omega) (by unfold heldT; simp) Iff.rfl, fun _ => .inl cw⟩
      · rw [gt_set _ _ _ _ hi]; split
        · exact ⟨by simp, ⟨T2, T3⟩, fun _ => f1, ⟨T5, T6⟩, fun _ => f2, fun _ => rfl⟩
        · exact I.th j (by simpa using hj)
      · rw [List.nodup_append]
        refine ⟨I.qn, by simp, fun a ha b hb => ?_⟩
        rw [List.mem_singleton] at hb
        subst hb
        exact fun c => hq (c ▸ ha)
      · rcases List.mem_append.1 hx with h | h
        · simpa using I.qr x h
        · exact ⟨i, by simpa using h, by simpa using hi⟩
      · rw [gt_set _ _ _ _ hi]; split
        · rename_i c; subst c; simp
        · rename_i c
          rw [I.qs j (by simpa using hj), List.mem_append, List.mem_singleton]
          exact ⟨.inl, fun h => h.elim id (fun h => absurd h (by omega))⟩
    · rw [if_neg cw]
      exact I.upd hi hf wd ⟨by simp, ⟨T2, T3⟩, fun _ => f1, ⟨T5, T6⟩, fun _ => f2, by simp [hf]⟩ hf (hold_same I.hd hi (by unfold heldT; omega) (by unfold heldT; simp) Iff.rfl) fun hq => .inr (way_here hi (by unfold wayT; simp [hf]))
  rw [if_neg c2]
  by_cases c3 : (gt l i).f0 = 3
  · rw [if_pos c3]
    by_cases cw : w = 0
    · rw [if_pos cw]
      exact I.upd hi hf (by simp) ⟨by simp, ⟨T2, T3⟩, fun _ => f1, ⟨T5, T6⟩, fun _ => f2, by simp [hf]⟩ hf (hold_acq I.hd cw hi (.inl rfl) (by simp)) fun hq => .inl rfl
    · rw [if_neg cw]
      exact I.upd hi hf wd ⟨by simp, wd, by simp, ⟨T5, T6⟩, fun _ => f2, by simp [hf]⟩ hf (hold_same I.hd hi (by unfold heldT; omega) (by unfold heldT; simp) Iff.rfl) fun hq => .inr (way_here hi (by unfold wayT; simp))
  rw [if_neg c3]
  by_cases c4 : (gt l i).f0 = 4
  · rw [if_pos c4]
    by_cases cw : w < 2
    · rw [if_pos cw]
      exact I.upd hi hf (by simp) ⟨by simp, ⟨T2, T3⟩, fun _ => f1, ⟨by show 0 ≤ (gt l i).f2 - 1; omega, by show (gt l i).f2 - 1 ≤ 3; omega⟩, by simp, by simp [hf]⟩ hf (hold_rel I.hd hi (.inl c4) (by unfold heldT; simp)) fun hq => .inr (way_rest I.wy hi (by omega) (by unfold wayT; omega) hq)
    · rw [if_neg cw]
      exact I.upd hi hf (by simp) ⟨by simp, ⟨T2, T3⟩, fun _ => f1, ⟨T5, T6⟩, fun _ => f2, by simp [hf]⟩ hf (hold_keep I.hd hi (.inl c4) (.inr rfl) (by simp)) fun hq => .inr (way_here hi (.inl rfl))
  rw [if_neg c4]
  by_cases c5 : (gt l i).f0 = 5
  · rw [if_pos c5]
    exact I.upd hi hf (by simp) ⟨by simp, ⟨T2, T3⟩, fun _ => f1, ⟨T5, T6⟩, fun _ => f2, by simp [hf]⟩ hf (hold_rel I.hd hi (.inr c5) (by unfold heldT; simp)) fun hq => .inr (way_here hi (.inr (.inl rfl)))
  rw [if_neg c5]
  have c6 : (gt l i).f0 = 6 := by omega
  have ok0 : tOk ⟨0, (gt l i).f1, (gt l i).f2 - 1, (gt l i).f3⟩ := ⟨by simp, ⟨T2, T3⟩, fun _ => f1, ⟨by show 0 ≤ (gt l i).f2 - 1; omega, by show (gt l i).f2 - 1 ≤ 3; omega⟩, by simp, by simp [hf]⟩
  cases q with
  | nil => exact I.upd hi hf wd ok0 hf (hold_same I.hd hi (by unfold heldT; omega) (by unfold heldT; simp) Iff.rfl) fun hq => absurd rfl hq
  | cons x r =>
    obtain ⟨n, rfl, hn⟩ := I.qr x (by simp)
    have hx : (gt l n).f3 = true := (I.qs n hn).2 (by simp)
    have hx3 : (gt l n).f0 = 3 := (I.th n hn).2.2.2.2.2 hx
    have hni : n ≠ i := fun c => by subst c; rw [hf] at hx; cases hx
    have hnr := List.nodup_cons.1 I.qn
    simp only [Int.toNat_natCast]
    generalize hz : (⟨(gt l n).f0, (gt l n).f1, (gt l n).f2, false⟩ : S57) = z
    have zf : z.f3 = false := by rw [← hz]
    have z3 : z.f0 = 3 := by rw [← hz]; exact hx3
    have zok : tOk z := by
      obtain ⟨a, b, c, d, e, f⟩ := I.th n hn
      rw [← hz]; exact ⟨a, b, c, d, e, by simp⟩
    -- the one that is woken is set first
    have J : LkOk w (l.set n z) r := by
      have e := slp_set l n z hn
      rw [hx, zf] at e
      refine ⟨by simpa using I.n1, by simpa using I.n4, wd, fun j hj => ?_, hnr.2, fun y hy => by simpa using I.qr y (by simp [hy]), fun j hj => ?_, by have := I.cn; simp at e this ⊢; omega, hold_same I.hd hn (by unfold heldT; omega) (by unfold heldT; omega) Iff.rfl, fun _ => .inr (way_here hn (.inr (.inr (.inl ⟨z3, zf⟩))))⟩
      · rw [gt_set _ _ _ _ hn]; split
        · exact zok
        · exact I.th j (by simpa using hj)
      · rw [gt_set _ _ _ _ hn]; split
        · rename_i c; subst c; rw [zf]; simp [hnr.1]
        · rename_i c
          rw [I.qs j (by simpa using hj), List.mem_cons]
          exact ⟨fun h => h.elim (fun h => absurd h (by omega)) id, .inr⟩
    have gi : gt (l.set n z) i = gt l i := gt_other _ _ _ _ hn (fun c => hni c.symm)
    have hi2 : i < (l.set n z).length := by simpa using hi
    refine J.upd hi2 (by rw [gi]; exact hf) wd ok0 hf (hold_same J.hd hi2 (by rw [gi]; unfold heldT; omega) (by unfold heldT; simp) Iff.rfl) fun hq => .inr ⟨n, by simpa using hn, ?_⟩
    rw [gt_other _ _ _ _ hi2 hni, gt_self _ _ _ hn]
    exact .inr (.inr (.inl ⟨z3, zf⟩))

theorem getD_at {α : Type} (l : List α) (i : Nat) (d : α) (h : i < l.length) : l.getD i d = l[i] := by rw [List.getD_eq_getElem?_getD, List.getElem?_eq_getElem h]; rfl
theorem index_ev (q : List Int) (a : Int) (hq : q.length < 1000000000) : ∀ (d i : Nat), i + d = q.length → (∀ j : Nat, j < i → rd q (j : Int) ≠ a) → ∃ z : Int, Evt (fun k => slices_Index_int_int.l0 k q a (q.length : Int) (i : Int) = some z) ∧ (0 ≤ z ↔ a ∈ q) := by
  intro d
  induction d with
  | zero =>
    intro i hi hn
    refine ⟨-1, Evt.of1 fun k => ?_, ⟨fun h => absurd h (by decide), fun h => ?_⟩⟩
    · simp only [slices_Index_int_int.l0]
      rw [if_neg (by omega)]
    · obtain ⟨j, hj, e⟩ := List.mem_iff_getElem.1 h
      refine absurd ?_ (hn j (by omega))
      rw [rd_nat, getD_at _ _ _ hj, e]
  | succ d ih =>
    intro i hi hn
    by_cases c : a = rd q (i : Int)
    · refine ⟨i, Evt.of1 fun k => ?_, ⟨fun _ => ?_, fun _ => by omega⟩⟩
      · simp only [slices_Index_int_int.l0]
        rw [if_pos (by omega), if_pos (by omega), if_pos (by omega), if_pos c]
      · rw [c, rd_nat, getD_at _ _ _ (by omega)]
        exact List.getElem_mem _
    · obtain ⟨z, hz, e⟩ := ih (i + 1) (by omega) (fun j hj => by
        by_cases c2 : j = i
        · subst c2; exact fun x => c x.symm
        · exact hn j (by omega))
      refine ⟨z, hz.step fun k hk => ?_, e⟩
      simp only [slices_Index_int_int.l0]
      rw [if_pos (by omega), if_pos (by omega), if_pos (by omega), if_neg c, nat_succ_wrap (by omega)]
      exact hk
theorem contains_ev (q : List Int) (a : Int) (hq : q.length < 1000000000) : Evt (fun k => slices_Contains_int_int.f k q a = some (decide (a ∈ q))) := by
  obtain ⟨z, hz, e⟩ := index_ev q a hq q.length 0 (by omega) (fun j hj => absurd hj (by omega))
  refine hz.imp fun k hk => ?_
  unfold slices_Contains_int_int.f slices_Index_int_int.f
  refine bind_of hk ?_
  have : decide (z ≥ 0) = decide (a ∈ q) := by rw [decide_eq_decide]; exact e
  rw [this]
theorem LkOk.len {w : Int} {l : List S57} {q : List Int} (I : LkOk w l q) : q.length ≤ 4 := by
  have := slp_le l; have := I.cn; have := I.n4; omega
theorem slp_drop (l : List S57) (i : Nat) (h : i < l.length) : slp (l.drop i) = (gt l i).f3.toNat + slp (l.drop (i + 1)) := by
  rw [List.drop_eq_getElem_cons h]
  simp only [slp, gt]
  rw [getD_at _ _ _ h]
theorem lockok_loop {w : Int} {l : List S57} {q : List Int} (I : LkOk w l q) : ∀ (d i : Nat), i + d = l.length → ∀ n : Nat, n + slp (l.drop i) = q.length → Evt (fun k => impl_LockOk.l0 k (n : Int) l (l.length : Int) (i : Int) w l q = some true) := by
  have hq := I.len; have hn4 := I.n4
  intro d
  induction d with
  | zero =>
    intro i hi n hn
    refine Evt.of1 fun k => ?_
    simp only [impl_LockOk.l0]
    rw [if_neg (by omega)]
    rw [List.drop_of_length_le (by omega)] at hn
    simp only [slp] at hn
    simp [← hn]
  | succ d ih =>
    intro i hi n hn
    have hi2 : i < l.length := by omega
    rw [slp_drop l i hi2] at hn
    obtain ⟨⟨T0, T1⟩, ⟨T2, T3⟩, T4, ⟨T5, T6⟩, T7, T8⟩ := I.th i hi2
    have hs := I.qs i hi2
    have hc := contains_ev q (i : Int) (by omega)
    have hj : Evt (fun k => impl_LockOk.j2 k (n : Int) (i : Int) l (l.length : Int) (i : Int) false w l q (gt l i).f0 (gt l i).f1 (gt l i).f2 (gt l i).f3 = some true) := by
      cases hf : (gt l i).f3 with
      | true =>
        rw [hf] at hn hs
        have hm : decide ((i : Int) ∈ q) = true := by simpa using hs
        refine (hc.and (ih (i + 1) (by omega) (n + 1) (by simp at hn; omega))).step fun k hk => ?_
        simp only [impl_LockOk.j2]
        rw [if_neg (by decide), if_pos trivial]
        refine bind_of hk.1 ?_
        rw [hm, if_neg (by decide), nat_succ_wrap (by omega), nat_succ_wrap (by omega)]
        exact hk.2
      | false =>
        rw [hf] at hn hs
        have hm : decide ((i : Int) ∈ q) = false := by simpa using hs
        refine (hc.and (ih (i + 1) (by omega) n (by simpa using hn))).step fun k hk => ?_
        simp only [impl_LockOk.j2]
        rw [if_neg (by decide), if_neg (by decide)]
        refine bind_of hk.1 ?_
        rw [hm, if_neg (by decide), nat_succ_wrap (by omega)]
        exact hk.2
    refine hj.step fun k hk => ?_
    simp only [impl_LockOk.l0]
    rw [if_pos (by omega), if_pos (by omega), if_pos (by omega)]
    rw [rd57_gt]
    have e1 : (decide (0 ≤ (gt l i).f0) && decide ((gt l i).f0 ≤ 6)) = true := by simp [T0, T1]
    have e2 : (decide (0 ≤ (gt l i).f1) && decide ((gt l i).f1 ≤ 2)) = true := by simp [T2, T3]
    have e3 : (decide (0 ≤ (gt l i).f2) && decide ((gt l i).f2 ≤ 3)) = true := by simp [T5, T6]
    refine bind_of (in_eq _ _ _) ?_
    rw [e1, if_pos rfl]
    refine bind_of (in_eq _ _ _) ?_
    rw [e2, if_pos rfl]
    have tail : (if (gt l i).f0 > 0 then (if (gt l i).f2 = 0 then (impl_LockOk.j2 k (n : Int) (i : Int) l (l.length : Int) (i : Int) true w l q (gt l i).f0 (gt l i).f1 (gt l i).f2 (gt l i).f3) else (if (gt l i).f3 = true then (impl_LockOk.j2 k (n : Int) (i : Int) l (l.length : Int) (i : Int) ((gt l i).f0 != 3) w l q (gt l i).f0 (gt l i).f1 (gt l i).f2 (gt l i).f3) else (impl_LockOk.j2 k (n : Int) (i : Int) l (l.length : Int) (i : Int) false w l q (gt l i).f0 (gt l i).f1 (gt l i).f2 (gt l i).f3))) else (if (gt l i).f3 = true then (impl_LockOk.j2 k (n : Int) (i : Int) l (l.length : Int) (i : Int) ((gt l i).f0 != 3) w l q (gt l i).f0 (gt l i).f1 (gt l i).f2 (gt l i).f3) else (impl_LockOk.j2 k (n : Int) (i : Int) l (l.length : Int) (i : Int) false w l q (gt l i).f0 (gt l i).f1 (gt l i).f2 (gt l i).f3))) = some true := by
      have e4 : (gt l i).f3 = true → ((gt l i).f0 != 3) = false := fun h => by rw [T8 h]; rfl
      by_cases ca : (gt l i).f0 > 0
      · rw [if_pos ca, if_neg (by have := T7 ca; omega)]
        by_cases cb : (gt l i).f3 = true
        · rw [if_pos cb, e4 cb]; exact hk
        · rw [if_neg cb]; exact hk
      · rw [if_neg ca]
        by_cases cb : (gt l i).f3 = true
        · rw [if_pos cb, e4 cb]; exact hk
        · rw [if_neg cb]; exact hk
    by_cases c1 : (gt l i).f1 > 0
    · rw [if_pos c1, if_pos (by by_cases c : (gt l i).f0 = 1; exact c; have := T4 c; omega)]
      refine bind_of (in_eq _ _ _) ?_
      rw [e3, if_pos rfl]
      exact tail
    · rw [if_neg c1]
      refine bind_of (in_eq _ _ _) ?_
      rw [e3, if_pos rfl]
      exact tail
theorem lockok_ev {w : Int} {l : List S57} {q : List Int} (I : LkOk w l q) : Evt (fun k => impl_LockOk.f k w l q = some true) := by
  have h := lockok_loop I l.length 0 (by omega) 0 (by simpa using I.cn)
  have hj : Evt (fun k => impl_LockOk.j0 k false w l q = some true) := h.step fun k hk => by
    simp only [impl_LockOk.j0]
    rw [if_neg (by decide)]
    exact hk
  refine hj.imp fun k hk => ?_
  unfold impl_LockOk.f
  refine bind_of (in_eq _ _ _) ?_
  rw [if_pos (by simp [I.wd.1, I.wd.2])]
  refine bind_of (in_eq _ _ _) ?_
  have n1 := I.n1; have n4 := I.n4
  have e : (!(decide (1 ≤ (l.length : Int)) && decide ((l.length : Int) ≤ 4))) = false := by
    rw [decide_eq_true (show (1 : Int) ≤ l.length by omega), decide_eq_true (show (l.length : Int) ≤ 4 by omega)]; rfl
  rw [e]
  exact hk
theorem can_eq (w : Int) (l : List S57) (q : List Int) (i : Nat) (hi : i < l.length) (h0 : 0 ≤ (gt l i).f0) : impl_Lock_can.f w l q (i : Int) = some (decide (canT (gt l i))) := by
  unfold impl_Lock_can.f
  rw [if_pos (by omega), if_pos (by omega), rd57_gt]
  unfold canT
  by_cases hf : (gt l i).f3 = true
  · rw [if_pos hf]; simp [hf]
  · rw [if_neg hf]
    by_cases c : (gt l i).f0 > 0
    · rw [if_pos c]; simp [c, hf]
    · rw [if_neg c]; simp [show ¬ 0 < (gt l i).f0 from c, hf]
theorem lclone_eq (w : Int) (l : List S57) (q : List Int) (hl : l.length ≤ 4) (hq : q.length ≤ 4) : impl_Lock_clone.f w l q = some (w, l, q) := by
  unfold impl_Lock_clone.f impl_Thread.f slices_Clone_int_int.f
  simp only [Option.bind_some, List.length_nil, List.nil_append, Nat.zero_add]
  rw [if_pos (by omega), if_pos (by omega)]
  rfl
theorem step_eq {w : Int} {l : List S57} {q : List Int} (I : LkOk w l q) {i : Nat} (hi : i < l.length) : impl_Lock_step.f w l q (i : Int) = some (stp w l q i) := by
  have hq := I.len; have n4 := I.n4
  obtain ⟨⟨T0, T1⟩, ⟨T2, T3⟩, T4, ⟨T5, T6⟩, T7, T8⟩ := I.th i hi
  have wr : wrap64 ((gt l i).f2 - 1) = (gt l i).f2 - 1 := wrap_in (by omega) (by omega)
  unfold impl_Lock_step.f
  refine bind_of (lclone_eq w l q n4 hq) ?_
  rw [if_pos (by omega), if_pos (by show (i : Int) < (l.length : Int); omega)]
  unfold stp
  simp only [rd57_gt, Option.bind_some, Int.toNat_natCast, gt_self _ _ _ hi, List.set_set, wr, List.length_set]
  by_cases c0 : (gt l i).f0 = 0
  · rw [if_pos c0, if_pos c0]
    by_cases cw : w = 0
    · rw [if_pos cw, if_pos cw]
    · rw [if_neg cw, if_neg cw]
  rw [if_neg c0, if_neg c0]
  by_cases c1 : (gt l i).f0 = 1
  · rw [if_pos c1, if_pos c1]
    by_cases cs : (gt l i).f1 = 2
    · rw [if_pos cs, if_pos cs]
    rw [if_neg cs, if_neg cs]
    by_cases cw : w = 0
    · rw [if_pos cw, if_pos cw]
    · rw [if_neg cw, if_neg cw]
  rw [if_neg c1, if_neg c1]
  by_cases c2 : (gt l i).f0 = 2
  · rw [if_pos c2, if_pos c2]
    by_cases cw : w = 2
    · rw [if_pos cw, if_pos cw, if_pos (by omega)]
    · rw [if_neg cw, if_neg cw]
  rw [if_neg c2, if_neg c2]
  by_cases c3 : (gt l i).f0 = 3
  · rw [if_pos c3, if_pos c3]
    by_cases cw : w = 0
    · rw [if_pos cw, if_pos cw]
    · rw [if_neg cw, if_neg cw]
  rw [if_neg c3, if_neg c3]
  by_cases c4 : (gt l i).f0 = 4
  · rw [if_pos c4, if_pos c4]
    by_cases cw : w < 2
    · rw [if_pos cw, if_pos cw]
    · rw [if_neg cw, if_neg cw]
  rw [if_neg c4, if_neg c4]
  by_cases c5 : (gt l i).f0 = 5
  · rw [if_pos c5, if_pos c5]
  rw [if_neg c5, if_neg c5, if_pos (by omega)]
  cases q with
  | nil => rw [if_neg (by simp)]
  | cons x r =>
    obtain ⟨n, rfl, hn⟩ := I.qr x (by simp)
    have e0 : rd ((n : Int) :: r) 0 = (n : Int) := by simp [rd]
    have hx : (gt l n).f3 = true := (I.qs n hn).2 (by simp)
    have hx3 : (gt l n).f0 = 3 := (I.th n hn).2.2.2.2.2 hx
    have hni : n ≠ i := fun c => by subst c; omega
    simp only [e0, rd57_gt, Int.toNat_natCast]
    have hl1 : i < (l.set n ⟨(gt l n).f0, (gt l n).f1, (gt l n).f2, false⟩).length := by simpa using hi
    have hn1 : n < l.length := hn
    rw [if_pos (by simp), if_pos (by simp), if_pos (by omega), if_pos (by omega), if_pos (by simp only [List.length_cons]; omega)]
    simp only [gt_self _ _ _ hl1, gt_other _ _ _ _ hn1 (fun c => hni c.symm), wr]
    rfl

theorem can_of_way {t : S57} (T : tOk t) (h : wayT t) : canT t := by
  obtain ⟨⟨T0, T1⟩, ⟨T2, T3⟩, T4, ⟨T5, T6⟩, T7, T8⟩ := T
  unfold wayT at h
  unfold canT
  cases hf : t.f3 with
  | true => have := T8 hf; rw [hf] at h; simp at h; omega
  | false => exact ⟨rfl, .inl (by omega)⟩
theorem can_of_held {t : S57} (T : tOk t) (h : heldT t) : canT t := by
  obtain ⟨⟨T0, T1⟩, ⟨T2, T3⟩, T4, ⟨T5, T6⟩, T7, T8⟩ := T
  unfold heldT at h
  unfold canT
  cases hf : t.f3 with
  | true => have := T8 hf; omega
  | false => exact ⟨rfl, .inl (by omega)⟩
theorem LkOk.some_can {w : Int} {l : List S57} {q : List Int} (I : LkOk w l q) (hq : q ≠ []) : ∃ i, i < l.length ∧ canT (gt l i) := by
  rcases I.wy hq with h | ⟨i, hi, h⟩
  · rcases I.hd with ⟨e, _⟩ | ⟨_, i, hi, h2, _⟩
    · omega
    · exact ⟨i, hi, can_of_held (I.th i hi) h2⟩
  · exact ⟨i, hi, can_of_way (I.th i hi) h⟩
theorem can_ev {w : Int} {l : List S57} {q : List Int} (I : LkOk w l q) {i : Nat} (hi : i < l.length) : impl_Lock_can.f w l q (i : Int) = some (decide (canT (gt l i))) := can_eq w l q i hi (I.th i hi).1.1

theorem new_ok (n t : Int) (hn : 1 ≤ n) (hn4 : n ≤ 4) (ht : 0 ≤ t) (ht3 : t ≤ 3) : LkOk 0 (List.replicate n.toNat ⟨0, 0, t, false⟩) [] := by
  have hg : ∀ i, i < n.toNat → gt (List.replicate n.toNat ⟨0, 0, t, false⟩) i = ⟨0, 0, t, false⟩ := fun i hi => by
    unfold gt; rw [getD_at _ _ _ (by simpa using hi), List.getElem_replicate]
  have hs : ∀ m : Nat, slp (List.replicate m ⟨0, 0, t, false⟩) = 0 := by
    intro m
    induction m with
    | zero => rfl
    | succ m ih => simp [List.replicate_succ, slp, ih]
  refine ⟨by simp; omega, by simp; omega, by simp, fun i hi => ?_, by simp, by simp, fun i hi => ?_, by rw [hs]; rfl, .inl ⟨rfl, fun j hj => ?_⟩, fun h => absurd rfl h⟩
  · rw [hg i (by simpa using hi)]; exact ⟨by simp, by simp, by simp, ⟨ht, ht3⟩, by simp, by simp⟩
  · rw [hg i (by simpa using hi)]; simp
  · rw [hg j (by simpa using hj)]; unfold heldT; simp
theorem stp_len (w : Int) (l : List S57) (q : List Int) (i : Nat) : (stp w l q i).2.1.length = l.length := by
  unfold stp
  simp only
  repeat' split
  all_goals simp

theorem lockstep_ev {w : Int} {l : List S57} {q : List Int} (I : LkOk w l q) {i : Nat} (hi : i < l.length) :
    Evt (fun k => impl_LockStep.f k w l q (i : Int) = some (if canT (gt l i) then ((stp w l q i).1, (stp w l q i).2.1, (stp w l q i).2.2, true) else (w, l, q, false))) := by
  have n4 := I.n4
  have hj : Evt (fun k => impl_LockStep.j0 k (i : Int) false w l q = some (if canT (gt l i) then ((stp w l q i).1, (stp w l q i).2.1, (stp w l q i).2.2, true) else (w, l, q, false))) := by
    refine Evt.of1 fun k => ?_
    simp only [impl_LockStep.j0]
    rw [if_neg (by decide)]
    refine bind_of (can_ev I hi) ?_
    by_cases c : canT (gt l i)
    · rw [decide_eq_true c, if_pos rfl, if_pos c]
      exact bind_of (step_eq I hi) rfl
    · rw [decide_eq_false c, if_neg (by decide), if_neg c]
      exact bind_of (lclone_eq w l q n4 I.len) rfl
  refine ((lockok_ev I).and hj).imp fun k hk => ?_
  unfold impl_LockStep.f
  refine bind_of hk.1 ?_
  rw [if_pos rfl]
  refine bind_of (in_eq _ _ _) ?_
  have e : (!(decide (0 ≤ (i : Int)) && decide ((i : Int) ≤ wrap64 ((l.length : Int) - 1)))) = false := by
    rw [nat_pred_wrap (by omega), decide_eq_true (by omega), decide_eq_true (by omega)]; rfl
  rw [e]
  exact hk.2

def hbT (t : S57) : Bool := t.f0 == 4 || t.f0 == 5
def ybT (t : S57) : Bool := t.f0 == 5 || t.f0 == 6 || (t.f0 == 3 && !t.f3) || t.f0 == 1 || t.f0 == 2
theorem word_step (k : Nat) (x1 : List Int) (n x11 w : Int) (l : List S57) (q : List Int) (h y : Bool) (i : Nat) (hi : i < l.length) (hl : l.length ≤ 4) (T : tOk (gt l i)) :
    laws_FnLockWord.l1 (k + 1) x1 n x11 h y (i : Int) w l q = laws_FnLockWord.l1 k x1 n x11 (h || hbT (gt l i)) (y || ybT (gt l i)) ((i + 1 : Nat) : Int) w l q := by
  obtain ⟨⟨T0, T1⟩, -⟩ := T
  simp only [laws_FnLockWord.l1]
  rw [if_pos (by omega), if_pos (by omega), nat_succ_wrap (by omega)]
  simp only [rd57_gt]
  unfold hbT ybT
  generalize gt l i = t at T0 T1 ⊢
  obtain ⟨f0, f1, f2, f3⟩ := t
  simp only at T0 T1 ⊢
  have hf : f0 = 0 ∨ f0 = 1 ∨ f0 = 2 ∨ f0 = 3 ∨ f0 = 4 ∨ f0 = 5 ∨ f0 = 6 := by omega
  rcases hf with rfl | rfl | rfl | rfl | rfl | rfl | rfl <;> cases h <;> cases y <;> cases f3 <;> simp
theorem any_drop (p : S57 → Bool) (l : List S57) (i : Nat) (h : i < l.length) : (l.drop i).any p = (p (gt l i) || (l.drop (i + 1)).any p) := by
  have e : gt l i = l[i] := getD_at _ _ _ h
  rw [List.drop_eq_getElem_cons h, e]
  rfl
theorem word_l1 (x1 : List Int) (n x11 w : Int) (l : List S57) (q : List Int) (I : LkOk w l q) (H Y : Bool) (hH : ((w == 0) == H) = false) (hY : (q.length : Int) > 0 → w ≠ 2 → Y = true)
    (hn : Evt (fun k => laws_FnLockWord.l0 k x1 n (wrap64 (x11 + 1)) w l q = some true)) :
    ∀ (d i : Nat), i + d = l.length → ∀ h y : Bool, (h || (l.drop i).any hbT) = H → (y || (l.drop i).any ybT) = Y → Evt (fun k => laws_FnLockWord.l1 k x1 n x11 h y (i : Int) w l q = some true) := by
  have n4 := I.n4
  intro d
  induction d with
  | zero =>
    intro i hi h y e1 e2
    rw [List.drop_of_length_le (by omega)] at e1 e2
    simp only [List.any_nil, Bool.or_false] at e1 e2
    subst e1 e2
    refine hn.step fun k hk => ?_
    simp only [laws_FnLockWord.l1]
    rw [if_neg (by omega), if_neg (by rw [hH]; decide)]
    by_cases c : (q.length : Int) > 0
    · rw [if_pos c]
      by_cases c2 : w = 2
      · rw [if_pos c2]; exact hk
      · rw [if_neg c2, if_pos (hY c c2)]; exact hk
    · rw [if_neg c]; exact hk
  | succ d ih =>
    intro i hi h y e1 e2
    have hi2 : i < l.length := by omega
    rw [any_drop _ _ _ hi2, ← Bool.or_assoc] at e1 e2
    exact (ih (i + 1) (by omega) _ _ e1 e2).step fun k hk => by rw [word_step k x1 n x11 w l q h y i hi2 n4 (I.th i hi2)]; exact hk
theorem any_gt (p : S57 → Bool) (l : List S57) : l.any p = true ↔ ∃ i, i < l.length ∧ p (gt l i) = true := by
  rw [List.any_eq_true]
  constructor
  · rintro ⟨x, hx, h⟩
    obtain ⟨i, hi, e⟩ := List.mem_iff_getElem.1 hx
    exact ⟨i, hi, by rw [show gt l i = l[i] from getD_at _ _ _ hi, e]; exact h⟩
  · rintro ⟨i, hi, h⟩
    rw [show gt l i = l[i] from getD_at _ _ _ hi] at h
    exact ⟨_, List.getElem_mem hi, h⟩
theorem word_ok {w : Int} {l : List S57} {q : List Int} (I : LkOk w l q) : ((w == 0) == l.any hbT) = false ∧ ((q.length : Int) > 0 → w ≠ 2 → l.any ybT = true) := by
  constructor
  · rcases I.hd with ⟨e, h⟩ | ⟨e, i, hi, h, _⟩
    · have : l.any hbT = false := by
        cases c : l.any hbT
        · rfl
        · obtain ⟨i, hi, h2⟩ := (any_gt _ _).1 c
          refine absurd ?_ (h i hi)
          unfold hbT at h2
          unfold heldT
          simpa using h2
      rw [this, e]; rfl
    · have : l.any hbT = true := (any_gt _ _).2 ⟨i, hi, by unfold heldT at h; unfold hbT; simpa using h⟩
      rw [this, show (w == 0) = false by simpa using e]; rfl
  · intro hq hw
    have hq2 : q ≠ [] := fun c => by rw [c] at hq; simp at hq
    rcases I.wy hq2 with h | ⟨i, hi, h⟩
    · exact absurd h hw
    · refine (any_gt _ _).2 ⟨i, hi, ?_⟩
      unfold wayT at h
      unfold ybT
      rcases h with h | h | ⟨h, h2⟩ | h | h
      · simp [h]
      · simp [h]
      · simp [h, h2]
      · simp [h]
      · simp [h]
theorem word_loop (x1 : List Int) (hb : Bytes x1) (n : Int) : ∀ (d i : Nat), i + d = min 200 x1.length → ∀ (w : Int) (l : List S57) (q : List Int), LkOk w l q → (l.length : Int) = n → Evt (fun k => laws_FnLockWord.l0 k x1 n (i : Int) w l q = some true) := by
  intro d
  induction d with
  | zero =>
    intro i hi w l q I hn
    have hj : Evt (fun k => laws_FnLockWord.j3 k x1 n (i : Int) false w l q = some true) := Evt.of1 fun k => by
      simp only [laws_FnLockWord.j3]
      rw [if_neg (by decide)]
    refine hj.step fun k hk => ?_
    simp only [laws_FnLockWord.l0]
    by_cases c : (i : Int) < (x1.length : Int)
    · rw [if_pos c, decide_eq_false (by omega)]; exact hk
    · rw [if_neg c]; exact hk
  | succ d ih =>
    intro i hi w l q I hn
    have n1 := I.n1; have n4 := I.n4
    have hr := rd_byte hb (i : Int)
    have ew : wrap64 (rd x1 (i : Int)) = rd x1 (i : Int) := wrap_in (by omega) (by omega)
    have hm := tmod_range hr.1 (show 0 < n by omega)
    obtain ⟨m, hm2⟩ : ∃ m : Nat, Int.tmod (rd x1 (i : Int)) n = m := ⟨(Int.tmod (rd x1 (i : Int)) n).toNat, by omega⟩
    have hml : m < l.length := by omega
    have next : ∀ (w : Int) (l : List S57) (q : List Int), LkOk w l q → (l.length : Int) = n → Evt (fun k => laws_FnLockWord.j4 k x1 n (i : Int) w l q = some true) := by
      intro w l q I hn
      have hw := word_ok I
      have := word_l1 x1 n (i : Int) w l q I (l.any hbT) (l.any ybT) hw.1 hw.2 (by rw [nat_succ_wrap (by omega)]; exact ih (i + 1) (by omega) w l q I hn) l.length 0 (by omega) false false (by simp) (by simp)
      refine this.step fun k hk => ?_
      simp only [laws_FnLockWord.j4]
      exact hk
    have hs := lockstep_ev I hml
    have hj : Evt (fun k => laws_FnLockWord.j3 k x1 n (i : Int) true w l q = some true) := by
      by_cases c : canT (gt l m)
      · refine (hs.and (next _ _ _ (I.stp hml c) (by rw [stp_len]; exact hn))).step fun k hk => ?_
        have h1 := hk.1
        rw [if_pos c] at h1
        simp only [laws_FnLockWord.j3]
        rw [if_pos trivial, if_pos (by omega), if_pos (by omega), if_neg (by omega), ew, hm2]
        refine bind_of h1 ?_
        rw [if_pos rfl]
        exact hk.2
      · refine (hs.and (next _ _ _ I hn)).step fun k hk => ?_
        have h1 := hk.1
        rw [if_neg c] at h1
        simp only [laws_FnLockWord.j3]
        rw [if_pos trivial, if_pos (by omega), if_pos (by omega), if_neg (by omega), ew, hm2]
        refine bind_of h1 ?_
        rw [if_neg (by simp)]
        exact hk.2
    refine hj.step fun k hk => ?_
    simp only [laws_FnLockWord.l0]
    rw [if_pos (by omega), decide_eq_true (by omega)]
    exact hk
theorem FnLockWord : laws_FnLockWord.Pure := by
  intro l0 l1 _ _ hb0 _ _ hb1
  have j0t : Evt (fun k => laws_FnLockWord.j0 k l0 l1 true = some true) := Evt.of1 fun k => by
    simp only [laws_FnLockWord.j0]
    rw [if_pos trivial]
  by_cases hlen : (l0.length : Int) > 1048576
  · exact Evt.some_ (j0t.imp fun k hk => by unfold laws_FnLockWord.f; rw [if_pos hlen]; exact hk)
  by_cases hlen1 : (l1.length : Int) > 1048576
  · exact Evt.some_ (j0t.imp fun k hk => by unfold laws_FnLockWord.f; rw [if_neg hlen, decide_eq_true hlen1]; exact hk)
  obtain ⟨n, t, hdr⟩ := drawlock_ev (bytes_of hb0)
  have h1 := impl_new_ev n t
  have h2 := spec_new_ev n t
  have h3 := qdlock_refl (lockNew n t).1 (lockNew n t).2.1 (lockNew n t).2.2.1 (by unfold lockNew; split <;> simp; omega) (by unfold lockNew; split <;> simp)
  have hj : Evt (fun k => laws_FnLockWord.j1 k l1 n (lockNew n t).2.2.2 (lockNew n t).2.2.2 (!(lockNew n t).2.2.2) (lockNew n t).1 (lockNew n t).2.1 (lockNew n t).2.2.1 (lockNew n t).1 (lockNew n t).2.1 (lockNew n t).2.2.1 = some true) := by
    by_cases c : 1 ≤ n ∧ n ≤ 4 ∧ 0 ≤ t ∧ t ≤ 3
    · have e : lockNew n t = (0, List.replicate n.toNat ⟨0, 0, t, false⟩, [], true) := by rw [lockNew, if_pos c]
      rw [e]
      have run := word_loop l1 (bytes_of hb1) n (min 200 l1.length) 0 (by omega) 0 _ [] (new_ok n t c.1 c.2.1 c.2.2.1 c.2.2.2) (by simp; omega)
      refine run.step fun k hk => ?_
      simp only [laws_FnLockWord.j1]
      rw [if_neg (by decide)]
      exact hk
    · have e : lockNew n t = (0, [], [], false) := by rw [lockNew, if_neg c]
      rw [e] at h3 ⊢
      refine h3.step fun k hk => ?_
      simp only [laws_FnLockWord.j1]
      rw [if_pos (by decide), if_pos (by decide)]
      exact bind_of hk rfl
  have j0f : Evt (fun k => laws_FnLockWord.j0 k l0 l1 false = some true) := ((hdr.and h1).and ((h2.and h3).and hj)).step fun k hk => by
    obtain ⟨⟨k1, k4⟩, ⟨k5, k6⟩, k7⟩ := hk
    simp only [laws_FnLockWord.j0]
    rw [if_neg (by decide)]
    refine bind_of k1 ?_
    refine bind_of k4 ?_
    refine bind_of k5 ?_
    rw [if_neg (by simp)]
    refine bind_of k6 ?_
    rw [if_pos rfl]
    exact k7
  exact Evt.some_ (j0f.imp fun k hk => by unfold laws_FnLockWord.f; rw [if_neg hlen, decide_eq_false hlen1]; exact hk)

end Go.Proofs.Ytpdfkbggaihfpaa.Pure
