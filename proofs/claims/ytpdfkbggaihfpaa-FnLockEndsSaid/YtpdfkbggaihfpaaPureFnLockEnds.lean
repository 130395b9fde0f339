/- Proved: for all codes, the law FnLockEnds answers true and leaves its arguments as they were (all turns are taken in the end). No condition beyond the row's own. -/
import Derived.Test.YtpdfkbggaihfpaaPFnLockEndsx11
import Derived.Test.YtpdfkbggaihfpaaAuxFnLockEnds
namespace Go.Proofs.Ytpdfkbggaihfpaa.Pure
open Go.RowKit Go.Proofs.Ytpdfkbggaihfpaa.PFnLockEnds Go.Proofs.YtpdfkbggaihfpaaW.PrintWords Go.Proofs.YtpdfkbggaihfpaaW.PrintLast Go.Proofs.YtpdfkbggaihfpaaW.PrintMore Go.Proofs.Ytpdfkbggaihfpaa.Aux
set_option linter.unusedVariables false
set_option linter.unusedSimpArgs false
theorem pick_ev {l : List Int} (hl : Bytes l) {p : Int} (n : Int) (h0 : 0 ≤ p) (h1 : p < 1000000) :
    ∃ v, Evt (fun k => spec_l6Rd_pick.f k l p n = some (v, p + 1)) ∧ 0 ≤ v ∧ (1 ≤ n → v < n) ∧ (n < 1 → v = 0) := by
  have e1 : wrap64 (p + 1) = p + 1 := wrap_in (by omega) (by omega)
  have e2 : wrap64 (p + 1 - 1) = p := by rw [Int.add_sub_cancel]; exact wrap_in (by omega) (by omega)
  by_cases hn : n < 1
  · refine ⟨0, Evt.of1 fun k => ?_, by omega, by omega, fun _ => rfl⟩
    unfold spec_l6Rd_pick.f
    rw [if_pos hn, e1]
    simp only [spec_l6Rd_pick.j0, if_true]
  · by_cases hz : l.length = 0
    · refine ⟨0, Evt.of1 fun k => ?_, by omega, by omega, fun _ => rfl⟩
      unfold spec_l6Rd_pick.f
      have hz' : ((l.length : Int) == 0) = true := by simp [hz]
      rw [if_neg hn, e1, hz']
      simp only [spec_l6Rd_pick.j0, if_true]
    · have hz' : ((l.length : Int) == 0) = false := by simpa using hz
      have hlen : (0 : Int) < (l.length : Int) := by omega
      by_cases hlt : p < (l.length : Int)
      · have hr := rd_byte hl p
        have hr2 : wrap64 (rd l p) = rd l p := wrap_in (by omega) (by omega)
        have ht := tmod_range (a := rd l p) (n := n) (by omega) (by omega)
        refine ⟨Int.tmod (rd l p) n, Evt.of1 fun k => ?_, ht.1, fun _ => ht.2, fun h => by omega⟩
        unfold spec_l6Rd_pick.f
        rw [if_neg hn, e1, hz']
        simp only [spec_l6Rd_pick.j0]
        rw [e2, if_neg (by decide), if_pos hlt, if_pos h0, if_neg (by omega), hr2]
      · have e3 : wrap64 (wrap64 (p * 7) + 3) = p * 7 + 3 := by
          rw [wrap_in (n := p * 7) (by omega) (by omega)]
          exact wrap_in (by omega) (by omega)
        have ta := tmod_range (a := p) (n := (l.length : Int)) h0 hlen
        have tb := tmod_range (a := p * 7 + 3) (n := (l.length : Int)) (by omega) hlen
        have td := tdiv_range (a := p) (n := (l.length : Int)) h0 hlen
        have ra := rd_byte hl (Int.tmod p (l.length : Int))
        have rb := rd_byte hl (Int.tmod (p * 7 + 3) (l.length : Int))
        obtain ⟨x, hx, x0, x1⟩ := mix_range ra.1 ra.2 rb.1 rb.2 h0 (by omega) td.1 td.2
        have xd := tdiv_range (a := x) (n := 64) x0 (by decide)
        have xw : wrap64 (Int.tdiv x 64) = Int.tdiv x 64 := wrap_in (by omega) (by omega)
        have xx := xor_range (a := x) (b := Int.tdiv x 64) x0 x1 xd.1 (by omega)
        have tv := tmod_range (a := Go.bits .xor .i64 x (Int.tdiv x 64)) (n := n) xx.1 (by omega)
        refine ⟨Int.tmod (Go.bits .xor .i64 x (Int.tdiv x 64)) n, Evt.of1 fun k => ?_, tv.1, fun _ => tv.2, fun h => by omega⟩
        unfold spec_l6Rd_pick.f
        rw [if_neg hn, e1, hz']
        simp only [spec_l6Rd_pick.j0]
        rw [e2, e3, if_neg (by decide), if_neg hlt, if_neg (by omega), if_pos ta.1, if_pos ta.2, if_pos tb.1, if_pos tb.2, if_neg (by omega), hx, xw]
theorem open_ev {l : List Int} (hl : Bytes l) : ∃ s, spec_l6Open.f l = some (s, 0) ∧ Bytes s := by
  unfold spec_l6Open.f
  by_cases h : (l.length : Int) > 2000
  · exact ⟨l.take 2000, by rw [if_pos h, if_pos (by omega)], hl.take _⟩
  · exact ⟨l, by rw [if_neg h], hl⟩

theorem in_eq (a b c : Int) : impl_in.f a b c = some (decide (b ≤ a) && decide (a ≤ c)) := by
  unfold impl_in.f
  by_cases h : a ≥ b
  · rw [if_pos h]; simp [show b ≤ a from h]
  · rw [if_neg h]; simp [show ¬ b ≤ a from h]
theorem l6in_eq (a b c : Int) : spec_l6In.f a b c = some (decide (b ≤ a) && decide (a ≤ c)) := by
  unfold spec_l6In.f
  by_cases h : a ≥ b
  · rw [if_pos h]; simp [show b ≤ a from h]
  · rw [if_neg h]; simp [show ¬ b ≤ a from h]

theorem qdints_loop (a : List Int) (ha : a.length < 1000000000) : ∀ (d i : Nat), i + d = a.length → Evt (fun k => laws_qdInts.l0 k a a (i : Int) = some true) := by
  intro d
  induction d with
  | zero =>
    intro i hi
    refine Evt.of1 fun k => ?_
    simp only [laws_qdInts.l0]
    rw [if_neg (by omega)]
  | succ d ih =>
    intro i hi
    refine (ih (i + 1) (by omega)).step fun k hk => ?_
    simp only [laws_qdInts.l0]
    rw [if_pos (by omega), if_pos (by omega), if_pos (by omega), if_pos trivial, nat_succ_wrap (by omega)]
    exact hk
theorem qdints_refl (a : List Int) (ha : a.length < 1000000000) : Evt (fun k => laws_qdInts.f k a a = some true) := by
  refine (qdints_loop a ha a.length 0 (by omega)).imp fun k hk => ?_
  unfold laws_qdInts.f
  rw [if_pos rfl]
  exact hk

theorem Evt.mono_ {α : Type} {g : Nat → Option α} (hm : ∀ k, LeO (g k) (g (k + 1))) {K : Nat} {r : α} (h : g K = some r) : Evt (fun k => g k = some r) := by
  refine ⟨K, fun k hk => ?_⟩
  induction hk with
  | refl => exact h
  | step _ ih => exact hm _ _ ih

def lockNew (n t : Int) : Int × List S57 × List Int × Bool := if 1 ≤ n ∧ n ≤ 4 ∧ 0 ≤ t ∧ t ≤ 3 then (0, List.replicate n.toNat ⟨0, 0, t, false⟩, [], true) else (0, [], [], false)
theorem impl_new_loop (t : Int) : ∀ (d i : Nat) (l : List S57), i + d = l.length → l.length ≤ 4 → (∀ j : Nat, i ≤ j → j < l.length → rd_T57 l (j : Int) = z57) →
    Evt (fun k => impl_LockNew.l0 k t (l.length : Int) (i : Int) 0 l = some (0, l.take i ++ List.replicate d ⟨0, 0, t, false⟩, [], true)) := by
  intro d
  induction d with
  | zero =>
    intro i l hi h4 hz
    refine Evt.of1 fun k => ?_
    simp only [impl_LockNew.l0]
    rw [if_neg (by omega), List.take_of_length_le (by omega)]
    simp
  | succ d ih =>
    intro i l hi h4 hz
    have hzi := hz i (Nat.le_refl _) (by omega)
    have hr := ih (i + 1) (l.set i ⟨0, 0, t, false⟩) (by simp; omega) (by simpa using h4) (fun j h1 h2 => by
      have := hz j (by omega) (by simpa using h2)
      unfold rd_T57 at this ⊢
      rw [List.getD_eq_getElem?_getD] at this ⊢
      rw [List.getElem?_set, if_neg (by simp; omega)]
      exact this)
    refine hr.step fun k hk => ?_
    simp only [impl_LockNew.l0]
    rw [List.length_set] at hk
    rw [if_pos (by omega), if_pos (by omega), if_pos (by omega), nat_succ_wrap (by omega), hzi, Int.toNat_natCast]
    refine hk.trans ?_
    congr 2
    rw [List.take_set, List.take_succ_eq_append_getElem (by omega), List.set_append, List.length_take, if_neg (by omega)]
    simp [List.replicate_succ, show i - min i l.length = 0 by omega]
theorem impl_new_ev (n t : Int) : Evt (fun k => impl_LockNew.f k n t = some (lockNew n t)) := by
  have jt : Evt (fun k => impl_LockNew.j0 k n t true = some (0, [], [], false)) := Evt.of1 fun k => by
    simp only [impl_LockNew.j0]
    rw [if_pos trivial]
  by_cases c1 : 1 ≤ n ∧ n ≤ 4
  · by_cases c2 : 0 ≤ t ∧ t ≤ 3
    · have lp := impl_new_loop t n.toNat 0 (List.replicate n.toNat z57) (by simp) (by simp; omega) (fun j _ hj => by
        unfold rd_T57
        rw [List.getD_eq_getElem?_getD, List.getElem?_replicate, if_pos (by simpa using hj)]
        rfl)
      have jf : Evt (fun k => impl_LockNew.j0 k n t false = some (lockNew n t)) := by
        refine lp.step fun k hk => ?_
        simp only [impl_LockNew.j0]
        rw [if_neg (by decide), if_pos (by omega), if_pos (by omega)]
        refine bind_of rfl ?_
        refine hk.trans ?_
        rw [lockNew, if_pos ⟨c1.1, c1.2, c2.1, c2.2⟩]
        simp
      refine jf.imp fun k hk => ?_
      unfold impl_LockNew.f
      refine bind_of (in_eq _ _ _) ?_
      rw [if_pos (by simpa using c1)]
      refine bind_of (in_eq _ _ _) ?_
      rw [show (decide ((0 : Int) ≤ t) && decide (t ≤ 3)) = true from by simpa using c2]
      exact hk
    · refine jt.imp fun k hk => ?_
      unfold impl_LockNew.f
      refine bind_of (in_eq _ _ _) ?_
      rw [if_pos (by simpa using c1)]
      refine bind_of (in_eq _ _ _) ?_
      rw [show (decide ((0 : Int) ≤ t) && decide (t ≤ 3)) = false from by rw [← Bool.not_eq_true]; simpa using c2, lockNew, if_neg (by omega)]
      exact hk
  · refine jt.imp fun k hk => ?_
    unfold impl_LockNew.f
    refine bind_of (in_eq _ _ _) ?_
    rw [if_neg (by simpa using c1), lockNew, if_neg (by omega)]
    exact hk
theorem spec_new_loop (n t : Int) (hn : n ≤ 4) : ∀ (d i : Nat) (l : List S57), (i : Int) + d = n → l.length = i →
    Evt (fun k => spec_LockNew.l0 k n t (i : Int) 0 l [] = some (0, l ++ List.replicate d ⟨0, 0, t, false⟩, [], true)) := by
  intro d
  induction d with
  | zero =>
    intro i l hi hl
    refine Evt.of1 fun k => ?_
    simp only [spec_LockNew.l0]
    rw [if_neg (by omega)]
    simp
  | succ d ih =>
    intro i l hi hl
    refine (ih (i + 1) (l ++ [⟨0, 0, t, false⟩]) (by omega) (by simp; omega)).step fun k hk => ?_
    simp only [spec_LockNew.l0]
    rw [if_pos (by omega), if_pos (by omega), nat_succ_wrap (by omega)]
    refine hk.trans ?_
    simp [List.replicate_succ]
theorem spec_new_ev (n t : Int) : Evt (fun k => spec_LockNew.f k n t = some (lockNew n t)) := by
  have jt : Evt (fun k => spec_LockNew.j0 k n t true = some (0, [], [], false)) := Evt.of1 fun k => by
    simp only [spec_LockNew.j0]
    rw [if_pos trivial]
  by_cases c1 : 1 ≤ n ∧ n ≤ 4
  · by_cases c2 : 0 ≤ t ∧ t ≤ 3
    · have lp := spec_new_loop n t (by omega) n.toNat 0 [] (by omega) rfl
      have jf : Evt (fun k => spec_LockNew.j0 k n t false = some (lockNew n t)) := by
        refine lp.step fun k hk => ?_
        simp only [spec_LockNew.j0]
        rw [if_neg (by decide)]
        refine hk.trans ?_
        rw [lockNew, if_pos ⟨c1.1, c1.2, c2.1, c2.2⟩]
        simp
      refine jf.imp fun k hk => ?_
      unfold spec_LockNew.f
      refine bind_of (l6in_eq _ _ _) ?_
      rw [if_pos (by simpa using c1)]
      refine bind_of (l6in_eq _ _ _) ?_
      rw [show (decide ((0 : Int) ≤ t) && decide (t ≤ 3)) = true from by simpa using c2]
      exact hk
    · refine jt.imp fun k hk => ?_
      unfold spec_LockNew.f
      refine bind_of (l6in_eq _ _ _) ?_
      rw [if_pos (by simpa using c1)]
      refine bind_of (l6in_eq _ _ _) ?_
      rw [show (decide ((0 : Int) ≤ t) && decide (t ≤ 3)) = false from by rw [← Bool.not_eq_true]; simpa using c2, lockNew, if_neg (by omega)]
      exact hk
  · refine jt.imp fun k hk => ?_
    unfold spec_LockNew.f
    refine bind_of (l6in_eq _ _ _) ?_
    rw [if_neg (by simpa using c1), lockNew, if_neg (by omega)]
    exact hk
theorem qdlock_loop (a : Int) (l : List S57) (q : List Int) (hl : l.length ≤ 4) : ∀ (d i : Nat), i + d = l.length → Evt (fun k => laws_qdLock.l0 k (i : Int) a l q a l q = some true) := by
  intro d
  induction d with
  | zero =>
    intro i hi
    refine Evt.of1 fun k => ?_
    simp only [laws_qdLock.l0]
    rw [if_neg (by omega)]
  | succ d ih =>
    intro i hi
    refine (ih (i + 1) (by omega)).step fun k hk => ?_
    simp only [laws_qdLock.l0]
    rw [if_pos (by omega), if_pos (by omega), if_pos (by omega), if_neg (by simp), nat_succ_wrap (by omega)]
    exact hk
theorem qdlock_refl (a : Int) (l : List S57) (q : List Int) (hl : l.length ≤ 4) (hq : q.length < 1000000000) : Evt (fun k => laws_qdLock.f k a l q a l q = some true) := by
  have j : Evt (fun k => laws_qdLock.j0 k false a l q a l q = some true) := by
    refine (qdlock_loop a l q hl l.length 0 (by omega)).step fun k hk => ?_
    simp only [laws_qdLock.j0]
    rw [if_neg (by decide)]
    exact hk
  refine ((qdints_refl q hq).and j).imp fun k hk => ?_
  unfold laws_qdLock.f
  rw [if_pos rfl]
  refine bind_of hk.1 ?_
  rw [if_pos rfl]
  simp only [bne_self_eq_false]
  exact hk.2

theorem drawlock_ev {l : List Int} (hl : Bytes l) : ∃ n t, Evt (fun k => spec_DrawLockNew.f k l = some (n, t)) := by
  obtain ⟨s, hs, hsb⟩ := open_ev hl
  obtain ⟨v, hv, _⟩ := pick_ev hsb (p := 0) 6 (by omega) (by omega)
  obtain ⟨w, hw, _⟩ := pick_ev hsb (p := 0 + 1) 6 (by omega) (by omega)
  refine ⟨v, wrap64 (w - 1), (hv.and hw).imp fun k hk => ?_⟩
  unfold spec_DrawLockNew.f
  refine bind_of hs ?_
  refine bind_of hk.1 ?_
  refine bind_of hk.2 ?_
  rfl

def gt (l : List S57) (i : Nat) : S57 := l.getD i z57
theorem gt_set (l : List S57) (i j : Nat) (x : S57) (hi : i < l.length) : gt (l.set i x) j = if j = i then x else gt l j := by
  unfold gt
  rw [List.getD_eq_getElem?_getD, List.getD_eq_getElem?_getD, List.getElem?_set]
  by_cases h : i = j
  · rw [if_pos h, if_pos h.symm, if_pos (by omega)]; rfl
  · rw [if_neg h, if_neg (by omega)]
theorem gt_self (l : List S57) (i : Nat) (x : S57) (hi : i < l.length) : gt (l.set i x) i = x := by rw [gt_set _ _ _ _ hi, if_pos rfl]
theorem gt_other (l : List S57) (i j : Nat) (x : S57) (hi : i < l.length) (h : j ≠ i) : gt (l.set i x) j = gt l j := by rw [gt_set _ _ _ _ hi, if_neg h]
theorem rd57_gt (l : List S57) (i : Nat) : rd_T57 l (i : Int) = gt l i := by unfold rd_T57 gt; rw [Int.toNat_natCast]
def tOk (t : S57) : Prop := (0 ≤ t.f0 ∧ t.f0 ≤ 6) ∧ (0 ≤ t.f1 ∧ t.f1 ≤ 2) ∧ (t.f0 ≠ 1 → t.f1 = 0) ∧ (0 ≤ t.f2 ∧ t.f2 ≤ 3) ∧ (0 < t.f0 → 0 < t.f2) ∧ (t.f3 = true → t.f0 = 3)
def heldT (t : S57) : Prop := t.f0 = 4 ∨ t.f0 = 5
def wayT (t : S57) : Prop := t.f0 = 5 ∨ t.f0 = 6 ∨ (t.f0 = 3 ∧ t.f3 = false) ∨ t.f0 = 1 ∨ t.f0 = 2
def canT (t : S57) : Prop := t.f3 = false ∧ (0 < t.f0 ∨ 0 < t.f2)
instance (t : S57) : Decidable (canT t) := by unfold canT; infer_instance
def HoldT (w : Int) (l : List S57) : Prop := (w = 0 ∧ ∀ j, j < l.length → ¬ heldT (gt l j)) ∨ (w ≠ 0 ∧ ∃ h, h < l.length ∧ heldT (gt l h) ∧ ∀ j, j < l.length → heldT (gt l j) → j = h)
def slp : List S57 → Nat
| [] => 0
| t :: r => t.f3.toNat + slp r
def tns : List S57 → Int
| [] => 0
| t :: r => t.f2 + tns r
theorem slp_le : ∀ l : List S57, slp l ≤ l.length
| [] => Nat.le_refl _
| t :: r => by have := slp_le r; have := Bool.toNat_le t.f3; simp only [slp, List.length_cons]; omega
theorem slp_set : ∀ (l : List S57) (i : Nat) (x : S57), i < l.length → slp (l.set i x) + (gt l i).f3.toNat = slp l + x.f3.toNat
| [], i, x, h => absurd h (by simp)
| t :: r, 0, x, h => by simp only [List.set_cons_zero, slp, gt, List.getD_cons_zero]; omega
| t :: r, i + 1, x, h => by
  have := slp_set r i x (by simpa using h)
  simp only [List.set_cons_succ, slp, gt, List.getD_cons_succ] at this ⊢
  omega
theorem tns_set : ∀ (l : List S57) (i : Nat) (x : S57), i < l.length → tns (l.set i x) = tns l - (gt l i).f2 + x.f2
| [], i, x, h => absurd h (by simp)
| t :: r, 0, x, h => by simp only [List.set_cons_zero, tns, gt, List.getD_cons_zero]; omega
| t :: r, i + 1, x, h => by
  have := tns_set r i x (by simpa using h)
  simp only [List.set_cons_succ, tns, gt, List.getD_cons_succ] at this ⊢
  omega
theorem tns_bound : ∀ (l : List S57), (∀ j, j < l.length → 0 ≤ (gt l j).f2 ∧ (gt l j).f2 ≤ 3) → 0 ≤ tns l ∧ tns l ≤ 3 * l.length
| [], _ => by simp [tns]
| t :: r, h => by
  have h0 := h 0 (by simp)
  have := tns_bound r (fun j hj => by have := h (j + 1) (by simpa using hj); simpa [gt] using this)
  simp only [gt, List.getD_cons_zero] at h0
  simp only [tns, List.length_cons]
  omega
theorem tns_pos : ∀ (l : List S57), (∀ j, j < l.length → 0 ≤ (gt l j).f2 ∧ (gt l j).f2 ≤ 3) → ∀ i, i < l.length → (gt l i).f2 ≤ tns l
| [], _, i, hi => absurd hi (by simp)
| t :: r, h, 0, _ => by
  have := tns_bound r (fun j hj => by have := h (j + 1) (by simpa using hj); simpa [gt] using this)
  simp only [tns, gt, List.getD_cons_zero]; omega
| t :: r, h, i + 1, hi => by
  have h0 := h 0 (by simp)
  have := tns_pos r (fun j hj => by have := h (j + 1) (by simpa using hj); simpa [gt] using this) i (by simpa using hi)
  simp only [tns, gt, List.getD_cons_zero, List.getD_cons_succ] at h0 this ⊢
  omega
structure LkOk (w : Int) (l : List S57) (q : List Int) : Prop where
  n1 : 1 ≤ l.length
  n4 : l.length ≤ 4
  wd : 0 ≤ w ∧ w ≤ 2
  th : ∀ i, i < l.length → tOk (gt l i)
  qn : q.Nodup
  qr : ∀ x ∈ q, ∃ i : Nat, x = (i : Int) ∧ i < l.length
  qs : ∀ i, i < l.length → ((gt l i).f3 = true ↔ (i : Int) ∈ q)
  cn : slp l = q.length
  hd : HoldT w l
  wy : q ≠ [] → w = 2 ∨ ∃ i, i < l.length ∧ wayT (gt l i)
theorem LkOk.upd {w : Int} {l : List S57} {q : List Int} (I : LkOk w l q) {i : Nat} (hi : i < l.length) (ha : (gt l i).f3 = false) {w' : Int} {t : S57} (hw : 0 ≤ w' ∧ w' ≤ 2) (ht : tOk t) (hf : t.f3 = false) (hh : HoldT w' (l.set i t))
    (hy : q ≠ [] → w' = 2 ∨ ∃ j, j < (l.set i t).length ∧ wayT (gt (l.set i t) j)) : LkOk w' (l.set i t) q := by
  have e := slp_set l i t hi
  rw [ha, hf] at e
  refine ⟨by simpa using I.n1, by simpa using I.n4, hw, fun j hj => ?_, I.qn, fun x hx => by simpa using I.qr x hx, fun j hj => ?_, by have := I.cn; simp at e; omega, hh, hy⟩
  · rw [gt_set _ _ _ _ hi]; split
    · exact ht
    · exact I.th j (by simpa using hj)
  · rw [gt_set _ _ _ _ hi]; split
    · rename_i c; subst c
      have := I.qs j hi
      rw [ha] at this; rw [hf]; exact this
    · exact I.qs j (by simpa using hj)
theorem hold_acq {w w' : Int} {l : List S57} {i : Nat} {t : S57} (h : HoldT w l) (hw : w = 0) (hi : i < l.length) (ht : heldT t) (hw' : w' ≠ 0) : HoldT w' (l.set i t) := by
  rcases h with ⟨_, h⟩ | ⟨h, _⟩
  · refine .inr ⟨hw', i, by simpa using hi, by rw [gt_self _ _ _ hi]; exact ht, fun j hj hh => ?_⟩
    by_cases c : j = i
    · exact c
    · rw [gt_other _ _ _ _ hi c] at hh
      exact absurd hh (h j (by simpa using hj))
  · exact absurd hw h
theorem hold_same {w w' : Int} {l : List S57} {i : Nat} {t : S57} (h : HoldT w l) (hi : i < l.length) (h0 : ¬ heldT (gt l i)) (ht : ¬ heldT t) (hw' : w' = 0 ↔ w = 0) : HoldT w' (l.set i t) := by
  rcases h with ⟨e, h⟩ | ⟨e, g, hg, hh, hu⟩
  · refine .inl ⟨hw'.2 e, fun j hj => ?_⟩
    rw [gt_set _ _ _ _ hi]; split
    · exact ht
    · exact h j (by simpa using hj)
  · have c : g ≠ i := fun c => h0 (c ▸ hh)
    refine .inr ⟨fun c => e (hw'.1 c), g, by simpa using hg, by rw [gt_other _ _ _ _ hi c]; exact hh, fun j hj h2 => ?_⟩
    by_cases c2 : j = i
    · subst c2; rw [gt_self _ _ _ hi] at h2; exact absurd h2 ht
    · rw [gt_other _ _ _ _ hi c2] at h2; exact hu j (by simpa using hj) h2
theorem hold_rel {w : Int} {l : List S57} {i : Nat} {t : S57} (h : HoldT w l) (hi : i < l.length) (h0 : heldT (gt l i)) (ht : ¬ heldT t) : HoldT 0 (l.set i t) := by
  rcases h with ⟨_, h⟩ | ⟨_, g, hg, hh, hu⟩
  · exact absurd h0 (h i hi)
  · refine .inl ⟨rfl, fun j hj => ?_⟩
    rw [gt_set _ _ _ _ hi]; split
    · exact ht
    · rename_i c
      exact fun hj2 => c ((hu j (by simpa using hj) hj2).trans (hu i hi h0).symm)
theorem hold_keep {w w' : Int} {l : List S57} {i : Nat} {t : S57} (h : HoldT w l) (hi : i < l.length) (h0 : heldT (gt l i)) (ht : heldT t) (hw' : w' ≠ 0) : HoldT w' (l.set i t) := by
  rcases h with ⟨_, h⟩ | ⟨_, g, hg, hh, hu⟩
  · exact absurd h0 (h i hi)
  · refine .inr ⟨hw', i, by simpa using hi, by rw [gt_self _ _ _ hi]; exact ht, fun j hj hj2 => ?_⟩
    by_cases c : j = i
    · exact c
    · rw [gt_other _ _ _ _ hi c] at hj2
      exact (hu j (by simpa using hj) hj2).trans (hu i hi h0).symm
theorem way_here {l : List S57} {i : Nat} {t : S57} (hi : i < l.length) (ht : wayT t) : ∃ j, j < (l.set i t).length ∧ wayT (gt (l.set i t) j) := ⟨i, by simpa using hi, by rw [gt_self _ _ _ hi]; exact ht⟩
theorem way_rest {w : Int} {l : List S57} {q : List Int} {i : Nat} {t : S57} (hy : q ≠ [] → w = 2 ∨ ∃ i, i < l.length ∧ wayT (gt l i)) (hi : i < l.length) (hw : w ≠ 2) (h0 : ¬ wayT (gt l i)) (hq : q ≠ []) : ∃ j, j < (l.set i t).length ∧ wayT (gt (l.set i t) j) := by
  rcases hy hq with h | ⟨j, hj, h⟩
  · exact absurd h hw
  · exact ⟨j, by simpa using hj, by rw [gt_other _ _ _ _ hi (fun c => h0 (c ▸ h))]; exact h⟩
def stp (w : Int) (l : List S57) (q : List Int) (i : Nat) : Int × List S57 × List Int :=
  let t := gt l i
  if t.f0 = 0 then (if w = 0 then (1, l.set i ⟨4, t.f1, t.f2, t.f3⟩, q) else (w, l.set i ⟨1, w, t.f2, t.f3⟩, q))
  else if t.f0 = 1 then (if t.f1 = 2 then (w, l.set i ⟨2, 0, t.f2, t.f3⟩, q) else if w = 0 then (w, l.set i ⟨3, 0, t.f2, t.f3⟩, q) else (2, l.set i ⟨2, 0, t.f2, t.f3⟩, q))
  else if t.f0 = 2 then (if w = 2 then (w, l.set i ⟨3, t.f1, t.f2, true⟩, q ++ [(i : Int)]) else (w, l.set i ⟨3, t.f1, t.f2, t.f3⟩, q))
  else if t.f0 = 3 then (if w = 0 then (2, l.set i ⟨4, t.f1, t.f2, t.f3⟩, q) else (w, l.set i ⟨1, w, t.f2, t.f3⟩, q))
  else if t.f0 = 4 then (if w < 2 then (0, l.set i ⟨0, t.f1, t.f2 - 1, t.f3⟩, q) else (1, l.set i ⟨5, t.f1, t.f2, t.f3⟩, q))
  else if t.f0 = 5 then (0, l.set i ⟨6, t.f1, t.f2, t.f3⟩, q)
  else match q with
    | [] => (w, l.set i ⟨0, t.f1, t.f2 - 1, t.f3⟩, [])
    | x :: r => (w, (l.set x.toNat ⟨(gt l x.toNat).f0, (gt l x.toNat).f1, (gt l x.toNat).f2, false⟩).set i ⟨0, t.f1, t.f2 - 1, t.f3⟩, r)
theorem LkOk.stp {w : Int} {l : List S57} {q : List Int} (I : LkOk w l q) {i : Nat} (hi : i < l.length) (hc : canT (gt l i)) : LkOk (stp w l q i).1 (stp w l q i).2.1 (stp w l q i).2.2 := by
  obtain ⟨hf, hc⟩ := hc
  have T := I.th i hi
  obtain ⟨⟨T0, T1⟩, ⟨T2, T3⟩, T4, ⟨T5, T6⟩, T7, T8⟩ := T
  have wd := I.wd
  unfold Pure.stp
  simp only
  by_cases c0 : (gt l i).f0 = 0
  · rw [if_pos c0]
    by_cases cw : w = 0
    · rw [if_pos cw]
      refine I.upd hi hf (by simp) ⟨by simp, ⟨T2, T3⟩, fun _ => T4 (by omega), ⟨T5, T6⟩, fun _ => by show 0 < (gt l i).f2; omega, by simp [hf]⟩ hf (hold_acq I.hd cw hi (.inl rfl) (by simp)) fun hq => .inr (way_rest I.wy hi (by omega) (by unfold wayT; omega) hq)
    · rw [if_neg cw]
      refine I.upd hi hf wd ⟨by simp, wd, by simp, ⟨T5, T6⟩, fun _ => by show 0 < (gt l i).f2; omega, by simp [hf]⟩ hf (hold_same I.hd hi (by unfold heldT; omega) (by unfold heldT; simp) Iff.rfl) fun hq => .inr (way_here hi (by unfold wayT; simp))
  rw [if_neg c0]
  have f2 : 0 < (gt l i).f2 := T7 (by omega)
  by_cases c1 : (gt l i).f0 = 1
  · rw [if_pos c1]
    by_cases cs : (gt l i).f1 = 2
    · rw [if_pos cs]
      exact I.upd hi hf wd ⟨by simp, by simp, by simp, ⟨T5, T6⟩, fun _ => f2, by simp [hf]⟩ hf (hold_same I.hd hi (by unfold heldT; omega) (by unfold heldT; simp) Iff.rfl) fun hq => .inr (way_here hi (by unfold wayT; simp))
    rw [if_neg cs]
    by_cases cw : w = 0
    · rw [if_pos cw]
      exact I.upd hi hf wd ⟨by simp, by simp, by simp, ⟨T5, T6⟩, fun _ => f2, by simp [hf]⟩ hf (hold_same I.hd hi (by unfold heldT; omega) (by unfold heldT; simp) Iff.rfl) fun hq => .inr (way_here hi (by unfold wayT; simp [hf]))
    · rw [if_neg cw]
      exact I.upd hi hf (by simp) ⟨by simp, by simp, by simp, ⟨T5, T6⟩, fun _ => f2, by simp [hf]⟩ hf (hold_same I.hd hi (by unfold heldT; omega) (by unfold heldT; simp) (by simp [cw])) fun hq => .inr (way_here hi (by unfold wayT; simp))
  rw [if_neg c1]
  have f1 : (gt l i).f1 = 0 := T4 c1
  by_cases c2 : (gt l i).f0 = 2
  · rw [if_pos c2]
    by_cases cw : w = 2
    · rw [if_pos cw]
      have hq : (i : Int) ∉ q := fun hm => by have := (I.qs i hi).2 hm; rw [hf] at this; cases this
      have e := slp_set l i ⟨3, (gt l i).f1, (gt l i).f2, true⟩ hi
      rw [hf] at e
      refine ⟨by simpa using I.n1, by simpa using I.n4, wd, fun j hj => ?_, ?_, fun x hx => ?_, fun j hj => ?_, by have := I.cn; simp at e ⊢; omega, hold_same I.hd hi (by unfold heldT; omega) (by unfold heldT; simp) Iff.rfl, fun _ => .inl cw⟩
      · rw [gt_set _ _ _ _ hi]; split
        · exact ⟨by simp, ⟨T2, T3⟩, fun _ => f1, ⟨T5, T6⟩, fun _ => f2, fun _ => rfl⟩
        · exact I.th j (by simpa using hj)
      · rw [List.nodup_append]
        refine ⟨I.qn, by simp, fun a ha b hb => ?_⟩
        rw [List.mem_singleton] at hb
        subst hb
        exact fun c => hq (c ▸ ha)
      · rcases List.mem_append.1 hx with h | h
        · simpa using I.qr x h
        · exact ⟨i, by simpa using h, by simpa using hi⟩
      · rw [gt_set _ _ _ _ hi]; split
        · rename_i c; subst c; simp
        · rename_i c
          rw [I.qs j (by simpa using hj), List.mem_append, List.mem_singleton]
          exact ⟨.inl, fun h => h.elim id (fun h => absurd h (by omega))⟩
    · rw [if_neg cw]
      exact I.upd hi hf wd ⟨by simp, ⟨T2, T3⟩, fun _ => f1, ⟨T5, T6⟩, fun _ => f2, by simp [hf]⟩ hf (hold_same I.hd hi (by unfold heldT; omega) (by unfold heldT; simp) Iff.rfl) fun hq => .inr (way_here hi (by unfold wayT; simp [hf]))
  rw [if_neg c2]
  by_cases c3 : (gt l i).f0 = 3
  · rw [if_pos c3]
    by_cases cw : w = 0
    · rw [if_pos cw]
      exact I.upd hi hf (by simp) ⟨by simp, ⟨T2, T3⟩, fun _ => f1, ⟨T5, T6⟩, fun _ => f2, by simp [hf]⟩ hf (hold_acq I.hd cw hi (.inl rfl) (by simp)) fun hq => .inl rfl
    · rw [if_neg cw]
      exact I.upd hi hf wd ⟨by simp, wd, by simp, ⟨T5, T6⟩, fun _ => f2, by simp [hf]⟩ hf (hold_same I.hd hi (by unfold heldT; omega) (by unfold heldT; simp) Iff.rfl) fun hq => .inr (way_here hi (by unfold wayT; simp))
  rw [if_neg c3]
  by_cases c4 : (gt l i).f0 = 4
  · rw [if_pos c4]
    by_cases cw : w < 2
    · rw [if_pos cw]
      exact I.upd hi hf (by simp) ⟨by simp, ⟨T2, T3⟩, fun _ => f1, ⟨by show 0 ≤ (gt l i).f2 - 1; omega, by show (gt l i).f2 - 1 ≤ 3; omega⟩, by simp, by simp [hf]⟩ hf (hold_rel I.hd hi (.inl c4) (by unfold heldT; simp)) fun hq => .inr (way_rest I.wy hi (by omega) (by unfold wayT; omega) hq)
    · rw [if_neg cw]
      exact I.upd hi hf (by simp) ⟨by simp, ⟨T2, T3⟩, fun _ => f1, ⟨T5, T6⟩, fun _ => f2, by simp [hf]⟩ hf (hold_keep I.hd hi (.inl c4) (.inr rfl) (by simp)) fun hq => .inr (way_here hi (.inl rfl))
  rw [if_neg c4]
  by_cases c5 : (gt l i).f0 = 5
  · rw [if_pos c5]
    exact I.upd hi hf (by simp) ⟨by simp, ⟨T2, T3⟩, fun _ => f1, ⟨T5, T6⟩, fun _ => f2, by simp [hf]⟩ hf (hold_rel I.hd hi (.inr c5) (by unfold heldT; simp)) fun hq => .inr (way_here hi (.inr (.inl rfl)))
  rw [if_neg c5]
  have c6 : (gt l i).f0 = 6 := by omega
  have ok0 : tOk ⟨0, (gt l i).f1, (gt l i).f2 - 1, (gt l i).f3⟩ := ⟨by simp, ⟨T2, T3⟩, fun _ => f1, ⟨by show 0 ≤ (gt l i).f2 - 1; omega, by show (gt l i).f2 - 1 ≤ 3; omega⟩, by simp, by simp [hf]⟩
  cases q with
  | nil => exact I.upd hi hf wd ok0 hf (hold_same I.hd hi (by unfold heldT; omega) (by unfold heldT; simp) Iff.rfl) fun hq => absurd rfl hq
  | cons x r =>
    obtain ⟨n, rfl, hn⟩ := I.qr x (by simp)
    have hx : (gt l n).f3 = true := (I.qs n hn).2 (by simp)
    have hx3 : (gt l n).f0 = 3 := (I.th n hn).2.2.2.2.2 hx
    have hni : n ≠ i := fun c => by subst c; rw [hf] at hx; cases hx
    have hnr := List.nodup_cons.1 I.qn
    simp only [Int.toNat_natCast]
    generalize hz : (⟨(gt l n).f0, (gt l n).f1, (gt l n).f2, false⟩ : S57) = z
    have zf : z.f3 = false := by rw [← hz]
    have z3 : z.f0 = 3 := by rw [← hz]; exact hx3
    have zok : tOk z := by
      obtain ⟨a, b, c, d, e, f⟩ := I.th n hn
      rw [← hz]; exact ⟨a, b, c, d, e, by simp⟩
    -- the one that is woken is set first
    have J : LkOk w (l.set n z) r := by
      have e := slp_set l n z hn
      rw [hx, zf] at e
      refine ⟨by simpa using I.n1, by simpa using I.n4, wd, fun j hj => ?_, hnr.2, fun y hy => by simpa using I.qr y (by simp [hy]), fun j hj => ?_, by have := I.cn; simp at e this ⊢; omega, hold_same I.hd hn (by unfold heldT; omega) (by unfold heldT; omega) Iff.rfl, fun _ => .inr (way_here hn (.inr (.inr (.inl ⟨z3, zf⟩))))⟩
      · rw [gt_set _ _ _ _ hn]; split
        · exact zok
        · exact I.th j (by simpa using hj)
      · rw [gt_set _ _ _ _ hn]; split
        · rename_i c; subst c; rw [zf]; simp [hnr.1]
        · rename_i c
          rw [I.qs j (by simpa using hj), List.mem_cons]
          exact ⟨fun h => h.elim (fun h => absurd h (by omega)) id, .inr⟩
    have gi : gt (l.set n z) i = gt l i := gt_other _ _ _ _ hn (fun c => hni c.symm)
    have hi2 : i < (l.set n z).length := by simpa using hi
    refine J.upd hi2 (by rw [gi]; exact hf) wd ok0 hf (hold_same J.hd hi2 (by rw [gi]; unfold heldT; omega) (by unfold heldT; simp) Iff.rfl) fun hq => .inr ⟨n, by simpa using hn, ?_⟩
    rw [gt_other _ _ _ _ hi2 hni, gt_self _ _ _ hn]
    exact .inr (.inr (.inl ⟨z3, zf⟩))

theorem getD_at {α : Type} (l : List α) (i : Nat) (d : α) (h : i < l.length) : l.getD i d = l[i] := by rw [List.getD_eq_getElem?_getD, List.getElem?_eq_getElem h]; rfl
theorem index_ev (q : List Int) (a : Int) (hq : q.length < 1000000000) : ∀ (d i : Nat), i + d = q.length → (∀ j : Nat, j < i → rd q (j : Int) ≠ a) → ∃ z : Int, Evt (fun k => slices_Index_int_int.l0 k q a (q.length : Int) (i : Int) = some z) ∧ (0 ≤ z ↔ a ∈ q) := by
  intro d
  induction d with
  | zero =>
    intro i hi hn
    refine ⟨-1, Evt.of1 fun k => ?_, ⟨fun h => absurd h (by decide), fun h => ?_⟩⟩
    · simp only [slices_Index_int_int.l0]
      rw [if_neg (by omega)]
    · obtain ⟨j, hj, e⟩ := List.mem_iff_getElem.1 h
      refine absurd ?_ (hn j (by omega))
      rw [rd_nat, getD_at _ _ _ hj, e]
  | succ d ih =>
    intro i hi hn
    by_cases c : a = rd q (i : Int)
    · refine ⟨i, Evt.of1 fun k => ?_, ⟨fun _ => ?_, fun _ => by omega⟩⟩
      · simp only [slices_Index_int_int.l0]
        rw [if_pos (by omega), if_pos (by omega), if_pos (by omega), if_pos c]
      · rw [c, rd_nat, getD_at _ _ _ (by omega)]
        exact List.getElem_mem _
    · obtain ⟨z, hz, e⟩ := ih (i + 1) (by omega) (fun j hj => by
        by_cases c2 : j = i
        · subst c2; exact fun x => c x.symm
        · exact hn j (by omega))
      refine ⟨z, hz.step fun k hk => ?_, e⟩
      simp only [slices_Index_int_int.l0]
      rw [if_pos (by omega), if_pos (by omega), if_pos (by omega), if_neg c, nat_succ_wrap (by omega)]
      exact hk
theorem contains_ev (q : List Int) (a : Int) (hq : q.length < 1000000000) : Evt (fun k => slices_Contains_int_int.f k q a = some (decide (a ∈ q))) := by
  obtain ⟨z, hz, e⟩ := index_ev q a hq q.length 0 (by omega) (fun j hj => absurd hj (by omega))
  refine hz.imp fun k hk => ?_
  unfold slices_Contains_int_int.f slices_Index_int_int.f
  refine bind_of hk ?_
  have : decide (z ≥ 0) = decide (a ∈ q) := by rw [decide_eq_decide]; exact e
  rw [this]
theorem LkOk.len {w : Int} {l : List S57} {q : List Int} (I : LkOk w l q) : q.length ≤ 4 := by
  have := slp_le l; have := I.cn; have := I.n4; omega
theorem slp_drop (l : List S57) (i : Nat) (h : i < l.length) : slp (l.drop i) = (gt l i).f3.toNat + slp (l.drop (i + 1)) := by
  rw [List.drop_eq_getElem_cons h]
  simp only [slp, gt]
  rw [getD_at _ _ _ h]
theorem lockok_loop {w : Int} {l : List S57} {q : List Int} (I : LkOk w l q) : ∀ (d i : Nat), i + d = l.length → ∀ n : Nat, n + slp (l.drop i) = q.length → Evt (fun k => impl_LockOk.l0 k (n : Int) l (l.length : Int) (i : Int) w l q = some true) := by
  have hq := I.len; have hn4 := I.n4
  intro d
  induction d with
  | zero =>
    intro i hi n hn
    refine Evt.of1 fun k => ?_
    simp only [impl_LockOk.l0]
    rw [if_neg (by omega)]
    rw [List.drop_of_length_le (by omega)] at hn
    simp only [slp] at hn
    simp [← hn]
  | succ d ih =>
    intro i hi n hn
    have hi2 : i < l.length := by omega
    rw [slp_drop l i hi2] at hn
    obtain ⟨⟨T0, T1⟩, ⟨T2, T3⟩, T4, ⟨T5, T6⟩, T7, T8⟩ := I.th i hi2
    have hs := I.qs i hi2
    have hc := contains_ev q (i : Int) (by omega)
    have hj : Evt (fun k => impl_LockOk.j2 k (n : Int) (i : Int) l (l.length : Int) (i : Int) false w l q (gt l i).f0 (gt l i).f1 (gt l i).f2 (gt l i).f3 = some true) := by
      cases hf : (gt l i).f3 with
      | true =>
        rw [hf] at hn hs
        have hm : decide ((i : Int) ∈ q) = true := by simpa using hs
        refine (hc.and (ih (i + 1) (by omega) (n + 1) (by simp at hn; omega))).step fun k hk => ?_
        simp only [impl_LockOk.j2]
        rw [if_neg (by decide), if_pos trivial]
        refine bind_of hk.1 ?_
        rw [hm, if_neg (by decide), nat_succ_wrap (by omega), nat_succ_wrap (by omega)]
        exact hk.2
      | false =>
        rw [hf] at hn hs
        have hm : decide ((i : Int) ∈ q) = false := by simpa using hs
        refine (hc.and (ih (i + 1) (by omega) n (by simpa using hn))).step fun k hk => ?_
        simp only [impl_LockOk.j2]
        rw [if_neg (by decide), if_neg (by decide)]
        refine bind_of hk.1 ?_
        rw [hm, if_neg (by decide), nat_succ_wrap (by omega)]
        exact hk.2
    refine hj.step fun k hk => ?_
    simp only [impl_LockOk.l0]
    rw [if_pos (by omega), if_pos (by omega), if_pos (by omega)]
    rw [rd57_gt]
    have e1 : (decide (0 ≤ (gt l i).f0) && decide ((gt l i).f0 ≤ 6)) = true := by simp [T0, T1]
    have e2 : (decide (0 ≤ (gt l i).f1) && decide ((gt l i).f1 ≤ 2)) = true := by simp [T2, T3]
    have e3 : (decide (0 ≤ (gt l i).f2) && decide ((gt l i).f2 ≤ 3)) = true := by simp [T5, T6]
    refine bind_of (in_eq _ _ _) ?_
    rw [e1, if_pos rfl]
    refine bind_of (in_eq _ _ _) ?_
    rw [e2, if_pos rfl]
    have tail : (if (gt l i).f0 > 0 then (if (gt l i).f2 = 0 then (impl_LockOk.j2 k (n : Int) (i : Int) l (l.length : Int) (i : Int) true w l q (gt l i).f0 (gt l i).f1 (gt l i).f2 (gt l i).f3) else (if (gt l i).f3 = true then (impl_LockOk.j2 k (n : Int) (i : Int) l (l.length : Int) (i : Int) ((gt l i).f0 != 3) w l q (gt l i).f0 (gt l i).f1 (gt l i).f2 (gt l i).f3) else (impl_LockOk.j2 k (n : Int) (i : Int) l (l.length : Int) (i : Int) false w l q (gt l i).f0 (gt l i).f1 (gt l i).f2 (gt l i).f3))) else (if (gt l i).f3 = true then (impl_LockOk.j2 k (n : Int) (i : Int) l (l.length : Int) (i : Int) ((gt l i).f0 != 3) w l q (gt l i).f0 (gt l i).f1 (gt l i).f2 (gt l i).f3) else (impl_LockOk.j2 k (n : Int) (i : Int) l (l.length : Int) (i : Int) false w l q (gt l i).f0 (gt l i).f1 (gt l i).f2 (gt l i).f3))) = some true := by
      have e4 : (gt l i).f3 = true → ((gt l i).f0 != 3) = false := fun h => by rw [T8 h]; rfl
      by_cases ca : (gt l i).f0 > 0
      · rw [if_pos ca, if_neg (by have := T7 ca; omega)]
        by_cases cb : (gt l i).f3 = true
        · rw [if_pos cb, e4 cb]; exact hk
        · rw [if_neg cb]; exact hk
      · rw [if_neg ca]
        by_cases cb : (gt l i).f3 = true
        · rw [if_pos cb, e4 cb]; exact hk
        · rw [if_neg cb]; exact hk
    by_cases c1 : (gt l i).f1 > 0
    · rw [if_pos c1, if_pos (by by_cases c : (gt l i).f0 = 1; exact c; have := T4 c; omega)]
      refine bind_of (in_eq _ _ _) ?_
      rw [e3, if_pos rfl]
      exact tail
    · rw [if_neg c1]
      refine bind_of (in_eq _ _ _) ?_
      rw [e3, if_pos rfl]
      exact tail
theorem lockok_ev {w : Int} {l : List S57} {q : List Int} (I : LkOk w l q) : Evt (fun k => impl_LockOk.f k w l q = some true) := by
  have h := lockok_loop I l.length 0 (by omega) 0 (by simpa using I.cn)
  have hj : Evt (fun k => impl_LockOk.j0 k false w l q = some true) := h.step fun k hk => by
    simp only [impl_LockOk.j0]
    rw [if_neg (by decide)]
    exact hk
  refine hj.imp fun k hk => ?_
  unfold impl_LockOk.f
  refine bind_of (in_eq _ _ _) ?_
  rw [if_pos (by simp [I.wd.1, I.wd.2])]
  refine bind_of (in_eq _ _ _) ?_
  have n1 := I.n1; have n4 := I.n4
  have e : (!(decide (1 ≤ (l.length : Int)) && decide ((l.length : Int) ≤ 4))) = false := by
    rw [decide_eq_true (show (1 : Int) ≤ l.length by omega), decide_eq_true (show (l.length : Int) ≤ 4 by omega)]; rfl
  rw [e]
  exact hk
theorem can_eq (w : Int) (l : List S57) (q : List Int) (i : Nat) (hi : i < l.length) (h0 : 0 ≤ (gt l i).f0) : impl_Lock_can.f w l q (i : Int) = some (decide (canT (gt l i))) := by
  unfold impl_Lock_can.f
  rw [if_pos (by omega), if_pos (by omega), rd57_gt]
  unfold canT
  by_cases hf : (gt l i).f3 = true
  · rw [if_pos hf]; simp [hf]
  · rw [if_neg hf]
    by_cases c : (gt l i).f0 > 0
    · rw [if_pos c]; simp [c, hf]
    · rw [if_neg c]; simp [show ¬ 0 < (gt l i).f0 from c, hf]
theorem lclone_eq (w : Int) (l : List S57) (q : List Int) (hl : l.length ≤ 4) (hq : q.length ≤ 4) : impl_Lock_clone.f w l q = some (w, l, q) := by
  unfold impl_Lock_clone.f impl_Thread.f slices_Clone_int_int.f
  simp only [Option.bind_some, List.length_nil, List.nil_append, Nat.zero_add]
  rw [if_pos (by omega), if_pos (by omega)]
  rfl
theorem step_eq {w : Int} {l : List S57} {q : List Int} (I : LkOk w l q) {i : Nat} (hi : i < l.length) : impl_Lock_step.f w l q (i : Int) = some (stp w l q i) := by
  have hq := I.len; have n4 := I.n4
  obtain ⟨⟨T0, T1⟩, ⟨T2, T3⟩, T4, ⟨T5, T6⟩, T7, T8⟩ := I.th i hi
  have wr : wrap64 ((gt l i).f2 - 1) = (gt l i).f2 - 1 := wrap_in (by omega) (by omega)
  unfold impl_Lock_step.f
  refine bind_of (lclone_eq w l q n4 hq) ?_
  rw [if_pos (by omega), if_pos (by show (i : Int) < (l.length : Int); omega)]
  unfold stp
  simp only [rd57_gt, Option.bind_some, Int.toNat_natCast, gt_self _ _ _ hi, List.set_set, wr, List.length_set]
  by_cases c0 : (gt l i).f0 = 0
  · rw [if_pos c0, if_pos c0]
    by_cases cw : w = 0
    · rw [if_pos cw, if_pos cw]
    · rw [if_neg cw, if_neg cw]
  rw [if_neg c0, if_neg c0]
  by_cases c1 : (gt l i).f0 = 1
  · rw [if_pos c1, if_pos c1]
    by_cases cs : (gt l i).f1 = 2
    · rw [if_pos cs, if_pos cs]
    rw [if_neg cs, if_neg cs]
    by_cases cw : w = 0
    · rw [if_pos cw, if_pos cw]
    · rw [if_neg cw, if_neg cw]
  rw [if_neg c1, if_neg c1]
  by_cases c2 : (gt l i).f0 = 2
  · rw [if_pos c2, if_pos c2]
    by_cases cw : w = 2
    · rw [if_pos cw, if_pos cw, if_pos (by omega)]
    · rw [if_neg cw, if_neg cw]
  rw [if_neg c2, if_neg c2]
  by_cases c3 : (gt l i).f0 = 3
  · rw [if_pos c3, if_pos c3]
    by_cases cw : w = 0
    · rw [if_pos cw, if_pos cw]
    · rw [if_neg cw, if_neg cw]
  rw [if_neg c3, if_neg c3]
  by_cases c4 : (gt l i).f0 = 4
  · rw [if_pos c4, if_pos c4]
    by_cases cw : w < 2
    · rw [if_pos cw, if_pos cw]
    · rw [if_neg cw, if_neg cw]
  rw [if_neg c4, if_neg c4]
  by_cases c5 : (gt l i).f0 = 5
  · rw [if_pos c5, if_pos c5]
  rw [if_neg c5, if_neg c5, if_pos (by omega)]
  cases q with
  | nil => rw [if_neg (by simp)]
  | cons x r =>
    obtain ⟨n, rfl, hn⟩ := I.qr x (by simp)
    have e0 : rd ((n : Int) :: r) 0 = (n : Int) := by simp [rd]
    have hx : (gt l n).f3 = true := (I.qs n hn).2 (by simp)
    have hx3 : (gt l n).f0 = 3 := (I.th n hn).2.2.2.2.2 hx
    have hni : n ≠ i := fun c => by subst c; omega
    simp only [e0, rd57_gt, Int.toNat_natCast]
    have hl1 : i < (l.set n ⟨(gt l n).f0, (gt l n).f1, (gt l n).f2, false⟩).length := by simpa using hi
    have hn1 : n < l.length := hn
    rw [if_pos (by simp), if_pos (by simp), if_pos (by omega), if_pos (by omega), if_pos (by simp only [List.length_cons]; omega)]
    simp only [gt_self _ _ _ hl1, gt_other _ _ _ _ hn1 (fun c => hni c.symm), wr]
    rfl

theorem can_of_way {t : S57} (T : tOk t) (h : wayT t) : canT t := by
  obtain ⟨⟨T0, T1⟩, ⟨T2, T3⟩, T4, ⟨T5, T6⟩, T7, T8⟩ := T
  unfold wayT at h
  unfold canT
  cases hf : t.f3 with
  | true => have := T8 hf; rw [hf] at h; simp at h; omega
  | false => exact ⟨rfl, .inl (by omega)⟩
theorem can_of_held {t : S57} (T : tOk t) (h : heldT t) : canT t := by
  obtain ⟨⟨T0, T1⟩, ⟨T2, T3⟩, T4, ⟨T5, T6⟩, T7, T8⟩ := T
  unfold heldT at h
  unfold canT
  cases hf : t.f3 with
  | true => have := T8 hf; omega
  | false => exact ⟨rfl, .inl (by omega)⟩
theorem LkOk.some_can {w : Int} {l : List S57} {q : List Int} (I : LkOk w l q) (hq : q ≠ []) : ∃ i, i < l.length ∧ canT (gt l i) := by
  rcases I.wy hq with h | ⟨i, hi, h⟩
  · rcases I.hd with ⟨e, _⟩ | ⟨_, i, hi, h2, _⟩
    · omega
    · exact ⟨i, hi, can_of_held (I.th i hi) h2⟩
  · exact ⟨i, hi, can_of_way (I.th i hi) h⟩
theorem can_ev {w : Int} {l : List S57} {q : List Int} (I : LkOk w l q) {i : Nat} (hi : i < l.length) : impl_Lock_can.f w l q (i : Int) = some (decide (canT (gt l i))) := can_eq w l q i hi (I.th i hi).1.1

theorem new_ok (n t : Int) (hn : 1 ≤ n) (hn4 : n ≤ 4) (ht : 0 ≤ t) (ht3 : t ≤ 3) : LkOk 0 (List.replicate n.toNat ⟨0, 0, t, false⟩) [] := by
  have hg : ∀ i, i < n.toNat → gt (List.replicate n.toNat ⟨0, 0, t, false⟩) i = ⟨0, 0, t, false⟩ := fun i hi => by
    unfold gt; rw [getD_at _ _ _ (by simpa using hi), List.getElem_replicate]
  have hs : ∀ m : Nat, slp (List.replicate m ⟨0, 0, t, false⟩) = 0 := by
    intro m
    induction m with
    | zero => rfl
    | succ m ih => simp [List.replicate_succ, slp, ih]
  refine ⟨by simp; omega, by simp; omega, by simp, fun i hi => ?_, by simp, by simp, fun i hi => ?_, by rw [hs]; rfl, .inl ⟨rfl, fun j hj => ?_⟩, fun h => absurd rfl h⟩
  · rw [hg i (by simpa using hi)]; exact ⟨by simp, by simp, by simp, ⟨ht, ht3⟩, by simp, by simp⟩
  · rw [hg i (by simpa using hi)]; simp
  · rw [hg j (by simpa using hj)]; unfold heldT; simp
theorem stp_len (w : Int) (l : List S57) (q : List Int) (i : Nat) : (stp w l q i).2.1.length = l.length := by
  unfold stp
  simp only
  repeat' split
  all_goals simp

def rankT (t : S57) : Nat := if t.f0 = 6 then 0 else if t.f0 = 5 then 1 else if t.f0 = 4 then 2 else if t.f0 = 3 then (if t.f3 = true then 7 else 3) else if t.f0 = 2 then 4 else if t.f0 = 1 then 5 else if 0 < t.f2 then 3 else 7
def DoneL (l : List S57) : Prop := ∀ j, j < l.length → (gt l j).f0 = 0 ∧ (gt l j).f2 = 0
def Pot (l : List S57) (m : Nat) : Prop := DoneL l ∨ ∃ i, i < l.length ∧ rankT (gt l i) ≤ 5 ∧ 8 * tns l + rankT (gt l i) ≤ m
theorem rank_can {t : S57} (T : tOk t) (h : rankT t ≤ 5) : canT t ∧ 0 < t.f2 := by
  obtain ⟨⟨T0, T1⟩, ⟨T2, T3⟩, T4, ⟨T5, T6⟩, T7, T8⟩ := T
  unfold rankT at h
  unfold canT
  by_cases c3 : t.f0 = 3
  · rw [if_neg (by omega), if_neg (by omega), if_neg (by omega), if_pos c3] at h
    by_cases cf : t.f3 = true
    · rw [if_pos cf] at h; omega
    · exact ⟨⟨by simpa using cf, .inl (by omega)⟩, T7 (by omega)⟩
  have hf : t.f3 = false := by
    cases c : t.f3
    · rfl
    · exact absurd (T8 c) c3
  by_cases c0 : t.f0 = 0
  · rw [if_neg (by omega), if_neg (by omega), if_neg (by omega), if_neg (by omega), if_neg (by omega), if_neg (by omega)] at h
    by_cases c2 : 0 < t.f2
    · exact ⟨⟨hf, .inr c2⟩, c2⟩
    · rw [if_neg c2] at h; omega
  · exact ⟨⟨hf, .inl (by omega)⟩, T7 (by omega)⟩
theorem rank_held {t : S57} (h : heldT t) : rankT t ≤ 2 := by
  unfold rankT
  rcases h with h | h
  · rw [if_neg (by omega), if_neg (by omega), if_pos h]; decide
  · rw [if_neg (by omega), if_pos h]; decide
theorem rank_way {t : S57} (h : wayT t) : rankT t ≤ 5 := by
  unfold rankT
  rcases h with h | h | ⟨h, h2⟩ | h | h
  · rw [if_neg (by omega), if_pos h]; decide
  · rw [if_pos h]; decide
  · rw [if_neg (by omega), if_neg (by omega), if_neg (by omega), if_pos h, if_neg (by simp [h2])]; decide
  · rw [if_neg (by omega), if_neg (by omega), if_neg (by omega), if_neg (by omega), if_neg (by omega), if_pos h]; decide
  · rw [if_neg (by omega), if_neg (by omega), if_neg (by omega), if_neg (by omega), if_pos h]; decide
theorem pot_ex {w : Int} {l : List S57} {q : List Int} (I : LkOk w l q) {M : Nat} (hM : 8 * tns l + 5 ≤ M) : Pot l M := by
  by_cases d : DoneL l
  · exact .inl d
  · have wit : ∃ i, i < l.length ∧ rankT (gt l i) ≤ 5 := by
      apply Classical.byContradiction
      intro hno
      refine d fun j hj => ?_
      have hr : ¬ rankT (gt l j) ≤ 5 := fun h => hno ⟨j, hj, h⟩
      obtain ⟨⟨T0, T1⟩, ⟨T2, T3⟩, T4, ⟨T5, T6⟩, T7, T8⟩ := I.th j hj
      cases hf : (gt l j).f3 with
      | true =>
        have hm := (I.qs j hj).1 hf
        have hq : q ≠ [] := fun c => by rw [c] at hm; simp at hm
        exfalso
        rcases I.wy hq with h | ⟨i, hi, h⟩
        · rcases I.hd with ⟨e, _⟩ | ⟨_, i, hi, h2, _⟩
          · omega
          · exact hno ⟨i, hi, by have := rank_held h2; omega⟩
        · exact hno ⟨i, hi, rank_way h⟩
      | false =>
        by_cases c : (gt l j).f0 = 0
        · refine ⟨c, ?_⟩
          apply Classical.byContradiction
          intro c2
          refine hr ?_
          unfold rankT
          rw [if_neg (by omega), if_neg (by omega), if_neg (by omega), if_neg (by omega), if_neg (by omega), if_neg (by omega), if_pos (by omega)]
          decide
        · refine absurd ?_ hr
          unfold rankT
          rw [hf]
          simp only [Bool.false_eq_true, if_false]
          repeat' split
          all_goals omega
    obtain ⟨i, hi, h⟩ := wit
    exact .inr ⟨i, hi, h, by omega⟩
theorem Pot.mono {l : List S57} {m m' : Nat} (h : Pot l m) (hm : m ≤ m') : Pot l m' := by
  rcases h with h | ⟨i, hi, h, h2⟩
  · exact .inl h
  · exact .inr ⟨i, hi, h, by omega⟩
theorem pot_set {l : List S57} {i j : Nat} (hi : i < l.length) (hj : j < l.length) {t : S57} (ht : t.f2 = (gt l j).f2) {M : Nat} (h5 : rankT (gt l i) ≤ 5) (hM : 8 * tns l + rankT (gt l i) ≤ M + 1)
    (hr : j = i → rankT t < rankT (gt l i) ∨ (3 ≤ rankT (gt l i) ∧ ∃ h, h ≠ j ∧ h < l.length ∧ heldT (gt l h))) :
    Pot (l.set j t) M ∨ (j ≠ i ∧ tns (l.set j t) = tns l ∧ gt (l.set j t) i = gt l i) := by
  have e := tns_set l j t hj
  rw [ht] at e
  by_cases c : j = i
  · left
    rcases hr c with h | ⟨h3, g, hg, hgl, hh⟩
    · refine .inr ⟨j, by simpa using hj, ?_, ?_⟩
      · rw [gt_self _ _ _ hj]; omega
      · rw [gt_self _ _ _ hj, e]; omega
    · have := rank_held hh
      refine .inr ⟨g, by simpa using hgl, ?_, ?_⟩
      · rw [gt_other _ _ _ _ hj hg]; omega
      · rw [gt_other _ _ _ _ hj hg, e]; omega
  · exact .inr ⟨c, by rw [e]; omega, gt_other _ _ _ _ hj (fun x => c x.symm)⟩
theorem hold_other {w : Int} {l : List S57} (H : HoldT w l) (hw : w ≠ 0) {j : Nat} (hj : ¬ heldT (gt l j)) : ∃ h, h ≠ j ∧ h < l.length ∧ heldT (gt l h) := by
  rcases H with ⟨e, _⟩ | ⟨_, g, hg, hh, _⟩
  · exact absurd e hw
  · exact ⟨g, fun c => hj (c ▸ hh), hg, hh⟩
theorem pot_stp {w : Int} {l : List S57} {q : List Int} (I : LkOk w l q) {i j : Nat} (hi : i < l.length) (hj : j < l.length) (hc : canT (gt l j)) {M : Nat} (h5 : rankT (gt l i) ≤ 5) (hM : 8 * tns l + rankT (gt l i) ≤ M + 1) :
    Pot (stp w l q j).2.1 M ∨ (j ≠ i ∧ tns (stp w l q j).2.1 = tns l ∧ gt (stp w l q j).2.1 i = gt l i) := by
  have J := I.stp hj hc
  have turn : tns (stp w l q j).2.1 = tns l - 1 → Pot (stp w l q j).2.1 M := fun e => pot_ex J (by rw [e]; omega)
  obtain ⟨hf, hc⟩ := hc
  obtain ⟨⟨T0, T1⟩, ⟨T2, T3⟩, T4, ⟨T5, T6⟩, T7, T8⟩ := I.th j hj
  clear J
  revert turn
  unfold stp
  simp only
  by_cases c0 : (gt l j).f0 = 0
  · have r3 : rankT (gt l j) = 3 := by
      unfold rankT
      rw [if_neg (by omega), if_neg (by omega), if_neg (by omega), if_neg (by omega), if_neg (by omega), if_neg (by omega), if_pos (by omega)]
    rw [if_pos c0]
    by_cases cw : w = 0
    · rw [if_pos cw]
      intro _
      exact pot_set (t := ⟨4, (gt l j).f1, (gt l j).f2, (gt l j).f3⟩) hi hj rfl h5 hM fun e => .inl (by rw [← e, r3]; simp [rankT])
    · rw [if_neg cw]
      intro _
      exact pot_set (t := ⟨1, w, (gt l j).f2, (gt l j).f3⟩) hi hj rfl h5 hM fun e => .inr ⟨by rw [← e, r3]; omega, hold_other I.hd cw (by unfold heldT; omega)⟩
  rw [if_neg c0]
  by_cases c1 : (gt l j).f0 = 1
  · have r5 : rankT (gt l j) = 5 := by
      unfold rankT
      rw [if_neg (by omega), if_neg (by omega), if_neg (by omega), if_neg (by omega), if_neg (by omega), if_pos c1]
    rw [if_pos c1]
    by_cases cs : (gt l j).f1 = 2
    · rw [if_pos cs]
      intro _
      exact pot_set (t := ⟨2, 0, (gt l j).f2, (gt l j).f3⟩) hi hj rfl h5 hM fun e => .inl (by rw [← e, r5]; simp [rankT])
    rw [if_neg cs]
    by_cases cw : w = 0
    · rw [if_pos cw]
      intro _
      exact pot_set (t := ⟨3, 0, (gt l j).f2, (gt l j).f3⟩) hi hj rfl h5 hM fun e => .inl (by rw [← e, r5]; simp [rankT, hf])
    · rw [if_neg cw]
      intro _
      exact pot_set (t := ⟨2, 0, (gt l j).f2, (gt l j).f3⟩) hi hj rfl h5 hM fun e => .inl (by rw [← e, r5]; simp [rankT])
  rw [if_neg c1]
  by_cases c2 : (gt l j).f0 = 2
  · have r4 : rankT (gt l j) = 4 := by
      unfold rankT
      rw [if_neg (by omega), if_neg (by omega), if_neg (by omega), if_neg (by omega), if_pos c2]
    rw [if_pos c2]
    by_cases cw : w = 2
    · rw [if_pos cw]
      intro _
      exact pot_set (t := ⟨3, (gt l j).f1, (gt l j).f2, true⟩) hi hj rfl h5 hM fun e => .inr ⟨by rw [← e, r4]; omega, hold_other I.hd (by omega) (by unfold heldT; omega)⟩
    · rw [if_neg cw]
      intro _
      exact pot_set (t := ⟨3, (gt l j).f1, (gt l j).f2, (gt l j).f3⟩) hi hj rfl h5 hM fun e => .inl (by rw [← e, r4]; simp [rankT, hf])
  rw [if_neg c2]
  by_cases c3 : (gt l j).f0 = 3
  · have r3 : rankT (gt l j) = 3 := by
      unfold rankT
      rw [if_neg (by omega), if_neg (by omega), if_neg (by omega), if_pos c3, if_neg (by simp [hf])]
    rw [if_pos c3]
    by_cases cw : w = 0
    · rw [if_pos cw]
      intro _
      exact pot_set (t := ⟨4, (gt l j).f1, (gt l j).f2, (gt l j).f3⟩) hi hj rfl h5 hM fun e => .inl (by rw [← e, r3]; simp [rankT])
    · rw [if_neg cw]
      intro _
      exact pot_set (t := ⟨1, w, (gt l j).f2, (gt l j).f3⟩) hi hj rfl h5 hM fun e => .inr ⟨by rw [← e, r3]; omega, hold_other I.hd cw (by unfold heldT; omega)⟩
  rw [if_neg c3]
  by_cases c4 : (gt l j).f0 = 4
  · have r2 : rankT (gt l j) = 2 := by
      unfold rankT
      rw [if_neg (by omega), if_neg (by omega), if_pos c4]
    rw [if_pos c4]
    by_cases cw : w < 2
    · rw [if_pos cw]
      intro turn
      exact .inl (turn (by rw [tns_set _ _ _ hj]; show tns l - _ + ((gt l j).f2 - 1) = _; omega))
    · rw [if_neg cw]
      intro _
      exact pot_set (t := ⟨5, (gt l j).f1, (gt l j).f2, (gt l j).f3⟩) hi hj rfl h5 hM fun e => .inl (by rw [← e, r2]; simp [rankT])
  rw [if_neg c4]
  by_cases c5 : (gt l j).f0 = 5
  · have r1 : rankT (gt l j) = 1 := by
      unfold rankT
      rw [if_neg (by omega), if_pos c5]
    rw [if_pos c5]
    intro _
    exact pot_set (t := ⟨6, (gt l j).f1, (gt l j).f2, (gt l j).f3⟩) hi hj rfl h5 hM fun e => .inl (by rw [← e, r1]; simp [rankT])
  rw [if_neg c5]
  cases q with
  | nil =>
    intro turn
    exact .inl (turn (by rw [tns_set _ _ _ hj]; show tns l - _ + ((gt l j).f2 - 1) = _; omega))
  | cons x r =>
    obtain ⟨n, rfl, hn⟩ := I.qr x (by simp)
    have hx : (gt l n).f3 = true := (I.qs n hn).2 (by simp)
    have hni : n ≠ j := fun c => by subst c; rw [hf] at hx; cases hx
    intro turn
    refine .inl (turn ?_)
    simp only [Int.toNat_natCast]
    rw [tns_set _ _ _ (by simpa using hj), tns_set _ _ _ hn, gt_other _ _ _ _ hn (fun c => hni c.symm)]
    show tns l - _ + (gt l n).f2 - _ + ((gt l j).f2 - 1) = _
    omega
abbrev LkS := Int × List S57 × List Int
def OkS (s : LkS) : Prop := LkOk s.1 s.2.1 s.2.2
def stq (s : LkS) (j : Nat) : LkS := if canT (gt s.2.1 j) then stp s.1 s.2.1 s.2.2 j else s
def runN (s : LkS) (sch : List Nat) : LkS := sch.foldl stq s
theorem stq_len (s : LkS) (j : Nat) : (stq s j).2.1.length = s.2.1.length := by
  unfold stq; split
  · exact stp_len _ _ _ _
  · rfl
theorem stq_ok {s : LkS} (h : OkS s) {j : Nat} (hj : j < s.2.1.length) : OkS (stq s j) := by
  unfold stq; split
  · exact LkOk.stp h hj (by assumption)
  · exact h
theorem runN_ok : ∀ (sch : List Nat) (s : LkS), OkS s → (∀ x ∈ sch, x < s.2.1.length) → OkS (runN s sch) ∧ (runN s sch).2.1.length = s.2.1.length
| [], s, h, _ => ⟨h, rfl⟩
| j :: r, s, h, hs => by
  have := runN_ok r (stq s j) (stq_ok h (hs j (by simp))) (fun x hx => by rw [stq_len]; exact hs x (by simp [hx]))
  exact ⟨this.1, this.2.trans (stq_len s j)⟩
theorem pot_keep1 {s : LkS} (h : OkS s) {j : Nat} (hj : j < s.2.1.length) {m : Nat} (p : Pot s.2.1 m) : Pot (stq s j).2.1 m := by
  unfold stq
  by_cases c : canT (gt s.2.1 j)
  · rw [if_pos c]
    rcases p with d | ⟨i, hi, h5, hM⟩
    · have := d j hj
      unfold canT at c
      omega
    · rcases pot_stp h hi hj c h5 (M := m) (by omega) with p | ⟨_, e, g⟩
      · exact p
      · exact .inr ⟨i, by rw [stp_len]; exact hi, by rw [g]; exact h5, by rw [g, e]; exact hM⟩
  · rw [if_neg c]; exact p
theorem pot_keep : ∀ (sch : List Nat) (s : LkS), OkS s → (∀ x ∈ sch, x < s.2.1.length) → ∀ m, Pot s.2.1 m → Pot (runN s sch).2.1 m
| [], s, h, _, m, p => p
| j :: r, s, h, hs, m, p => pot_keep r (stq s j) (stq_ok h (hs j (by simp))) (fun x hx => by rw [stq_len]; exact hs x (by simp [hx])) m (pot_keep1 h (hs j (by simp)) p)
theorem pot_round : ∀ (sch : List Nat) (s : LkS), OkS s → (∀ x ∈ sch, x < s.2.1.length) → ∀ (m i : Nat), i < s.2.1.length → rankT (gt s.2.1 i) ≤ 5 → 8 * tns s.2.1 + rankT (gt s.2.1 i) ≤ m + 1 → i ∈ sch → Pot (runN s sch).2.1 m
| [], s, h, _, m, i, _, _, _, hm => absurd hm (by simp)
| j :: r, s, h, hs, m, i, hi, h5, hM, hm => by
  have hj := hs j (by simp)
  have hr : ∀ x ∈ r, x < (stq s j).2.1.length := fun x hx => by rw [stq_len]; exact hs x (by simp [hx])
  by_cases c : canT (gt s.2.1 j)
  · have e : stq s j = stp s.1 s.2.1 s.2.2 j := if_pos c
    rcases pot_stp h hi hj c h5 hM with p | ⟨hne, e2, g⟩
    · exact pot_keep r (stq s j) (stq_ok h hj) hr m (by rw [e]; exact p)
    · refine pot_round r (stq s j) (stq_ok h hj) hr m i (by rw [stq_len]; exact hi) (by rw [e, g]; exact h5) (by rw [e, g, e2]; exact hM) ?_
      rcases List.mem_cons.1 hm with h | h
      · exact absurd h.symm hne
      · exact h
  · have e : stq s j = s := if_neg c
    have hne : i ≠ j := fun x => c (x ▸ (rank_can (LkOk.th h i hi) h5).1)
    have := pot_round r s h (fun x hx => hs x (by simp [hx])) m i hi h5 hM ((List.mem_cons.1 hm).resolve_left hne)
    show Pot (runN (stq s j) r).2.1 m
    rw [e]; exact this
theorem sched_eq (n : Nat) (R : Nat) : (List.range ((R + 1) * n)).map (· % n) = (List.range (R * n)).map (· % n) ++ List.range n := by
  rw [Nat.succ_mul, List.range_add, List.map_append, List.map_map]
  congr 1
  conv => rhs; rw [← List.map_id (List.range n)]
  refine List.map_congr_left fun x hx => ?_
  have := List.mem_range.1 hx
  simp only [Function.comp, id]
  rw [Nat.mul_comm, Nat.mul_add_mod, Nat.mod_eq_of_lt this]
theorem runN_append (s : LkS) (a b : List Nat) : runN s (a ++ b) = runN (runN s a) b := List.foldl_append ..
theorem pot_rounds (s : LkS) (h : OkS s) (m : Nat) (p : Pot s.2.1 m) : ∀ R : Nat, Pot (runN s ((List.range (R * s.2.1.length)).map (· % s.2.1.length))).2.1 (m - R) := by
  intro R
  have hn : 0 < s.2.1.length := h.n1
  have hin : ∀ R : Nat, ∀ x ∈ (List.range (R * s.2.1.length)).map (· % s.2.1.length), x < s.2.1.length := fun R x hx => by
    obtain ⟨y, _, rfl⟩ := List.mem_map.1 hx
    exact Nat.mod_lt _ hn
  induction R with
  | zero => simpa [runN] using p
  | succ R ih =>
    obtain ⟨ok, len⟩ := runN_ok _ s h (hin R)
    rw [sched_eq, runN_append]
    have hb : ∀ x ∈ List.range s.2.1.length, x < (runN s ((List.range (R * s.2.1.length)).map (· % s.2.1.length))).2.1.length := fun x hx => by rw [len]; exact List.mem_range.1 hx
    by_cases c : m ≤ R
    · rw [show m - (R + 1) = m - R by omega]
      exact pot_keep _ _ ok hb _ ih
    · rcases ih with d | ⟨i, hi, h5, hM⟩
      · exact pot_keep _ _ ok hb _ (.inl d)
      · exact pot_round _ _ ok hb _ i hi h5 (by omega) (List.mem_range.2 (by rw [← len]; exact hi))
theorem pot_zero {s : LkS} (h : OkS s) (p : Pot s.2.1 0) : DoneL s.2.1 := by
  rcases p with d | ⟨i, hi, h5, hM⟩
  · exact d
  · have h2 := (rank_can (LkOk.th h i hi) h5).2
    have := tns_pos s.2.1 (fun j hj => (LkOk.th h j hj).2.2.2.1) i hi
    omega
theorem done_word {s : LkS} (h : OkS s) (d : DoneL s.2.1) : s.1 = 0 ∧ s.2.2 = [] := by
  constructor
  · rcases LkOk.hd h with ⟨e, _⟩ | ⟨_, i, hi, h2, _⟩
    · exact e
    · have := d i hi
      unfold heldT at h2
      omega
  · cases c : s.2.2 with
    | nil => rfl
    | cons x r =>
      obtain ⟨n, rfl, hn⟩ := LkOk.qr h x (by rw [c]; simp)
      have hx := (LkOk.qs h n hn).2 (by rw [c]; simp)
      have := (LkOk.th h n hn).2.2.2.2.2 hx
      have := d n hn
      omega

theorem lrun_loop (ns : List Nat) (hns : ns.length < 1000000) (len : Nat) (hin : ∀ x ∈ ns, x < len) : ∀ (d i : Nat), i + d = ns.length → ∀ (s : LkS) (c : Nat), OkS s → s.2.1.length = len → c ≤ i →
    ∃ c' : Nat, Evt (fun k => impl_LockRun.l0 k (c : Int) (ns.map fun (x : Nat) => (x : Int)) ((ns.map fun (x : Nat) => (x : Int)).length : Int) (i : Int) s.1 s.2.1 s.2.2 = some ((runN s (ns.drop i)).1, (runN s (ns.drop i)).2.1, (runN s (ns.drop i)).2.2, (c' : Int))) := by
  intro d
  induction d with
  | zero =>
    intro i hi s c h hl hc
    refine ⟨c, Evt.of1 fun k => ?_⟩
    simp only [impl_LockRun.l0]
    rw [if_neg (by rw [List.length_map]; omega), List.drop_of_length_le (by omega)]
    rfl
  | succ d ih =>
    intro i hi s c h hl hc
    have hi2 : i < ns.length := by omega
    have n1 := LkOk.n1 h; have n4 := LkOk.n4 h
    obtain ⟨j, hj⟩ : ∃ j, ns[i] = j := ⟨_, rfl⟩
    have hjl : j < s.2.1.length := by rw [hl, ← hj]; exact hin _ (List.getElem_mem hi2)
    have er : rd (ns.map fun (x : Nat) => (x : Int)) (i : Int) = (j : Int) := by
      rw [rd_nat, getD_at _ _ _ (by rw [List.length_map]; exact hi2), List.getElem_map, hj]
    have ed : ns.drop i = j :: ns.drop (i + 1) := by rw [List.drop_eq_getElem_cons hi2, hj]
    have e : (decide (0 ≤ (j : Int)) && decide ((j : Int) ≤ wrap64 ((s.2.1.length : Int) - 1))) = true := by
      rw [nat_pred_wrap (by omega), decide_eq_true (by omega), decide_eq_true (by omega)]; rfl
    by_cases cc : canT (gt s.2.1 j)
    · have es : stq s j = stp s.1 s.2.1 s.2.2 j := if_pos cc
      obtain ⟨c', hc'⟩ := ih (i + 1) (by omega) (stq s j) (c + 1) (stq_ok h hjl) (by rw [stq_len]; exact hl) (by omega)
      refine ⟨c', hc'.step fun k hk => ?_⟩
      simp only [impl_LockRun.l0]
      rw [if_pos (by rw [List.length_map]; omega), if_pos (by omega), if_pos (by rw [List.length_map]; omega), er]
      refine bind_of (in_eq _ _ _) ?_
      rw [e, if_pos rfl]
      refine bind_of (can_ev h hjl) ?_
      rw [decide_eq_true cc, if_pos rfl]
      refine bind_of (step_eq h hjl) ?_
      rw [nat_succ_wrap (by omega), nat_succ_wrap (by omega), ed]
      rw [es] at hk
      refine hk.trans ?_
      show _ = some ((runN (stq s j) (ns.drop (i + 1))).1, (runN (stq s j) (ns.drop (i + 1))).2.1, (runN (stq s j) (ns.drop (i + 1))).2.2, (c' : Int))
      rw [es]
    · have es : stq s j = s := if_neg cc
      obtain ⟨c', hc'⟩ := ih (i + 1) (by omega) s c h hl (by omega)
      refine ⟨c', hc'.step fun k hk => ?_⟩
      simp only [impl_LockRun.l0]
      rw [if_pos (by rw [List.length_map]; omega), if_pos (by omega), if_pos (by rw [List.length_map]; omega), er]
      refine bind_of (in_eq _ _ _) ?_
      rw [e, if_pos rfl]
      refine bind_of (can_ev h hjl) ?_
      rw [decide_eq_false cc, if_neg (by decide), nat_succ_wrap (by omega), ed]
      refine hk.trans ?_
      show _ = some ((runN (stq s j) (ns.drop (i + 1))).1, (runN (stq s j) (ns.drop (i + 1))).2.1, (runN (stq s j) (ns.drop (i + 1))).2.2, (c' : Int))
      rw [es]
theorem lrun_ev (ns : List Nat) (hns : ns.length < 1000000) (s : LkS) (h : OkS s) (hin : ∀ x ∈ ns, x < s.2.1.length) :
    ∃ c' : Nat, Evt (fun k => impl_LockRun.f k s.1 s.2.1 s.2.2 (ns.map fun (x : Nat) => (x : Int)) = some ((runN s ns).1, (runN s ns).2.1, (runN s ns).2.2, (c' : Int))) := by
  obtain ⟨c', hc⟩ := lrun_loop ns hns s.2.1.length hin ns.length 0 (by omega) s 0 h rfl (by omega)
  refine ⟨c', ((lockok_ev h).and hc).imp fun k hk => ?_⟩
  unfold impl_LockRun.f
  refine bind_of hk.1 ?_
  rw [if_pos rfl]
  refine bind_of (lclone_eq _ _ _ (LkOk.n4 h) (LkOk.len h)) ?_
  exact hk.2
theorem ends_l2 (c : Nat) (s : LkS) (h : OkS s) (d : DoneL s.2.1) : ∀ (e i : Nat), i + e = s.2.1.length → Evt (fun k => laws_FnLockEnds.l2 k (c : Int) (i : Int) s.1 s.2.1 s.2.2 = some true) := by
  have n4 := LkOk.n4 h
  obtain ⟨hw, hq⟩ := done_word h d
  intro e
  induction e with
  | zero =>
    intro i hi
    refine Evt.of1 fun k => ?_
    simp only [laws_FnLockEnds.l2]
    rw [if_neg (by omega), if_pos (by omega), if_pos hw, hq]
    rfl
  | succ e ih =>
    intro i hi
    have := d i (by omega)
    refine (ih (i + 1) (by omega)).step fun k hk => ?_
    simp only [laws_FnLockEnds.l2]
    rw [if_pos (by omega), if_pos (by omega)]
    simp only [rd57_gt]
    rw [if_neg (by omega), if_neg (by omega), nat_succ_wrap (by omega)]
    exact hk
theorem ends_l1 (ns : List Nat) (hns : ns.length ≤ 200) (s : LkS) (h : OkS s) (hin : ∀ x ∈ ns, x < s.2.1.length) : ∀ (d i : Nat), i + d = 200 * s.2.1.length →
    Evt (fun k => laws_FnLockEnds.l1 k (s.2.1.length : Int) ((ns ++ (List.range i).map (· % s.2.1.length)).map fun (x : Nat) => (x : Int)) (i : Int) s.1 s.2.1 s.2.2 = some true) := by
  have n1 := LkOk.n1 h; have n4 := LkOk.n4 h
  have ew : wrap64 (200 * (s.2.1.length : Int)) = 200 * (s.2.1.length : Int) := wrap_in (by omega) (by omega)
  intro d
  induction d with
  | zero =>
    intro i hi
    have e : i = 200 * s.2.1.length := by omega
    subst e
    have hin2 : ∀ x ∈ ns ++ (List.range (200 * s.2.1.length)).map (· % s.2.1.length), x < s.2.1.length := fun x hx => by
      rcases List.mem_append.1 hx with h | h
      · exact hin x h
      · obtain ⟨y, _, rfl⟩ := List.mem_map.1 h
        exact Nat.mod_lt _ (by omega)
    obtain ⟨c', hc⟩ := lrun_ev (ns ++ (List.range (200 * s.2.1.length)).map (· % s.2.1.length)) (by simp; omega) s h hin2
    obtain ⟨ok1, len1⟩ := runN_ok ns s h hin
    have hb := tns_bound (runN s ns).2.1 (fun j hj => (LkOk.th ok1 j hj).2.2.2.1)
    have p1 : Pot (runN s ns).2.1 101 := pot_ex ok1 (by omega)
    have p2 := pot_rounds (runN s ns) ok1 101 p1 200
    rw [len1] at p2
    rw [runN_append] at hc
    have ok2 := (runN_ok _ (runN s ns) ok1 (fun x hx => by rw [len1]; exact hin2 x (List.mem_append.2 (.inr hx)))).1
    have dn := pot_zero ok2 p2
    refine (hc.and (ends_l2 c' _ ok2 dn _ 0 (Nat.zero_add _))).step fun k hk => ?_
    simp only [laws_FnLockEnds.l1]
    rw [if_neg (by rw [ew]; omega)]
    refine bind_of hk.1 ?_
    exact hk.2
  | succ d ih =>
    intro i hi
    refine (ih (i + 1) (by omega)).step fun k hk => ?_
    simp only [laws_FnLockEnds.l1]
    rw [if_pos (by rw [ew]; omega), if_neg (by omega), if_pos (by simp; omega), nat_succ_wrap (by omega)]
    simp only [List.range_succ, List.map_append, ← List.append_assoc, List.map_cons, List.map_nil] at hk
    simp only [List.map_append]
    exact hk
theorem ends_l0 (x1 : List Int) (hb : Bytes x1) (s : LkS) (h : OkS s) : ∀ (d i : Nat), i + d = min 200 x1.length → ∀ ns : List Nat, ns.length = i → (∀ x ∈ ns, x < s.2.1.length) →
    Evt (fun k => laws_FnLockEnds.l0 k x1 (s.2.1.length : Int) (ns.map fun (x : Nat) => (x : Int)) (i : Int) s.1 s.2.1 s.2.2 = some true) := by
  have n1 := LkOk.n1 h; have n4 := LkOk.n4 h
  intro d
  induction d with
  | zero =>
    intro i hi ns hl hin
    have h1 := ends_l1 ns (by omega) s h hin (200 * s.2.1.length) 0 (by omega)
    have hj : Evt (fun k => laws_FnLockEnds.j3 k (s.2.1.length : Int) (ns.map fun (x : Nat) => (x : Int)) s.1 s.2.1 s.2.2 = some true) := h1.step fun k hk => by
      simp only [laws_FnLockEnds.j3]
      simpa using hk
    refine hj.step fun k hk => ?_
    simp only [laws_FnLockEnds.l0]
    by_cases c : (i : Int) < (x1.length : Int)
    · rw [if_pos c, if_neg (by omega)]; exact hk
    · rw [if_neg c]; exact hk
  | succ d ih =>
    intro i hi ns hl hin
    have hr := rd_byte hb (i : Int)
    have ew : wrap64 (rd x1 (i : Int)) = rd x1 (i : Int) := wrap_in (by omega) (by omega)
    have hm := tmod_range hr.1 (show (0 : Int) < (s.2.1.length : Int) by omega)
    obtain ⟨m, hm2⟩ : ∃ m : Nat, Int.tmod (rd x1 (i : Int)) (s.2.1.length : Int) = m := ⟨(Int.tmod (rd x1 (i : Int)) (s.2.1.length : Int)).toNat, by omega⟩
    refine (ih (i + 1) (by omega) (ns ++ [m]) (by simp [hl]) (fun x hx => by
      rcases List.mem_append.1 hx with h | h
      · exact hin x h
      · rw [List.mem_singleton] at h; omega)).step fun k hk => ?_
    simp only [laws_FnLockEnds.l0]
    rw [if_pos (by omega), if_pos (by omega), if_pos (by omega), if_neg (by omega), if_pos (by simp; omega), nat_succ_wrap (by omega), ew, hm2]
    rw [List.map_append] at hk
    exact hk
theorem FnLockEnds : laws_FnLockEnds.Pure := by
  intro l0 l1 _ _ hb0 _ _ hb1
  have j0t : Evt (fun k => laws_FnLockEnds.j0 k l0 l1 true = some true) := Evt.of1 fun k => by
    simp only [laws_FnLockEnds.j0]
    rw [if_pos trivial]
  by_cases hlen : (l0.length : Int) > 1048576
  · exact Evt.some_ (j0t.imp fun k hk => by unfold laws_FnLockEnds.f; rw [if_pos hlen]; exact hk)
  by_cases hlen1 : (l1.length : Int) > 1048576
  · exact Evt.some_ (j0t.imp fun k hk => by unfold laws_FnLockEnds.f; rw [if_neg hlen, decide_eq_true hlen1]; exact hk)
  obtain ⟨n, t, hdr⟩ := drawlock_ev (bytes_of hb0)
  have h1 := impl_new_ev n t
  have h2 := spec_new_ev n t
  have h3 := qdlock_refl (lockNew n t).1 (lockNew n t).2.1 (lockNew n t).2.2.1 (by unfold lockNew; split <;> simp; omega) (by unfold lockNew; split <;> simp)
  have hj : Evt (fun k => laws_FnLockEnds.j1 k l1 n (lockNew n t).2.2.2 (lockNew n t).2.2.2 (!(lockNew n t).2.2.2) (lockNew n t).1 (lockNew n t).2.1 (lockNew n t).2.2.1 (lockNew n t).1 (lockNew n t).2.1 (lockNew n t).2.2.1 = some true) := by
    by_cases c : 1 ≤ n ∧ n ≤ 4 ∧ 0 ≤ t ∧ t ≤ 3
    · have e : lockNew n t = (0, List.replicate n.toNat ⟨0, 0, t, false⟩, [], true) := by rw [lockNew, if_pos c]
      rw [e]
      have run := ends_l0 l1 (bytes_of hb1) (0, List.replicate n.toNat ⟨0, 0, t, false⟩, []) (new_ok n t c.1 c.2.1 c.2.2.1 c.2.2.2) (min 200 l1.length) 0 (by omega) [] rfl (by simp)
      have en : (((List.replicate n.toNat (⟨0, 0, t, false⟩ : S57)).length : Nat) : Int) = n := by rw [List.length_replicate]; omega
      refine run.step fun k hk => ?_
      simp only [laws_FnLockEnds.j1]
      rw [if_neg (by decide)]
      simp only [en] at hk
      exact hk
    · have e : lockNew n t = (0, [], [], false) := by rw [lockNew, if_neg c]
      rw [e] at h3 ⊢
      refine h3.step fun k hk => ?_
      simp only [laws_FnLockEnds.j1]
      rw [if_pos (by decide), if_pos (by decide)]
      exact bind_of hk rfl
  have j0f : Evt (fun k => laws_FnLockEnds.j0 k l0 l1 false = some true) := ((hdr.and h1).and ((h2.and h3).and hj)).step fun k hk => by
    obtain ⟨⟨k1, k4⟩, ⟨k5, k6⟩, k7⟩ := hk
    simp only [laws_FnLockEnds.j0]
    rw [if_neg (by decide)]
    refine bind_of k1 ?_
    refine bind_of k4 ?_
    refine bind_of k5 ?_
    rw [if_neg (by simp)]
    refine bind_of k6 ?_
    rw [if_pos rfl]
    exact k7
  exact Evt.some_ (j0f.imp fun k hk => by unfold laws_FnLockEnds.f; rw [if_neg hlen, decide_eq_false hlen1]; exact hk)

end Go.Proofs.Ytpdfkbggaihfpaa.Pure
