/- Proved: for every code, the law FnLockQuick answers true and leaves its argument as it was (who is alone never sleeps). No condition beyond the row's own. -/
import Derived.Test.YtpdfkbggaihfpaaPFnLockQuickx11
import Derived.Test.YtpdfkbggaihfpaaAuxFnLockQuick
namespace Go.Proofs.Ytpdfkbggaihfpaa.Pure
open Go.RowKit Go.Proofs.Ytpdfkbggaihfpaa.PFnLockQuick Go.Proofs.YtpdfkbggaihfpaaW.PrintWords Go.Proofs.YtpdfkbggaihfpaaW.PrintLast Go.Proofs.YtpdfkbggaihfpaaW.PrintMore Go.Proofs.Ytpdfkbggaihfpaa.Aux
set_option linter.unusedVariables false
set_option linter.unusedSimpArgs false
theorem pick_ev {l : List Int} (hl : Bytes l) {p : Int} (n : Int) (h0 : 0 ≤ p) (h1 : p < 1000000) :
    ∃ v, Evt (fun k => spec_l6Rd_pick.f k l p n = some (v, p + 1)) ∧ 0 ≤ v ∧ (1 ≤ n → v < n) ∧ (n < 1 → v = 0) := by
  have e1 : wrap64 (p + 1) = p + 1 := wrap_in (by omega) (by omega)
  have e2 : wrap64 (p + 1 - 1) = p := by rw [Int.add_sub_cancel]; exact wrap_in (by omega) (by omega)
  by_cases hn : n < 1
  · refine ⟨0, Evt.of1 fun k => ?_, by omega, by omega, fun _ => rfl⟩
    unfold spec_l6Rd_pick.f
    rw [if_pos hn, e1]
    simp only [spec_l6Rd_pick.j0, if_true]
  · by_cases hz : l.length = 0
    · refine ⟨0, Evt.of1 fun k => ?_, by omega, by omega, fun _ => rfl⟩
      unfold spec_l6Rd_pick.f
      have hz' : ((l.length : Int) == 0) = true := by simp [hz]
      rw [if_neg hn, e1, hz']
      simp only [spec_l6Rd_pick.j0, if_true]
    · have hz' : ((l.length : Int) == 0) = false := by simpa using hz
      have hlen : (0 : Int) < (l.length : Int) := by omega
      by_cases hlt : p < (l.length : Int)
      · have hr := rd_byte hl p
        have hr2 : wrap64 (rd l p) = rd l p := wrap_in (by omega) (by omega)
        have ht := tmod_range (a := rd l p) (n := n) (by omega) (by omega)
        refine ⟨Int.tmod (rd l p) n, Evt.of1 fun k => ?_, ht.1, fun _ => ht.2, fun h => by omega⟩
        unfold spec_l6Rd_pick.f
        rw [if_neg hn, e1, hz']
        simp only [spec_l6Rd_pick.j0]
        rw [e2, if_neg (by decide), if_pos hlt, if_pos h0, if_neg (by omega), hr2]
      · have e3 : wrap64 (wrap64 (p * 7) + 3) = p * 7 + 3 := by
          rw [wrap_in (n := p * 7) (by omega) (by omega)]
          exact wrap_in (by omega) (by omega)
        have ta := tmod_range (a := p) (n := (l.length : Int)) h0 hlen
        have tb := tmod_range (a := p * 7 + 3) (n := (l.length : Int)) (by omega) hlen
        have td := tdiv_range (a := p) (n := (l.length : Int)) h0 hlen
        have ra := rd_byte hl (Int.tmod p (l.length : Int))
        have rb := rd_byte hl (Int.tmod (p * 7 + 3) (l.length : Int))
        obtain ⟨x, hx, x0, x1⟩ := mix_range ra.1 ra.2 rb.1 rb.2 h0 (by omega) td.1 td.2
        have xd := tdiv_range (a := x) (n := 64) x0 (by decide)
        have xw : wrap64 (Int.tdiv x 64) = Int.tdiv x 64 := wrap_in (by omega) (by omega)
        have xx := xor_range (a := x) (b := Int.tdiv x 64) x0 x1 xd.1 (by omega)
        have tv := tmod_range (a := Go.bits .xor .i64 x (Int.tdiv x 64)) (n := n) xx.1 (by omega)
        refine ⟨Int.tmod (Go.bits .xor .i64 x (Int.tdiv x 64)) n, Evt.of1 fun k => ?_, tv.1, fun _ => tv.2, fun h => by omega⟩
        unfold spec_l6Rd_pick.f
        rw [if_neg hn, e1, hz']
        simp only [spec_l6Rd_pick.j0]
        rw [e2, e3, if_neg (by decide), if_neg hlt, if_neg (by omega), if_pos ta.1, if_pos ta.2, if_pos tb.1, if_pos tb.2, if_neg (by omega), hx, xw]
theorem open_ev {l : List Int} (hl : Bytes l) : ∃ s, spec_l6Open.f l = some (s, 0) ∧ Bytes s := by
  unfold spec_l6Open.f
  by_cases h : (l.length : Int) > 2000
  · exact ⟨l.take 2000, by rw [if_pos h, if_pos (by omega)], hl.take _⟩
  · exact ⟨l, by rw [if_neg h], hl⟩

theorem in_eq (a b c : Int) : impl_in.f a b c = some (decide (b ≤ a) && decide (a ≤ c)) := by
  unfold impl_in.f
  by_cases h : a ≥ b
  · rw [if_pos h]; simp [show b ≤ a from h]
  · rw [if_neg h]; simp [show ¬ b ≤ a from h]
theorem l6in_eq (a b c : Int) : spec_l6In.f a b c = some (decide (b ≤ a) && decide (a ≤ c)) := by
  unfold spec_l6In.f
  by_cases h : a ≥ b
  · rw [if_pos h]; simp [show b ≤ a from h]
  · rw [if_neg h]; simp [show ¬ b ≤ a from h]

theorem qdints_loop (a : List Int) (ha : a.length < 1000000000) : ∀ (d i : Nat), i + d = a.length → Evt (fun k => laws_qdInts.l0 k a a (i : Int) = some true) := by
  intro d
  induction d with
  | zero =>
    intro i hi
    refine Evt.of1 fun k => ?_
    simp only [laws_qdInts.l0]
    rw [if_neg (by omega)]
  | succ d ih =>
    intro i hi
    refine (ih (i + 1) (by omega)).step fun k hk => ?_
    simp only [laws_qdInts.l0]
    rw [if_pos (by omega), if_pos (by omega), if_pos (by omega), if_pos trivial, nat_succ_wrap (by omega)]
    exact hk
theorem qdints_refl (a : List Int) (ha : a.length < 1000000000) : Evt (fun k => laws_qdInts.f k a a = some true) := by
  refine (qdints_loop a ha a.length 0 (by omega)).imp fun k hk => ?_
  unfold laws_qdInts.f
  rw [if_pos rfl]
  exact hk

theorem Evt.mono_ {α : Type} {g : Nat → Option α} (hm : ∀ k, LeO (g k) (g (k + 1))) {K : Nat} {r : α} (h : g K = some r) : Evt (fun k => g k = some r) := by
  refine ⟨K, fun k hk => ?_⟩
  induction hk with
  | refl => exact h
  | step _ ih => exact hm _ _ ih

def lockNew (n t : Int) : Int × List S57 × List Int × Bool := if 1 ≤ n ∧ n ≤ 4 ∧ 0 ≤ t ∧ t ≤ 3 then (0, List.replicate n.toNat ⟨0, 0, t, false⟩, [], true) else (0, [], [], false)
theorem impl_new_loop (t : Int) : ∀ (d i : Nat) (l : List S57), i + d = l.length → l.length ≤ 4 → (∀ j : Nat, i ≤ j → j < l.length → rd_T57 l (j : Int) = z57) →
    Evt (fun k => impl_LockNew.l0 k t (l.length : Int) (i : Int) 0 l = some (0, l.take i ++ List.replicate d ⟨0, 0, t, false⟩, [], true)) := by
  intro d
  induction d with
  | zero =>
    intro i l hi h4 hz
    refine Evt.of1 fun k => ?_
    simp only [impl_LockNew.l0]
    rw [if_neg (by omega), List.take_of_length_le (by omega)]
    simp
  | succ d ih =>
    intro i l hi h4 hz
    have hzi := hz i (Nat.le_refl _) (by omega)
    have hr := ih (i + 1) (l.set i ⟨0, 0, t, false⟩) (by simp; omega) (by simpa using h4) (fun j h1 h2 => by
      have := hz j (by omega) (by simpa using h2)
      unfold rd_T57 at this ⊢
      rw [List.getD_eq_getElem?_getD] at this ⊢
      rw [List.getElem?_set, if_neg (by simp; omega)]
      exact this)
    refine hr.step fun k hk => ?_
    simp only [impl_LockNew.l0]
    rw [List.length_set] at hk
    rw [if_pos (by omega), if_pos (by omega), if_pos (by omega), nat_succ_wrap (by omega), hzi, Int.toNat_natCast]
    refine hk.trans ?_
    congr 2
    rw [List.take_set, List.take_succ_eq_append_getElem (by omega), List.set_append, List.length_take, if_neg (by omega)]
    simp [List.replicate_succ, show i - min i l.length = 0 by omega]
theorem impl_new_ev (n t : Int) : Evt (fun k => impl_LockNew.f k n t = some (lockNew n t)) := by
  have jt : Evt (fun k => impl_LockNew.j0 k n t true = some (0, [], [], false)) := Evt.of1 fun k => by
    simp only [impl_LockNew.j0]
    rw [if_pos trivial]
  by_cases c1 : 1 ≤ n ∧ n ≤ 4
  · by_cases c2 : 0 ≤ t ∧ t ≤ 3
    · have lp := impl_new_loop t n.toNat 0 (List.replicate n.toNat z57) (by simp) (by simp; omega) (fun j _ hj => by
        unfold rd_T57
        rw [List.getD_eq_getElem?_getD, List.getElem?_replicate, if_pos (by simpa using hj)]
        rfl)
      have jf : Evt (fun k => impl_LockNew.j0 k n t false = some (lockNew n t)) := by
        refine lp.step fun k hk => ?_
        simp only [impl_LockNew.j0]
        rw [if_neg (by decide), if_pos (by omega), if_pos (by omega)]
        refine bind_of rfl ?_
        refine hk.trans ?_
        rw [lockNew, if_pos ⟨c1.1, c1.2, c2.1, c2.2⟩]
        simp
      refine jf.imp fun k hk => ?_
      unfold impl_LockNew.f
      refine bind_of (in_eq _ _ _) ?_
      rw [if_pos (by simpa using c1)]
      refine bind_of (in_eq _ _ _) ?_
      rw [show (decide ((0 : Int) ≤ t) && decide (t ≤ 3)) = true from by simpa using c2]
      exact hk
    · refine jt.imp fun k hk => ?_
      unfold impl_LockNew.f
      refine bind_of (in_eq _ _ _) ?_
      rw [if_pos (by simpa using c1)]
      refine bind_of (in_eq _ _ _) ?_
      rw [show (decide ((0 : Int) ≤ t) && decide (t ≤ 3)) = false from by rw [← Bool.not_eq_true]; simpa using c2, lockNew, if_neg (by omega)]
      exact hk
  · refine jt.imp fun k hk => ?_
    unfold impl_LockNew.f
    refine bind_of (in_eq _ _ _) ?_
    rw [if_neg (by simpa using c1), lockNew, if_neg (by omega)]
    exact hk
theorem spec_new_loop (n t : Int) (hn : n ≤ 4) : ∀ (d i : Nat) (l : List S57), (i : Int) + d = n → l.length = i →
    Evt (fun k => spec_LockNew.l0 k n t (i : Int) 0 l [] = some (0, l ++ List.replicate d ⟨0, 0, t, false⟩, [], true)) := by
  intro d
  induction d with
  | zero =>
    intro i l hi hl
    refine Evt.of1 fun k => ?_
    simp only [spec_LockNew.l0]
    rw [if_neg (by omega)]
    simp
  | succ d ih =>
    intro i l hi hl
    refine (ih (i + 1) (l ++ [⟨0, 0, t, false⟩]) (by omega) (by simp; omega)).step fun k hk => ?_
    simp only [spec_LockNew.l0]
    rw [if_pos (by omega), if_pos (by omega), nat_succ_wrap (by omega)]
    refine hk.trans ?_
    simp [List.replicate_succ]
theorem spec_new_ev (n t : Int) : Evt (fun k => spec_LockNew.f k n t = some (lockNew n t)) := by
  have jt : Evt (fun k => spec_LockNew.j0 k n t true = some (0, [], [], false)) := Evt.of1 fun k => by
    simp only [spec_LockNew.j0]
    rw [if_pos trivial]
  by_cases c1 : 1 ≤ n ∧ n ≤ 4
  · by_cases c2 : 0 ≤ t ∧ t ≤ 3
    · have lp := spec_new_loop n t (by omega) n.toNat 0 [] (by omega) rfl
      have jf : Evt (fun k => spec_LockNew.j0 k n t false = some (lockNew n t)) := by
        refine lp.step fun k hk => ?_
        simp only [spec_LockNew.j0]
        rw [if_neg (by decide)]
        refine hk.trans ?_
        rw [lockNew, if_pos ⟨c1.1, c1.2, c2.1, c2.2⟩]
        simp
      refine jf.imp fun k hk => ?_
      unfold spec_LockNew.f
      refine bind_of (l6in_eq _ _ _) ?_
      rw [if_pos (by simpa using c1)]
      refine bind_of (l6in_eq _ _ _) ?_
      rw [show (decide ((0 : Int) ≤ t) && decide (t ≤ 3)) = true from by simpa using c2]
      exact hk
    · refine jt.imp fun k hk => ?_
      unfold spec_LockNew.f
      refine bind_of (l6in_eq _ _ _) ?_
      rw [if_pos (by simpa using c1)]
      refine bind_of (l6in_eq _ _ _) ?_
      rw [show (decide ((0 : Int) ≤ t) && decide (t ≤ 3)) = false from by rw [← Bool.not_eq_true]; simpa using c2, lockNew, if_neg (by omega)]
      exact hk
  · refine jt.imp fun k hk => ?_
    unfold spec_LockNew.f
    refine bind_of (l6in_eq _ _ _) ?_
    rw [if_neg (by simpa using c1), lockNew, if_neg (by omega)]
    exact hk
theorem qdlock_loop (a : Int) (l : List S57) (q : List Int) (hl : l.length ≤ 4) : ∀ (d i : Nat), i + d = l.length → Evt (fun k => laws_qdLock.l0 k (i : Int) a l q a l q = some true) := by
  intro d
  induction d with
  | zero =>
    intro i hi
    refine Evt.of1 fun k => ?_
    simp only [laws_qdLock.l0]
    rw [if_neg (by omega)]
  | succ d ih =>
    intro i hi
    refine (ih (i + 1) (by omega)).step fun k hk => ?_
    simp only [laws_qdLock.l0]
    rw [if_pos (by omega), if_pos (by omega), if_pos (by omega), if_neg (by simp), nat_succ_wrap (by omega)]
    exact hk
theorem qdlock_refl (a : Int) (l : List S57) (q : List Int) (hl : l.length ≤ 4) (hq : q.length < 1000000000) : Evt (fun k => laws_qdLock.f k a l q a l q = some true) := by
  have j : Evt (fun k => laws_qdLock.j0 k false a l q a l q = some true) := by
    refine (qdlock_loop a l q hl l.length 0 (by omega)).step fun k hk => ?_
    simp only [laws_qdLock.j0]
    rw [if_neg (by decide)]
    exact hk
  refine ((qdints_refl q hq).and j).imp fun k hk => ?_
  unfold laws_qdLock.f
  rw [if_pos rfl]
  refine bind_of hk.1 ?_
  rw [if_pos rfl]
  simp only [bne_self_eq_false]
  exact hk.2

theorem drawlock_ev {l : List Int} (hl : Bytes l) : ∃ n t, Evt (fun k => spec_DrawLockNew.f k l = some (n, t)) := by
  obtain ⟨s, hs, hsb⟩ := open_ev hl
  obtain ⟨v, hv, _⟩ := pick_ev hsb (p := 0) 6 (by omega) (by omega)
  obtain ⟨w, hw, _⟩ := pick_ev hsb (p := 0 + 1) 6 (by omega) (by omega)
  refine ⟨v, wrap64 (w - 1), (hv.and hw).imp fun k hk => ?_⟩
  unfold spec_DrawLockNew.f
  refine bind_of hs ?_
  refine bind_of hk.1 ?_
  refine bind_of hk.2 ?_
  rfl

theorem FnLockQuick : laws_FnLockQuick.Pure := by
  intro l0 _ _ hb0
  by_cases hlen : (l0.length : Int) > 1048576
  · exact ⟨0, by unfold laws_FnLockQuick.f; rw [if_pos hlen]⟩
  obtain ⟨n, t, hdr⟩ := drawlock_ev (bytes_of hb0)
  have h1 := impl_new_ev 1 t
  have h2 := spec_new_ev 1 t
  have h3 := qdlock_refl (lockNew 1 t).1 (lockNew 1 t).2.1 (lockNew 1 t).2.2.1 (by unfold lockNew; split <;> simp) (by unfold lockNew; split <;> simp)
  have hj : Evt (fun k => laws_FnLockQuick.j0 k t (lockNew 1 t).2.2.2 (lockNew 1 t).2.2.2 (!(lockNew 1 t).2.2.2) (lockNew 1 t).1 (lockNew 1 t).2.1 (lockNew 1 t).2.2.1 (lockNew 1 t).1 (lockNew 1 t).2.1 (lockNew 1 t).2.2.1 = some true) := by
    by_cases c : 0 ≤ t ∧ t ≤ 3
    · have e : lockNew 1 t = (0, [⟨0, 0, t, false⟩], [], true) := by
        rw [lockNew, if_pos ⟨by omega, by omega, c.1, c.2⟩]
        rfl
      rw [e]
      have run : ∃ r, Evt (fun k => impl_LockRun.f k 0 [⟨0, 0, t, false⟩] [] (List.replicate (wrap64 (2 * t)).toNat 0) = some (0, [⟨0, 0, 0, false⟩], r, wrap64 (2 * t))) := by
        have ht : t = 0 ∨ t = 1 ∨ t = 2 ∨ t = 3 := by omega
        refine ⟨[], ?_⟩
        rcases ht with rfl | rfl | rfl | rfl
        · exact Evt.mono_ (K := 30) (fun k => impl_LockRun.mono _ _ _ _ k) (by kernel_rfl)
        · exact Evt.mono_ (K := 30) (fun k => impl_LockRun.mono _ _ _ _ k) (by kernel_rfl)
        · exact Evt.mono_ (K := 30) (fun k => impl_LockRun.mono _ _ _ _ k) (by kernel_rfl)
        · exact Evt.mono_ (K := 30) (fun k => impl_LockRun.mono _ _ _ _ k) (by kernel_rfl)
      obtain ⟨r, hr⟩ := run
      have ew : wrap64 (2 * t) = 2 * t := wrap_in (by omega) (by omega)
      refine hr.step fun k hk => ?_
      simp only [laws_FnLockQuick.j0]
      rw [if_neg (by decide), if_pos (by omega), if_pos (by omega)]
      refine bind_of hk ?_
      rw [if_pos rfl, if_pos rfl, if_pos (by simp)]
      rfl
    · have e : lockNew 1 t = (0, [], [], false) := by rw [lockNew, if_neg (by omega)]
      rw [e] at h3 ⊢
      refine h3.step fun k hk => ?_
      simp only [laws_FnLockQuick.j0]
      rw [if_pos (by decide), if_pos (by decide)]
      refine bind_of hk ?_
      rfl
  refine Evt.some_ (((hdr.and h1).and ((h2.and h3).and hj)).imp fun k hk => ?_)
  obtain ⟨⟨k1, k4⟩, ⟨k5, k6⟩, k7⟩ := hk
  unfold laws_FnLockQuick.f
  rw [if_neg hlen]
  refine bind_of k1 ?_
  refine bind_of k4 ?_
  refine bind_of k5 ?_
  rw [if_neg (by simp)]
  refine bind_of k6 ?_
  rw [if_pos rfl]
  exact k7

end Go.Proofs.Ytpdfkbggaihfpaa.Pure
