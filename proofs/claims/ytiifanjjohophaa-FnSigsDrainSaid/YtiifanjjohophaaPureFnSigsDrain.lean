/- Proved: for every code, the law FnSigsDrain answers true and leaves its argument as it was (all that may be taken is taken, each once). No condition beyond the row's own. -/
import Derived.Test.YtiifanjjohophaaPFnSigsDrainx11
import Derived.Test.YtiifanjjohophaaAuxFnSigsDrain
namespace Go.Proofs.Ytiifanjjohophaa.Pure
open Go.RowKit Go.Proofs.Ytiifanjjohophaa.PFnSigsDrain Go.Proofs.YtiifanjjohophaaW.PrintWords Go.Proofs.YtiifanjjohophaaW.PrintLast Go.Proofs.YtiifanjjohophaaW.PrintMore Go.Proofs.Ytiifanjjohophaa.Aux
set_option linter.unusedVariables false
set_option linter.unusedSimpArgs false
theorem pick_ev {l : List Int} (hl : Bytes l) {p : Int} (n : Int) (h0 : 0 ≤ p) (h1 : p < 1000000) :
    ∃ v, Evt (fun k => spec_l6Rd_pick.f k l p n = some (v, p + 1)) ∧ 0 ≤ v ∧ (1 ≤ n → v < n) ∧ (n < 1 → v = 0) := by
  have e1 : wrap64 (p + 1) = p + 1 := wrap_in (by omega) (by omega)
  have e2 : wrap64 (p + 1 - 1) = p := by rw [Int.add_sub_cancel]; exact wrap_in (by omega) (by omega)
  by_cases hn : n < 1
  · refine ⟨0, Evt.of1 fun k => ?_, by omega, by omega, fun _ => rfl⟩
    unfold spec_l6Rd_pick.f
    rw [if_pos hn, e1]
    simp only [spec_l6Rd_pick.j0, if_true]
  · by_cases hz : l.length = 0
    · refine ⟨0, Evt.of1 fun k => ?_, by omega, by omega, fun _ => rfl⟩
      unfold spec_l6Rd_pick.f
      have hz' : ((l.length : Int) == 0) = true := by simp [hz]
      rw [if_neg hn, e1, hz']
      simp only [spec_l6Rd_pick.j0, if_true]
    · have hz' : ((l.length : Int) == 0) = false := by simpa using hz
      have hlen : (0 : Int) < (l.length : Int) := by omega
      by_cases hlt : p < (l.length : Int)
      · have hr := rd_byte hl p
        have hr2 : wrap64 (rd l p) = rd l p := wrap_in (by omega) (by omega)
        have ht := tmod_range (a := rd l p) (n := n) (by omega) (by omega)
        refine ⟨Int.tmod (rd l p) n, Evt.of1 fun k => ?_, ht.1, fun _ => ht.2, fun h => by omega⟩
        unfold spec_l6Rd_pick.f
        rw [if_neg hn, e1, hz']
        simp only [spec_l6Rd_pick.j0]
        rw [e2, if_neg (by decide), if_pos hlt, if_pos h0, if_neg (by omega), hr2]
      · have e3 : wrap64 (wrap64 (p * 7) + 3) = p * 7 + 3 := by
          rw [wrap_in (n := p * 7) (by omega) (by omega)]
          exact wrap_in (by omega) (by omega)
        have ta := tmod_range (a := p) (n := (l.length : Int)) h0 hlen
        have tb := tmod_range (a := p * 7 + 3) (n := (l.length : Int)) (by omega) hlen
        have td := tdiv_range (a := p) (n := (l.length : Int)) h0 hlen
        have ra := rd_byte hl (Int.tmod p (l.length : Int))
        have rb := rd_byte hl (Int.tmod (p * 7 + 3) (l.length : Int))
        obtain ⟨x, hx, x0, x1⟩ := mix_range ra.1 ra.2 rb.1 rb.2 h0 (by omega) td.1 td.2
        have xd := tdiv_range (a := x) (n := 64) x0 (by decide)
        have xw : wrap64 (Int.tdiv x 64) = Int.tdiv x 64 := wrap_in (by omega) (by omega)
        have xx := xor_range (a := x) (b := Int.tdiv x 64) x0 x1 xd.1 (by omega)
        have tv := tmod_range (a := Go.bits .xor .i64 x (Int.tdiv x 64)) (n := n) xx.1 (by omega)
        refine ⟨Int.tmod (Go.bits .xor .i64 x (Int.tdiv x 64)) n, Evt.of1 fun k => ?_, tv.1, fun _ => tv.2, fun h => by omega⟩
        unfold spec_l6Rd_pick.f
        rw [if_neg hn, e1, hz']
        simp only [spec_l6Rd_pick.j0]
        rw [e2, e3, if_neg (by decide), if_neg hlt, if_neg (by omega), if_pos ta.1, if_pos ta.2, if_pos tb.1, if_pos tb.2, if_neg (by omega), hx, xw]
theorem open_ev {l : List Int} (hl : Bytes l) : ∃ s, spec_l6Open.f l = some (s, 0) ∧ Bytes s := by
  unfold spec_l6Open.f
  by_cases h : (l.length : Int) > 2000
  · exact ⟨l.take 2000, by rw [if_pos h, if_pos (by omega)], hl.take _⟩
  · exact ⟨l, by rw [if_neg h], hl⟩

def sOk (b : List Bool) (d : List Int) (i : Nat) : Bool :=
  (decide (rd d i = 0) || (decide (rd d i = 1) || decide (rd d i = 4))) && !((decide (i = 0) || decide (i = 1)) && (rdOf false b i || !decide (rd d i = 0)))
def sAll (b : List Bool) (d : List Int) : Nat → Nat → Bool
  | 0, _ => true
  | e + 1, i => sOk b d i && sAll b d e (i + 1)
theorem sAll_succ (b : List Bool) (d : List Int) (e i : Nat) : sAll b d (e + 1) i = (sOk b d i && sAll b d e (i + 1)) := rfl
def sigsOk (h b : List Bool) (d : List Int) : Bool := decide (h.length = 8) && (decide (b.length = 8) && (decide (d.length = 8) && sAll b d 8 0))
theorem sigsOk_len {h b : List Bool} {d : List Int} (k : sigsOk h b d = true) : h.length = 8 ∧ b.length = 8 ∧ d.length = 8 ∧ sAll b d 8 0 = true := by
  simpa [sigsOk] using k
theorem succ_is {i : Nat} (hi : i < 100) (n : Int) : wrap64 ((i : Int) + 1) = n ↔ (i : Int) + 1 = n := by rw [wrap_in (by omega) (by omega)]
theorem impl_sok_loop (h b : List Bool) (d : List Int) (hb : b.length = 8) (hd : d.length = 8) : ∀ (e i : Nat), i + e = 8 →
    Evt (fun k => impl_SigsOk.l0 k d (d.length : Int) (i : Int) h b d = some (sAll b d e i)) := by
  intro e
  induction e with
  | zero =>
    intro i hi
    refine Evt.of1 fun k => ?_
    simp only [impl_SigsOk.l0]
    rw [if_neg (by omega)]
    rfl
  | succ e ih =>
    intro i hi
    refine (ih (i + 1) (by omega)).step fun k hk => ?_
    have n1 : ((i : Int) + 1 = 1) ↔ i = 0 := by omega
    have n2 : ((i : Int) + 1 = 2) ↔ i = 1 := by omega
    simp only [impl_SigsOk.l0, succ_is (i := i) (by omega)]
    rw [nat_succ_wrap (by omega), hk]
    rw [if_pos (by omega), if_pos (by omega), if_pos (by omega)]
    have hbl : (i : Int) < (b.length : Int) := by omega
    simp only [if_pos hbl, n1, n2]
    rw [sAll_succ]
    unfold sOk
    generalize sAll b d e (i + 1) = R
    generalize rd d (i : Int) = v
    generalize rdOf false b (i : Int) = c
    clear hk ih hbl hd hb hi n1 n2
    by_cases c0 : i = 0
    · subst c0
      by_cases v0 : v = 0
      · subst v0; cases c <;> simp
      · by_cases v1 : v = 1
        · subst v1; cases c <;> simp
        · by_cases v4 : v = 4
          · subst v4; cases c <;> simp
          · simp [v0, v1, v4]
    · by_cases c1 : i = 1
      · subst c1
        by_cases v0 : v = 0
        · subst v0; cases c <;> simp
        · by_cases v1 : v = 1
          · subst v1; cases c <;> simp
          · by_cases v4 : v = 4
            · subst v4; cases c <;> simp
            · simp [v0, v1, v4]
      · by_cases v0 : v = 0
        · subst v0; simp [c0, c1]
        · by_cases v1 : v = 1
          · subst v1; simp [c0, c1]
          · by_cases v4 : v = 4
            · subst v4; simp [c0, c1]
            · simp [c0, v0, v1, v4]
theorem impl_sok_ev (h b : List Bool) (d : List Int) : Evt (fun k => impl_SigsOk.f k h b d = some (sigsOk h b d)) := by
  by_cases hh : h.length = 8
  · by_cases hb : b.length = 8
    · by_cases hd : d.length = 8
      · refine ((impl_sok_loop h b d hb hd 8 0 (by omega)).step (Q := fun k => impl_SigsOk.j0 k false h b d = some (sAll b d 8 0)) fun k hk => ?_).imp fun k hk => ?_
        · simp only [impl_SigsOk.j0]
          rw [if_neg (by decide)]
          exact hk
        · unfold impl_SigsOk.f sigsOk
          rw [if_pos (by omega), if_pos (by omega), show ((d.length : Int) != 8) = false from by simp [hd], hk]
          simp [hh, hb, hd]
      · refine Evt.of1 fun k => ?_
        unfold impl_SigsOk.f sigsOk
        rw [if_pos (by omega), if_pos (by omega), show ((d.length : Int) != 8) = true from by simp; omega]
        simp [impl_SigsOk.j0, hd]
    · refine Evt.of1 fun k => ?_
      unfold impl_SigsOk.f sigsOk
      rw [if_pos (by omega), if_neg (by omega)]
      simp [impl_SigsOk.j0, hb]
  · refine Evt.of1 fun k => ?_
    unfold impl_SigsOk.f sigsOk
    rw [if_neg (by omega)]
    simp [impl_SigsOk.j0, hh]

theorem fixed_eq (i : Nat) (hi : i < 100) : spec_l10Fixed.f (wrap64 ((i : Int) + 1)) = some (decide (i = 0) || decide (i = 1)) := by
  unfold spec_l10Fixed.f
  rw [wrap_in (by omega) (by omega)]
  by_cases c0 : i = 0
  · rw [if_pos (by omega)]
    simp [c0]
  · rw [if_neg (by omega)]
    simp only [c0, decide_false, Bool.false_or]
    congr 1
    by_cases c1 : i = 1
    · subst c1
      rfl
    · simp only [c1, decide_false]
      simp
      omega
theorem spec_sok_loop (h b : List Bool) (d : List Int) (hb : b.length = 8) (hd : d.length = 8) : ∀ (e i : Nat), i + e = 8 →
    Evt (fun k => spec_SigsOk.l0 k (i : Int) h b d = some (sAll b d e i)) := by
  intro e
  induction e with
  | zero =>
    intro i hi
    refine Evt.of1 fun k => ?_
    simp only [spec_SigsOk.l0]
    rw [if_neg (by omega)]
    rfl
  | succ e ih =>
    intro i hi
    refine (ih (i + 1) (by omega)).step fun k hk => ?_
    simp only [spec_SigsOk.l0, fixed_eq i (by omega), Option.bind_some]
    rw [nat_succ_wrap (by omega), hk]
    rw [if_pos (by omega), if_pos (by omega), if_pos (by omega)]
    have hbl : (i : Int) < (b.length : Int) := by omega
    simp only [if_pos hbl]
    rw [sAll_succ]
    unfold sOk
    generalize sAll b d e (i + 1) = R
    generalize rd d (i : Int) = v
    generalize rdOf false b (i : Int) = c
    generalize (decide (i = 0) || decide (i = 1)) = x
    clear hk ih hbl hd hb hi
    by_cases v0 : v = 0
    · subst v0; cases x <;> cases c <;> simp
    · by_cases v1 : v = 1
      · subst v1; cases x <;> cases c <;> simp
      · by_cases v4 : v = 4
        · subst v4; cases x <;> cases c <;> simp
        · simp [v0, v1, v4]
theorem spec_sok_ev (h b : List Bool) (d : List Int) : Evt (fun k => spec_SigsOk.f k h b d = some (sigsOk h b d)) := by
  by_cases hh : h.length = 8
  · by_cases hb : b.length = 8
    · by_cases hd : d.length = 8
      · refine ((spec_sok_loop h b d hb hd 8 0 (by omega)).step (Q := fun k => spec_SigsOk.j0 k false h b d = some (sAll b d 8 0)) fun k hk => ?_).imp fun k hk => ?_
        · simp only [spec_SigsOk.j0]
          rw [if_neg (by decide)]
          exact hk
        · unfold spec_SigsOk.f sigsOk
          rw [if_pos (by omega), if_pos (by omega), show ((d.length : Int) != 8) = false from by simp [hd], hk]
          simp [hh, hb, hd]
      · refine Evt.of1 fun k => ?_
        unfold spec_SigsOk.f sigsOk
        rw [if_pos (by omega), if_pos (by omega), show ((d.length : Int) != 8) = true from by simp; omega]
        simp [spec_SigsOk.j0, hd]
    · refine Evt.of1 fun k => ?_
      unfold spec_SigsOk.f sigsOk
      rw [if_pos (by omega), if_neg (by omega)]
      simp [spec_SigsOk.j0, hb]
  · refine Evt.of1 fun k => ?_
    unfold spec_SigsOk.f sigsOk
    rw [if_neg (by omega)]
    simp [spec_SigsOk.j0, hh]

theorem new_eq : spec_SigsNew.f = some (List.replicate 8 false, List.replicate 8 false, List.replicate 8 0) := by
  unfold spec_SigsNew.f
  rw [if_pos (by omega), if_pos (by omega)]
theorem draws_loop {l : List Int} (hl : Bytes l) : ∀ (e i : Nat) (p : Int) (h b : List Bool) (d : List Int), i + e = 8 → h.length = 8 → b.length = 8 → d.length = 8 → 0 ≤ p → p + 3 * e < 800000 →
    ∃ h' b' d' p', Evt (fun k => spec_l92Sigs.l0 k (i : Int) l p h b d = some (h', b', d', p')) ∧ h'.length ≤ 8 ∧ b'.length = 8 ∧ d'.length = 8 ∧ p ≤ p' ∧ p' ≤ p + 3 * e + 3 := by
  intro e
  induction e with
  | zero =>
    intro i p h b d hi hh hb hd h0 h1
    obtain ⟨v, hv, v0, v1, _⟩ := pick_ev hl 24 h0 (by omega)
    by_cases c0 : v = 0
    · obtain ⟨w, hw, w0, w1, _⟩ := pick_ev hl (p := p + 1) 8 (by omega) (by omega)
      obtain ⟨x, hx, _, _, _⟩ := pick_ev hl (p := p + 1 + 1) 6 (by omega) (by omega)
      have w2 := w1 (by omega)
      refine ⟨h, b, d.set w.toNat x, p + 1 + 1 + 1, ((hv.and (hw.and hx)).step fun k hk => ?_), by omega, hb, by simpa using hd, by omega, by omega⟩
      simp only [spec_l92Sigs.l0]
      rw [if_neg (by omega), hk.1]
      simp only [Option.bind_some, if_pos c0]
      rw [hk.2.1]
      simp only [Option.bind_some]
      rw [hk.2.2]
      simp only [Option.bind_some]
      rw [if_pos w0, if_pos (by omega)]
    · by_cases c1 : v = 1
      · obtain ⟨w, hw, w0, w1, _⟩ := pick_ev hl (p := p + 1) 2 (by omega) (by omega)
        have w2 := w1 (by omega)
        refine ⟨h, b.set w.toNat true, d, p + 1 + 1, ((hv.and hw).step fun k hk => ?_), by omega, by simpa using hb, hd, by omega, by omega⟩
        simp only [spec_l92Sigs.l0]
        rw [if_neg (by omega), hk.1]
        simp only [Option.bind_some, if_neg c0, if_pos c1]
        rw [hk.2]
        simp only [Option.bind_some]
        rw [if_pos w0, if_pos (by omega)]
      · by_cases c2 : v = 2
        · refine ⟨h.drop (1 : Int).toNat, b, d, p + 1, (hv.step fun k hk => ?_), by simp; omega, hb, hd, by omega, by omega⟩
          simp only [spec_l92Sigs.l0]
          rw [if_neg (by omega), hk]
          simp only [Option.bind_some, if_neg c0, if_neg c1, if_pos c2]
          rw [if_pos (by omega)]
        · refine ⟨h, b, d, p + 1, (hv.step fun k hk => ?_), by omega, hb, hd, by omega, by omega⟩
          simp only [spec_l92Sigs.l0]
          rw [if_neg (by omega), hk]
          simp only [Option.bind_some, if_neg c0, if_neg c1, if_neg c2]
  | succ e ih =>
    intro i p h b d hi hh hb hd h0 h1
    obtain ⟨v, hv, v0, v1, _⟩ := pick_ev hl 3 h0 (by omega)
    by_cases cf : (decide (i = 0) || decide (i = 1)) = true
    · obtain ⟨h', b', d', p', hr, r1, r2, r3, r4, r5⟩ := ih (i + 1) (p + 1) (h.set i (v == 0)) b d (by omega) (by simpa using hh) hb hd (by omega) (by omega)
      refine ⟨h', b', d', p', ((hv.and hr).step fun k hk => ?_), r1, r2, r3, by omega, by omega⟩
      simp only [spec_l92Sigs.l0]
      rw [if_pos (by omega)]
      refine bind_of hk.1 ?_
      rw [if_pos (by omega), if_pos (by omega)]
      refine bind_of rfl ?_
      refine bind_of (fixed_eq i (by omega)) ?_
      rw [if_pos cf, nat_succ_wrap (by omega)]
      exact hk.2
    · obtain ⟨x, hx, x0, x1, _⟩ := pick_ev hl (p := p + 1) 3 (by omega) (by omega)
      obtain ⟨w, hw, w0, w1, _⟩ := pick_ev hl (p := p + 1 + 1) 4 (by omega) (by omega)
      have w2 := w1 (by omega)
      obtain ⟨h', b', d', p', hr, r1, r2, r3, r4, r5⟩ := ih (i + 1) (p + 1 + 1 + 1) (h.set i (v == 0)) (b.set i (x == 0)) (d.set i (rd [0, 0, 1, 4] w)) (by omega) (by simpa using hh) (by simpa using hb) (by simpa using hd) (by omega) (by omega)
      refine ⟨h', b', d', p', ((hv.and (hx.and (hw.and hr))).step fun k hk => ?_), r1, r2, r3, by omega, by omega⟩
      simp only [spec_l92Sigs.l0]
      rw [if_pos (by omega)]
      refine bind_of hk.1 ?_
      rw [if_pos (by omega), if_pos (by omega)]
      refine bind_of rfl ?_
      refine bind_of (fixed_eq i (by omega)) ?_
      rw [if_neg cf]
      refine bind_of hk.2.1 ?_
      rw [if_pos (by omega)]
      refine bind_of rfl ?_
      refine bind_of hk.2.2.1 ?_
      rw [if_pos w0, if_pos (show w < (([0, 0, 1, 4] : List Int).length : Int) from by simpa using w2), if_pos (by omega), nat_succ_wrap (by omega)]
      exact hk.2.2.2
theorem drawsigs_ev {l : List Int} (hl : Bytes l) {p : Int} (h0 : 0 ≤ p) (h1 : p < 700000) :
    ∃ h b d p', Evt (fun k => spec_l92Sigs.f k l p = some (h, b, d, p')) ∧ h.length ≤ 8 ∧ b.length = 8 ∧ d.length = 8 ∧ p ≤ p' ∧ p' ≤ p + 30 := by
  obtain ⟨h, b, d, p', hr, r1, r2, r3, r4, r5⟩ := draws_loop hl 8 0 p (List.replicate 8 false) (List.replicate 8 false) (List.replicate 8 0) (by omega) (by simp) (by simp) (by simp) h0 (by omega)
  refine ⟨h, b, d, p', hr.imp fun k hk => ?_, r1, r2, r3, r4, by omega⟩
  unfold spec_l92Sigs.f
  rw [new_eq]
  exact hk

theorem drawnext_ev {l : List Int} (hl : Bytes l) : ∃ h b d, Evt (fun k => spec_DrawSigsNext.f k l = some (h, b, d)) ∧ h.length ≤ 8 ∧ b.length = 8 ∧ d.length = 8 := by
  obtain ⟨s, hs, hsb⟩ := open_ev hl
  obtain ⟨h, b, d, p', hdr, r1, r2, r3, _⟩ := drawsigs_ev hsb (p := 0) (by omega) (by omega)
  refine ⟨h, b, d, hdr.imp fun k hk => ?_, r1, r2, r3⟩
  unfold spec_DrawSigsNext.f
  refine bind_of hs ?_
  refine bind_of hk ?_
  rfl

theorem sigsOk_h {h h' b : List Bool} {d : List Int} (k : sigsOk h b d = true) (hl : h'.length = h.length) : sigsOk h' b d = true := by
  obtain ⟨q1, q2, q3, q4⟩ := sigsOk_len k
  simp [sigsOk, hl, q1, q2, q3, q4]
theorem rdOf_set (h : List Bool) (m j : Nat) (v : Bool) (hm : m < h.length) : rdOf false (h.set m v) (j : Int) = if m = j then v else rdOf false h (j : Int) := by
  unfold rdOf
  rw [Int.toNat_natCast, List.getD_eq_getElem?_getD, List.getD_eq_getElem?_getD, List.getElem?_set]
  by_cases c : m = j
  · rw [if_pos c, if_pos c, if_pos (by omega)]
    rfl
  · rw [if_neg c, if_neg c]

theorem sclone_eq (h b : List Bool) (d : List Int) (hh : h.length < 1000000000) (hb : b.length < 1000000000) (hd : d.length < 1000000000) : impl_Sigs_clone.f h b d = some (h, b, d) := by
  unfold impl_Sigs_clone.f slices_Clone_bool_bool.f slices_Clone_int_int.f
  simp only [Option.bind_some]
  rw [if_pos (by simp; omega), if_pos (by simp; omega), if_pos (by simp; omega)]
  simp

def nx (h b : List Bool) : Nat → Nat → Int
  | 0, _ => 0
  | e + 1, i => if rdOf false h (i : Int) = true ∧ rdOf false b (i : Int) = false then (i : Int) + 1 else nx h b e (i + 1)
theorem nx_spec (h b : List Bool) : ∀ (e i : Nat), (nx h b e i = 0 ∧ ∀ j : Nat, i ≤ j → j < i + e → ¬ (rdOf false h (j : Int) = true ∧ rdOf false b (j : Int) = false)) ∨
    (∃ m : Nat, i ≤ m ∧ m < i + e ∧ nx h b e i = (m : Int) + 1 ∧ rdOf false h (m : Int) = true ∧ rdOf false b (m : Int) = false ∧ ∀ j : Nat, i ≤ j → j < m → ¬ (rdOf false h (j : Int) = true ∧ rdOf false b (j : Int) = false))
  | 0, i => .inl ⟨rfl, fun j h1 h2 => by omega⟩
  | e + 1, i => by
    by_cases c : rdOf false h (i : Int) = true ∧ rdOf false b (i : Int) = false
    · exact .inr ⟨i, Nat.le_refl _, by omega, by rw [nx, if_pos c], c.1, c.2, fun j h1 h2 => by omega⟩
    · rcases nx_spec h b e (i + 1) with ⟨h1, h2⟩ | ⟨m, h1, h2, h3, h4, h5, h6⟩
      · refine .inl ⟨by rw [nx, if_neg c, h1], fun j g1 g2 => ?_⟩
        by_cases cj : j = i
        · subst cj; exact c
        · exact h2 j (by omega) (by omega)
      · refine .inr ⟨m, by omega, by omega, by rw [nx, if_neg c, h3], h4, h5, fun j g1 g2 => ?_⟩
        by_cases cj : j = i
        · subst cj; exact c
        · exact h6 j (by omega) g2
theorem first_loop (h b : List Bool) (d : List Int) (hh : h.length = 8) (hb : b.length = 8) : ∀ (e i : Nat), i + e = 8 → Evt (fun k => impl_Sigs_first.l0 k ((i : Int) + 1) h b d = some (nx h b e i)) := by
  intro e
  induction e with
  | zero =>
    intro i hi
    refine Evt.of1 fun k => ?_
    simp only [impl_Sigs_first.l0]
    rw [if_neg (by omega)]
    rfl
  | succ e ih =>
    intro i hi
    refine (ih (i + 1) (by omega)).step fun k hk => ?_
    have e1 : wrap64 ((i : Int) + 1 - 1) = (i : Int) := by rw [wrap_in (by omega) (by omega)]; omega
    have e2 : wrap64 ((i : Int) + 1 + 1) = ((i + 1 : Nat) : Int) + 1 := by rw [wrap_in (by omega) (by omega)]; omega
    simp only [impl_Sigs_first.l0, e1, e2, hk]
    rw [if_pos (by omega), if_pos (by omega), if_pos (by omega), nx]
    by_cases c1 : rdOf false h (i : Int) = true
    · rw [if_pos c1, if_pos (by omega)]
      by_cases c2 : rdOf false b (i : Int) = true
      · rw [if_pos c2, if_neg (by simp [c2])]
      · rw [if_neg c2, if_pos ⟨c1, by simpa using c2⟩]
        rfl
    · rw [if_neg c1, if_neg (fun z => c1 z.1)]

def usualOf (n : Int) : Int := if n = 2 then 2 else if n = 6 then 2 else if n = 3 then 3 else if n = 4 then 1 else if n = 7 then 1 else 0
def sdoes (d : List Int) (n : Int) : Int := if rd d (n - 1) = 0 then usualOf n else rd d (n - 1)
theorem usual_ev (n : Int) : Evt (fun k => impl_usual.f k n = some (usualOf n)) := by
  refine Evt.of1 fun k => ?_
  unfold impl_usual.f usualOf
  simp only [impl_usual.j0]
  by_cases c2 : n = 2
  · rw [if_pos c2, if_pos c2, if_pos (by simpa using c2)]
  · rw [if_neg c2, if_neg c2]
    by_cases c6 : n = 6
    · rw [if_pos (by simpa using c6), if_pos c6]
    · rw [if_neg (by simpa using c6), if_neg c6]
      repeat' split
      all_goals rfl
theorem does_ev (h b : List Bool) (d : List Int) (hd : d.length = 8) (m : Nat) (hm : m < 8) : Evt (fun k => impl_Sigs_does.f k h b d ((m : Int) + 1) = some (sdoes d ((m : Int) + 1))) := by
  refine (usual_ev ((m : Int) + 1)).imp fun k hk => ?_
  have e1 : wrap64 ((m : Int) + 1 - 1) = (m : Int) := by rw [wrap_in (by omega) (by omega)]; omega
  unfold impl_Sigs_does.f sdoes
  rw [e1, if_pos (by omega), if_pos (by omega), show (m : Int) + 1 - 1 = m by omega]
  by_cases c : rd d (m : Int) = 0
  · rw [if_pos c, if_pos c]
    refine bind_of hk ?_
    rfl
  · rw [if_neg c, if_neg c]

def sigsNext (h b : List Bool) (d : List Int) : List Bool × List Bool × List Int × Int × Int × Bool :=
  if sigsOk h b d = true then (if nx h b 8 0 = 0 then (h, b, d, 0, 1, false) else (h.set (nx h b 8 0 - 1).toNat false, b, d, nx h b 8 0, sdoes d (nx h b 8 0), true)) else ([], [], [], 0, 1, false)
theorem impl_next_ev (h b : List Bool) (d : List Int) : Evt (fun k => impl_SigsNext.f k h b d = some (sigsNext h b d)) := by
  have hs := impl_sok_ev h b d
  cases hok : sigsOk h b d with
  | false =>
    rw [hok] at hs
    refine hs.imp fun k hk => ?_
    unfold impl_SigsNext.f sigsNext
    refine bind_of hk ?_
    rw [if_neg (by decide), if_neg (by simp [hok])]
  | true =>
    obtain ⟨q1, q2, q3, _⟩ := sigsOk_len hok
    rw [hok] at hs
    have hf := first_loop h b d q1 q2 8 0 (by omega)
    rcases nx_spec h b 8 0 with ⟨n1, _⟩ | ⟨m, n1, n2, n3, _⟩
    · refine (hs.and hf).imp fun k hk => ?_
      unfold impl_SigsNext.f sigsNext impl_Sigs_first.f
      refine bind_of hk.1 ?_
      rw [if_pos rfl, if_pos hok]
      refine bind_of (sclone_eq h b d (by omega) (by omega) (by omega)) ?_
      refine bind_of hk.2 ?_
      rw [if_pos n1, if_pos n1]
    · refine ((hs.and hf).and (does_ev h b d q3 m (by omega))).imp fun k hk => ?_
      have e1 : wrap64 ((m : Int) + 1 - 1) = (m : Int) := by rw [wrap_in (by omega) (by omega)]; omega
      unfold impl_SigsNext.f sigsNext impl_Sigs_first.f
      refine bind_of hk.1.1 ?_
      rw [if_pos rfl, if_pos hok]
      refine bind_of (sclone_eq h b d (by omega) (by omega) (by omega)) ?_
      refine bind_of hk.1.2 ?_
      rw [n3, if_neg (show ¬ ((m : Int) + 1 = 0) by omega), if_neg (show ¬ ((m : Int) + 1 = 0) by omega), e1, if_pos (by omega), if_pos (by simpa [q1] using (show (m : Int) < 8 by omega))]
      refine bind_of hk.2 ?_
      rw [show (m : Int) + 1 - 1 = m by omega]

theorem nx_zero {h b : List Bool} (hn : ∀ j : Nat, j < 8 → ¬ (rdOf false h (j : Int) = true ∧ rdOf false b (j : Int) = false)) : nx h b 8 0 = 0 := by
  rcases nx_spec h b 8 0 with ⟨n1, _⟩ | ⟨m, n1, n2, n3, n4, n5, _⟩
  · exact n1
  · exact absurd ⟨n4, n5⟩ (hn m (by omega))
theorem nx_at {h b : List Bool} {i : Nat} (hi : i < 8) (hn : ∀ j : Nat, j < i → ¬ (rdOf false h (j : Int) = true ∧ rdOf false b (j : Int) = false)) (h1 : rdOf false h (i : Int) = true) (h2 : rdOf false b (i : Int) = false) : nx h b 8 0 = (i : Int) + 1 := by
  rcases nx_spec h b 8 0 with ⟨_, n2⟩ | ⟨m, n1, n2, n3, n4, n5, n6⟩
  · exact absurd ⟨h1, h2⟩ (n2 i (by omega) (by omega))
  · have e : m = i := by
      by_cases c1 : m < i
      · exact absurd ⟨n4, n5⟩ (hn m c1)
      · by_cases c2 : i < m
        · exact absurd ⟨h1, h2⟩ (n6 i (by omega) c2)
        · omega
    rw [n3, e]
theorem drain_loop (h b : List Bool) (d : List Int) (hok : sigsOk h b d = true) : ∀ (e i : Nat), i + e = 8 → ∀ x : List Bool, x.length = 8 → (∀ j : Nat, j < i → ¬ (rdOf false x (j : Int) = true ∧ rdOf false b (j : Int) = false)) → (∀ j : Nat, i ≤ j → rdOf false x (j : Int) = rdOf false h (j : Int)) →
    Evt (fun k => laws_FnSigsDrain.l0 k ((i : Int) + 1) h b d x b d = some true) := by
  obtain ⟨q1, q2, q3, q4⟩ := sigsOk_len hok
  intro e
  induction e with
  | zero =>
    intro i hi x hx hn hs
    have okx : sigsOk x b d = true := sigsOk_h hok (by omega)
    have h1 := impl_next_ev x b d
    rw [sigsNext, if_pos okx, if_pos (nx_zero (fun j hj => hn j (by omega)))] at h1
    refine h1.step fun k hk => ?_
    simp only [laws_FnSigsDrain.l0]
    rw [if_neg (by omega)]
    exact bind_of hk rfl
  | succ e ih =>
    intro i hi x hx hn hs
    have okx : sigsOk x b d = true := sigsOk_h hok (by omega)
    have e1 : wrap64 ((i : Int) + 1 - 1) = (i : Int) := by rw [wrap_in (by omega) (by omega)]; omega
    have e2 : wrap64 ((i : Int) + 1 + 1) = ((i + 1 : Nat) : Int) + 1 := by rw [wrap_in (by omega) (by omega)]; omega
    have jump : ∀ v : Bool, v = (rdOf false h (i : Int) && !(rdOf false b (i : Int))) → Evt (fun k => laws_FnSigsDrain.j2 k ((i : Int) + 1) v h b d x b d = some true) := by
      intro v hv
      by_cases c : rdOf false h (i : Int) = true ∧ rdOf false b (i : Int) = false
      · have hv2 : v = true := by rw [hv, c.1, c.2]; rfl
        subst hv2
        have hx1 : rdOf false x (i : Int) = true := (hs i (Nat.le_refl _)).trans c.1
        have hnx := nx_at (by omega) hn hx1 c.2
        have h1 := impl_next_ev x b d
        rw [sigsNext, if_pos okx, hnx, if_neg (by omega), show ((i : Int) + 1 - 1).toNat = i by omega] at h1
        have h2 := ih (i + 1) (by omega) (x.set i false) (by simpa using hx) (fun j hj => by
          rw [rdOf_set x i j false (by omega)]
          by_cases cj : i = j
          · rw [if_pos cj]; simp
          · rw [if_neg cj]; exact hn j (by omega)) (fun j hj => by
          rw [rdOf_set x i j false (by omega), if_neg (by omega)]
          exact hs j (by omega))
        refine (h1.and h2).step fun k hk => ?_
        simp only [laws_FnSigsDrain.j2]
        rw [if_pos trivial]
        refine bind_of hk.1 ?_
        rw [if_pos rfl, if_pos rfl, e2]
        exact hk.2
      · have hv2 : v = false := by
          rw [hv]
          cases c1 : rdOf false h (i : Int)
          · rfl
          · cases c2 : rdOf false b (i : Int)
            · exact absurd ⟨c1, c2⟩ c
            · rfl
        subst hv2
        have h2 := ih (i + 1) (by omega) x hx (fun j hj => by
          by_cases cj : j = i
          · subst cj; rw [hs j (Nat.le_refl _)]; exact c
          · exact hn j (by omega)) (fun j hj => hs j (by omega))
        refine h2.step fun k hk => ?_
        simp only [laws_FnSigsDrain.j2]
        rw [if_neg (by decide), e2]
        exact hk
    by_cases c1 : rdOf false h (i : Int) = true
    · refine (jump (!(rdOf false b (i : Int))) (by rw [c1]; rfl)).step fun k hk => ?_
      simp only [laws_FnSigsDrain.l0, e1]
      rw [if_pos (by omega), if_pos (by omega), if_pos (by omega), if_pos c1, if_pos (by omega)]
      exact hk
    · refine (jump false (by rw [show rdOf false h (i : Int) = false by simpa using c1]; rfl)).step fun k hk => ?_
      simp only [laws_FnSigsDrain.l0, e1]
      rw [if_pos (by omega), if_pos (by omega), if_pos (by omega), if_neg c1]
      exact hk
theorem FnSigsDrain : laws_FnSigsDrain.Pure := by
  intro l0 _ _ hb0
  by_cases hlen : (l0.length : Int) > 1048576
  · exact ⟨0, by unfold laws_FnSigsDrain.f; rw [if_pos hlen]⟩
  obtain ⟨h, b, d, hdr, r1, r2, r3⟩ := drawnext_ev (bytes_of hb0)
  have h1 := impl_sok_ev h b d
  have h2 := spec_sok_ev h b d
  have hj : Evt (fun k => laws_FnSigsDrain.j0 k (sigsOk h b d) (!(sigsOk h b d)) h b d = some true) := by
    cases hok : sigsOk h b d with
    | false =>
      rw [hok] at h2
      refine h2.step fun k hk => ?_
      simp only [laws_FnSigsDrain.j0]
      rw [if_pos (by decide)]
      exact bind_of hk rfl
    | true =>
      obtain ⟨q1, _⟩ := sigsOk_len hok
      refine (drain_loop h b d hok 8 0 (by omega) h q1 (fun j hj => absurd hj (by omega)) (fun j _ => rfl)).step fun k hk => ?_
      simp only [laws_FnSigsDrain.j0]
      rw [if_neg (by decide)]
      exact hk
  refine Evt.some_ (((hdr.and h1).and (h2.and hj)).imp fun k hk => ?_)
  obtain ⟨⟨k1, k2⟩, k3, k4⟩ := hk
  unfold laws_FnSigsDrain.f
  rw [if_neg hlen]
  refine bind_of k1 ?_
  refine bind_of k2 ?_
  refine bind_of k3 ?_
  rw [if_neg (by simp)]
  exact k4

end Go.Proofs.Ytiifanjjohophaa.Pure
