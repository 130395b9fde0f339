/- Proved: for every code, the law FnSigsRun answers true and leaves its argument as it was (nothing is caught behind running another program). No condition beyond the row's own. -/
import Derived.Test.YtiifanjjohophaaPFnSigsRunx13
import Derived.Test.YtiifanjjohophaaAuxFnSigsRun
namespace Go.Proofs.Ytiifanjjohophaa.Pure
open Go.RowKit Go.Proofs.Ytiifanjjohophaa.PFnSigsRun Go.Proofs.YtiifanjjohophaaW.PrintWords Go.Proofs.YtiifanjjohophaaW.PrintLast Go.Proofs.YtiifanjjohophaaW.PrintMore Go.Proofs.Ytiifanjjohophaa.Aux
set_option linter.unusedVariables false
set_option linter.unusedSimpArgs false
theorem pick_ev {l : List Int} (hl : Bytes l) {p : Int} (n : Int) (h0 : 0 ≤ p) (h1 : p < 1000000) :
    ∃ v, Evt (fun k => spec_l6Rd_pick.f k l p n = some (v, p + 1)) ∧ 0 ≤ v ∧ (1 ≤ n → v < n) ∧ (n < 1 → v = 0) := by
  have e1 : wrap64 (p + 1) = p + 1 := wrap_in (by omega) (by omega)
  have e2 : wrap64 (p + 1 - 1) = p := by rw [Int.add_sub_cancel]; exact wrap_in (by omega) (by omega)
  by_cases hn : n < 1
  · refine ⟨0, Evt.of1 fun k => ?_, by omega, by omega, fun _ => rfl⟩
    unfold spec_l6Rd_pick.f
    rw [if_pos hn, e1]
    simp only [spec_l6Rd_pick.j0, if_true]
  · by_cases hz : l.length = 0
    · refine ⟨0, Evt.of1 fun k => ?_, by omega, by omega, fun _ => rfl⟩
      unfold spec_l6Rd_pick.f
      have hz' : ((l.length : Int) == 0) = true := by simp [hz]
      rw [if_neg hn, e1, hz']
      simp only [spec_l6Rd_pick.j0, if_true]
    · have hz' : ((l.length : Int) == 0) = false := by simpa using hz
      have hlen : (0 : Int) < (l.length : Int) := by omega
      by_cases hlt : p < (l.length : Int)
      · have hr := rd_byte hl p
        have hr2 : wrap64 (rd l p) = rd l p := wrap_in (by omega) (by omega)
        have ht := tmod_range (a := rd l p) (n := n) (by omega) (by omega)
        refine ⟨Int.tmod (rd l p) n, Evt.of1 fun k => ?_, ht.1, fun _ => ht.2, fun h => by omega⟩
        unfold spec_l6Rd_pick.f
        rw [if_neg hn, e1, hz']
        simp only [spec_l6Rd_pick.j0]
        rw [e2, if_neg (by decide), if_pos hlt, if_pos h0, if_neg (by omega), hr2]
      · have e3 : wrap64 (wrap64 (p * 7) + 3) = p * 7 + 3 := by
          rw [wrap_in (n := p * 7) (by omega) (by omega)]
          exact wrap_in (by omega) (by omega)
        have ta := tmod_range (a := p) (n := (l.length : Int)) h0 hlen
        have tb := tmod_range (a := p * 7 + 3) (n := (l.length : Int)) (by omega) hlen
        have td := tdiv_range (a := p) (n := (l.length : Int)) h0 hlen
        have ra := rd_byte hl (Int.tmod p (l.length : Int))
        have rb := rd_byte hl (Int.tmod (p * 7 + 3) (l.length : Int))
        obtain ⟨x, hx, x0, x1⟩ := mix_range ra.1 ra.2 rb.1 rb.2 h0 (by omega) td.1 td.2
        have xd := tdiv_range (a := x) (n := 64) x0 (by decide)
        have xw : wrap64 (Int.tdiv x 64) = Int.tdiv x 64 := wrap_in (by omega) (by omega)
        have xx := xor_range (a := x) (b := Int.tdiv x 64) x0 x1 xd.1 (by omega)
        have tv := tmod_range (a := Go.bits .xor .i64 x (Int.tdiv x 64)) (n := n) xx.1 (by omega)
        refine ⟨Int.tmod (Go.bits .xor .i64 x (Int.tdiv x 64)) n, Evt.of1 fun k => ?_, tv.1, fun _ => tv.2, fun h => by omega⟩
        unfold spec_l6Rd_pick.f
        rw [if_neg hn, e1, hz']
        simp only [spec_l6Rd_pick.j0]
        rw [e2, e3, if_neg (by decide), if_neg hlt, if_neg (by omega), if_pos ta.1, if_pos ta.2, if_pos tb.1, if_pos tb.2, if_neg (by omega), hx, xw]
theorem open_ev {l : List Int} (hl : Bytes l) : ∃ s, spec_l6Open.f l = some (s, 0) ∧ Bytes s := by
  unfold spec_l6Open.f
  by_cases h : (l.length : Int) > 2000
  · exact ⟨l.take 2000, by rw [if_pos h, if_pos (by omega)], hl.take _⟩
  · exact ⟨l, by rw [if_neg h], hl⟩

def sOk (b : List Bool) (d : List Int) (i : Nat) : Bool :=
  (decide (rd d i = 0) || (decide (rd d i = 1) || decide (rd d i = 4))) && !((decide (i = 0) || decide (i = 1)) && (rdOf false b i || !decide (rd d i = 0)))
def sAll (b : List Bool) (d : List Int) : Nat → Nat → Bool
  | 0, _ => true
  | e + 1, i => sOk b d i && sAll b d e (i + 1)
theorem sAll_succ (b : List Bool) (d : List Int) (e i : Nat) : sAll b d (e + 1) i = (sOk b d i && sAll b d e (i + 1)) := rfl
def sigsOk (h b : List Bool) (d : List Int) : Bool := decide (h.length = 8) && (decide (b.length = 8) && (decide (d.length = 8) && sAll b d 8 0))
theorem sigsOk_len {h b : List Bool} {d : List Int} (k : sigsOk h b d = true) : h.length = 8 ∧ b.length = 8 ∧ d.length = 8 ∧ sAll b d 8 0 = true := by
  simpa [sigsOk] using k
theorem succ_is {i : Nat} (hi : i < 100) (n : Int) : wrap64 ((i : Int) + 1) = n ↔ (i : Int) + 1 = n := by rw [wrap_in (by omega) (by omega)]
theorem impl_sok_loop (h b : List Bool) (d : List Int) (hb : b.length = 8) (hd : d.length = 8) : ∀ (e i : Nat), i + e = 8 →
    Evt (fun k => impl_SigsOk.l0 k d (d.length : Int) (i : Int) h b d = some (sAll b d e i)) := by
  intro e
  induction e with
  | zero =>
    intro i hi
    refine Evt.of1 fun k => ?_
    simp only [impl_SigsOk.l0]
    rw [if_neg (by omega)]
    rfl
  | succ e ih =>
    intro i hi
    refine (ih (i + 1) (by omega)).step fun k hk => ?_
    have n1 : ((i : Int) + 1 = 1) ↔ i = 0 := by omega
    have n2 : ((i : Int) + 1 = 2) ↔ i = 1 := by omega
    simp only [impl_SigsOk.l0, succ_is (i := i) (by omega)]
    rw [nat_succ_wrap (by omega), hk]
    rw [if_pos (by omega), if_pos (by omega), if_pos (by omega)]
    have hbl : (i : Int) < (b.length : Int) := by omega
    simp only [if_pos hbl, n1, n2]
    rw [sAll_succ]
    unfold sOk
    generalize sAll b d e (i + 1) = R
    generalize rd d (i : Int) = v
    generalize rdOf false b (i : Int) = c
    clear hk ih hbl hd hb hi n1 n2
    by_cases c0 : i = 0
    · subst c0
      by_cases v0 : v = 0
      · subst v0; cases c <;> simp
      · by_cases v1 : v = 1
        · subst v1; cases c <;> simp
        · by_cases v4 : v = 4
          · subst v4; cases c <;> simp
          · simp [v0, v1, v4]
    · by_cases c1 : i = 1
      · subst c1
        by_cases v0 : v = 0
        · subst v0; cases c <;> simp
        · by_cases v1 : v = 1
          · subst v1; cases c <;> simp
          · by_cases v4 : v = 4
            · subst v4; cases c <;> simp
            · simp [v0, v1, v4]
      · by_cases v0 : v = 0
        · subst v0; simp [c0, c1]
        · by_cases v1 : v = 1
          · subst v1; simp [c0, c1]
          · by_cases v4 : v = 4
            · subst v4; simp [c0, c1]
            · simp [c0, v0, v1, v4]
theorem impl_sok_ev (h b : List Bool) (d : List Int) : Evt (fun k => impl_SigsOk.f k h b d = some (sigsOk h b d)) := by
  by_cases hh : h.length = 8
  · by_cases hb : b.length = 8
    · by_cases hd : d.length = 8
      · refine ((impl_sok_loop h b d hb hd 8 0 (by omega)).step (Q := fun k => impl_SigsOk.j0 k false h b d = some (sAll b d 8 0)) fun k hk => ?_).imp fun k hk => ?_
        · simp only [impl_SigsOk.j0]
          rw [if_neg (by decide)]
          exact hk
        · unfold impl_SigsOk.f sigsOk
          rw [if_pos (by omega), if_pos (by omega), show ((d.length : Int) != 8) = false from by simp [hd], hk]
          simp [hh, hb, hd]
      · refine Evt.of1 fun k => ?_
        unfold impl_SigsOk.f sigsOk
        rw [if_pos (by omega), if_pos (by omega), show ((d.length : Int) != 8) = true from by simp; omega]
        simp [impl_SigsOk.j0, hd]
    · refine Evt.of1 fun k => ?_
      unfold impl_SigsOk.f sigsOk
      rw [if_pos (by omega), if_neg (by omega)]
      simp [impl_SigsOk.j0, hb]
  · refine Evt.of1 fun k => ?_
    unfold impl_SigsOk.f sigsOk
    rw [if_neg (by omega)]
    simp [impl_SigsOk.j0, hh]

theorem fixed_eq (i : Nat) (hi : i < 100) : spec_l10Fixed.f (wrap64 ((i : Int) + 1)) = some (decide (i = 0) || decide (i = 1)) := by
  unfold spec_l10Fixed.f
  rw [wrap_in (by omega) (by omega)]
  by_cases c0 : i = 0
  · rw [if_pos (by omega)]
    simp [c0]
  · rw [if_neg (by omega)]
    simp only [c0, decide_false, Bool.false_or]
    congr 1
    by_cases c1 : i = 1
    · subst c1
      rfl
    · simp only [c1, decide_false]
      simp
      omega
theorem spec_sok_loop (h b : List Bool) (d : List Int) (hb : b.length = 8) (hd : d.length = 8) : ∀ (e i : Nat), i + e = 8 →
    Evt (fun k => spec_SigsOk.l0 k (i : Int) h b d = some (sAll b d e i)) := by
  intro e
  induction e with
  | zero =>
    intro i hi
    refine Evt.of1 fun k => ?_
    simp only [spec_SigsOk.l0]
    rw [if_neg (by omega)]
    rfl
  | succ e ih =>
    intro i hi
    refine (ih (i + 1) (by omega)).step fun k hk => ?_
    simp only [spec_SigsOk.l0, fixed_eq i (by omega), Option.bind_some]
    rw [nat_succ_wrap (by omega), hk]
    rw [if_pos (by omega), if_pos (by omega), if_pos (by omega)]
    have hbl : (i : Int) < (b.length : Int) := by omega
    simp only [if_pos hbl]
    rw [sAll_succ]
    unfold sOk
    generalize sAll b d e (i + 1) = R
    generalize rd d (i : Int) = v
    generalize rdOf false b (i : Int) = c
    generalize (decide (i = 0) || decide (i = 1)) = x
    clear hk ih hbl hd hb hi
    by_cases v0 : v = 0
    · subst v0; cases x <;> cases c <;> simp
    · by_cases v1 : v = 1
      · subst v1; cases x <;> cases c <;> simp
      · by_cases v4 : v = 4
        · subst v4; cases x <;> cases c <;> simp
        · simp [v0, v1, v4]
theorem spec_sok_ev (h b : List Bool) (d : List Int) : Evt (fun k => spec_SigsOk.f k h b d = some (sigsOk h b d)) := by
  by_cases hh : h.length = 8
  · by_cases hb : b.length = 8
    · by_cases hd : d.length = 8
      · refine ((spec_sok_loop h b d hb hd 8 0 (by omega)).step (Q := fun k => spec_SigsOk.j0 k false h b d = some (sAll b d 8 0)) fun k hk => ?_).imp fun k hk => ?_
        · simp only [spec_SigsOk.j0]
          rw [if_neg (by decide)]
          exact hk
        · unfold spec_SigsOk.f sigsOk
          rw [if_pos (by omega), if_pos (by omega), show ((d.length : Int) != 8) = false from by simp [hd], hk]
          simp [hh, hb, hd]
      · refine Evt.of1 fun k => ?_
        unfold spec_SigsOk.f sigsOk
        rw [if_pos (by omega), if_pos (by omega), show ((d.length : Int) != 8) = true from by simp; omega]
        simp [spec_SigsOk.j0, hd]
    · refine Evt.of1 fun k => ?_
      unfold spec_SigsOk.f sigsOk
      rw [if_pos (by omega), if_neg (by omega)]
      simp [spec_SigsOk.j0, hb]
  · refine Evt.of1 fun k => ?_
    unfold spec_SigsOk.f sigsOk
    rw [if_neg (by omega)]
    simp [spec_SigsOk.j0, hh]

theorem sclone_eq (h b : List Bool) (d : List Int) (hh : h.length < 1000000000) (hb : b.length < 1000000000) (hd : d.length < 1000000000) : impl_Sigs_clone.f h b d = some (h, b, d) := by
  unfold impl_Sigs_clone.f slices_Clone_bool_bool.f slices_Clone_int_int.f
  simp only [Option.bind_some]
  rw [if_pos (by simp; omega), if_pos (by simp; omega), if_pos (by simp; omega)]
  simp
theorem scopy_eq (h b : List Bool) (d : List Int) (hh : h.length < 1000000000) (hb : b.length < 1000000000) (hd : d.length < 1000000000) : spec_l10Copy.f h b d = some (h, b, d) := by
  unfold spec_l10Copy.f
  simp only [Option.bind_some]
  rw [if_pos (by simp; omega), if_pos (by simp; omega), if_pos (by simp; omega)]
  simp

theorem qdints_loop (a : List Int) (ha : a.length < 1000000000) : ∀ (d i : Nat), i + d = a.length → Evt (fun k => laws_qdInts.l0 k a a (i : Int) = some true) := by
  intro d
  induction d with
  | zero =>
    intro i hi
    refine Evt.of1 fun k => ?_
    simp only [laws_qdInts.l0]
    rw [if_neg (by omega)]
  | succ d ih =>
    intro i hi
    refine (ih (i + 1) (by omega)).step fun k hk => ?_
    simp only [laws_qdInts.l0]
    rw [if_pos (by omega), if_pos (by omega), if_pos (by omega), if_pos trivial, nat_succ_wrap (by omega)]
    exact hk
theorem qdints_refl (a : List Int) (ha : a.length < 1000000000) : Evt (fun k => laws_qdInts.f k a a = some true) := by
  refine (qdints_loop a ha a.length 0 (by omega)).imp fun k hk => ?_
  unfold laws_qdInts.f
  rw [if_pos rfl]
  exact hk

theorem qdbools_loop (a : List Bool) (ha : a.length < 1000000000) : ∀ (d i : Nat), i + d = a.length → Evt (fun k => laws_qdBools.l0 k a a (i : Int) = some true) := by
  intro d
  induction d with
  | zero =>
    intro i hi
    refine Evt.of1 fun k => ?_
    simp only [laws_qdBools.l0]
    rw [if_neg (by omega)]
  | succ d ih =>
    intro i hi
    refine (ih (i + 1) (by omega)).step fun k hk => ?_
    simp only [laws_qdBools.l0]
    rw [if_pos (by omega), if_pos (by omega), if_pos (by omega), if_neg (by simp), nat_succ_wrap (by omega)]
    exact hk
theorem qdbools_refl (a : List Bool) (ha : a.length < 1000000000) : Evt (fun k => laws_qdBools.f k a a = some true) := by
  refine (qdbools_loop a ha a.length 0 (by omega)).imp fun k hk => ?_
  unfold laws_qdBools.f
  rw [if_pos rfl]
  exact hk
theorem qdsigs_refl (h b : List Bool) (d : List Int) (hh : h.length < 1000000000) (hb : b.length < 1000000000) (hd : d.length < 1000000000) : Evt (fun k => laws_qdSigs.f k h b d h b d = some true) := by
  refine ((qdbools_refl h hh).and ((qdbools_refl b hb).and (qdints_refl d hd))).imp fun k hk => ?_
  unfold laws_qdSigs.f
  rw [hk.1]
  simp only [Option.bind_some, if_true]
  rw [hk.2.1]
  simp only [Option.bind_some, if_true]
  rw [hk.2.2]
  rfl

theorem new_eq : spec_SigsNew.f = some (List.replicate 8 false, List.replicate 8 false, List.replicate 8 0) := by
  unfold spec_SigsNew.f
  rw [if_pos (by omega), if_pos (by omega)]
theorem draws_loop {l : List Int} (hl : Bytes l) : ∀ (e i : Nat) (p : Int) (h b : List Bool) (d : List Int), i + e = 8 → h.length = 8 → b.length = 8 → d.length = 8 → 0 ≤ p → p + 3 * e < 800000 →
    ∃ h' b' d' p', Evt (fun k => spec_l92Sigs.l0 k (i : Int) l p h b d = some (h', b', d', p')) ∧ h'.length ≤ 8 ∧ b'.length = 8 ∧ d'.length = 8 ∧ p ≤ p' ∧ p' ≤ p + 3 * e + 3 := by
  intro e
  induction e with
  | zero =>
    intro i p h b d hi hh hb hd h0 h1
    obtain ⟨v, hv, v0, v1, _⟩ := pick_ev hl 24 h0 (by omega)
    by_cases c0 : v = 0
    · obtain ⟨w, hw, w0, w1, _⟩ := pick_ev hl (p := p + 1) 8 (by omega) (by omega)
      obtain ⟨x, hx, _, _, _⟩ := pick_ev hl (p := p + 1 + 1) 6 (by omega) (by omega)
      have w2 := w1 (by omega)
      refine ⟨h, b, d.set w.toNat x, p + 1 + 1 + 1, ((hv.and (hw.and hx)).step fun k hk => ?_), by omega, hb, by simpa using hd, by omega, by omega⟩
      simp only [spec_l92Sigs.l0]
      rw [if_neg (by omega), hk.1]
      simp only [Option.bind_some, if_pos c0]
      rw [hk.2.1]
      simp only [Option.bind_some]
      rw [hk.2.2]
      simp only [Option.bind_some]
      rw [if_pos w0, if_pos (by omega)]
    · by_cases c1 : v = 1
      · obtain ⟨w, hw, w0, w1, _⟩ := pick_ev hl (p := p + 1) 2 (by omega) (by omega)
        have w2 := w1 (by omega)
        refine ⟨h, b.set w.toNat true, d, p + 1 + 1, ((hv.and hw).step fun k hk => ?_), by omega, by simpa using hb, hd, by omega, by omega⟩
        simp only [spec_l92Sigs.l0]
        rw [if_neg (by omega), hk.1]
        simp only [Option.bind_some, if_neg c0, if_pos c1]
        rw [hk.2]
        simp only [Option.bind_some]
        rw [if_pos w0, if_pos (by omega)]
      · by_cases c2 : v = 2
        · refine ⟨h.drop (1 : Int).toNat, b, d, p + 1, (hv.step fun k hk => ?_), by simp; omega, hb, hd, by omega, by omega⟩
          simp only [spec_l92Sigs.l0]
          rw [if_neg (by omega), hk]
          simp only [Option.bind_some, if_neg c0, if_neg c1, if_pos c2]
          rw [if_pos (by omega)]
        · refine ⟨h, b, d, p + 1, (hv.step fun k hk => ?_), by omega, hb, hd, by omega, by omega⟩
          simp only [spec_l92Sigs.l0]
          rw [if_neg (by omega), hk]
          simp only [Option.bind_some, if_neg c0, if_neg c1, if_neg c2]
  | succ e ih =>
    intro i p h b d hi hh hb hd h0 h1
    obtain ⟨v, hv, v0, v1, _⟩ := pick_ev hl 3 h0 (by omega)
    by_cases cf : (decide (i = 0) || decide (i = 1)) = true
    · obtain ⟨h', b', d', p', hr, r1, r2, r3, r4, r5⟩ := ih (i + 1) (p + 1) (h.set i (v == 0)) b d (by omega) (by simpa using hh) hb hd (by omega) (by omega)
      refine ⟨h', b', d', p', ((hv.and hr).step fun k hk => ?_), r1, r2, r3, by omega, by omega⟩
      simp only [spec_l92Sigs.l0]
      rw [if_pos (by omega)]
      refine bind_of hk.1 ?_
      rw [if_pos (by omega), if_pos (by omega)]
      refine bind_of rfl ?_
      refine bind_of (fixed_eq i (by omega)) ?_
      rw [if_pos cf, nat_succ_wrap (by omega)]
      exact hk.2
    · obtain ⟨x, hx, x0, x1, _⟩ := pick_ev hl (p := p + 1) 3 (by omega) (by omega)
      obtain ⟨w, hw, w0, w1, _⟩ := pick_ev hl (p := p + 1 + 1) 4 (by omega) (by omega)
      have w2 := w1 (by omega)
      obtain ⟨h', b', d', p', hr, r1, r2, r3, r4, r5⟩ := ih (i + 1) (p + 1 + 1 + 1) (h.set i (v == 0)) (b.set i (x == 0)) (d.set i (rd [0, 0, 1, 4] w)) (by omega) (by simpa using hh) (by simpa using hb) (by simpa using hd) (by omega) (by omega)
      refine ⟨h', b', d', p', ((hv.and (hx.and (hw.and hr))).step fun k hk => ?_), r1, r2, r3, by omega, by omega⟩
      simp only [spec_l92Sigs.l0]
      rw [if_pos (by omega)]
      refine bind_of hk.1 ?_
      rw [if_pos (by omega), if_pos (by omega)]
      refine bind_of rfl ?_
      refine bind_of (fixed_eq i (by omega)) ?_
      rw [if_neg cf]
      refine bind_of hk.2.1 ?_
      rw [if_pos (by omega)]
      refine bind_of rfl ?_
      refine bind_of hk.2.2.1 ?_
      rw [if_pos w0, if_pos (show w < (([0, 0, 1, 4] : List Int).length : Int) from by simpa using w2), if_pos (by omega), nat_succ_wrap (by omega)]
      exact hk.2.2.2
theorem drawsigs_ev {l : List Int} (hl : Bytes l) {p : Int} (h0 : 0 ≤ p) (h1 : p < 700000) :
    ∃ h b d p', Evt (fun k => spec_l92Sigs.f k l p = some (h, b, d, p')) ∧ h.length ≤ 8 ∧ b.length = 8 ∧ d.length = 8 ∧ p ≤ p' ∧ p' ≤ p + 30 := by
  obtain ⟨h, b, d, p', hr, r1, r2, r3, r4, r5⟩ := draws_loop hl 8 0 p (List.replicate 8 false) (List.replicate 8 false) (List.replicate 8 0) (by omega) (by simp) (by simp) (by simp) h0 (by omega)
  refine ⟨h, b, d, p', hr.imp fun k hk => ?_, r1, r2, r3, r4, by omega⟩
  unfold spec_l92Sigs.f
  rw [new_eq]
  exact hk

theorem rdI_set (c : List Int) (a j : Nat) (v : Int) (ha : a < c.length) : rd (c.set a v) (j : Int) = if a = j then v else rd c (j : Int) := by
  rw [rd_nat, rd_nat, List.getD_eq_getElem?_getD, List.getD_eq_getElem?_getD, List.getElem?_set]
  by_cases h : a = j
  · rw [if_pos h, if_pos h, if_pos (by omega)]; rfl
  · rw [if_neg h, if_neg h]
def runF : Nat → Nat → List Int → List Int
  | 0, _, d => d
  | e + 1, i, d => if rd d (i : Int) = 4 then runF e (i + 1) (d.set i 0) else runF e (i + 1) d
theorem runF_len : ∀ (e i : Nat) (d : List Int), (runF e i d).length = d.length
  | 0, _, _ => rfl
  | e + 1, i, d => by
    unfold runF
    split
    · rw [runF_len e (i + 1), List.length_set]
    · exact runF_len e (i + 1) d
theorem runF_get : ∀ (e i : Nat) (d : List Int), i + e ≤ d.length → ∀ j : Nat, rd (runF e i d) (j : Int) = if i ≤ j ∧ j < i + e ∧ rd d (j : Int) = 4 then 0 else rd d (j : Int)
  | 0, i, d, _, j => by rw [if_neg (by omega)]; rfl
  | e + 1, i, d, h, j => by
    unfold runF
    by_cases c : rd d (i : Int) = 4
    · rw [if_pos c, runF_get e (i + 1) _ (by simp; omega) j, rdI_set d i j 0 (by omega)]
      by_cases cj : i = j
      · subst cj
        rw [if_pos rfl, if_neg (by omega), if_pos ⟨by omega, by omega, c⟩]
      · rw [if_neg cj]
        by_cases c2 : i + 1 ≤ j ∧ j < i + 1 + e ∧ rd d (j : Int) = 4
        · rw [if_pos c2, if_pos ⟨by omega, by omega, c2.2.2⟩]
        · rw [if_neg c2, if_neg (fun z => c2 ⟨by omega, by omega, z.2.2⟩)]
    · rw [if_neg c, runF_get e (i + 1) d (by omega) j]
      by_cases c2 : i + 1 ≤ j ∧ j < i + 1 + e ∧ rd d (j : Int) = 4
      · rw [if_pos c2, if_pos ⟨by omega, by omega, c2.2.2⟩]
      · rw [if_neg c2, if_neg (fun z => by
          by_cases cj : i = j
          · subst cj; exact c z.2.2
          · exact c2 ⟨by omega, by omega, z.2.2⟩)]
theorem runF_id : ∀ (e i : Nat) (d : List Int), (∀ j : Nat, i ≤ j → j < i + e → rd d (j : Int) ≠ 4) → runF e i d = d
  | 0, _, _, _ => rfl
  | e + 1, i, d, h => by
    unfold runF
    rw [if_neg (h i (Nat.le_refl _) (by omega))]
    exact runF_id e (i + 1) d fun j h1 h2 => h j (by omega) (by omega)
theorem sAll_iff (b : List Bool) (d : List Int) : ∀ (e i : Nat), sAll b d e i = true ↔ ∀ j : Nat, i ≤ j → j < i + e → sOk b d j = true
  | 0, i => ⟨fun _ j h1 h2 => by omega, fun _ => rfl⟩
  | e + 1, i => by
    rw [sAll_succ, Bool.and_eq_true, sAll_iff b d e (i + 1)]
    constructor
    · rintro ⟨h1, h2⟩ j g1 g2
      by_cases cj : j = i
      · subst cj; exact h1
      · exact h2 j (by omega) (by omega)
    · intro h
      exact ⟨h i (Nat.le_refl _) (by omega), fun j g1 g2 => h j (by omega) (by omega)⟩
theorem run_ok {h b : List Bool} {d : List Int} (k : sigsOk h b d = true) : sigsOk h b (runF 8 0 d) = true := by
  obtain ⟨q1, q2, q3, q4⟩ := sigsOk_len k
  have ha := (sAll_iff b d 8 0).1 q4
  have : sAll b (runF 8 0 d) 8 0 = true := (sAll_iff _ _ _ _).2 fun j g1 g2 => by
    have hj := ha j g1 g2
    have e := runF_get 8 0 d (by omega) j
    unfold sOk at hj ⊢
    rw [e]
    by_cases c : rd d (j : Int) = 4
    · rw [if_pos ⟨g1, g2, c⟩]
      rw [c] at hj
      revert hj
      cases hb : rdOf false b (j : Int) <;> cases h0 : decide (j = 0) <;> cases h1 : decide (j = 1) <;> simp
    · rw [if_neg (fun z => c z.2.2)]
      exact hj
  unfold sigsOk
  rw [runF_len, decide_eq_true q1, decide_eq_true q2, decide_eq_true q3, this]
  rfl
def sigsRun (h b : List Bool) (d : List Int) : List Bool × List Bool × List Int := if sigsOk h b d = true then (h, b, runF 8 0 d) else ([], [], [])
theorem impl_run_loop (h b : List Bool) : ∀ (e i : Nat) (d : List Int), i + e = 8 → d.length = 8 → Evt (fun k => impl_SigsRun.l0 k 8 (i : Int) h b d = some (h, b, runF e i d)) := by
  intro e
  induction e with
  | zero =>
    intro i d hi hd
    refine Evt.of1 fun k => ?_
    simp only [impl_SigsRun.l0]
    rw [if_neg (by omega)]
    rfl
  | succ e ih =>
    intro i d hi hd
    by_cases c : rd d (i : Int) = 4
    · refine (ih (i + 1) (d.set i 0) (by omega) (by simpa using hd)).step fun k hk => ?_
      simp only [impl_SigsRun.l0]
      rw [if_pos (by omega), if_pos (by omega), if_pos (by omega), if_pos c, nat_succ_wrap (by omega), Int.toNat_natCast, hk, runF, if_pos c]
    · refine (ih (i + 1) d (by omega) hd).step fun k hk => ?_
      simp only [impl_SigsRun.l0]
      rw [if_pos (by omega), if_pos (by omega), if_pos (by omega), if_neg c, nat_succ_wrap (by omega), hk, runF, if_neg c]
theorem spec_run_loop (h b : List Bool) : ∀ (e i : Nat) (d : List Int), i + e = 8 → d.length = 8 → Evt (fun k => spec_SigsRun.l0 k (i : Int) h b d = some (h, b, runF e i d)) := by
  intro e
  induction e with
  | zero =>
    intro i d hi hd
    refine Evt.of1 fun k => ?_
    simp only [spec_SigsRun.l0]
    rw [if_neg (by omega)]
    rfl
  | succ e ih =>
    intro i d hi hd
    by_cases c : rd d (i : Int) = 4
    · refine (ih (i + 1) (d.set i 0) (by omega) (by simpa using hd)).step fun k hk => ?_
      simp only [spec_SigsRun.l0]
      rw [if_pos (by omega), if_pos (by omega), if_pos (by omega), if_pos c, nat_succ_wrap (by omega), Int.toNat_natCast, hk, runF, if_pos c]
    · refine (ih (i + 1) d (by omega) hd).step fun k hk => ?_
      simp only [spec_SigsRun.l0]
      rw [if_pos (by omega), if_pos (by omega), if_pos (by omega), if_neg c, nat_succ_wrap (by omega), hk, runF, if_neg c]
theorem impl_run_ev (h b : List Bool) (d : List Int) : Evt (fun k => impl_SigsRun.f k h b d = some (sigsRun h b d)) := by
  have hs := impl_sok_ev h b d
  unfold sigsRun
  cases hok : sigsOk h b d with
  | false =>
    rw [hok] at hs
    refine hs.imp fun k hk => ?_
    unfold impl_SigsRun.f
    refine bind_of hk ?_
    rw [if_neg (by decide), if_neg (by decide)]
  | true =>
    obtain ⟨q1, q2, q3, _⟩ := sigsOk_len hok
    rw [hok] at hs
    refine (hs.and (impl_run_loop h b 8 0 d (by omega) q3)).imp fun k hk => ?_
    unfold impl_SigsRun.f
    refine bind_of hk.1 ?_
    rw [if_pos rfl, if_pos rfl]
    refine bind_of (sclone_eq h b d (by omega) (by omega) (by omega)) ?_
    simp only [q3]
    exact hk.2
theorem spec_run_ev (h b : List Bool) (d : List Int) : Evt (fun k => spec_SigsRun.f k h b d = some (sigsRun h b d)) := by
  have hs := spec_sok_ev h b d
  unfold sigsRun
  cases hok : sigsOk h b d with
  | false =>
    rw [hok] at hs
    refine hs.imp fun k hk => ?_
    unfold spec_SigsRun.f
    refine bind_of hk ?_
    rw [if_neg (by decide), if_neg (by decide)]
  | true =>
    obtain ⟨q1, q2, q3, _⟩ := sigsOk_len hok
    rw [hok] at hs
    refine (hs.and (spec_run_loop h b 8 0 d (by omega) q3)).imp fun k hk => ?_
    unfold spec_SigsRun.f
    refine bind_of hk.1 ?_
    rw [if_pos rfl, if_pos rfl]
    refine bind_of (scopy_eq h b d (by omega) (by omega) (by omega)) ?_
    exact hk.2

theorem drawrun_ev {l : List Int} (hl : Bytes l) : ∃ h b d, Evt (fun k => spec_DrawSigsRun.f k l = some (h, b, d)) ∧ h.length ≤ 8 ∧ b.length = 8 ∧ d.length = 8 := by
  obtain ⟨s, hs, hsb⟩ := open_ev hl
  obtain ⟨h, b, d, p', hdr, r1, r2, r3, _⟩ := drawsigs_ev hsb (p := 0) (by omega) (by omega)
  refine ⟨h, b, d, hdr.imp fun k hk => ?_, r1, r2, r3⟩
  unfold spec_DrawSigsRun.f
  refine bind_of hs ?_
  refine bind_of hk ?_
  rfl
theorem run_law_loop (h b : List Bool) (d : List Int) (hok : sigsOk h b d = true) : ∀ (e i : Nat), i + e = 8 → Evt (fun k => laws_FnSigsRun.l0 k (i : Int) h b d h b (runF 8 0 d) = some true) := by
  obtain ⟨q1, q2, q3, q4⟩ := sigsOk_len hok
  have hl : (runF 8 0 d).length = 8 := by rw [runF_len]; exact q3
  have hg := fun j : Nat => runF_get 8 0 d (by omega) j
  have okd := run_ok hok
  have hid : runF 8 0 (runF 8 0 d) = runF 8 0 d := runF_id 8 0 _ fun j g1 g2 => by
    rw [hg j]
    by_cases c : rd d (j : Int) = 4
    · rw [if_pos ⟨g1, g2, c⟩]; decide
    · rw [if_neg (fun z => c z.2.2)]; exact c
  have h1 := impl_sok_ev h b (runF 8 0 d)
  have h2 := impl_run_ev h b (runF 8 0 d)
  rw [okd] at h1
  rw [sigsRun, if_pos okd, hid] at h2
  have h3 := qdsigs_refl h b (runF 8 0 d) (by omega) (by omega) (by omega)
  generalize runF 8 0 d = r at *
  intro e
  induction e with
  | zero =>
    intro i hi
    refine (h1.and (h2.and h3)).step fun k hk => ?_
    simp only [laws_FnSigsRun.l0]
    rw [if_neg (by omega)]
    refine bind_of hk.1 ?_
    rw [if_pos rfl]
    refine bind_of hk.2.1 ?_
    exact bind_of hk.2.2 rfl
  | succ e ih =>
    intro i hi
    have hi2 := hg i
    have n4 : rd r (i : Int) ≠ 4 := by
      rw [hi2]
      by_cases c : rd d (i : Int) = 4
      · rw [if_pos ⟨by omega, by omega, c⟩]; decide
      · rw [if_neg (fun z => c z.2.2)]; exact c
    have n1 : ((rd r (i : Int) == 1) != (rd d (i : Int) == 1)) = false := by
      rw [hi2]
      by_cases c : rd d (i : Int) = 4
      · rw [if_pos ⟨by omega, by omega, c⟩, c]; rfl
      · rw [if_neg (fun z => c z.2.2)]; simp
    refine (ih (i + 1) (by omega)).step fun k hk => ?_
    simp only [laws_FnSigsRun.l0]
    rw [if_pos (by omega), if_pos (by omega), if_pos (by omega), if_neg n4, if_pos (by omega), n1, if_neg (by decide), nat_succ_wrap (by omega)]
    exact hk
theorem FnSigsRun : laws_FnSigsRun.Pure := by
  intro l0 _ _ hb0
  by_cases hlen : (l0.length : Int) > 1048576
  · exact ⟨0, by unfold laws_FnSigsRun.f; rw [if_pos hlen]⟩
  obtain ⟨h, b, d, hdr, r1, r2, r3⟩ := drawrun_ev (bytes_of hb0)
  have h1 := impl_run_ev h b d
  have h2 := spec_run_ev h b d
  have h4 := impl_sok_ev h b d
  by_cases hok : sigsOk h b d = true
  · obtain ⟨q1, q2, q3, q4⟩ := sigsOk_len hok
    rw [sigsRun, if_pos hok] at h1 h2
    rw [hok] at h4
    have h3 := qdsigs_refl h b (runF 8 0 d) (by omega) (by omega) (by rw [runF_len]; omega)
    have hj : Evt (fun k => laws_FnSigsRun.j0 k true false h b d h b (runF 8 0 d) = some true) := (run_law_loop h b d hok 8 0 (by omega)).step fun k hk => by
      simp only [laws_FnSigsRun.j0]
      rw [if_neg (by decide)]
      exact hk
    refine Evt.some_ (((hdr.and h1).and ((h2.and h3).and (h4.and hj))).imp fun k hk => ?_)
    obtain ⟨⟨k1, k2⟩, ⟨k3, k4⟩, k5, k6⟩ := hk
    unfold laws_FnSigsRun.f
    rw [if_neg hlen]
    refine bind_of k1 ?_
    refine bind_of k2 ?_
    refine bind_of k3 ?_
    refine bind_of k4 ?_
    rw [if_pos rfl]
    refine bind_of k5 ?_
    exact k6
  · rw [sigsRun, if_neg hok] at h1 h2
    rw [eq_false_of_ne_true hok] at h4
    have h3 := qdsigs_refl [] [] [] (by simp) (by simp) (by simp)
    have hj : Evt (fun k => laws_FnSigsRun.j0 k true true h b d [] [] [] = some true) := Evt.of1 fun k => by
      simp only [laws_FnSigsRun.j0]
      rw [if_pos trivial]
    refine Evt.some_ (((hdr.and h1).and ((h2.and h3).and (h4.and hj))).imp fun k hk => ?_)
    obtain ⟨⟨k1, k2⟩, ⟨k3, k4⟩, k5, k6⟩ := hk
    unfold laws_FnSigsRun.f
    rw [if_neg hlen]
    refine bind_of k1 ?_
    refine bind_of k2 ?_
    refine bind_of k3 ?_
    refine bind_of k4 ?_
    rw [if_pos rfl]
    refine bind_of k5 ?_
    exact k6

end Go.Proofs.Ytiifanjjohophaa.Pure
