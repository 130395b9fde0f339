/- Proved: for every code, the law FnSigsSet answers true and leaves its argument as it was (just one signal does something else). No condition beyond the row's own. -/
import Derived.Test.YtiifanjjohophaaPFnSigsSetx10
import Derived.Test.YtiifanjjohophaaAuxFnSigsSet
namespace Go.Proofs.Ytiifanjjohophaa.Pure
open Go.RowKit Go.Proofs.Ytiifanjjohophaa.PFnSigsSet Go.Proofs.YtiifanjjohophaaW.PrintWords Go.Proofs.YtiifanjjohophaaW.PrintLast Go.Proofs.YtiifanjjohophaaW.PrintMore Go.Proofs.Ytiifanjjohophaa.Aux
theorem pick_ev {l : List Int} (hl : Bytes l) {p : Int} (n : Int) (h0 : 0 ≤ p) (h1 : p < 1000000) :
    ∃ v, Evt (fun k => spec_l6Rd_pick.f k l p n = some (v, p + 1)) ∧ 0 ≤ v ∧ (1 ≤ n → v < n) ∧ (n < 1 → v = 0) := by
  have e1 : wrap64 (p + 1) = p + 1 := wrap_in (by omega) (by omega)
  have e2 : wrap64 (p + 1 - 1) = p := by rw [Int.add_sub_cancel]; exact wrap_in (by omega) (by omega)
  by_cases hn : n < 1
  · refine ⟨0, Evt.of1 fun k => ?_, by omega, by omega, fun _ => rfl⟩
    unfold spec_l6Rd_pick.f
    rw [if_pos hn, e1]
    simp only [spec_l6Rd_pick.j0, if_true]
  · by_cases hz : l.length = 0
    · refine ⟨0, Evt.of1 fun k => ?_, by omega, by omega, fun _ => rfl⟩
      unfold spec_l6Rd_pick.f
      have hz' : ((l.length : Int) == 0) = true := by simp [hz]
      rw [if_neg hn, e1, hz']
      simp only [spec_l6Rd_pick.j0, if_true]
    · have hz' : ((l.length : Int) == 0) = false := by simpa using hz
      have hlen : (0 : Int) < (l.length : Int) := by omega
      by_cases hlt : p < (l.length : Int)
      · have hr := rd_byte hl p
        have hr2 : wrap64 (rd l p) = rd l p := wrap_in (by omega) (by omega)
        have ht := tmod_range (a := rd l p) (n := n) (by omega) (by omega)
        refine ⟨Int.tmod (rd l p) n, Evt.of1 fun k => ?_, ht.1, fun _ => ht.2, fun h => by omega⟩
        unfold spec_l6Rd_pick.f
        rw [if_neg hn, e1, hz']
        simp only [spec_l6Rd_pick.j0]
        rw [e2, if_neg (by decide), if_pos hlt, if_pos h0, if_neg (by omega), hr2]
      · have e3 : wrap64 (wrap64 (p * 7) + 3) = p * 7 + 3 := by
          rw [wrap_in (n := p * 7) (by omega) (by omega)]
          exact wrap_in (by omega) (by omega)
        have ta := tmod_range (a := p) (n := (l.length : Int)) h0 hlen
        have tb := tmod_range (a := p * 7 + 3) (n := (l.length : Int)) (by omega) hlen
        have td := tdiv_range (a := p) (n := (l.length : Int)) h0 hlen
        have ra := rd_byte hl (Int.tmod p (l.length : Int))
        have rb := rd_byte hl (Int.tmod (p * 7 + 3) (l.length : Int))
        obtain ⟨x, hx, x0, x1⟩ := mix_range ra.1 ra.2 rb.1 rb.2 h0 (by omega) td.1 td.2
        have xd := tdiv_range (a := x) (n := 64) x0 (by decide)
        have xw : wrap64 (Int.tdiv x 64) = Int.tdiv x 64 := wrap_in (by omega) (by omega)
        have xx := xor_range (a := x) (b := Int.tdiv x 64) x0 x1 xd.1 (by omega)
        have tv := tmod_range (a := Go.bits .xor .i64 x (Int.tdiv x 64)) (n := n) xx.1 (by omega)
        refine ⟨Int.tmod (Go.bits .xor .i64 x (Int.tdiv x 64)) n, Evt.of1 fun k => ?_, tv.1, fun _ => tv.2, fun h => by omega⟩
        unfold spec_l6Rd_pick.f
        rw [if_neg hn, e1, hz']
        simp only [spec_l6Rd_pick.j0]
        rw [e2, e3, if_neg (by decide), if_neg hlt, if_neg (by omega), if_pos ta.1, if_pos ta.2, if_pos tb.1, if_pos tb.2, if_neg (by omega), hx, xw]
theorem open_ev {l : List Int} (hl : Bytes l) : ∃ s, spec_l6Open.f l = some (s, 0) ∧ Bytes s := by
  unfold spec_l6Open.f
  by_cases h : (l.length : Int) > 2000
  · exact ⟨l.take 2000, by rw [if_pos h, if_pos (by omega)], hl.take _⟩
  · exact ⟨l, by rw [if_neg h], hl⟩

theorem in_eq (a b c : Int) : impl_in.f a b c = some (decide (b ≤ a) && decide (a ≤ c)) := by
  unfold impl_in.f
  by_cases h : a ≥ b
  · rw [if_pos h]; simp [show b ≤ a from h]
  · rw [if_neg h]; simp [show ¬ b ≤ a from h]
theorem l6in_eq (a b c : Int) : spec_l6In.f a b c = some (decide (b ≤ a) && decide (a ≤ c)) := by
  unfold spec_l6In.f
  by_cases h : a ≥ b
  · rw [if_pos h]; simp [show b ≤ a from h]
  · rw [if_neg h]; simp [show ¬ b ≤ a from h]

def sOk (b : List Bool) (d : List Int) (i : Nat) : Bool :=
  (decide (rd d i = 0) || (decide (rd d i = 1) || decide (rd d i = 4))) && !((decide (i = 0) || decide (i = 1)) && (rdOf false b i || !decide (rd d i = 0)))
def sAll (b : List Bool) (d : List Int) : Nat → Nat → Bool
  | 0, _ => true
  | e + 1, i => sOk b d i && sAll b d e (i + 1)
theorem sAll_succ (b : List Bool) (d : List Int) (e i : Nat) : sAll b d (e + 1) i = (sOk b d i && sAll b d e (i + 1)) := rfl
def sigsOk (h b : List Bool) (d : List Int) : Bool := decide (h.length = 8) && (decide (b.length = 8) && (decide (d.length = 8) && sAll b d 8 0))
theorem sigsOk_len {h b : List Bool} {d : List Int} (k : sigsOk h b d = true) : h.length = 8 ∧ b.length = 8 ∧ d.length = 8 ∧ sAll b d 8 0 = true := by
  simpa [sigsOk] using k
theorem succ_is {i : Nat} (hi : i < 100) (n : Int) : wrap64 ((i : Int) + 1) = n ↔ (i : Int) + 1 = n := by rw [wrap_in (by omega) (by omega)]
theorem impl_sok_loop (h b : List Bool) (d : List Int) (hb : b.length = 8) (hd : d.length = 8) : ∀ (e i : Nat), i + e = 8 →
    Evt (fun k => impl_SigsOk.l0 k d (d.length : Int) (i : Int) h b d = some (sAll b d e i)) := by
  intro e
  induction e with
  | zero =>
    intro i hi
    refine Evt.of1 fun k => ?_
    simp only [impl_SigsOk.l0]
    rw [if_neg (by omega)]
    rfl
  | succ e ih =>
    intro i hi
    refine (ih (i + 1) (by omega)).step fun k hk => ?_
    have n1 : ((i : Int) + 1 = 1) ↔ i = 0 := by omega
    have n2 : ((i : Int) + 1 = 2) ↔ i = 1 := by omega
    simp only [impl_SigsOk.l0, succ_is (i := i) (by omega)]
    rw [nat_succ_wrap (by omega), hk]
    rw [if_pos (by omega), if_pos (by omega), if_pos (by omega)]
    have hbl : (i : Int) < (b.length : Int) := by omega
    simp only [if_pos hbl, n1, n2]
    rw [sAll_succ]
    unfold sOk
    generalize sAll b d e (i + 1) = R
    generalize rd d (i : Int) = v
    generalize rdOf false b (i : Int) = c
    clear hk ih hbl hd hb hi n1 n2
    by_cases c0 : i = 0
    · subst c0
      by_cases v0 : v = 0
      · subst v0; cases c <;> simp
      · by_cases v1 : v = 1
        · subst v1; cases c <;> simp
        · by_cases v4 : v = 4
          · subst v4; cases c <;> simp
          · simp [v0, v1, v4]
    · by_cases c1 : i = 1
      · subst c1
        by_cases v0 : v = 0
        · subst v0; cases c <;> simp
        · by_cases v1 : v = 1
          · subst v1; cases c <;> simp
          · by_cases v4 : v = 4
            · subst v4; cases c <;> simp
            · simp [v0, v1, v4]
      · by_cases v0 : v = 0
        · subst v0; simp [c0, c1]
        · by_cases v1 : v = 1
          · subst v1; simp [c0, c1]
          · by_cases v4 : v = 4
            · subst v4; simp [c0, c1]
            · simp [c0, v0, v1, v4]
theorem impl_sok_ev (h b : List Bool) (d : List Int) : Evt (fun k => impl_SigsOk.f k h b d = some (sigsOk h b d)) := by
  by_cases hh : h.length = 8
  · by_cases hb : b.length = 8
    · by_cases hd : d.length = 8
      · refine ((impl_sok_loop h b d hb hd 8 0 (by omega)).step (Q := fun k => impl_SigsOk.j0 k false h b d = some (sAll b d 8 0)) fun k hk => ?_).imp fun k hk => ?_
        · simp only [impl_SigsOk.j0]
          rw [if_neg (by decide)]
          exact hk
        · unfold impl_SigsOk.f sigsOk
          rw [if_pos (by omega), if_pos (by omega), show ((d.length : Int) != 8) = false from by simp [hd], hk]
          simp [hh, hb, hd]
      · refine Evt.of1 fun k => ?_
        unfold impl_SigsOk.f sigsOk
        rw [if_pos (by omega), if_pos (by omega), show ((d.length : Int) != 8) = true from by simp; omega]
        simp [impl_SigsOk.j0, hd]
    · refine Evt.of1 fun k => ?_
      unfold impl_SigsOk.f sigsOk
      rw [if_pos (by omega), if_neg (by omega)]
      simp [impl_SigsOk.j0, hb]
  · refine Evt.of1 fun k => ?_
    unfold impl_SigsOk.f sigsOk
    rw [if_neg (by omega)]
    simp [impl_SigsOk.j0, hh]

theorem fixed_eq (i : Nat) (hi : i < 100) : spec_l10Fixed.f (wrap64 ((i : Int) + 1)) = some (decide (i = 0) || decide (i = 1)) := by
  unfold spec_l10Fixed.f
  rw [wrap_in (by omega) (by omega)]
  by_cases c0 : i = 0
  · rw [if_pos (by omega)]
    simp [c0]
  · rw [if_neg (by omega)]
    simp only [c0, decide_false, Bool.false_or]
    congr 1
    by_cases c1 : i = 1
    · subst c1
      rfl
    · simp only [c1, decide_false]
      simp
      omega
theorem spec_sok_loop (h b : List Bool) (d : List Int) (hb : b.length = 8) (hd : d.length = 8) : ∀ (e i : Nat), i + e = 8 →
    Evt (fun k => spec_SigsOk.l0 k (i : Int) h b d = some (sAll b d e i)) := by
  intro e
  induction e with
  | zero =>
    intro i hi
    refine Evt.of1 fun k => ?_
    simp only [spec_SigsOk.l0]
    rw [if_neg (by omega)]
    rfl
  | succ e ih =>
    intro i hi
    refine (ih (i + 1) (by omega)).step fun k hk => ?_
    simp only [spec_SigsOk.l0, fixed_eq i (by omega), Option.bind_some]
    rw [nat_succ_wrap (by omega), hk]
    rw [if_pos (by omega), if_pos (by omega), if_pos (by omega)]
    have hbl : (i : Int) < (b.length : Int) := by omega
    simp only [if_pos hbl]
    rw [sAll_succ]
    unfold sOk
    generalize sAll b d e (i + 1) = R
    generalize rd d (i : Int) = v
    generalize rdOf false b (i : Int) = c
    generalize (decide (i = 0) || decide (i = 1)) = x
    clear hk ih hbl hd hb hi
    by_cases v0 : v = 0
    · subst v0; cases x <;> cases c <;> simp
    · by_cases v1 : v = 1
      · subst v1; cases x <;> cases c <;> simp
      · by_cases v4 : v = 4
        · subst v4; cases x <;> cases c <;> simp
        · simp [v0, v1, v4]
theorem spec_sok_ev (h b : List Bool) (d : List Int) : Evt (fun k => spec_SigsOk.f k h b d = some (sigsOk h b d)) := by
  by_cases hh : h.length = 8
  · by_cases hb : b.length = 8
    · by_cases hd : d.length = 8
      · refine ((spec_sok_loop h b d hb hd 8 0 (by omega)).step (Q := fun k => spec_SigsOk.j0 k false h b d = some (sAll b d 8 0)) fun k hk => ?_).imp fun k hk => ?_
        · simp only [spec_SigsOk.j0]
          rw [if_neg (by decide)]
          exact hk
        · unfold spec_SigsOk.f sigsOk
          rw [if_pos (by omega), if_pos (by omega), show ((d.length : Int) != 8) = false from by simp [hd], hk]
          simp [hh, hb, hd]
      · refine Evt.of1 fun k => ?_
        unfold spec_SigsOk.f sigsOk
        rw [if_pos (by omega), if_pos (by omega), show ((d.length : Int) != 8) = true from by simp; omega]
        simp [spec_SigsOk.j0, hd]
    · refine Evt.of1 fun k => ?_
      unfold spec_SigsOk.f sigsOk
      rw [if_pos (by omega), if_neg (by omega)]
      simp [spec_SigsOk.j0, hb]
  · refine Evt.of1 fun k => ?_
    unfold spec_SigsOk.f sigsOk
    rw [if_neg (by omega)]
    simp [spec_SigsOk.j0, hh]

theorem sclone_eq (h b : List Bool) (d : List Int) (hh : h.length < 1000000000) (hb : b.length < 1000000000) (hd : d.length < 1000000000) : impl_Sigs_clone.f h b d = some (h, b, d) := by
  unfold impl_Sigs_clone.f slices_Clone_bool_bool.f slices_Clone_int_int.f
  simp only [Option.bind_some]
  rw [if_pos (by simp; omega), if_pos (by simp; omega), if_pos (by simp; omega)]
  simp
theorem scopy_eq (h b : List Bool) (d : List Int) (hh : h.length < 1000000000) (hb : b.length < 1000000000) (hd : d.length < 1000000000) : spec_l10Copy.f h b d = some (h, b, d) := by
  unfold spec_l10Copy.f
  simp only [Option.bind_some]
  rw [if_pos (by simp; omega), if_pos (by simp; omega), if_pos (by simp; omega)]
  simp

theorem qdints_loop (a : List Int) (ha : a.length < 1000000000) : ∀ (d i : Nat), i + d = a.length → Evt (fun k => laws_qdInts.l0 k a a (i : Int) = some true) := by
  intro d
  induction d with
  | zero =>
    intro i hi
    refine Evt.of1 fun k => ?_
    simp only [laws_qdInts.l0]
    rw [if_neg (by omega)]
  | succ d ih =>
    intro i hi
    refine (ih (i + 1) (by omega)).step fun k hk => ?_
    simp only [laws_qdInts.l0]
    rw [if_pos (by omega), if_pos (by omega), if_pos (by omega), if_pos trivial, nat_succ_wrap (by omega)]
    exact hk
theorem qdints_refl (a : List Int) (ha : a.length < 1000000000) : Evt (fun k => laws_qdInts.f k a a = some true) := by
  refine (qdints_loop a ha a.length 0 (by omega)).imp fun k hk => ?_
  unfold laws_qdInts.f
  rw [if_pos rfl]
  exact hk

theorem qdbools_loop (a : List Bool) (ha : a.length < 1000000000) : ∀ (d i : Nat), i + d = a.length → Evt (fun k => laws_qdBools.l0 k a a (i : Int) = some true) := by
  intro d
  induction d with
  | zero =>
    intro i hi
    refine Evt.of1 fun k => ?_
    simp only [laws_qdBools.l0]
    rw [if_neg (by omega)]
  | succ d ih =>
    intro i hi
    refine (ih (i + 1) (by omega)).step fun k hk => ?_
    simp only [laws_qdBools.l0]
    rw [if_pos (by omega), if_pos (by omega), if_pos (by omega), if_neg (by simp), nat_succ_wrap (by omega)]
    exact hk
theorem qdbools_refl (a : List Bool) (ha : a.length < 1000000000) : Evt (fun k => laws_qdBools.f k a a = some true) := by
  refine (qdbools_loop a ha a.length 0 (by omega)).imp fun k hk => ?_
  unfold laws_qdBools.f
  rw [if_pos rfl]
  exact hk
theorem qdsigs_refl (h b : List Bool) (d : List Int) (hh : h.length < 1000000000) (hb : b.length < 1000000000) (hd : d.length < 1000000000) : Evt (fun k => laws_qdSigs.f k h b d h b d = some true) := by
  refine ((qdbools_refl h hh).and ((qdbools_refl b hb).and (qdints_refl d hd))).imp fun k hk => ?_
  unfold laws_qdSigs.f
  rw [hk.1]
  simp only [Option.bind_some, if_true]
  rw [hk.2.1]
  simp only [Option.bind_some, if_true]
  rw [hk.2.2]
  rfl

theorem new_eq : spec_SigsNew.f = some (List.replicate 8 false, List.replicate 8 false, List.replicate 8 0) := by
  unfold spec_SigsNew.f
  rw [if_pos (by omega), if_pos (by omega)]
theorem draws_loop {l : List Int} (hl : Bytes l) : ∀ (e i : Nat) (p : Int) (h b : List Bool) (d : List Int), i + e = 8 → h.length = 8 → b.length = 8 → d.length = 8 → 0 ≤ p → p + 3 * e < 800000 →
    ∃ h' b' d' p', Evt (fun k => spec_l92Sigs.l0 k (i : Int) l p h b d = some (h', b', d', p')) ∧ h'.length ≤ 8 ∧ b'.length = 8 ∧ d'.length = 8 ∧ p ≤ p' ∧ p' ≤ p + 3 * e + 3 := by
  intro e
  induction e with
  | zero =>
    intro i p h b d hi hh hb hd h0 h1
    obtain ⟨v, hv, v0, v1, _⟩ := pick_ev hl 24 h0 (by omega)
    by_cases c0 : v = 0
    · obtain ⟨w, hw, w0, w1, _⟩ := pick_ev hl (p := p + 1) 8 (by omega) (by omega)
      obtain ⟨x, hx, _, _, _⟩ := pick_ev hl (p := p + 1 + 1) 6 (by omega) (by omega)
      have w2 := w1 (by omega)
      refine ⟨h, b, d.set w.toNat x, p + 1 + 1 + 1, ((hv.and (hw.and hx)).step fun k hk => ?_), by omega, hb, by simpa using hd, by omega, by omega⟩
      simp only [spec_l92Sigs.l0]
      rw [if_neg (by omega), hk.1]
      simp only [Option.bind_some, if_pos c0]
      rw [hk.2.1]
      simp only [Option.bind_some]
      rw [hk.2.2]
      simp only [Option.bind_some]
      rw [if_pos w0, if_pos (by omega)]
    · by_cases c1 : v = 1
      · obtain ⟨w, hw, w0, w1, _⟩ := pick_ev hl (p := p + 1) 2 (by omega) (by omega)
        have w2 := w1 (by omega)
        refine ⟨h, b.set w.toNat true, d, p + 1 + 1, ((hv.and hw).step fun k hk => ?_), by omega, by simpa using hb, hd, by omega, by omega⟩
        simp only [spec_l92Sigs.l0]
        rw [if_neg (by omega), hk.1]
        simp only [Option.bind_some, if_neg c0, if_pos c1]
        rw [hk.2]
        simp only [Option.bind_some]
        rw [if_pos w0, if_pos (by omega)]
      · by_cases c2 : v = 2
        · refine ⟨h.drop (1 : Int).toNat, b, d, p + 1, (hv.step fun k hk => ?_), by simp; omega, hb, hd, by omega, by omega⟩
          simp only [spec_l92Sigs.l0]
          rw [if_neg (by omega), hk]
          simp only [Option.bind_some, if_neg c0, if_neg c1, if_pos c2]
          rw [if_pos (by omega)]
        · refine ⟨h, b, d, p + 1, (hv.step fun k hk => ?_), by omega, hb, hd, by omega, by omega⟩
          simp only [spec_l92Sigs.l0]
          rw [if_neg (by omega), hk]
          simp only [Option.bind_some, if_neg c0, if_neg c1, if_neg c2]
  | succ e ih =>
    intro i p h b d hi hh hb hd h0 h1
    obtain ⟨v, hv, v0, v1, _⟩ := pick_ev hl 3 h0 (by omega)
    by_cases cf : (decide (i = 0) || decide (i = 1)) = true
    · obtain ⟨h', b', d', p', hr, r1, r2, r3, r4, r5⟩ := ih (i + 1) (p + 1) (h.set i (v == 0)) b d (by omega) (by simpa using hh) hb hd (by omega) (by omega)
      refine ⟨h', b', d', p', ((hv.and hr).step fun k hk => ?_), r1, r2, r3, by omega, by omega⟩
      simp only [spec_l92Sigs.l0]
      rw [if_pos (by omega)]
      refine bind_of hk.1 ?_
      rw [if_pos (by omega), if_pos (by omega)]
      refine bind_of rfl ?_
      refine bind_of (fixed_eq i (by omega)) ?_
      rw [if_pos cf, nat_succ_wrap (by omega)]
      exact hk.2
    · obtain ⟨x, hx, x0, x1, _⟩ := pick_ev hl (p := p + 1) 3 (by omega) (by omega)
      obtain ⟨w, hw, w0, w1, _⟩ := pick_ev hl (p := p + 1 + 1) 4 (by omega) (by omega)
      have w2 := w1 (by omega)
      obtain ⟨h', b', d', p', hr, r1, r2, r3, r4, r5⟩ := ih (i + 1) (p + 1 + 1 + 1) (h.set i (v == 0)) (b.set i (x == 0)) (d.set i (rd [0, 0, 1, 4] w)) (by omega) (by simpa using hh) (by simpa using hb) (by simpa using hd) (by omega) (by omega)
      refine ⟨h', b', d', p', ((hv.and (hx.and (hw.and hr))).step fun k hk => ?_), r1, r2, r3, by omega, by omega⟩
      simp only [spec_l92Sigs.l0]
      rw [if_pos (by omega)]
      refine bind_of hk.1 ?_
      rw [if_pos (by omega), if_pos (by omega)]
      refine bind_of rfl ?_
      refine bind_of (fixed_eq i (by omega)) ?_
      rw [if_neg cf]
      refine bind_of hk.2.1 ?_
      rw [if_pos (by omega)]
      refine bind_of rfl ?_
      refine bind_of hk.2.2.1 ?_
      rw [if_pos w0, if_pos (show w < (([0, 0, 1, 4] : List Int).length : Int) from by simpa using w2), if_pos (by omega), nat_succ_wrap (by omega)]
      exact hk.2.2.2
theorem drawsigs_ev {l : List Int} (hl : Bytes l) {p : Int} (h0 : 0 ≤ p) (h1 : p < 700000) :
    ∃ h b d p', Evt (fun k => spec_l92Sigs.f k l p = some (h, b, d, p')) ∧ h.length ≤ 8 ∧ b.length = 8 ∧ d.length = 8 ∧ p ≤ p' ∧ p' ≤ p + 30 := by
  obtain ⟨h, b, d, p', hr, r1, r2, r3, r4, r5⟩ := draws_loop hl 8 0 p (List.replicate 8 false) (List.replicate 8 false) (List.replicate 8 0) (by omega) (by simp) (by simp) (by simp) h0 (by omega)
  refine ⟨h, b, d, p', hr.imp fun k hk => ?_, r1, r2, r3, r4, by omega⟩
  unfold spec_l92Sigs.f
  rw [new_eq]
  exact hk

def sigsSet (h b : List Bool) (d : List Int) (n x : Int) : List Bool × List Bool × List Int × Bool :=
  if sigsOk h b d = true ∧ 1 ≤ n ∧ n ≤ 8 ∧ n ≠ 1 ∧ n ≠ 2 ∧ (x = 0 ∨ x = 1 ∨ x = 4) then (h, b, d.set (n - 1).toNat x, true) else ([], [], [], false)
theorem impl_set_ev (h b : List Bool) (d : List Int) (n x : Int) : Evt (fun k => impl_SigsSet.f k h b d n x = some (sigsSet h b d n x)) := by
  refine (impl_sok_ev h b d).imp fun k hk => ?_
  unfold impl_SigsSet.f
  rw [hk, in_eq]
  simp only [Option.bind_some]
  cases hok : sigsOk h b d with
  | false => simp [sigsSet, hok]
  | true =>
    obtain ⟨q1, q2, q3, _⟩ := sigsOk_len hok
    rw [sclone_eq h b d (by omega) (by omega) (by omega)]
    by_cases n0 : 1 ≤ n ∧ n ≤ 8
    · have e : (decide (1 ≤ n) && decide (n ≤ 8)) = true := by simp [n0.1, n0.2]
      rw [e]
      have w : wrap64 (n - 1) = n - 1 := wrap_in (by omega) (by omega)
      simp only [Option.bind_some, if_true, w]
      have g1 : (0 : Int) ≤ n - 1 := by omega
      have g2 : n - 1 < (d.length : Int) := by omega
      simp only [if_pos g1, if_pos g2]
      by_cases n1 : n = 1
      · simp [sigsSet, n1]
      · by_cases n2 : n = 2
        · simp [sigsSet, n2]
        · by_cases x0 : x = 0
          · simp [sigsSet, hok, n0, n1, n2, x0]
          · by_cases x1 : x = 1
            · simp [sigsSet, hok, n0, n1, n2, x1]
            · by_cases x4 : x = 4
              · simp [sigsSet, hok, n0, n1, n2, x4]
              · simp [sigsSet, n1, n2, x0, x1, x4]
    · have e : (decide (1 ≤ n) && decide (n ≤ 8)) = false := by
        simp
        omega
      rw [e]
      have e2 : sigsSet h b d n x = ([], [], [], false) := by
        unfold sigsSet
        rw [if_neg (by omega)]
      rw [e2]
      simp
theorem spec_set_ev (h b : List Bool) (d : List Int) (n x : Int) : Evt (fun k => spec_SigsSet.f k h b d n x = some (sigsSet h b d n x)) := by
  refine (spec_sok_ev h b d).imp fun k hk => ?_
  unfold spec_SigsSet.f
  rw [hk, l6in_eq]
  simp only [Option.bind_some]
  cases hok : sigsOk h b d with
  | false => simp [sigsSet, hok]
  | true =>
    obtain ⟨q1, q2, q3, _⟩ := sigsOk_len hok
    rw [scopy_eq h b d (by omega) (by omega) (by omega)]
    by_cases n0 : 1 ≤ n ∧ n ≤ 8
    · have e : (decide (1 ≤ n) && decide (n ≤ 8)) = true := by simp [n0.1, n0.2]
      rw [e]
      have w : wrap64 (n - 1) = n - 1 := wrap_in (by omega) (by omega)
      have hf : spec_l10Fixed.f n = some (decide (n = 1) || decide (n = 2)) := by
        unfold spec_l10Fixed.f
        by_cases c : n = 1
        · simp [c]
        · rw [if_neg c]
          simp [c]
          by_cases c2 : n = 2 <;> simp [c2]
      simp only [Option.bind_some, if_true, w, hf]
      have g1 : (0 : Int) ≤ n - 1 := by omega
      have g2 : n - 1 < (d.length : Int) := by omega
      simp only [if_pos g1, if_pos g2]
      by_cases n1 : n = 1
      · simp [sigsSet, n1]
      · by_cases n2 : n = 2
        · simp [sigsSet, n2]
        · by_cases x0 : x = 0
          · simp [sigsSet, hok, n0, n1, n2, x0]
          · by_cases x1 : x = 1
            · simp [sigsSet, hok, n0, n1, n2, x1]
            · by_cases x4 : x = 4
              · simp [sigsSet, hok, n0, n1, n2, x4]
              · simp [sigsSet, n1, n2, x0, x1, x4]
    · have e : (decide (1 ≤ n) && decide (n ≤ 8)) = false := by
        simp
        omega
      rw [e]
      have e2 : sigsSet h b d n x = ([], [], [], false) := by
        unfold sigsSet
        rw [if_neg (by omega)]
      rw [e2]
      simp

theorem sigsSet_len (h b : List Bool) (d : List Int) (n x : Int) : (sigsSet h b d n x).1.length ≤ h.length ∧ (sigsSet h b d n x).2.1.length ≤ b.length ∧ (sigsSet h b d n x).2.2.1.length ≤ d.length := by
  unfold sigsSet
  split <;> simp
theorem rd_set (d : List Int) (i : Nat) (x : Int) (h : i < d.length) : rd (d.set i x) (i : Int) = x := by
  rw [rd_nat, List.getD_eq_getElem?_getD, List.getElem?_set, if_pos rfl, if_pos h]
  rfl
theorem rd_set_ne (d : List Int) (i j : Nat) (x : Int) (h : i ≠ j) : rd (d.set i x) (j : Int) = rd d (j : Int) := by
  rw [rd_nat, rd_nat, List.getD_eq_getElem?_getD, List.getElem?_set, if_neg h, ← List.getD_eq_getElem?_getD]
theorem sAll_iff (b : List Bool) (d : List Int) : ∀ (e i : Nat), sAll b d e i = true ↔ ∀ j, i ≤ j → j < i + e → sOk b d j = true
  | 0, i => by simp [sAll]; intro j h1 h2; omega
  | e + 1, i => by
    rw [sAll_succ, Bool.and_eq_true, sAll_iff b d e (i + 1)]
    constructor
    · rintro ⟨h1, h2⟩ j h3 h4
      by_cases hj : j = i
      · rw [hj]; exact h1
      · exact h2 j (by omega) (by omega)
    · intro h
      exact ⟨h i (by omega) (by omega), fun j h1 h2 => h j (by omega) (by omega)⟩
theorem sOk_facts {b : List Bool} {d : List Int} {i : Nat} (k : sOk b d i = true) : rd d i = 0 ∨ rd d i = 1 ∨ rd d i = 4 := by
  simp only [sOk, Bool.and_eq_true, Bool.or_eq_true, decide_eq_true_eq] at k
  exact k.1
theorem sigsOk_set {h b : List Bool} {d : List Int} (k : sigsOk h b d = true) (i : Nat) (x : Int) (hi : 2 ≤ i) (hx : x = 0 ∨ x = 1 ∨ x = 4) : sigsOk h b (d.set i x) = true := by
  obtain ⟨q1, q2, q3, q4⟩ := sigsOk_len k
  simp only [sigsOk, List.length_set, q1, q2, q3, decide_true, Bool.true_and]
  rw [sAll_iff] at q4 ⊢
  intro j h1 h2
  have hj := q4 j h1 h2
  by_cases e : i = j
  · subst e
    unfold sOk
    rw [rd_set d i x (by omega)]
    have n0 : ¬ i = 0 := by omega
    have n1 : ¬ i = 1 := by omega
    rcases hx with rfl | rfl | rfl <;> simp [n0, n1]
  · unfold sOk at hj ⊢
    rw [rd_set_ne d i j x e]
    exact hj
theorem set_back (d : List Int) (i : Nat) (x : Int) (h : i < d.length) : (d.set i x).set i (rd d (i : Int)) = d := by
  rw [List.set_set]
  apply List.ext_getElem?
  intro j
  rw [List.getElem?_set]
  by_cases e : i = j
  · subst e
    rw [if_pos rfl, if_pos h, rd_nat, List.getD_eq_getElem?_getD, List.getElem?_eq_getElem h]
    rfl
  · rw [if_neg e]
theorem FnSigsSet : laws_FnSigsSet.Pure := by
  intro l0 _ _ hb0
  by_cases hlen : (l0.length : Int) > 1048576
  · exact ⟨0, by unfold laws_FnSigsSet.f; rw [if_pos hlen]⟩
  obtain ⟨s, hs, hsb⟩ := open_ev (bytes_of hb0)
  obtain ⟨h, b, d, p, hdr, r1, r2, r3, r4, r5⟩ := drawsigs_ev hsb (p := 0) (by omega) (by omega)
  obtain ⟨m, hm, m0, m1, _⟩ := pick_ev hsb (p := p) 11 (by omega) (by omega)
  obtain ⟨x, hx, x0, x1, _⟩ := pick_ev hsb (p := p + 1) 6 (by omega) (by omega)
  have hn : wrap64 (m - 1) = m - 1 := wrap_in (by omega) (by have := m1 (by omega); omega)
  generalize hnn : m - 1 = n at hn
  have h1 := impl_set_ev h b d n x
  have h2 := spec_set_ev h b d n x
  have hl := sigsSet_len h b d n x
  have hc : sigsSet h b d n x = ([], [], [], false) ∨ (sigsOk h b d = true ∧ 3 ≤ n ∧ n ≤ 8 ∧ (x = 0 ∨ x = 1 ∨ x = 4) ∧ sigsSet h b d n x = (h, b, d.set (n - 1).toNat x, true)) := by
    unfold sigsSet
    split
    · rename_i c
      exact .inr ⟨c.1, by omega, c.2.2.1, c.2.2.2.2.2, rfl⟩
    · exact .inl rfl
  generalize hgen : sigsSet h b d n x = z at h1 h2 hl hc
  obtain ⟨zh, zb, zd, zo⟩ := z
  obtain ⟨g1, g2, g3⟩ := hl
  simp only at g1 g2 g3
  have h3 := qdsigs_refl zh zb zd (by omega) (by omega) (by omega)
  have hj0 : Evt (fun k => laws_FnSigsSet.j0 k n x zo true h b d zh zb zd = some true) := by
    have hj1 : Evt (fun k => laws_FnSigsSet.j1 k n x true (!zo) h b d zh zb zd = some true) := by
      rcases hc with c | ⟨c1, c2, c3, c4, c5⟩
      · simp only [Prod.mk.injEq] at c
        obtain ⟨rfl, rfl, rfl, rfl⟩ := c
        refine Evt.of1 fun k => ?_
        simp only [laws_FnSigsSet.j1]
        rw [if_pos (by decide)]
      · obtain ⟨i, hi⟩ : ∃ i : Nat, n - 1 = (i : Int) := ⟨(n - 1).toNat, by omega⟩
        have hw : wrap64 (n - 1) = (i : Int) := by rw [wrap_in (by omega) (by omega), hi]
        have hit : (n - 1).toNat = i := by omega
        rw [hit] at c5
        simp only [Prod.mk.injEq] at c5
        obtain ⟨rfl, rfl, rfl, rfl⟩ := c5
        obtain ⟨q1, q2, q3, q4⟩ := sigsOk_len c1
        have o1 := sigsOk_set c1 i x (by omega) c4
        have sv := sOk_facts ((sAll_iff zb d 8 0).1 q4 i (by omega) (by omega))
        have e1 := impl_set_ev zh zb (d.set i x) n (rd d (i : Int))
        have e2 : sigsSet zh zb (d.set i x) n (rd d (i : Int)) = (zh, zb, d, true) := by
          unfold sigsSet
          rw [if_pos ⟨o1, by omega, c3, by omega, by omega, sv⟩, hit, set_back d i x (by omega)]
        rw [e2] at e1
        have e3 := impl_sok_ev zh zb (d.set i x)
        rw [o1] at e3
        have e4 := qdsigs_refl zh zb d (by omega) (by omega) (by omega)
        refine ((e1.and e3).and e4).step fun k hk => ?_
        simp only [laws_FnSigsSet.j1]
        rw [if_neg (by decide), hw, if_pos (by omega), if_pos (by omega)]
        refine bind_of hk.1.1 ?_
        refine bind_of hk.1.2 ?_
        rw [if_pos rfl, if_pos (by simp; omega), rd_set d i x (by omega), if_pos rfl, if_pos rfl]
        refine bind_of hk.2 ?_
        rfl
    refine hj1.step fun k hk => ?_
    simp only [laws_FnSigsSet.j0]
    rw [if_pos trivial]
    exact hk
  refine Evt.some_ (((hdr.and (hm.and hx)).and ((h1.and h2).and (h3.and hj0))).imp fun k hk => ?_)
  obtain ⟨⟨k1, k2, k3⟩, ⟨k4, k5⟩, k6, k7⟩ := hk
  unfold laws_FnSigsSet.f spec_DrawSigsSet.f
  rw [if_neg hlen, hs]
  refine bind_of (a := (h, b, d, n, x)) ?_ ?_
  · refine bind_of rfl ?_
    refine bind_of k1 ?_
    refine bind_of k2 ?_
    refine bind_of k3 ?_
    show some (h, b, d, wrap64 (m - 1), x) = _
    rw [hnn, hn]
  · refine bind_of k4 ?_
    refine bind_of k5 ?_
    refine bind_of k6 ?_
    rw [if_pos rfl]
    simp only [beq_self_eq_true]
    exact k7

end Go.Proofs.Ytiifanjjohophaa.Pure
