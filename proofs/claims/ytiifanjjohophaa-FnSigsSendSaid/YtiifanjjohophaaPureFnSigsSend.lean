/- Proved: for every code, the law FnSigsSend answers true and leaves its argument as it was (what is sent is taken, unless it does nothing or is blocked). No condition beyond the row's own. -/
import Derived.Test.YtiifanjjohophaaPFnSigsSendx16
import Derived.Test.YtiifanjjohophaaAuxFnSigsSend
namespace Go.Proofs.Ytiifanjjohophaa.Pure
open Go.RowKit Go.Proofs.Ytiifanjjohophaa.PFnSigsSend Go.Proofs.YtiifanjjohophaaW.PrintWords Go.Proofs.YtiifanjjohophaaW.PrintLast Go.Proofs.YtiifanjjohophaaW.PrintMore Go.Proofs.Ytiifanjjohophaa.Aux
set_option linter.unusedVariables false
set_option linter.unusedSimpArgs false
theorem pick_ev {l : List Int} (hl : Bytes l) {p : Int} (n : Int) (h0 : 0 ≤ p) (h1 : p < 1000000) :
    ∃ v, Evt (fun k => spec_l6Rd_pick.f k l p n = some (v, p + 1)) ∧ 0 ≤ v ∧ (1 ≤ n → v < n) ∧ (n < 1 → v = 0) := by
  have e1 : wrap64 (p + 1) = p + 1 := wrap_in (by omega) (by omega)
  have e2 : wrap64 (p + 1 - 1) = p := by rw [Int.add_sub_cancel]; exact wrap_in (by omega) (by omega)
  by_cases hn : n < 1
  · refine ⟨0, Evt.of1 fun k => ?_, by omega, by omega, fun _ => rfl⟩
    unfold spec_l6Rd_pick.f
    rw [if_pos hn, e1]
    simp only [spec_l6Rd_pick.j0, if_true]
  · by_cases hz : l.length = 0
    · refine ⟨0, Evt.of1 fun k => ?_, by omega, by omega, fun _ => rfl⟩
      unfold spec_l6Rd_pick.f
      have hz' : ((l.length : Int) == 0) = true := by simp [hz]
      rw [if_neg hn, e1, hz']
      simp only [spec_l6Rd_pick.j0, if_true]
    · have hz' : ((l.length : Int) == 0) = false := by simpa using hz
      have hlen : (0 : Int) < (l.length : Int) := by omega
      by_cases hlt : p < (l.length : Int)
      · have hr := rd_byte hl p
        have hr2 : wrap64 (rd l p) = rd l p := wrap_in (by omega) (by omega)
        have ht := tmod_range (a := rd l p) (n := n) (by omega) (by omega)
        refine ⟨Int.tmod (rd l p) n, Evt.of1 fun k => ?_, ht.1, fun _ => ht.2, fun h => by omega⟩
        unfold spec_l6Rd_pick.f
        rw [if_neg hn, e1, hz']
        simp only [spec_l6Rd_pick.j0]
        rw [e2, if_neg (by decide), if_pos hlt, if_pos h0, if_neg (by omega), hr2]
      · have e3 : wrap64 (wrap64 (p * 7) + 3) = p * 7 + 3 := by
          rw [wrap_in (n := p * 7) (by omega) (by omega)]
          exact wrap_in (by omega) (by omega)
        have ta := tmod_range (a := p) (n := (l.length : Int)) h0 hlen
        have tb := tmod_range (a := p * 7 + 3) (n := (l.length : Int)) (by omega) hlen
        have td := tdiv_range (a := p) (n := (l.length : Int)) h0 hlen
        have ra := rd_byte hl (Int.tmod p (l.length : Int))
        have rb := rd_byte hl (Int.tmod (p * 7 + 3) (l.length : Int))
        obtain ⟨x, hx, x0, x1⟩ := mix_range ra.1 ra.2 rb.1 rb.2 h0 (by omega) td.1 td.2
        have xd := tdiv_range (a := x) (n := 64) x0 (by decide)
        have xw : wrap64 (Int.tdiv x 64) = Int.tdiv x 64 := wrap_in (by omega) (by omega)
        have xx := xor_range (a := x) (b := Int.tdiv x 64) x0 x1 xd.1 (by omega)
        have tv := tmod_range (a := Go.bits .xor .i64 x (Int.tdiv x 64)) (n := n) xx.1 (by omega)
        refine ⟨Int.tmod (Go.bits .xor .i64 x (Int.tdiv x 64)) n, Evt.of1 fun k => ?_, tv.1, fun _ => tv.2, fun h => by omega⟩
        unfold spec_l6Rd_pick.f
        rw [if_neg hn, e1, hz']
        simp only [spec_l6Rd_pick.j0]
        rw [e2, e3, if_neg (by decide), if_neg hlt, if_neg (by omega), if_pos ta.1, if_pos ta.2, if_pos tb.1, if_pos tb.2, if_neg (by omega), hx, xw]
theorem open_ev {l : List Int} (hl : Bytes l) : ∃ s, spec_l6Open.f l = some (s, 0) ∧ Bytes s := by
  unfold spec_l6Open.f
  by_cases h : (l.length : Int) > 2000
  · exact ⟨l.take 2000, by rw [if_pos h, if_pos (by omega)], hl.take _⟩
  · exact ⟨l, by rw [if_neg h], hl⟩

theorem in_eq (a b c : Int) : impl_in.f a b c = some (decide (b ≤ a) && decide (a ≤ c)) := by
  unfold impl_in.f
  by_cases h : a ≥ b
  · rw [if_pos h]; simp [show b ≤ a from h]
  · rw [if_neg h]; simp [show ¬ b ≤ a from h]
theorem l6in_eq (a b c : Int) : spec_l6In.f a b c = some (decide (b ≤ a) && decide (a ≤ c)) := by
  unfold spec_l6In.f
  by_cases h : a ≥ b
  · rw [if_pos h]; simp [show b ≤ a from h]
  · rw [if_neg h]; simp [show ¬ b ≤ a from h]

def sOk (b : List Bool) (d : List Int) (i : Nat) : Bool :=
  (decide (rd d i = 0) || (decide (rd d i = 1) || decide (rd d i = 4))) && !((decide (i = 0) || decide (i = 1)) && (rdOf false b i || !decide (rd d i = 0)))
def sAll (b : List Bool) (d : List Int) : Nat → Nat → Bool
  | 0, _ => true
  | e + 1, i => sOk b d i && sAll b d e (i + 1)
theorem sAll_succ (b : List Bool) (d : List Int) (e i : Nat) : sAll b d (e + 1) i = (sOk b d i && sAll b d e (i + 1)) := rfl
def sigsOk (h b : List Bool) (d : List Int) : Bool := decide (h.length = 8) && (decide (b.length = 8) && (decide (d.length = 8) && sAll b d 8 0))
theorem sigsOk_len {h b : List Bool} {d : List Int} (k : sigsOk h b d = true) : h.length = 8 ∧ b.length = 8 ∧ d.length = 8 ∧ sAll b d 8 0 = true := by
  simpa [sigsOk] using k
theorem succ_is {i : Nat} (hi : i < 100) (n : Int) : wrap64 ((i : Int) + 1) = n ↔ (i : Int) + 1 = n := by rw [wrap_in (by omega) (by omega)]
theorem impl_sok_loop (h b : List Bool) (d : List Int) (hb : b.length = 8) (hd : d.length = 8) : ∀ (e i : Nat), i + e = 8 →
    Evt (fun k => impl_SigsOk.l0 k d (d.length : Int) (i : Int) h b d = some (sAll b d e i)) := by
  intro e
  induction e with
  | zero =>
    intro i hi
    refine Evt.of1 fun k => ?_
    simp only [impl_SigsOk.l0]
    rw [if_neg (by omega)]
    rfl
  | succ e ih =>
    intro i hi
    refine (ih (i + 1) (by omega)).step fun k hk => ?_
    have n1 : ((i : Int) + 1 = 1) ↔ i = 0 := by omega
    have n2 : ((i : Int) + 1 = 2) ↔ i = 1 := by omega
    simp only [impl_SigsOk.l0, succ_is (i := i) (by omega)]
    rw [nat_succ_wrap (by omega), hk]
    rw [if_pos (by omega), if_pos (by omega), if_pos (by omega)]
    have hbl : (i : Int) < (b.length : Int) := by omega
    simp only [if_pos hbl, n1, n2]
    rw [sAll_succ]
    unfold sOk
    generalize sAll b d e (i + 1) = R
    generalize rd d (i : Int) = v
    generalize rdOf false b (i : Int) = c
    clear hk ih hbl hd hb hi n1 n2
    by_cases c0 : i = 0
    · subst c0
      by_cases v0 : v = 0
      · subst v0; cases c <;> simp
      · by_cases v1 : v = 1
        · subst v1; cases c <;> simp
        · by_cases v4 : v = 4
          · subst v4; cases c <;> simp
          · simp [v0, v1, v4]
    · by_cases c1 : i = 1
      · subst c1
        by_cases v0 : v = 0
        · subst v0; cases c <;> simp
        · by_cases v1 : v = 1
          · subst v1; cases c <;> simp
          · by_cases v4 : v = 4
            · subst v4; cases c <;> simp
            · simp [v0, v1, v4]
      · by_cases v0 : v = 0
        · subst v0; simp [c0, c1]
        · by_cases v1 : v = 1
          · subst v1; simp [c0, c1]
          · by_cases v4 : v = 4
            · subst v4; simp [c0, c1]
            · simp [c0, v0, v1, v4]
theorem impl_sok_ev (h b : List Bool) (d : List Int) : Evt (fun k => impl_SigsOk.f k h b d = some (sigsOk h b d)) := by
  by_cases hh : h.length = 8
  · by_cases hb : b.length = 8
    · by_cases hd : d.length = 8
      · refine ((impl_sok_loop h b d hb hd 8 0 (by omega)).step (Q := fun k => impl_SigsOk.j0 k false h b d = some (sAll b d 8 0)) fun k hk => ?_).imp fun k hk => ?_
        · simp only [impl_SigsOk.j0]
          rw [if_neg (by decide)]
          exact hk
        · unfold impl_SigsOk.f sigsOk
          rw [if_pos (by omega), if_pos (by omega), show ((d.length : Int) != 8) = false from by simp [hd], hk]
          simp [hh, hb, hd]
      · refine Evt.of1 fun k => ?_
        unfold impl_SigsOk.f sigsOk
        rw [if_pos (by omega), if_pos (by omega), show ((d.length : Int) != 8) = true from by simp; omega]
        simp [impl_SigsOk.j0, hd]
    · refine Evt.of1 fun k => ?_
      unfold impl_SigsOk.f sigsOk
      rw [if_pos (by omega), if_neg (by omega)]
      simp [impl_SigsOk.j0, hb]
  · refine Evt.of1 fun k => ?_
    unfold impl_SigsOk.f sigsOk
    rw [if_neg (by omega)]
    simp [impl_SigsOk.j0, hh]

theorem fixed_eq (i : Nat) (hi : i < 100) : spec_l10Fixed.f (wrap64 ((i : Int) + 1)) = some (decide (i = 0) || decide (i = 1)) := by
  unfold spec_l10Fixed.f
  rw [wrap_in (by omega) (by omega)]
  by_cases c0 : i = 0
  · rw [if_pos (by omega)]
    simp [c0]
  · rw [if_neg (by omega)]
    simp only [c0, decide_false, Bool.false_or]
    congr 1
    by_cases c1 : i = 1
    · subst c1
      rfl
    · simp only [c1, decide_false]
      simp
      omega
theorem spec_sok_loop (h b : List Bool) (d : List Int) (hb : b.length = 8) (hd : d.length = 8) : ∀ (e i : Nat), i + e = 8 →
    Evt (fun k => spec_SigsOk.l0 k (i : Int) h b d = some (sAll b d e i)) := by
  intro e
  induction e with
  | zero =>
    intro i hi
    refine Evt.of1 fun k => ?_
    simp only [spec_SigsOk.l0]
    rw [if_neg (by omega)]
    rfl
  | succ e ih =>
    intro i hi
    refine (ih (i + 1) (by omega)).step fun k hk => ?_
    simp only [spec_SigsOk.l0, fixed_eq i (by omega), Option.bind_some]
    rw [nat_succ_wrap (by omega), hk]
    rw [if_pos (by omega), if_pos (by omega), if_pos (by omega)]
    have hbl : (i : Int) < (b.length : Int) := by omega
    simp only [if_pos hbl]
    rw [sAll_succ]
    unfold sOk
    generalize sAll b d e (i + 1) = R
    generalize rd d (i : Int) = v
    generalize rdOf false b (i : Int) = c
    generalize (decide (i = 0) || decide (i = 1)) = x
    clear hk ih hbl hd hb hi
    by_cases v0 : v = 0
    · subst v0; cases x <;> cases c <;> simp
    · by_cases v1 : v = 1
      · subst v1; cases x <;> cases c <;> simp
      · by_cases v4 : v = 4
        · subst v4; cases x <;> cases c <;> simp
        · simp [v0, v1, v4]
theorem spec_sok_ev (h b : List Bool) (d : List Int) : Evt (fun k => spec_SigsOk.f k h b d = some (sigsOk h b d)) := by
  by_cases hh : h.length = 8
  · by_cases hb : b.length = 8
    · by_cases hd : d.length = 8
      · refine ((spec_sok_loop h b d hb hd 8 0 (by omega)).step (Q := fun k => spec_SigsOk.j0 k false h b d = some (sAll b d 8 0)) fun k hk => ?_).imp fun k hk => ?_
        · simp only [spec_SigsOk.j0]
          rw [if_neg (by decide)]
          exact hk
        · unfold spec_SigsOk.f sigsOk
          rw [if_pos (by omega), if_pos (by omega), show ((d.length : Int) != 8) = false from by simp [hd], hk]
          simp [hh, hb, hd]
      · refine Evt.of1 fun k => ?_
        unfold spec_SigsOk.f sigsOk
        rw [if_pos (by omega), if_pos (by omega), show ((d.length : Int) != 8) = true from by simp; omega]
        simp [spec_SigsOk.j0, hd]
    · refine Evt.of1 fun k => ?_
      unfold spec_SigsOk.f sigsOk
      rw [if_pos (by omega), if_neg (by omega)]
      simp [spec_SigsOk.j0, hb]
  · refine Evt.of1 fun k => ?_
    unfold spec_SigsOk.f sigsOk
    rw [if_neg (by omega)]
    simp [spec_SigsOk.j0, hh]

theorem sclone_eq (h b : List Bool) (d : List Int) (hh : h.length < 1000000000) (hb : b.length < 1000000000) (hd : d.length < 1000000000) : impl_Sigs_clone.f h b d = some (h, b, d) := by
  unfold impl_Sigs_clone.f slices_Clone_bool_bool.f slices_Clone_int_int.f
  simp only [Option.bind_some]
  rw [if_pos (by simp; omega), if_pos (by simp; omega), if_pos (by simp; omega)]
  simp
theorem scopy_eq (h b : List Bool) (d : List Int) (hh : h.length < 1000000000) (hb : b.length < 1000000000) (hd : d.length < 1000000000) : spec_l10Copy.f h b d = some (h, b, d) := by
  unfold spec_l10Copy.f
  simp only [Option.bind_some]
  rw [if_pos (by simp; omega), if_pos (by simp; omega), if_pos (by simp; omega)]
  simp

theorem qdints_loop (a : List Int) (ha : a.length < 1000000000) : ∀ (d i : Nat), i + d = a.length → Evt (fun k => laws_qdInts.l0 k a a (i : Int) = some true) := by
  intro d
  induction d with
  | zero =>
    intro i hi
    refine Evt.of1 fun k => ?_
    simp only [laws_qdInts.l0]
    rw [if_neg (by omega)]
  | succ d ih =>
    intro i hi
    refine (ih (i + 1) (by omega)).step fun k hk => ?_
    simp only [laws_qdInts.l0]
    rw [if_pos (by omega), if_pos (by omega), if_pos (by omega), if_pos trivial, nat_succ_wrap (by omega)]
    exact hk
theorem qdints_refl (a : List Int) (ha : a.length < 1000000000) : Evt (fun k => laws_qdInts.f k a a = some true) := by
  refine (qdints_loop a ha a.length 0 (by omega)).imp fun k hk => ?_
  unfold laws_qdInts.f
  rw [if_pos rfl]
  exact hk

theorem qdbools_loop (a : List Bool) (ha : a.length < 1000000000) : ∀ (d i : Nat), i + d = a.length → Evt (fun k => laws_qdBools.l0 k a a (i : Int) = some true) := by
  intro d
  induction d with
  | zero =>
    intro i hi
    refine Evt.of1 fun k => ?_
    simp only [laws_qdBools.l0]
    rw [if_neg (by omega)]
  | succ d ih =>
    intro i hi
    refine (ih (i + 1) (by omega)).step fun k hk => ?_
    simp only [laws_qdBools.l0]
    rw [if_pos (by omega), if_pos (by omega), if_pos (by omega), if_neg (by simp), nat_succ_wrap (by omega)]
    exact hk
theorem qdbools_refl (a : List Bool) (ha : a.length < 1000000000) : Evt (fun k => laws_qdBools.f k a a = some true) := by
  refine (qdbools_loop a ha a.length 0 (by omega)).imp fun k hk => ?_
  unfold laws_qdBools.f
  rw [if_pos rfl]
  exact hk
theorem qdsigs_refl (h b : List Bool) (d : List Int) (hh : h.length < 1000000000) (hb : b.length < 1000000000) (hd : d.length < 1000000000) : Evt (fun k => laws_qdSigs.f k h b d h b d = some true) := by
  refine ((qdbools_refl h hh).and ((qdbools_refl b hb).and (qdints_refl d hd))).imp fun k hk => ?_
  unfold laws_qdSigs.f
  rw [hk.1]
  simp only [Option.bind_some, if_true]
  rw [hk.2.1]
  simp only [Option.bind_some, if_true]
  rw [hk.2.2]
  rfl

theorem new_eq : spec_SigsNew.f = some (List.replicate 8 false, List.replicate 8 false, List.replicate 8 0) := by
  unfold spec_SigsNew.f
  rw [if_pos (by omega), if_pos (by omega)]
theorem draws_loop {l : List Int} (hl : Bytes l) : ∀ (e i : Nat) (p : Int) (h b : List Bool) (d : List Int), i + e = 8 → h.length = 8 → b.length = 8 → d.length = 8 → 0 ≤ p → p + 3 * e < 800000 →
    ∃ h' b' d' p', Evt (fun k => spec_l92Sigs.l0 k (i : Int) l p h b d = some (h', b', d', p')) ∧ h'.length ≤ 8 ∧ b'.length = 8 ∧ d'.length = 8 ∧ p ≤ p' ∧ p' ≤ p + 3 * e + 3 := by
  intro e
  induction e with
  | zero =>
    intro i p h b d hi hh hb hd h0 h1
    obtain ⟨v, hv, v0, v1, _⟩ := pick_ev hl 24 h0 (by omega)
    by_cases c0 : v = 0
    · obtain ⟨w, hw, w0, w1, _⟩ := pick_ev hl (p := p + 1) 8 (by omega) (by omega)
      obtain ⟨x, hx, _, _, _⟩ := pick_ev hl (p := p + 1 + 1) 6 (by omega) (by omega)
      have w2 := w1 (by omega)
      refine ⟨h, b, d.set w.toNat x, p + 1 + 1 + 1, ((hv.and (hw.and hx)).step fun k hk => ?_), by omega, hb, by simpa using hd, by omega, by omega⟩
      simp only [spec_l92Sigs.l0]
      rw [if_neg (by omega), hk.1]
      simp only [Option.bind_some, if_pos c0]
      rw [hk.2.1]
      simp only [Option.bind_some]
      rw [hk.2.2]
      simp only [Option.bind_some]
      rw [if_pos w0, if_pos (by omega)]
    · by_cases c1 : v = 1
      · obtain ⟨w, hw, w0, w1, _⟩ := pick_ev hl (p := p + 1) 2 (by omega) (by omega)
        have w2 := w1 (by omega)
        refine ⟨h, b.set w.toNat true, d, p + 1 + 1, ((hv.and hw).step fun k hk => ?_), by omega, by simpa using hb, hd, by omega, by omega⟩
        simp only [spec_l92Sigs.l0]
        rw [if_neg (by omega), hk.1]
        simp only [Option.bind_some, if_neg c0, if_pos c1]
        rw [hk.2]
        simp only [Option.bind_some]
        rw [if_pos w0, if_pos (by omega)]
      · by_cases c2 : v = 2
        · refine ⟨h.drop (1 : Int).toNat, b, d, p + 1, (hv.step fun k hk => ?_), by simp; omega, hb, hd, by omega, by omega⟩
          simp only [spec_l92Sigs.l0]
          rw [if_neg (by omega), hk]
          simp only [Option.bind_some, if_neg c0, if_neg c1, if_pos c2]
          rw [if_pos (by omega)]
        · refine ⟨h, b, d, p + 1, (hv.step fun k hk => ?_), by omega, hb, hd, by omega, by omega⟩
          simp only [spec_l92Sigs.l0]
          rw [if_neg (by omega), hk]
          simp only [Option.bind_some, if_neg c0, if_neg c1, if_neg c2]
  | succ e ih =>
    intro i p h b d hi hh hb hd h0 h1
    obtain ⟨v, hv, v0, v1, _⟩ := pick_ev hl 3 h0 (by omega)
    by_cases cf : (decide (i = 0) || decide (i = 1)) = true
    · obtain ⟨h', b', d', p', hr, r1, r2, r3, r4, r5⟩ := ih (i + 1) (p + 1) (h.set i (v == 0)) b d (by omega) (by simpa using hh) hb hd (by omega) (by omega)
      refine ⟨h', b', d', p', ((hv.and hr).step fun k hk => ?_), r1, r2, r3, by omega, by omega⟩
      simp only [spec_l92Sigs.l0]
      rw [if_pos (by omega)]
      refine bind_of hk.1 ?_
      rw [if_pos (by omega), if_pos (by omega)]
      refine bind_of rfl ?_
      refine bind_of (fixed_eq i (by omega)) ?_
      rw [if_pos cf, nat_succ_wrap (by omega)]
      exact hk.2
    · obtain ⟨x, hx, x0, x1, _⟩ := pick_ev hl (p := p + 1) 3 (by omega) (by omega)
      obtain ⟨w, hw, w0, w1, _⟩ := pick_ev hl (p := p + 1 + 1) 4 (by omega) (by omega)
      have w2 := w1 (by omega)
      obtain ⟨h', b', d', p', hr, r1, r2, r3, r4, r5⟩ := ih (i + 1) (p + 1 + 1 + 1) (h.set i (v == 0)) (b.set i (x == 0)) (d.set i (rd [0, 0, 1, 4] w)) (by omega) (by simpa using hh) (by simpa using hb) (by simpa using hd) (by omega) (by omega)
      refine ⟨h', b', d', p', ((hv.and (hx.and (hw.and hr))).step fun k hk => ?_), r1, r2, r3, by omega, by omega⟩
      simp only [spec_l92Sigs.l0]
      rw [if_pos (by omega)]
      refine bind_of hk.1 ?_
      rw [if_pos (by omega), if_pos (by omega)]
      refine bind_of rfl ?_
      refine bind_of (fixed_eq i (by omega)) ?_
      rw [if_neg cf]
      refine bind_of hk.2.1 ?_
      rw [if_pos (by omega)]
      refine bind_of rfl ?_
      refine bind_of hk.2.2.1 ?_
      rw [if_pos w0, if_pos (show w < (([0, 0, 1, 4] : List Int).length : Int) from by simpa using w2), if_pos (by omega), nat_succ_wrap (by omega)]
      exact hk.2.2.2
theorem drawsigs_ev {l : List Int} (hl : Bytes l) {p : Int} (h0 : 0 ≤ p) (h1 : p < 700000) :
    ∃ h b d p', Evt (fun k => spec_l92Sigs.f k l p = some (h, b, d, p')) ∧ h.length ≤ 8 ∧ b.length = 8 ∧ d.length = 8 ∧ p ≤ p' ∧ p' ≤ p + 30 := by
  obtain ⟨h, b, d, p', hr, r1, r2, r3, r4, r5⟩ := draws_loop hl 8 0 p (List.replicate 8 false) (List.replicate 8 false) (List.replicate 8 0) (by omega) (by simp) (by simp) (by simp) h0 (by omega)
  refine ⟨h, b, d, p', hr.imp fun k hk => ?_, r1, r2, r3, r4, by omega⟩
  unfold spec_l92Sigs.f
  rw [new_eq]
  exact hk

theorem sigsOk_h {h h' b : List Bool} {d : List Int} (k : sigsOk h b d = true) (hl : h'.length = h.length) : sigsOk h' b d = true := by
  obtain ⟨q1, q2, q3, q4⟩ := sigsOk_len k
  simp [sigsOk, hl, q1, q2, q3, q4]
theorem rdOf_set (h : List Bool) (m j : Nat) (v : Bool) (hm : m < h.length) : rdOf false (h.set m v) (j : Int) = if m = j then v else rdOf false h (j : Int) := by
  unfold rdOf
  rw [Int.toNat_natCast, List.getD_eq_getElem?_getD, List.getD_eq_getElem?_getD, List.getElem?_set]
  by_cases c : m = j
  · rw [if_pos c, if_pos c, if_pos (by omega)]
    rfl
  · rw [if_neg c, if_neg c]

def usualOf (n : Int) : Int := if n = 2 then 2 else if n = 6 then 2 else if n = 3 then 3 else if n = 4 then 1 else if n = 7 then 1 else 0
def sdoes (d : List Int) (n : Int) : Int := if rd d (n - 1) = 0 then usualOf n else rd d (n - 1)
theorem usual_ev (n : Int) : Evt (fun k => impl_usual.f k n = some (usualOf n)) := by
  refine Evt.of1 fun k => ?_
  unfold impl_usual.f usualOf
  simp only [impl_usual.j0]
  by_cases c2 : n = 2
  · rw [if_pos c2, if_pos c2, if_pos (by simpa using c2)]
  · rw [if_neg c2, if_neg c2]
    by_cases c6 : n = 6
    · rw [if_pos (by simpa using c6), if_pos c6]
    · rw [if_neg (by simpa using c6), if_neg c6]
      repeat' split
      all_goals rfl
theorem does_ev (h b : List Bool) (d : List Int) (hd : d.length = 8) (m : Nat) (hm : m < 8) : Evt (fun k => impl_Sigs_does.f k h b d ((m : Int) + 1) = some (sdoes d ((m : Int) + 1))) := by
  refine (usual_ev ((m : Int) + 1)).imp fun k hk => ?_
  have e1 : wrap64 ((m : Int) + 1 - 1) = (m : Int) := by rw [wrap_in (by omega) (by omega)]; omega
  unfold impl_Sigs_does.f sdoes
  rw [e1, if_pos (by omega), if_pos (by omega), show (m : Int) + 1 - 1 = m by omega]
  by_cases c : rd d (m : Int) = 0
  · rw [if_pos c, if_pos c]
    refine bind_of hk ?_
    rfl
  · rw [if_neg c, if_neg c]

theorem l10does_ev (h b : List Bool) (d : List Int) (hd : d.length = 8) (m : Nat) (hm : m < 8) : Evt (fun k => spec_l10Does.f k h b d ((m : Int) + 1) = some (sdoes d ((m : Int) + 1))) := by
  refine Evt.of1 fun k => ?_
  have e1 : wrap64 ((m : Int) + 1 - 1) = (m : Int) := by rw [wrap_in (by omega) (by omega)]; omega
  unfold spec_l10Does.f sdoes usualOf
  simp only [spec_l10Does.j0]
  rw [e1, if_pos (by omega), if_pos (by omega), show (m : Int) + 1 - 1 = m by omega]
  generalize (m : Int) + 1 = n
  by_cases c : rd d (m : Int) = 0
  · rw [if_pos c, if_pos c]
    by_cases c2 : n = 2
    · rw [if_pos c2, if_pos c2, if_pos trivial]
    · rw [if_neg c2, if_neg c2]
      by_cases c6 : n = 6
      · rw [if_pos (by simpa using c6), if_pos c6]
      · rw [if_neg (by simpa using c6), if_neg c6]
        repeat' split
        all_goals rfl
  · rw [if_neg c, if_neg c]

theorem len8 {α : Type} : ∀ (l : List α), l.length = 8 → ∃ a0 a1 a2 a3 a4 a5 a6 a7, l = [a0, a1, a2, a3, a4, a5, a6, a7]
  | [a0, a1, a2, a3, a4, a5, a6, a7], _ => ⟨a0, a1, a2, a3, a4, a5, a6, a7, rfl⟩
def sendH (h : List Bool) (m : Nat) : List Bool := if m = 1 ∨ m = 5 then h.set 2 false else if m = 2 then (h.set 1 false).set 5 false else h
def sendR (h b : List Bool) (d : List Int) (m : Nat) : List Bool := if rdOf false b (m : Int) = true ∨ sdoes d ((m : Int) + 1) ≠ 1 then (sendH h m).set m true else sendH h m
theorem sendH_len (h : List Bool) (m : Nat) : (sendH h m).length = h.length := by
  unfold sendH
  repeat' split
  all_goals simp
theorem sendR_len (h b : List Bool) (d : List Int) (m : Nat) : (sendR h b d m).length = h.length := by
  unfold sendR
  split
  · simp [sendH_len]
  · exact sendH_len h m
def sigsSend (h b : List Bool) (d : List Int) (n : Int) : List Bool × List Bool × List Int × Bool :=
  if sigsOk h b d = true ∧ 1 ≤ n ∧ n ≤ 8 then (sendR h b d (n - 1).toNat, b, d, true) else ([], [], [], false)
theorem send_tail {y h b : List Bool} {d : List Int} {m : Nat} {g : Option Int} {v : Int} (hg : g = some v) (hb : m < b.length) (hh : m < h.length) :
    (if 0 ≤ (m : Int) then (if (m : Int) < (b.length : Int) then (if rdOf false b (m : Int) = true then (if (m : Int) < (h.length : Int) then (some ((y.set ((m : Int)).toNat true), b, d, true)) else (none)) else (g.bind fun t => (if t = 1 then (some (y, b, d, true)) else (if (m : Int) < (h.length : Int) then (some ((y.set ((m : Int)).toNat true), b, d, true)) else (none))))) else (none)) else (none))
      = some (if rdOf false b (m : Int) = true ∨ v ≠ 1 then y.set m true else y, b, d, true) := by
  have h1 : (m : Int) < (h.length : Int) := by omega
  rw [if_pos (by omega), if_pos (by omega), hg]
  simp only [Option.bind_some, if_pos h1, Int.toNat_natCast]
  by_cases c : rdOf false b (m : Int) = true
  · rw [if_pos c, if_pos (.inl c)]
  · rw [if_neg c]
    by_cases c1 : v = 1
    · rw [if_pos c1, if_neg (by simp [c, c1])]
    · rw [if_neg c1, if_pos (.inr c1)]
theorem impl_send_ev (h b : List Bool) (d : List Int) (n : Int) : Evt (fun k => impl_SigsSend.f k h b d n = some (sigsSend h b d n)) := by
  have hs := impl_sok_ev h b d
  cases hok : sigsOk h b d with
  | false =>
    rw [hok] at hs
    refine (hs.and (Evt.of1 (P := fun k => impl_SigsSend.j0 k n true h b d = some ([], [], [], false)) fun k => ?_)).imp fun k hk => ?_
    · simp only [impl_SigsSend.j0]
      rw [if_pos trivial]
    · unfold impl_SigsSend.f sigsSend
      refine bind_of hk.1 ?_
      rw [if_neg (by decide), if_neg (by simp [hok])]
      exact hk.2
  | true =>
    obtain ⟨q1, q2, q3, _⟩ := sigsOk_len hok
    rw [hok] at hs
    by_cases hn : 1 ≤ n ∧ n ≤ 8
    · obtain ⟨m, hm, rfl⟩ : ∃ m : Nat, m < 8 ∧ n = (m : Int) + 1 := ⟨(n - 1).toNat, by omega, by omega⟩
      have e1 : wrap64 ((m : Int) + 1 - 1) = (m : Int) := by rw [wrap_in (by omega) (by omega)]; omega
      have j1 : Evt (fun k => impl_SigsSend.j1 k ((m : Int) + 1) ((m : Int) + 1) (decide (m = 1 ∨ m = 5)) h b d h b d = some (sendR h b d m, b, d, true)) := by
        refine (does_ev h b d q3 m hm).step fun k hk => ?_
        simp only [impl_SigsSend.j1, e1]
        unfold sendR sendH
        by_cases c : m = 1 ∨ m = 5
        · rw [if_pos (by simpa using c), if_pos (by omega)]
          refine bind_of rfl ?_
          rw [send_tail hk (by omega) (by omega), if_pos c]
          rfl
        · rw [if_neg (by simpa using c)]
          by_cases c2 : m = 2
          · rw [if_pos (by omega), if_pos (by omega), if_pos (by omega)]
            refine bind_of rfl ?_
            rw [send_tail hk (by omega) (by omega), if_neg c, if_pos c2]
            rfl
          · rw [if_neg (by omega), send_tail hk (by omega) (by omega), if_neg c, if_neg c2]
      have j0 : Evt (fun k => impl_SigsSend.j0 k ((m : Int) + 1) false h b d = some (sendR h b d m, b, d, true)) := by
        refine j1.step fun k hk => ?_
        simp only [impl_SigsSend.j0]
        rw [if_neg (by decide)]
        refine bind_of (sclone_eq h b d (by omega) (by omega) (by omega)) ?_
        by_cases c : (m : Int) + 1 = 2
        · rw [if_pos c, show (((m : Int) + 1) == 2) = decide (m = 1 ∨ m = 5) from by rw [Bool.eq_iff_iff]; simp; omega]
          exact hk
        · rw [if_neg c, show (((m : Int) + 1) == 6) = decide (m = 1 ∨ m = 5) from by rw [Bool.eq_iff_iff]; simp; omega]
          exact hk
      refine (hs.and j0).imp fun k hk => ?_
      unfold impl_SigsSend.f sigsSend
      refine bind_of hk.1 ?_
      rw [if_pos rfl, if_pos ⟨hok, hn⟩]
      refine bind_of (in_eq _ _ _) ?_
      rw [show (decide ((1 : Int) ≤ (m : Int) + 1) && decide ((m : Int) + 1 ≤ 8)) = true from by simp; omega, show ((m : Int) + 1 - 1).toNat = m by omega]
      exact hk.2
    · refine (hs.and (Evt.of1 (P := fun k => impl_SigsSend.j0 k n true h b d = some ([], [], [], false)) fun k => ?_)).imp fun k hk => ?_
      · simp only [impl_SigsSend.j0]
        rw [if_pos trivial]
      · unfold impl_SigsSend.f sigsSend
        refine bind_of hk.1 ?_
        rw [if_pos rfl, if_neg (fun z => hn z.2)]
        refine bind_of (in_eq _ _ _) ?_
        rw [show (decide ((1 : Int) ≤ n) && decide (n ≤ 8)) = false from by rw [← Bool.not_eq_true]; simpa using hn]
        exact hk.2
theorem spec_tail {y h b : List Bool} {d : List Int} {m : Nat} {g : Option Int} {v : Int} (hg : g = some v) (hb : m < b.length) (hh : m < h.length) :
    (g.bind fun t278 => (if t278 = 1 then (if 0 ≤ (m : Int) then (if (m : Int) < (b.length : Int) then (if rdOf false b (m : Int) = true then (if (m : Int) < (h.length : Int) then (some ((y.set ((m : Int)).toNat true), b, d)) else (none)) else (some (y, b, d))) else (none)) else (none)) else (if 0 ≤ (m : Int) then (if (m : Int) < (h.length : Int) then (some ((y.set ((m : Int)).toNat true), b, d)) else (none)) else (none))))
      = some (if rdOf false b (m : Int) = true ∨ v ≠ 1 then y.set m true else y, b, d) := by
  refine bind_of hg ?_
  have h1 : (m : Int) < (h.length : Int) := by omega
  have h2 : (m : Int) < (b.length : Int) := by omega
  have h0 : 0 ≤ (m : Int) := by omega
  simp only [if_pos h1, if_pos h2, if_pos h0, Int.toNat_natCast]
  by_cases c1 : v = 1
  · rw [if_pos c1]
    by_cases c : rdOf false b (m : Int) = true
    · rw [if_pos c, if_pos (.inl c)]
    · rw [if_neg c, if_neg (by simp [c, c1])]
  · rw [if_neg c1, if_pos (.inr c1)]
theorem l10send_ev (h b : List Bool) (d : List Int) (q1 : h.length = 8) (q2 : b.length = 8) (q3 : d.length = 8) (m : Nat) (hm : m < 8) : Evt (fun k => spec_l10Send.f k h b d ((m : Int) + 1) = some (sendR h b d m, b, d)) := by
  have e1 : wrap64 ((m : Int) + 1 - 1) = (m : Int) := by rw [wrap_in (by omega) (by omega)]; omega
  have j1 : Evt (fun k => spec_l10Send.j0 k ((m : Int) + 1) ((m : Int) + 1) (decide (m = 1 ∨ m = 5)) h b d = some (sendR h b d m, b, d)) := by
    refine ((l10does_ev (h.set 2 false) b d q3 m hm).and ((l10does_ev ((h.set 1 false).set 5 false) b d q3 m hm).and (l10does_ev h b d q3 m hm))).step fun k hk => ?_
    simp only [spec_l10Send.j0, e1]
    unfold sendR sendH
    by_cases c : m = 1 ∨ m = 5
    · rw [if_pos (by simpa using c), if_pos (by omega)]
      refine bind_of rfl ?_
      rw [show (2 : Int).toNat = 2 from rfl, spec_tail hk.1 (by omega) (by omega), if_pos c]
    · rw [if_neg (by simpa using c)]
      by_cases c2 : m = 2
      · rw [if_pos (by omega), if_pos (by omega), if_pos (by omega)]
        refine bind_of rfl ?_
        rw [show (1 : Int).toNat = 1 from rfl, show (5 : Int).toNat = 5 from rfl, spec_tail hk.2.1 (by omega) (by omega), if_neg c, if_pos c2]
      · rw [if_neg (by omega), spec_tail hk.2.2 (by omega) (by omega), if_neg c, if_neg c2]
  refine j1.imp fun k hk => ?_
  unfold spec_l10Send.f
  by_cases c : (m : Int) + 1 = 2
  · rw [if_pos c, show (((m : Int) + 1) == 2) = decide (m = 1 ∨ m = 5) from by rw [Bool.eq_iff_iff]; simp; omega]
    exact hk
  · rw [if_neg c, show (((m : Int) + 1) == 6) = decide (m = 1 ∨ m = 5) from by rw [Bool.eq_iff_iff]; simp; omega]
    exact hk
theorem spec_send_ev (h b : List Bool) (d : List Int) (n : Int) : Evt (fun k => spec_SigsSend.f k h b d n = some (sigsSend h b d n)) := by
  have hs := spec_sok_ev h b d
  cases hok : sigsOk h b d with
  | false =>
    rw [hok] at hs
    refine (hs.and (Evt.of1 (P := fun k => spec_SigsSend.j0 k n true h b d = some ([], [], [], false)) fun k => ?_)).imp fun k hk => ?_
    · simp only [spec_SigsSend.j0]
      rw [if_pos trivial]
    · unfold spec_SigsSend.f sigsSend
      refine bind_of hk.1 ?_
      rw [if_neg (by decide), if_neg (by simp [hok])]
      exact hk.2
  | true =>
    obtain ⟨q1, q2, q3, _⟩ := sigsOk_len hok
    rw [hok] at hs
    by_cases hn : 1 ≤ n ∧ n ≤ 8
    · obtain ⟨m, hm, rfl⟩ : ∃ m : Nat, m < 8 ∧ n = (m : Int) + 1 := ⟨(n - 1).toNat, by omega, by omega⟩
      have j0 : Evt (fun k => spec_SigsSend.j0 k ((m : Int) + 1) false h b d = some (sendR h b d m, b, d, true)) := by
        refine (l10send_ev h b d q1 q2 q3 m hm).step fun k hk => ?_
        simp only [spec_SigsSend.j0]
        rw [if_neg (by decide)]
        refine bind_of (scopy_eq h b d (by omega) (by omega) (by omega)) ?_
        refine bind_of hk ?_
        rfl
      refine (hs.and j0).imp fun k hk => ?_
      unfold spec_SigsSend.f sigsSend
      refine bind_of hk.1 ?_
      rw [if_pos rfl, if_pos ⟨hok, hn⟩]
      refine bind_of (l6in_eq _ _ _) ?_
      rw [show (decide ((1 : Int) ≤ (m : Int) + 1) && decide ((m : Int) + 1 ≤ 8)) = true from by simp; omega, show ((m : Int) + 1 - 1).toNat = m by omega]
      exact hk.2
    · refine (hs.and (Evt.of1 (P := fun k => spec_SigsSend.j0 k n true h b d = some ([], [], [], false)) fun k => ?_)).imp fun k hk => ?_
      · simp only [spec_SigsSend.j0]
        rw [if_pos trivial]
      · unfold spec_SigsSend.f sigsSend
        refine bind_of hk.1 ?_
        rw [if_pos rfl, if_neg (fun z => hn z.2)]
        refine bind_of (l6in_eq _ _ _) ?_
        rw [show (decide ((1 : Int) ≤ n) && decide (n ≤ 8)) = false from by rw [← Bool.not_eq_true]; simpa using hn]
        exact hk.2
theorem sigsSend_len (h b : List Bool) (d : List Int) (n : Int) : (sigsSend h b d n).1.length ≤ h.length ∧ (sigsSend h b d n).2.1.length ≤ b.length ∧ (sigsSend h b d n).2.2.1.length ≤ d.length := by
  unfold sigsSend
  split
  · simp [sendR_len]
  · simp
theorem sigsSend_cases (h b : List Bool) (d : List Int) (n : Int) : (sigsSend h b d n = ([], [], [], false)) ∨ (sigsOk h b d = true ∧ ∃ m : Nat, m < 8 ∧ n = (m : Int) + 1 ∧ sigsSend h b d n = (sendR h b d m, b, d, true)) := by
  unfold sigsSend
  by_cases c : sigsOk h b d = true ∧ 1 ≤ n ∧ n ≤ 8
  · exact .inr ⟨c.1, (n - 1).toNat, by omega, by omega, by rw [if_pos c]⟩
  · exact .inl (by rw [if_neg c])

theorem sendH_idem (h : List Bool) (hh : h.length = 8) (m : Nat) (hm : m < 8) : sendH (sendH h m) m = sendH h m ∧ (sendH ((sendH h m).set m true) m).set m true = (sendH h m).set m true := by
  obtain ⟨a0, a1, a2, a3, a4, a5, a6, a7, rfl⟩ := len8 h hh
  rcases (by omega : m = 0 ∨ m = 1 ∨ m = 2 ∨ m = 3 ∨ m = 4 ∨ m = 5 ∨ m = 6 ∨ m = 7) with rfl | rfl | rfl | rfl | rfl | rfl | rfl | rfl <;> exact ⟨rfl, rfl⟩
theorem sendR_idem (h b : List Bool) (d : List Int) (hh : h.length = 8) (m : Nat) (hm : m < 8) : sendR (sendR h b d m) b d m = sendR h b d m := by
  obtain ⟨i1, i2⟩ := sendH_idem h hh m hm
  unfold sendR
  split
  · exact i2
  · exact i1
theorem sendR_here (h b : List Bool) (d : List Int) (hh : h.length = 8) (m : Nat) (hm : m < 8) (c : rdOf false b (m : Int) = true ∨ sdoes d ((m : Int) + 1) ≠ 1) : rdOf false (sendR h b d m) (m : Int) = true := by
  unfold sendR
  rw [if_pos c, rdOf_set _ _ _ _ (by rw [sendH_len]; omega), if_pos rfl]
theorem drawsend_ev {l : List Int} (hl : Bytes l) : ∃ h b d n, Evt (fun k => spec_DrawSigsSend.f k l = some (h, b, d, n)) ∧ h.length ≤ 8 ∧ b.length = 8 ∧ d.length = 8 := by
  obtain ⟨s, hs, hsb⟩ := open_ev hl
  obtain ⟨h, b, d, p', hdr, r1, r2, r3, r4, r5⟩ := drawsigs_ev hsb (p := 0) (by omega) (by omega)
  obtain ⟨v, hv, _⟩ := pick_ev hsb (p := p') 11 (by omega) (by omega)
  refine ⟨h, b, d, wrap64 (v - 1), (hdr.and hv).imp fun k hk => ?_, r1, r2, r3⟩
  unfold spec_DrawSigsSend.f
  refine bind_of hs ?_
  refine bind_of hk.1 ?_
  refine bind_of hk.2 ?_
  rfl
theorem FnSigsSend : laws_FnSigsSend.Pure := by
  intro l0 _ _ hb0
  by_cases hlen : (l0.length : Int) > 1048576
  · exact ⟨0, by unfold laws_FnSigsSend.f; rw [if_pos hlen]⟩
  obtain ⟨h, b, d, n, hdr, r1, r2, r3⟩ := drawsend_ev (bytes_of hb0)
  have h1 := impl_send_ev h b d n
  have h2 := spec_send_ev h b d n
  have hlens := sigsSend_len h b d n
  have hc := sigsSend_cases h b d n
  generalize hgen : sigsSend h b d n = z at h1 h2 hlens hc
  obtain ⟨zh, zb, zd, zo⟩ := z
  simp only at hlens
  have h3 := qdsigs_refl zh zb zd (by omega) (by omega) (by omega)
  have hj0 : Evt (fun k => laws_FnSigsSend.j0 k n zo true h b d zh zb zd = some true) := by
    have hj1 : Evt (fun k => laws_FnSigsSend.j1 k n true (!zo) h b d zh zb zd = some true) := by
      rcases hc with c | ⟨hok, m, hm, rfl, c⟩
      · simp only [Prod.mk.injEq] at c
        obtain ⟨rfl, rfl, rfl, rfl⟩ := c
        refine Evt.of1 fun k => ?_
        simp only [laws_FnSigsSend.j1]
        rw [if_pos (by decide)]
      · obtain ⟨q1, q2, q3, _⟩ := sigsOk_len hok
        simp only [Prod.mk.injEq] at c
        obtain ⟨c1, c2, c3, rfl⟩ := c
        subst c2 c3
        have hok2 : sigsOk zh zb zd = true := sigsOk_h hok (by rw [c1, sendR_len])
        have e4 : sigsSend zh zb zd ((m : Int) + 1) = (zh, zb, zd, true) := by
          unfold sigsSend
          rw [if_pos ⟨hok2, by omega, by omega⟩, show ((m : Int) + 1 - 1).toNat = m by omega, c1, sendR_idem h zb zd q1 m hm]
        have e5 := impl_send_ev zh zb zd ((m : Int) + 1)
        rw [e4] at e5
        have e6 := impl_sok_ev zh zb zd
        rw [hok2] at e6
        have e1 : wrap64 ((m : Int) + 1 - 1) = (m : Int) := by rw [wrap_in (by omega) (by omega)]; omega
        have hzl : zh.length = 8 := by rw [c1, sendR_len, q1]
        have hh := sendR_here h zb zd q1 m hm
        rw [← c1] at hh
        refine ((e5.and e6).and h3).step fun k hk => ?_
        simp only [laws_FnSigsSend.j1, e1]
        rw [if_neg (by decide)]
        refine bind_of hk.1.1 ?_
        have l1 : (m : Int) < (zb.length : Int) := by omega
        have l2 : (m : Int) < (zh.length : Int) := by omega
        have l3 : (m : Int) < (zd.length : Int) := by omega
        have l0 : (0 : Int) ≤ (m : Int) := by omega
        rw [if_pos l0, if_pos l3]
        simp only [if_pos l1, if_pos l2]
        have es : sdoes zd ((m : Int) + 1) = if rd zd (m : Int) = 0 then usualOf ((m : Int) + 1) else rd zd (m : Int) := by
          unfold sdoes
          rw [show (m : Int) + 1 - 1 = m by omega]
        have fin : (if rdOf false zb (m : Int) = true then some (rdOf false zh (m : Int)) else some true) = some true := by
          by_cases cb : rdOf false zb (m : Int) = true
          · rw [if_pos cb, hh (.inl cb)]
          · rw [if_neg cb]
        by_cases cd : rd zd (m : Int) = 1
        · rw [if_pos cd]
          refine bind_of hk.1.2 ?_
          rw [if_pos rfl, if_pos trivial]
          refine bind_of hk.2 ?_
          rw [if_pos rfl]
          exact fin
        · rw [if_neg cd]
          by_cases c0 : rd zd (m : Int) = 0
          · rw [if_pos c0] at es ⊢
            by_cases c4 : (m : Int) + 1 = 4
            · rw [if_pos c4]
              refine bind_of hk.1.2 ?_
              rw [if_pos rfl, if_pos trivial]
              refine bind_of hk.2 ?_
              rw [if_pos rfl]
              exact fin
            · rw [if_neg c4]
              refine bind_of hk.1.2 ?_
              rw [if_pos rfl, if_pos trivial]
              refine bind_of hk.2 ?_
              rw [if_pos rfl]
              by_cases c7 : (m : Int) + 1 = 7
              · rw [if_pos c7]
                exact fin
              · rw [if_neg c7]
                have : sdoes zd ((m : Int) + 1) ≠ 1 := by
                  rw [es]
                  unfold usualOf
                  repeat' split
                  all_goals omega
                rw [hh (.inr this)]
          · rw [if_neg c0] at es ⊢
            refine bind_of hk.1.2 ?_
            rw [if_pos rfl, if_pos trivial]
            refine bind_of hk.2 ?_
            rw [if_pos rfl, hh (.inr (by rw [es]; exact cd))]
    refine hj1.step fun k hk => ?_
    simp only [laws_FnSigsSend.j0]
    rw [if_pos trivial]
    exact hk
  refine Evt.some_ (((hdr.and h1).and ((h2.and h3).and hj0)).imp fun k hk => ?_)
  obtain ⟨⟨k1, k4⟩, ⟨k5, k6⟩, k7⟩ := hk
  unfold laws_FnSigsSend.f
  rw [if_neg hlen]
  refine bind_of k1 ?_
  refine bind_of k4 ?_
  refine bind_of k5 ?_
  refine bind_of k6 ?_
  rw [if_pos rfl]
  simp only [beq_self_eq_true]
  exact k7

end Go.Proofs.Ytiifanjjohophaa.Pure
