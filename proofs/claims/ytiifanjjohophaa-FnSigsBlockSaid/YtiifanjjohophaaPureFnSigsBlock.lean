/- Proved: for every code, the law FnSigsBlock answers true and leaves its arguments as they were (two signals are never blocked). No condition beyond the row's own. -/
import Derived.Test.YtiifanjjohophaaPFnSigsBlockx11
import Derived.Test.YtiifanjjohophaaAuxFnSigsBlock
namespace Go.Proofs.Ytiifanjjohophaa.Pure
open Go.RowKit Go.Proofs.Ytiifanjjohophaa.PFnSigsBlock Go.Proofs.YtiifanjjohophaaW.PrintWords Go.Proofs.YtiifanjjohophaaW.PrintLast Go.Proofs.YtiifanjjohophaaW.PrintMore Go.Proofs.Ytiifanjjohophaa.Aux
theorem pick_ev {l : List Int} (hl : Bytes l) {p : Int} (n : Int) (h0 : 0 ≤ p) (h1 : p < 1000000) :
    ∃ v, Evt (fun k => spec_l6Rd_pick.f k l p n = some (v, p + 1)) ∧ 0 ≤ v ∧ (1 ≤ n → v < n) ∧ (n < 1 → v = 0) := by
  have e1 : wrap64 (p + 1) = p + 1 := wrap_in (by omega) (by omega)
  have e2 : wrap64 (p + 1 - 1) = p := by rw [Int.add_sub_cancel]; exact wrap_in (by omega) (by omega)
  by_cases hn : n < 1
  · refine ⟨0, Evt.of1 fun k => ?_, by omega, by omega, fun _ => rfl⟩
    unfold spec_l6Rd_pick.f
    rw [if_pos hn, e1]
    simp only [spec_l6Rd_pick.j0, if_true]
  · by_cases hz : l.length = 0
    · refine ⟨0, Evt.of1 fun k => ?_, by omega, by omega, fun _ => rfl⟩
      unfold spec_l6Rd_pick.f
      have hz' : ((l.length : Int) == 0) = true := by simp [hz]
      rw [if_neg hn, e1, hz']
      simp only [spec_l6Rd_pick.j0, if_true]
    · have hz' : ((l.length : Int) == 0) = false := by simpa using hz
      have hlen : (0 : Int) < (l.length : Int) := by omega
      by_cases hlt : p < (l.length : Int)
      · have hr := rd_byte hl p
        have hr2 : wrap64 (rd l p) = rd l p := wrap_in (by omega) (by omega)
        have ht := tmod_range (a := rd l p) (n := n) (by omega) (by omega)
        refine ⟨Int.tmod (rd l p) n, Evt.of1 fun k => ?_, ht.1, fun _ => ht.2, fun h => by omega⟩
        unfold spec_l6Rd_pick.f
        rw [if_neg hn, e1, hz']
        simp only [spec_l6Rd_pick.j0]
        rw [e2, if_neg (by decide), if_pos hlt, if_pos h0, if_neg (by omega), hr2]
      · have e3 : wrap64 (wrap64 (p * 7) + 3) = p * 7 + 3 := by
          rw [wrap_in (n := p * 7) (by omega) (by omega)]
          exact wrap_in (by omega) (by omega)
        have ta := tmod_range (a := p) (n := (l.length : Int)) h0 hlen
        have tb := tmod_range (a := p * 7 + 3) (n := (l.length : Int)) (by omega) hlen
        have td := tdiv_range (a := p) (n := (l.length : Int)) h0 hlen
        have ra := rd_byte hl (Int.tmod p (l.length : Int))
        have rb := rd_byte hl (Int.tmod (p * 7 + 3) (l.length : Int))
        obtain ⟨x, hx, x0, x1⟩ := mix_range ra.1 ra.2 rb.1 rb.2 h0 (by omega) td.1 td.2
        have xd := tdiv_range (a := x) (n := 64) x0 (by decide)
        have xw : wrap64 (Int.tdiv x 64) = Int.tdiv x 64 := wrap_in (by omega) (by omega)
        have xx := xor_range (a := x) (b := Int.tdiv x 64) x0 x1 xd.1 (by omega)
        have tv := tmod_range (a := Go.bits .xor .i64 x (Int.tdiv x 64)) (n := n) xx.1 (by omega)
        refine ⟨Int.tmod (Go.bits .xor .i64 x (Int.tdiv x 64)) n, Evt.of1 fun k => ?_, tv.1, fun _ => tv.2, fun h => by omega⟩
        unfold spec_l6Rd_pick.f
        rw [if_neg hn, e1, hz']
        simp only [spec_l6Rd_pick.j0]
        rw [e2, e3, if_neg (by decide), if_neg hlt, if_neg (by omega), if_pos ta.1, if_pos ta.2, if_pos tb.1, if_pos tb.2, if_neg (by omega), hx, xw]
theorem open_ev {l : List Int} (hl : Bytes l) : ∃ s, spec_l6Open.f l = some (s, 0) ∧ Bytes s := by
  unfold spec_l6Open.f
  by_cases h : (l.length : Int) > 2000
  · exact ⟨l.take 2000, by rw [if_pos h, if_pos (by omega)], hl.take _⟩
  · exact ⟨l, by rw [if_neg h], hl⟩

def sOk (b : List Bool) (d : List Int) (i : Nat) : Bool :=
  (decide (rd d i = 0) || (decide (rd d i = 1) || decide (rd d i = 4))) && !((decide (i = 0) || decide (i = 1)) && (rdOf false b i || !decide (rd d i = 0)))
def sAll (b : List Bool) (d : List Int) : Nat → Nat → Bool
  | 0, _ => true
  | e + 1, i => sOk b d i && sAll b d e (i + 1)
theorem sAll_succ (b : List Bool) (d : List Int) (e i : Nat) : sAll b d (e + 1) i = (sOk b d i && sAll b d e (i + 1)) := rfl
def sigsOk (h b : List Bool) (d : List Int) : Bool := decide (h.length = 8) && (decide (b.length = 8) && (decide (d.length = 8) && sAll b d 8 0))
theorem sigsOk_len {h b : List Bool} {d : List Int} (k : sigsOk h b d = true) : h.length = 8 ∧ b.length = 8 ∧ d.length = 8 ∧ sAll b d 8 0 = true := by
  simpa [sigsOk] using k
theorem succ_is {i : Nat} (hi : i < 100) (n : Int) : wrap64 ((i : Int) + 1) = n ↔ (i : Int) + 1 = n := by rw [wrap_in (by omega) (by omega)]
theorem impl_sok_loop (h b : List Bool) (d : List Int) (hb : b.length = 8) (hd : d.length = 8) : ∀ (e i : Nat), i + e = 8 →
    Evt (fun k => impl_SigsOk.l0 k d (d.length : Int) (i : Int) h b d = some (sAll b d e i)) := by
  intro e
  induction e with
  | zero =>
    intro i hi
    refine Evt.of1 fun k => ?_
    simp only [impl_SigsOk.l0]
    rw [if_neg (by omega)]
    rfl
  | succ e ih =>
    intro i hi
    refine (ih (i + 1) (by omega)).step fun k hk => ?_
    have n1 : ((i : Int) + 1 = 1) ↔ i = 0 := by omega
    have n2 : ((i : Int) + 1 = 2) ↔ i = 1 := by omega
    simp only [impl_SigsOk.l0, succ_is (i := i) (by omega)]
    rw [nat_succ_wrap (by omega), hk]
    rw [if_pos (by omega), if_pos (by omega), if_pos (by omega)]
    have hbl : (i : Int) < (b.length : Int) := by omega
    simp only [if_pos hbl, n1, n2]
    rw [sAll_succ]
    unfold sOk
    generalize sAll b d e (i + 1) = R
    generalize rd d (i : Int) = v
    generalize rdOf false b (i : Int) = c
    clear hk ih hbl hd hb hi n1 n2
    by_cases c0 : i = 0
    · subst c0
      by_cases v0 : v = 0
      · subst v0; cases c <;> simp
      · by_cases v1 : v = 1
        · subst v1; cases c <;> simp
        · by_cases v4 : v = 4
          · subst v4; cases c <;> simp
          · simp [v0, v1, v4]
    · by_cases c1 : i = 1
      · subst c1
        by_cases v0 : v = 0
        · subst v0; cases c <;> simp
        · by_cases v1 : v = 1
          · subst v1; cases c <;> simp
          · by_cases v4 : v = 4
            · subst v4; cases c <;> simp
            · simp [v0, v1, v4]
      · by_cases v0 : v = 0
        · subst v0; simp [c0, c1]
        · by_cases v1 : v = 1
          · subst v1; simp [c0, c1]
          · by_cases v4 : v = 4
            · subst v4; simp [c0, c1]
            · simp [c0, v0, v1, v4]
theorem impl_sok_ev (h b : List Bool) (d : List Int) : Evt (fun k => impl_SigsOk.f k h b d = some (sigsOk h b d)) := by
  by_cases hh : h.length = 8
  · by_cases hb : b.length = 8
    · by_cases hd : d.length = 8
      · refine ((impl_sok_loop h b d hb hd 8 0 (by omega)).step (Q := fun k => impl_SigsOk.j0 k false h b d = some (sAll b d 8 0)) fun k hk => ?_).imp fun k hk => ?_
        · simp only [impl_SigsOk.j0]
          rw [if_neg (by decide)]
          exact hk
        · unfold impl_SigsOk.f sigsOk
          rw [if_pos (by omega), if_pos (by omega), show ((d.length : Int) != 8) = false from by simp [hd], hk]
          simp [hh, hb, hd]
      · refine Evt.of1 fun k => ?_
        unfold impl_SigsOk.f sigsOk
        rw [if_pos (by omega), if_pos (by omega), show ((d.length : Int) != 8) = true from by simp; omega]
        simp [impl_SigsOk.j0, hd]
    · refine Evt.of1 fun k => ?_
      unfold impl_SigsOk.f sigsOk
      rw [if_pos (by omega), if_neg (by omega)]
      simp [impl_SigsOk.j0, hb]
  · refine Evt.of1 fun k => ?_
    unfold impl_SigsOk.f sigsOk
    rw [if_neg (by omega)]
    simp [impl_SigsOk.j0, hh]

theorem fixed_eq (i : Nat) (hi : i < 100) : spec_l10Fixed.f (wrap64 ((i : Int) + 1)) = some (decide (i = 0) || decide (i = 1)) := by
  unfold spec_l10Fixed.f
  rw [wrap_in (by omega) (by omega)]
  by_cases c0 : i = 0
  · rw [if_pos (by omega)]
    simp [c0]
  · rw [if_neg (by omega)]
    simp only [c0, decide_false, Bool.false_or]
    congr 1
    by_cases c1 : i = 1
    · subst c1
      rfl
    · simp only [c1, decide_false]
      simp
      omega
theorem spec_sok_loop (h b : List Bool) (d : List Int) (hb : b.length = 8) (hd : d.length = 8) : ∀ (e i : Nat), i + e = 8 →
    Evt (fun k => spec_SigsOk.l0 k (i : Int) h b d = some (sAll b d e i)) := by
  intro e
  induction e with
  | zero =>
    intro i hi
    refine Evt.of1 fun k => ?_
    simp only [spec_SigsOk.l0]
    rw [if_neg (by omega)]
    rfl
  | succ e ih =>
    intro i hi
    refine (ih (i + 1) (by omega)).step fun k hk => ?_
    simp only [spec_SigsOk.l0, fixed_eq i (by omega), Option.bind_some]
    rw [nat_succ_wrap (by omega), hk]
    rw [if_pos (by omega), if_pos (by omega), if_pos (by omega)]
    have hbl : (i : Int) < (b.length : Int) := by omega
    simp only [if_pos hbl]
    rw [sAll_succ]
    unfold sOk
    generalize sAll b d e (i + 1) = R
    generalize rd d (i : Int) = v
    generalize rdOf false b (i : Int) = c
    generalize (decide (i = 0) || decide (i = 1)) = x
    clear hk ih hbl hd hb hi
    by_cases v0 : v = 0
    · subst v0; cases x <;> cases c <;> simp
    · by_cases v1 : v = 1
      · subst v1; cases x <;> cases c <;> simp
      · by_cases v4 : v = 4
        · subst v4; cases x <;> cases c <;> simp
        · simp [v0, v1, v4]
theorem spec_sok_ev (h b : List Bool) (d : List Int) : Evt (fun k => spec_SigsOk.f k h b d = some (sigsOk h b d)) := by
  by_cases hh : h.length = 8
  · by_cases hb : b.length = 8
    · by_cases hd : d.length = 8
      · refine ((spec_sok_loop h b d hb hd 8 0 (by omega)).step (Q := fun k => spec_SigsOk.j0 k false h b d = some (sAll b d 8 0)) fun k hk => ?_).imp fun k hk => ?_
        · simp only [spec_SigsOk.j0]
          rw [if_neg (by decide)]
          exact hk
        · unfold spec_SigsOk.f sigsOk
          rw [if_pos (by omega), if_pos (by omega), show ((d.length : Int) != 8) = false from by simp [hd], hk]
          simp [hh, hb, hd]
      · refine Evt.of1 fun k => ?_
        unfold spec_SigsOk.f sigsOk
        rw [if_pos (by omega), if_pos (by omega), show ((d.length : Int) != 8) = true from by simp; omega]
        simp [spec_SigsOk.j0, hd]
    · refine Evt.of1 fun k => ?_
      unfold spec_SigsOk.f sigsOk
      rw [if_pos (by omega), if_neg (by omega)]
      simp [spec_SigsOk.j0, hb]
  · refine Evt.of1 fun k => ?_
    unfold spec_SigsOk.f sigsOk
    rw [if_neg (by omega)]
    simp [spec_SigsOk.j0, hh]

theorem sclone_eq (h b : List Bool) (d : List Int) (hh : h.length < 1000000000) (hb : b.length < 1000000000) (hd : d.length < 1000000000) : impl_Sigs_clone.f h b d = some (h, b, d) := by
  unfold impl_Sigs_clone.f slices_Clone_bool_bool.f slices_Clone_int_int.f
  simp only [Option.bind_some]
  rw [if_pos (by simp; omega), if_pos (by simp; omega), if_pos (by simp; omega)]
  simp
theorem scopy_eq (h b : List Bool) (d : List Int) (hh : h.length < 1000000000) (hb : b.length < 1000000000) (hd : d.length < 1000000000) : spec_l10Copy.f h b d = some (h, b, d) := by
  unfold spec_l10Copy.f
  simp only [Option.bind_some]
  rw [if_pos (by simp; omega), if_pos (by simp; omega), if_pos (by simp; omega)]
  simp

theorem qdints_loop (a : List Int) (ha : a.length < 1000000000) : ∀ (d i : Nat), i + d = a.length → Evt (fun k => laws_qdInts.l0 k a a (i : Int) = some true) := by
  intro d
  induction d with
  | zero =>
    intro i hi
    refine Evt.of1 fun k => ?_
    simp only [laws_qdInts.l0]
    rw [if_neg (by omega)]
  | succ d ih =>
    intro i hi
    refine (ih (i + 1) (by omega)).step fun k hk => ?_
    simp only [laws_qdInts.l0]
    rw [if_pos (by omega), if_pos (by omega), if_pos (by omega), if_pos trivial, nat_succ_wrap (by omega)]
    exact hk
theorem qdints_refl (a : List Int) (ha : a.length < 1000000000) : Evt (fun k => laws_qdInts.f k a a = some true) := by
  refine (qdints_loop a ha a.length 0 (by omega)).imp fun k hk => ?_
  unfold laws_qdInts.f
  rw [if_pos rfl]
  exact hk

theorem qdbools_loop (a : List Bool) (ha : a.length < 1000000000) : ∀ (d i : Nat), i + d = a.length → Evt (fun k => laws_qdBools.l0 k a a (i : Int) = some true) := by
  intro d
  induction d with
  | zero =>
    intro i hi
    refine Evt.of1 fun k => ?_
    simp only [laws_qdBools.l0]
    rw [if_neg (by omega)]
  | succ d ih =>
    intro i hi
    refine (ih (i + 1) (by omega)).step fun k hk => ?_
    simp only [laws_qdBools.l0]
    rw [if_pos (by omega), if_pos (by omega), if_pos (by omega), if_neg (by simp), nat_succ_wrap (by omega)]
    exact hk
theorem qdbools_refl (a : List Bool) (ha : a.length < 1000000000) : Evt (fun k => laws_qdBools.f k a a = some true) := by
  refine (qdbools_loop a ha a.length 0 (by omega)).imp fun k hk => ?_
  unfold laws_qdBools.f
  rw [if_pos rfl]
  exact hk
theorem qdsigs_refl (h b : List Bool) (d : List Int) (hh : h.length < 1000000000) (hb : b.length < 1000000000) (hd : d.length < 1000000000) : Evt (fun k => laws_qdSigs.f k h b d h b d = some true) := by
  refine ((qdbools_refl h hh).and ((qdbools_refl b hb).and (qdints_refl d hd))).imp fun k hk => ?_
  unfold laws_qdSigs.f
  rw [hk.1]
  simp only [Option.bind_some, if_true]
  rw [hk.2.1]
  simp only [Option.bind_some, if_true]
  rw [hk.2.2]
  rfl

theorem new_eq : spec_SigsNew.f = some (List.replicate 8 false, List.replicate 8 false, List.replicate 8 0) := by
  unfold spec_SigsNew.f
  rw [if_pos (by omega), if_pos (by omega)]
theorem draws_loop {l : List Int} (hl : Bytes l) : ∀ (e i : Nat) (p : Int) (h b : List Bool) (d : List Int), i + e = 8 → h.length = 8 → b.length = 8 → d.length = 8 → 0 ≤ p → p + 3 * e < 800000 →
    ∃ h' b' d' p', Evt (fun k => spec_l92Sigs.l0 k (i : Int) l p h b d = some (h', b', d', p')) ∧ h'.length ≤ 8 ∧ b'.length = 8 ∧ d'.length = 8 ∧ p ≤ p' ∧ p' ≤ p + 3 * e + 3 := by
  intro e
  induction e with
  | zero =>
    intro i p h b d hi hh hb hd h0 h1
    obtain ⟨v, hv, v0, v1, _⟩ := pick_ev hl 24 h0 (by omega)
    by_cases c0 : v = 0
    · obtain ⟨w, hw, w0, w1, _⟩ := pick_ev hl (p := p + 1) 8 (by omega) (by omega)
      obtain ⟨x, hx, _, _, _⟩ := pick_ev hl (p := p + 1 + 1) 6 (by omega) (by omega)
      have w2 := w1 (by omega)
      refine ⟨h, b, d.set w.toNat x, p + 1 + 1 + 1, ((hv.and (hw.and hx)).step fun k hk => ?_), by omega, hb, by simpa using hd, by omega, by omega⟩
      simp only [spec_l92Sigs.l0]
      rw [if_neg (by omega), hk.1]
      simp only [Option.bind_some, if_pos c0]
      rw [hk.2.1]
      simp only [Option.bind_some]
      rw [hk.2.2]
      simp only [Option.bind_some]
      rw [if_pos w0, if_pos (by omega)]
    · by_cases c1 : v = 1
      · obtain ⟨w, hw, w0, w1, _⟩ := pick_ev hl (p := p + 1) 2 (by omega) (by omega)
        have w2 := w1 (by omega)
        refine ⟨h, b.set w.toNat true, d, p + 1 + 1, ((hv.and hw).step fun k hk => ?_), by omega, by simpa using hb, hd, by omega, by omega⟩
        simp only [spec_l92Sigs.l0]
        rw [if_neg (by omega), hk.1]
        simp only [Option.bind_some, if_neg c0, if_pos c1]
        rw [hk.2]
        simp only [Option.bind_some]
        rw [if_pos w0, if_pos (by omega)]
      · by_cases c2 : v = 2
        · refine ⟨h.drop (1 : Int).toNat, b, d, p + 1, (hv.step fun k hk => ?_), by simp; omega, hb, hd, by omega, by omega⟩
          simp only [spec_l92Sigs.l0]
          rw [if_neg (by omega), hk]
          simp only [Option.bind_some, if_neg c0, if_neg c1, if_pos c2]
          rw [if_pos (by omega)]
        · refine ⟨h, b, d, p + 1, (hv.step fun k hk => ?_), by omega, hb, hd, by omega, by omega⟩
          simp only [spec_l92Sigs.l0]
          rw [if_neg (by omega), hk]
          simp only [Option.bind_some, if_neg c0, if_neg c1, if_neg c2]
  | succ e ih =>
    intro i p h b d hi hh hb hd h0 h1
    obtain ⟨v, hv, v0, v1, _⟩ := pick_ev hl 3 h0 (by omega)
    by_cases cf : (decide (i = 0) || decide (i = 1)) = true
    · obtain ⟨h', b', d', p', hr, r1, r2, r3, r4, r5⟩ := ih (i + 1) (p + 1) (h.set i (v == 0)) b d (by omega) (by simpa using hh) hb hd (by omega) (by omega)
      refine ⟨h', b', d', p', ((hv.and hr).step fun k hk => ?_), r1, r2, r3, by omega, by omega⟩
      simp only [spec_l92Sigs.l0]
      rw [if_pos (by omega)]
      refine bind_of hk.1 ?_
      rw [if_pos (by omega), if_pos (by omega)]
      refine bind_of rfl ?_
      refine bind_of (fixed_eq i (by omega)) ?_
      rw [if_pos cf, nat_succ_wrap (by omega)]
      exact hk.2
    · obtain ⟨x, hx, x0, x1, _⟩ := pick_ev hl (p := p + 1) 3 (by omega) (by omega)
      obtain ⟨w, hw, w0, w1, _⟩ := pick_ev hl (p := p + 1 + 1) 4 (by omega) (by omega)
      have w2 := w1 (by omega)
      obtain ⟨h', b', d', p', hr, r1, r2, r3, r4, r5⟩ := ih (i + 1) (p + 1 + 1 + 1) (h.set i (v == 0)) (b.set i (x == 0)) (d.set i (rd [0, 0, 1, 4] w)) (by omega) (by simpa using hh) (by simpa using hb) (by simpa using hd) (by omega) (by omega)
      refine ⟨h', b', d', p', ((hv.and (hx.and (hw.and hr))).step fun k hk => ?_), r1, r2, r3, by omega, by omega⟩
      simp only [spec_l92Sigs.l0]
      rw [if_pos (by omega)]
      refine bind_of hk.1 ?_
      rw [if_pos (by omega), if_pos (by omega)]
      refine bind_of rfl ?_
      refine bind_of (fixed_eq i (by omega)) ?_
      rw [if_neg cf]
      refine bind_of hk.2.1 ?_
      rw [if_pos (by omega)]
      refine bind_of rfl ?_
      refine bind_of hk.2.2.1 ?_
      rw [if_pos w0, if_pos (show w < (([0, 0, 1, 4] : List Int).length : Int) from by simpa using w2), if_pos (by omega), nat_succ_wrap (by omega)]
      exact hk.2.2.2
theorem drawsigs_ev {l : List Int} (hl : Bytes l) {p : Int} (h0 : 0 ≤ p) (h1 : p < 700000) :
    ∃ h b d p', Evt (fun k => spec_l92Sigs.f k l p = some (h, b, d, p')) ∧ h.length ≤ 8 ∧ b.length = 8 ∧ d.length = 8 ∧ p ≤ p' ∧ p' ≤ p + 30 := by
  obtain ⟨h, b, d, p', hr, r1, r2, r3, r4, r5⟩ := draws_loop hl 8 0 p (List.replicate 8 false) (List.replicate 8 false) (List.replicate 8 0) (by omega) (by simp) (by simp) (by simp) h0 (by omega)
  refine ⟨h, b, d, p', hr.imp fun k hk => ?_, r1, r2, r3, r4, by omega⟩
  unfold spec_l92Sigs.f
  rw [new_eq]
  exact hk

def blkAt (l : List Bool) (i : Nat) : Bool := rdOf false l i && !(decide (i = 0) || decide (i = 1))
def blk (l : List Bool) : Nat → Nat → List Bool → List Bool
  | 0, _, b => b
  | e + 1, i, b => blk l e (i + 1) (b.set i (blkAt l i))
theorem blk_len (l : List Bool) : ∀ (e i : Nat) (b : List Bool), (blk l e i b).length = b.length
  | 0, _, _ => rfl
  | e + 1, i, b => by rw [blk, blk_len l e]; simp
theorem blk_get (l : List Bool) : ∀ (e i : Nat) (b : List Bool) (j : Nat), j < b.length → (blk l e i b)[j]? = if i ≤ j ∧ j < i + e then some (blkAt l j) else b[j]?
  | 0, i, b, j, h => by rw [blk, if_neg (by omega)]
  | e + 1, i, b, j, h => by
    rw [blk, blk_get l e (i + 1) _ j (by simpa using h), List.getElem?_set]
    by_cases c : i = j
    · subst c
      rw [if_neg (by omega), if_pos rfl, if_pos h, if_pos (by omega)]
    · rw [if_neg c]
      by_cases c2 : i + 1 ≤ j ∧ j < i + 1 + e
      · rw [if_pos c2, if_pos (by omega)]
      · rw [if_neg c2, if_neg (by omega)]
def sigsBlock (h b : List Bool) (d : List Int) (l : List Bool) : List Bool × List Bool × List Int × Bool :=
  if sigsOk h b d = true ∧ l.length = 8 then (h, blk l 8 0 b, d, true) else ([], [], [], false)
theorem impl_block_loop (l : List Bool) (hl : l.length = 8) (h : List Bool) (d : List Int) : ∀ (e i : Nat) (b : List Bool), i + e = 8 → b.length = 8 →
    Evt (fun k => impl_SigsBlock.l0 k l (l.length : Int) (i : Int) h b d = some (h, blk l e i b, d, true)) := by
  intro e
  induction e with
  | zero =>
    intro i b hi hb
    refine Evt.of1 fun k => ?_
    simp only [impl_SigsBlock.l0]
    rw [if_neg (by omega)]
    rfl
  | succ e ih =>
    intro i b hi hb
    refine (ih (i + 1) (b.set i (blkAt l i)) (by omega) (by simpa using hb)).step fun k hk => ?_
    simp only [impl_SigsBlock.l0]
    have hbl : (i : Int) < (b.length : Int) := by omega
    rw [if_pos (by omega), if_pos (by omega), if_pos (by omega)]
    simp only [if_pos hbl, nat_succ_wrap (show i < 9223372036854775807 by omega), Int.toNat_natCast]
    rw [blk]
    unfold blkAt at hk ⊢
    by_cases c : rdOf false l (i : Int) = true
    · rw [if_pos c]
      rw [c] at hk ⊢
      by_cases c0 : i = 0
      · subst c0
        rw [if_pos (by rfl)]
        exact hk
      · rw [if_neg (by omega)]
        have e3 : (((i + 1 : Nat) : Int) != 2) = (true && !(decide (i = 0) || decide (i = 1))) := by
          by_cases c1 : i = 1
          · subst c1; rfl
          · have : ((i + 1 : Nat) : Int) ≠ 2 := by omega
            simp [c0, c1]
            omega
        rw [e3]
        exact hk
    · rw [if_neg c]
      have c' : rdOf false l (i : Int) = false := Bool.eq_false_iff.2 c
      rw [c'] at hk ⊢
      exact hk
theorem impl_block_ev (h b : List Bool) (d : List Int) (l : List Bool) : Evt (fun k => impl_SigsBlock.f k h b d l = some (sigsBlock h b d l)) := by
  have hs := impl_sok_ev h b d
  cases hok : sigsOk h b d with
  | false =>
    rw [hok] at hs
    refine hs.step fun k hk => ?_
    unfold impl_SigsBlock.f sigsBlock
    refine bind_of (impl_SigsOk.mono _ _ _ k _ hk) ?_
    rw [if_neg (by decide), if_neg (by simp [hok])]
    simp only [impl_SigsBlock.j0]
    rw [if_pos trivial]
  | true =>
    obtain ⟨q1, q2, q3, _⟩ := sigsOk_len hok
    rw [hok] at hs
    by_cases hl : l.length = 8
    · have lp := impl_block_loop l hl h d 8 0 b (by omega) q2
      have j0 : Evt (fun k => impl_SigsBlock.j0 k l ((l.length : Int) != 8) h b d = some (h, blk l 8 0 b, d, true)) := by
        refine lp.step fun k hk => ?_
        simp only [impl_SigsBlock.j0]
        rw [if_neg (by simp [hl])]
        refine bind_of (sclone_eq h b d (by omega) (by omega) (by omega)) ?_
        exact hk
      refine (hs.and j0).imp fun k hk => ?_
      unfold impl_SigsBlock.f sigsBlock
      refine bind_of hk.1 ?_
      rw [if_pos rfl, if_pos ⟨hok, hl⟩]
      exact hk.2
    · refine hs.step fun k hk => ?_
      unfold impl_SigsBlock.f sigsBlock
      refine bind_of (impl_SigsOk.mono _ _ _ k _ hk) ?_
      rw [if_pos rfl, if_neg (by simp [hl])]
      simp only [impl_SigsBlock.j0]
      rw [if_pos (by simp; omega)]
theorem spec_block_loop (l : List Bool) (hl : l.length = 8) (h : List Bool) (d : List Int) : ∀ (e i : Nat) (b : List Bool), i + e = 8 → b.length = 8 →
    Evt (fun k => spec_SigsBlock.l0 k l (i : Int) h b d = some (h, blk l e i b, d, true)) := by
  intro e
  induction e with
  | zero =>
    intro i b hi hb
    refine Evt.of1 fun k => ?_
    simp only [spec_SigsBlock.l0]
    rw [if_neg (by omega)]
    rfl
  | succ e ih =>
    intro i b hi hb
    refine (ih (i + 1) (b.set i (blkAt l i)) (by omega) (by simpa using hb)).step fun k hk => ?_
    simp only [spec_SigsBlock.l0]
    have hbl : (i : Int) < (b.length : Int) := by omega
    rw [if_pos (by omega), if_pos (by omega), if_pos (by omega)]
    simp only [if_pos hbl, Int.toNat_natCast]
    rw [blk]
    unfold blkAt at hk ⊢
    by_cases c : rdOf false l (i : Int) = true
    · rw [if_pos c]
      rw [c] at hk ⊢
      refine bind_of (fixed_eq i (by omega)) ?_
      rw [nat_succ_wrap (by omega)]
      exact hk
    · rw [if_neg c, nat_succ_wrap (by omega)]
      have c' : rdOf false l (i : Int) = false := Bool.eq_false_iff.2 c
      rw [c'] at hk ⊢
      exact hk
theorem spec_block_ev (h b : List Bool) (d : List Int) (l : List Bool) : Evt (fun k => spec_SigsBlock.f k h b d l = some (sigsBlock h b d l)) := by
  have hs := spec_sok_ev h b d
  cases hok : sigsOk h b d with
  | false =>
    rw [hok] at hs
    refine hs.step fun k hk => ?_
    unfold spec_SigsBlock.f sigsBlock
    refine bind_of (spec_SigsOk.mono _ _ _ k _ hk) ?_
    rw [if_neg (by decide), if_neg (by simp [hok])]
    simp only [spec_SigsBlock.j0]
    rw [if_pos trivial]
  | true =>
    obtain ⟨q1, q2, q3, _⟩ := sigsOk_len hok
    rw [hok] at hs
    by_cases hl : l.length = 8
    · have lp := spec_block_loop l hl h d 8 0 b (by omega) q2
      have j0 : Evt (fun k => spec_SigsBlock.j0 k l ((l.length : Int) != 8) h b d = some (h, blk l 8 0 b, d, true)) := by
        refine lp.step fun k hk => ?_
        simp only [spec_SigsBlock.j0]
        rw [if_neg (by simp [hl])]
        refine bind_of (scopy_eq h b d (by omega) (by omega) (by omega)) ?_
        exact hk
      refine (hs.and j0).imp fun k hk => ?_
      unfold spec_SigsBlock.f sigsBlock
      refine bind_of hk.1 ?_
      rw [if_pos rfl, if_pos ⟨hok, hl⟩]
      exact hk.2
    · refine hs.step fun k hk => ?_
      unfold spec_SigsBlock.f sigsBlock
      refine bind_of (spec_SigsOk.mono _ _ _ k _ hk) ?_
      rw [if_pos rfl, if_neg (by simp [hl])]
      simp only [spec_SigsBlock.j0]
      rw [if_pos (by simp; omega)]
theorem sigsBlock_len (h b : List Bool) (d : List Int) (l : List Bool) : (sigsBlock h b d l).1.length ≤ h.length ∧ (sigsBlock h b d l).2.1.length ≤ b.length ∧ (sigsBlock h b d l).2.2.1.length ≤ d.length := by
  unfold sigsBlock
  split
  · simp [blk_len]
  · simp

theorem sAll_iff (b : List Bool) (d : List Int) : ∀ (e i : Nat), sAll b d e i = true ↔ ∀ j, i ≤ j → j < i + e → sOk b d j = true
  | 0, i => by simp [sAll]; intro j h1 h2; omega
  | e + 1, i => by
    rw [sAll_succ, Bool.and_eq_true, sAll_iff b d e (i + 1)]
    constructor
    · rintro ⟨h1, h2⟩ j h3 h4
      by_cases hj : j = i
      · rw [hj]; exact h1
      · exact h2 j (by omega) (by omega)
    · intro h
      exact ⟨h i (by omega) (by omega), fun j h1 h2 => h j (by omega) (by omega)⟩
theorem blk_rd (l b : List Bool) (hb : b.length = 8) (j : Nat) (hj : j < 8) : rdOf false (blk l 8 0 b) (j : Int) = blkAt l j := by
  unfold rdOf
  rw [Int.toNat_natCast, List.getD_eq_getElem?_getD, blk_get l 8 0 b j (by omega), if_pos (by omega)]
  rfl
theorem sigsOk_blk {h b : List Bool} {d : List Int} (k : sigsOk h b d = true) (l : List Bool) : sigsOk h (blk l 8 0 b) d = true := by
  obtain ⟨q1, q2, q3, q4⟩ := sigsOk_len k
  simp only [sigsOk, blk_len, q1, q2, q3, decide_true, Bool.true_and]
  rw [sAll_iff] at q4 ⊢
  intro j h1 h2
  have hj := q4 j h1 h2
  unfold sOk at hj ⊢
  rw [blk_rd l b q2 j (by omega)]
  simp only [Bool.and_eq_true] at hj ⊢
  refine ⟨hj.1, ?_⟩
  have h3 := hj.2
  unfold blkAt
  cases c : (decide (j = 0) || decide (j = 1)) with
  | false => simp
  | true =>
    rw [c] at h3
    cases rdOf false b (j : Int) <;> simp_all
theorem blk_drop (l b : List Bool) (hb : b.length = 8) (hl : l.length = 8) : (blk l 8 0 b).drop 2 = l.drop 2 := by
  apply List.ext_getElem?
  intro j
  rw [List.getElem?_drop, List.getElem?_drop]
  by_cases c : 2 + j < 8
  · rw [blk_get l 8 0 b (2 + j) (by omega), if_pos (by omega), List.getElem?_eq_getElem (by omega)]
    unfold blkAt rdOf
    rw [Int.toNat_natCast, List.getD_eq_getElem?_getD, List.getElem?_eq_getElem (by omega)]
    have a2 : ¬ (2 + j = 1) := by omega
    simp [a2]
  · rw [List.getElem?_eq_none (by rw [blk_len]; omega), List.getElem?_eq_none (by omega)]
theorem drawblock_loop {s : List Int} (hs : Bytes s) : ∀ (m i : Nat) (p : Int) (x : List Bool), i + m = 8 → x.length ≤ 8 - m → 0 ≤ p → p + 2 * m < 600000 →
    ∃ h b d x', Evt (fun k => spec_DrawSigsBlock.l0 k x (i : Int) s p = some (h, b, d, x')) ∧ h.length ≤ 8 ∧ b.length = 8 ∧ d.length = 8 ∧ x'.length ≤ 8 := by
  intro m
  induction m with
  | zero =>
    intro i p x hi hx h0 h1
    obtain ⟨v, hv, v0, v1, _⟩ := pick_ev hs (p := p) 20 (by omega) (by omega)
    obtain ⟨h, b, d, p', hdr, r1, r2, r3, r4, r5⟩ := drawsigs_ev hs (p := p + 1) (by omega) (by omega)
    refine ⟨h, b, d, x, (hv.and hdr).step fun k hk => ?_, r1, r2, r3, by omega⟩
    have vd := tdiv_range (a := v) (n := 19) v0 (by decide)
    simp only [spec_DrawSigsBlock.l0]
    refine bind_of hk.1 ?_
    have w1 : wrap64 (Int.tdiv v 19) = Int.tdiv v 19 := wrap_in (by omega) (by have := v1 (by omega); omega)
    have w2 : wrap64 (8 - wrap64 (Int.tdiv v 19)) = 8 - Int.tdiv v 19 := by rw [w1]; exact wrap_in (by have := v1 (by omega); omega) (by omega)
    show (if (i : Int) < wrap64 (8 - wrap64 (Int.tdiv v 19)) then _ else _) = _
    rw [w2, if_neg (by omega)]
    refine bind_of hk.2 ?_
    rfl
  | succ m ih =>
    intro i p x hi hx h0 h1
    obtain ⟨v, hv, v0, v1, _⟩ := pick_ev hs (p := p) 20 (by omega) (by omega)
    have vd := tdiv_range (a := v) (n := 19) v0 (by decide)
    have w1 : wrap64 (Int.tdiv v 19) = Int.tdiv v 19 := wrap_in (by omega) (by have := v1 (by omega); omega)
    have w2 : wrap64 (8 - wrap64 (Int.tdiv v 19)) = 8 - Int.tdiv v 19 := by rw [w1]; exact wrap_in (by have := v1 (by omega); omega) (by omega)
    by_cases c : (i : Int) < 8 - Int.tdiv v 19
    · obtain ⟨w, hw, _, _, _⟩ := pick_ev hs (p := p + 1) 2 (by omega) (by omega)
      obtain ⟨h, b, d, x', hr, r1, r2, r3, r4⟩ := ih (i + 1) (p + 1 + 1) (x ++ [(w == 0)]) (by omega) (by simp; omega) (by omega) (by omega)
      refine ⟨h, b, d, x', (hv.and (hw.and hr)).step fun k hk => ?_, r1, r2, r3, r4⟩
      simp only [spec_DrawSigsBlock.l0]
      refine bind_of hk.1 ?_
      show (if (i : Int) < wrap64 (8 - wrap64 (Int.tdiv v 19)) then _ else _) = _
      rw [w2, if_pos c]
      refine bind_of hk.2.1 ?_
      rw [if_pos (by omega), nat_succ_wrap (by omega)]
      exact hk.2.2
    · obtain ⟨h, b, d, p', hdr, r1, r2, r3, r4, r5⟩ := drawsigs_ev hs (p := p + 1) (by omega) (by omega)
      refine ⟨h, b, d, x, (hv.and hdr).step fun k hk => ?_, r1, r2, r3, by omega⟩
      simp only [spec_DrawSigsBlock.l0]
      refine bind_of hk.1 ?_
      show (if (i : Int) < wrap64 (8 - wrap64 (Int.tdiv v 19)) then _ else _) = _
      rw [w2, if_neg c]
      refine bind_of hk.2 ?_
      rfl
theorem FnSigsBlock : laws_FnSigsBlock.Pure := by
  intro l0 _ _ hb0
  by_cases hlen : (l0.length : Int) > 1048576
  · exact ⟨0, by unfold laws_FnSigsBlock.f; rw [if_pos hlen]⟩
  obtain ⟨s, hs, hsb⟩ := open_ev (bytes_of hb0)
  obtain ⟨h, b, d, l, hdr, r1, r2, r3, r4⟩ := drawblock_loop hsb 8 0 0 [] (by omega) (by simp) (by omega) (by omega)
  have h1 := impl_block_ev h b d l
  have h2 := spec_block_ev h b d l
  obtain ⟨g1, g2, g3⟩ := sigsBlock_len h b d l
  have hc : sigsBlock h b d l = ([], [], [], false) ∨ (sigsOk h b d = true ∧ l.length = 8 ∧ sigsBlock h b d l = (h, blk l 8 0 b, d, true)) := by
    unfold sigsBlock
    split
    · rename_i c
      exact .inr ⟨c.1, c.2, rfl⟩
    · exact .inl rfl
  generalize hgen : sigsBlock h b d l = z at h1 h2 g1 g2 g3 hc
  obtain ⟨zh, zb, zd, zo⟩ := z
  simp only at g1 g2 g3
  have h3 := qdsigs_refl zh zb zd (by omega) (by omega) (by omega)
  have hj0 : Evt (fun k => laws_FnSigsBlock.j0 k l zo true h b d zh zb zd = some true) := by
    have hj1 : Evt (fun k => laws_FnSigsBlock.j1 k l true (!zo) h b d zh zb zd = some true) := by
      rcases hc with c | ⟨c1, c2, c5⟩
      · simp only [Prod.mk.injEq] at c
        obtain ⟨rfl, rfl, rfl, rfl⟩ := c
        refine Evt.of1 fun k => ?_
        simp only [laws_FnSigsBlock.j1]
        rw [if_pos (by decide)]
      · simp only [Prod.mk.injEq] at c5
        obtain ⟨rfl, rfl, rfl, rfl⟩ := c5
        obtain ⟨q1, q2, q3, q4⟩ := sigsOk_len c1
        have e1 := impl_sok_ev zh (blk l 8 0 b) zd
        rw [sigsOk_blk c1 l] at e1
        have e2 := qdbools_refl (l.drop 2) (by simp; omega)
        have e3 := qdbools_refl zh (by omega)
        refine ((e1.and e2).and e3).step fun k hk => ?_
        simp only [laws_FnSigsBlock.j1]
        have b0 : rdOf false (blk l 8 0 b) 0 = false := by
          have := blk_rd l b q2 0 (by omega)
          simpa [blkAt] using this
        have b1 : rdOf false (blk l 8 0 b) 1 = false := by
          have := blk_rd l b q2 1 (by omega)
          simpa [blkAt] using this
        rw [if_neg (by decide)]
        refine bind_of hk.1.1 ?_
        rw [if_pos rfl, if_pos (by rw [blk_len]; omega), b0, if_neg (by decide), if_pos (by rw [blk_len]; omega), b1, if_neg (by decide), if_pos (by rw [blk_len]; omega), if_pos (by omega), blk_drop l b q2 c2]
        refine bind_of hk.1.2 ?_
        rw [if_pos rfl]
        refine bind_of hk.2 ?_
        rfl
    refine hj1.step fun k hk => ?_
    simp only [laws_FnSigsBlock.j0]
    rw [if_pos trivial]
    exact hk
  refine Evt.some_ (((hdr.and h1).and ((h2.and h3).and hj0)).imp fun k hk => ?_)
  obtain ⟨⟨k1, k4⟩, ⟨k5, k6⟩, k7⟩ := hk
  unfold laws_FnSigsBlock.f spec_DrawSigsBlock.f
  rw [if_neg hlen, hs]
  refine bind_of (a := (h, b, d, l)) ?_ ?_
  · refine bind_of rfl ?_
    exact k1
  · refine bind_of k4 ?_
    refine bind_of k5 ?_
    refine bind_of k6 ?_
    rw [if_pos rfl]
    simp only [beq_self_eq_true]
    exact k7

end Go.Proofs.Ytiifanjjohophaa.Pure
