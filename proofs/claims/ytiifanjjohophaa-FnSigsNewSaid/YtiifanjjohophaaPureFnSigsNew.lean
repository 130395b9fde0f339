/- Proved: for every code, the law FnSigsNew answers true and leaves its argument as it was (new signals are valid). No condition beyond the row's own. -/
import Derived.Test.YtiifanjjohophaaPFnSigsNewx9
import Derived.Test.YtiifanjjohophaaAuxFnSigsNew
namespace Go.Proofs.Ytiifanjjohophaa.Pure
open Go.RowKit Go.Proofs.Ytiifanjjohophaa.PFnSigsNew Go.Proofs.YtiifanjjohophaaW.PrintWords Go.Proofs.YtiifanjjohophaaW.PrintLast Go.Proofs.YtiifanjjohophaaW.PrintMore Go.Proofs.Ytiifanjjohophaa.Aux
set_option linter.unusedVariables false
set_option linter.unusedSimpArgs false
def sOk (b : List Bool) (d : List Int) (i : Nat) : Bool :=
  (decide (rd d i = 0) || (decide (rd d i = 1) || decide (rd d i = 4))) && !((decide (i = 0) || decide (i = 1)) && (rdOf false b i || !decide (rd d i = 0)))
def sAll (b : List Bool) (d : List Int) : Nat → Nat → Bool
  | 0, _ => true
  | e + 1, i => sOk b d i && sAll b d e (i + 1)
theorem sAll_succ (b : List Bool) (d : List Int) (e i : Nat) : sAll b d (e + 1) i = (sOk b d i && sAll b d e (i + 1)) := rfl
def sigsOk (h b : List Bool) (d : List Int) : Bool := decide (h.length = 8) && (decide (b.length = 8) && (decide (d.length = 8) && sAll b d 8 0))
theorem sigsOk_len {h b : List Bool} {d : List Int} (k : sigsOk h b d = true) : h.length = 8 ∧ b.length = 8 ∧ d.length = 8 ∧ sAll b d 8 0 = true := by
  simpa [sigsOk] using k
theorem succ_is {i : Nat} (hi : i < 100) (n : Int) : wrap64 ((i : Int) + 1) = n ↔ (i : Int) + 1 = n := by rw [wrap_in (by omega) (by omega)]
theorem impl_sok_loop (h b : List Bool) (d : List Int) (hb : b.length = 8) (hd : d.length = 8) : ∀ (e i : Nat), i + e = 8 →
    Evt (fun k => impl_SigsOk.l0 k d (d.length : Int) (i : Int) h b d = some (sAll b d e i)) := by
  intro e
  induction e with
  | zero =>
    intro i hi
    refine Evt.of1 fun k => ?_
    simp only [impl_SigsOk.l0]
    rw [if_neg (by omega)]
    rfl
  | succ e ih =>
    intro i hi
    refine (ih (i + 1) (by omega)).step fun k hk => ?_
    have n1 : ((i : Int) + 1 = 1) ↔ i = 0 := by omega
    have n2 : ((i : Int) + 1 = 2) ↔ i = 1 := by omega
    simp only [impl_SigsOk.l0, succ_is (i := i) (by omega)]
    rw [nat_succ_wrap (by omega), hk]
    rw [if_pos (by omega), if_pos (by omega), if_pos (by omega)]
    have hbl : (i : Int) < (b.length : Int) := by omega
    simp only [if_pos hbl, n1, n2]
    rw [sAll_succ]
    unfold sOk
    generalize sAll b d e (i + 1) = R
    generalize rd d (i : Int) = v
    generalize rdOf false b (i : Int) = c
    clear hk ih hbl hd hb hi n1 n2
    by_cases c0 : i = 0
    · subst c0
      by_cases v0 : v = 0
      · subst v0; cases c <;> simp
      · by_cases v1 : v = 1
        · subst v1; cases c <;> simp
        · by_cases v4 : v = 4
          · subst v4; cases c <;> simp
          · simp [v0, v1, v4]
    · by_cases c1 : i = 1
      · subst c1
        by_cases v0 : v = 0
        · subst v0; cases c <;> simp
        · by_cases v1 : v = 1
          · subst v1; cases c <;> simp
          · by_cases v4 : v = 4
            · subst v4; cases c <;> simp
            · simp [v0, v1, v4]
      · by_cases v0 : v = 0
        · subst v0; simp [c0, c1]
        · by_cases v1 : v = 1
          · subst v1; simp [c0, c1]
          · by_cases v4 : v = 4
            · subst v4; simp [c0, c1]
            · simp [c0, v0, v1, v4]
theorem impl_sok_ev (h b : List Bool) (d : List Int) : Evt (fun k => impl_SigsOk.f k h b d = some (sigsOk h b d)) := by
  by_cases hh : h.length = 8
  · by_cases hb : b.length = 8
    · by_cases hd : d.length = 8
      · refine ((impl_sok_loop h b d hb hd 8 0 (by omega)).step (Q := fun k => impl_SigsOk.j0 k false h b d = some (sAll b d 8 0)) fun k hk => ?_).imp fun k hk => ?_
        · simp only [impl_SigsOk.j0]
          rw [if_neg (by decide)]
          exact hk
        · unfold impl_SigsOk.f sigsOk
          rw [if_pos (by omega), if_pos (by omega), show ((d.length : Int) != 8) = false from by simp [hd], hk]
          simp [hh, hb, hd]
      · refine Evt.of1 fun k => ?_
        unfold impl_SigsOk.f sigsOk
        rw [if_pos (by omega), if_pos (by omega), show ((d.length : Int) != 8) = true from by simp; omega]
        simp [impl_SigsOk.j0, hd]
    · refine Evt.of1 fun k => ?_
      unfold impl_SigsOk.f sigsOk
      rw [if_pos (by omega), if_neg (by omega)]
      simp [impl_SigsOk.j0, hb]
  · refine Evt.of1 fun k => ?_
    unfold impl_SigsOk.f sigsOk
    rw [if_neg (by omega)]
    simp [impl_SigsOk.j0, hh]

theorem sclone_eq (h b : List Bool) (d : List Int) (hh : h.length < 1000000000) (hb : b.length < 1000000000) (hd : d.length < 1000000000) : impl_Sigs_clone.f h b d = some (h, b, d) := by
  unfold impl_Sigs_clone.f slices_Clone_bool_bool.f slices_Clone_int_int.f
  simp only [Option.bind_some]
  rw [if_pos (by simp; omega), if_pos (by simp; omega), if_pos (by simp; omega)]
  simp

theorem qdints_loop (a : List Int) (ha : a.length < 1000000000) : ∀ (d i : Nat), i + d = a.length → Evt (fun k => laws_qdInts.l0 k a a (i : Int) = some true) := by
  intro d
  induction d with
  | zero =>
    intro i hi
    refine Evt.of1 fun k => ?_
    simp only [laws_qdInts.l0]
    rw [if_neg (by omega)]
  | succ d ih =>
    intro i hi
    refine (ih (i + 1) (by omega)).step fun k hk => ?_
    simp only [laws_qdInts.l0]
    rw [if_pos (by omega), if_pos (by omega), if_pos (by omega), if_pos trivial, nat_succ_wrap (by omega)]
    exact hk
theorem qdints_refl (a : List Int) (ha : a.length < 1000000000) : Evt (fun k => laws_qdInts.f k a a = some true) := by
  refine (qdints_loop a ha a.length 0 (by omega)).imp fun k hk => ?_
  unfold laws_qdInts.f
  rw [if_pos rfl]
  exact hk

theorem qdbools_loop (a : List Bool) (ha : a.length < 1000000000) : ∀ (d i : Nat), i + d = a.length → Evt (fun k => laws_qdBools.l0 k a a (i : Int) = some true) := by
  intro d
  induction d with
  | zero =>
    intro i hi
    refine Evt.of1 fun k => ?_
    simp only [laws_qdBools.l0]
    rw [if_neg (by omega)]
  | succ d ih =>
    intro i hi
    refine (ih (i + 1) (by omega)).step fun k hk => ?_
    simp only [laws_qdBools.l0]
    rw [if_pos (by omega), if_pos (by omega), if_pos (by omega), if_neg (by simp), nat_succ_wrap (by omega)]
    exact hk
theorem qdbools_refl (a : List Bool) (ha : a.length < 1000000000) : Evt (fun k => laws_qdBools.f k a a = some true) := by
  refine (qdbools_loop a ha a.length 0 (by omega)).imp fun k hk => ?_
  unfold laws_qdBools.f
  rw [if_pos rfl]
  exact hk
theorem qdsigs_refl (h b : List Bool) (d : List Int) (hh : h.length < 1000000000) (hb : b.length < 1000000000) (hd : d.length < 1000000000) : Evt (fun k => laws_qdSigs.f k h b d h b d = some true) := by
  refine ((qdbools_refl h hh).and ((qdbools_refl b hb).and (qdints_refl d hd))).imp fun k hk => ?_
  unfold laws_qdSigs.f
  rw [hk.1]
  simp only [Option.bind_some, if_true]
  rw [hk.2.1]
  simp only [Option.bind_some, if_true]
  rw [hk.2.2]
  rfl

def nx (h b : List Bool) : Nat → Nat → Int
  | 0, _ => 0
  | e + 1, i => if rdOf false h (i : Int) = true ∧ rdOf false b (i : Int) = false then (i : Int) + 1 else nx h b e (i + 1)
theorem nx_spec (h b : List Bool) : ∀ (e i : Nat), (nx h b e i = 0 ∧ ∀ j : Nat, i ≤ j → j < i + e → ¬ (rdOf false h (j : Int) = true ∧ rdOf false b (j : Int) = false)) ∨
    (∃ m : Nat, i ≤ m ∧ m < i + e ∧ nx h b e i = (m : Int) + 1 ∧ rdOf false h (m : Int) = true ∧ rdOf false b (m : Int) = false ∧ ∀ j : Nat, i ≤ j → j < m → ¬ (rdOf false h (j : Int) = true ∧ rdOf false b (j : Int) = false))
  | 0, i => .inl ⟨rfl, fun j h1 h2 => by omega⟩
  | e + 1, i => by
    by_cases c : rdOf false h (i : Int) = true ∧ rdOf false b (i : Int) = false
    · exact .inr ⟨i, Nat.le_refl _, by omega, by rw [nx, if_pos c], c.1, c.2, fun j h1 h2 => by omega⟩
    · rcases nx_spec h b e (i + 1) with ⟨h1, h2⟩ | ⟨m, h1, h2, h3, h4, h5, h6⟩
      · refine .inl ⟨by rw [nx, if_neg c, h1], fun j g1 g2 => ?_⟩
        by_cases cj : j = i
        · subst cj; exact c
        · exact h2 j (by omega) (by omega)
      · refine .inr ⟨m, by omega, by omega, by rw [nx, if_neg c, h3], h4, h5, fun j g1 g2 => ?_⟩
        by_cases cj : j = i
        · subst cj; exact c
        · exact h6 j (by omega) g2
theorem first_loop (h b : List Bool) (d : List Int) (hh : h.length = 8) (hb : b.length = 8) : ∀ (e i : Nat), i + e = 8 → Evt (fun k => impl_Sigs_first.l0 k ((i : Int) + 1) h b d = some (nx h b e i)) := by
  intro e
  induction e with
  | zero =>
    intro i hi
    refine Evt.of1 fun k => ?_
    simp only [impl_Sigs_first.l0]
    rw [if_neg (by omega)]
    rfl
  | succ e ih =>
    intro i hi
    refine (ih (i + 1) (by omega)).step fun k hk => ?_
    have e1 : wrap64 ((i : Int) + 1 - 1) = (i : Int) := by rw [wrap_in (by omega) (by omega)]; omega
    have e2 : wrap64 ((i : Int) + 1 + 1) = ((i + 1 : Nat) : Int) + 1 := by rw [wrap_in (by omega) (by omega)]; omega
    simp only [impl_Sigs_first.l0, e1, e2, hk]
    rw [if_pos (by omega), if_pos (by omega), if_pos (by omega), nx]
    by_cases c1 : rdOf false h (i : Int) = true
    · rw [if_pos c1, if_pos (by omega)]
      by_cases c2 : rdOf false b (i : Int) = true
      · rw [if_pos c2, if_neg (by simp [c2])]
      · rw [if_neg c2, if_pos ⟨c1, by simpa using c2⟩]
        rfl
    · rw [if_neg c1, if_neg (fun z => c1 z.1)]

theorem FnSigsNew : laws_FnSigsNew.Pure := by
  intro l0 _ _ hb0
  by_cases hlen : (l0.length : Int) > 1048576
  · exact ⟨0, by unfold laws_FnSigsNew.f; rw [if_pos hlen]⟩
  have hin : impl_SigsNew.f = some (List.replicate 8 false, List.replicate 8 false, List.replicate 8 0) := by
    unfold impl_SigsNew.f
    rw [if_pos (by omega), if_pos (by omega)]
  have hsn : spec_SigsNew.f = some (List.replicate 8 false, List.replicate 8 false, List.replicate 8 0) := by
    unfold spec_SigsNew.f
    rw [if_pos (by omega), if_pos (by omega)]
  have hok : sigsOk (List.replicate 8 false) (List.replicate 8 false) (List.replicate 8 0) = true := by decide
  have hs := impl_sok_ev (List.replicate 8 false) (List.replicate 8 false) (List.replicate 8 0)
  have hf := first_loop (List.replicate 8 false) (List.replicate 8 false) (List.replicate 8 0) (by simp) (by simp) 8 0 (by omega)
  have hq := qdsigs_refl (List.replicate 8 false) (List.replicate 8 false) (List.replicate 8 0) (by simp) (by simp) (by simp)
  have hn : nx (List.replicate 8 false) (List.replicate 8 false) 8 0 = 0 := by decide
  rw [hok] at hs
  rw [hn] at hf
  refine Evt.some_ (((hs.and hf).and hq).imp fun k hk => ?_)
  unfold laws_FnSigsNew.f
  rw [if_neg hlen]
  refine bind_of hin ?_
  refine bind_of (a := (List.replicate 8 false, List.replicate 8 false, List.replicate 8 0, 0, 1, false)) ?_ ?_
  · unfold impl_SigsNext.f impl_Sigs_first.f
    refine bind_of hk.1.1 ?_
    rw [if_pos rfl]
    refine bind_of (sclone_eq _ _ _ (by simp) (by simp) (by simp)) ?_
    refine bind_of hk.1.2 ?_
    rw [if_pos rfl]
  refine bind_of hsn ?_
  refine bind_of hk.2 ?_
  rw [if_pos rfl]
  refine bind_of hk.1.1 ?_
  rw [if_pos rfl, if_neg (by decide), if_pos rfl]
  simp

end Go.Proofs.Ytiifanjjohophaa.Pure
