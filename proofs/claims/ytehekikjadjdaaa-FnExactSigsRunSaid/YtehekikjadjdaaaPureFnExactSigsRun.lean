/- Proved: for all signals, the law FnExactSigsRun answers true and leaves its argument as it was (SigsRun returns what the reference returns, in memory of its own). No condition beyond the row's own. -/
import Derived.Test.YtehekikjadjdaaaPFnExactSigsRunx12
import Derived.Test.YtehekikjadjdaaaAuxFnExactSigsRun
namespace Go.Proofs.Ytehekikjadjdaaa.Pure
open Go.RowKit Go.Proofs.Ytehekikjadjdaaa.PFnExactSigsRun Go.Proofs.YtehekikjadjdaaaW.PrintWords Go.Proofs.YtehekikjadjdaaaW.PrintLast Go.Proofs.YtehekikjadjdaaaW.PrintMore Go.Proofs.Ytehekikjadjdaaa.Aux
set_option linter.unusedVariables false
set_option linter.unusedSimpArgs false
def sOk (b : List Bool) (d : List Int) (i : Nat) : Bool :=
  (decide (rd d i = 0) || (decide (rd d i = 1) || decide (rd d i = 4))) && !((decide (i = 0) || decide (i = 1)) && (rdOf false b i || !decide (rd d i = 0)))
def sAll (b : List Bool) (d : List Int) : Nat → Nat → Bool
  | 0, _ => true
  | e + 1, i => sOk b d i && sAll b d e (i + 1)
theorem sAll_succ (b : List Bool) (d : List Int) (e i : Nat) : sAll b d (e + 1) i = (sOk b d i && sAll b d e (i + 1)) := rfl
def sigsOk (h b : List Bool) (d : List Int) : Bool := decide (h.length = 8) && (decide (b.length = 8) && (decide (d.length = 8) && sAll b d 8 0))
theorem sigsOk_len {h b : List Bool} {d : List Int} (k : sigsOk h b d = true) : h.length = 8 ∧ b.length = 8 ∧ d.length = 8 ∧ sAll b d 8 0 = true := by
  simpa [sigsOk] using k
theorem succ_is {i : Nat} (hi : i < 100) (n : Int) : wrap64 ((i : Int) + 1) = n ↔ (i : Int) + 1 = n := by rw [wrap_in (by omega) (by omega)]
theorem impl_sok_loop (h b : List Bool) (d : List Int) (hb : b.length = 8) (hd : d.length = 8) : ∀ (e i : Nat), i + e = 8 →
    Evt (fun k => impl_SigsOk.l0 k d (d.length : Int) (i : Int) h b d = some (sAll b d e i)) := by
  intro e
  induction e with
  | zero =>
    intro i hi
    refine Evt.of1 fun k => ?_
    simp only [impl_SigsOk.l0]
    rw [if_neg (by omega)]
    rfl
  | succ e ih =>
    intro i hi
    refine (ih (i + 1) (by omega)).step fun k hk => ?_
    have n1 : ((i : Int) + 1 = 1) ↔ i = 0 := by omega
    have n2 : ((i : Int) + 1 = 2) ↔ i = 1 := by omega
    simp only [impl_SigsOk.l0, succ_is (i := i) (by omega)]
    rw [nat_succ_wrap (by omega), hk]
    rw [if_pos (by omega), if_pos (by omega), if_pos (by omega)]
    have hbl : (i : Int) < (b.length : Int) := by omega
    simp only [if_pos hbl, n1, n2]
    rw [sAll_succ]
    unfold sOk
    generalize sAll b d e (i + 1) = R
    generalize rd d (i : Int) = v
    generalize rdOf false b (i : Int) = c
    clear hk ih hbl hd hb hi n1 n2
    by_cases c0 : i = 0
    · subst c0
      by_cases v0 : v = 0
      · subst v0; cases c <;> simp
      · by_cases v1 : v = 1
        · subst v1; cases c <;> simp
        · by_cases v4 : v = 4
          · subst v4; cases c <;> simp
          · simp [v0, v1, v4]
    · by_cases c1 : i = 1
      · subst c1
        by_cases v0 : v = 0
        · subst v0; cases c <;> simp
        · by_cases v1 : v = 1
          · subst v1; cases c <;> simp
          · by_cases v4 : v = 4
            · subst v4; cases c <;> simp
            · simp [v0, v1, v4]
      · by_cases v0 : v = 0
        · subst v0; simp [c0, c1]
        · by_cases v1 : v = 1
          · subst v1; simp [c0, c1]
          · by_cases v4 : v = 4
            · subst v4; simp [c0, c1]
            · simp [c0, v0, v1, v4]
theorem impl_sok_ev (h b : List Bool) (d : List Int) : Evt (fun k => impl_SigsOk.f k h b d = some (sigsOk h b d)) := by
  by_cases hh : h.length = 8
  · by_cases hb : b.length = 8
    · by_cases hd : d.length = 8
      · refine ((impl_sok_loop h b d hb hd 8 0 (by omega)).step (Q := fun k => impl_SigsOk.j0 k false h b d = some (sAll b d 8 0)) fun k hk => ?_).imp fun k hk => ?_
        · simp only [impl_SigsOk.j0]
          rw [if_neg (by decide)]
          exact hk
        · unfold impl_SigsOk.f sigsOk
          rw [if_pos (by omega), if_pos (by omega), show ((d.length : Int) != 8) = false from by simp [hd], hk]
          simp [hh, hb, hd]
      · refine Evt.of1 fun k => ?_
        unfold impl_SigsOk.f sigsOk
        rw [if_pos (by omega), if_pos (by omega), show ((d.length : Int) != 8) = true from by simp; omega]
        simp [impl_SigsOk.j0, hd]
    · refine Evt.of1 fun k => ?_
      unfold impl_SigsOk.f sigsOk
      rw [if_pos (by omega), if_neg (by omega)]
      simp [impl_SigsOk.j0, hb]
  · refine Evt.of1 fun k => ?_
    unfold impl_SigsOk.f sigsOk
    rw [if_neg (by omega)]
    simp [impl_SigsOk.j0, hh]

theorem fixed_eq (i : Nat) (hi : i < 100) : spec_l10Fixed.f (wrap64 ((i : Int) + 1)) = some (decide (i = 0) || decide (i = 1)) := by
  unfold spec_l10Fixed.f
  rw [wrap_in (by omega) (by omega)]
  by_cases c0 : i = 0
  · rw [if_pos (by omega)]
    simp [c0]
  · rw [if_neg (by omega)]
    simp only [c0, decide_false, Bool.false_or]
    congr 1
    by_cases c1 : i = 1
    · subst c1
      rfl
    · simp only [c1, decide_false]
      simp
      omega
theorem spec_sok_loop (h b : List Bool) (d : List Int) (hb : b.length = 8) (hd : d.length = 8) : ∀ (e i : Nat), i + e = 8 →
    Evt (fun k => spec_SigsOk.l0 k (i : Int) h b d = some (sAll b d e i)) := by
  intro e
  induction e with
  | zero =>
    intro i hi
    refine Evt.of1 fun k => ?_
    simp only [spec_SigsOk.l0]
    rw [if_neg (by omega)]
    rfl
  | succ e ih =>
    intro i hi
    refine (ih (i + 1) (by omega)).step fun k hk => ?_
    simp only [spec_SigsOk.l0, fixed_eq i (by omega), Option.bind_some]
    rw [nat_succ_wrap (by omega), hk]
    rw [if_pos (by omega), if_pos (by omega), if_pos (by omega)]
    have hbl : (i : Int) < (b.length : Int) := by omega
    simp only [if_pos hbl]
    rw [sAll_succ]
    unfold sOk
    generalize sAll b d e (i + 1) = R
    generalize rd d (i : Int) = v
    generalize rdOf false b (i : Int) = c
    generalize (decide (i = 0) || decide (i = 1)) = x
    clear hk ih hbl hd hb hi
    by_cases v0 : v = 0
    · subst v0; cases x <;> cases c <;> simp
    · by_cases v1 : v = 1
      · subst v1; cases x <;> cases c <;> simp
      · by_cases v4 : v = 4
        · subst v4; cases x <;> cases c <;> simp
        · simp [v0, v1, v4]
theorem spec_sok_ev (h b : List Bool) (d : List Int) : Evt (fun k => spec_SigsOk.f k h b d = some (sigsOk h b d)) := by
  by_cases hh : h.length = 8
  · by_cases hb : b.length = 8
    · by_cases hd : d.length = 8
      · refine ((spec_sok_loop h b d hb hd 8 0 (by omega)).step (Q := fun k => spec_SigsOk.j0 k false h b d = some (sAll b d 8 0)) fun k hk => ?_).imp fun k hk => ?_
        · simp only [spec_SigsOk.j0]
          rw [if_neg (by decide)]
          exact hk
        · unfold spec_SigsOk.f sigsOk
          rw [if_pos (by omega), if_pos (by omega), show ((d.length : Int) != 8) = false from by simp [hd], hk]
          simp [hh, hb, hd]
      · refine Evt.of1 fun k => ?_
        unfold spec_SigsOk.f sigsOk
        rw [if_pos (by omega), if_pos (by omega), show ((d.length : Int) != 8) = true from by simp; omega]
        simp [spec_SigsOk.j0, hd]
    · refine Evt.of1 fun k => ?_
      unfold spec_SigsOk.f sigsOk
      rw [if_pos (by omega), if_neg (by omega)]
      simp [spec_SigsOk.j0, hb]
  · refine Evt.of1 fun k => ?_
    unfold spec_SigsOk.f sigsOk
    rw [if_neg (by omega)]
    simp [spec_SigsOk.j0, hh]

theorem sclone_eq (h b : List Bool) (d : List Int) (hh : h.length < 1000000000) (hb : b.length < 1000000000) (hd : d.length < 1000000000) : impl_Sigs_clone.f h b d = some (h, b, d) := by
  unfold impl_Sigs_clone.f slices_Clone_bool_bool.f slices_Clone_int_int.f
  simp only [Option.bind_some]
  rw [if_pos (by simp; omega), if_pos (by simp; omega), if_pos (by simp; omega)]
  simp
theorem scopy_eq (h b : List Bool) (d : List Int) (hh : h.length < 1000000000) (hb : b.length < 1000000000) (hd : d.length < 1000000000) : spec_l10Copy.f h b d = some (h, b, d) := by
  unfold spec_l10Copy.f
  simp only [Option.bind_some]
  rw [if_pos (by simp; omega), if_pos (by simp; omega), if_pos (by simp; omega)]
  simp

theorem szints_eq (l : List Int) (a : Int) (hl : l.length ≤ 9223372036854775807) (h0 : 0 ≤ a) (h1 : a ≤ 1048576) :
    laws_szIntS.f l a = some (if a - (l.length : Int) < 0 then -1 else a - (l.length : Int)) := by
  unfold laws_szIntS.f
  rw [wrap_in (n := a - (l.length : Int)) (by omega) (by omega)]
  split <;> rfl
theorem toints_loop (l : List Int) (hl : l.length ≤ 1048576) : ∀ (d i : Nat) (x : List Int), i + d = l.length → x.length = l.length → (∀ j, j < i → x[j]? = l[j]?) →
    Evt (fun k => laws_toIntS.l0 k l x (i : Int) = some l) := by
  intro d
  induction d with
  | zero =>
    intro i x hi hx hj
    have e : x = l := by
      apply List.ext_getElem?
      intro j
      by_cases h : j < i
      · exact hj j h
      · rw [List.getElem?_eq_none (by omega), List.getElem?_eq_none (by omega)]
    subst e
    refine Evt.of1 fun k => ?_
    simp only [laws_toIntS.l0]
    rw [if_neg (by omega)]
  | succ d ih =>
    intro i x hi hx hj
    refine (ih (i + 1) (x.set i (rd l i)) (by omega) (by simp [hx]) ?_).step fun k hk => ?_
    · intro j hlt
      rw [List.getElem?_set]
      split
      · rename_i e
        subst e
        rw [if_pos (by omega), rd_nat, List.getD_eq_getElem?_getD, List.getElem?_eq_getElem (by omega)]
        rfl
      · exact hj j (by omega)
    · simp only [laws_toIntS.l0]
      rw [if_pos (by omega), if_pos (by omega), if_pos (by omega), nat_succ_wrap (by omega)]
      exact hk
theorem toints_ev (l : List Int) (hl : l.length ≤ 1048576) : Evt (fun k => laws_toIntS.f k l = some l) := by
  refine (toints_loop l hl l.length 0 (List.replicate l.length 0) (by omega) (by simp) (fun j h => by omega)).imp fun k hk => ?_
  unfold laws_toIntS.f
  rw [if_pos (by omega), Int.toNat_natCast, if_pos (by omega)]
  exact hk
theorem eqints_loop (a : List Int) (ha : a.length ≤ 1048576) : ∀ (d i : Nat), i + d = a.length → Evt (fun k => laws_eqIntS.l0 k a a (i : Int) = some true) := by
  intro d
  induction d with
  | zero =>
    intro i hi
    refine Evt.of1 fun k => ?_
    simp only [laws_eqIntS.l0]
    rw [if_neg (by omega)]
  | succ d ih =>
    intro i hi
    refine (ih (i + 1) (by omega)).step fun k hk => ?_
    simp only [laws_eqIntS.l0]
    rw [if_pos (by omega), if_pos (by omega), if_pos (by omega), if_pos trivial, nat_succ_wrap (by omega)]
    exact hk
theorem eqints_ev (a : List Int) (ha : a.length ≤ 1048576) : Evt (fun k => laws_eqIntS.f k a a = some true) := by
  refine (eqints_loop a ha a.length 0 (by omega)).imp fun k hk => ?_
  unfold laws_eqIntS.f
  rw [if_pos rfl]
  exact hk
def markI : Nat → Nat → Int → List Int → List Int
  | 0, _, _, l => l
  | d + 1, i, v, l => markI d (i + 1) (v + 1) (l.set i v)
theorem markI_len : ∀ (d i : Nat) (v : Int) (l : List Int), (markI d i v l).length = l.length
  | 0, _, _, _ => rfl
  | d + 1, i, v, l => by rw [markI, markI_len d]; simp
theorem markI_old : ∀ (d i : Nat) (v : Int) (l : List Int) (j : Nat), j < i → (markI d i v l)[j]? = l[j]?
  | 0, _, _, _, _, _ => rfl
  | d + 1, i, v, l, j, h => by
    rw [markI, markI_old d (i + 1) (v + 1) _ j (by omega), List.getElem?_set, if_neg (by omega)]
theorem markI_get : ∀ (d i : Nat) (v : Int) (l : List Int) (j : Nat), i + d ≤ l.length → j < d → (markI d i v l)[i + j]? = some (v + j)
  | 0, _, _, _, _, _, h => by omega
  | d + 1, i, v, l, j, h, hj => by
    rw [markI]
    cases j with
    | zero =>
      show (markI d (i + 1) (v + 1) (l.set i v))[i]? = some (v + ((0 : Nat) : Int))
      rw [markI_old d (i + 1) (v + 1) _ i (by omega), List.getElem?_set, if_pos rfl, if_pos (by omega)]
      simp
    | succ j =>
      have := markI_get d (i + 1) (v + 1) (l.set i v) j (by simp; omega) (by omega)
      rw [show i + (j + 1) = i + 1 + j from by omega, this]
      congr 1
      omega
theorem markints_loop : ∀ (d i : Nat) (v : Int) (l : List Int), i + d = l.length → l.length ≤ 1048576 → 0 ≤ v → v + d ≤ 1000000000000 →
    Evt (fun k => laws_markIntS.l0 k l v (i : Int) = some (v + d, markI d i v l)) := by
  intro d
  induction d with
  | zero =>
    intro i v l hi hl h0 h1
    refine Evt.of1 fun k => ?_
    simp only [laws_markIntS.l0]
    rw [if_neg (by omega)]
    simp [markI]
  | succ d ih =>
    intro i v l hi hl h0 h1
    refine (ih (i + 1) (v + 1) (l.set i v) (by simp; omega) (by simp; omega) (by omega) (by omega)).step fun k hk => ?_
    simp only [laws_markIntS.l0]
    rw [if_pos (by omega), if_pos (by omega), nat_succ_wrap (by omega), wrap_in (n := v + 1) (by omega) (by omega), Int.toNat_natCast, hk, markI]
    congr 2
    omega
theorem markints_ev (l : List Int) (v : Int) (hl : l.length ≤ 1048576) (h0 : 0 ≤ v) (h1 : v ≤ 1000000000) : Evt (fun k => laws_markIntS.f k l v = some (v + l.length, markI l.length 0 v l)) :=
  markints_loop l.length 0 v l (by omega) hl h0 (by omega)
theorem heldints_loop (l : List Int) (hl : l.length ≤ 1048576) (v : Int) (h0 : 0 ≤ v) (h1 : v ≤ 1000000000) (hg : ∀ j : Nat, j < l.length → l[j]? = some (v + j)) : ∀ (d i : Nat), i + d = l.length →
    Evt (fun k => laws_heldIntS.l0 k l (v + i) (i : Int) = some (v + l.length)) := by
  intro d
  induction d with
  | zero =>
    intro i hi
    refine Evt.of1 fun k => ?_
    simp only [laws_heldIntS.l0]
    rw [if_neg (by omega)]
    congr 2
    omega
  | succ d ih =>
    intro i hi
    refine (ih (i + 1) (by omega)).step fun k hk => ?_
    have e : rd l (i : Int) = v + i := by
      rw [rd_nat, List.getD_eq_getElem?_getD, hg i (by omega)]
      rfl
    simp only [laws_heldIntS.l0]
    rw [if_pos (by omega), if_pos (by omega), if_pos e, nat_succ_wrap (by omega), wrap_in (n := v + i + 1) (by omega) (by omega)]
    have e2 : v + (i : Int) + 1 = v + ((i + 1 : Nat) : Int) := by omega
    rw [e2]
    exact hk
theorem heldints_ev (l : List Int) (v : Int) (hl : l.length ≤ 1048576) (h0 : 0 ≤ v) (h1 : v ≤ 1000000000) : Evt (fun k => laws_heldIntS.f k (markI l.length 0 v l) v = some (v + l.length)) := by
  have hm := markI_len l.length 0 v l
  have := heldints_loop (markI l.length 0 v l) (by omega) v h0 h1 (fun j hj => by
    have := markI_get l.length 0 v l j (by omega) (by omega)
    rwa [Nat.zero_add] at this) l.length 0 (by omega)
  rw [hm] at this
  refine this.imp fun k hk => ?_
  unfold laws_heldIntS.f
  simpa using hk

theorem rdb_nat (l : List Bool) (i : Nat) : rdOf false l (i : Int) = l.getD i false := by simp [rdOf]
theorem szbools_eq (l : List Bool) (a : Int) (hl : l.length ≤ 9223372036854775807) (h0 : 0 ≤ a) (h1 : a ≤ 1048576) :
    laws_szBoolS.f l a = some (if a - (l.length : Int) < 0 then -1 else a - (l.length : Int)) := by
  unfold laws_szBoolS.f
  rw [wrap_in (n := a - (l.length : Int)) (by omega) (by omega)]
  split <;> rfl
theorem tobools_loop (l : List Bool) (hl : l.length ≤ 1048576) : ∀ (d i : Nat) (x : List Bool), i + d = l.length → x.length = l.length → (∀ j, j < i → x[j]? = l[j]?) →
    Evt (fun k => laws_toBoolS.l0 k l x (i : Int) = some l) := by
  intro d
  induction d with
  | zero =>
    intro i x hi hx hj
    have e : x = l := by
      apply List.ext_getElem?
      intro j
      by_cases h : j < i
      · exact hj j h
      · rw [List.getElem?_eq_none (by omega), List.getElem?_eq_none (by omega)]
    subst e
    refine Evt.of1 fun k => ?_
    simp only [laws_toBoolS.l0]
    rw [if_neg (by omega)]
  | succ d ih =>
    intro i x hi hx hj
    refine (ih (i + 1) (x.set i (rdOf false l i)) (by omega) (by simp [hx]) ?_).step fun k hk => ?_
    · intro j hlt
      rw [List.getElem?_set]
      split
      · rename_i e
        subst e
        rw [if_pos (by omega), rdb_nat, List.getD_eq_getElem?_getD, List.getElem?_eq_getElem (by omega)]
        rfl
      · exact hj j (by omega)
    · simp only [laws_toBoolS.l0]
      rw [if_pos (by omega), if_pos (by omega), if_pos (by omega), nat_succ_wrap (by omega)]
      exact hk
theorem tobools_ev (l : List Bool) (hl : l.length ≤ 1048576) : Evt (fun k => laws_toBoolS.f k l = some l) := by
  refine (tobools_loop l hl l.length 0 (List.replicate l.length false) (by omega) (by simp) (fun j h => by omega)).imp fun k hk => ?_
  unfold laws_toBoolS.f
  rw [if_pos (by omega), Int.toNat_natCast, if_pos (by omega)]
  exact hk
theorem eqbools_loop (a : List Bool) (ha : a.length ≤ 1048576) : ∀ (d i : Nat), i + d = a.length → Evt (fun k => laws_eqBoolS.l0 k a a (i : Int) = some true) := by
  intro d
  induction d with
  | zero =>
    intro i hi
    refine Evt.of1 fun k => ?_
    simp only [laws_eqBoolS.l0]
    rw [if_neg (by omega)]
  | succ d ih =>
    intro i hi
    refine (ih (i + 1) (by omega)).step fun k hk => ?_
    simp only [laws_eqBoolS.l0]
    rw [if_pos (by omega), if_pos (by omega), if_pos (by omega), if_neg (by simp), nat_succ_wrap (by omega)]
    exact hk
theorem eqbools_ev (a : List Bool) (ha : a.length ≤ 1048576) : Evt (fun k => laws_eqBoolS.f k a a = some true) := by
  refine (eqbools_loop a ha a.length 0 (by omega)).imp fun k hk => ?_
  unfold laws_eqBoolS.f
  rw [if_pos rfl]
  exact hk
def markB : Nat → Nat → Int → List Bool → List Bool
  | 0, _, _, l => l
  | d + 1, i, v, l => markB d (i + 1) (v + 1) (l.set i (Int.tmod v 3 == 0))
theorem markB_len : ∀ (d i : Nat) (v : Int) (l : List Bool), (markB d i v l).length = l.length
  | 0, _, _, _ => rfl
  | d + 1, i, v, l => by rw [markB, markB_len d]; simp
theorem markB_old : ∀ (d i : Nat) (v : Int) (l : List Bool) (j : Nat), j < i → (markB d i v l)[j]? = l[j]?
  | 0, _, _, _, _, _ => rfl
  | d + 1, i, v, l, j, h => by
    rw [markB, markB_old d (i + 1) (v + 1) _ j (by omega), List.getElem?_set, if_neg (by omega)]
theorem markB_get : ∀ (d i : Nat) (v : Int) (l : List Bool) (j : Nat), i + d ≤ l.length → j < d → (markB d i v l)[i + j]? = some (Int.tmod (v + j) 3 == 0)
  | 0, _, _, _, _, _, h => by omega
  | d + 1, i, v, l, j, h, hj => by
    rw [markB]
    cases j with
    | zero =>
      show (markB d (i + 1) (v + 1) (l.set i (Int.tmod v 3 == 0)))[i]? = some (Int.tmod (v + ((0 : Nat) : Int)) 3 == 0)
      rw [markB_old d (i + 1) (v + 1) _ i (by omega), List.getElem?_set, if_pos rfl, if_pos (by omega)]
      simp
    | succ j =>
      have := markB_get d (i + 1) (v + 1) (l.set i (Int.tmod v 3 == 0)) j (by simp; omega) (by omega)
      rw [show i + (j + 1) = i + 1 + j from by omega, this, show v + 1 + (j : Int) = v + ((j + 1 : Nat) : Int) from by omega]
theorem markbools_loop : ∀ (d i : Nat) (v : Int) (l : List Bool), i + d = l.length → l.length ≤ 1048576 → 0 ≤ v → v + d ≤ 1000000000000 →
    Evt (fun k => laws_markBoolS.l0 k l v (i : Int) = some (v + d, markB d i v l)) := by
  intro d
  induction d with
  | zero =>
    intro i v l hi hl h0 h1
    refine Evt.of1 fun k => ?_
    simp only [laws_markBoolS.l0]
    rw [if_neg (by omega)]
    simp [markB]
  | succ d ih =>
    intro i v l hi hl h0 h1
    refine (ih (i + 1) (v + 1) (l.set i (Int.tmod v 3 == 0)) (by simp; omega) (by simp; omega) (by omega) (by omega)).step fun k hk => ?_
    simp only [laws_markBoolS.l0]
    rw [if_pos (by omega), if_pos (by omega), nat_succ_wrap (by omega), wrap_in (n := v + 1) (by omega) (by omega), Int.toNat_natCast, hk, markB]
    congr 2
    omega
theorem markbools_ev (l : List Bool) (v : Int) (hl : l.length ≤ 1048576) (h0 : 0 ≤ v) (h1 : v ≤ 1000000000) : Evt (fun k => laws_markBoolS.f k l v = some (v + l.length, markB l.length 0 v l)) :=
  markbools_loop l.length 0 v l (by omega) hl h0 (by omega)
theorem heldbools_loop (l : List Bool) (hl : l.length ≤ 1048576) (v : Int) (h0 : 0 ≤ v) (h1 : v ≤ 1000000000) (hg : ∀ j : Nat, j < l.length → l[j]? = some (Int.tmod (v + j) 3 == 0)) : ∀ (d i : Nat), i + d = l.length →
    Evt (fun k => laws_heldBoolS.l0 k l (v + i) (i : Int) = some (v + l.length)) := by
  intro d
  induction d with
  | zero =>
    intro i hi
    refine Evt.of1 fun k => ?_
    simp only [laws_heldBoolS.l0]
    rw [if_neg (by omega)]
    congr 2
    omega
  | succ d ih =>
    intro i hi
    refine (ih (i + 1) (by omega)).step fun k hk => ?_
    have e : rdOf false l (i : Int) = (Int.tmod (v + i) 3 == 0) := by
      rw [rdb_nat, List.getD_eq_getElem?_getD, hg i (by omega)]
      rfl
    simp only [laws_heldBoolS.l0]
    rw [if_pos (by omega), if_pos (by omega), e, if_neg (by simp), nat_succ_wrap (by omega), wrap_in (n := v + i + 1) (by omega) (by omega)]
    have e2 : v + (i : Int) + 1 = v + ((i + 1 : Nat) : Int) := by omega
    rw [e2]
    exact hk
theorem heldbools_ev (l : List Bool) (v : Int) (hl : l.length ≤ 1048576) (h0 : 0 ≤ v) (h1 : v ≤ 1000000000) : Evt (fun k => laws_heldBoolS.f k (markB l.length 0 v l) v = some (v + l.length)) := by
  have hm := markB_len l.length 0 v l
  have := heldbools_loop (markB l.length 0 v l) (by omega) v h0 h1 (fun j hj => by
    have := markB_get l.length 0 v l j (by omega) (by omega)
    rwa [Nat.zero_add] at this) l.length 0 (by omega)
  rw [hm] at this
  refine this.imp fun k hk => ?_
  unfold laws_heldBoolS.f
  simpa using hk

theorem szsigs_ev (h b : List Bool) (d : List Int) (hh : h.length ≤ 9223372036854775807) (hb : b.length ≤ 9223372036854775807) (hd : d.length ≤ 9223372036854775807) :
    (∃ n, laws_szSigs.f h b d 1048576 = some n ∧ n < 0) ∨ (∃ n, laws_szSigs.f h b d 1048576 = some n ∧ 0 ≤ n ∧ h.length ≤ 1048576 ∧ b.length ≤ 1048576 ∧ d.length ≤ 1048576) := by
  unfold laws_szSigs.f
  rw [szbools_eq h 1048576 hh (by omega) (by omega)]
  simp only [Option.bind_some]
  by_cases c1 : 1048576 - (h.length : Int) < 0
  · left
    rw [if_pos c1]
    exact ⟨-1, by rw [if_pos (by omega)], by omega⟩
  · rw [if_neg c1, if_neg c1, szbools_eq b _ hb (by omega) (by omega)]
    simp only [Option.bind_some]
    by_cases c2 : 1048576 - (h.length : Int) - (b.length : Int) < 0
    · left
      rw [if_pos c2]
      exact ⟨-1, by rw [if_pos (by omega)], by omega⟩
    · rw [if_neg c2, if_neg c2, szints_eq d _ hd (by omega) (by omega)]
      simp only [Option.bind_some]
      by_cases c3 : 1048576 - (h.length : Int) - (b.length : Int) - (d.length : Int) < 0
      · left
        rw [if_pos c3]
        exact ⟨-1, by rw [if_pos (by omega)], by omega⟩
      · right
        rw [if_neg c3, if_neg c3]
        exact ⟨_, rfl, by omega, by omega, by omega, by omega⟩
theorem tosigs_ev (h b : List Bool) (d : List Int) (hh : h.length ≤ 1048576) (hb : b.length ≤ 1048576) (hd : d.length ≤ 1048576) : Evt (fun k => laws_toSigs.f k h b d = some (h, b, d)) := by
  refine ((tobools_ev h hh).and ((tobools_ev b hb).and (toints_ev d hd))).imp fun k hk => ?_
  unfold laws_toSigs.f
  exact bind_of hk.1 (bind_of hk.2.1 (bind_of hk.2.2 rfl))
theorem eqsigs_ev (h b : List Bool) (d : List Int) (hh : h.length ≤ 1048576) (hb : b.length ≤ 1048576) (hd : d.length ≤ 1048576) : Evt (fun k => laws_eqSigs.f k h b d h b d = some true) := by
  refine ((eqbools_ev h hh).and ((eqbools_ev b hb).and (eqints_ev d hd))).imp fun k hk => ?_
  unfold laws_eqSigs.f
  refine bind_of hk.1 ?_
  rw [if_pos rfl]
  refine bind_of hk.2.1 ?_
  rw [if_pos rfl]
  refine bind_of hk.2.2 ?_
  rfl
theorem marksigs_ev (h b : List Bool) (d : List Int) (hh : h.length ≤ 1048576) (hb : b.length ≤ 1048576) (hd : d.length ≤ 1048576) :
    ∃ m h' b' d', Evt (fun k => laws_markSigs.f k h b d 1 = some (m, h', b', d')) ∧ Evt (fun k => laws_heldSigs.f k h' b' d' 1 = some m) ∧ 0 ≤ m ∧ m ≤ 4000000 := by
  refine ⟨1 + h.length + b.length + d.length, markB h.length 0 1 h, markB b.length 0 (1 + h.length) b, markI d.length 0 (1 + h.length + b.length) d, ?_, ?_, by omega, by omega⟩
  · refine ((markbools_ev h 1 hh (by omega) (by omega)).and ((markbools_ev b (1 + h.length) hb (by omega) (by omega)).and (markints_ev d (1 + h.length + b.length) hd (by omega) (by omega)))).imp fun k hk => ?_
    unfold laws_markSigs.f
    exact bind_of hk.1 (bind_of hk.2.1 (bind_of hk.2.2 rfl))
  · refine ((heldbools_ev h 1 hh (by omega) (by omega)).and ((heldbools_ev b (1 + h.length) hb (by omega) (by omega)).and (heldints_ev d (1 + h.length + b.length) hd (by omega) (by omega)))).imp fun k hk => ?_
    unfold laws_heldSigs.f
    refine bind_of hk.1 ?_
    rw [if_neg (by omega)]
    refine bind_of hk.2.1 ?_
    rw [if_neg (by omega)]
    refine bind_of hk.2.2 ?_
    rw [if_neg (by omega)]

theorem rdI_set (c : List Int) (a j : Nat) (v : Int) (ha : a < c.length) : rd (c.set a v) (j : Int) = if a = j then v else rd c (j : Int) := by
  rw [rd_nat, rd_nat, List.getD_eq_getElem?_getD, List.getD_eq_getElem?_getD, List.getElem?_set]
  by_cases h : a = j
  · rw [if_pos h, if_pos h, if_pos (by omega)]; rfl
  · rw [if_neg h, if_neg h]
def runF : Nat → Nat → List Int → List Int
  | 0, _, d => d
  | e + 1, i, d => if rd d (i : Int) = 4 then runF e (i + 1) (d.set i 0) else runF e (i + 1) d
theorem runF_len : ∀ (e i : Nat) (d : List Int), (runF e i d).length = d.length
  | 0, _, _ => rfl
  | e + 1, i, d => by
    unfold runF
    split
    · rw [runF_len e (i + 1), List.length_set]
    · exact runF_len e (i + 1) d
theorem runF_get : ∀ (e i : Nat) (d : List Int), i + e ≤ d.length → ∀ j : Nat, rd (runF e i d) (j : Int) = if i ≤ j ∧ j < i + e ∧ rd d (j : Int) = 4 then 0 else rd d (j : Int)
  | 0, i, d, _, j => by rw [if_neg (by omega)]; rfl
  | e + 1, i, d, h, j => by
    unfold runF
    by_cases c : rd d (i : Int) = 4
    · rw [if_pos c, runF_get e (i + 1) _ (by simp; omega) j, rdI_set d i j 0 (by omega)]
      by_cases cj : i = j
      · subst cj
        rw [if_pos rfl, if_neg (by omega), if_pos ⟨by omega, by omega, c⟩]
      · rw [if_neg cj]
        by_cases c2 : i + 1 ≤ j ∧ j < i + 1 + e ∧ rd d (j : Int) = 4
        · rw [if_pos c2, if_pos ⟨by omega, by omega, c2.2.2⟩]
        · rw [if_neg c2, if_neg (fun z => c2 ⟨by omega, by omega, z.2.2⟩)]
    · rw [if_neg c, runF_get e (i + 1) d (by omega) j]
      by_cases c2 : i + 1 ≤ j ∧ j < i + 1 + e ∧ rd d (j : Int) = 4
      · rw [if_pos c2, if_pos ⟨by omega, by omega, c2.2.2⟩]
      · rw [if_neg c2, if_neg (fun z => by
          by_cases cj : i = j
          · subst cj; exact c z.2.2
          · exact c2 ⟨by omega, by omega, z.2.2⟩)]
theorem runF_id : ∀ (e i : Nat) (d : List Int), (∀ j : Nat, i ≤ j → j < i + e → rd d (j : Int) ≠ 4) → runF e i d = d
  | 0, _, _, _ => rfl
  | e + 1, i, d, h => by
    unfold runF
    rw [if_neg (h i (Nat.le_refl _) (by omega))]
    exact runF_id e (i + 1) d fun j h1 h2 => h j (by omega) (by omega)
theorem sAll_iff (b : List Bool) (d : List Int) : ∀ (e i : Nat), sAll b d e i = true ↔ ∀ j : Nat, i ≤ j → j < i + e → sOk b d j = true
  | 0, i => ⟨fun _ j h1 h2 => by omega, fun _ => rfl⟩
  | e + 1, i => by
    rw [sAll_succ, Bool.and_eq_true, sAll_iff b d e (i + 1)]
    constructor
    · rintro ⟨h1, h2⟩ j g1 g2
      by_cases cj : j = i
      · subst cj; exact h1
      · exact h2 j (by omega) (by omega)
    · intro h
      exact ⟨h i (Nat.le_refl _) (by omega), fun j g1 g2 => h j (by omega) (by omega)⟩
theorem run_ok {h b : List Bool} {d : List Int} (k : sigsOk h b d = true) : sigsOk h b (runF 8 0 d) = true := by
  obtain ⟨q1, q2, q3, q4⟩ := sigsOk_len k
  have ha := (sAll_iff b d 8 0).1 q4
  have : sAll b (runF 8 0 d) 8 0 = true := (sAll_iff _ _ _ _).2 fun j g1 g2 => by
    have hj := ha j g1 g2
    have e := runF_get 8 0 d (by omega) j
    unfold sOk at hj ⊢
    rw [e]
    by_cases c : rd d (j : Int) = 4
    · rw [if_pos ⟨g1, g2, c⟩]
      rw [c] at hj
      revert hj
      cases hb : rdOf false b (j : Int) <;> cases h0 : decide (j = 0) <;> cases h1 : decide (j = 1) <;> simp
    · rw [if_neg (fun z => c z.2.2)]
      exact hj
  unfold sigsOk
  rw [runF_len, decide_eq_true q1, decide_eq_true q2, decide_eq_true q3, this]
  rfl
def sigsRun (h b : List Bool) (d : List Int) : List Bool × List Bool × List Int := if sigsOk h b d = true then (h, b, runF 8 0 d) else ([], [], [])
theorem impl_run_loop (h b : List Bool) : ∀ (e i : Nat) (d : List Int), i + e = 8 → d.length = 8 → Evt (fun k => impl_SigsRun.l0 k 8 (i : Int) h b d = some (h, b, runF e i d)) := by
  intro e
  induction e with
  | zero =>
    intro i d hi hd
    refine Evt.of1 fun k => ?_
    simp only [impl_SigsRun.l0]
    rw [if_neg (by omega)]
    rfl
  | succ e ih =>
    intro i d hi hd
    by_cases c : rd d (i : Int) = 4
    · refine (ih (i + 1) (d.set i 0) (by omega) (by simpa using hd)).step fun k hk => ?_
      simp only [impl_SigsRun.l0]
      rw [if_pos (by omega), if_pos (by omega), if_pos (by omega), if_pos c, nat_succ_wrap (by omega), Int.toNat_natCast, hk, runF, if_pos c]
    · refine (ih (i + 1) d (by omega) hd).step fun k hk => ?_
      simp only [impl_SigsRun.l0]
      rw [if_pos (by omega), if_pos (by omega), if_pos (by omega), if_neg c, nat_succ_wrap (by omega), hk, runF, if_neg c]
theorem spec_run_loop (h b : List Bool) : ∀ (e i : Nat) (d : List Int), i + e = 8 → d.length = 8 → Evt (fun k => spec_SigsRun.l0 k (i : Int) h b d = some (h, b, runF e i d)) := by
  intro e
  induction e with
  | zero =>
    intro i d hi hd
    refine Evt.of1 fun k => ?_
    simp only [spec_SigsRun.l0]
    rw [if_neg (by omega)]
    rfl
  | succ e ih =>
    intro i d hi hd
    by_cases c : rd d (i : Int) = 4
    · refine (ih (i + 1) (d.set i 0) (by omega) (by simpa using hd)).step fun k hk => ?_
      simp only [spec_SigsRun.l0]
      rw [if_pos (by omega), if_pos (by omega), if_pos (by omega), if_pos c, nat_succ_wrap (by omega), Int.toNat_natCast, hk, runF, if_pos c]
    · refine (ih (i + 1) d (by omega) hd).step fun k hk => ?_
      simp only [spec_SigsRun.l0]
      rw [if_pos (by omega), if_pos (by omega), if_pos (by omega), if_neg c, nat_succ_wrap (by omega), hk, runF, if_neg c]
theorem impl_run_ev (h b : List Bool) (d : List Int) : Evt (fun k => impl_SigsRun.f k h b d = some (sigsRun h b d)) := by
  have hs := impl_sok_ev h b d
  unfold sigsRun
  cases hok : sigsOk h b d with
  | false =>
    rw [hok] at hs
    refine hs.imp fun k hk => ?_
    unfold impl_SigsRun.f
    refine bind_of hk ?_
    rw [if_neg (by decide), if_neg (by decide)]
  | true =>
    obtain ⟨q1, q2, q3, _⟩ := sigsOk_len hok
    rw [hok] at hs
    refine (hs.and (impl_run_loop h b 8 0 d (by omega) q3)).imp fun k hk => ?_
    unfold impl_SigsRun.f
    refine bind_of hk.1 ?_
    rw [if_pos rfl, if_pos rfl]
    refine bind_of (sclone_eq h b d (by omega) (by omega) (by omega)) ?_
    simp only [q3]
    exact hk.2
theorem spec_run_ev (h b : List Bool) (d : List Int) : Evt (fun k => spec_SigsRun.f k h b d = some (sigsRun h b d)) := by
  have hs := spec_sok_ev h b d
  unfold sigsRun
  cases hok : sigsOk h b d with
  | false =>
    rw [hok] at hs
    refine hs.imp fun k hk => ?_
    unfold spec_SigsRun.f
    refine bind_of hk ?_
    rw [if_neg (by decide), if_neg (by decide)]
  | true =>
    obtain ⟨q1, q2, q3, _⟩ := sigsOk_len hok
    rw [hok] at hs
    refine (hs.and (spec_run_loop h b 8 0 d (by omega) q3)).imp fun k hk => ?_
    unfold spec_SigsRun.f
    refine bind_of hk.1 ?_
    rw [if_pos rfl, if_pos rfl]
    refine bind_of (scopy_eq h b d (by omega) (by omega) (by omega)) ?_
    exact hk.2

theorem sigsRun_len (h b : List Bool) (d : List Int) : (sigsRun h b d).1.length ≤ 8 ∧ (sigsRun h b d).2.1.length ≤ 8 ∧ (sigsRun h b d).2.2.length ≤ 8 := by
  unfold sigsRun
  cases hok : sigsOk h b d with
  | false => rw [if_neg (by decide)]; simp
  | true =>
    obtain ⟨q1, q2, q3, _⟩ := sigsOk_len hok
    rw [if_pos rfl]
    exact ⟨by show h.length ≤ 8; omega, by show b.length ≤ 8; omega, by show (runF 8 0 d).length ≤ 8; rw [runF_len]; omega⟩
theorem FnExactSigsRun : laws_FnExactSigsRun.Pure := by
  intro h b d hh0 _ hb0 _ hd0 _
  rcases szsigs_ev h b d hh0 hb0 hd0 with ⟨n, hn, hneg⟩ | ⟨n, hn, hpos, hh, hb, hd⟩
  · refine ⟨0, ?_⟩
    unfold laws_FnExactSigsRun.f
    refine bind_of hn ?_
    rw [if_pos hneg]
  have h1 := impl_run_ev h b d
  have h2 := spec_run_ev h b d
  obtain ⟨g1, g2, g3⟩ := sigsRun_len h b d
  generalize sigsRun h b d = z at h1 h2 g1 g2 g3
  obtain ⟨zh, zb, zd⟩ := z
  simp only at g1 g2 g3
  have t := tosigs_ev h b d hh hb hd
  have e1 := eqsigs_ev h b d hh hb hd
  have e2 := eqsigs_ev zh zb zd (by omega) (by omega) (by omega)
  obtain ⟨m1, _, _, _, hm1, _, p1, _⟩ := marksigs_ev h b d hh hb hd
  obtain ⟨m2, h', b', d', hm2, hd2, p2, _⟩ := marksigs_ev zh zb zd (by omega) (by omega) (by omega)
  have j0 : Evt (fun k => laws_FnExactSigsRun.j0 k false h b d zh zb zd zh zb zd = some true) := by
    refine (((hm2.and hd2).and (t.and h1)).and e2).step fun k hk => ?_
    obtain ⟨⟨⟨k1, k2⟩, k3, k4⟩, k5⟩ := hk
    simp only [laws_FnExactSigsRun.j0]
    rw [if_neg (by decide)]
    refine bind_of k1 ?_
    refine bind_of k2 ?_
    rw [if_neg (by omega), if_pos rfl]
    refine bind_of k3 ?_
    refine bind_of k4 ?_
    refine bind_of k5 ?_
    rw [if_pos rfl]
    refine bind_of k2 ?_
    rw [if_neg (by omega), if_pos rfl]
  refine Evt.some_ ((((t.and h1).and (h2.and e2)).and ((e1.and hm1).and j0)).imp fun k hk => ?_)
  obtain ⟨⟨⟨k1, k2⟩, k3, k4⟩, ⟨k5, k6⟩, k7⟩ := hk
  unfold laws_FnExactSigsRun.f
  refine bind_of hn ?_
  rw [if_neg (by omega)]
  refine bind_of k1 ?_
  refine bind_of k3 ?_
  refine bind_of k1 ?_
  refine bind_of k2 ?_
  refine bind_of k4 ?_
  rw [if_pos rfl]
  refine bind_of k1 ?_
  refine bind_of k5 ?_
  rw [if_pos rfl]
  refine bind_of k6 ?_
  rw [if_neg (show ¬ m1 < 0 from by omega)]
  refine bind_of k4 ?_
  exact k7

end Go.Proofs.Ytehekikjadjdaaa.Pure
