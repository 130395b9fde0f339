/- Proved: for all signals and lists, the law FnExactSigsBlock answers true and leaves its arguments as they were (SigsBlock returns what the reference returns, in memory of its own). No condition beyond the row's own. -/
import Derived.Test.YtehekikjadjdaaaPFnExactSigsBlockx8
import Derived.Test.YtehekikjadjdaaaAuxFnExactSigsBlock
namespace Go.Proofs.Ytehekikjadjdaaa.Pure
open Go.RowKit Go.Proofs.Ytehekikjadjdaaa.PFnExactSigsBlock Go.Proofs.YtehekikjadjdaaaW.PrintWords Go.Proofs.YtehekikjadjdaaaW.PrintLast Go.Proofs.YtehekikjadjdaaaW.PrintMore Go.Proofs.Ytehekikjadjdaaa.Aux
def sOk (b : List Bool) (d : List Int) (i : Nat) : Bool :=
  (decide (rd d i = 0) || (decide (rd d i = 1) || decide (rd d i = 4))) && !((decide (i = 0) || decide (i = 1)) && (rdOf false b i || !decide (rd d i = 0)))
def sAll (b : List Bool) (d : List Int) : Nat → Nat → Bool
  | 0, _ => true
  | e + 1, i => sOk b d i && sAll b d e (i + 1)
theorem sAll_succ (b : List Bool) (d : List Int) (e i : Nat) : sAll b d (e + 1) i = (sOk b d i && sAll b d e (i + 1)) := rfl
def sigsOk (h b : List Bool) (d : List Int) : Bool := decide (h.length = 8) && (decide (b.length = 8) && (decide (d.length = 8) && sAll b d 8 0))
theorem sigsOk_len {h b : List Bool} {d : List Int} (k : sigsOk h b d = true) : h.length = 8 ∧ b.length = 8 ∧ d.length = 8 ∧ sAll b d 8 0 = true := by
  simpa [sigsOk] using k
theorem succ_is {i : Nat} (hi : i < 100) (n : Int) : wrap64 ((i : Int) + 1) = n ↔ (i : Int) + 1 = n := by rw [wrap_in (by omega) (by omega)]
theorem impl_sok_loop (h b : List Bool) (d : List Int) (hb : b.length = 8) (hd : d.length = 8) : ∀ (e i : Nat), i + e = 8 →
    Evt (fun k => impl_SigsOk.l0 k d (d.length : Int) (i : Int) h b d = some (sAll b d e i)) := by
  intro e
  induction e with
  | zero =>
    intro i hi
    refine Evt.of1 fun k => ?_
    simp only [impl_SigsOk.l0]
    rw [if_neg (by omega)]
    rfl
  | succ e ih =>
    intro i hi
    refine (ih (i + 1) (by omega)).step fun k hk => ?_
    have n1 : ((i : Int) + 1 = 1) ↔ i = 0 := by omega
    have n2 : ((i : Int) + 1 = 2) ↔ i = 1 := by omega
    simp only [impl_SigsOk.l0, succ_is (i := i) (by omega)]
    rw [nat_succ_wrap (by omega), hk]
    rw [if_pos (by omega), if_pos (by omega), if_pos (by omega)]
    have hbl : (i : Int) < (b.length : Int) := by omega
    simp only [if_pos hbl, n1, n2]
    rw [sAll_succ]
    unfold sOk
    generalize sAll b d e (i + 1) = R
    generalize rd d (i : Int) = v
    generalize rdOf false b (i : Int) = c
    clear hk ih hbl hd hb hi n1 n2
    by_cases c0 : i = 0
    · subst c0
      by_cases v0 : v = 0
      · subst v0; cases c <;> simp
      · by_cases v1 : v = 1
        · subst v1; cases c <;> simp
        · by_cases v4 : v = 4
          · subst v4; cases c <;> simp
          · simp [v0, v1, v4]
    · by_cases c1 : i = 1
      · subst c1
        by_cases v0 : v = 0
        · subst v0; cases c <;> simp
        · by_cases v1 : v = 1
          · subst v1; cases c <;> simp
          · by_cases v4 : v = 4
            · subst v4; cases c <;> simp
            · simp [v0, v1, v4]
      · by_cases v0 : v = 0
        · subst v0; simp [c0, c1]
        · by_cases v1 : v = 1
          · subst v1; simp [c0, c1]
          · by_cases v4 : v = 4
            · subst v4; simp [c0, c1]
            · simp [c0, v0, v1, v4]
theorem impl_sok_ev (h b : List Bool) (d : List Int) : Evt (fun k => impl_SigsOk.f k h b d = some (sigsOk h b d)) := by
  by_cases hh : h.length = 8
  · by_cases hb : b.length = 8
    · by_cases hd : d.length = 8
      · refine ((impl_sok_loop h b d hb hd 8 0 (by omega)).step (Q := fun k => impl_SigsOk.j0 k false h b d = some (sAll b d 8 0)) fun k hk => ?_).imp fun k hk => ?_
        · simp only [impl_SigsOk.j0]
          rw [if_neg (by decide)]
          exact hk
        · unfold impl_SigsOk.f sigsOk
          rw [if_pos (by omega), if_pos (by omega), show ((d.length : Int) != 8) = false from by simp [hd], hk]
          simp [hh, hb, hd]
      · refine Evt.of1 fun k => ?_
        unfold impl_SigsOk.f sigsOk
        rw [if_pos (by omega), if_pos (by omega), show ((d.length : Int) != 8) = true from by simp; omega]
        simp [impl_SigsOk.j0, hd]
    · refine Evt.of1 fun k => ?_
      unfold impl_SigsOk.f sigsOk
      rw [if_pos (by omega), if_neg (by omega)]
      simp [impl_SigsOk.j0, hb]
  · refine Evt.of1 fun k => ?_
    unfold impl_SigsOk.f sigsOk
    rw [if_neg (by omega)]
    simp [impl_SigsOk.j0, hh]

theorem fixed_eq (i : Nat) (hi : i < 100) : spec_l10Fixed.f (wrap64 ((i : Int) + 1)) = some (decide (i = 0) || decide (i = 1)) := by
  unfold spec_l10Fixed.f
  rw [wrap_in (by omega) (by omega)]
  by_cases c0 : i = 0
  · rw [if_pos (by omega)]
    simp [c0]
  · rw [if_neg (by omega)]
    simp only [c0, decide_false, Bool.false_or]
    congr 1
    by_cases c1 : i = 1
    · subst c1
      rfl
    · simp only [c1, decide_false]
      simp
      omega
theorem spec_sok_loop (h b : List Bool) (d : List Int) (hb : b.length = 8) (hd : d.length = 8) : ∀ (e i : Nat), i + e = 8 →
    Evt (fun k => spec_SigsOk.l0 k (i : Int) h b d = some (sAll b d e i)) := by
  intro e
  induction e with
  | zero =>
    intro i hi
    refine Evt.of1 fun k => ?_
    simp only [spec_SigsOk.l0]
    rw [if_neg (by omega)]
    rfl
  | succ e ih =>
    intro i hi
    refine (ih (i + 1) (by omega)).step fun k hk => ?_
    simp only [spec_SigsOk.l0, fixed_eq i (by omega), Option.bind_some]
    rw [nat_succ_wrap (by omega), hk]
    rw [if_pos (by omega), if_pos (by omega), if_pos (by omega)]
    have hbl : (i : Int) < (b.length : Int) := by omega
    simp only [if_pos hbl]
    rw [sAll_succ]
    unfold sOk
    generalize sAll b d e (i + 1) = R
    generalize rd d (i : Int) = v
    generalize rdOf false b (i : Int) = c
    generalize (decide (i = 0) || decide (i = 1)) = x
    clear hk ih hbl hd hb hi
    by_cases v0 : v = 0
    · subst v0; cases x <;> cases c <;> simp
    · by_cases v1 : v = 1
      · subst v1; cases x <;> cases c <;> simp
      · by_cases v4 : v = 4
        · subst v4; cases x <;> cases c <;> simp
        · simp [v0, v1, v4]
theorem spec_sok_ev (h b : List Bool) (d : List Int) : Evt (fun k => spec_SigsOk.f k h b d = some (sigsOk h b d)) := by
  by_cases hh : h.length = 8
  · by_cases hb : b.length = 8
    · by_cases hd : d.length = 8
      · refine ((spec_sok_loop h b d hb hd 8 0 (by omega)).step (Q := fun k => spec_SigsOk.j0 k false h b d = some (sAll b d 8 0)) fun k hk => ?_).imp fun k hk => ?_
        · simp only [spec_SigsOk.j0]
          rw [if_neg (by decide)]
          exact hk
        · unfold spec_SigsOk.f sigsOk
          rw [if_pos (by omega), if_pos (by omega), show ((d.length : Int) != 8) = false from by simp [hd], hk]
          simp [hh, hb, hd]
      · refine Evt.of1 fun k => ?_
        unfold spec_SigsOk.f sigsOk
        rw [if_pos (by omega), if_pos (by omega), show ((d.length : Int) != 8) = true from by simp; omega]
        simp [spec_SigsOk.j0, hd]
    · refine Evt.of1 fun k => ?_
      unfold spec_SigsOk.f sigsOk
      rw [if_pos (by omega), if_neg (by omega)]
      simp [spec_SigsOk.j0, hb]
  · refine Evt.of1 fun k => ?_
    unfold spec_SigsOk.f sigsOk
    rw [if_neg (by omega)]
    simp [spec_SigsOk.j0, hh]

theorem sclone_eq (h b : List Bool) (d : List Int) (hh : h.length < 1000000000) (hb : b.length < 1000000000) (hd : d.length < 1000000000) : impl_Sigs_clone.f h b d = some (h, b, d) := by
  unfold impl_Sigs_clone.f slices_Clone_bool_bool.f slices_Clone_int_int.f
  simp only [Option.bind_some]
  rw [if_pos (by simp; omega), if_pos (by simp; omega), if_pos (by simp; omega)]
  simp
theorem scopy_eq (h b : List Bool) (d : List Int) (hh : h.length < 1000000000) (hb : b.length < 1000000000) (hd : d.length < 1000000000) : spec_l10Copy.f h b d = some (h, b, d) := by
  unfold spec_l10Copy.f
  simp only [Option.bind_some]
  rw [if_pos (by simp; omega), if_pos (by simp; omega), if_pos (by simp; omega)]
  simp

theorem szints_eq (l : List Int) (a : Int) (hl : l.length ≤ 9223372036854775807) (h0 : 0 ≤ a) (h1 : a ≤ 1048576) :
    laws_szIntS.f l a = some (if a - (l.length : Int) < 0 then -1 else a - (l.length : Int)) := by
  unfold laws_szIntS.f
  rw [wrap_in (n := a - (l.length : Int)) (by omega) (by omega)]
  split <;> rfl
theorem toints_loop (l : List Int) (hl : l.length ≤ 1048576) : ∀ (d i : Nat) (x : List Int), i + d = l.length → x.length = l.length → (∀ j, j < i → x[j]? = l[j]?) →
    Evt (fun k => laws_toIntS.l0 k l x (i : Int) = some l) := by
  intro d
  induction d with
  | zero =>
    intro i x hi hx hj
    have e : x = l := by
      apply List.ext_getElem?
      intro j
      by_cases h : j < i
      · exact hj j h
      · rw [List.getElem?_eq_none (by omega), List.getElem?_eq_none (by omega)]
    subst e
    refine Evt.of1 fun k => ?_
    simp only [laws_toIntS.l0]
    rw [if_neg (by omega)]
  | succ d ih =>
    intro i x hi hx hj
    refine (ih (i + 1) (x.set i (rd l i)) (by omega) (by simp [hx]) ?_).step fun k hk => ?_
    · intro j hlt
      rw [List.getElem?_set]
      split
      · rename_i e
        subst e
        rw [if_pos (by omega), rd_nat, List.getD_eq_getElem?_getD, List.getElem?_eq_getElem (by omega)]
        rfl
      · exact hj j (by omega)
    · simp only [laws_toIntS.l0]
      rw [if_pos (by omega), if_pos (by omega), if_pos (by omega), nat_succ_wrap (by omega)]
      exact hk
theorem toints_ev (l : List Int) (hl : l.length ≤ 1048576) : Evt (fun k => laws_toIntS.f k l = some l) := by
  refine (toints_loop l hl l.length 0 (List.replicate l.length 0) (by omega) (by simp) (fun j h => by omega)).imp fun k hk => ?_
  unfold laws_toIntS.f
  rw [if_pos (by omega), Int.toNat_natCast, if_pos (by omega)]
  exact hk
theorem eqints_loop (a : List Int) (ha : a.length ≤ 1048576) : ∀ (d i : Nat), i + d = a.length → Evt (fun k => laws_eqIntS.l0 k a a (i : Int) = some true) := by
  intro d
  induction d with
  | zero =>
    intro i hi
    refine Evt.of1 fun k => ?_
    simp only [laws_eqIntS.l0]
    rw [if_neg (by omega)]
  | succ d ih =>
    intro i hi
    refine (ih (i + 1) (by omega)).step fun k hk => ?_
    simp only [laws_eqIntS.l0]
    rw [if_pos (by omega), if_pos (by omega), if_pos (by omega), if_pos trivial, nat_succ_wrap (by omega)]
    exact hk
theorem eqints_ev (a : List Int) (ha : a.length ≤ 1048576) : Evt (fun k => laws_eqIntS.f k a a = some true) := by
  refine (eqints_loop a ha a.length 0 (by omega)).imp fun k hk => ?_
  unfold laws_eqIntS.f
  rw [if_pos rfl]
  exact hk
def markI : Nat → Nat → Int → List Int → List Int
  | 0, _, _, l => l
  | d + 1, i, v, l => markI d (i + 1) (v + 1) (l.set i v)
theorem markI_len : ∀ (d i : Nat) (v : Int) (l : List Int), (markI d i v l).length = l.length
  | 0, _, _, _ => rfl
  | d + 1, i, v, l => by rw [markI, markI_len d]; simp
theorem markI_old : ∀ (d i : Nat) (v : Int) (l : List Int) (j : Nat), j < i → (markI d i v l)[j]? = l[j]?
  | 0, _, _, _, _, _ => rfl
  | d + 1, i, v, l, j, h => by
    rw [markI, markI_old d (i + 1) (v + 1) _ j (by omega), List.getElem?_set, if_neg (by omega)]
theorem markI_get : ∀ (d i : Nat) (v : Int) (l : List Int) (j : Nat), i + d ≤ l.length → j < d → (markI d i v l)[i + j]? = some (v + j)
  | 0, _, _, _, _, _, h => by omega
  | d + 1, i, v, l, j, h, hj => by
    rw [markI]
    cases j with
    | zero =>
      show (markI d (i + 1) (v + 1) (l.set i v))[i]? = some (v + ((0 : Nat) : Int))
      rw [markI_old d (i + 1) (v + 1) _ i (by omega), List.getElem?_set, if_pos rfl, if_pos (by omega)]
      simp
    | succ j =>
      have := markI_get d (i + 1) (v + 1) (l.set i v) j (by simp; omega) (by omega)
      rw [show i + (j + 1) = i + 1 + j from by omega, this]
      congr 1
      omega
theorem markints_loop : ∀ (d i : Nat) (v : Int) (l : List Int), i + d = l.length → l.length ≤ 1048576 → 0 ≤ v → v + d ≤ 1000000000000 →
    Evt (fun k => laws_markIntS.l0 k l v (i : Int) = some (v + d, markI d i v l)) := by
  intro d
  induction d with
  | zero =>
    intro i v l hi hl h0 h1
    refine Evt.of1 fun k => ?_
    simp only [laws_markIntS.l0]
    rw [if_neg (by omega)]
    simp [markI]
  | succ d ih =>
    intro i v l hi hl h0 h1
    refine (ih (i + 1) (v + 1) (l.set i v) (by simp; omega) (by simp; omega) (by omega) (by omega)).step fun k hk => ?_
    simp only [laws_markIntS.l0]
    rw [if_pos (by omega), if_pos (by omega), nat_succ_wrap (by omega), wrap_in (n := v + 1) (by omega) (by omega), Int.toNat_natCast, hk, markI]
    congr 2
    omega
theorem markints_ev (l : List Int) (v : Int) (hl : l.length ≤ 1048576) (h0 : 0 ≤ v) (h1 : v ≤ 1000000000) : Evt (fun k => laws_markIntS.f k l v = some (v + l.length, markI l.length 0 v l)) :=
  markints_loop l.length 0 v l (by omega) hl h0 (by omega)
theorem heldints_loop (l : List Int) (hl : l.length ≤ 1048576) (v : Int) (h0 : 0 ≤ v) (h1 : v ≤ 1000000000) (hg : ∀ j : Nat, j < l.length → l[j]? = some (v + j)) : ∀ (d i : Nat), i + d = l.length →
    Evt (fun k => laws_heldIntS.l0 k l (v + i) (i : Int) = some (v + l.length)) := by
  intro d
  induction d with
  | zero =>
    intro i hi
    refine Evt.of1 fun k => ?_
    simp only [laws_heldIntS.l0]
    rw [if_neg (by omega)]
    congr 2
    omega
  | succ d ih =>
    intro i hi
    refine (ih (i + 1) (by omega)).step fun k hk => ?_
    have e : rd l (i : Int) = v + i := by
      rw [rd_nat, List.getD_eq_getElem?_getD, hg i (by omega)]
      rfl
    simp only [laws_heldIntS.l0]
    rw [if_pos (by omega), if_pos (by omega), if_pos e, nat_succ_wrap (by omega), wrap_in (n := v + i + 1) (by omega) (by omega)]
    have e2 : v + (i : Int) + 1 = v + ((i + 1 : Nat) : Int) := by omega
    rw [e2]
    exact hk
theorem heldints_ev (l : List Int) (v : Int) (hl : l.length ≤ 1048576) (h0 : 0 ≤ v) (h1 : v ≤ 1000000000) : Evt (fun k => laws_heldIntS.f k (markI l.length 0 v l) v = some (v + l.length)) := by
  have hm := markI_len l.length 0 v l
  have := heldints_loop (markI l.length 0 v l) (by omega) v h0 h1 (fun j hj => by
    have := markI_get l.length 0 v l j (by omega) (by omega)
    rwa [Nat.zero_add] at this) l.length 0 (by omega)
  rw [hm] at this
  refine this.imp fun k hk => ?_
  unfold laws_heldIntS.f
  simpa using hk

theorem rdb_nat (l : List Bool) (i : Nat) : rdOf false l (i : Int) = l.getD i false := by simp [rdOf]
theorem szbools_eq (l : List Bool) (a : Int) (hl : l.length ≤ 9223372036854775807) (h0 : 0 ≤ a) (h1 : a ≤ 1048576) :
    laws_szBoolS.f l a = some (if a - (l.length : Int) < 0 then -1 else a - (l.length : Int)) := by
  unfold laws_szBoolS.f
  rw [wrap_in (n := a - (l.length : Int)) (by omega) (by omega)]
  split <;> rfl
theorem tobools_loop (l : List Bool) (hl : l.length ≤ 1048576) : ∀ (d i : Nat) (x : List Bool), i + d = l.length → x.length = l.length → (∀ j, j < i → x[j]? = l[j]?) →
    Evt (fun k => laws_toBoolS.l0 k l x (i : Int) = some l) := by
  intro d
  induction d with
  | zero =>
    intro i x hi hx hj
    have e : x = l := by
      apply List.ext_getElem?
      intro j
      by_cases h : j < i
      · exact hj j h
      · rw [List.getElem?_eq_none (by omega), List.getElem?_eq_none (by omega)]
    subst e
    refine Evt.of1 fun k => ?_
    simp only [laws_toBoolS.l0]
    rw [if_neg (by omega)]
  | succ d ih =>
    intro i x hi hx hj
    refine (ih (i + 1) (x.set i (rdOf false l i)) (by omega) (by simp [hx]) ?_).step fun k hk => ?_
    · intro j hlt
      rw [List.getElem?_set]
      split
      · rename_i e
        subst e
        rw [if_pos (by omega), rdb_nat, List.getD_eq_getElem?_getD, List.getElem?_eq_getElem (by omega)]
        rfl
      · exact hj j (by omega)
    · simp only [laws_toBoolS.l0]
      rw [if_pos (by omega), if_pos (by omega), if_pos (by omega), nat_succ_wrap (by omega)]
      exact hk
theorem tobools_ev (l : List Bool) (hl : l.length ≤ 1048576) : Evt (fun k => laws_toBoolS.f k l = some l) := by
  refine (tobools_loop l hl l.length 0 (List.replicate l.length false) (by omega) (by simp) (fun j h => by omega)).imp fun k hk => ?_
  unfold laws_toBoolS.f
  rw [if_pos (by omega), Int.toNat_natCast, if_pos (by omega)]
  exact hk
theorem eqbools_loop (a : List Bool) (ha : a.length ≤ 1048576) : ∀ (d i : Nat), i + d = a.length → Evt (fun k => laws_eqBoolS.l0 k a a (i : Int) = some true) := by
  intro d
  induction d with
  | zero =>
    intro i hi
    refine Evt.of1 fun k => ?_
    simp only [laws_eqBoolS.l0]
    rw [if_neg (by omega)]
  | succ d ih =>
    intro i hi
    refine (ih (i + 1) (by omega)).step fun k hk => ?_
    simp only [laws_eqBoolS.l0]
    rw [if_pos (by omega), if_pos (by omega), if_pos (by omega), if_neg (by simp), nat_succ_wrap (by omega)]
    exact hk
theorem eqbools_ev (a : List Bool) (ha : a.length ≤ 1048576) : Evt (fun k => laws_eqBoolS.f k a a = some true) := by
  refine (eqbools_loop a ha a.length 0 (by omega)).imp fun k hk => ?_
  unfold laws_eqBoolS.f
  rw [if_pos rfl]
  exact hk
def markB : Nat → Nat → Int → List Bool → List Bool
  | 0, _, _, l => l
  | d + 1, i, v, l => markB d (i + 1) (v + 1) (l.set i (Int.tmod v 3 == 0))
theorem markB_len : ∀ (d i : Nat) (v : Int) (l : List Bool), (markB d i v l).length = l.length
  | 0, _, _, _ => rfl
  | d + 1, i, v, l => by rw [markB, markB_len d]; simp
theorem markB_old : ∀ (d i : Nat) (v : Int) (l : List Bool) (j : Nat), j < i → (markB d i v l)[j]? = l[j]?
  | 0, _, _, _, _, _ => rfl
  | d + 1, i, v, l, j, h => by
    rw [markB, markB_old d (i + 1) (v + 1) _ j (by omega), List.getElem?_set, if_neg (by omega)]
theorem markB_get : ∀ (d i : Nat) (v : Int) (l : List Bool) (j : Nat), i + d ≤ l.length → j < d → (markB d i v l)[i + j]? = some (Int.tmod (v + j) 3 == 0)
  | 0, _, _, _, _, _, h => by omega
  | d + 1, i, v, l, j, h, hj => by
    rw [markB]
    cases j with
    | zero =>
      show (markB d (i + 1) (v + 1) (l.set i (Int.tmod v 3 == 0)))[i]? = some (Int.tmod (v + ((0 : Nat) : Int)) 3 == 0)
      rw [markB_old d (i + 1) (v + 1) _ i (by omega), List.getElem?_set, if_pos rfl, if_pos (by omega)]
      simp
    | succ j =>
      have := markB_get d (i + 1) (v + 1) (l.set i (Int.tmod v 3 == 0)) j (by simp; omega) (by omega)
      rw [show i + (j + 1) = i + 1 + j from by omega, this, show v + 1 + (j : Int) = v + ((j + 1 : Nat) : Int) from by omega]
theorem markbools_loop : ∀ (d i : Nat) (v : Int) (l : List Bool), i + d = l.length → l.length ≤ 1048576 → 0 ≤ v → v + d ≤ 1000000000000 →
    Evt (fun k => laws_markBoolS.l0 k l v (i : Int) = some (v + d, markB d i v l)) := by
  intro d
  induction d with
  | zero =>
    intro i v l hi hl h0 h1
    refine Evt.of1 fun k => ?_
    simp only [laws_markBoolS.l0]
    rw [if_neg (by omega)]
    simp [markB]
  | succ d ih =>
    intro i v l hi hl h0 h1
    refine (ih (i + 1) (v + 1) (l.set i (Int.tmod v 3 == 0)) (by simp; omega) (by simp; omega) (by omega) (by omega)).step fun k hk => ?_
    simp only [laws_markBoolS.l0]
    rw [if_pos (by omega), if_pos (by omega), nat_succ_wrap (by omega), wrap_in (n := v + 1) (by omega) (by omega), Int.toNat_natCast, hk, markB]
    congr 2
    omega
theorem markbools_ev (l : List Bool) (v : Int) (hl : l.length ≤ 1048576) (h0 : 0 ≤ v) (h1 : v ≤ 1000000000) : Evt (fun k => laws_markBoolS.f k l v = some (v + l.length, markB l.length 0 v l)) :=
  markbools_loop l.length 0 v l (by omega) hl h0 (by omega)
theorem heldbools_loop (l : List Bool) (hl : l.length ≤ 1048576) (v : Int) (h0 : 0 ≤ v) (h1 : v ≤ 1000000000) (hg : ∀ j : Nat, j < l.length → l[j]? = some (Int.tmod (v + j) 3 == 0)) : ∀ (d i : Nat), i + d = l.length →
    Evt (fun k => laws_heldBoolS.l0 k l (v + i) (i : Int) = some (v + l.length)) := by
  intro d
  induction d with
  | zero =>
    intro i hi
    refine Evt.of1 fun k => ?_
    simp only [laws_heldBoolS.l0]
    rw [if_neg (by omega)]
    congr 2
    omega
  | succ d ih =>
    intro i hi
    refine (ih (i + 1) (by omega)).step fun k hk => ?_
    have e : rdOf false l (i : Int) = (Int.tmod (v + i) 3 == 0) := by
      rw [rdb_nat, List.getD_eq_getElem?_getD, hg i (by omega)]
      rfl
    simp only [laws_heldBoolS.l0]
    rw [if_pos (by omega), if_pos (by omega), e, if_neg (by simp), nat_succ_wrap (by omega), wrap_in (n := v + i + 1) (by omega) (by omega)]
    have e2 : v + (i : Int) + 1 = v + ((i + 1 : Nat) : Int) := by omega
    rw [e2]
    exact hk
theorem heldbools_ev (l : List Bool) (v : Int) (hl : l.length ≤ 1048576) (h0 : 0 ≤ v) (h1 : v ≤ 1000000000) : Evt (fun k => laws_heldBoolS.f k (markB l.length 0 v l) v = some (v + l.length)) := by
  have hm := markB_len l.length 0 v l
  have := heldbools_loop (markB l.length 0 v l) (by omega) v h0 h1 (fun j hj => by
    have := markB_get l.length 0 v l j (by omega) (by omega)
    rwa [Nat.zero_add] at this) l.length 0 (by omega)
  rw [hm] at this
  refine this.imp fun k hk => ?_
  unfold laws_heldBoolS.f
  simpa using hk

theorem szsigs_ev (h b : List Bool) (d : List Int) (hh : h.length ≤ 9223372036854775807) (hb : b.length ≤ 9223372036854775807) (hd : d.length ≤ 9223372036854775807) :
    (∃ n, laws_szSigs.f h b d 1048576 = some n ∧ n < 0) ∨ (∃ n, laws_szSigs.f h b d 1048576 = some n ∧ 0 ≤ n ∧ h.length ≤ 1048576 ∧ b.length ≤ 1048576 ∧ d.length ≤ 1048576) := by
  unfold laws_szSigs.f
  rw [szbools_eq h 1048576 hh (by omega) (by omega)]
  simp only [Option.bind_some]
  by_cases c1 : 1048576 - (h.length : Int) < 0
  · left
    rw [if_pos c1]
    exact ⟨-1, by rw [if_pos (by omega)], by omega⟩
  · rw [if_neg c1, if_neg c1, szbools_eq b _ hb (by omega) (by omega)]
    simp only [Option.bind_some]
    by_cases c2 : 1048576 - (h.length : Int) - (b.length : Int) < 0
    · left
      rw [if_pos c2]
      exact ⟨-1, by rw [if_pos (by omega)], by omega⟩
    · rw [if_neg c2, if_neg c2, szints_eq d _ hd (by omega) (by omega)]
      simp only [Option.bind_some]
      by_cases c3 : 1048576 - (h.length : Int) - (b.length : Int) - (d.length : Int) < 0
      · left
        rw [if_pos c3]
        exact ⟨-1, by rw [if_pos (by omega)], by omega⟩
      · right
        rw [if_neg c3, if_neg c3]
        exact ⟨_, rfl, by omega, by omega, by omega, by omega⟩
theorem tosigs_ev (h b : List Bool) (d : List Int) (hh : h.length ≤ 1048576) (hb : b.length ≤ 1048576) (hd : d.length ≤ 1048576) : Evt (fun k => laws_toSigs.f k h b d = some (h, b, d)) := by
  refine ((tobools_ev h hh).and ((tobools_ev b hb).and (toints_ev d hd))).imp fun k hk => ?_
  unfold laws_toSigs.f
  exact bind_of hk.1 (bind_of hk.2.1 (bind_of hk.2.2 rfl))
theorem eqsigs_ev (h b : List Bool) (d : List Int) (hh : h.length ≤ 1048576) (hb : b.length ≤ 1048576) (hd : d.length ≤ 1048576) : Evt (fun k => laws_eqSigs.f k h b d h b d = some true) := by
  refine ((eqbools_ev h hh).and ((eqbools_ev b hb).and (eqints_ev d hd))).imp fun k hk => ?_
  unfold laws_eqSigs.f
  refine bind_of hk.1 ?_
  rw [if_pos rfl]
  refine bind_of hk.2.1 ?_
  rw [if_pos rfl]
  refine bind_of hk.2.2 ?_
  rfl
theorem marksigs_ev (h b : List Bool) (d : List Int) (hh : h.length ≤ 1048576) (hb : b.length ≤ 1048576) (hd : d.length ≤ 1048576) :
    ∃ m h' b' d', Evt (fun k => laws_markSigs.f k h b d 1 = some (m, h', b', d')) ∧ Evt (fun k => laws_heldSigs.f k h' b' d' 1 = some m) ∧ 0 ≤ m ∧ m ≤ 4000000 := by
  refine ⟨1 + h.length + b.length + d.length, markB h.length 0 1 h, markB b.length 0 (1 + h.length) b, markI d.length 0 (1 + h.length + b.length) d, ?_, ?_, by omega, by omega⟩
  · refine ((markbools_ev h 1 hh (by omega) (by omega)).and ((markbools_ev b (1 + h.length) hb (by omega) (by omega)).and (markints_ev d (1 + h.length + b.length) hd (by omega) (by omega)))).imp fun k hk => ?_
    unfold laws_markSigs.f
    exact bind_of hk.1 (bind_of hk.2.1 (bind_of hk.2.2 rfl))
  · refine ((heldbools_ev h 1 hh (by omega) (by omega)).and ((heldbools_ev b (1 + h.length) hb (by omega) (by omega)).and (heldints_ev d (1 + h.length + b.length) hd (by omega) (by omega)))).imp fun k hk => ?_
    unfold laws_heldSigs.f
    refine bind_of hk.1 ?_
    rw [if_neg (by omega)]
    refine bind_of hk.2.1 ?_
    rw [if_neg (by omega)]
    refine bind_of hk.2.2 ?_
    rw [if_neg (by omega)]

def blkAt (l : List Bool) (i : Nat) : Bool := rdOf false l i && !(decide (i = 0) || decide (i = 1))
def blk (l : List Bool) : Nat → Nat → List Bool → List Bool
  | 0, _, b => b
  | e + 1, i, b => blk l e (i + 1) (b.set i (blkAt l i))
theorem blk_len (l : List Bool) : ∀ (e i : Nat) (b : List Bool), (blk l e i b).length = b.length
  | 0, _, _ => rfl
  | e + 1, i, b => by rw [blk, blk_len l e]; simp
theorem blk_get (l : List Bool) : ∀ (e i : Nat) (b : List Bool) (j : Nat), j < b.length → (blk l e i b)[j]? = if i ≤ j ∧ j < i + e then some (blkAt l j) else b[j]?
  | 0, i, b, j, h => by rw [blk, if_neg (by omega)]
  | e + 1, i, b, j, h => by
    rw [blk, blk_get l e (i + 1) _ j (by simpa using h), List.getElem?_set]
    by_cases c : i = j
    · subst c
      rw [if_neg (by omega), if_pos rfl, if_pos h, if_pos (by omega)]
    · rw [if_neg c]
      by_cases c2 : i + 1 ≤ j ∧ j < i + 1 + e
      · rw [if_pos c2, if_pos (by omega)]
      · rw [if_neg c2, if_neg (by omega)]
def sigsBlock (h b : List Bool) (d : List Int) (l : List Bool) : List Bool × List Bool × List Int × Bool :=
  if sigsOk h b d = true ∧ l.length = 8 then (h, blk l 8 0 b, d, true) else ([], [], [], false)
theorem impl_block_loop (l : List Bool) (hl : l.length = 8) (h : List Bool) (d : List Int) : ∀ (e i : Nat) (b : List Bool), i + e = 8 → b.length = 8 →
    Evt (fun k => impl_SigsBlock.l0 k l (l.length : Int) (i : Int) h b d = some (h, blk l e i b, d, true)) := by
  intro e
  induction e with
  | zero =>
    intro i b hi hb
    refine Evt.of1 fun k => ?_
    simp only [impl_SigsBlock.l0]
    rw [if_neg (by omega)]
    rfl
  | succ e ih =>
    intro i b hi hb
    refine (ih (i + 1) (b.set i (blkAt l i)) (by omega) (by simpa using hb)).step fun k hk => ?_
    simp only [impl_SigsBlock.l0]
    have hbl : (i : Int) < (b.length : Int) := by omega
    rw [if_pos (by omega), if_pos (by omega), if_pos (by omega)]
    simp only [if_pos hbl, nat_succ_wrap (show i < 9223372036854775807 by omega), Int.toNat_natCast]
    rw [blk]
    unfold blkAt at hk ⊢
    by_cases c : rdOf false l (i : Int) = true
    · rw [if_pos c]
      rw [c] at hk ⊢
      by_cases c0 : i = 0
      · subst c0
        rw [if_pos (by rfl)]
        exact hk
      · rw [if_neg (by omega)]
        have e3 : (((i + 1 : Nat) : Int) != 2) = (true && !(decide (i = 0) || decide (i = 1))) := by
          by_cases c1 : i = 1
          · subst c1; rfl
          · have : ((i + 1 : Nat) : Int) ≠ 2 := by omega
            simp [c0, c1]
            omega
        rw [e3]
        exact hk
    · rw [if_neg c]
      have c' : rdOf false l (i : Int) = false := Bool.eq_false_iff.2 c
      rw [c'] at hk ⊢
      exact hk
theorem impl_block_ev (h b : List Bool) (d : List Int) (l : List Bool) : Evt (fun k => impl_SigsBlock.f k h b d l = some (sigsBlock h b d l)) := by
  have hs := impl_sok_ev h b d
  cases hok : sigsOk h b d with
  | false =>
    rw [hok] at hs
    refine hs.step fun k hk => ?_
    unfold impl_SigsBlock.f sigsBlock
    refine bind_of (impl_SigsOk.mono _ _ _ k _ hk) ?_
    rw [if_neg (by decide), if_neg (by simp [hok])]
    simp only [impl_SigsBlock.j0]
    rw [if_pos trivial]
  | true =>
    obtain ⟨q1, q2, q3, _⟩ := sigsOk_len hok
    rw [hok] at hs
    by_cases hl : l.length = 8
    · have lp := impl_block_loop l hl h d 8 0 b (by omega) q2
      have j0 : Evt (fun k => impl_SigsBlock.j0 k l ((l.length : Int) != 8) h b d = some (h, blk l 8 0 b, d, true)) := by
        refine lp.step fun k hk => ?_
        simp only [impl_SigsBlock.j0]
        rw [if_neg (by simp [hl])]
        refine bind_of (sclone_eq h b d (by omega) (by omega) (by omega)) ?_
        exact hk
      refine (hs.and j0).imp fun k hk => ?_
      unfold impl_SigsBlock.f sigsBlock
      refine bind_of hk.1 ?_
      rw [if_pos rfl, if_pos ⟨hok, hl⟩]
      exact hk.2
    · refine hs.step fun k hk => ?_
      unfold impl_SigsBlock.f sigsBlock
      refine bind_of (impl_SigsOk.mono _ _ _ k _ hk) ?_
      rw [if_pos rfl, if_neg (by simp [hl])]
      simp only [impl_SigsBlock.j0]
      rw [if_pos (by simp; omega)]
theorem spec_block_loop (l : List Bool) (hl : l.length = 8) (h : List Bool) (d : List Int) : ∀ (e i : Nat) (b : List Bool), i + e = 8 → b.length = 8 →
    Evt (fun k => spec_SigsBlock.l0 k l (i : Int) h b d = some (h, blk l e i b, d, true)) := by
  intro e
  induction e with
  | zero =>
    intro i b hi hb
    refine Evt.of1 fun k => ?_
    simp only [spec_SigsBlock.l0]
    rw [if_neg (by omega)]
    rfl
  | succ e ih =>
    intro i b hi hb
    refine (ih (i + 1) (b.set i (blkAt l i)) (by omega) (by simpa using hb)).step fun k hk => ?_
    simp only [spec_SigsBlock.l0]
    have hbl : (i : Int) < (b.length : Int) := by omega
    rw [if_pos (by omega), if_pos (by omega), if_pos (by omega)]
    simp only [if_pos hbl, Int.toNat_natCast]
    rw [blk]
    unfold blkAt at hk ⊢
    by_cases c : rdOf false l (i : Int) = true
    · rw [if_pos c]
      rw [c] at hk ⊢
      refine bind_of (fixed_eq i (by omega)) ?_
      rw [nat_succ_wrap (by omega)]
      exact hk
    · rw [if_neg c, nat_succ_wrap (by omega)]
      have c' : rdOf false l (i : Int) = false := Bool.eq_false_iff.2 c
      rw [c'] at hk ⊢
      exact hk
theorem spec_block_ev (h b : List Bool) (d : List Int) (l : List Bool) : Evt (fun k => spec_SigsBlock.f k h b d l = some (sigsBlock h b d l)) := by
  have hs := spec_sok_ev h b d
  cases hok : sigsOk h b d with
  | false =>
    rw [hok] at hs
    refine hs.step fun k hk => ?_
    unfold spec_SigsBlock.f sigsBlock
    refine bind_of (spec_SigsOk.mono _ _ _ k _ hk) ?_
    rw [if_neg (by decide), if_neg (by simp [hok])]
    simp only [spec_SigsBlock.j0]
    rw [if_pos trivial]
  | true =>
    obtain ⟨q1, q2, q3, _⟩ := sigsOk_len hok
    rw [hok] at hs
    by_cases hl : l.length = 8
    · have lp := spec_block_loop l hl h d 8 0 b (by omega) q2
      have j0 : Evt (fun k => spec_SigsBlock.j0 k l ((l.length : Int) != 8) h b d = some (h, blk l 8 0 b, d, true)) := by
        refine lp.step fun k hk => ?_
        simp only [spec_SigsBlock.j0]
        rw [if_neg (by simp [hl])]
        refine bind_of (scopy_eq h b d (by omega) (by omega) (by omega)) ?_
        exact hk
      refine (hs.and j0).imp fun k hk => ?_
      unfold spec_SigsBlock.f sigsBlock
      refine bind_of hk.1 ?_
      rw [if_pos rfl, if_pos ⟨hok, hl⟩]
      exact hk.2
    · refine hs.step fun k hk => ?_
      unfold spec_SigsBlock.f sigsBlock
      refine bind_of (spec_SigsOk.mono _ _ _ k _ hk) ?_
      rw [if_pos rfl, if_neg (by simp [hl])]
      simp only [spec_SigsBlock.j0]
      rw [if_pos (by simp; omega)]
theorem sigsBlock_len (h b : List Bool) (d : List Int) (l : List Bool) : (sigsBlock h b d l).1.length ≤ h.length ∧ (sigsBlock h b d l).2.1.length ≤ b.length ∧ (sigsBlock h b d l).2.2.1.length ≤ d.length := by
  unfold sigsBlock
  split
  · simp [blk_len]
  · simp

theorem FnExactSigsBlock : laws_FnExactSigsBlock.Pure := by
  intro h b d l hh0 _ hb0 _ hd0 _ hl0 _
  by_cases hlen : (l.length : Int) > 1048576
  · refine ⟨0, ?_⟩
    unfold laws_FnExactSigsBlock.f
    rw [if_pos hlen]
  have hl : l.length ≤ 1048576 := by omega
  rcases szsigs_ev h b d hh0 hb0 hd0 with ⟨z, hn, hneg⟩ | ⟨z, hn, hpos, hh, hb, hd⟩
  · refine ⟨0, ?_⟩
    unfold laws_FnExactSigsBlock.f
    rw [if_neg hlen]
    refine bind_of hn ?_
    rw [if_pos hneg]
  have h1 := impl_block_ev h b d l
  have h2 := spec_block_ev h b d l
  obtain ⟨g1, g2, g3⟩ := sigsBlock_len h b d l
  generalize sigsBlock h b d l = y at h1 h2 g1 g2 g3
  obtain ⟨zh, zb, zd, zo⟩ := y
  simp only at g1 g2 g3
  have t := tosigs_ev h b d hh hb hd
  have tl := tobools_ev l hl
  have el := eqbools_ev l hl
  have e1 := eqsigs_ev h b d hh hb hd
  have e2 := eqsigs_ev zh zb zd (by omega) (by omega) (by omega)
  obtain ⟨m1, _, _, _, hm1, _, p1, p1'⟩ := marksigs_ev h b d hh hb hd
  have ml := markbools_ev l m1 hl p1 (by omega)
  obtain ⟨m2, h', b', d', hm2, hd2, p2, _⟩ := marksigs_ev zh zb zd (by omega) (by omega) (by omega)
  have j2 : Evt (fun k => laws_FnExactSigsBlock.j2 k m2 false h' b' d' = some true) := by
    refine hd2.step fun k hk => ?_
    simp only [laws_FnExactSigsBlock.j2]
    rw [if_neg (by decide)]
    refine bind_of hk ?_
    rw [if_neg (by omega), if_pos rfl]
  have j1 : Evt (fun k => laws_FnExactSigsBlock.j1 k l zo false h b d zh zb zd zh zb zd = some true) := by
    refine (((hm2.and hd2).and (t.and h1)).and ((e2.and j2).and tl)).step fun k hk => ?_
    obtain ⟨⟨⟨k1, k2⟩, k3, k4⟩, ⟨k5, k6⟩, k7⟩ := hk
    simp only [laws_FnExactSigsBlock.j1]
    rw [if_neg (by decide)]
    refine bind_of k1 ?_
    refine bind_of k2 ?_
    rw [if_neg (by omega), if_pos rfl]
    refine bind_of k3 ?_
    refine bind_of k7 ?_
    refine bind_of k4 ?_
    refine bind_of k5 ?_
    rw [if_pos rfl]
    simp only [bne_self_eq_false]
    exact k6
  have j0 : Evt (fun k => laws_FnExactSigsBlock.j0 k l zo l zo false h b d zh zb zd h b d zh zb zd = some true) := by
    refine ((((e1.and hm1).and (t.and e2)).and j1).and ((tl.and el).and ml)).step fun k hk => ?_
    obtain ⟨⟨⟨⟨k1, k2⟩, k3, k4⟩, k5⟩, ⟨k6, k7⟩, k8⟩ := hk
    simp only [laws_FnExactSigsBlock.j0]
    rw [if_neg (by decide)]
    refine bind_of k3 ?_
    refine bind_of k1 ?_
    rw [if_pos rfl]
    refine bind_of k6 ?_
    refine bind_of k7 ?_
    rw [if_pos rfl]
    refine bind_of k2 ?_
    refine bind_of k8 ?_
    rw [if_neg (show ¬ m1 + (l.length : Int) < 0 from by omega)]
    refine bind_of k4 ?_
    rw [if_pos rfl]
    simp only [bne_self_eq_false]
    exact k5
  refine Evt.some_ ((((t.and h1).and (h2.and e2)).and (j0.and tl)).imp fun k hk => ?_)
  obtain ⟨⟨⟨k1, k2⟩, k3, k4⟩, k5, k6⟩ := hk
  unfold laws_FnExactSigsBlock.f
  rw [if_neg hlen]
  refine bind_of hn ?_
  rw [if_neg (by omega)]
  refine bind_of k1 ?_
  refine bind_of k6 ?_
  refine bind_of k3 ?_
  refine bind_of k1 ?_
  refine bind_of k6 ?_
  refine bind_of k2 ?_
  refine bind_of k4 ?_
  rw [if_pos rfl]
  simp only [bne_self_eq_false]
  exact k5

end Go.Proofs.Ytehekikjadjdaaa.Pure
