/- Proved: for every credential and user, the law FnExactCredBecome answers true and leaves its arguments as they were (CredBecome returns what the reference returns, in memory of its own). No condition beyond the row's own. -/
import Derived.Test.YtmabedbgfcinhaaPFnExactCredBecomex4
import Derived.Test.YtmabedbgfcinhaaAux
namespace Go.Proofs.Ytmabedbgfcinhaa.Pure
open Go.RowKit Go.Proofs.Ytmabedbgfcinhaa.PFnExactCredBecome Go.Proofs.YtmabedbgfcinhaaW.PrintWords Go.Proofs.YtmabedbgfcinhaaW.PrintLast Go.Proofs.YtmabedbgfcinhaaW.PrintMore Go.Proofs.Ytmabedbgfcinhaa.Aux
theorem in_eq (a b c : Int) : impl_in.f a b c = some (decide (b ≤ a) && decide (a ≤ c)) := by
  unfold impl_in.f
  by_cases h : a ≥ b
  · rw [if_pos h]; simp [show b ≤ a from h]
  · rw [if_neg h]; simp [show ¬ b ≤ a from h]
theorem l6in_eq (a b c : Int) : spec_l6In.f a b c = some (decide (b ≤ a) && decide (a ≤ c)) := by
  unfold spec_l6In.f
  by_cases h : a ≥ b
  · rw [if_pos h]; simp [show b ≤ a from h]
  · rw [if_neg h]; simp [show ¬ b ≤ a from h]
theorem user_eq (a : Int) : spec_l5User.f a = some (decide (0 ≤ a) && decide (a ≤ 9)) := by
  unfold spec_l5User.f
  rw [l6in_eq]; rfl
def us (a : Int) : Bool := decide (0 ≤ a) && decide (a ≤ 9)
theorem us_iff {a : Int} : us a = true ↔ 0 ≤ a ∧ a ≤ 9 := by simp [us]
def cOk (g : List Int) (i : Nat) : Bool := us (rd g i) && (decide (i = 0) || decide (rd g ((i : Int) - 1) < rd g i))
def cAll (g : List Int) : Nat → Nat → Bool
  | 0, _ => true
  | d + 1, i => cOk g i && cAll g d (i + 1)
def credFin (u r : Int) (g : List Int) : Bool := us u && (us r && decide ((g.length : Int) ≤ 3))
def credOk (u r : Int) (g : List Int) : Bool := cAll g g.length 0 && credFin u r g
theorem impl_ok_loop (u r : Int) (g : List Int) (hg : g.length < 1000000000) : ∀ (d i : Nat), i + d = g.length →
    Evt (fun k => impl_CredOk.l0 k g (g.length : Int) (i : Int) u r g = some (cAll g d i && credFin u r g)) := by
  intro d
  induction d with
  | zero =>
    intro i hi
    refine Evt.of1 fun k => ?_
    simp only [impl_CredOk.l0]
    rw [if_neg (by omega), in_eq, in_eq]
    simp only [Option.bind_some, cAll, Bool.true_and, credFin]
    change (if us u = true then (if us r = true then _ else _) else _) = _
    cases us u <;> cases us r <;> simp
  | succ d ih =>
    intro i hi
    refine (ih (i + 1) (by omega)).step fun k hk => ?_
    simp only [impl_CredOk.l0]
    rw [if_pos (by omega), if_pos (by omega), if_pos (by omega), in_eq]
    simp only [Option.bind_some, cAll]
    change (if us (rd g i) = true then _ else _) = _
    unfold cOk
    cases hu : us (rd g i) with
    | false => simp
    | true =>
      simp only [if_true, Bool.true_and]
      by_cases h0 : i = 0
      · subst h0
        rw [if_neg (by omega), nat_succ_wrap (by omega), hk]
        simp
      · rw [if_pos (by omega), nat_pred_wrap (by omega), if_pos (by omega), if_pos (by omega)]
        by_cases hlt : rd g ((i : Int) - 1) < rd g i
        · rw [if_neg (by omega), nat_succ_wrap (by omega), hk]
          simp [hlt]
        · rw [if_pos (by omega)]
          simp [hlt, h0]
theorem impl_ok_ev (u r : Int) (g : List Int) (hg : g.length < 1000000000) : Evt (fun k => impl_CredOk.f k u r g = some (credOk u r g)) :=
  impl_ok_loop u r g hg g.length 0 (by omega)
theorem spec_ok_loop (u r : Int) (g : List Int) (hg : g.length < 1000000000) : ∀ (d i : Nat), i + d = g.length →
    Evt (fun k => spec_CredOk.l0 k (i : Int) u r g = some (cAll g d i && credFin u r g)) := by
  intro d
  induction d with
  | zero =>
    intro i hi
    refine Evt.of1 fun k => ?_
    simp only [spec_CredOk.l0]
    rw [if_neg (by omega), user_eq, user_eq]
    simp only [Option.bind_some, cAll, Bool.true_and, credFin]
    change (if us u = true then (if us r = true then _ else _) else _) = _
    cases us u <;> cases us r <;> simp
  | succ d ih =>
    intro i hi
    refine (ih (i + 1) (by omega)).step fun k hk => ?_
    simp only [spec_CredOk.l0]
    rw [if_pos (by omega), if_pos (by omega), user_eq]
    simp only [Option.bind_some, cAll]
    change (if us (rd g i) = true then _ else _) = _
    unfold cOk
    cases hu : us (rd g i) with
    | false => simp
    | true =>
      simp only [if_true, Bool.true_and]
      by_cases h0 : i = 0
      · subst h0
        rw [if_neg (by omega), nat_succ_wrap (by omega), hk]
        simp
      · rw [if_pos (by omega), nat_pred_wrap (by omega), if_pos (by omega), if_pos (by omega)]
        by_cases hlt : rd g ((i : Int) - 1) < rd g i
        · rw [if_neg (by omega), nat_succ_wrap (by omega), hk]
          simp [hlt]
        · rw [if_pos (by omega)]
          simp [hlt, h0]
theorem spec_ok_ev (u r : Int) (g : List Int) (hg : g.length < 1000000000) : Evt (fun k => spec_CredOk.f k u r g = some (credOk u r g)) :=
  spec_ok_loop u r g hg g.length 0 (by omega)
theorem credOk_user {u r : Int} {g : List Int} (h : credOk u r g = true) : us u = true ∧ us r = true ∧ g.length ≤ 3 := by
  simp [credOk, credFin] at h
  exact ⟨h.2.1, h.2.2.1, by omega⟩

theorem szints_eq (l : List Int) (a : Int) (hl : l.length ≤ 9223372036854775807) (h0 : 0 ≤ a) (h1 : a ≤ 1048576) :
    laws_szIntS.f l a = some (if a - (l.length : Int) < 0 then -1 else a - (l.length : Int)) := by
  unfold laws_szIntS.f
  rw [wrap_in (n := a - (l.length : Int)) (by omega) (by omega)]
  split <;> rfl
theorem toints_loop (l : List Int) (hl : l.length ≤ 1048576) : ∀ (d i : Nat) (x : List Int), i + d = l.length → x.length = l.length → (∀ j, j < i → x[j]? = l[j]?) →
    Evt (fun k => laws_toIntS.l0 k l x (i : Int) = some l) := by
  intro d
  induction d with
  | zero =>
    intro i x hi hx hj
    have e : x = l := by
      apply List.ext_getElem?
      intro j
      by_cases h : j < i
      · exact hj j h
      · rw [List.getElem?_eq_none (by omega), List.getElem?_eq_none (by omega)]
    subst e
    refine Evt.of1 fun k => ?_
    simp only [laws_toIntS.l0]
    rw [if_neg (by omega)]
  | succ d ih =>
    intro i x hi hx hj
    refine (ih (i + 1) (x.set i (rd l i)) (by omega) (by simp [hx]) ?_).step fun k hk => ?_
    · intro j hlt
      rw [List.getElem?_set]
      split
      · rename_i e
        subst e
        rw [if_pos (by omega), rd_nat, List.getD_eq_getElem?_getD, List.getElem?_eq_getElem (by omega)]
        rfl
      · exact hj j (by omega)
    · simp only [laws_toIntS.l0]
      rw [if_pos (by omega), if_pos (by omega), if_pos (by omega), nat_succ_wrap (by omega)]
      exact hk
theorem toints_ev (l : List Int) (hl : l.length ≤ 1048576) : Evt (fun k => laws_toIntS.f k l = some l) := by
  refine (toints_loop l hl l.length 0 (List.replicate l.length 0) (by omega) (by simp) (fun j h => by omega)).imp fun k hk => ?_
  unfold laws_toIntS.f
  rw [if_pos (by omega), Int.toNat_natCast, if_pos (by omega)]
  exact hk
theorem eqints_loop (a : List Int) (ha : a.length ≤ 1048576) : ∀ (d i : Nat), i + d = a.length → Evt (fun k => laws_eqIntS.l0 k a a (i : Int) = some true) := by
  intro d
  induction d with
  | zero =>
    intro i hi
    refine Evt.of1 fun k => ?_
    simp only [laws_eqIntS.l0]
    rw [if_neg (by omega)]
  | succ d ih =>
    intro i hi
    refine (ih (i + 1) (by omega)).step fun k hk => ?_
    simp only [laws_eqIntS.l0]
    rw [if_pos (by omega), if_pos (by omega), if_pos (by omega), if_pos trivial, nat_succ_wrap (by omega)]
    exact hk
theorem eqints_ev (a : List Int) (ha : a.length ≤ 1048576) : Evt (fun k => laws_eqIntS.f k a a = some true) := by
  refine (eqints_loop a ha a.length 0 (by omega)).imp fun k hk => ?_
  unfold laws_eqIntS.f
  rw [if_pos rfl]
  exact hk
def markI : Nat → Nat → Int → List Int → List Int
  | 0, _, _, l => l
  | d + 1, i, v, l => markI d (i + 1) (v + 1) (l.set i v)
theorem markI_len : ∀ (d i : Nat) (v : Int) (l : List Int), (markI d i v l).length = l.length
  | 0, _, _, _ => rfl
  | d + 1, i, v, l => by rw [markI, markI_len d]; simp
theorem markI_old : ∀ (d i : Nat) (v : Int) (l : List Int) (j : Nat), j < i → (markI d i v l)[j]? = l[j]?
  | 0, _, _, _, _, _ => rfl
  | d + 1, i, v, l, j, h => by
    rw [markI, markI_old d (i + 1) (v + 1) _ j (by omega), List.getElem?_set, if_neg (by omega)]
theorem markI_get : ∀ (d i : Nat) (v : Int) (l : List Int) (j : Nat), i + d ≤ l.length → j < d → (markI d i v l)[i + j]? = some (v + j)
  | 0, _, _, _, _, _, h => by omega
  | d + 1, i, v, l, j, h, hj => by
    rw [markI]
    cases j with
    | zero =>
      show (markI d (i + 1) (v + 1) (l.set i v))[i]? = some (v + ((0 : Nat) : Int))
      rw [markI_old d (i + 1) (v + 1) _ i (by omega), List.getElem?_set, if_pos rfl, if_pos (by omega)]
      simp
    | succ j =>
      have := markI_get d (i + 1) (v + 1) (l.set i v) j (by simp; omega) (by omega)
      rw [show i + (j + 1) = i + 1 + j from by omega, this]
      congr 1
      omega
theorem markints_loop : ∀ (d i : Nat) (v : Int) (l : List Int), i + d = l.length → l.length ≤ 1048576 → 0 ≤ v → v + d ≤ 1000000000000 →
    Evt (fun k => laws_markIntS.l0 k l v (i : Int) = some (v + d, markI d i v l)) := by
  intro d
  induction d with
  | zero =>
    intro i v l hi hl h0 h1
    refine Evt.of1 fun k => ?_
    simp only [laws_markIntS.l0]
    rw [if_neg (by omega)]
    simp [markI]
  | succ d ih =>
    intro i v l hi hl h0 h1
    refine (ih (i + 1) (v + 1) (l.set i v) (by simp; omega) (by simp; omega) (by omega) (by omega)).step fun k hk => ?_
    simp only [laws_markIntS.l0]
    rw [if_pos (by omega), if_pos (by omega), nat_succ_wrap (by omega), wrap_in (n := v + 1) (by omega) (by omega), Int.toNat_natCast, hk, markI]
    congr 2
    omega
theorem markints_ev (l : List Int) (v : Int) (hl : l.length ≤ 1048576) (h0 : 0 ≤ v) (h1 : v ≤ 1000000000) : Evt (fun k => laws_markIntS.f k l v = some (v + l.length, markI l.length 0 v l)) :=
  markints_loop l.length 0 v l (by omega) hl h0 (by omega)
theorem heldints_loop (l : List Int) (hl : l.length ≤ 1048576) (v : Int) (h0 : 0 ≤ v) (h1 : v ≤ 1000000000) (hg : ∀ j : Nat, j < l.length → l[j]? = some (v + j)) : ∀ (d i : Nat), i + d = l.length →
    Evt (fun k => laws_heldIntS.l0 k l (v + i) (i : Int) = some (v + l.length)) := by
  intro d
  induction d with
  | zero =>
    intro i hi
    refine Evt.of1 fun k => ?_
    simp only [laws_heldIntS.l0]
    rw [if_neg (by omega)]
    congr 2
    omega
  | succ d ih =>
    intro i hi
    refine (ih (i + 1) (by omega)).step fun k hk => ?_
    have e : rd l (i : Int) = v + i := by
      rw [rd_nat, List.getD_eq_getElem?_getD, hg i (by omega)]
      rfl
    simp only [laws_heldIntS.l0]
    rw [if_pos (by omega), if_pos (by omega), if_pos e, nat_succ_wrap (by omega), wrap_in (n := v + i + 1) (by omega) (by omega)]
    have e2 : v + (i : Int) + 1 = v + ((i + 1 : Nat) : Int) := by omega
    rw [e2]
    exact hk
theorem heldints_ev (l : List Int) (v : Int) (hl : l.length ≤ 1048576) (h0 : 0 ≤ v) (h1 : v ≤ 1000000000) : Evt (fun k => laws_heldIntS.f k (markI l.length 0 v l) v = some (v + l.length)) := by
  have hm := markI_len l.length 0 v l
  have := heldints_loop (markI l.length 0 v l) (by omega) v h0 h1 (fun j hj => by
    have := markI_get l.length 0 v l j (by omega) (by omega)
    rwa [Nat.zero_add] at this) l.length 0 (by omega)
  rw [hm] at this
  refine this.imp fun k hk => ?_
  unfold laws_heldIntS.f
  simpa using hk

theorem szcred_eq (u r : Int) (g : List Int) (hg : g.length ≤ 9223372036854775807) : laws_szCred.f u r g 1048576 = some (if 1048576 - (g.length : Int) < 0 then -1 else 1048576 - (g.length : Int)) := by
  unfold laws_szCred.f
  rw [szints_eq g 1048576 hg (by omega) (by omega)]
  simp only [Option.bind_some]
  split <;> simp_all
theorem tocred_ev (u r : Int) (g : List Int) (hg : g.length ≤ 1048576) : Evt (fun k => laws_toCred.f k u r g = some (u, r, g)) := by
  refine (toints_ev g hg).imp fun k hk => ?_
  unfold laws_toCred.f
  rw [hk]
  rfl
theorem eqcred_ev (u r : Int) (g : List Int) (hg : g.length ≤ 1048576) : Evt (fun k => laws_eqCred.f k u r g u r g = some true) := by
  refine (eqints_ev g hg).imp fun k hk => ?_
  unfold laws_eqCred.f
  rw [if_pos rfl, if_pos rfl, hk]
  rfl
theorem markcred_ev (u r : Int) (g : List Int) (hg : g.length ≤ 1048576) : Evt (fun k => laws_markCred.f k u r g 1 = some (1 + (g.length : Int), markI g.length 0 1 g)) := by
  refine (markints_ev g 1 hg (by omega) (by omega)).imp fun k hk => ?_
  unfold laws_markCred.f
  rw [hk]
  rfl
theorem heldcred_ev (u r : Int) (g : List Int) (hg : g.length ≤ 1048576) : Evt (fun k => laws_heldCred.f k u r (markI g.length 0 1 g) 1 = some (1 + (g.length : Int))) := by
  refine (heldints_ev g 1 hg (by omega) (by omega)).imp fun k hk => ?_
  unfold laws_heldCred.f
  rw [hk]
  simp only [Option.bind_some]
  rw [if_neg (by omega)]

theorem clone_eq (u r : Int) (g : List Int) (hg : g.length < 1000000000) : impl_Cred_clone.f u r g = some (u, r, g) := by
  unfold impl_Cred_clone.f slices_Clone_int_int.f
  simp only [Option.bind_some]
  rw [if_pos (by simp; omega)]
  simp

theorem copy_eq (u r : Int) (g : List Int) (hg : g.length < 1000000000) : spec_l5Copy.f u r g = some (u, r, g) := by
  unfold spec_l5Copy.f
  simp only [Option.bind_some]
  rw [if_pos (by simp; omega)]
  simp

def credBecome (u r : Int) (g : List Int) (x : Int) : Int × Int × List Int × Bool :=
  if (credOk u r g && us x) = true then (if u = 0 then (x, x, g, true) else if x = r then (x, r, g, true) else if x = u then (x, r, g, true) else (0, 0, [], false)) else (0, 0, [], false)
theorem impl_become_ev (u r : Int) (g : List Int) (x : Int) (hg : g.length < 1000000000) : Evt (fun k => impl_CredBecome.f k u r g x = some (credBecome u r g x)) := by
  refine (impl_ok_ev u r g hg).step fun k hk => ?_
  have hk' := impl_CredOk.mono _ _ _ k _ hk
  unfold impl_CredBecome.f credBecome
  rw [hk', in_eq]
  simp only [Option.bind_some]
  change (if credOk u r g = true then impl_CredBecome.j0 (k + 1) x (!us x) u r g else _) = _
  cases credOk u r g <;> cases us x <;> simp [impl_CredBecome.j0]
  rw [clone_eq u r g hg]
  simp only [Option.bind_some]
  by_cases a : u = 0
  · simp only [if_pos a]
  · by_cases b : x = r
    · simp only [if_neg a, if_pos b]
    · by_cases c : x = u
      · simp only [if_neg a, if_neg b, if_pos c]
      · simp only [if_neg a, if_neg b, if_neg c]

theorem spec_become_ev (u r : Int) (g : List Int) (x : Int) (hg : g.length < 1000000000) : Evt (fun k => spec_CredBecome.f k u r g x = some (credBecome u r g x)) := by
  refine (spec_ok_ev u r g hg).step fun k hk => ?_
  have hk' := spec_CredOk.mono _ _ _ k _ hk
  unfold spec_CredBecome.f credBecome
  rw [copy_eq u r g hg]
  simp only [Option.bind_some]
  rw [hk', user_eq]
  simp only [Option.bind_some]
  change (if credOk u r g = true then spec_CredBecome.j0 (k + 1) x (!us x) u r g x r g else _) = _
  cases credOk u r g <;> cases us x <;> simp [spec_CredBecome.j0]
  by_cases a : u = 0
  · simp only [if_pos a]
  · by_cases b : x = r
    · simp only [if_neg a, if_pos b]
    · by_cases c : x = u
      · simp only [if_neg a, if_neg b, if_pos c]
      · simp only [if_neg a, if_neg b, if_neg c]

theorem become_len (u r : Int) (g : List Int) (x : Int) : (credBecome u r g x).2.2.1.length ≤ g.length := by
  unfold credBecome
  split
  · split
    · simp
    · split
      · simp
      · split <;> simp
  · simp
theorem become_cases (u r : Int) (g : List Int) (x : Int) :
    (credBecome u r g x).2.2.2 = false ∨ (credOk u r g = true ∧ us x = true ∧ ((u = 0 ∧ credBecome u r g x = (x, x, g, true)) ∨ (u ≠ 0 ∧ (x = r ∨ x = u) ∧ credBecome u r g x = (x, r, g, true)))) := by
  unfold credBecome
  cases h1 : credOk u r g <;> cases h2 : us x
  · simp
  · simp
  · simp
  · by_cases a : u = 0
    · simp [a]
    · by_cases b : x = r
      · simp [a, b]
      · by_cases c : x = u
        · simp [a, c]
        · simp [a, b, c]
theorem become_false (u r : Int) (g : List Int) (x : Int) (h : (credBecome u r g x).2.2.2 = false) : credBecome u r g x = (0, 0, [], false) := by
  rcases Classical.em (credBecome u r g x = (0, 0, [], false)) with h1 | h1
  · exact h1
  · exfalso
    apply h1
    revert h
    unfold credBecome
    split
    · split
      · simp
      · split
        · simp
        · split
          · simp
          · simp
    · simp
theorem credOk_of {u r a b : Int} {g : List Int} (h : credOk u r g = true) (ha : us a = true) (hb : us b = true) : credOk a b g = true := by
  simp only [credOk, credFin, Bool.and_eq_true] at h ⊢
  exact ⟨h.1, ha, hb, h.2.2.2⟩

theorem FnExactCredBecome : laws_FnExactCredBecome.Pure := by
  intro u r g x _ _ hg0 _ _
  have hsz := szcred_eq u r g hg0
  by_cases hbig : 1048576 - (g.length : Int) < 0
  · rw [if_pos hbig] at hsz
    refine ⟨0, ?_⟩
    unfold laws_FnExactCredBecome.f
    rw [hsz]
    simp only [Option.bind_some]
    rw [if_pos (by omega)]
  rw [if_neg hbig] at hsz
  have hg : g.length ≤ 1048576 := by omega
  have h1 := impl_become_ev u r g x (by omega)
  have h2 := spec_become_ev u r g x (by omega)
  have hl := become_len u r g x
  generalize credBecome u r g x = b at h1 h2 hl
  obtain ⟨bu, br, bg, bo⟩ := b
  have hl' : bg.length ≤ g.length := hl
  have t := tocred_ev u r g hg
  have e1 := eqcred_ev u r g hg
  have m1 := markcred_ev u r g hg
  have e2 := eqcred_ev bu br bg (by omega)
  have m2 := markcred_ev bu br bg (by omega)
  have d2 := heldcred_ev bu br bg (by omega)
  have j2 : Evt (fun k => laws_FnExactCredBecome.j2 k (1 + (bg.length : Int)) false bu br (markI bg.length 0 1 bg) = some true) := by
    refine d2.step fun k hk => ?_
    simp only [laws_FnExactCredBecome.j2]
    rw [if_neg (by decide), hk]
    simp only [Option.bind_some]
    rw [if_neg (by omega), if_pos trivial]
  have j1 : Evt (fun k => laws_FnExactCredBecome.j1 k x bo false u r g bu br bg bu br bg = some true) := by
    refine (((m2.and d2).and (t.and h1)).and (e2.and j2)).step fun k hk => ?_
    obtain ⟨⟨⟨k1, k2⟩, k3, k4⟩, k5, k6⟩ := hk
    simp only [laws_FnExactCredBecome.j1]
    rw [if_neg (by decide), k1]
    simp only [Option.bind_some]
    rw [k2]
    simp only [Option.bind_some]
    rw [if_neg (by omega), if_pos trivial, k3]
    simp only [Option.bind_some]
    rw [k4]
    simp only [Option.bind_some]
    rw [k5]
    simp only [Option.bind_some, if_true, bne_self_eq_false]
    exact k6
  have j0 : Evt (fun k => laws_FnExactCredBecome.j0 k x bo bo false u r g bu br bg u r g bu br bg = some true) := by
    refine (((m1.and e1).and (t.and e2)).and j1).step fun k hk => ?_
    obtain ⟨⟨⟨k1, k2⟩, k3, k4⟩, k5⟩ := hk
    simp only [laws_FnExactCredBecome.j0]
    rw [if_neg (by decide), k3]
    simp only [Option.bind_some]
    rw [k2]
    simp only [Option.bind_some, if_true]
    rw [k1]
    simp only [Option.bind_some]
    rw [if_neg (by omega), k4]
    simp only [Option.bind_some, if_true, bne_self_eq_false]
    exact k5
  refine Evt.some_ (((t.and h1).and (h2.and e2)).and j0 |>.imp fun k hk => ?_)
  obtain ⟨⟨⟨k1, k2⟩, k3, k4⟩, k5⟩ := hk
  unfold laws_FnExactCredBecome.f
  rw [hsz]
  simp only [Option.bind_some]
  rw [if_neg (by omega), k1]
  simp only [Option.bind_some]
  rw [k2, k3]
  simp only [Option.bind_some]
  rw [k4]
  simp only [Option.bind_some, if_true, bne_self_eq_false]
  exact k5

end Go.Proofs.Ytmabedbgfcinhaa.Pure
