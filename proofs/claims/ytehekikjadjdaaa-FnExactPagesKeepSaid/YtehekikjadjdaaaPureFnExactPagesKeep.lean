/- Proved: for all pages and numbers, the law FnExactPagesKeep answers true and leaves its arguments as they were (PagesKeep returns what the reference returns, in memory of its own). No condition beyond the row's own. -/
import Derived.Test.YtehekikjadjdaaaPFnExactPagesKeepx7
import Derived.Test.YtehekikjadjdaaaAuxFnExactPagesKeep
namespace Go.Proofs.Ytehekikjadjdaaa.Pure
open Go.RowKit Go.Proofs.Ytehekikjadjdaaa.PFnExactPagesKeep Go.Proofs.YtehekikjadjdaaaW.PrintWords Go.Proofs.YtehekikjadjdaaaW.PrintLast Go.Proofs.YtehekikjadjdaaaW.PrintMore Go.Proofs.Ytehekikjadjdaaa.Aux
set_option linter.unusedVariables false
theorem in_eq (a b c : Int) : impl_in.f a b c = some (decide (b ≤ a) && decide (a ≤ c)) := by
  unfold impl_in.f
  by_cases h : a ≥ b
  · rw [if_pos h]; simp [show b ≤ a from h]
  · rw [if_neg h]; simp [show ¬ b ≤ a from h]
theorem l6in_eq (a b c : Int) : spec_l6In.f a b c = some (decide (b ≤ a) && decide (a ≤ c)) := by
  unfold spec_l6In.f
  by_cases h : a ≥ b
  · rw [if_pos h]; simp [show b ≤ a from h]
  · rw [if_neg h]; simp [show ¬ b ≤ a from h]

theorem szints_eq (l : List Int) (a : Int) (hl : l.length ≤ 9223372036854775807) (h0 : 0 ≤ a) (h1 : a ≤ 1048576) :
    laws_szIntS.f l a = some (if a - (l.length : Int) < 0 then -1 else a - (l.length : Int)) := by
  unfold laws_szIntS.f
  rw [wrap_in (n := a - (l.length : Int)) (by omega) (by omega)]
  split <;> rfl
theorem toints_loop (l : List Int) (hl : l.length ≤ 1048576) : ∀ (d i : Nat) (x : List Int), i + d = l.length → x.length = l.length → (∀ j, j < i → x[j]? = l[j]?) →
    Evt (fun k => laws_toIntS.l0 k l x (i : Int) = some l) := by
  intro d
  induction d with
  | zero =>
    intro i x hi hx hj
    have e : x = l := by
      apply List.ext_getElem?
      intro j
      by_cases h : j < i
      · exact hj j h
      · rw [List.getElem?_eq_none (by omega), List.getElem?_eq_none (by omega)]
    subst e
    refine Evt.of1 fun k => ?_
    simp only [laws_toIntS.l0]
    rw [if_neg (by omega)]
  | succ d ih =>
    intro i x hi hx hj
    refine (ih (i + 1) (x.set i (rd l i)) (by omega) (by simp [hx]) ?_).step fun k hk => ?_
    · intro j hlt
      rw [List.getElem?_set]
      split
      · rename_i e
        subst e
        rw [if_pos (by omega), rd_nat, List.getD_eq_getElem?_getD, List.getElem?_eq_getElem (by omega)]
        rfl
      · exact hj j (by omega)
    · simp only [laws_toIntS.l0]
      rw [if_pos (by omega), if_pos (by omega), if_pos (by omega), nat_succ_wrap (by omega)]
      exact hk
theorem toints_ev (l : List Int) (hl : l.length ≤ 1048576) : Evt (fun k => laws_toIntS.f k l = some l) := by
  refine (toints_loop l hl l.length 0 (List.replicate l.length 0) (by omega) (by simp) (fun j h => by omega)).imp fun k hk => ?_
  unfold laws_toIntS.f
  rw [if_pos (by omega), Int.toNat_natCast, if_pos (by omega)]
  exact hk
theorem eqints_loop (a : List Int) (ha : a.length ≤ 1048576) : ∀ (d i : Nat), i + d = a.length → Evt (fun k => laws_eqIntS.l0 k a a (i : Int) = some true) := by
  intro d
  induction d with
  | zero =>
    intro i hi
    refine Evt.of1 fun k => ?_
    simp only [laws_eqIntS.l0]
    rw [if_neg (by omega)]
  | succ d ih =>
    intro i hi
    refine (ih (i + 1) (by omega)).step fun k hk => ?_
    simp only [laws_eqIntS.l0]
    rw [if_pos (by omega), if_pos (by omega), if_pos (by omega), if_pos trivial, nat_succ_wrap (by omega)]
    exact hk
theorem eqints_ev (a : List Int) (ha : a.length ≤ 1048576) : Evt (fun k => laws_eqIntS.f k a a = some true) := by
  refine (eqints_loop a ha a.length 0 (by omega)).imp fun k hk => ?_
  unfold laws_eqIntS.f
  rw [if_pos rfl]
  exact hk
def markI : Nat → Nat → Int → List Int → List Int
  | 0, _, _, l => l
  | d + 1, i, v, l => markI d (i + 1) (v + 1) (l.set i v)
theorem markI_len : ∀ (d i : Nat) (v : Int) (l : List Int), (markI d i v l).length = l.length
  | 0, _, _, _ => rfl
  | d + 1, i, v, l => by rw [markI, markI_len d]; simp
theorem markI_old : ∀ (d i : Nat) (v : Int) (l : List Int) (j : Nat), j < i → (markI d i v l)[j]? = l[j]?
  | 0, _, _, _, _, _ => rfl
  | d + 1, i, v, l, j, h => by
    rw [markI, markI_old d (i + 1) (v + 1) _ j (by omega), List.getElem?_set, if_neg (by omega)]
theorem markI_get : ∀ (d i : Nat) (v : Int) (l : List Int) (j : Nat), i + d ≤ l.length → j < d → (markI d i v l)[i + j]? = some (v + j)
  | 0, _, _, _, _, _, h => by omega
  | d + 1, i, v, l, j, h, hj => by
    rw [markI]
    cases j with
    | zero =>
      show (markI d (i + 1) (v + 1) (l.set i v))[i]? = some (v + ((0 : Nat) : Int))
      rw [markI_old d (i + 1) (v + 1) _ i (by omega), List.getElem?_set, if_pos rfl, if_pos (by omega)]
      simp
    | succ j =>
      have := markI_get d (i + 1) (v + 1) (l.set i v) j (by simp; omega) (by omega)
      rw [show i + (j + 1) = i + 1 + j from by omega, this]
      congr 1
      omega
theorem markints_loop : ∀ (d i : Nat) (v : Int) (l : List Int), i + d = l.length → l.length ≤ 1048576 → 0 ≤ v → v + d ≤ 1000000000000 →
    Evt (fun k => laws_markIntS.l0 k l v (i : Int) = some (v + d, markI d i v l)) := by
  intro d
  induction d with
  | zero =>
    intro i v l hi hl h0 h1
    refine Evt.of1 fun k => ?_
    simp only [laws_markIntS.l0]
    rw [if_neg (by omega)]
    simp [markI]
  | succ d ih =>
    intro i v l hi hl h0 h1
    refine (ih (i + 1) (v + 1) (l.set i v) (by simp; omega) (by simp; omega) (by omega) (by omega)).step fun k hk => ?_
    simp only [laws_markIntS.l0]
    rw [if_pos (by omega), if_pos (by omega), nat_succ_wrap (by omega), wrap_in (n := v + 1) (by omega) (by omega), Int.toNat_natCast, hk, markI]
    congr 2
    omega
theorem markints_ev (l : List Int) (v : Int) (hl : l.length ≤ 1048576) (h0 : 0 ≤ v) (h1 : v ≤ 1000000000) : Evt (fun k => laws_markIntS.f k l v = some (v + l.length, markI l.length 0 v l)) :=
  markints_loop l.length 0 v l (by omega) hl h0 (by omega)
theorem heldints_loop (l : List Int) (hl : l.length ≤ 1048576) (v : Int) (h0 : 0 ≤ v) (h1 : v ≤ 1000000000) (hg : ∀ j : Nat, j < l.length → l[j]? = some (v + j)) : ∀ (d i : Nat), i + d = l.length →
    Evt (fun k => laws_heldIntS.l0 k l (v + i) (i : Int) = some (v + l.length)) := by
  intro d
  induction d with
  | zero =>
    intro i hi
    refine Evt.of1 fun k => ?_
    simp only [laws_heldIntS.l0]
    rw [if_neg (by omega)]
    congr 2
    omega
  | succ d ih =>
    intro i hi
    refine (ih (i + 1) (by omega)).step fun k hk => ?_
    have e : rd l (i : Int) = v + i := by
      rw [rd_nat, List.getD_eq_getElem?_getD, hg i (by omega)]
      rfl
    simp only [laws_heldIntS.l0]
    rw [if_pos (by omega), if_pos (by omega), if_pos e, nat_succ_wrap (by omega), wrap_in (n := v + i + 1) (by omega) (by omega)]
    have e2 : v + (i : Int) + 1 = v + ((i + 1 : Nat) : Int) := by omega
    rw [e2]
    exact hk
theorem heldints_ev (l : List Int) (v : Int) (hl : l.length ≤ 1048576) (h0 : 0 ≤ v) (h1 : v ≤ 1000000000) : Evt (fun k => laws_heldIntS.f k (markI l.length 0 v l) v = some (v + l.length)) := by
  have hm := markI_len l.length 0 v l
  have := heldints_loop (markI l.length 0 v l) (by omega) v h0 h1 (fun j hj => by
    have := markI_get l.length 0 v l j (by omega) (by omega)
    rwa [Nat.zero_add] at this) l.length 0 (by omega)
  rw [hm] at this
  refine this.imp fun k hk => ?_
  unfold laws_heldIntS.f
  simpa using hk

theorem rdt_nat (l : List ByteArray) (i : Nat) : rdOf ByteArray.empty l (i : Int) = l.getD i ByteArray.empty := by simp [rdOf]
theorem rdt_size (l : List ByteArray) (hs : ∀ x ∈ l, x.size ≤ maxLen) (i : Int) : (rdOf ByteArray.empty l i).size ≤ 9223372036854775807 := by
  unfold rdOf
  rw [List.getD_eq_getElem?_getD]
  cases h : l[i.toNat]? with
  | none => simp
  | some x => exact hs x (List.mem_of_getElem? h)
theorem sztexts_loop (l : List ByteArray) (hs : ∀ x ∈ l, x.size ≤ maxLen) (hl : l.length ≤ 1048576) : ∀ (d i : Nat) (a : Int), i + d = l.length → 0 ≤ a → a ≤ 1048576 →
    ∃ n, Evt (fun k => laws_szStringS.l0 k l a (i : Int) = some n) ∧ -1 ≤ n ∧ n ≤ 1048576 := by
  intro d
  induction d with
  | zero =>
    intro i a hi h0 h1
    refine ⟨a, Evt.of1 fun k => ?_, by omega, h1⟩
    simp only [laws_szStringS.l0]
    rw [if_neg (by omega)]
  | succ d ih =>
    intro i a hi h0 h1
    have hz := rdt_size l hs (i : Int)
    by_cases c : a - ((rdOf ByteArray.empty l (i : Int)).size : Int) < 0
    · refine ⟨-1, Evt.of1 fun k => ?_, by omega, by omega⟩
      simp only [laws_szStringS.l0]
      rw [if_pos (by omega), if_pos (by omega), wrap_in (n := a - ((rdOf ByteArray.empty l (i : Int)).size : Int)) (by omega) (by omega), if_pos c]
    · obtain ⟨n, hn, h2, h3⟩ := ih (i + 1) (a - ((rdOf ByteArray.empty l (i : Int)).size : Int)) (by omega) (by omega) (by omega)
      refine ⟨n, hn.step fun k hk => ?_, h2, h3⟩
      simp only [laws_szStringS.l0]
      rw [if_pos (by omega), if_pos (by omega), wrap_in (n := a - ((rdOf ByteArray.empty l (i : Int)).size : Int)) (by omega) (by omega), if_neg c, nat_succ_wrap (by omega)]
      exact hk
theorem sztexts_ev (l : List ByteArray) (a : Int) (hs : ∀ x ∈ l, x.size ≤ maxLen) (hl : l.length ≤ 9223372036854775807) (h0 : 0 ≤ a) (h1 : a ≤ 1048576) :
    ∃ n, Evt (fun k => laws_szStringS.f k l a = some n) ∧ -1 ≤ n ∧ n ≤ 1048576 ∧ (0 ≤ n → l.length ≤ 1048576) := by
  by_cases c : a - (l.length : Int) < 0
  · refine ⟨-1, Evt.all fun k => ?_, by omega, by omega, by omega⟩
    unfold laws_szStringS.f
    rw [wrap_in (n := a - (l.length : Int)) (by omega) (by omega), if_pos c]
  · obtain ⟨n, hn, h2, h3⟩ := sztexts_loop l hs (by omega) l.length 0 (a - l.length) (by omega) (by omega) (by omega)
    refine ⟨n, hn.imp fun k hk => ?_, h2, h3, fun _ => by omega⟩
    unfold laws_szStringS.f
    rw [wrap_in (n := a - (l.length : Int)) (by omega) (by omega), if_neg c]
    exact hk
theorem totexts_loop (l : List ByteArray) (hl : l.length ≤ 1048576) : ∀ (d i : Nat) (x : List ByteArray), i + d = l.length → x.length = l.length → (∀ j, j < i → x[j]? = l[j]?) →
    Evt (fun k => laws_toStringS.l0 k l x (i : Int) = some l) := by
  intro d
  induction d with
  | zero =>
    intro i x hi hx hj
    have e : x = l := by
      apply List.ext_getElem?
      intro j
      by_cases h : j < i
      · exact hj j h
      · rw [List.getElem?_eq_none (by omega), List.getElem?_eq_none (by omega)]
    subst e
    refine Evt.of1 fun k => ?_
    simp only [laws_toStringS.l0]
    rw [if_neg (by omega)]
  | succ d ih =>
    intro i x hi hx hj
    refine (ih (i + 1) (x.set i (rdOf ByteArray.empty l i)) (by omega) (by simp [hx]) ?_).step fun k hk => ?_
    · intro j hlt
      rw [List.getElem?_set]
      split
      · rename_i e
        subst e
        rw [if_pos (by omega), rdt_nat, List.getD_eq_getElem?_getD, List.getElem?_eq_getElem (by omega)]
        rfl
      · exact hj j (by omega)
    · simp only [laws_toStringS.l0]
      rw [if_pos (by omega), if_pos (by omega), if_pos (by omega), nat_succ_wrap (by omega)]
      exact hk
theorem totexts_ev (l : List ByteArray) (hl : l.length ≤ 1048576) : Evt (fun k => laws_toStringS.f k l = some l) := by
  refine (totexts_loop l hl l.length 0 (List.replicate l.length (⟨#[]⟩ : ByteArray)) (by omega) (by simp) (fun j h => by omega)).imp fun k hk => ?_
  unfold laws_toStringS.f
  rw [if_pos (by omega), Int.toNat_natCast, if_pos (by omega)]
  exact hk
theorem eqtexts_loop (a : List ByteArray) (ha : a.length ≤ 1048576) : ∀ (d i : Nat), i + d = a.length → Evt (fun k => laws_eqStringS.l0 k a a (i : Int) = some true) := by
  intro d
  induction d with
  | zero =>
    intro i hi
    refine Evt.of1 fun k => ?_
    simp only [laws_eqStringS.l0]
    rw [if_neg (by omega)]
  | succ d ih =>
    intro i hi
    refine (ih (i + 1) (by omega)).step fun k hk => ?_
    simp only [laws_eqStringS.l0]
    rw [if_pos (by omega), if_pos (by omega), if_pos (by omega), if_pos trivial, nat_succ_wrap (by omega)]
    exact hk
theorem eqtexts_ev (a : List ByteArray) (ha : a.length ≤ 1048576) : Evt (fun k => laws_eqStringS.f k a a = some true) := by
  refine (eqtexts_loop a ha a.length 0 (by omega)).imp fun k hk => ?_
  unfold laws_eqStringS.f
  rw [if_pos rfl]
  exact hk
theorem marktext_loop : ∀ (m n : Nat) (x : ByteArray), n ≤ m → n + x.size ≤ 1000000000000 → ∃ t, Evt (fun k => laws_markText.l0 k (n : Int) x = some t) := by
  intro m
  induction m with
  | zero =>
    intro n x hn hx
    obtain rfl : n = 0 := by omega
    refine ⟨(⟨#[109]⟩ : ByteArray) ++ x, Evt.of1 fun k => ?_⟩
    simp only [laws_markText.l0]
    rw [if_neg (by omega), if_pos (by omega)]
  | succ m ih =>
    intro n x hn hx
    by_cases c : n = 0
    · subst c
      refine ⟨(⟨#[109]⟩ : ByteArray) ++ x, Evt.of1 fun k => ?_⟩
      simp only [laws_markText.l0]
      rw [if_neg (by omega), if_pos (by omega)]
    · have hz : (strOfNums [(wrap64 (48 + (Int.tmod (n : Int) 10))) % 256]).size = 1 := strOfNums_size _
      have hd : wrap64 (Int.tdiv (n : Int) 10) = ((n / 10 : Nat) : Int) := by
        have e : Int.tdiv (n : Int) 10 = ((n / 10 : Nat) : Int) := by
          rw [Int.tdiv_eq_ediv_of_nonneg (by omega)]
          omega
        rw [e]
        exact wrap_in (by omega) (by omega)
      obtain ⟨t, ht⟩ := ih (n / 10) (strOfNums [(wrap64 (48 + (Int.tmod (n : Int) 10))) % 256] ++ x) (by omega) (by
        rw [ByteArray.size_append, hz]
        omega)
      refine ⟨t, ht.step fun k hk => ?_⟩
      simp only [laws_markText.l0]
      rw [if_pos (by omega)]
      refine bind_of rfl ?_
      rw [if_pos (by rw [hz]; omega), hd]
      exact hk
theorem marktext_ev (v : Int) (h1 : v ≤ 1000000000) : ∃ t, Evt (fun k => laws_markText.f k v = some t) := by
  by_cases c : v ≤ 0
  · refine ⟨(⟨#[109, 48]⟩ : ByteArray), Evt.all fun k => ?_⟩
    unfold laws_markText.f
    rw [if_pos c]
  · obtain ⟨n, rfl⟩ := Int.eq_ofNat_of_zero_le (show 0 ≤ v by omega)
    obtain ⟨t, ht⟩ := marktext_loop n n (⟨#[]⟩ : ByteArray) (Nat.le_refl _) (by
      show n + 0 ≤ _
      omega)
    refine ⟨t, ht.imp fun k hk => ?_⟩
    unfold laws_markText.f
    rw [if_neg c]
    exact hk
theorem marktext_fn : ∃ T : Int → ByteArray, ∀ v, v ≤ 1000000000 → Evt (fun k => laws_markText.f k v = some (T v)) := by
  refine ⟨fun v => if h : v ≤ 1000000000 then Classical.choose (marktext_ev v h) else ByteArray.empty, fun v h => ?_⟩
  simp only [dif_pos h]
  exact Classical.choose_spec (marktext_ev v h)
def markT (T : Int → ByteArray) : Nat → Nat → Int → List ByteArray → List ByteArray
  | 0, _, _, l => l
  | d + 1, i, v, l => markT T d (i + 1) (v + 1) (l.set i (T v))
theorem markT_len (T : Int → ByteArray) : ∀ (d i : Nat) (v : Int) (l : List ByteArray), (markT T d i v l).length = l.length
  | 0, _, _, _ => rfl
  | d + 1, i, v, l => by rw [markT, markT_len T d]; simp
theorem markT_old (T : Int → ByteArray) : ∀ (d i : Nat) (v : Int) (l : List ByteArray) (j : Nat), j < i → (markT T d i v l)[j]? = l[j]?
  | 0, _, _, _, _, _ => rfl
  | d + 1, i, v, l, j, h => by
    rw [markT, markT_old T d (i + 1) (v + 1) _ j (by omega), List.getElem?_set, if_neg (by omega)]
theorem markT_get (T : Int → ByteArray) : ∀ (d i : Nat) (v : Int) (l : List ByteArray) (j : Nat), i + d ≤ l.length → j < d → (markT T d i v l)[i + j]? = some (T (v + j))
  | 0, _, _, _, _, _, h => by omega
  | d + 1, i, v, l, j, h, hj => by
    rw [markT]
    cases j with
    | zero =>
      show (markT T d (i + 1) (v + 1) (l.set i (T v)))[i]? = some (T (v + ((0 : Nat) : Int)))
      rw [markT_old T d (i + 1) (v + 1) _ i (by omega), List.getElem?_set, if_pos rfl, if_pos (by omega)]
      simp
    | succ j =>
      have := markT_get T d (i + 1) (v + 1) (l.set i (T v)) j (by simp; omega) (by omega)
      rw [show i + (j + 1) = i + 1 + j from by omega, this, show v + 1 + (j : Int) = v + ((j + 1 : Nat) : Int) from by omega]
theorem marktexts_loop (T : Int → ByteArray) (hT : ∀ v, v ≤ 1000000000 → Evt (fun k => laws_markText.f k v = some (T v))) : ∀ (d i : Nat) (v : Int) (l : List ByteArray), i + d = l.length → l.length ≤ 1048576 → 0 ≤ v → v + d ≤ 1000000000 →
    Evt (fun k => laws_markStringS.l0 k l v (i : Int) = some (v + d, markT T d i v l)) := by
  intro d
  induction d with
  | zero =>
    intro i v l hi hl h0 h1
    refine Evt.of1 fun k => ?_
    simp only [laws_markStringS.l0]
    rw [if_neg (by omega)]
    simp [markT]
  | succ d ih =>
    intro i v l hi hl h0 h1
    refine ((ih (i + 1) (v + 1) (l.set i (T v)) (by simp; omega) (by simp; omega) (by omega) (by omega)).and (hT v (by omega))).step fun k hk => ?_
    simp only [laws_markStringS.l0]
    rw [if_pos (by omega)]
    refine bind_of hk.2 ?_
    rw [if_pos (by omega), nat_succ_wrap (by omega), wrap_in (n := v + 1) (by omega) (by omega), Int.toNat_natCast, hk.1, markT]
    congr 2
    omega
theorem marktexts_ev (T : Int → ByteArray) (hT : ∀ v, v ≤ 1000000000 → Evt (fun k => laws_markText.f k v = some (T v))) (l : List ByteArray) (v : Int) (hl : l.length ≤ 1048576) (h0 : 0 ≤ v) (h1 : v ≤ 900000000) :
    Evt (fun k => laws_markStringS.f k l v = some (v + l.length, markT T l.length 0 v l)) :=
  marktexts_loop T hT l.length 0 v l (by omega) hl h0 (by omega)
theorem heldtexts_loop (T : Int → ByteArray) (hT : ∀ v, v ≤ 1000000000 → Evt (fun k => laws_markText.f k v = some (T v))) (l : List ByteArray) (hl : l.length ≤ 1048576) (v : Int) (h0 : 0 ≤ v) (h1 : v ≤ 900000000) (hg : ∀ j : Nat, j < l.length → l[j]? = some (T (v + j))) : ∀ (d i : Nat), i + d = l.length →
    Evt (fun k => laws_heldStringS.l0 k l (v + i) (i : Int) = some (v + l.length)) := by
  intro d
  induction d with
  | zero =>
    intro i hi
    refine Evt.of1 fun k => ?_
    simp only [laws_heldStringS.l0]
    rw [if_neg (by omega)]
    congr 2
    omega
  | succ d ih =>
    intro i hi
    refine ((ih (i + 1) (by omega)).and (hT (v + i) (by omega))).step fun k hk => ?_
    have e : rdOf ByteArray.empty l (i : Int) = T (v + i) := by
      rw [rdt_nat, List.getD_eq_getElem?_getD, hg i (by omega)]
      rfl
    simp only [laws_heldStringS.l0]
    rw [if_pos (by omega), if_pos (by omega)]
    refine bind_of hk.2 ?_
    rw [e, if_pos rfl, nat_succ_wrap (by omega), wrap_in (n := v + i + 1) (by omega) (by omega)]
    have e2 : v + (i : Int) + 1 = v + ((i + 1 : Nat) : Int) := by omega
    rw [e2]
    exact hk.1
theorem heldtexts_ev (T : Int → ByteArray) (hT : ∀ v, v ≤ 1000000000 → Evt (fun k => laws_markText.f k v = some (T v))) (l : List ByteArray) (v : Int) (hl : l.length ≤ 1048576) (h0 : 0 ≤ v) (h1 : v ≤ 900000000) :
    Evt (fun k => laws_heldStringS.f k (markT T l.length 0 v l) v = some (v + l.length)) := by
  have hm := markT_len T l.length 0 v l
  have := heldtexts_loop T hT (markT T l.length 0 v l) (by omega) v h0 h1 (fun j hj => by
    have := markT_get T l.length 0 v l j (by omega) (by omega)
    rwa [Nat.zero_add] at this) l.length 0 (by omega)
  rw [hm] at this
  refine this.imp fun k hk => ?_
  unfold laws_heldStringS.f
  simpa using hk

theorem szpages_ev (h : List ByteArray) (c : List Int) (hs : ∀ x ∈ h, x.size ≤ maxLen) (hh : h.length ≤ 9223372036854775807) (hc : c.length ≤ 9223372036854775807) :
    ∃ n, Evt (fun k => laws_szPages.f k h c 1048576 = some n) ∧ (0 ≤ n → h.length ≤ 1048576 ∧ c.length ≤ 1048576) := by
  obtain ⟨n, hn, h1, h2, h3⟩ := sztexts_ev h 1048576 hs hh (by omega) (by omega)
  by_cases c1 : n < 0
  · refine ⟨-1, hn.imp fun k hk => ?_, fun h => by omega⟩
    unfold laws_szPages.f
    refine bind_of hk ?_
    rw [if_pos c1]
  · have e := szints_eq c n hc (by omega) (by omega)
    by_cases c2 : n - (c.length : Int) < 0
    · rw [if_pos c2] at e
      refine ⟨-1, hn.imp fun k hk => ?_, fun h => by omega⟩
      unfold laws_szPages.f
      refine bind_of hk ?_
      rw [if_neg c1]
      refine bind_of e ?_
      rw [if_pos (by omega)]
    · rw [if_neg c2] at e
      refine ⟨n - (c.length : Int), hn.imp fun k hk => ?_, fun h => ⟨h3 (by omega), by omega⟩⟩
      unfold laws_szPages.f
      refine bind_of hk ?_
      rw [if_neg c1]
      refine bind_of e ?_
      rw [if_neg (by omega)]
theorem topages_ev (h : List ByteArray) (c : List Int) (hh : h.length ≤ 1048576) (hc : c.length ≤ 1048576) : Evt (fun k => laws_toPages.f k h c = some (h, c)) := by
  refine ((totexts_ev h hh).and (toints_ev c hc)).imp fun k hk => ?_
  unfold laws_toPages.f
  exact bind_of hk.1 (bind_of hk.2 rfl)
theorem eqpages_ev (h : List ByteArray) (c : List Int) (hh : h.length ≤ 1048576) (hc : c.length ≤ 1048576) : Evt (fun k => laws_eqPages.f k h c h c = some true) := by
  refine ((eqtexts_ev h hh).and (eqints_ev c hc)).imp fun k hk => ?_
  unfold laws_eqPages.f
  refine bind_of hk.1 ?_
  rw [if_pos rfl]
  refine bind_of hk.2 ?_
  rfl
theorem markpages_ev (h : List ByteArray) (c : List Int) (hh : h.length ≤ 1048576) (hc : c.length ≤ 1048576) :
    ∃ m h' c', Evt (fun k => laws_markPages.f k h c 1 = some (m, h', c')) ∧ Evt (fun k => laws_heldPages.f k h' c' 1 = some m) ∧ 0 ≤ m ∧ m ≤ 4000000 := by
  obtain ⟨T, hT⟩ := marktext_fn
  refine ⟨1 + h.length + c.length, markT T h.length 0 1 h, markI c.length 0 (1 + h.length) c, ?_, ?_, by omega, by omega⟩
  · refine ((marktexts_ev T hT h 1 hh (by omega) (by omega)).and (markints_ev c (1 + h.length) hc (by omega) (by omega))).imp fun k hk => ?_
    unfold laws_markPages.f
    exact bind_of hk.1 (bind_of hk.2 rfl)
  · refine ((heldtexts_ev T hT h 1 hh (by omega) (by omega)).and (heldints_ev c (1 + h.length) hc (by omega) (by omega))).imp fun k hk => ?_
    unfold laws_heldPages.f
    refine bind_of hk.1 ?_
    rw [if_neg (by omega)]
    refine bind_of hk.2 ?_
    rw [if_neg (by omega)]

def okRow (h : List ByteArray) (c : List Int) (i : Nat) : Bool :=
  (decide (0 ≤ rd c i) && decide (rd c i ≤ 99)) && decide (((rdOf ByteArray.empty h (i : Int)).size : Int) = if rd c i = 0 then 0 else 4)
def okRows (h : List ByteArray) (c : List Int) : Nat → Nat → Bool
  | 0, _ => true
  | d + 1, i => okRow h c i && okRows h c d (i + 1)
def pagesOk (h : List ByteArray) (c : List Int) : Bool := decide (h.length = c.length) && (decide (1 ≤ (h.length : Int)) && decide ((h.length : Int) ≤ 12)) && okRows h c c.length 0
theorem pagesOk_len {h : List ByteArray} {c : List Int} (k : pagesOk h c = true) : h.length = c.length ∧ 1 ≤ h.length ∧ h.length ≤ 12 := by
  simp [pagesOk] at k
  omega
theorem okRows_get (h : List ByteArray) (c : List Int) : ∀ (d i : Nat), okRows h c d i = true → ∀ j, i ≤ j → j < i + d → okRow h c j = true
  | 0, _, _, _, _, _ => by omega
  | d + 1, i, k, j, h1, h2 => by
    simp only [okRows, Bool.and_eq_true] at k
    by_cases e : j = i
    · rw [e]; exact k.1
    · exact okRows_get h c d (i + 1) k.2 j (by omega) (by omega)
theorem pagesOk_row {h : List ByteArray} {c : List Int} (k : pagesOk h c = true) {j : Nat} (hj : j < c.length) : 0 ≤ rd c j ∧ rd c j ≤ 99 ∧ ((rdOf ByteArray.empty h (j : Int)).size : Int) = if rd c j = 0 then 0 else 4 := by
  simp only [pagesOk, Bool.and_eq_true] at k
  have := okRows_get h c c.length 0 k.2 j (by omega) (by omega)
  simp [okRow] at this
  simpa [and_assoc] using this
theorem impl_pagesok_loop (h : List ByteArray) (c : List Int) (hl : h.length = c.length) (hc : c.length ≤ 1048576) : ∀ (d i : Nat), i + d = c.length →
    Evt (fun k => impl_PagesOk.l0 k c (c.length : Int) (i : Int) h c = some (okRows h c d i)) := by
  intro d
  induction d with
  | zero =>
    intro i hi
    refine Evt.of1 fun k => ?_
    simp only [impl_PagesOk.l0]
    rw [if_neg (by omega)]
    rfl
  | succ d ih =>
    intro i hi
    refine (ih (i + 1) (by omega)).step fun k hk => ?_
    simp only [impl_PagesOk.l0]
    rw [if_pos (by omega), if_pos (by omega), if_pos (by omega), nat_succ_wrap (by omega)]
    by_cases h0 : rd c (i : Int) = 0
    · rw [if_pos h0]
      refine bind_of (in_eq _ _ _) ?_
      rw [if_pos (by simp [h0]), if_pos (by omega)]
      by_cases h2 : ((rdOf ByteArray.empty h (i : Int)).size : Int) = 0
      · rw [if_pos h2, hk]
        simp [okRows, okRow, h0, h2]
      · rw [if_neg h2]
        simp only [okRows, okRow, h0, if_pos, decide_eq_false h2, Bool.and_false, Bool.false_and]
    · rw [if_neg h0]
      refine bind_of (in_eq _ _ _) ?_
      by_cases h1 : (decide (0 ≤ rd c (i : Int)) && decide (rd c (i : Int) ≤ 99)) = true
      · rw [if_pos h1, if_pos (by omega)]
        by_cases h2 : ((rdOf ByteArray.empty h (i : Int)).size : Int) = 4
        · rw [if_pos h2, hk]
          simp only [okRows, okRow, h1, if_neg h0, decide_eq_true h2, Bool.and_true, Bool.true_and]
        · rw [if_neg h2]
          simp only [okRows, okRow, if_neg h0, decide_eq_false h2, Bool.and_false, Bool.false_and]
      · rw [if_neg h1]
        simp only [okRows, okRow, eq_false_of_ne_true h1, Bool.false_and]
theorem impl_pagesok_ev (h : List ByteArray) (c : List Int) (hh : h.length ≤ 1048576) (hc : c.length ≤ 1048576) : Evt (fun k => impl_PagesOk.f k h c = some (pagesOk h c)) := by
  by_cases hl : h.length = c.length
  · by_cases hb : (decide (1 ≤ (h.length : Int)) && decide ((h.length : Int) ≤ 12)) = true
    · refine (impl_pagesok_loop h c hl hc c.length 0 (by omega)).step fun k hk => ?_
      unfold impl_PagesOk.f
      rw [if_pos (by omega)]
      refine bind_of (in_eq _ _ _) ?_
      simp only [impl_PagesOk.j0, hb]
      rw [if_neg (by decide)]
      refine hk.trans ?_
      simp [pagesOk, hl]
      intro _ 
      simp only [hl, Bool.and_eq_true, decide_eq_true_eq] at hb
      omega
    · refine Evt.of1 fun k => ?_
      unfold impl_PagesOk.f
      rw [if_pos (by omega)]
      refine bind_of (in_eq _ _ _) ?_
      simp only [impl_PagesOk.j0, eq_false_of_ne_true hb]
      rw [if_pos (by decide)]
      simp only [pagesOk, eq_false_of_ne_true hb, Bool.and_false, Bool.false_and]
  · refine Evt.of1 fun k => ?_
    unfold impl_PagesOk.f
    rw [if_neg (by omega)]
    simp only [impl_PagesOk.j0]
    rw [if_pos trivial]
    simp only [pagesOk, decide_eq_false hl, Bool.false_and]
theorem spec_pagesok_loop (h : List ByteArray) (c : List Int) (hl : h.length = c.length) (hc : c.length ≤ 1048576) : ∀ (d i : Nat), i + d = c.length →
    Evt (fun k => spec_PagesOk.l0 k (i : Int) h c = some (okRows h c d i)) := by
  intro d
  induction d with
  | zero =>
    intro i hi
    refine Evt.of1 fun k => ?_
    simp only [spec_PagesOk.l0]
    rw [if_neg (by omega)]
    rfl
  | succ d ih =>
    intro i hi
    refine (ih (i + 1) (by omega)).step fun k hk => ?_
    simp only [spec_PagesOk.l0]
    rw [if_pos (by omega), if_pos (by omega), if_pos (by omega), nat_succ_wrap (by omega)]
    by_cases h0 : rd c (i : Int) = 0
    · rw [if_pos h0]
      refine bind_of (l6in_eq _ _ _) ?_
      rw [if_pos (by simp [h0])]
      by_cases h2 : ((rdOf ByteArray.empty h (i : Int)).size : Int) = 0
      · rw [if_pos h2, hk]
        simp [okRows, okRow, h0, h2]
      · rw [if_neg h2]
        simp only [okRows, okRow, h0, if_pos, decide_eq_false h2, Bool.and_false, Bool.false_and]
    · rw [if_neg h0]
      refine bind_of (l6in_eq _ _ _) ?_
      by_cases h1 : (decide (0 ≤ rd c (i : Int)) && decide (rd c (i : Int) ≤ 99)) = true
      · rw [if_pos h1]
        by_cases h2 : ((rdOf ByteArray.empty h (i : Int)).size : Int) = 4
        · rw [if_pos h2, hk]
          simp only [okRows, okRow, h1, if_neg h0, decide_eq_true h2, Bool.and_true, Bool.true_and]
        · rw [if_neg h2]
          simp only [okRows, okRow, if_neg h0, decide_eq_false h2, Bool.and_false, Bool.false_and]
      · rw [if_neg h1]
        simp only [okRows, okRow, eq_false_of_ne_true h1, Bool.false_and]
theorem spec_pagesok_ev (h : List ByteArray) (c : List Int) (hh : h.length ≤ 1048576) (hc : c.length ≤ 1048576) : Evt (fun k => spec_PagesOk.f k h c = some (pagesOk h c)) := by
  by_cases hl : h.length = c.length
  · by_cases hb : (decide (1 ≤ (h.length : Int)) && decide ((h.length : Int) ≤ 12)) = true
    · refine (spec_pagesok_loop h c hl hc c.length 0 (by omega)).step fun k hk => ?_
      unfold spec_PagesOk.f
      rw [if_pos (by omega)]
      refine bind_of (l6in_eq _ _ _) ?_
      simp only [spec_PagesOk.j0, hb]
      rw [if_neg (by decide)]
      refine hk.trans ?_
      simp [pagesOk, hl]
      intro _ 
      simp only [hl, Bool.and_eq_true, decide_eq_true_eq] at hb
      omega
    · refine Evt.of1 fun k => ?_
      unfold spec_PagesOk.f
      rw [if_pos (by omega)]
      refine bind_of (l6in_eq _ _ _) ?_
      simp only [spec_PagesOk.j0, eq_false_of_ne_true hb]
      rw [if_pos (by decide)]
      simp only [pagesOk, eq_false_of_ne_true hb, Bool.and_false, Bool.false_and]
  · refine Evt.of1 fun k => ?_
    unfold spec_PagesOk.f
    rw [if_neg (by omega)]
    simp only [spec_PagesOk.j0]
    rw [if_pos trivial]
    simp only [pagesOk, decide_eq_false hl, Bool.false_and]

def pagesHas (c : List Int) (a : Int) : Bool := (decide (0 ≤ a) && decide (a ≤ (c.length : Int) - 1)) && decide (rd c a > 0)
theorem impl_has_eq (h : List ByteArray) (c : List Int) (a : Int) (hc : c.length ≤ 1048576) : impl_Pages_has.f h c a = some (pagesHas c a) := by
  unfold impl_Pages_has.f
  rw [wrap_in (n := (c.length : Int) - 1) (by omega) (by omega)]
  refine bind_of (in_eq _ _ _) ?_
  by_cases h1 : (decide (0 ≤ a) && decide (a ≤ (c.length : Int) - 1)) = true
  · have h2 := h1
    simp only [Bool.and_eq_true, decide_eq_true_eq] at h2
    rw [if_pos h1, if_pos (by omega), if_pos (by omega)]
    simp only [pagesHas, h1, Bool.true_and]
  · rw [if_neg h1]
    simp only [pagesHas, eq_false_of_ne_true h1, Bool.false_and]
theorem spec_used_eq (h : List ByteArray) (c : List Int) (a : Int) (hc : c.length ≤ 1048576) : spec_l1Used.f h c a = some (pagesHas c a) := by
  unfold spec_l1Used.f
  rw [wrap_in (n := (c.length : Int) - 1) (by omega) (by omega)]
  refine bind_of (l6in_eq _ _ _) ?_
  by_cases h1 : (decide (0 ≤ a) && decide (a ≤ (c.length : Int) - 1)) = true
  · have h2 := h1
    simp only [Bool.and_eq_true, decide_eq_true_eq] at h2
    rw [if_pos h1, if_pos (by omega), if_pos (by omega)]
    simp only [pagesHas, h1, Bool.true_and]
  · rw [if_neg h1]
    simp only [pagesHas, eq_false_of_ne_true h1, Bool.false_and]
theorem impl_pclone_eq (h : List ByteArray) (c : List Int) (hh : h.length ≤ 1048576) (hc : c.length ≤ 1048576) : impl_Pages_clone.f h c = some (h, c) := by
  unfold impl_Pages_clone.f
  refine bind_of rfl ?_
  rw [if_pos (by simp; omega)]
  refine bind_of rfl ?_
  rw [if_pos (by simp; omega)]
  rfl
theorem spec_pcopy_eq (h : List ByteArray) (c : List Int) (hh : h.length ≤ 1048576) (hc : c.length ≤ 1048576) : spec_l1Copy.f h c = some (h, c) := by
  unfold spec_l1Copy.f
  refine bind_of rfl ?_
  rw [if_pos (by simp; omega)]
  refine bind_of rfl ?_
  rw [if_pos (by simp; omega)]
  rfl
def pagesKeep (h : List ByteArray) (c : List Int) (a : Int) : List ByteArray × List Int × Bool :=
  if (pagesOk h c && pagesHas c a && decide (rd c a ≠ 99)) = true then (h, c.set a.toNat (wrap64 (rd c a + 1)), true) else ([], [], false)
theorem pagesKeep_len (h : List ByteArray) (c : List Int) (a : Int) : (pagesKeep h c a).1.length ≤ h.length ∧ (pagesKeep h c a).2.1.length ≤ c.length := by
  unfold pagesKeep
  split <;> simp
theorem impl_keep_ev (h : List ByteArray) (c : List Int) (a : Int) (hh : h.length ≤ 1048576) (hc : c.length ≤ 1048576) : Evt (fun k => impl_PagesKeep.f k h c a = some (pagesKeep h c a)) := by
  refine (impl_pagesok_ev h c hh hc).imp fun k hk => ?_
  unfold impl_PagesKeep.f
  refine bind_of hk ?_
  cases h1 : pagesOk h c with
  | false =>
    rw [if_neg (by decide)]
    simp [pagesKeep, h1]
  | true =>
    rw [if_pos rfl]
    refine bind_of (impl_has_eq h c a hc) ?_
    cases h2 : pagesHas c a with
    | false =>
      rw [if_neg (by decide)]
      simp [pagesKeep, h2]
    | true =>
      have h3 := h2
      simp only [pagesHas, Bool.and_eq_true, decide_eq_true_eq] at h3
      rw [if_pos rfl, if_pos (by omega), if_pos (by omega)]
      by_cases h4 : rd c a = 99
      · rw [if_pos h4]
        simp [pagesKeep, h4]
      · rw [if_neg h4]
        refine bind_of (impl_pclone_eq h c hh hc) ?_
        simp only
        rw [if_pos (by omega)]
        simp [pagesKeep, h1, h2, h4]
theorem spec_keep_ev (h : List ByteArray) (c : List Int) (a : Int) (hh : h.length ≤ 1048576) (hc : c.length ≤ 1048576) : Evt (fun k => spec_PagesKeep.f k h c a = some (pagesKeep h c a)) := by
  refine (spec_pagesok_ev h c hh hc).imp fun k hk => ?_
  unfold spec_PagesKeep.f
  refine bind_of hk ?_
  cases h1 : pagesOk h c with
  | false =>
    rw [if_neg (by decide)]
    simp [pagesKeep, h1]
  | true =>
    rw [if_pos rfl]
    refine bind_of (spec_used_eq h c a hc) ?_
    cases h2 : pagesHas c a with
    | false =>
      rw [if_neg (by decide)]
      simp [pagesKeep, h2]
    | true =>
      have h3 := h2
      simp only [pagesHas, Bool.and_eq_true, decide_eq_true_eq] at h3
      have h5 := pagesOk_row h1 (j := a.toNat) (by omega)
      rw [show ((a.toNat : Nat) : Int) = a from by omega] at h5
      rw [if_pos rfl, if_pos (by omega), if_pos (by omega)]
      by_cases h4 : rd c a = 99
      · rw [if_pos (by omega)]
        simp [pagesKeep, h4]
      · rw [if_neg (by omega)]
        refine bind_of (spec_pcopy_eq h c hh hc) ?_
        simp only
        rw [if_pos (by omega)]
        simp [pagesKeep, h1, h2, h4]

theorem FnExactPagesKeep : laws_FnExactPagesKeep.Pure := by
  intro h c a hh0 hs hc0 _ _
  obtain ⟨z, hn, hz⟩ := szpages_ev h c hs hh0 hc0
  by_cases cz : z < 0
  · refine Evt.some_ (hn.imp fun k hk => ?_)
    unfold laws_FnExactPagesKeep.f
    refine bind_of hk ?_
    rw [if_pos cz]
  obtain ⟨hh, hc⟩ := hz (by omega)
  have h1 := impl_keep_ev h c a hh hc
  have h2 := spec_keep_ev h c a hh hc
  obtain ⟨g1, g2⟩ := pagesKeep_len h c a
  generalize pagesKeep h c a = y at h1 h2 g1 g2
  obtain ⟨zh, zc, zo⟩ := y
  simp only at g1 g2
  have t := topages_ev h c hh hc
  have e1 := eqpages_ev h c hh hc
  have e2 := eqpages_ev zh zc (by omega) (by omega)
  obtain ⟨m1, _, _, hm1, _, p1, _⟩ := markpages_ev h c hh hc
  obtain ⟨m2, h', c', hm2, hd2, p2, _⟩ := markpages_ev zh zc (by omega) (by omega)
  have j2 : Evt (fun k => laws_FnExactPagesKeep.j2 k m2 false h' c' = some true) := by
    refine hd2.step fun k hk => ?_
    simp only [laws_FnExactPagesKeep.j2]
    rw [if_neg (by decide)]
    refine bind_of hk ?_
    rw [if_neg (by omega), if_pos rfl]
  have j1 : Evt (fun k => laws_FnExactPagesKeep.j1 k a zo false h c zh zc zh zc = some true) := by
    refine (((hm2.and hd2).and (t.and h1)).and (e2.and j2)).step fun k hk => ?_
    obtain ⟨⟨⟨k1, k2⟩, k3, k4⟩, k5, k6⟩ := hk
    simp only [laws_FnExactPagesKeep.j1]
    rw [if_neg (by decide)]
    refine bind_of k1 ?_
    refine bind_of k2 ?_
    rw [if_neg (by omega), if_pos rfl]
    refine bind_of k3 ?_
    refine bind_of k4 ?_
    refine bind_of k5 ?_
    rw [if_pos rfl]
    simp only [bne_self_eq_false]
    exact k6
  have j0 : Evt (fun k => laws_FnExactPagesKeep.j0 k a zo zo false h c zh zc h c zh zc = some true) := by
    refine (((e1.and hm1).and (t.and e2)).and j1).step fun k hk => ?_
    obtain ⟨⟨⟨k1, k2⟩, k3, k4⟩, k5⟩ := hk
    simp only [laws_FnExactPagesKeep.j0]
    rw [if_neg (by decide)]
    refine bind_of k3 ?_
    refine bind_of k1 ?_
    rw [if_pos rfl]
    refine bind_of k2 ?_
    rw [if_neg (show ¬ m1 < 0 from by omega)]
    refine bind_of k4 ?_
    rw [if_pos rfl]
    simp only [bne_self_eq_false]
    exact k5
  refine Evt.some_ (((t.and h1).and (h2.and e2)).and (j0.and hn) |>.imp fun k hk => ?_)
  obtain ⟨⟨⟨k1, k2⟩, k3, k4⟩, k5, k6⟩ := hk
  unfold laws_FnExactPagesKeep.f
  refine bind_of k6 ?_
  rw [if_neg (by omega)]
  refine bind_of k1 ?_
  refine bind_of k3 ?_
  refine bind_of k1 ?_
  refine bind_of k2 ?_
  refine bind_of k4 ?_
  rw [if_pos rfl]
  simp only [bne_self_eq_false]
  exact k5

end Go.Proofs.Ytehekikjadjdaaa.Pure
