/- Proved here, without a condition beyond those that each theorem states: what the Go functions named below do is what the plain functions of the same names say. Written by xprint.py, a program of this session. -/
import Derived.Test.YtehekikjadjdaaaPFnExactSigsBlockx0
import Derived.Test.YtehekikjadjdaaaPFnExactSigsBlockx6
namespace Go.Proofs.Ytehekikjadjdaaa.PFnExactSigsBlock
open Go.RowKit Go.Proofs.YtehekikjadjdaaaW.PrintWords Go.Proofs.YtehekikjadjdaaaW.PrintLast Go.Proofs.YtehekikjadjdaaaW.PrintMore
attribute [local go_sem] max2_int min2_int max_two min_two max_three min_three max_four min_four   -- for this text's walks alone
set_option linter.unusedVariables false
set_option linter.unusedSimpArgs false

attribute [local go_sem ↓] isSome_setCell_
/-! ### slices_Clone_int_int: function 99 -/
def slices_Clone_int_int.f (l0 : List Int) : Option (List Int) := (some (([] : List Int) : List Int)).bind fun y210 => (if y210.length + l0.length < 17592186044416 then (some (y210 ++ l0)) else (none))
set_option maxHeartbeats 2000000 in
set_option maxRecDepth 100000 in
theorem slices_Clone_int_int.calls (A0 : Option Addr) (c0 : Nat) (l0 : List Int) (r : List Int) (w : World) (hr0 : Kd.C (Kd.int .i64) w A0 l0.length l0) (hc0 : l0.length ≤ c0) (h : slices_Clone_int_int.f l0 = some r) :
  Calls Try.prog 99 #[.slice A0 l0.length c0] w fun e w' => ∃ v0_ : Value, e = .returned (v0_) ∧ Kd.R (Kd.int .i64) 3 w' w.heap.size (fun _ => True) v0_ r ∧ Below w.heap.size w w' := by
 cases A0 with
 | none =>
  have hl_ : l0 = [] := by
   rcases l0 with _ | ⟨x_, xs_⟩
   ·rfl
   ·exact absurd (hr0.2.2 (by simp)) (by rintro ⟨_, h_, _⟩; cases h_)
  subst hl_
  have hr_ : r = [] := by
   unfold slices_Clone_int_int.f at h
   simpa using h.symm
  subst hr_
  have q_ : ∀ (w : World) (a : Option Addr) (n c n' c' : Nat), (binOp .eql 23 (.slice a n c) (.slice none n' c')).run Try.prog w = .ok (.bool a.isNone) w := fun w a n c n' c' => Lib.run_eql_slice_nil w _ _ a n c n' c' Try.underlying23
  go_enter Try.func99, Try.ntmps99
  go_wp2
  go_ret
  exact ⟨_, rfl, Kd.R_nil _ _ _ _ _, Below.refl _ _⟩
 | some ad0_ =>
  have HR0 := Am hr0
  have HC0 := Am hc0
  clear hr0 hc0
  have HB := Am (Below.refl w.heap.size w)
  have H : ((some (([] : List Int) : List Int)).bind fun y210 => (if y210.length + l0.length < 17592186044416 then (some (y210 ++ l0)) else (none))) = some r := h
  clear h
  obtain ⟨y210, hy210⟩ : ∃ y_ : List Int, y_ = (([] : List Int)) := ⟨_, rfl⟩
  replace H : (if y210.length + l0.length < 17592186044416 then (some (y210 ++ l0)) else (none)) = some r := by first | (rw [hy210]; with_reducible exact H) | (have H2_ := (Option.bind_some _ _).symm.trans H; rw [hy210]; with_reducible exact H2_) | (have H2_ := (Option.bind_some _ _).symm.trans H; with_reducible exact H2_) | with_reducible exact H | (rw [hy210]; exact H) | exact H
  have Ny210 := Am hy210
  clear hy210
  by_cases c2 : y210.length + l0.length < 17592186044416
  ·rw [if_pos c2] at H
   have LMc2 := Am c2
   clear c2
   obtain ⟨y213, hy213⟩ : ∃ y_ : List Int, y_ = (y210 ++ l0) := ⟨_, rfl⟩
   replace H : (some y213) = some r := by first | (rw [hy213]; with_reducible exact H) | (have H2_ := (Option.bind_some _ _).symm.trans H; rw [hy213]; with_reducible exact H2_) | (have H2_ := (Option.bind_some _ _).symm.trans H; with_reducible exact H2_) | with_reducible exact H | (rw [hy213]; exact H) | exact H
   have Ny213 := Am hy213
   clear hy213
   obtain rfl := Option.some.inj H
   have q_ : ∀ (w : World) (a : Option Addr) (n c n' c' : Nat), (binOp .eql 23 (.slice a n c) (.slice none n' c')).run Try.prog w = .ok (.bool a.isNone) w := fun w a n c n' c' => Lib.run_eql_slice_nil w _ _ a n c n' c' Try.underlying23
   go_enter Try.func99, Try.ntmps99
   go_wp2_with (first | ((with_reducible refine gate_dst (N := 5) rfl ?_); refine Kd.R_lit (Kd.int .i64) _ 3 ?hg (N := 5) ?hd (xs := ([] : List Int)) (inner := []) (ok := fun _ => True) (okp := fun _ => True) ?hr ?hp (fun _ hk => hk) trivial (Below.refl _ _) (Nat.le_refl _) (by simp) ?_; (case hd => rfl); (case hg => rfl); (case hr => first | (go_simp; done) | (go_simp; rfl)); (case hp => exact (Reps.none _ _)); intro v211 w3 ho4 hb hg_ hnew_; clear hg_ hnew_; (first | rw [← Ny210.out] at ho4 | (simp only [Int.reduceToNat] at ho4; rw [← Ny210.out] at ho4)); have n0_ := Am (Kd.R_lower ho4 (bZ (by repeat (first | (with_reducible first | exact HB.out | apply oA | apply pN | apply o1) | exact HB.out)))); have n1_ := Am (bP (by repeat (first | (with_reducible first | exact HB.out | apply oA | apply pN | apply o1) | exact HB.out)) hb); clear HB; have HO212 := n0_; have HB := n1_; clear n0_ n1_; clear hb ho4) | ((with_reducible refine gate_builtin (b := .append) (xs := #[.tmp 5, .tmp 6]) rfl ?_); at_builtin; refine Kd.R_append_rows (Kd.int .i64) (w0 := w) w.heap.size rfl (.tmp 5) (.tmp 6) 23 3 (.int .i64 0) 8 rfl Try.underlying23 info3 rfl (by decide) (by omega) v211 y210 l0 _ _ _ (fun _ => True) (fun _ => False) rfl rfl ?aO ?aR (fun _ _ h => h) (fun _ h => h.elim) ?aF ?aB ?aS ?aL ?_; (case aR => repeat (first | exact (cB HR0.out HB.out) | (with_reducible refine cA ?_ _) | (with_reducible refine cN ?_ _) | (with_reducible refine cD ?_))); (case aB => exact (by repeat (first | (with_reducible first | exact HB.out | apply oA | apply pN | apply o1) | exact HB.out))); (case aF => exact (fun _ _ => trivial)); (case aO => exact (by (with_reducible repeat (first | apply rA | apply rN | apply rD)); exact HO212.out)); (case aS => exact (bZ (by repeat (first | (with_reducible first | exact HB.out | apply oA | apply pN | apply o1) | exact HB.out)))); (case aL => have := LMc2.out; omega); intro v214 w5 ho hb hg hat; rw [← Ny213.out] at ho; have n0_ := Am (hb); have n1_ := Am (ho); clear HB; clear HO212; have HB := n0_; have HO215 := n1_; clear n0_ n1_; clear ho hb hg hat))
   go_ret
   exact ⟨_, by first | rfl | (simp [errW_none, errW_some] <;> rfl) | (simp [*, errW_none, errW_some] <;> rfl), by (with_reducible repeat (first | apply rA | apply rN | apply rD)); exact HO215.out, by repeat (first | (with_reducible first | exact HB.out | apply oA | apply pN | apply o1) | exact HB.out)⟩
  ·rw [if_neg c2] at H
   exact absurd H (by simp)

/-! ### impl_Sigs_clone: function 60 -/
def impl_Sigs_clone.f (l0_0 : List Bool) (l0_1 : List Bool) (l0_2 : List Int) : Option (List Bool × List Bool × List Int) := (slices_Clone_bool_bool.f l0_0).bind fun t218 => ((slices_Clone_bool_bool.f l0_1).bind fun t221 => ((slices_Clone_int_int.f l0_2).bind fun t224 => (some (t218, t221, t224))))
def impl_Sigs_clone.T1 : Bool × List (List Nat × List Nat) := (true, [([], []), ([0], [0]), ([1], [1]), ([], []), ([3], [3]), ([4, 2], [4]), ([], []), ([6], [6]), ([7, 5], [7]), ([2, 5, 8], [2, 5, 8]), ([9, 8, 0, 1, 2, 3, 4, 5, 6, 7, 8, 9], [9])])
def impl_Sigs_clone.B1 : List Nat := [0, 1, 3, 0, 8, 31, 0, 64, 255, 511, 1023]
theorem impl_Sigs_clone.tab1 : rtab .any (opsOf Try.f60 1) = impl_Sigs_clone.T1 := by kernel_rfl
theorem impl_Sigs_clone.bits1 : waitsOk impl_Sigs_clone.T1.2 impl_Sigs_clone.B1 = true := by kernel_rfl
abbrev impl_Sigs_clone.q0 : Array Bool := #[false, false, false, false, false, false, false, false, false, false, false]
abbrev impl_Sigs_clone.q1 : Array Bool := #[true, false, false, false, false, false, false, false, false, false, false]
abbrev impl_Sigs_clone.q2 : Array Bool := #[true, false, false, true, false, false, false, false, false, false, false]
abbrev impl_Sigs_clone.q3 : Array Bool := #[true, false, false, true, false, false, true, false, false, false, false]
abbrev impl_Sigs_clone.q4 : Array Bool := #[true, true, false, true, false, false, true, false, false, false, false]
abbrev impl_Sigs_clone.q5 : Array Bool := #[true, true, false, true, true, false, true, false, false, false, false]
abbrev impl_Sigs_clone.q6 : Array Bool := #[true, true, false, true, true, false, true, true, false, false, false]
abbrev impl_Sigs_clone.q7 : Array Bool := #[true, true, true, true, true, false, true, true, false, false, false]
abbrev impl_Sigs_clone.q8 : Array Bool := #[true, true, true, true, true, true, true, true, false, false, false]
abbrev impl_Sigs_clone.q9 : Array Bool := #[true, true, true, true, true, true, true, true, true, false, false]
abbrev impl_Sigs_clone.q10 : Array Bool := #[true, true, true, true, true, true, true, true, true, true, false]
abbrev impl_Sigs_clone.q11 : Array Bool := #[true, true, true, true, true, true, true, true, true, true, true]
set_option maxHeartbeats 2000000 in
set_option maxRecDepth 100000 in
theorem impl_Sigs_clone.calls (A0_0 : Option Addr) (c0_0 : Nat) (l0_0 : List Bool) (A0_1 : Option Addr) (c0_1 : Nat) (l0_1 : List Bool) (A0_2 : Option Addr) (c0_2 : Nat) (l0_2 : List Int) (r1 : List Bool) (r2 : List Bool) (r3 : List Int) (w : World) (hr0_0 : Kd.C Kd.bool w A0_0 l0_0.length l0_0) (hc0_0 : l0_0.length ≤ c0_0) (hr0_1 : Kd.C Kd.bool w A0_1 l0_1.length l0_1) (hc0_1 : l0_1.length ≤ c0_1) (hr0_2 : Kd.C (Kd.int .i64) w A0_2 l0_2.length l0_2) (hc0_2 : l0_2.length ≤ c0_2) (h : impl_Sigs_clone.f l0_0 l0_1 l0_2 = some (r1, r2, r3)) :
  Calls Try.prog 60 #[.agg #[.slice A0_0 l0_0.length c0_0, .slice A0_1 l0_1.length c0_1, .slice A0_2 l0_2.length c0_2]] w fun e w' => ∃ v0_ v1_ v2_ : Value, e = .returned (.agg #[v0_, v1_, v2_]) ∧ Kd.R Kd.bool 4 w' w.heap.size (fun k_ => some k_ ≠ (v1_ : Value).ownBlock) v0_ r1 ∧ Kd.R Kd.bool 4 w' w.heap.size (fun k_ => some k_ ≠ (v0_ : Value).ownBlock) v1_ r2 ∧ Kd.R (Kd.int .i64) 3 w' w.heap.size (fun _ => True) v2_ r3 ∧ Below w.heap.size w w' := by
 have hu27 := Try.underlying27
 have HR0_0 := Am hr0_0
 have HC0_0 := Am hc0_0
 clear hr0_0 hc0_0
 have HR0_1 := Am hr0_1
 have HC0_1 := Am hc0_1
 clear hr0_1 hc0_1
 have HR0_2 := Am hr0_2
 have HC0_2 := Am hc0_2
 clear hr0_2 hc0_2
 have HB := Am (Below.refl w.heap.size w)
 have H : ((slices_Clone_bool_bool.f l0_0).bind fun t218 => ((slices_Clone_bool_bool.f l0_1).bind fun t221 => ((slices_Clone_int_int.f l0_2).bind fun t224 => (some (t218, t221, t224))))) = some (r1, r2, r3) := h
 clear h
 replace H := Option.bind_eq_some_iff.mp H
 obtain ⟨t218, A20, H⟩ := H
 replace H : ((slices_Clone_bool_bool.f l0_1).bind fun t221 => ((slices_Clone_int_int.f l0_2).bind fun t224 => (some (t218, t221, t224)))) = some (r1, r2, r3) := H
 have A2 := Am A20
 clear A20
 replace H := Option.bind_eq_some_iff.mp H
 obtain ⟨t221, A30, H⟩ := H
 replace H : ((slices_Clone_int_int.f l0_2).bind fun t224 => (some (t218, t221, t224))) = some (r1, r2, r3) := H
 have A3 := Am A30
 clear A30
 replace H := Option.bind_eq_some_iff.mp H
 obtain ⟨t224, A40, H⟩ := H
 replace H : (some (t218, t221, t224)) = some (r1, r2, r3) := H
 have A4 := Am A40
 clear A40
 simp only [Option.some.injEq, Prod.mk.injEq] at H
 obtain ⟨rfl, rfl, rfl⟩ := H
 go_enter Try.func60, Try.ntmps60
 try go_wp2_with (first | ((with_reducible refine gate_dst (N := 1) rfl ?_); refine box_event ?hg (N := 1) ?hd (cs := #[.slice A0_0 l0_0.length c0_0, .slice A0_1 l0_1.length c0_1, .slice A0_2 l0_2.length c0_2]) (t := 27) ?hr ?_; (case hd => rfl); (case hg => rfl); (case hr => first | (go_simp; done) | (go_simp; rfl)); intro gb216 hg w5 hbox hb; have n0_ := Am (bP (by repeat (first | (with_reducible first | exact HB.out | apply oA | apply pN | apply o1) | exact HB.out)) hb); have n1_ := Am (hbox); have n2_ := Am ((by rw [hg]; exact (bZ (by repeat (first | (with_reducible first | exact HB.out | apply oA | apply pN | apply o1) | exact HB.out))) : w.heap.size ≤ gb216)); have n3_ := Am ((by rw [hg]; exact (bZ (by repeat (first | (with_reducible first | exact HB.out | apply oA | apply pN | apply o1) | exact HB.out))) : w.heap.size ≤ gb216)); clear HB; have HB := n0_; have BK216 := n1_; have GW216 := n2_; have GE216 := n3_; clear n0_ n1_ n2_ n3_; clear hb hbox hg) | ((with_reducible refine gate_dst (N := 2) rfl ?_); refine box_event ?hg (N := 2) ?hd (cs := #[.slice none 0 0, .slice none 0 0, .slice none 0 0]) (t := 27) ?hr ?_; (case hd => rfl); (case hg => rfl); (case hr => first | (go_simp; done) | (go_simp; rfl)); intro gb217 hg w6 hbox hb; have n0_ := Am (bB (g := gb216) (o := .cells #[.slice A0_0 l0_0.length c0_0, .slice A0_1 l0_1.length c0_1, .slice A0_2 l0_2.length c0_2] 27 (0, 0)) (by (with_reducible repeat (first | refine bN ?_ _ | refine bD ?_ | refine bA ?_ _)); exact BK216.out) hb); have n1_ := Am (bP (by repeat (first | (with_reducible first | exact HB.out | apply oA | apply pN | apply o1 | refine bS ?_ GE216.out) | exact HB.out)) hb); have n2_ := Am (hbox); have n3_ := Am ((by rw [hg]; exact (bZ (by repeat (first | (with_reducible first | exact HB.out | apply oA | apply pN | apply o1 | refine bS ?_ GE216.out) | exact HB.out))) : w.heap.size ≤ gb217)); have n4_ := Am ((by rw [hg]; exact (bZ (by repeat (first | (with_reducible first | exact HB.out | apply oA | apply pN | apply o1 | refine bS ?_ GE216.out) | exact HB.out))) : w.heap.size ≤ gb217)); have n5_ := Am ((by rw [hg]; exact Nat.ne_of_lt (blk_lt (g := gb216) (o := .cells #[.slice A0_0 l0_0.length c0_0, .slice A0_1 l0_1.length c0_1, .slice A0_2 l0_2.length c0_2] 27 (0, 0)) (by (with_reducible repeat (first | refine bN ?_ _ | refine bD ?_ | refine bA ?_ _)); exact BK216.out)) : gb216 ≠ gb217)); have n6_ := Am ((by rw [hg]; exact Nat.ne_of_gt (blk_lt (g := gb216) (o := .cells #[.slice A0_0 l0_0.length c0_0, .slice A0_1 l0_1.length c0_1, .slice A0_2 l0_2.length c0_2] 27 (0, 0)) (by (with_reducible repeat (first | refine bN ?_ _ | refine bD ?_ | refine bA ?_ _)); exact BK216.out)) : gb217 ≠ gb216)); clear BK216; clear HB; have BK216 := n0_; have HB := n1_; have BK217 := n2_; have GW217 := n3_; have GE217 := n4_; have NB216_217 := n5_; have NB217_216 := n6_; clear n0_ n1_ n2_ n3_ n4_ n5_ n6_; clear hb hbox hg))
 have n0_ := Am (bD BK216.out)
 have n1_ := Am (bD BK217.out)
 have n2_ := Am (o1 HB.out)
 clear BK216
 clear BK217
 clear HB
 have BK216 := n0_
 have BK217 := n1_
 have HB := n2_
 clear n0_ n1_ n2_
 refine start_ (n := 11) (S := fun w' => w'.cell? ⟨gb216, 0, none⟩ = some (.slice A0_0 l0_0.length c0_0) ∧ w'.cell? ⟨gb216, 1, none⟩ = some (.slice A0_1 l0_1.length c0_1) ∧ w'.cell? ⟨gb216, 2, none⟩ = some (.slice A0_2 l0_2.length c0_2)) (ds := []) impl_Sigs_clone.q0 (by kernel_rfl) rfl rfl ⟨(bC BK216.out 0).trans rfl, (bC BK216.out 1).trans rfl, (bC BK216.out 2).trans rfl⟩ (fun hHeld => ?_); refine with_tabW impl_Sigs_clone.tab1 impl_Sigs_clone.bits1 (fun HT_ HW_ => ?_)
 generalize w6.drew = w7 at BK216 BK217 HB hHeld ⊢
 refine pure_ (i := 0) (N := some 3) (v := ?_) (a' := ?_) impl_Sigs_clone.q1 rfl rfl (any_of HT_.out (by kernel_rfl)) (fun _ _ _ h => h) (Or.inl ⟨by rfl, ?_⟩) ?_ ?_
 rotate_left
 ·intro w'
  go_simp
  with_reducible rfl
 rotate_left
 ·simp only [Act.put, lA, lZ, lS, i64_w, i32_w]
  rfl
 refine pure_ (i := 3) (N := some 6) (v := ?_) (a' := ?_) impl_Sigs_clone.q2 rfl rfl (any_of HT_.out (by kernel_rfl)) (fun _ _ _ h => h) (Or.inl ⟨by rfl, ?_⟩) ?_ ?_
 rotate_left
 ·intro w'
  go_simp
  with_reducible rfl
 rotate_left
 ·simp only [Act.put, lA, lZ, lS, i64_w, i32_w]
  rfl
 refine pure_ (i := 6) (N := some 9) (v := ?_) (a' := ?_) impl_Sigs_clone.q3 rfl rfl (any_of HT_.out (by kernel_rfl)) (fun _ _ _ h => h) (Or.inl ⟨by rfl, ?_⟩) ?_ ?_
 rotate_left
 ·intro w'
  go_simp
  with_reducible rfl
 rotate_left
 ·simp only [Act.put, lA, lZ, lS, i64_w, i32_w]
  rfl
 refine take_ (i := 1) (N := some 4) (v := ?_) (a' := ?_) impl_Sigs_clone.q4 rfl rfl (take_ofW HT_.out HW_.out (by kernel_rfl)) (fun _ _ _ h => h) (Or.inl ⟨by rfl, ?_⟩) hHeld ?_ ?_
 rotate_left
 ·rintro w' ⟨s0, s1, s2⟩
  go_simp
  with_reducible rfl
 rotate_left
 ·simp only [Act.put, lA, lZ, lS, i64_w, i32_w]
  rfl
 refine take_ (i := 4) (N := some 7) (v := ?_) (a' := ?_) impl_Sigs_clone.q5 rfl rfl (take_ofW HT_.out HW_.out (by kernel_rfl)) (fun _ _ _ h => h) (Or.inl ⟨by rfl, ?_⟩) hHeld ?_ ?_
 rotate_left
 ·rintro w' ⟨s0, s1, s2⟩
  go_simp
  with_reducible rfl
 rotate_left
 ·simp only [Act.put, lA, lZ, lS, i64_w, i32_w]
  rfl
 refine take_ (i := 7) (N := some 10) (v := ?_) (a' := ?_) impl_Sigs_clone.q6 rfl rfl (take_ofW HT_.out HW_.out (by kernel_rfl)) (fun _ _ _ h => h) (Or.inl ⟨by rfl, ?_⟩) hHeld ?_ ?_
 rotate_left
 ·rintro w' ⟨s0, s1, s2⟩
  go_simp
  with_reducible rfl
 rotate_left
 ·simp only [Act.put, lA, lZ, lS, i64_w, i32_w]
  rfl
 refine one_ (i := 2) (N := some 5) impl_Sigs_clone.q7 rfl rfl (one_of HT_.out (by kernel_rfl)) (by decide) (fun K hK => ?_)
 refine goes_ Try.func98 (by kernel_rfl) rfl #[.slice A0_0 l0_0.length c0_0] (by rfl) rfl rfl (by (try simp only [lM, lC, lN]); first | done | rfl | (simp only [lD, lT]; rfl)) ?_
 with_reducible refine (slices_Clone_bool_bool.calls _ _ l0_0 t218 _ ?side1 ?side2 A2.out).mono ?_
 (case side1 => repeat (first | exact (cB HR0_0.out HB.out) | (with_reducible refine cA ?_ _) | (with_reducible refine cN ?_ _) | (with_reducible refine cD ?_)))
 (case side2 => exact HC0_0.out)
 rintro e w8 ⟨v219, rfl, ho0, hb⟩
 refine ⟨_, rfl, ?_⟩
 have n0_ := Am (Kd.R_lower ho0 (bZ (by repeat (first | (with_reducible first | exact HB.out | apply oA | apply pN | apply o1 | refine bS ?_ GE216.out | refine bS ?_ GE217.out) | exact HB.out))))
 have n1_ := Am (bB (g := gb216) (o := .cells #[.slice A0_0 l0_0.length c0_0, .slice A0_1 l0_1.length c0_1, .slice A0_2 l0_2.length c0_2] 27 (0, 0)) (by (with_reducible repeat (first | refine bN ?_ _ | refine bD ?_ | refine bA ?_ _)); exact BK216.out) hb)
 have n2_ := Am (bB (g := gb217) (o := .cells #[.slice none 0 0, .slice none 0 0, .slice none 0 0] 27 (0, 0)) (by (with_reducible repeat (first | refine bN ?_ _ | refine bD ?_ | refine bA ?_ _)); exact BK217.out) hb)
 have n3_ := Am (bP (by repeat (first | (with_reducible first | exact HB.out | apply oA | apply pN | apply o1 | refine bS ?_ GE216.out | refine bS ?_ GE217.out) | exact HB.out)) hb)
 clear BK216
 clear BK217
 clear HB
 have HO220 := n0_
 have BK216 := n1_
 have BK217 := n2_
 have HB := n3_
 clear n0_ n1_ n2_ n3_
 (try clear hb)
 (try clear hb2)
 (try clear hk)
 (try clear hi)
 (try clear ho0)
 refine hK.out _ _ ⟨(bC BK216.out 0).trans rfl, (bC BK216.out 1).trans rfl, (bC BK216.out 2).trans rfl⟩ (fun hHeld => ?_)
 clear hK K
 refine norm_ (a' := ?_) ?_ ?_
 rotate_left
 ·show Act.put _ (some 5) _ = _
  simp only [Act.put, lA, lZ, lS, i64_w, i32_w]
  rfl
 refine one_ (i := 5) (N := some 8) impl_Sigs_clone.q8 rfl rfl (one_of HT_.out (by kernel_rfl)) (by decide) (fun K hK => ?_)
 refine goes_ Try.func98 (by kernel_rfl) rfl #[.slice A0_1 l0_1.length c0_1] (by rfl) rfl rfl (by (try simp only [lM, lC, lN]); first | done | rfl | (simp only [lD, lT]; rfl)) ?_
 with_reducible refine (slices_Clone_bool_bool.calls _ _ l0_1 t221 _ ?side1 ?side2 A3.out).mono ?_
 (case side1 => repeat (first | exact (cB HR0_1.out HB.out) | (with_reducible refine cA ?_ _) | (with_reducible refine cN ?_ _) | (with_reducible refine cD ?_)))
 (case side2 => exact HC0_1.out)
 rintro e w9 ⟨v222, rfl, ho0, hb⟩
 refine ⟨_, rfl, ?_⟩
 have n0_ := Am (Kd.R_elder' (by (with_reducible repeat (first | apply rA | apply rN | apply rD)); exact HO220.out) (Kd.R_base ho0) hb)
 have n1_ := Am (Kd.R_lower (Kd.R_new' ho0 (Kd.R_lt (by (with_reducible repeat (first | apply rA | apply rN | apply rD)); exact HO220.out))) (bZ (by repeat (first | (with_reducible first | exact HB.out | apply oA | apply pN | apply o1 | refine bS ?_ GE216.out | refine bS ?_ GE217.out) | exact HB.out))))
 have n2_ := Am (bB (g := gb216) (o := .cells #[.slice A0_0 l0_0.length c0_0, .slice A0_1 l0_1.length c0_1, .slice A0_2 l0_2.length c0_2] 27 (0, 0)) (by (with_reducible repeat (first | refine bN ?_ _ | refine bD ?_ | refine bA ?_ _)); exact BK216.out) hb)
 have n3_ := Am (bB (g := gb217) (o := .cells #[.slice none 0 0, .slice none 0 0, .slice none 0 0] 27 (0, 0)) (by (with_reducible repeat (first | refine bN ?_ _ | refine bD ?_ | refine bA ?_ _)); exact BK217.out) hb)
 have n4_ := Am (bP (by repeat (first | (with_reducible first | exact HB.out | apply oA | apply pN | apply o1 | refine bS ?_ GE216.out | refine bS ?_ GE217.out) | exact HB.out)) hb)
 clear HO220
 clear BK216
 clear BK217
 clear HB
 have HO220 := n0_
 have HO223 := n1_
 have BK216 := n2_
 have BK217 := n3_
 have HB := n4_
 clear n0_ n1_ n2_ n3_ n4_
 (try clear hb)
 (try clear hb2)
 (try clear hk)
 (try clear hi)
 (try clear ho0)
 refine hK.out _ _ ⟨(bC BK216.out 0).trans rfl, (bC BK216.out 1).trans rfl, (bC BK216.out 2).trans rfl⟩ (fun hHeld => ?_)
 clear hK K
 refine norm_ (a' := ?_) ?_ ?_
 rotate_left
 ·show Act.put _ (some 8) _ = _
  simp only [Act.put, lA, lZ, lS, i64_w, i32_w]
  rfl
 refine one_ (i := 8) (N := some 11) impl_Sigs_clone.q9 rfl rfl (one_of HT_.out (by kernel_rfl)) (by decide) (fun K hK => ?_)
 refine goes_ Try.func99 (by kernel_rfl) rfl #[.slice A0_2 l0_2.length c0_2] (by rfl) rfl rfl (by (try simp only [lM, lC, lN]); first | done | rfl | (simp only [lD, lT]; rfl)) ?_
 with_reducible refine (slices_Clone_int_int.calls _ _ l0_2 t224 _ ?side1 ?side2 A4.out).mono ?_
 (case side1 => repeat (first | exact (cB HR0_2.out HB.out) | (with_reducible refine cA ?_ _) | (with_reducible refine cN ?_ _) | (with_reducible refine cD ?_)))
 (case side2 => exact HC0_2.out)
 rintro e w10 ⟨v225, rfl, ho0, hb⟩
 refine ⟨_, rfl, ?_⟩
 have n0_ := Am (rB (by (with_reducible repeat (first | apply rA | apply rN | apply rD)); exact HO220.out) hb)
 have n1_ := Am (rB (by (with_reducible repeat (first | apply rA | apply rN | apply rD)); exact HO223.out) hb)
 have n2_ := Am (Kd.R_lower ho0 (bZ (by repeat (first | (with_reducible first | exact HB.out | apply oA | apply pN | apply o1 | refine bS ?_ GE216.out | refine bS ?_ GE217.out) | exact HB.out))))
 have n3_ := Am (bB (g := gb216) (o := .cells #[.slice A0_0 l0_0.length c0_0, .slice A0_1 l0_1.length c0_1, .slice A0_2 l0_2.length c0_2] 27 (0, 0)) (by (with_reducible repeat (first | refine bN ?_ _ | refine bD ?_ | refine bA ?_ _)); exact BK216.out) hb)
 have n4_ := Am (bB (g := gb217) (o := .cells #[.slice none 0 0, .slice none 0 0, .slice none 0 0] 27 (0, 0)) (by (with_reducible repeat (first | refine bN ?_ _ | refine bD ?_ | refine bA ?_ _)); exact BK217.out) hb)
 have n5_ := Am (bP (by repeat (first | (with_reducible first | exact HB.out | apply oA | apply pN | apply o1 | refine bS ?_ GE216.out | refine bS ?_ GE217.out) | exact HB.out)) hb)
 clear HO220
 clear HO223
 clear BK216
 clear BK217
 clear HB
 have HO220 := n0_
 have HO223 := n1_
 have HO226 := n2_
 have BK216 := n3_
 have BK217 := n4_
 have HB := n5_
 clear n0_ n1_ n2_ n3_ n4_ n5_
 (try clear hb)
 (try clear hb2)
 (try clear hk)
 (try clear hi)
 (try clear ho0)
 obtain ⟨Ao11, co11, eo11⟩ := Kd.R_slice HO226.out
 (first | subst eo11 | (injection eo11 with f1_ f2_ f3_; have f4_ := f1_.symm; have f5_ := f3_.symm; clear f1_ f2_ f3_; subst f4_; subst f5_))
 obtain ⟨Ao12, co12, eo12⟩ := Kd.R_slice HO223.out
 (first | subst eo12 | (injection eo12 with f1_ f2_ f3_; have f4_ := f1_.symm; have f5_ := f3_.symm; clear f1_ f2_ f3_; subst f4_; subst f5_))
 obtain ⟨Ao13, co13, eo13⟩ := Kd.R_slice HO220.out
 (first | subst eo13 | (injection eo13 with f1_ f2_ f3_; have f4_ := f1_.symm; have f5_ := f3_.symm; clear f1_ f2_ f3_; subst f4_; subst f5_))
 refine hK.out _ _ ⟨(bC BK216.out 0).trans rfl, (bC BK216.out 1).trans rfl, (bC BK216.out 2).trans rfl⟩ (fun hHeld => ?_)
 clear hK K
 refine norm_ (a' := ?_) ?_ ?_
 rotate_left
 ·show Act.put _ (some 11) _ = _
  simp only [Act.put, lA, lZ, lS, i64_w, i32_w]
  rfl
 refine pure_ (i := 9) (N := some 12) (v := ?_) (a' := ?_) impl_Sigs_clone.q10 rfl rfl (any_of HT_.out (by kernel_rfl)) (fun _ _ _ h => h) (Or.inl ⟨by rfl, ?_⟩) ?_ ?_
 rotate_left
 ·intro w'
  go_simp
  with_reducible rfl
 rotate_left
 ·simp only [Act.put, lA, lZ, lS, i64_w, i32_w]
  rfl
 refine one_ (i := 10) (N := none) impl_Sigs_clone.q11 rfl rfl (one_of HT_.out (by kernel_rfl)) (by decide) (fun K hK => ?_)
 have hs14 : w10.cell? ⟨gb217, 0, none⟩ = some (.slice none 0 0) := (bC BK217.out 0).trans rfl
 have hfs14 := bF BK217.out 0
 have hns14_0 := NB216_217.out
 have hms14_0 := NB217_216.out
 have hs15 : w10.cell? ⟨gb217, 1, none⟩ = some (.slice none 0 0) := (bC BK217.out 1).trans rfl
 have hfs15 := bF BK217.out 1
 have hns15_0 := NB216_217.out
 have hms15_0 := NB217_216.out
 have hs16 : w10.cell? ⟨gb217, 2, none⟩ = some (.slice none 0 0) := (bC BK217.out 2).trans rfl
 have hfs16 := bF BK217.out 2
 have hns16_0 := NB216_217.out
 have hms16_0 := NB217_216.out
 refine skip_ (w1 := ?_) (by rfl) rfl ?_ ?_
 rotate_left
 ·go_simp
  rfl
 refine hK.out _ _ ⟨((cell_far (p := ⟨gb217, _, none⟩) NB216_217.out _).trans (((cell_far (p := ⟨gb217, _, none⟩) NB216_217.out _).trans (((cell_far (p := ⟨gb217, _, none⟩) NB216_217.out _).trans (hHeld.1)))))), ((cell_far (p := ⟨gb217, _, none⟩) NB216_217.out _).trans (((cell_far (p := ⟨gb217, _, none⟩) NB216_217.out _).trans (((cell_far (p := ⟨gb217, _, none⟩) NB216_217.out _).trans (hHeld.2.1)))))), ((cell_far (p := ⟨gb217, _, none⟩) NB216_217.out _).trans (((cell_far (p := ⟨gb217, _, none⟩) NB216_217.out _).trans (((cell_far (p := ⟨gb217, _, none⟩) NB216_217.out _).trans (hHeld.2.2))))))⟩ (fun hHeld => ?_)
 clear hK K
 refine done_ (done_of HT_.out (by kernel_rfl)) ?_
 try go_wp2
 refine bodyPost_ret (results_cell_row rfl _ _ gb217 27 #[.slice Ao13 t218.length co13, .slice Ao12 t221.length co12, .slice Ao11 t224.length co11] (0, 0) _ rfl (by (with_reducible repeat (first | refine bN ?_ _ | refine bD ?_ | refine bA ?_ _)); refine blk_put (cs := #[.slice Ao13 t218.length co13, .slice Ao12 t221.length co12, .slice none 0 0]) ?_ 2 _ rfl; (with_reducible repeat (first | refine bN ?_ _ | refine bD ?_ | refine bA ?_ _)); refine blk_put (cs := #[.slice Ao13 t218.length co13, .slice none 0 0, .slice none 0 0]) ?_ 1 _ rfl; (with_reducible repeat (first | refine bN ?_ _ | refine bD ?_ | refine bA ?_ _)); refine blk_put (cs := #[.slice none 0 0, .slice none 0 0, .slice none 0 0]) ?_ 0 _ rfl; (with_reducible repeat (first | refine bN ?_ _ | refine bD ?_ | refine bA ?_ _)); exact BK217.out) Try.underlying27 rfl (by kernel_rfl)) rfl ?_
 exact ⟨_, _, _, by first | rfl | (simp [errW_none, errW_some] <;> rfl) | (simp [*, errW_none, errW_some] <;> rfl), by (with_reducible repeat (first | apply rA | apply rN | apply rD)); exact rM (rF (p := ⟨gb217, 2, none⟩) (rF (p := ⟨gb217, 1, none⟩) (rF (p := ⟨gb217, 0, none⟩) (rT HO220.out BK217.out (by decide)) (fun _ hk => hk.2) (.slice Ao13 t218.length co13)) (fun _ hk => hk.2) (.slice Ao12 t221.length co12)) (fun _ hk => hk.2) (.slice Ao11 t224.length co11)) (fun _ hk => hk.1.2), by (with_reducible repeat (first | apply rA | apply rN | apply rD)); exact rM (rF (p := ⟨gb217, 2, none⟩) (rF (p := ⟨gb217, 1, none⟩) (rF (p := ⟨gb217, 0, none⟩) (rT HO223.out BK217.out (by decide)) (fun _ hk => hk.2) (.slice Ao13 t218.length co13)) (fun _ hk => hk.2) (.slice Ao12 t221.length co12)) (fun _ hk => hk.2) (.slice Ao11 t224.length co11)) (fun _ hk => hk.1.2), by (with_reducible repeat (first | apply rA | apply rN | apply rD)); exact rM (rF (p := ⟨gb217, 2, none⟩) (rF (p := ⟨gb217, 1, none⟩) (rF (p := ⟨gb217, 0, none⟩) (rT HO226.out BK217.out (by decide)) (fun _ hk => hk.2) (.slice Ao13 t218.length co13)) (fun _ hk => hk.2) (.slice Ao12 t221.length co12)) (fun _ hk => hk.2) (.slice Ao11 t224.length co11)) (fun _ hk => trivial), by repeat (first | (with_reducible first | exact HB.out | apply oA | apply pN | apply o1 | refine bS ?_ GE216.out | refine bS ?_ GE217.out) | exact HB.out)⟩

/-! ### impl_SigsBlock: function 22 -/
mutual
def impl_SigsBlock.j0 : Nat → List Bool → Bool → List Bool → List Bool → List Int → Option (List Bool × List Bool × List Int × Bool)
 | 0, _, _, _, _, _ => none
 | k + 1, x1, x16, x228000, x228001, x228002 => if x16 = true then (some (([] : List Bool), ([] : List Bool), ([] : List Int), false)) else ((impl_Sigs_clone.f x228000 x228001 x228002).bind fun bt230 => (impl_SigsBlock.l0 k x1 (x1.length : Int) 0 bt230.1 bt230.2.1 bt230.2.2))
def impl_SigsBlock.l0 : Nat → List Bool → Int → Int → List Bool → List Bool → List Int → Option (List Bool × List Bool × List Int × Bool)
 | 0, _, _, _, _, _, _ => none
 | k + 1, x20, x21, x22, x240000, x240001, x240002 => if x22 < x21 then (if 0 ≤ x22 then (if x22 < (x20.length : Int) then (if rdOf false x20 x22 = true then (if (wrap64 (x22 + 1)) = 1 then (if x22 < (x240001.length : Int) then (impl_SigsBlock.l0 k x20 x21 (wrap64 (x22 + 1)) x240000 (x240001.set (x22 : Int).toNat false) x240002) else (none)) else (if x22 < (x240001.length : Int) then (impl_SigsBlock.l0 k x20 x21 (wrap64 (x22 + 1)) x240000 (x240001.set (x22 : Int).toNat ((wrap64 (x22 + 1)) != 2)) x240002) else (none))) else (if x22 < (x240001.length : Int) then (impl_SigsBlock.l0 k x20 x21 (wrap64 (x22 + 1)) x240000 (x240001.set (x22 : Int).toNat false) x240002) else (none))) else (none)) else (none)) else (some (x240000, x240001, x240002, true))
end
def impl_SigsBlock.f (k : Nat) (l0_0 : List Bool) (l0_1 : List Bool) (l0_2 : List Int) (l1 : List Bool) : Option (List Bool × List Bool × List Int × Bool) := (impl_SigsOk.f k l0_0 l0_1 l0_2).bind fun t229 => (if t229 = true then (impl_SigsBlock.j0 k l1 ((l1.length : Int) != 8) l0_0 l0_1 l0_2) else (impl_SigsBlock.j0 k l1 true l0_0 l0_1 l0_2))
theorem impl_SigsBlock.mono_l : ∀ k, (∀ y0 y1 y2 y3 y4, LeO (impl_SigsBlock.j0 k y0 y1 y2 y3 y4) (impl_SigsBlock.j0 (k + 1) y0 y1 y2 y3 y4)) ∧ (∀ y0 y1 y2 y3 y4 y5, LeO (impl_SigsBlock.l0 k y0 y1 y2 y3 y4 y5) (impl_SigsBlock.l0 (k + 1) y0 y1 y2 y3 y4 y5))
 | 0 => ⟨fun _ _ _ _ _ r h => by simp [impl_SigsBlock.j0] at h, fun _ _ _ _ _ _ r h => by simp [impl_SigsBlock.l0] at h⟩
 | k + 1 => by
  obtain ⟨ih0, ih1⟩ := impl_SigsBlock.mono_l k
  refine ⟨?_, ?_⟩
  ·intro y0 y1 y2 y3 y4
   unfold impl_SigsBlock.j0
   repeat' first
   | (with_reducible exact ih0 _ _ _ _ _)
   | (with_reducible exact ih1 _ _ _ _ _ _)
   | (with_reducible exact impl_SigsOk.mono _ _ _ _)
   | (with_reducible exact LeO.refl _)
   | (with_reducible exact LeO.none _)
   | (with_reducible refine LeO.ite ?_ ?_)
   | (with_reducible refine LeO.bind ?_ (fun _ => ?_))
   | exact ih0 _ _ _ _ _
   | exact ih1 _ _ _ _ _ _
   | exact impl_SigsOk.mono _ _ _ _
   | exact LeO.none _
   | refine LeO.ite ?_ ?_
   | refine LeO.bind ?_ (fun _ => ?_)
  ·intro y0 y1 y2 y3 y4 y5
   unfold impl_SigsBlock.l0
   repeat' first
   | (with_reducible exact ih0 _ _ _ _ _)
   | (with_reducible exact ih1 _ _ _ _ _ _)
   | (with_reducible exact impl_SigsOk.mono _ _ _ _)
   | (with_reducible exact LeO.refl _)
   | (with_reducible exact LeO.none _)
   | (with_reducible refine LeO.ite ?_ ?_)
   | (with_reducible refine LeO.bind ?_ (fun _ => ?_))
   | exact ih0 _ _ _ _ _
   | exact ih1 _ _ _ _ _ _
   | exact impl_SigsOk.mono _ _ _ _
   | exact LeO.none _
   | refine LeO.ite ?_ ?_
   | refine LeO.bind ?_ (fun _ => ?_)
theorem impl_SigsBlock.mono : ∀ a0 a1 a2 a3 k, LeO (impl_SigsBlock.f k a0 a1 a2 a3) (impl_SigsBlock.f (k + 1) a0 a1 a2 a3) := by
 intro a0 a1 a2 a3 k
 obtain ⟨ih0, ih1⟩ := impl_SigsBlock.mono_l k
 unfold impl_SigsBlock.f
 repeat' first
   | (with_reducible exact ih0 _ _ _ _ _)
   | (with_reducible exact ih1 _ _ _ _ _ _)
   | (with_reducible exact impl_SigsOk.mono _ _ _ _)
   | (with_reducible exact LeO.refl _)
   | (with_reducible exact LeO.none _)
   | (with_reducible refine LeO.ite ?_ ?_)
   | (with_reducible refine LeO.bind ?_ (fun _ => ?_))
   | exact ih0 _ _ _ _ _
   | exact ih1 _ _ _ _ _ _
   | exact impl_SigsOk.mono _ _ _ _
   | exact LeO.none _
   | refine LeO.ite ?_ ?_
   | refine LeO.bind ?_ (fun _ => ?_)
set_option maxHeartbeats 2000000 in
set_option maxRecDepth 100000 in
theorem impl_SigsBlock.calls (k : Nat) (A0_0 : Option Addr) (c0_0 : Nat) (l0_0 : List Bool) (A0_1 : Option Addr) (c0_1 : Nat) (l0_1 : List Bool) (A0_2 : Option Addr) (c0_2 : Nat) (l0_2 : List Int) (A1 : Option Addr) (c1 : Nat) (l1 : List Bool) (r1 : List Bool) (r2 : List Bool) (r3 : List Int) (r4 : Bool) (w : World) (hr0_0 : Kd.C Kd.bool w A0_0 l0_0.length l0_0) (hc0_0 : l0_0.length ≤ c0_0) (hr0_1 : Kd.C Kd.bool w A0_1 l0_1.length l0_1) (hc0_1 : l0_1.length ≤ c0_1) (hr0_2 : Kd.C (Kd.int .i64) w A0_2 l0_2.length l0_2) (hc0_2 : l0_2.length ≤ c0_2) (hr1 : Kd.C Kd.bool w A1 l1.length l1) (hc1 : l1.length ≤ c1) (h : impl_SigsBlock.f k l0_0 l0_1 l0_2 l1 = some (r1, r2, r3, r4)) :
  Calls Try.prog 22 #[.agg #[.slice A0_0 l0_0.length c0_0, .slice A0_1 l0_1.length c0_1, .slice A0_2 l0_2.length c0_2], .slice A1 l1.length c1] w fun e w' => ∃ v0_ v1_ v2_ : Value, e = .returned (.tuple #[.agg #[v0_, v1_, v2_], .bool r4]) ∧ Kd.R Kd.bool 4 w' w.heap.size (fun k_ => some k_ ≠ (v1_ : Value).ownBlock) v0_ r1 ∧ Kd.R Kd.bool 4 w' w.heap.size (fun k_ => some k_ ≠ (v0_ : Value).ownBlock) v1_ r2 ∧ Kd.R (Kd.int .i64) 3 w' w.heap.size (fun _ => True) v2_ r3 ∧ Below w.heap.size w w' := by
 have hu27 := Try.underlying27
 have HR0_0 := Am hr0_0
 have HC0_0 := Am hc0_0
 clear hr0_0 hc0_0
 have HR0_1 := Am hr0_1
 have HC0_1 := Am hc0_1
 clear hr0_1 hc0_1
 have HR0_2 := Am hr0_2
 have HC0_2 := Am hc0_2
 clear hr0_2 hc0_2
 have HR1 := Am hr1
 have HC1 := Am hc1
 clear hr1 hc1
 have HB := Am (Below.refl w.heap.size w)
 have H : ((impl_SigsOk.f k l0_0 l0_1 l0_2).bind fun t229 => (if t229 = true then (impl_SigsBlock.j0 k l1 ((l1.length : Int) != 8) l0_0 l0_1 l0_2) else (impl_SigsBlock.j0 k l1 true l0_0 l0_1 l0_2))) = some (r1, r2, r3, r4) := h
 clear h
 have HC3 := Am H
 clear H
 go_enter Try.func22, Try.ntmps22
 go_upto_region 1 with (first | ((with_reducible refine gate_dst (N := 2) rfl ?_); (try (refine gate_guard (by rfl) ?_; dsimp only)); refine box_event ?hg (N := 2) ?hd (cs := #[.slice A0_0 l0_0.length c0_0, .slice A0_1 l0_1.length c0_1, .slice A0_2 l0_2.length c0_2]) (t := 27) ?hr ?_; (case hd => rfl); (case hg => rfl); (case hr => first | (go_simp; done) | (go_simp; rfl)); intro gb227 hg w4 hbox hb; have n0_ := Am (bP (by repeat (first | (with_reducible first | exact HB.out | apply oA | apply pN | apply o1) | exact HB.out)) hb); have n1_ := Am (hbox); have n2_ := Am ((by rw [hg]; exact (bZ (by repeat (first | (with_reducible first | exact HB.out | apply oA | apply pN | apply o1) | exact HB.out))) : w.heap.size ≤ gb227)); have n3_ := Am ((by rw [hg]; exact (bZ (by repeat (first | (with_reducible first | exact HB.out | apply oA | apply pN | apply o1) | exact HB.out))) : w.heap.size ≤ gb227)); clear HB; have HB := n0_; have BK227 := n1_; have GW227 := n2_; have GE227 := n3_; clear n0_ n1_ n2_ n3_; clear hb hbox hg) | ((with_reducible refine gate_dst (N := 4) rfl ?_); (try (refine gate_guard (by rfl) ?_; dsimp only)); refine box_event ?hg (N := 4) ?hd (cs := #[.slice none 0 0, .slice none 0 0, .slice none 0 0]) (t := 27) ?hr ?_; (case hd => rfl); (case hg => rfl); (case hr => first | (go_simp; done) | (go_simp; rfl)); intro gb228 hg w5 hbox hb; have n0_ := Am (bB (g := gb227) (o := .cells #[.slice A0_0 l0_0.length c0_0, .slice A0_1 l0_1.length c0_1, .slice A0_2 l0_2.length c0_2] 27 (0, 0)) (by (with_reducible repeat (first | refine bN ?_ _ | refine bD ?_ | refine bA ?_ _)); exact BK227.out) hb); have n1_ := Am (bP (by repeat (first | (with_reducible first | exact HB.out | apply oA | apply pN | apply o1 | refine bS ?_ GE227.out) | exact HB.out)) hb); have n2_ := Am (hbox); have n3_ := Am ((by rw [hg]; exact (bZ (by repeat (first | (with_reducible first | exact HB.out | apply oA | apply pN | apply o1 | refine bS ?_ GE227.out) | exact HB.out))) : w.heap.size ≤ gb228)); have n4_ := Am ((by rw [hg]; exact (bZ (by repeat (first | (with_reducible first | exact HB.out | apply oA | apply pN | apply o1 | refine bS ?_ GE227.out) | exact HB.out))) : w.heap.size ≤ gb228)); have n5_ := Am ((by rw [hg]; exact Nat.ne_of_lt (blk_lt (g := gb227) (o := .cells #[.slice A0_0 l0_0.length c0_0, .slice A0_1 l0_1.length c0_1, .slice A0_2 l0_2.length c0_2] 27 (0, 0)) (by (with_reducible repeat (first | refine bN ?_ _ | refine bD ?_ | refine bA ?_ _)); exact BK227.out)) : gb227 ≠ gb228)); have n6_ := Am ((by rw [hg]; exact Nat.ne_of_gt (blk_lt (g := gb227) (o := .cells #[.slice A0_0 l0_0.length c0_0, .slice A0_1 l0_1.length c0_1, .slice A0_2 l0_2.length c0_2] 27 (0, 0)) (by (with_reducible repeat (first | refine bN ?_ _ | refine bD ?_ | refine bA ?_ _)); exact BK227.out)) : gb228 ≠ gb227)); clear BK227; clear HB; have BK227 := n0_; have HB := n1_; have BK228 := n2_; have GW228 := n3_; have GE228 := n4_; have NB227_228 := n5_; have NB228_227 := n6_; clear n0_ n1_ n2_ n3_ n4_ n5_ n6_; clear hb hbox hg))
 (try simp only [Act.put, lA, lZ, lS])
 go_cut [16] (fun v16 wc => ∃ (kq : Nat) (x16_2 : Bool), v16 = .bool x16_2 ∧ Aside0 (impl_SigsBlock.j0 kq l1 x16_2 l0_0 l0_1 l0_2 = some (r1, r2, r3, r4)) ∧ Aside0 (kq ≤ k) ∧ Aside0 (wc.heap[gb227]? = some (.cells #[(.slice A0_0 l0_0.length c0_0), (.slice A0_1 l0_1.length c0_1), (.slice A0_2 l0_2.length c0_2)] 27 (0, 0))) ∧ Aside0 (wc.heap[gb228]? = some (.cells #[(.slice none 0 0), (.slice none 0 0), (.slice none 0 0)] 27 (0, 0))) ∧ Aside0 (Below w.heap.size w wc))
 case first =>
  have H := HC3.out
  clear HC3
  replace H := Option.bind_eq_some_iff.mp H
  obtain ⟨t229, A60, H⟩ := H
  replace H : (if t229 = true then (impl_SigsBlock.j0 k l1 ((l1.length : Int) != 8) l0_0 l0_1 l0_2) else (impl_SigsBlock.j0 k l1 true l0_0 l0_1 l0_2)) = some (r1, r2, r3, r4) := H
  have A6 := Am A60
  clear A60
  by_cases c7 : t229 = true
  ·subst c7
   have H1 : (impl_SigsBlock.j0 k l1 ((l1.length : Int) != 8) l0_0 l0_1 l0_2) = some (r1, r2, r3, r4) := by rw [if_pos rfl] at H; exact H
   clear H
   have H := H1
   clear H1
   have H' := Am H
   clear H
   have hnb8 := NB227_228.out
   have hnc8 := NB228_227.out
   have hcz9_0 : w5.cell? ⟨gb227, 0, none⟩ = some (.slice A0_0 l0_0.length c0_0) := (bC BK227.out 0).trans rfl
   have hcz9_1 : w5.cell? ⟨gb227, 1, none⟩ = some (.slice A0_1 l0_1.length c0_1) := (bC BK227.out 1).trans rfl
   have hcz9_2 : w5.cell? ⟨gb227, 2, none⟩ = some (.slice A0_2 l0_2.length c0_2) := (bC BK227.out 2).trans rfl
   have hfz9_0 := bF BK227.out 0
   have hfz9_1 := bF BK227.out 1
   have hfz9_2 := bF BK227.out 2
   go_wp2_with (first | ((with_reducible refine gate_callee (f := 59) rfl ?_); refine goesL_ (some 10) rfl rfl Try.func59 (by kernel_rfl) rfl #[.agg #[.slice A0_0 l0_0.length c0_0, .slice A0_1 l0_1.length c0_1, .slice A0_2 l0_2.length c0_2]] rfl (by (try simp only [lM, lC, lN]); first | done | rfl | (simp only [lD, lT]; rfl)) ?_; (with_reducible refine (impl_SigsOk.calls k _ _ l0_0 _ _ l0_1 _ _ l0_2 true _ ?side1 ?side2 ?side3 ?side4 ?side5 ?side6 A6.out).mono ?_); (case side1 => repeat (first | exact (cB HR0_0.out HB.out) | (with_reducible refine cA ?_ _) | (with_reducible refine cN ?_ _) | (with_reducible refine cD ?_))); (case side2 => exact HC0_0.out); (case side3 => repeat (first | exact (cB HR0_1.out HB.out) | (with_reducible refine cA ?_ _) | (with_reducible refine cN ?_ _) | (with_reducible refine cD ?_))); (case side4 => exact HC0_1.out); (case side5 => repeat (first | exact (cB HR0_2.out HB.out) | (with_reducible refine cA ?_ _) | (with_reducible refine cN ?_ _) | (with_reducible refine cD ?_))); (case side6 => exact HC0_2.out); rintro e w10 ⟨rfl, hb⟩; refine ⟨_, rfl, ?_⟩; have n0_ := Am (bB (g := gb227) (o := .cells #[.slice A0_0 l0_0.length c0_0, .slice A0_1 l0_1.length c0_1, .slice A0_2 l0_2.length c0_2] 27 (0, 0)) (by (with_reducible repeat (first | refine bN ?_ _ | refine bD ?_ | refine bA ?_ _)); exact BK227.out) hb); have n1_ := Am (bB (g := gb228) (o := .cells #[.slice none 0 0, .slice none 0 0, .slice none 0 0] 27 (0, 0)) (by (with_reducible repeat (first | refine bN ?_ _ | refine bD ?_ | refine bA ?_ _)); exact BK228.out) hb); have n2_ := Am (bP (by repeat (first | (with_reducible first | exact HB.out | apply oA | apply pN | apply o1 | refine bS ?_ GE227.out | refine bS ?_ GE228.out) | exact HB.out)) hb); clear BK227; clear BK228; clear HB; have BK227 := n0_; have BK228 := n1_; have HB := n2_; clear n0_ n1_ n2_; (try clear hb); (try clear hb2); (try clear hk); (try clear hi)))
   go_meet
   case rel => exact ⟨_, (((l1.length : Int) != 8)), (by first | rfl | (simp; done) | (simp [*]; done)), H', ⟨by first | omega | exact Nat.le_refl _⟩, ⟨by (with_reducible repeat (first | refine bN ?_ _ | refine bD ?_ | refine bA ?_ _)); exact BK227.out⟩, ⟨by (with_reducible repeat (first | refine bN ?_ _ | refine bD ?_ | refine bA ?_ _)); exact BK228.out⟩, ⟨by repeat (first | (with_reducible first | exact HB.out | apply oA | apply pN | apply o1 | refine bS ?_ GE227.out | refine bS ?_ GE228.out) | exact HB.out)⟩⟩
  ·replace c7 := Bool.eq_false_iff.mpr c7
   subst c7
   have H1 : (impl_SigsBlock.j0 k l1 true l0_0 l0_1 l0_2) = some (r1, r2, r3, r4) := by rw [if_neg (show ¬ (false = true) by decide)] at H; exact H
   clear H
   have H := H1
   clear H1
   have H' := Am H
   clear H
   have hnb11 := NB227_228.out
   have hnc11 := NB228_227.out
   have hcz12_0 : w5.cell? ⟨gb227, 0, none⟩ = some (.slice A0_0 l0_0.length c0_0) := (bC BK227.out 0).trans rfl
   have hcz12_1 : w5.cell? ⟨gb227, 1, none⟩ = some (.slice A0_1 l0_1.length c0_1) := (bC BK227.out 1).trans rfl
   have hcz12_2 : w5.cell? ⟨gb227, 2, none⟩ = some (.slice A0_2 l0_2.length c0_2) := (bC BK227.out 2).trans rfl
   have hfz12_0 := bF BK227.out 0
   have hfz12_1 := bF BK227.out 1
   have hfz12_2 := bF BK227.out 2
   go_wp2_with (first | ((with_reducible refine gate_callee (f := 59) rfl ?_); refine goesL_ (some 10) rfl rfl Try.func59 (by kernel_rfl) rfl #[.agg #[.slice A0_0 l0_0.length c0_0, .slice A0_1 l0_1.length c0_1, .slice A0_2 l0_2.length c0_2]] rfl (by (try simp only [lM, lC, lN]); first | done | rfl | (simp only [lD, lT]; rfl)) ?_; (with_reducible refine (impl_SigsOk.calls k _ _ l0_0 _ _ l0_1 _ _ l0_2 false _ ?side1 ?side2 ?side3 ?side4 ?side5 ?side6 A6.out).mono ?_); (case side1 => repeat (first | exact (cB HR0_0.out HB.out) | (with_reducible refine cA ?_ _) | (with_reducible refine cN ?_ _) | (with_reducible refine cD ?_))); (case side2 => exact HC0_0.out); (case side3 => repeat (first | exact (cB HR0_1.out HB.out) | (with_reducible refine cA ?_ _) | (with_reducible refine cN ?_ _) | (with_reducible refine cD ?_))); (case side4 => exact HC0_1.out); (case side5 => repeat (first | exact (cB HR0_2.out HB.out) | (with_reducible refine cA ?_ _) | (with_reducible refine cN ?_ _) | (with_reducible refine cD ?_))); (case side6 => exact HC0_2.out); rintro e w13 ⟨rfl, hb⟩; refine ⟨_, rfl, ?_⟩; have n0_ := Am (bB (g := gb227) (o := .cells #[.slice A0_0 l0_0.length c0_0, .slice A0_1 l0_1.length c0_1, .slice A0_2 l0_2.length c0_2] 27 (0, 0)) (by (with_reducible repeat (first | refine bN ?_ _ | refine bD ?_ | refine bA ?_ _)); exact BK227.out) hb); have n1_ := Am (bB (g := gb228) (o := .cells #[.slice none 0 0, .slice none 0 0, .slice none 0 0] 27 (0, 0)) (by (with_reducible repeat (first | refine bN ?_ _ | refine bD ?_ | refine bA ?_ _)); exact BK228.out) hb); have n2_ := Am (bP (by repeat (first | (with_reducible first | exact HB.out | apply oA | apply pN | apply o1 | refine bS ?_ GE227.out | refine bS ?_ GE228.out) | exact HB.out)) hb); clear BK227; clear BK228; clear HB; have BK227 := n0_; have BK228 := n1_; have HB := n2_; clear n0_ n1_ n2_; (try clear hb); (try clear hb2); (try clear hk); (try clear hi)))
   go_meet
   case rel => exact ⟨_, (true), (by first | rfl | (simp; done) | (simp [*]; done)), H', ⟨by first | omega | exact Nat.le_refl _⟩, ⟨by (with_reducible repeat (first | refine bN ?_ _ | refine bD ?_ | refine bA ?_ _)); exact BK227.out⟩, ⟨by (with_reducible repeat (first | refine bN ?_ _ | refine bD ?_ | refine bA ?_ _)); exact BK228.out⟩, ⟨by repeat (first | (with_reducible first | exact HB.out | apply oA | apply pN | apply o1 | refine bS ?_ GE227.out | refine bS ?_ GE228.out) | exact HB.out)⟩⟩
 case rest =>
  clear HC3
  try clear c1
  try clear c2
  try clear p2
  try clear c5
  try clear c7
  try clear c8
  try clear c11
  try clear hcz12_0
  try clear hcz12_1
  try clear hcz12_2
  try clear hcz9_0
  try clear hcz9_1
  try clear hcz9_2
  try clear hfz12_0
  try clear hfz12_1
  try clear hfz12_2
  try clear hfz9_0
  try clear hfz9_1
  try clear hfz9_2
  obtain ⟨kq, x16_2, rfl, HA, HJ2, BK227, BK228, HB⟩ := hcut
  cases kq with
  | zero => exact absurd HA.out (by simp [impl_SigsBlock.j0])
  | succ kj2 =>
   have H := HA.out
   clear HA
   simp only [impl_SigsBlock.j0] at H
   by_cases c14 : x16_2 = true
   ·subst c14
    have H1 : (some (([] : List Bool), ([] : List Bool), ([] : List Int), false)) = some (r1, r2, r3, r4) := by rw [if_pos rfl] at H; exact H
    clear H
    have H := H1
    clear H1
    simp only [Option.some.injEq, Prod.mk.injEq] at H
    obtain ⟨rfl, rfl, rfl, rfl⟩ := H
    have hnb15 := NB228_227.out
    have hnc15 := NB227_228.out
    have hcz16_0 : wc.cell? ⟨gb228, 0, none⟩ = some (.slice none 0 0) := (bC BK228.out 0).trans rfl
    have hcz16_1 : wc.cell? ⟨gb228, 1, none⟩ = some (.slice none 0 0) := (bC BK228.out 1).trans rfl
    have hcz16_2 : wc.cell? ⟨gb228, 2, none⟩ = some (.slice none 0 0) := (bC BK228.out 2).trans rfl
    have hfz16_0 := bF BK228.out 0
    have hfz16_1 := bF BK228.out 1
    have hfz16_2 := bF BK228.out 2
    go_wp2
    refine bodyPost_ret (results_ct rfl _ _ gb228 27 #[.slice none 0 0, .slice none 0 0, .slice none 0 0] (0, 0) _ rfl (by (with_reducible repeat (first | refine bN ?_ _ | refine bD ?_ | refine bA ?_ _)); refine blk_put (cs := #[.slice none 0 0, .slice none 0 0, .slice none 0 0]) ?_ 2 _ rfl; (with_reducible repeat (first | refine bN ?_ _ | refine bD ?_ | refine bA ?_ _)); refine blk_put (cs := #[.slice none 0 0, .slice none 0 0, .slice none 0 0]) ?_ 1 _ rfl; (with_reducible repeat (first | refine bN ?_ _ | refine bD ?_ | refine bA ?_ _)); refine blk_put (cs := #[.slice none 0 0, .slice none 0 0, .slice none 0 0]) ?_ 0 _ rfl; (with_reducible repeat (first | refine bN ?_ _ | refine bD ?_ | refine bA ?_ _)); exact BK228.out) Try.underlying27 rfl (by kernel_rfl)) rfl ?_
    exact ⟨_, _, _, by first | rfl | (simp [errW_none, errW_some] <;> rfl) | (simp [*, errW_none, errW_some] <;> rfl), by first | exact Kd.R_nil _ _ _ _ _ | exact Kd.N_nil _ _ _ _ _ | exact Kd.V_nil _ _ _ _ _ | exact Kd.Q_nil _ _ _ _ _ | exact Kd.S_nil _ _ _ _ _, by first | exact Kd.R_nil _ _ _ _ _ | exact Kd.N_nil _ _ _ _ _ | exact Kd.V_nil _ _ _ _ _ | exact Kd.Q_nil _ _ _ _ _ | exact Kd.S_nil _ _ _ _ _, by first | exact Kd.R_nil _ _ _ _ _ | exact Kd.N_nil _ _ _ _ _ | exact Kd.V_nil _ _ _ _ _ | exact Kd.Q_nil _ _ _ _ _ | exact Kd.S_nil _ _ _ _ _, by repeat (first | (with_reducible first | exact HB.out | apply oA | apply pN | apply o1 | refine bS ?_ GE227.out | refine bS ?_ GE228.out) | exact HB.out)⟩
   ·replace c14 := Bool.eq_false_iff.mpr c14
    subst c14
    have H1 : ((impl_Sigs_clone.f l0_0 l0_1 l0_2).bind fun bt230 => (impl_SigsBlock.l0 kj2 l1 (l1.length : Int) 0 bt230.1 bt230.2.1 bt230.2.2)) = some (r1, r2, r3, r4) := by rw [if_neg (show ¬ (false = true) by decide)] at H; exact H
    clear H
    have H := H1
    clear H1
    replace H := Option.bind_eq_some_iff.mp H
    obtain ⟨⟨t230, t233, t236⟩, A170, H⟩ := H
    replace H : (impl_SigsBlock.l0 kj2 l1 (l1.length : Int) 0 t230 t233 t236) = some (r1, r2, r3, r4) := H
    have A17 := Am A170
    clear A170
    have H' := Am H
    clear H
    have hnb18 := NB227_228.out
    have hnc18 := NB228_227.out
    have hcz19_0 : wc.cell? ⟨gb227, 0, none⟩ = some (.slice A0_0 l0_0.length c0_0) := (bC BK227.out 0).trans rfl
    have hcz19_1 : wc.cell? ⟨gb227, 1, none⟩ = some (.slice A0_1 l0_1.length c0_1) := (bC BK227.out 1).trans rfl
    have hcz19_2 : wc.cell? ⟨gb227, 2, none⟩ = some (.slice A0_2 l0_2.length c0_2) := (bC BK227.out 2).trans rfl
    have hfz19_0 := bF BK227.out 0
    have hfz19_1 := bF BK227.out 1
    have hfz19_2 := bF BK227.out 2
    go_wp2_with (first | ((with_reducible refine gate_callee (f := 60) rfl ?_); refine goesL_ (some 19) rfl rfl Try.func60 (by kernel_rfl) rfl #[.agg #[.slice A0_0 l0_0.length c0_0, .slice A0_1 l0_1.length c0_1, .slice A0_2 l0_2.length c0_2]] rfl (by (try simp only [lM, lC, lN]); first | done | rfl | (simp only [lD, lT]; rfl)) ?_; (with_reducible refine (impl_Sigs_clone.calls _ _ l0_0 _ _ l0_1 _ _ l0_2 t230 t233 t236 _ ?side1 ?side2 ?side3 ?side4 ?side5 ?side6 A17.out).mono ?_); (case side1 => repeat (first | exact (cB HR0_0.out HB.out) | (with_reducible refine cA ?_ _) | (with_reducible refine cN ?_ _) | (with_reducible refine cD ?_))); (case side2 => exact HC0_0.out); (case side3 => repeat (first | exact (cB HR0_1.out HB.out) | (with_reducible refine cA ?_ _) | (with_reducible refine cN ?_ _) | (with_reducible refine cD ?_))); (case side4 => exact HC0_1.out); (case side5 => repeat (first | exact (cB HR0_2.out HB.out) | (with_reducible refine cA ?_ _) | (with_reducible refine cN ?_ _) | (with_reducible refine cD ?_))); (case side6 => exact HC0_2.out); rintro e w20 ⟨v231, v234, v237, rfl, ho0, ho1, ho2, hb⟩; refine ⟨_, rfl, ?_⟩; have n0_ := Am (Kd.R_lower ho0 (bZ (by repeat (first | (with_reducible first | exact HB.out | apply oA | apply pN | apply o1 | refine bS ?_ GE227.out | refine bS ?_ GE228.out) | exact HB.out)))); have n1_ := Am (Kd.R_lower ho1 (bZ (by repeat (first | (with_reducible first | exact HB.out | apply oA | apply pN | apply o1 | refine bS ?_ GE227.out | refine bS ?_ GE228.out) | exact HB.out)))); have n2_ := Am (Kd.R_lower ho2 (bZ (by repeat (first | (with_reducible first | exact HB.out | apply oA | apply pN | apply o1 | refine bS ?_ GE227.out | refine bS ?_ GE228.out) | exact HB.out)))); have n3_ := Am (bB (g := gb227) (o := .cells #[.slice A0_0 l0_0.length c0_0, .slice A0_1 l0_1.length c0_1, .slice A0_2 l0_2.length c0_2] 27 (0, 0)) (by (with_reducible repeat (first | refine bN ?_ _ | refine bD ?_ | refine bA ?_ _)); exact BK227.out) hb); have n4_ := Am (bB (g := gb228) (o := .cells #[.slice none 0 0, .slice none 0 0, .slice none 0 0] 27 (0, 0)) (by (with_reducible repeat (first | refine bN ?_ _ | refine bD ?_ | refine bA ?_ _)); exact BK228.out) hb); have n5_ := Am (bP (by repeat (first | (with_reducible first | exact HB.out | apply oA | apply pN | apply o1 | refine bS ?_ GE227.out | refine bS ?_ GE228.out) | exact HB.out)) hb); clear BK227; clear BK228; clear HB; have HO232 := n0_; have HO235 := n1_; have HO238 := n2_; have BK227 := n3_; have BK228 := n4_; have HB := n5_; clear n0_ n1_ n2_ n3_ n4_ n5_; (try clear hb); (try clear hb2); (try clear hk); (try clear hi); (try clear ho0); (try clear ho1); (try clear ho2)) | ((with_reducible refine gate_dst (N := 6) rfl ?_); (try (refine gate_guard (by rfl) ?_; dsimp only)); refine box_event ?hg (N := 6) ?hd (cs := #[.slice none 0 0, .slice none 0 0, .slice none 0 0]) (t := 27) ?hr ?_; (case hd => rfl); (case hg => rfl); (case hr => first | (go_simp; done) | (go_simp; rfl)); intro gb239 hg w21 hbox hb; have n0_ := Am (rB (by (with_reducible repeat (first | apply rA | apply rN | apply rD)); exact HO232.out) hb); have n1_ := Am (rB (by (with_reducible repeat (first | apply rA | apply rN | apply rD)); exact HO235.out) hb); have n2_ := Am (rB (by (with_reducible repeat (first | apply rA | apply rN | apply rD)); exact HO238.out) hb); have n3_ := Am (bB (g := gb227) (o := .cells #[.slice A0_0 l0_0.length c0_0, .slice A0_1 l0_1.length c0_1, .slice A0_2 l0_2.length c0_2] 27 (0, 0)) (by (with_reducible repeat (first | refine bN ?_ _ | refine bD ?_ | refine bA ?_ _)); exact BK227.out) hb); have n4_ := Am (bB (g := gb228) (o := .cells #[.slice none 0 0, .slice none 0 0, .slice none 0 0] 27 (0, 0)) (by (with_reducible repeat (first | refine bN ?_ _ | refine bD ?_ | refine bA ?_ _)); exact BK228.out) hb); have n5_ := Am (bP (by repeat (first | (with_reducible first | exact HB.out | apply oA | apply pN | apply o1 | refine bS ?_ GE227.out | refine bS ?_ GE228.out) | exact HB.out)) hb); have n6_ := Am (hbox); have n7_ := Am ((by rw [hg]; exact (bZ (by repeat (first | (with_reducible first | exact HB.out | apply oA | apply pN | apply o1 | refine bS ?_ GE227.out | refine bS ?_ GE228.out) | exact HB.out))) : w.heap.size ≤ gb239)); have n8_ := Am ((by rw [hg]; exact (bZ (by repeat (first | (with_reducible first | exact HB.out | apply oA | apply pN | apply o1 | refine bS ?_ GE227.out | refine bS ?_ GE228.out) | exact HB.out))) : w.heap.size ≤ gb239)); have n9_ := Am ((by rw [hg]; exact Nat.ne_of_lt (blk_lt (g := gb227) (o := .cells #[.slice A0_0 l0_0.length c0_0, .slice A0_1 l0_1.length c0_1, .slice A0_2 l0_2.length c0_2] 27 (0, 0)) (by (with_reducible repeat (first | refine bN ?_ _ | refine bD ?_ | refine bA ?_ _)); exact BK227.out)) : gb227 ≠ gb239)); have n10_ := Am ((by rw [hg]; exact Nat.ne_of_gt (blk_lt (g := gb227) (o := .cells #[.slice A0_0 l0_0.length c0_0, .slice A0_1 l0_1.length c0_1, .slice A0_2 l0_2.length c0_2] 27 (0, 0)) (by (with_reducible repeat (first | refine bN ?_ _ | refine bD ?_ | refine bA ?_ _)); exact BK227.out)) : gb239 ≠ gb227)); have n11_ := Am ((by rw [hg]; exact Nat.ne_of_lt (blk_lt (g := gb228) (o := .cells #[.slice none 0 0, .slice none 0 0, .slice none 0 0] 27 (0, 0)) (by (with_reducible repeat (first | refine bN ?_ _ | refine bD ?_ | refine bA ?_ _)); exact BK228.out)) : gb228 ≠ gb239)); have n12_ := Am ((by rw [hg]; exact Nat.ne_of_gt (blk_lt (g := gb228) (o := .cells #[.slice none 0 0, .slice none 0 0, .slice none 0 0] 27 (0, 0)) (by (with_reducible repeat (first | refine bN ?_ _ | refine bD ?_ | refine bA ?_ _)); exact BK228.out)) : gb239 ≠ gb228)); clear HO232; clear HO235; clear HO238; clear BK227; clear BK228; clear HB; have HO232 := n0_; have HO235 := n1_; have HO238 := n2_; have BK227 := n3_; have BK228 := n4_; have HB := n5_; have BK239 := n6_; have GW239 := n7_; have GE239 := n8_; have NB227_239 := n9_; have NB239_227 := n10_; have NB228_239 := n11_; have NB239_228 := n12_; clear n0_ n1_ n2_ n3_ n4_ n5_ n6_ n7_ n8_ n9_ n10_ n11_ n12_; clear hb hbox hg; obtain ⟨Ao22, co22, eo22⟩ := Kd.R_slice HO232.out; subst eo22; have hnb23 := NB239_227.out; have hnc23 := NB227_239.out; have hnb24 := NB239_228.out; have hnc24 := NB228_239.out; have hcz25_0 : w21.cell? ⟨gb239, 0, none⟩ = some (.slice none 0 0) := (bC BK239.out 0).trans rfl; have hcz25_1 : w21.cell? ⟨gb239, 1, none⟩ = some (.slice none 0 0) := (bC BK239.out 1).trans rfl; have hcz25_2 : w21.cell? ⟨gb239, 2, none⟩ = some (.slice none 0 0) := (bC BK239.out 2).trans rfl; have hfz25_0 := bF BK239.out 0; have hfz25_1 := bF BK239.out 1; have hfz25_2 := bF BK239.out 2; obtain ⟨Ao26, co26, eo26⟩ := Kd.R_slice HO235.out; subst eo26; obtain ⟨Ao27, co27, eo27⟩ := Kd.R_slice HO238.out; subst eo27))
    go_loopg [22] kj2 (fun kq v22 w' => ∃ (x22_2 : Int) (x240000_2 : List Bool) (x240001_2 : List Bool) (u240000 : Value) (u240001 : Value), v22 = .int .i64 x22_2 ∧ Aside0 (impl_SigsBlock.l0 kq l1 (l1.length : Int) x22_2 x240000_2 x240001_2 t236 = some (r1, r2, r3, r4)) ∧ Aside0 (kq ≤ kj2) ∧ Aside0 (Kd.R Kd.bool 4 w' w.heap.size (fun k_ => some k_ ≠ (u240001 : Value).ownBlock) u240000 x240000_2) ∧ Aside0 (Kd.R Kd.bool 4 w' w.heap.size (fun k_ => some k_ ≠ (u240000 : Value).ownBlock) u240001 x240001_2) ∧ Aside0 (Kd.R (Kd.int .i64) 3 w' w.heap.size (fun _ => True) (.slice Ao27 t236.length co27) t236) ∧ Aside0 (w'.heap[gb227]? = some (.cells #[(.slice A0_0 l0_0.length c0_0), (.slice A0_1 l0_1.length c0_1), (.slice A0_2 l0_2.length c0_2)] 27 (0, 0))) ∧ Aside0 (w'.heap[gb228]? = some (.cells #[(.slice none 0 0), (.slice none 0 0), (.slice none 0 0)] 27 (0, 0))) ∧ Aside0 (w'.heap[gb239]? = some (.cells #[u240000, u240001, (.slice Ao27 t236.length co27)] 27 (0, 0))) ∧ Aside0 (Below w.heap.size w w'))
    case atStart => exact ⟨(0), (t230), (t233), (.slice Ao22 t230.length co22), (.slice Ao26 t233.length co26), (by first | rfl | (simp; done) | (simp [*]; done)), H', ⟨Nat.le_refl _⟩, ⟨by (with_reducible repeat (first | apply rA | apply rN | apply rD)); exact rM (rF (p := ⟨gb239, 2, none⟩) (rF (p := ⟨gb239, 1, none⟩) (rF (p := ⟨gb239, 0, none⟩) (rT HO232.out BK239.out (by decide)) (fun _ hk => hk.2) (.slice Ao22 t230.length co22)) (fun _ hk => hk.2) (.slice Ao26 t233.length co26)) (fun _ hk => hk.2) (.slice Ao27 t236.length co27)) (fun _ hk => hk.1)⟩, ⟨by (with_reducible repeat (first | apply rA | apply rN | apply rD)); exact rM (rF (p := ⟨gb239, 2, none⟩) (rF (p := ⟨gb239, 1, none⟩) (rF (p := ⟨gb239, 0, none⟩) (rT HO235.out BK239.out (by decide)) (fun _ hk => hk.2) (.slice Ao22 t230.length co22)) (fun _ hk => hk.2) (.slice Ao26 t233.length co26)) (fun _ hk => hk.2) (.slice Ao27 t236.length co27)) (fun _ hk => hk.1)⟩, ⟨by (with_reducible repeat (first | apply rA | apply rN | apply rD)); exact rM (rF (p := ⟨gb239, 2, none⟩) (rF (p := ⟨gb239, 1, none⟩) (rF (p := ⟨gb239, 0, none⟩) (rT HO238.out BK239.out (by decide)) (fun _ hk => hk.2) (.slice Ao22 t230.length co22)) (fun _ hk => hk.2) (.slice Ao26 t233.length co26)) (fun _ hk => hk.2) (.slice Ao27 t236.length co27)) (fun _ hk => trivial)⟩, ⟨by (with_reducible repeat (first | refine bN ?_ _ | refine bD ?_ | refine bA ?_ _)); refine blk_far ?_ NB227_239.out _; (with_reducible repeat (first | refine bN ?_ _ | refine bD ?_ | refine bA ?_ _)); refine blk_far ?_ NB227_239.out _; (with_reducible repeat (first | refine bN ?_ _ | refine bD ?_ | refine bA ?_ _)); refine blk_far ?_ NB227_239.out _; (with_reducible repeat (first | refine bN ?_ _ | refine bD ?_ | refine bA ?_ _)); exact BK227.out⟩, ⟨by (with_reducible repeat (first | refine bN ?_ _ | refine bD ?_ | refine bA ?_ _)); refine blk_far ?_ NB228_239.out _; (with_reducible repeat (first | refine bN ?_ _ | refine bD ?_ | refine bA ?_ _)); refine blk_far ?_ NB228_239.out _; (with_reducible repeat (first | refine bN ?_ _ | refine bD ?_ | refine bA ?_ _)); refine blk_far ?_ NB228_239.out _; (with_reducible repeat (first | refine bN ?_ _ | refine bD ?_ | refine bA ?_ _)); exact BK228.out⟩, ⟨by (with_reducible repeat (first | refine bN ?_ _ | refine bD ?_ | refine bA ?_ _)); refine blk_put (cs := #[.slice Ao22 t230.length co22, .slice Ao26 t233.length co26, .slice none 0 0]) ?_ 2 _ rfl; (with_reducible repeat (first | refine bN ?_ _ | refine bD ?_ | refine bA ?_ _)); refine blk_put (cs := #[.slice Ao22 t230.length co22, .slice none 0 0, .slice none 0 0]) ?_ 1 _ rfl; (with_reducible repeat (first | refine bN ?_ _ | refine bD ?_ | refine bA ?_ _)); refine blk_put (cs := #[.slice none 0 0, .slice none 0 0, .slice none 0 0]) ?_ 0 _ rfl; (with_reducible repeat (first | refine bN ?_ _ | refine bD ?_ | refine bA ?_ _)); exact BK239.out⟩, ⟨by repeat (first | (with_reducible first | exact HB.out | apply oA | apply pN | apply o1 | refine bS ?_ GE227.out | refine bS ?_ GE228.out | refine bS ?_ GE239.out) | exact HB.out)⟩⟩
    case round =>
     clear H'
     try clear c1
     try clear c2
     try clear p2
     try clear c5
     try clear c6
     try clear c7
     try clear c8
     try clear c11
     try clear c14
     try clear c15
     try clear c18
     try clear c22
     try clear c23
     try clear c24
     try clear hcz12_0
     try clear hcz12_1
     try clear hcz12_2
     try clear hcz16_0
     try clear hcz16_1
     try clear hcz16_2
     try clear hcz19_0
     try clear hcz19_1
     try clear hcz19_2
     try clear hcz25_0
     try clear hcz25_1
     try clear hcz25_2
     try clear hcz9_0
     try clear hcz9_1
     try clear hcz9_2
     try clear hfz12_0
     try clear hfz12_1
     try clear hfz12_2
     try clear hfz16_0
     try clear hfz16_1
     try clear hfz16_2
     try clear hfz19_0
     try clear hfz19_1
     try clear hfz19_2
     try clear hfz25_0
     try clear hfz25_1
     try clear hfz25_2
     try clear hfz9_0
     try clear hfz9_1
     try clear hfz9_2
     try clear p2
     obtain ⟨x22_2, x240000_2, x240001_2, u240000, u240001, rfl, HA, HK2, HO_240000, HO_240001, HO_240002, BK227, BK228, BK239, HB⟩ := hrel
     cases gk with
     | zero => exact absurd HA.out (by simp [impl_SigsBlock.l0])
     | succ k2 =>
      have H := HA.out
      clear HA
      simp only [impl_SigsBlock.l0] at H
      by_cases c28 : x22_2 < (l1.length : Int)
      ·rw [if_pos c28] at H
       have c28b0 : decide (x22_2 < (l1.length : Int)) = true := decide_eq_true c28
       clear c28
       by_cases c29 : 0 ≤ x22_2
       ·rw [if_pos c29] at H
        have c29b0 : decide (0 ≤ x22_2) = true := decide_eq_true c29
        clear c29
        by_cases c30 : x22_2 < (l1.length : Int)
        ·rw [if_pos c30] at H
         have c30b0 : decide (x22_2 < (l1.length : Int)) = true := decide_eq_true c30
         clear c30
         obtain ⟨bq31, hbq31⟩ : ∃ b_ : Bool, b_ = (rdOf false l1 x22_2) := ⟨_, rfl⟩
         replace H : (if bq31 = true then (if (wrap64 (x22_2 + 1)) = 1 then (if x22_2 < (x240001_2.length : Int) then (impl_SigsBlock.l0 k2 l1 (l1.length : Int) (wrap64 (x22_2 + 1)) x240000_2 (x240001_2.set (x22_2 : Int).toNat false) t236) else (none)) else (if x22_2 < (x240001_2.length : Int) then (impl_SigsBlock.l0 k2 l1 (l1.length : Int) (wrap64 (x22_2 + 1)) x240000_2 (x240001_2.set (x22_2 : Int).toNat ((wrap64 (x22_2 + 1)) != 2)) t236) else (none))) else (if x22_2 < (x240001_2.length : Int) then (impl_SigsBlock.l0 k2 l1 (l1.length : Int) (wrap64 (x22_2 + 1)) x240000_2 (x240001_2.set (x22_2 : Int).toNat false) t236) else (none))) = some (r1, r2, r3, r4) := by rw [← hbq31] at H; exact H
         have Nbq31 := Am hbq31
         clear hbq31
         by_cases c32 : bq31 = true
         ·subst c32
          have H1 : (if (wrap64 (x22_2 + 1)) = 1 then (if x22_2 < (x240001_2.length : Int) then (impl_SigsBlock.l0 k2 l1 (l1.length : Int) (wrap64 (x22_2 + 1)) x240000_2 (x240001_2.set (x22_2 : Int).toNat false) t236) else (none)) else (if x22_2 < (x240001_2.length : Int) then (impl_SigsBlock.l0 k2 l1 (l1.length : Int) (wrap64 (x22_2 + 1)) x240000_2 (x240001_2.set (x22_2 : Int).toNat ((wrap64 (x22_2 + 1)) != 2)) t236) else (none))) = some (r1, r2, r3, r4) := by rw [if_pos rfl] at H; exact H
          clear H
          have H := H1
          clear H1
          by_cases c33 : (wrap64 (x22_2 + 1)) = 1
          ·rw [if_pos c33] at H
           have c33b0 : ((wrap64 (x22_2 + 1)) == 1) = true := beq_iff_eq.mpr c33
           have c33b1 : ((wrap64 (x22_2 + 1)) != 1) = false := bne_eq_false_iff_eq.mpr c33
           clear c33
           by_cases c34 : x22_2 < (x240001_2.length : Int)
           ·rw [if_pos c34] at H
            have c34b0 : decide (x22_2 < (x240001_2.length : Int)) = true := decide_eq_true c34
            clear c34
            obtain ⟨y241, hy241⟩ : ∃ y_ : List Bool, y_ = (x240001_2.set (x22_2 : Int).toNat false) := ⟨_, rfl⟩
            replace H : (impl_SigsBlock.l0 k2 l1 (l1.length : Int) (wrap64 (x22_2 + 1)) x240000_2 y241 t236) = some (r1, r2, r3, r4) := by first | (rw [hy241]; with_reducible exact H) | (have H2_ := (Option.bind_some _ _).symm.trans H; rw [hy241]; with_reducible exact H2_) | (have H2_ := (Option.bind_some _ _).symm.trans H; with_reducible exact H2_) | with_reducible exact H | (rw [hy241]; exact H) | exact H
            have Ny241 := Am hy241
            clear hy241
            have H' := Am H
            clear H
            have p240 : 0 ≤ (x22_2 : Int) := of_decide_eq_true (by first | (with_reducible assumption) | assumption)
            have q240 : x22_2 < (l1.length : Int) := of_decide_eq_true (by first | (with_reducible assumption) | assumption)
            obtain ⟨ad240, e240, hx240_0⟩ := Kd.at_bool HR1.out x22_2 p240 q240
            (try rw [← Nbq31.out] at hx240_0)
            cases e240
            replace hx240_0 := (HB.out.cell (World.block_lt_of_cell? w _ hx240_0)).trans hx240_0
            replace p240 := eq_true p240
            replace q240 := eq_true q240
            have hnb36 := NB239_227.out
            have hnc36 := NB227_239.out
            have hnb37 := NB239_228.out
            have hnc37 := NB228_239.out
            have hcz38_0 : wr.cell? ⟨gb239, 0, none⟩ = some (u240000) := (bC BK239.out 0).trans rfl
            have hcz38_1 : wr.cell? ⟨gb239, 1, none⟩ = some (u240001) := (bC BK239.out 1).trans rfl
            have hcz38_2 : wr.cell? ⟨gb239, 2, none⟩ = some (.slice Ao27 t236.length co27) := (bC BK239.out 2).trans rfl
            have hfz38_0 := bF BK239.out 0
            have hfz38_1 := bF BK239.out 1
            have hfz38_2 := bF BK239.out 2
            have p35 : 0 ≤ (x22_2 : Int) := of_decide_eq_true (by first | (with_reducible assumption) | assumption)
            have q35 : (x22_2 : Int) < ((x240001_2.length : Int) : Int) := of_decide_eq_true (by first | (with_reducible assumption) | assumption)
            obtain ⟨go35, co35, eo35, gb35, gl35, cl35, HG35⟩ := Kd.R_form HO_240001.out (by omega)
            (first | cases eo35 | (injection eo35 with ea_ en_ ec_; (first | subst ea_ | (injection ea_ with ea_; subst ea_)); subst ec_; clear en_))
            have GB35 := Am gb35
            have GG35 := Am HG35
            clear gb35 gl35 HG35
            obtain ⟨hx35_0, hf35_0⟩ := Kd.R_celln false HO_240001.out (x22_2 : Int) p35 q35
            replace p35 := eq_true p35
            replace q35 := eq_true q35
            have HP39 := Kd.R_putg HO_240001.out (x22_2 : Int) false
            go_wp2_with (first | ((with_reducible refine gate_store (t := 4) (p := 41) rfl ?_); refine store_event (t := 4) (p := 41) (v := ?vo_w40) (w1 := (wr.setCell ⟨go35, (x22_2 : Int).toNat, none⟩ (.bool false))) ?hg ?ho ?hn ?hr ?_; (case ho => rfl); (case hg => rfl); (case hn => rfl); (case hr => first | (go_simp; done) | (go_simp; rfl)); intro w40 hw; have hg : wr.grownBy w40 (some go35) := (by rw [hw]; exact HP39.2); have hp_ : Kd.R Kd.bool 4 w40 w.heap.size (fun k_ => some k_ ≠ (u240000 : Value).ownBlock) (.slice (some ⟨go35, 0, none⟩) x240001_2.length co35) y241 := (by rw [hw, Ny241.out]; exact HP39.1); clear HP39; have n0_ := Am (Kd.R_after (v := (.slice (some ⟨go35, 0, none⟩) x240001_2.length co35)) (v1 := (.slice (some ⟨go35, 0, none⟩) x240001_2.length co35)) (ok := (fun _ => True)) (by (with_reducible repeat (first | apply rA | apply rN | apply rD)); exact rM HO_240000.out (fun _ hk => ⟨trivial, hk⟩)) hg (.inl rfl)); have n1_ := Am (hp_); have n2_ := Am (Kd.R_over' (v := (.slice (some ⟨go35, 0, none⟩) x240001_2.length co35)) (by (with_reducible repeat (first | apply rA | apply rN | apply rD)); exact HO_240002.out) (Kd.R_typed HO_240001.out) (by decide) hg); have n3_ := Am (blk_grown (g := gb227) (o := .cells #[.slice A0_0 l0_0.length c0_0, .slice A0_1 l0_1.length c0_1, .slice A0_2 l0_2.length c0_2] 27 (0, 0)) (by (with_reducible repeat (first | refine bN ?_ _ | refine bD ?_ | refine bA ?_ _)); exact BK227.out) hg (Kd.R_ne HO_240001.out BK227.out (by decide))); have n4_ := Am (blk_grown (g := gb228) (o := .cells #[.slice none 0 0, .slice none 0 0, .slice none 0 0] 27 (0, 0)) (by (with_reducible repeat (first | refine bN ?_ _ | refine bD ?_ | refine bA ?_ _)); exact BK228.out) hg (Kd.R_ne HO_240001.out BK228.out (by decide))); have n5_ := Am (blk_grown (g := gb239) (o := .cells #[u240000, .slice (some ⟨go35, 0, none⟩) x240001_2.length co35, .slice Ao27 t236.length co27] 27 (0, 0)) (by (with_reducible repeat (first | refine bN ?_ _ | refine bD ?_ | refine bA ?_ _)); exact BK239.out) hg (Kd.R_ne HO_240001.out BK239.out (by decide))); have n6_ := Am ((by rw [hw]; exact bS (HB.out) GB35.out : Below w.heap.size w w40)); clear HO_240000; clear HO_240001; clear HO_240002; clear BK227; clear BK228; clear BK239; clear HB; have HO_240000 := n0_; have HO_240001 := n1_; have HO_240002 := n2_; have BK227 := n3_; have BK228 := n4_; have BK239 := n5_; have HB := n6_; clear n0_ n1_ n2_ n3_ n4_ n5_ n6_; clear hg hw hp_))
            go_roundg k2
            case measure => have := HJ2.out; have := HK2.out; omega
            case rel => exact ⟨(wrap64 (x22_2 + 1)), (x240000_2), (y241), (u240000), (.slice (some ⟨go35, 0, none⟩) x240001_2.length co35), (by first | rfl | (simp; done) | (simp [*]; done)), H', ⟨by have := HJ2.out; have := HK2.out; omega⟩, ⟨by (with_reducible repeat (first | apply rA | apply rN | apply rD)); exact rM HO_240000.out (fun _ hk => hk.2)⟩, ⟨by (with_reducible repeat (first | apply rA | apply rN | apply rD)); exact HO_240001.out⟩, ⟨by (with_reducible repeat (first | apply rA | apply rN | apply rD)); exact HO_240002.out⟩, ⟨by (with_reducible repeat (first | refine bN ?_ _ | refine bD ?_ | refine bA ?_ _)); exact BK227.out⟩, ⟨by (with_reducible repeat (first | refine bN ?_ _ | refine bD ?_ | refine bA ?_ _)); exact BK228.out⟩, ⟨by (with_reducible repeat (first | refine bN ?_ _ | refine bD ?_ | refine bA ?_ _)); exact BK239.out⟩, ⟨by repeat (first | (with_reducible first | exact HB.out | apply oA | apply pN | apply o1 | refine bS ?_ GE227.out | refine bS ?_ GE228.out | refine bS ?_ GE239.out) | exact HB.out)⟩⟩
           ·rw [if_neg c34] at H
            exact absurd H (by simp)
          ·rw [if_neg c33] at H
           have c33b0 : ((wrap64 (x22_2 + 1)) == 1) = false := beq_eq_false_iff_ne.mpr c33
           have c33b1 : ((wrap64 (x22_2 + 1)) != 1) = true := bne_iff_ne.mpr c33
           by_cases c41 : x22_2 < (x240001_2.length : Int)
           ·rw [if_pos c41] at H
            have c41b0 : decide (x22_2 < (x240001_2.length : Int)) = true := decide_eq_true c41
            clear c41
            obtain ⟨y242, hy242⟩ : ∃ y_ : List Bool, y_ = (x240001_2.set (x22_2 : Int).toNat ((wrap64 (x22_2 + 1)) != 2)) := ⟨_, rfl⟩
            replace H : (impl_SigsBlock.l0 k2 l1 (l1.length : Int) (wrap64 (x22_2 + 1)) x240000_2 y242 t236) = some (r1, r2, r3, r4) := by first | (rw [hy242]; with_reducible exact H) | (have H2_ := (Option.bind_some _ _).symm.trans H; rw [hy242]; with_reducible exact H2_) | (have H2_ := (Option.bind_some _ _).symm.trans H; with_reducible exact H2_) | with_reducible exact H | (rw [hy242]; exact H) | exact H
            have Ny242 := Am hy242
            clear hy242
            have H' := Am H
            clear H
            have p240 : 0 ≤ (x22_2 : Int) := of_decide_eq_true (by first | (with_reducible assumption) | assumption)
            have q240 : x22_2 < (l1.length : Int) := of_decide_eq_true (by first | (with_reducible assumption) | assumption)
            obtain ⟨ad240, e240, hx240_0⟩ := Kd.at_bool HR1.out x22_2 p240 q240
            (try rw [← Nbq31.out] at hx240_0)
            cases e240
            replace hx240_0 := (HB.out.cell (World.block_lt_of_cell? w _ hx240_0)).trans hx240_0
            replace p240 := eq_true p240
            replace q240 := eq_true q240
            have hnb43 := NB239_227.out
            have hnc43 := NB227_239.out
            have hnb44 := NB239_228.out
            have hnc44 := NB228_239.out
            have hcz45_0 : wr.cell? ⟨gb239, 0, none⟩ = some (u240000) := (bC BK239.out 0).trans rfl
            have hcz45_1 : wr.cell? ⟨gb239, 1, none⟩ = some (u240001) := (bC BK239.out 1).trans rfl
            have hcz45_2 : wr.cell? ⟨gb239, 2, none⟩ = some (.slice Ao27 t236.length co27) := (bC BK239.out 2).trans rfl
            have hfz45_0 := bF BK239.out 0
            have hfz45_1 := bF BK239.out 1
            have hfz45_2 := bF BK239.out 2
            have p42 : 0 ≤ (x22_2 : Int) := of_decide_eq_true (by first | (with_reducible assumption) | assumption)
            have q42 : (x22_2 : Int) < ((x240001_2.length : Int) : Int) := of_decide_eq_true (by first | (with_reducible assumption) | assumption)
            obtain ⟨go42, co42, eo42, gb42, gl42, cl42, HG42⟩ := Kd.R_form HO_240001.out (by omega)
            (first | cases eo42 | (injection eo42 with ea_ en_ ec_; (first | subst ea_ | (injection ea_ with ea_; subst ea_)); subst ec_; clear en_))
            have GB42 := Am gb42
            have GG42 := Am HG42
            clear gb42 gl42 HG42
            obtain ⟨hx42_0, hf42_0⟩ := Kd.R_celln false HO_240001.out (x22_2 : Int) p42 q42
            replace p42 := eq_true p42
            replace q42 := eq_true q42
            have HP46 := Kd.R_putg HO_240001.out (x22_2 : Int) ((wrap64 (x22_2 + 1)) != 2)
            go_wp2_with (first | ((with_reducible refine gate_store (t := 4) (p := 41) rfl ?_); refine store_event (t := 4) (p := 41) (v := ?vo_w47) (w1 := (wr.setCell ⟨go42, (x22_2 : Int).toNat, none⟩ (.bool ((wrap64 (x22_2 + 1)) != 2)))) ?hg ?ho ?hn ?hr ?_; (case ho => rfl); (case hg => rfl); (case hn => rfl); (case hr => first | (go_simp; done) | (go_simp; rfl)); intro w47 hw; have hg : wr.grownBy w47 (some go42) := (by rw [hw]; exact HP46.2); have hp_ : Kd.R Kd.bool 4 w47 w.heap.size (fun k_ => some k_ ≠ (u240000 : Value).ownBlock) (.slice (some ⟨go42, 0, none⟩) x240001_2.length co42) y242 := (by rw [hw, Ny242.out]; exact HP46.1); clear HP46; have n0_ := Am (Kd.R_after (v := (.slice (some ⟨go42, 0, none⟩) x240001_2.length co42)) (v1 := (.slice (some ⟨go42, 0, none⟩) x240001_2.length co42)) (ok := (fun _ => True)) (by (with_reducible repeat (first | apply rA | apply rN | apply rD)); exact rM HO_240000.out (fun _ hk => ⟨trivial, hk⟩)) hg (.inl rfl)); have n1_ := Am (hp_); have n2_ := Am (Kd.R_over' (v := (.slice (some ⟨go42, 0, none⟩) x240001_2.length co42)) (by (with_reducible repeat (first | apply rA | apply rN | apply rD)); exact HO_240002.out) (Kd.R_typed HO_240001.out) (by decide) hg); have n3_ := Am (blk_grown (g := gb227) (o := .cells #[.slice A0_0 l0_0.length c0_0, .slice A0_1 l0_1.length c0_1, .slice A0_2 l0_2.length c0_2] 27 (0, 0)) (by (with_reducible repeat (first | refine bN ?_ _ | refine bD ?_ | refine bA ?_ _)); exact BK227.out) hg (Kd.R_ne HO_240001.out BK227.out (by decide))); have n4_ := Am (blk_grown (g := gb228) (o := .cells #[.slice none 0 0, .slice none 0 0, .slice none 0 0] 27 (0, 0)) (by (with_reducible repeat (first | refine bN ?_ _ | refine bD ?_ | refine bA ?_ _)); exact BK228.out) hg (Kd.R_ne HO_240001.out BK228.out (by decide))); have n5_ := Am (blk_grown (g := gb239) (o := .cells #[u240000, .slice (some ⟨go42, 0, none⟩) x240001_2.length co42, .slice Ao27 t236.length co27] 27 (0, 0)) (by (with_reducible repeat (first | refine bN ?_ _ | refine bD ?_ | refine bA ?_ _)); exact BK239.out) hg (Kd.R_ne HO_240001.out BK239.out (by decide))); have n6_ := Am ((by rw [hw]; exact bS (HB.out) GB42.out : Below w.heap.size w w47)); clear HO_240000; clear HO_240001; clear HO_240002; clear BK227; clear BK228; clear BK239; clear HB; have HO_240000 := n0_; have HO_240001 := n1_; have HO_240002 := n2_; have BK227 := n3_; have BK228 := n4_; have BK239 := n5_; have HB := n6_; clear n0_ n1_ n2_ n3_ n4_ n5_ n6_; clear hg hw hp_))
            go_roundg k2
            case measure => have := HJ2.out; have := HK2.out; omega
            case rel => exact ⟨(wrap64 (x22_2 + 1)), (x240000_2), (y242), (u240000), (.slice (some ⟨go42, 0, none⟩) x240001_2.length co42), (by first | rfl | (simp; done) | (simp [*]; done)), H', ⟨by have := HJ2.out; have := HK2.out; omega⟩, ⟨by (with_reducible repeat (first | apply rA | apply rN | apply rD)); exact rM HO_240000.out (fun _ hk => hk.2)⟩, ⟨by (with_reducible repeat (first | apply rA | apply rN | apply rD)); exact HO_240001.out⟩, ⟨by (with_reducible repeat (first | apply rA | apply rN | apply rD)); exact HO_240002.out⟩, ⟨by (with_reducible repeat (first | refine bN ?_ _ | refine bD ?_ | refine bA ?_ _)); exact BK227.out⟩, ⟨by (with_reducible repeat (first | refine bN ?_ _ | refine bD ?_ | refine bA ?_ _)); exact BK228.out⟩, ⟨by (with_reducible repeat (first | refine bN ?_ _ | refine bD ?_ | refine bA ?_ _)); exact BK239.out⟩, ⟨by repeat (first | (with_reducible first | exact HB.out | apply oA | apply pN | apply o1 | refine bS ?_ GE227.out | refine bS ?_ GE228.out | refine bS ?_ GE239.out) | exact HB.out)⟩⟩
           ·rw [if_neg c41] at H
            exact absurd H (by simp)
         ·replace c32 := Bool.eq_false_iff.mpr c32
          subst c32
          have H1 : (if x22_2 < (x240001_2.length : Int) then (impl_SigsBlock.l0 k2 l1 (l1.length : Int) (wrap64 (x22_2 + 1)) x240000_2 (x240001_2.set (x22_2 : Int).toNat false) t236) else (none)) = some (r1, r2, r3, r4) := by rw [if_neg (show ¬ (false = true) by decide)] at H; exact H
          clear H
          have H := H1
          clear H1
          by_cases c48 : x22_2 < (x240001_2.length : Int)
          ·rw [if_pos c48] at H
           have c48b0 : decide (x22_2 < (x240001_2.length : Int)) = true := decide_eq_true c48
           clear c48
           obtain ⟨y243, hy243⟩ : ∃ y_ : List Bool, y_ = (x240001_2.set (x22_2 : Int).toNat false) := ⟨_, rfl⟩
           replace H : (impl_SigsBlock.l0 k2 l1 (l1.length : Int) (wrap64 (x22_2 + 1)) x240000_2 y243 t236) = some (r1, r2, r3, r4) := by first | (rw [hy243]; with_reducible exact H) | (have H2_ := (Option.bind_some _ _).symm.trans H; rw [hy243]; with_reducible exact H2_) | (have H2_ := (Option.bind_some _ _).symm.trans H; with_reducible exact H2_) | with_reducible exact H | (rw [hy243]; exact H) | exact H
           have Ny243 := Am hy243
           clear hy243
           have H' := Am H
           clear H
           have p240 : 0 ≤ (x22_2 : Int) := of_decide_eq_true (by first | (with_reducible assumption) | assumption)
           have q240 : x22_2 < (l1.length : Int) := of_decide_eq_true (by first | (with_reducible assumption) | assumption)
           obtain ⟨ad240, e240, hx240_0⟩ := Kd.at_bool HR1.out x22_2 p240 q240
           (try rw [← Nbq31.out] at hx240_0)
           cases e240
           replace hx240_0 := (HB.out.cell (World.block_lt_of_cell? w _ hx240_0)).trans hx240_0
           replace p240 := eq_true p240
           replace q240 := eq_true q240
           have hnb50 := NB239_227.out
           have hnc50 := NB227_239.out
           have hnb51 := NB239_228.out
           have hnc51 := NB228_239.out
           have hcz52_0 : wr.cell? ⟨gb239, 0, none⟩ = some (u240000) := (bC BK239.out 0).trans rfl
           have hcz52_1 : wr.cell? ⟨gb239, 1, none⟩ = some (u240001) := (bC BK239.out 1).trans rfl
           have hcz52_2 : wr.cell? ⟨gb239, 2, none⟩ = some (.slice Ao27 t236.length co27) := (bC BK239.out 2).trans rfl
           have hfz52_0 := bF BK239.out 0
           have hfz52_1 := bF BK239.out 1
           have hfz52_2 := bF BK239.out 2
           have p49 : 0 ≤ (x22_2 : Int) := of_decide_eq_true (by first | (with_reducible assumption) | assumption)
           have q49 : (x22_2 : Int) < ((x240001_2.length : Int) : Int) := of_decide_eq_true (by first | (with_reducible assumption) | assumption)
           obtain ⟨go49, co49, eo49, gb49, gl49, cl49, HG49⟩ := Kd.R_form HO_240001.out (by omega)
           (first | cases eo49 | (injection eo49 with ea_ en_ ec_; (first | subst ea_ | (injection ea_ with ea_; subst ea_)); subst ec_; clear en_))
           have GB49 := Am gb49
           have GG49 := Am HG49
           clear gb49 gl49 HG49
           obtain ⟨hx49_0, hf49_0⟩ := Kd.R_celln false HO_240001.out (x22_2 : Int) p49 q49
           replace p49 := eq_true p49
           replace q49 := eq_true q49
           have HP53 := Kd.R_putg HO_240001.out (x22_2 : Int) false
           go_wp2_with (first | ((with_reducible refine gate_store (t := 4) (p := 41) rfl ?_); refine store_event (t := 4) (p := 41) (v := ?vo_w54) (w1 := (wr.setCell ⟨go49, (x22_2 : Int).toNat, none⟩ (.bool false))) ?hg ?ho ?hn ?hr ?_; (case ho => rfl); (case hg => rfl); (case hn => rfl); (case hr => first | (go_simp; done) | (go_simp; rfl)); intro w54 hw; have hg : wr.grownBy w54 (some go49) := (by rw [hw]; exact HP53.2); have hp_ : Kd.R Kd.bool 4 w54 w.heap.size (fun k_ => some k_ ≠ (u240000 : Value).ownBlock) (.slice (some ⟨go49, 0, none⟩) x240001_2.length co49) y243 := (by rw [hw, Ny243.out]; exact HP53.1); clear HP53; have n0_ := Am (Kd.R_after (v := (.slice (some ⟨go49, 0, none⟩) x240001_2.length co49)) (v1 := (.slice (some ⟨go49, 0, none⟩) x240001_2.length co49)) (ok := (fun _ => True)) (by (with_reducible repeat (first | apply rA | apply rN | apply rD)); exact rM HO_240000.out (fun _ hk => ⟨trivial, hk⟩)) hg (.inl rfl)); have n1_ := Am (hp_); have n2_ := Am (Kd.R_over' (v := (.slice (some ⟨go49, 0, none⟩) x240001_2.length co49)) (by (with_reducible repeat (first | apply rA | apply rN | apply rD)); exact HO_240002.out) (Kd.R_typed HO_240001.out) (by decide) hg); have n3_ := Am (blk_grown (g := gb227) (o := .cells #[.slice A0_0 l0_0.length c0_0, .slice A0_1 l0_1.length c0_1, .slice A0_2 l0_2.length c0_2] 27 (0, 0)) (by (with_reducible repeat (first | refine bN ?_ _ | refine bD ?_ | refine bA ?_ _)); exact BK227.out) hg (Kd.R_ne HO_240001.out BK227.out (by decide))); have n4_ := Am (blk_grown (g := gb228) (o := .cells #[.slice none 0 0, .slice none 0 0, .slice none 0 0] 27 (0, 0)) (by (with_reducible repeat (first | refine bN ?_ _ | refine bD ?_ | refine bA ?_ _)); exact BK228.out) hg (Kd.R_ne HO_240001.out BK228.out (by decide))); have n5_ := Am (blk_grown (g := gb239) (o := .cells #[u240000, .slice (some ⟨go49, 0, none⟩) x240001_2.length co49, .slice Ao27 t236.length co27] 27 (0, 0)) (by (with_reducible repeat (first | refine bN ?_ _ | refine bD ?_ | refine bA ?_ _)); exact BK239.out) hg (Kd.R_ne HO_240001.out BK239.out (by decide))); have n6_ := Am ((by rw [hw]; exact bS (HB.out) GB49.out : Below w.heap.size w w54)); clear HO_240000; clear HO_240001; clear HO_240002; clear BK227; clear BK228; clear BK239; clear HB; have HO_240000 := n0_; have HO_240001 := n1_; have HO_240002 := n2_; have BK227 := n3_; have BK228 := n4_; have BK239 := n5_; have HB := n6_; clear n0_ n1_ n2_ n3_ n4_ n5_ n6_; clear hg hw hp_))
           go_roundg k2
           case measure => have := HJ2.out; have := HK2.out; omega
           case rel => exact ⟨(wrap64 (x22_2 + 1)), (x240000_2), (y243), (u240000), (.slice (some ⟨go49, 0, none⟩) x240001_2.length co49), (by first | rfl | (simp; done) | (simp [*]; done)), H', ⟨by have := HJ2.out; have := HK2.out; omega⟩, ⟨by (with_reducible repeat (first | apply rA | apply rN | apply rD)); exact rM HO_240000.out (fun _ hk => hk.2)⟩, ⟨by (with_reducible repeat (first | apply rA | apply rN | apply rD)); exact HO_240001.out⟩, ⟨by (with_reducible repeat (first | apply rA | apply rN | apply rD)); exact HO_240002.out⟩, ⟨by (with_reducible repeat (first | refine bN ?_ _ | refine bD ?_ | refine bA ?_ _)); exact BK227.out⟩, ⟨by (with_reducible repeat (first | refine bN ?_ _ | refine bD ?_ | refine bA ?_ _)); exact BK228.out⟩, ⟨by (with_reducible repeat (first | refine bN ?_ _ | refine bD ?_ | refine bA ?_ _)); exact BK239.out⟩, ⟨by repeat (first | (with_reducible first | exact HB.out | apply oA | apply pN | apply o1 | refine bS ?_ GE227.out | refine bS ?_ GE228.out | refine bS ?_ GE239.out) | exact HB.out)⟩⟩
          ·rw [if_neg c48] at H
           exact absurd H (by simp)
        ·rw [if_neg c30] at H
         exact absurd H (by simp)
       ·rw [if_neg c29] at H
        exact absurd H (by simp)
      ·rw [if_neg c28] at H
       have c28b0 : decide (x22_2 < (l1.length : Int)) = false := decide_eq_false c28
       clear c28
       simp only [Option.some.injEq, Prod.mk.injEq] at H
       obtain ⟨rfl, rfl, rfl, rfl⟩ := H
       have hnb55 := NB239_227.out
       have hnc55 := NB227_239.out
       have hnb56 := NB239_228.out
       have hnc56 := NB228_239.out
       have hcz57_0 : wr.cell? ⟨gb239, 0, none⟩ = some (u240000) := (bC BK239.out 0).trans rfl
       have hcz57_1 : wr.cell? ⟨gb239, 1, none⟩ = some (u240001) := (bC BK239.out 1).trans rfl
       have hcz57_2 : wr.cell? ⟨gb239, 2, none⟩ = some (.slice Ao27 t236.length co27) := (bC BK239.out 2).trans rfl
       have hfz57_0 := bF BK239.out 0
       have hfz57_1 := bF BK239.out 1
       have hfz57_2 := bF BK239.out 2
       obtain ⟨Ao58, co58, eo58⟩ := Kd.R_slice HO_240000.out
       subst eo58
       have hnb59 := NB228_227.out
       have hnc59 := NB227_228.out
       have hcz60_0 : wr.cell? ⟨gb228, 0, none⟩ = some (.slice none 0 0) := (bC BK228.out 0).trans rfl
       have hcz60_1 : wr.cell? ⟨gb228, 1, none⟩ = some (.slice none 0 0) := (bC BK228.out 1).trans rfl
       have hcz60_2 : wr.cell? ⟨gb228, 2, none⟩ = some (.slice none 0 0) := (bC BK228.out 2).trans rfl
       have hfz60_0 := bF BK228.out 0
       have hfz60_1 := bF BK228.out 1
       have hfz60_2 := bF BK228.out 2
       obtain ⟨Ao61, co61, eo61⟩ := Kd.R_slice HO_240001.out
       subst eo61
       go_wp2
       refine bodyPost_ret (results_ct rfl _ _ gb228 27 #[.slice Ao58 x240000_2.length co58, .slice Ao61 x240001_2.length co61, .slice Ao27 t236.length co27] (0, 0) _ rfl (by (with_reducible repeat (first | refine bN ?_ _ | refine bD ?_ | refine bA ?_ _)); refine blk_put (cs := #[.slice Ao58 x240000_2.length co58, .slice Ao61 x240001_2.length co61, .slice none 0 0]) ?_ 2 _ rfl; (with_reducible repeat (first | refine bN ?_ _ | refine bD ?_ | refine bA ?_ _)); refine blk_put (cs := #[.slice Ao58 x240000_2.length co58, .slice none 0 0, .slice none 0 0]) ?_ 1 _ rfl; (with_reducible repeat (first | refine bN ?_ _ | refine bD ?_ | refine bA ?_ _)); refine blk_put (cs := #[.slice none 0 0, .slice none 0 0, .slice none 0 0]) ?_ 0 _ rfl; (with_reducible repeat (first | refine bN ?_ _ | refine bD ?_ | refine bA ?_ _)); exact BK228.out) Try.underlying27 rfl (by kernel_rfl)) rfl ?_
       exact ⟨_, _, _, by first | rfl | (simp [errW_none, errW_some] <;> rfl) | (simp [*, errW_none, errW_some] <;> rfl), by (with_reducible repeat (first | apply rA | apply rN | apply rD)); exact rM (rF (p := ⟨gb228, 2, none⟩) (rF (p := ⟨gb228, 1, none⟩) (rF (p := ⟨gb228, 0, none⟩) (rT HO_240000.out BK228.out (by decide)) (fun _ hk => hk.2) (.slice Ao58 x240000_2.length co58)) (fun _ hk => hk.2) (.slice Ao61 x240001_2.length co61)) (fun _ hk => hk.2) (.slice Ao27 t236.length co27)) (fun _ hk => hk.1), by (with_reducible repeat (first | apply rA | apply rN | apply rD)); exact rM (rF (p := ⟨gb228, 2, none⟩) (rF (p := ⟨gb228, 1, none⟩) (rF (p := ⟨gb228, 0, none⟩) (rT HO_240001.out BK228.out (by decide)) (fun _ hk => hk.2) (.slice Ao58 x240000_2.length co58)) (fun _ hk => hk.2) (.slice Ao61 x240001_2.length co61)) (fun _ hk => hk.2) (.slice Ao27 t236.length co27)) (fun _ hk => hk.1), by (with_reducible repeat (first | apply rA | apply rN | apply rD)); exact rM (rF (p := ⟨gb228, 2, none⟩) (rF (p := ⟨gb228, 1, none⟩) (rF (p := ⟨gb228, 0, none⟩) (rT HO_240002.out BK228.out (by decide)) (fun _ hk => hk.2) (.slice Ao58 x240000_2.length co58)) (fun _ hk => hk.2) (.slice Ao61 x240001_2.length co61)) (fun _ hk => hk.2) (.slice Ao27 t236.length co27)) (fun _ hk => trivial), by repeat (first | (with_reducible first | exact HB.out | apply oA | apply pN | apply o1 | refine bS ?_ GE227.out | refine bS ?_ GE228.out | refine bS ?_ GE239.out) | exact HB.out)⟩

end Go.Proofs.Ytehekikjadjdaaa.PFnExactSigsBlock
