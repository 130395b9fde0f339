/- Proved here, without a condition beyond those that each theorem states: what the Go functions named below do is what the plain functions of the same names say. Written by xprint.py, a program of this session. -/
import Derived.Test.YtehekikjadjdaaaPFnExactPagesKeepx0
import Derived.Test.YtehekikjadjdaaaPFnExactPagesKeepx1
namespace Go.Proofs.Ytehekikjadjdaaa.PFnExactPagesKeep
open Go.RowKit Go.Proofs.YtehekikjadjdaaaW.PrintWords Go.Proofs.YtehekikjadjdaaaW.PrintLast Go.Proofs.YtehekikjadjdaaaW.PrintMore
attribute [local go_sem] max2_int min2_int max_two min_two max_three min_three max_four min_four   -- for this text's walks alone
set_option linter.unusedVariables false
set_option linter.unusedSimpArgs false

attribute [local go_sem ↓] isSome_setCell_
/-! ### spec_l1Copy: function 87 -/
def spec_l1Copy.f (l0_0 : List ByteArray) (l0_1 : List Int) : Option (List ByteArray × List Int) := (some (([] : List ByteArray) : List ByteArray)).bind fun y119 => (if y119.length + l0_0.length < 8796093022208 then ((some (([] : List Int) : List Int)).bind fun y125 => (if y125.length + l0_1.length < 17592186044416 then (some ((y119 ++ l0_0), (y125 ++ l0_1))) else (none))) else (none))
def spec_l1Copy.T1 : Bool × List (List Nat × List Nat) := (true, [([], []), ([], []), ([1], [1]), ([0, 2], [0, 2]), ([], []), ([], []), ([5], [5]), ([4, 6, 3], [4, 6]), ([3, 7], [3, 7]), ([8, 7, 0, 1, 2, 3, 4, 5, 6, 7, 8], [8])])
def spec_l1Copy.B1 : List Nat := [0, 0, 2, 7, 0, 0, 32, 127, 255, 511]
theorem spec_l1Copy.tab1 : rtab .any (opsOf Try.f87 1) = spec_l1Copy.T1 := by kernel_rfl
theorem spec_l1Copy.bits1 : waitsOk spec_l1Copy.T1.2 spec_l1Copy.B1 = true := by kernel_rfl
abbrev spec_l1Copy.q0 : Array Bool := #[false, false, false, false, false, false, false, false, false, false]
abbrev spec_l1Copy.q1 : Array Bool := #[false, true, false, false, false, false, false, false, false, false]
abbrev spec_l1Copy.q2 : Array Bool := #[false, true, false, false, false, true, false, false, false, false]
abbrev spec_l1Copy.q3 : Array Bool := #[false, true, true, false, false, true, false, false, false, false]
abbrev spec_l1Copy.q4 : Array Bool := #[false, true, true, false, false, true, true, false, false, false]
abbrev spec_l1Copy.q5 : Array Bool := #[true, true, true, true, true, true, true, false, false, false]
abbrev spec_l1Copy.q6 : Array Bool := #[true, true, true, false, false, true, true, false, false, false]
abbrev spec_l1Copy.q7 : Array Bool := #[false, true, true, false, true, true, true, false, false, false]
abbrev spec_l1Copy.q8 : Array Bool := #[true, true, true, true, false, true, true, false, false, false]
abbrev spec_l1Copy.q9 : Array Bool := #[true, true, true, false, true, true, true, false, false, false]
abbrev spec_l1Copy.q10 : Array Bool := #[true, true, true, true, true, true, true, true, false, false]
abbrev spec_l1Copy.q11 : Array Bool := #[true, true, true, true, true, true, true, true, true, false]
abbrev spec_l1Copy.q12 : Array Bool := #[true, true, true, true, true, true, true, true, true, true]
set_option maxHeartbeats 2000000 in
set_option maxRecDepth 100000 in
theorem spec_l1Copy.calls (A0_0 : Option Addr) (c0_0 : Nat) (l0_0 : List ByteArray) (A0_1 : Option Addr) (c0_1 : Nat) (l0_1 : List Int) (r1 : List ByteArray) (r2 : List Int) (w : World) (hr0_0 : Kd.C Kd.string w A0_0 l0_0.length l0_0) (hc0_0 : l0_0.length ≤ c0_0) (hr0_1 : Kd.C (Kd.int .i64) w A0_1 l0_1.length l0_1) (hc0_1 : l0_1.length ≤ c0_1) (h : spec_l1Copy.f l0_0 l0_1 = some (r1, r2)) :
  Calls Try.prog 87 #[.agg #[.slice A0_0 l0_0.length c0_0, .slice A0_1 l0_1.length c0_1]] w fun e w' => ∃ v0_ v1_ : Value, e = .returned (.agg #[v0_, v1_]) ∧ Kd.R Kd.string 9 w' w.heap.size (fun _ => True) v0_ r1 ∧ Kd.R (Kd.int .i64) 3 w' w.heap.size (fun _ => True) v1_ r2 ∧ Below w.heap.size w w' := by
 have hu61 := Try.underlying61
 have HR0_0 := Am hr0_0
 have HC0_0 := Am hc0_0
 clear hr0_0 hc0_0
 have HR0_1 := Am hr0_1
 have HC0_1 := Am hc0_1
 clear hr0_1 hc0_1
 have HB := Am (Below.refl w.heap.size w)
 have H : ((some (([] : List ByteArray) : List ByteArray)).bind fun y119 => (if y119.length + l0_0.length < 8796093022208 then ((some (([] : List Int) : List Int)).bind fun y125 => (if y125.length + l0_1.length < 17592186044416 then (some ((y119 ++ l0_0), (y125 ++ l0_1))) else (none))) else (none))) = some (r1, r2) := h
 clear h
 obtain ⟨y119, hy119⟩ : ∃ y_ : List ByteArray, y_ = (([] : List ByteArray)) := ⟨_, rfl⟩
 replace H : (if y119.length + l0_0.length < 8796093022208 then ((some (([] : List Int) : List Int)).bind fun y125 => (if y125.length + l0_1.length < 17592186044416 then (some ((y119 ++ l0_0), (y125 ++ l0_1))) else (none))) else (none)) = some (r1, r2) := by first | (rw [hy119]; with_reducible exact H) | (have H2_ := (Option.bind_some _ _).symm.trans H; rw [hy119]; with_reducible exact H2_) | (have H2_ := (Option.bind_some _ _).symm.trans H; with_reducible exact H2_) | with_reducible exact H | (rw [hy119]; exact H) | exact H
 have Ny119 := Am hy119
 clear hy119
 by_cases c2 : y119.length + l0_0.length < 8796093022208
 ·rw [if_pos c2] at H
  have LMc2 := Am c2
  clear c2
  obtain ⟨y122, hy122⟩ : ∃ y_ : List ByteArray, y_ = (y119 ++ l0_0) := ⟨_, rfl⟩
  replace H : ((some (([] : List Int) : List Int)).bind fun y125 => (if y125.length + l0_1.length < 17592186044416 then (some (y122, (y125 ++ l0_1))) else (none))) = some (r1, r2) := by first | (rw [hy122]; with_reducible exact H) | (have H2_ := (Option.bind_some _ _).symm.trans H; rw [hy122]; with_reducible exact H2_) | (have H2_ := (Option.bind_some _ _).symm.trans H; with_reducible exact H2_) | with_reducible exact H | (rw [hy122]; exact H) | exact H
  have Ny122 := Am hy122
  clear hy122
  obtain ⟨y125, hy125⟩ : ∃ y_ : List Int, y_ = (([] : List Int)) := ⟨_, rfl⟩
  replace H : (if y125.length + l0_1.length < 17592186044416 then (some (y122, (y125 ++ l0_1))) else (none)) = some (r1, r2) := by first | (rw [hy125]; with_reducible exact H) | (have H2_ := (Option.bind_some _ _).symm.trans H; rw [hy125]; with_reducible exact H2_) | (have H2_ := (Option.bind_some _ _).symm.trans H; with_reducible exact H2_) | with_reducible exact H | (rw [hy125]; exact H) | exact H
  have Ny125 := Am hy125
  clear hy125
  by_cases c3 : y125.length + l0_1.length < 17592186044416
  ·rw [if_pos c3] at H
   have LMc3 := Am c3
   clear c3
   obtain ⟨y128, hy128⟩ : ∃ y_ : List Int, y_ = (y125 ++ l0_1) := ⟨_, rfl⟩
   replace H : (some (y122, y128)) = some (r1, r2) := by first | (rw [hy128]; with_reducible exact H) | (have H2_ := (Option.bind_some _ _).symm.trans H; rw [hy128]; with_reducible exact H2_) | (have H2_ := (Option.bind_some _ _).symm.trans H; with_reducible exact H2_) | with_reducible exact H | (rw [hy128]; exact H) | exact H
   have Ny128 := Am hy128
   clear hy128
   simp only [Option.some.injEq, Prod.mk.injEq] at H
   obtain ⟨rfl, rfl⟩ := H
   go_enter Try.func87, Try.ntmps87
   try go_wp2_with (first | ((with_reducible refine gate_dst (N := 1) rfl ?_); refine box_event ?hg (N := 1) ?hd (cs := #[.slice A0_0 l0_0.length c0_0, .slice A0_1 l0_1.length c0_1]) (t := 61) ?hr ?_; (case hd => rfl); (case hg => rfl); (case hr => first | (go_simp; done) | (go_simp; rfl)); intro gb117 hg w4 hbox hb; have n0_ := Am (bP (by repeat (first | (with_reducible first | exact HB.out | apply oA | apply pN | apply o1) | exact HB.out)) hb); have n1_ := Am (hbox); have n2_ := Am ((by rw [hg]; exact (bZ (by repeat (first | (with_reducible first | exact HB.out | apply oA | apply pN | apply o1) | exact HB.out))) : w.heap.size ≤ gb117)); have n3_ := Am ((by rw [hg]; exact (bZ (by repeat (first | (with_reducible first | exact HB.out | apply oA | apply pN | apply o1) | exact HB.out))) : w.heap.size ≤ gb117)); clear HB; have HB := n0_; have BK117 := n1_; have GW117 := n2_; have GE117 := n3_; clear n0_ n1_ n2_ n3_; clear hb hbox hg) | ((with_reducible refine gate_dst (N := 2) rfl ?_); refine box_event ?hg (N := 2) ?hd (cs := #[.slice none 0 0, .slice none 0 0]) (t := 61) ?hr ?_; (case hd => rfl); (case hg => rfl); (case hr => first | (go_simp; done) | (go_simp; rfl)); intro gb118 hg w5 hbox hb; have n0_ := Am (bB (g := gb117) (o := .cells #[.slice A0_0 l0_0.length c0_0, .slice A0_1 l0_1.length c0_1] 61 (0, 0)) (by (with_reducible repeat (first | refine bN ?_ _ | refine bD ?_ | refine bA ?_ _)); exact BK117.out) hb); have n1_ := Am (bP (by repeat (first | (with_reducible first | exact HB.out | apply oA | apply pN | apply o1 | refine bS ?_ GE117.out) | exact HB.out)) hb); have n2_ := Am (hbox); have n3_ := Am ((by rw [hg]; exact (bZ (by repeat (first | (with_reducible first | exact HB.out | apply oA | apply pN | apply o1 | refine bS ?_ GE117.out) | exact HB.out))) : w.heap.size ≤ gb118)); have n4_ := Am ((by rw [hg]; exact (bZ (by repeat (first | (with_reducible first | exact HB.out | apply oA | apply pN | apply o1 | refine bS ?_ GE117.out) | exact HB.out))) : w.heap.size ≤ gb118)); have n5_ := Am ((by rw [hg]; exact Nat.ne_of_lt (blk_lt (g := gb117) (o := .cells #[.slice A0_0 l0_0.length c0_0, .slice A0_1 l0_1.length c0_1] 61 (0, 0)) (by (with_reducible repeat (first | refine bN ?_ _ | refine bD ?_ | refine bA ?_ _)); exact BK117.out)) : gb117 ≠ gb118)); have n6_ := Am ((by rw [hg]; exact Nat.ne_of_gt (blk_lt (g := gb117) (o := .cells #[.slice A0_0 l0_0.length c0_0, .slice A0_1 l0_1.length c0_1] 61 (0, 0)) (by (with_reducible repeat (first | refine bN ?_ _ | refine bD ?_ | refine bA ?_ _)); exact BK117.out)) : gb118 ≠ gb117)); clear BK117; clear HB; have BK117 := n0_; have HB := n1_; have BK118 := n2_; have GW118 := n3_; have GE118 := n4_; have NB117_118 := n5_; have NB118_117 := n6_; clear n0_ n1_ n2_ n3_ n4_ n5_ n6_; clear hb hbox hg))
   have n0_ := Am (bD BK117.out)
   have n1_ := Am (bD BK118.out)
   have n2_ := Am (o1 HB.out)
   clear BK117
   clear BK118
   clear HB
   have BK117 := n0_
   have BK118 := n1_
   have HB := n2_
   clear n0_ n1_ n2_
   refine start_ (n := 10) (S := fun w' => w'.cell? ⟨gb117, 0, none⟩ = some (.slice A0_0 l0_0.length c0_0) ∧ w'.cell? ⟨gb117, 1, none⟩ = some (.slice A0_1 l0_1.length c0_1)) (ds := []) spec_l1Copy.q0 (by kernel_rfl) rfl rfl ⟨(bC BK117.out 0).trans rfl, (bC BK117.out 1).trans rfl⟩ (fun hHeld => ?_); refine with_tabW spec_l1Copy.tab1 spec_l1Copy.bits1 (fun HT_ HW_ => ?_)
   generalize w5.drew = w6 at BK117 BK118 HB hHeld ⊢
   refine pure_ (i := 1) (N := some 4) (v := ?_) (a' := ?_) spec_l1Copy.q1 rfl rfl (any_of HT_.out (by kernel_rfl)) (fun _ _ _ h => h) (Or.inl ⟨by rfl, ?_⟩) ?_ ?_
   rotate_left
   ·intro w'
    go_simp
    with_reducible rfl
   rotate_left
   ·simp only [Act.put, lA, lZ, lS, i64_w, i32_w]
    rfl
   refine pure_ (i := 5) (N := some 8) (v := ?_) (a' := ?_) spec_l1Copy.q2 rfl rfl (any_of HT_.out (by kernel_rfl)) (fun _ _ _ h => h) (Or.inl ⟨by rfl, ?_⟩) ?_ ?_
   rotate_left
   ·intro w'
    go_simp
    with_reducible rfl
   rotate_left
   ·simp only [Act.put, lA, lZ, lS, i64_w, i32_w]
    rfl
   refine take_ (i := 2) (N := some 5) (v := ?_) (a' := ?_) spec_l1Copy.q3 rfl rfl (take_ofW HT_.out HW_.out (by kernel_rfl)) (fun _ _ _ h => h) (Or.inl ⟨by rfl, ?_⟩) hHeld ?_ ?_
   rotate_left
   ·rintro w' ⟨s0, s1⟩
    go_simp
    with_reducible rfl
   rotate_left
   ·simp only [Act.put, lA, lZ, lS, i64_w, i32_w]
    rfl
   refine take_ (i := 6) (N := some 9) (v := ?_) (a' := ?_) spec_l1Copy.q4 rfl rfl (take_ofW HT_.out HW_.out (by kernel_rfl)) (fun _ _ _ h => h) (Or.inl ⟨by rfl, ?_⟩) hHeld ?_ ?_
   rotate_left
   ·rintro w' ⟨s0, s1⟩
    go_simp
    with_reducible rfl
   rotate_left
   ·simp only [Act.put, lA, lZ, lS, i64_w, i32_w]
    rfl
   refine join_ (σ := Value × Value × Value) 3 spec_l1Copy.q5 (fun s_ => [(3, s_.1), (6, s_.2.1), (7, s_.2.2)]) (fun s_ w' => (w'.cell? ⟨gb117, 0, none⟩ = some (.slice A0_0 l0_0.length c0_0) ∧ w'.cell? ⟨gb117, 1, none⟩ = some (.slice A0_1 l0_1.length c0_1)) ∧ (Kd.R Kd.string 9 w' w.heap.size (fun _ => True) s_.2.1 y122) ∧ (Kd.R (Kd.int .i64) 3 w' w.heap.size (fun _ => True) s_.2.2 y125) ∧ (w'.heap[gb117]? = some (.cells #[.slice A0_0 l0_0.length c0_0, .slice A0_1 l0_1.length c0_1] 61 (0, 0))) ∧ (w'.heap[gb118]? = some (.cells #[.slice none 0 0, .slice none 0 0] 61 (0, 0))) ∧ (Below w.heap.size w w')) ?_ ?_
   rotate_left
   ·intro hCont
    refine two_ (i := 0) (j := 4) (Ni := some 3) (Nj := some 7) spec_l1Copy.q6 spec_l1Copy.q7 rfl rfl rfl rfl (two_of HT_.out (by kernel_rfl)) (by decide) (by decide) (fun K hK => ?_) (fun K hK => ?_)
    ·skip
     refine Kd.R_lit_step Kd.string _ 9 ?hg (N := 3) ?hd (xs := ([] : List ByteArray)) (inner := []) (ok := fun _ => True) (okp := fun _ => True) ?hr ?hp (fun _ hk => hk) trivial (Below.refl _ _) (Nat.le_refl _) (by simp) ?_; (case hd => rfl); (case hg => rfl); (case hr => first | (go_simp; done) | (go_simp; rfl)); (case hp => exact (Reps.none _ _))
     intro v120 w7 ho8 hb hg_ hnew_
     clear hg_ hnew_
     (first | rw [← Ny119.out] at ho8 | (simp only [Int.reduceToNat] at ho8; rw [← Ny119.out] at ho8))
     have n0_ := Am (Kd.R_lower ho8 (bZ (by repeat (first | (with_reducible first | exact HB.out | apply oA | apply pN | apply o1 | refine bS ?_ GE117.out | refine bS ?_ GE118.out) | exact HB.out))))
     have n1_ := Am (bB (g := gb117) (o := .cells #[.slice A0_0 l0_0.length c0_0, .slice A0_1 l0_1.length c0_1] 61 (0, 0)) (by (with_reducible repeat (first | refine bN ?_ _ | refine bD ?_ | refine bA ?_ _)); exact BK117.out) hb)
     have n2_ := Am (bB (g := gb118) (o := .cells #[.slice none 0 0, .slice none 0 0] 61 (0, 0)) (by (with_reducible repeat (first | refine bN ?_ _ | refine bD ?_ | refine bA ?_ _)); exact BK118.out) hb)
     have n3_ := Am (bP (by repeat (first | (with_reducible first | exact HB.out | apply oA | apply pN | apply o1 | refine bS ?_ GE117.out | refine bS ?_ GE118.out) | exact HB.out)) hb)
     clear BK117
     clear BK118
     clear HB
     have HO121 := n0_
     have BK117 := n1_
     have BK118 := n2_
     have HB := n3_
     clear n0_ n1_ n2_ n3_
     clear hb ho8
     refine hK.out _ _ ⟨(bC BK117.out 0).trans rfl, (bC BK117.out 1).trans rfl⟩ (fun hHeld => ?_)
     clear hK K
     refine norm_ (a' := ?_) ?_ ?_
     rotate_left
     ·show Act.put _ (some 3) _ = _
      simp only [Act.put, lA, lZ, lS, i64_w, i32_w]
      rfl
     refine two_ (i := 3) (j := 4) (Ni := some 6) (Nj := some 7) spec_l1Copy.q8 spec_l1Copy.q9 rfl rfl rfl rfl (two_of HT_.out (by kernel_rfl)) (by decide) (by decide) (fun K hK => ?_) (fun K hK => ?_)
     ·skip
      refine Kd.R_append_rows_step Kd.string (w0 := w) w.heap.size (by rfl) (.tmp 3) (.tmp 5) 57 9 (.string ⟨#[]⟩) 16 rfl Try.underlying57 info9 rfl (by decide) (by omega) v120 y119 l0_0 _ _ _ (fun _ => True) (fun _ => False) rfl rfl ?aO ?aR (fun _ _ h => h) (fun _ h => h.elim) ?aF ?aB ?aS ?aL ?_
      (case aR => repeat (first | exact (cB HR0_0.out HB.out) | (with_reducible refine cA ?_ _) | (with_reducible refine cN ?_ _) | (with_reducible refine cD ?_)))
      (case aB => exact (by repeat (first | (with_reducible first | exact HB.out | apply oA | apply pN | apply o1 | refine bS ?_ GE117.out | refine bS ?_ GE118.out) | exact HB.out)))
      (case aF => exact (fun _ _ => trivial))
      (case aO => exact (by (with_reducible repeat (first | apply rA | apply rN | apply rD)); exact HO121.out))
      (case aS => exact (bZ (by repeat (first | (with_reducible first | exact HB.out | apply oA | apply pN | apply o1 | refine bS ?_ GE117.out | refine bS ?_ GE118.out) | exact HB.out))))
      (case aL => have := LMc2.out; omega)
      intro v123 w9 ho hb hg hat
      rw [← Ny122.out] at ho
      have n0_ := Am (blk_grown (g := gb117) (o := .cells #[.slice A0_0 l0_0.length c0_0, .slice A0_1 l0_1.length c0_1] 61 (0, 0)) (by (with_reducible repeat (first | refine bN ?_ _ | refine bD ?_ | refine bA ?_ _)); exact BK117.out) hg (Kd.R_ne HO121.out BK117.out (by decide)))
      have n1_ := Am (blk_grown (g := gb118) (o := .cells #[.slice none 0 0, .slice none 0 0] 61 (0, 0)) (by (with_reducible repeat (first | refine bN ?_ _ | refine bD ?_ | refine bA ?_ _)); exact BK118.out) hg (Kd.R_ne HO121.out BK118.out (by decide)))
      have n2_ := Am (hb)
      have n3_ := Am (ho)
      clear BK117
      clear BK118
      clear HB
      clear HO121
      have BK117 := n0_
      have BK118 := n1_
      have HB := n2_
      have HO124 := n3_
      clear n0_ n1_ n2_ n3_
      clear ho hb hg hat
      refine hK.out _ _ ⟨(bC BK117.out 0).trans rfl, (bC BK117.out 1).trans rfl⟩ (fun hHeld => ?_)
      clear hK K
      refine norm_ (a' := ?_) ?_ ?_
      rotate_left
      ·show Act.put _ (some 6) _ = _
       simp only [Act.put, lA, lZ, lS, i64_w, i32_w]
       rfl
      refine one_ (i := 4) (N := some 7) spec_l1Copy.q5 rfl rfl (one_of HT_.out (by kernel_rfl)) (by decide) (fun K hK => ?_)
      refine Kd.R_lit_step (Kd.int .i64) _ 3 ?hg (N := 7) ?hd (xs := ([] : List Int)) (inner := []) (ok := fun _ => True) (okp := fun _ => True) ?hr ?hp (fun _ hk => hk) trivial (Below.refl _ _) (Nat.le_refl _) (by simp) ?_; (case hd => rfl); (case hg => rfl); (case hr => first | (go_simp; done) | (go_simp; rfl)); (case hp => exact (Reps.none _ _))
      intro v126 w10 ho11 hb hg_ hnew_
      clear hg_ hnew_
      (first | rw [← Ny125.out] at ho11 | (simp only [Int.reduceToNat] at ho11; rw [← Ny125.out] at ho11))
      have n0_ := Am (rB (by (with_reducible repeat (first | apply rA | apply rN | apply rD)); exact HO124.out) hb)
      have n1_ := Am (Kd.R_lower ho11 (bZ (by repeat (first | (with_reducible first | exact HB.out | apply oA | apply pN | apply o1 | refine bS ?_ GE117.out | refine bS ?_ GE118.out) | exact HB.out))))
      have n2_ := Am (bB (g := gb117) (o := .cells #[.slice A0_0 l0_0.length c0_0, .slice A0_1 l0_1.length c0_1] 61 (0, 0)) (by (with_reducible repeat (first | refine bN ?_ _ | refine bD ?_ | refine bA ?_ _)); exact BK117.out) hb)
      have n3_ := Am (bB (g := gb118) (o := .cells #[.slice none 0 0, .slice none 0 0] 61 (0, 0)) (by (with_reducible repeat (first | refine bN ?_ _ | refine bD ?_ | refine bA ?_ _)); exact BK118.out) hb)
      have n4_ := Am (bP (by repeat (first | (with_reducible first | exact HB.out | apply oA | apply pN | apply o1 | refine bS ?_ GE117.out | refine bS ?_ GE118.out) | exact HB.out)) hb)
      clear HO124
      clear BK117
      clear BK118
      clear HB
      have HO124 := n0_
      have HO127 := n1_
      have BK117 := n2_
      have BK118 := n3_
      have HB := n4_
      clear n0_ n1_ n2_ n3_ n4_
      clear hb ho11
      refine hK.out _ _ ⟨(bC BK117.out 0).trans rfl, (bC BK117.out 1).trans rfl⟩ (fun hHeld => ?_)
      clear hK K
      refine norm_ (a' := ?_) ?_ ?_
      rotate_left
      ·show Act.put _ (some 7) _ = _
       simp only [Act.put, lA, lZ, lS, i64_w, i32_w]
       rfl
      exact norm_ (by simp only [putAll, Act.put, lA, lZ, lS]) (hCont (v120, v123, v126) _ ⟨hHeld, (by (with_reducible repeat (first | apply rA | apply rN | apply rD)); exact HO124.out), (by (with_reducible repeat (first | apply rA | apply rN | apply rD)); exact HO127.out), (by (with_reducible repeat (first | refine bN ?_ _ | refine bD ?_ | refine bA ?_ _)); exact BK117.out), (by (with_reducible repeat (first | refine bN ?_ _ | refine bD ?_ | refine bA ?_ _)); exact BK118.out), (by repeat (first | (with_reducible first | exact HB.out | apply oA | apply pN | apply o1 | refine bS ?_ GE117.out | refine bS ?_ GE118.out) | exact HB.out))⟩)
     ·skip
      refine Kd.R_lit_step (Kd.int .i64) _ 3 ?hg (N := 7) ?hd (xs := ([] : List Int)) (inner := []) (ok := fun _ => True) (okp := fun _ => True) ?hr ?hp (fun _ hk => hk) trivial (Below.refl _ _) (Nat.le_refl _) (by simp) ?_; (case hd => rfl); (case hg => rfl); (case hr => first | (go_simp; done) | (go_simp; rfl)); (case hp => exact (Reps.none _ _))
      intro v126 w9 ho10 hb hg_ hnew_
      clear hg_ hnew_
      (first | rw [← Ny125.out] at ho10 | (simp only [Int.reduceToNat] at ho10; rw [← Ny125.out] at ho10))
      have n0_ := Am (rB (by (with_reducible repeat (first | apply rA | apply rN | apply rD)); exact HO121.out) hb)
      have n1_ := Am (Kd.R_lower ho10 (bZ (by repeat (first | (with_reducible first | exact HB.out | apply oA | apply pN | apply o1 | refine bS ?_ GE117.out | refine bS ?_ GE118.out) | exact HB.out))))
      have n2_ := Am (bB (g := gb117) (o := .cells #[.slice A0_0 l0_0.length c0_0, .slice A0_1 l0_1.length c0_1] 61 (0, 0)) (by (with_reducible repeat (first | refine bN ?_ _ | refine bD ?_ | refine bA ?_ _)); exact BK117.out) hb)
      have n3_ := Am (bB (g := gb118) (o := .cells #[.slice none 0 0, .slice none 0 0] 61 (0, 0)) (by (with_reducible repeat (first | refine bN ?_ _ | refine bD ?_ | refine bA ?_ _)); exact BK118.out) hb)
      have n4_ := Am (bP (by repeat (first | (with_reducible first | exact HB.out | apply oA | apply pN | apply o1 | refine bS ?_ GE117.out | refine bS ?_ GE118.out) | exact HB.out)) hb)
      clear HO121
      clear BK117
      clear BK118
      clear HB
      have HO121 := n0_
      have HO127 := n1_
      have BK117 := n2_
      have BK118 := n3_
      have HB := n4_
      clear n0_ n1_ n2_ n3_ n4_
      clear hb ho10
      refine hK.out _ _ ⟨(bC BK117.out 0).trans rfl, (bC BK117.out 1).trans rfl⟩ (fun hHeld => ?_)
      clear hK K
      refine norm_ (a' := ?_) ?_ ?_
      rotate_left
      ·show Act.put _ (some 7) _ = _
       simp only [Act.put, lA, lZ, lS, i64_w, i32_w]
       rfl
      refine one_ (i := 3) (N := some 6) spec_l1Copy.q5 rfl rfl (one_of HT_.out (by kernel_rfl)) (by decide) (fun K hK => ?_)
      refine Kd.R_append_rows_step Kd.string (w0 := w) w.heap.size (by rfl) (.tmp 3) (.tmp 5) 57 9 (.string ⟨#[]⟩) 16 rfl Try.underlying57 info9 rfl (by decide) (by omega) v120 y119 l0_0 _ _ _ (fun _ => True) (fun _ => False) rfl rfl ?aO ?aR (fun _ _ h => h) (fun _ h => h.elim) ?aF ?aB ?aS ?aL ?_
      (case aR => repeat (first | exact (cB HR0_0.out HB.out) | (with_reducible refine cA ?_ _) | (with_reducible refine cN ?_ _) | (with_reducible refine cD ?_)))
      (case aB => exact (by repeat (first | (with_reducible first | exact HB.out | apply oA | apply pN | apply o1 | refine bS ?_ GE117.out | refine bS ?_ GE118.out) | exact HB.out)))
      (case aF => exact (fun _ _ => trivial))
      (case aO => exact (by (with_reducible repeat (first | apply rA | apply rN | apply rD)); exact HO121.out))
      (case aS => exact (bZ (by repeat (first | (with_reducible first | exact HB.out | apply oA | apply pN | apply o1 | refine bS ?_ GE117.out | refine bS ?_ GE118.out) | exact HB.out))))
      (case aL => have := LMc2.out; omega)
      intro v123 w11 ho hb hg hat
      rw [← Ny122.out] at ho
      have n0_ := Am (blk_grown (g := gb117) (o := .cells #[.slice A0_0 l0_0.length c0_0, .slice A0_1 l0_1.length c0_1] 61 (0, 0)) (by (with_reducible repeat (first | refine bN ?_ _ | refine bD ?_ | refine bA ?_ _)); exact BK117.out) hg (Kd.R_ne HO121.out BK117.out (by decide)))
      have n1_ := Am (blk_grown (g := gb118) (o := .cells #[.slice none 0 0, .slice none 0 0] 61 (0, 0)) (by (with_reducible repeat (first | refine bN ?_ _ | refine bD ?_ | refine bA ?_ _)); exact BK118.out) hg (Kd.R_ne HO121.out BK118.out (by decide)))
      have n2_ := Am (Kd.R_over' (by (with_reducible repeat (first | apply rA | apply rN | apply rD)); exact HO127.out) (Kd.R_typed (by (with_reducible repeat (first | apply rA | apply rN | apply rD)); exact HO121.out)) (by decide) hg)
      have n3_ := Am (hb)
      have n4_ := Am (ho)
      clear BK117
      clear BK118
      clear HO127
      clear HB
      clear HO121
      have BK117 := n0_
      have BK118 := n1_
      have HO127 := n2_
      have HB := n3_
      have HO124 := n4_
      clear n0_ n1_ n2_ n3_ n4_
      clear ho hb hg hat
      refine hK.out _ _ ⟨(bC BK117.out 0).trans rfl, (bC BK117.out 1).trans rfl⟩ (fun hHeld => ?_)
      clear hK K
      refine norm_ (a' := ?_) ?_ ?_
      rotate_left
      ·show Act.put _ (some 6) _ = _
       simp only [Act.put, lA, lZ, lS, i64_w, i32_w]
       rfl
      exact norm_ (by simp only [putAll, Act.put, lA, lZ, lS]) (hCont (v120, v123, v126) _ ⟨hHeld, (by (with_reducible repeat (first | apply rA | apply rN | apply rD)); exact HO124.out), (by (with_reducible repeat (first | apply rA | apply rN | apply rD)); exact HO127.out), (by (with_reducible repeat (first | refine bN ?_ _ | refine bD ?_ | refine bA ?_ _)); exact BK117.out), (by (with_reducible repeat (first | refine bN ?_ _ | refine bD ?_ | refine bA ?_ _)); exact BK118.out), (by repeat (first | (with_reducible first | exact HB.out | apply oA | apply pN | apply o1 | refine bS ?_ GE117.out | refine bS ?_ GE118.out) | exact HB.out))⟩)
    ·skip
     refine Kd.R_lit_step (Kd.int .i64) _ 3 ?hg (N := 7) ?hd (xs := ([] : List Int)) (inner := []) (ok := fun _ => True) (okp := fun _ => True) ?hr ?hp (fun _ hk => hk) trivial (Below.refl _ _) (Nat.le_refl _) (by simp) ?_; (case hd => rfl); (case hg => rfl); (case hr => first | (go_simp; done) | (go_simp; rfl)); (case hp => exact (Reps.none _ _))
     intro v126 w7 ho8 hb hg_ hnew_
     clear hg_ hnew_
     (first | rw [← Ny125.out] at ho8 | (simp only [Int.reduceToNat] at ho8; rw [← Ny125.out] at ho8))
     have n0_ := Am (Kd.R_lower ho8 (bZ (by repeat (first | (with_reducible first | exact HB.out | apply oA | apply pN | apply o1 | refine bS ?_ GE117.out | refine bS ?_ GE118.out) | exact HB.out))))
     have n1_ := Am (bB (g := gb117) (o := .cells #[.slice A0_0 l0_0.length c0_0, .slice A0_1 l0_1.length c0_1] 61 (0, 0)) (by (with_reducible repeat (first | refine bN ?_ _ | refine bD ?_ | refine bA ?_ _)); exact BK117.out) hb)
     have n2_ := Am (bB (g := gb118) (o := .cells #[.slice none 0 0, .slice none 0 0] 61 (0, 0)) (by (with_reducible repeat (first | refine bN ?_ _ | refine bD ?_ | refine bA ?_ _)); exact BK118.out) hb)
     have n3_ := Am (bP (by repeat (first | (with_reducible first | exact HB.out | apply oA | apply pN | apply o1 | refine bS ?_ GE117.out | refine bS ?_ GE118.out) | exact HB.out)) hb)
     clear BK117
     clear BK118
     clear HB
     have HO127 := n0_
     have BK117 := n1_
     have BK118 := n2_
     have HB := n3_
     clear n0_ n1_ n2_ n3_
     clear hb ho8
     refine hK.out _ _ ⟨(bC BK117.out 0).trans rfl, (bC BK117.out 1).trans rfl⟩ (fun hHeld => ?_)
     clear hK K
     refine norm_ (a' := ?_) ?_ ?_
     rotate_left
     ·show Act.put _ (some 7) _ = _
      simp only [Act.put, lA, lZ, lS, i64_w, i32_w]
      rfl
     refine one_ (i := 0) (N := some 3) spec_l1Copy.q9 rfl rfl (one_of HT_.out (by kernel_rfl)) (by decide) (fun K hK => ?_)
     refine Kd.R_lit_step Kd.string _ 9 ?hg (N := 3) ?hd (xs := ([] : List ByteArray)) (inner := []) (ok := fun _ => True) (okp := fun _ => True) ?hr ?hp (fun _ hk => hk) trivial (Below.refl _ _) (Nat.le_refl _) (by simp) ?_; (case hd => rfl); (case hg => rfl); (case hr => first | (go_simp; done) | (go_simp; rfl)); (case hp => exact (Reps.none _ _))
     intro v120 w9 ho10 hb hg_ hnew_
     clear hg_ hnew_
     (first | rw [← Ny119.out] at ho10 | (simp only [Int.reduceToNat] at ho10; rw [← Ny119.out] at ho10))
     have n0_ := Am (rB (by (with_reducible repeat (first | apply rA | apply rN | apply rD)); exact HO127.out) hb)
     have n1_ := Am (Kd.R_lower ho10 (bZ (by repeat (first | (with_reducible first | exact HB.out | apply oA | apply pN | apply o1 | refine bS ?_ GE117.out | refine bS ?_ GE118.out) | exact HB.out))))
     have n2_ := Am (bB (g := gb117) (o := .cells #[.slice A0_0 l0_0.length c0_0, .slice A0_1 l0_1.length c0_1] 61 (0, 0)) (by (with_reducible repeat (first | refine bN ?_ _ | refine bD ?_ | refine bA ?_ _)); exact BK117.out) hb)
     have n3_ := Am (bB (g := gb118) (o := .cells #[.slice none 0 0, .slice none 0 0] 61 (0, 0)) (by (with_reducible repeat (first | refine bN ?_ _ | refine bD ?_ | refine bA ?_ _)); exact BK118.out) hb)
     have n4_ := Am (bP (by repeat (first | (with_reducible first | exact HB.out | apply oA | apply pN | apply o1 | refine bS ?_ GE117.out | refine bS ?_ GE118.out) | exact HB.out)) hb)
     clear HO127
     clear BK117
     clear BK118
     clear HB
     have HO127 := n0_
     have HO121 := n1_
     have BK117 := n2_
     have BK118 := n3_
     have HB := n4_
     clear n0_ n1_ n2_ n3_ n4_
     clear hb ho10
     refine hK.out _ _ ⟨(bC BK117.out 0).trans rfl, (bC BK117.out 1).trans rfl⟩ (fun hHeld => ?_)
     clear hK K
     refine norm_ (a' := ?_) ?_ ?_
     rotate_left
     ·show Act.put _ (some 3) _ = _
      simp only [Act.put, lA, lZ, lS, i64_w, i32_w]
      rfl
     refine one_ (i := 3) (N := some 6) spec_l1Copy.q5 rfl rfl (one_of HT_.out (by kernel_rfl)) (by decide) (fun K hK => ?_)
     refine Kd.R_append_rows_step Kd.string (w0 := w) w.heap.size (by rfl) (.tmp 3) (.tmp 5) 57 9 (.string ⟨#[]⟩) 16 rfl Try.underlying57 info9 rfl (by decide) (by omega) v120 y119 l0_0 _ _ _ (fun _ => True) (fun _ => False) rfl rfl ?aO ?aR (fun _ _ h => h) (fun _ h => h.elim) ?aF ?aB ?aS ?aL ?_
     (case aR => repeat (first | exact (cB HR0_0.out HB.out) | (with_reducible refine cA ?_ _) | (with_reducible refine cN ?_ _) | (with_reducible refine cD ?_)))
     (case aB => exact (by repeat (first | (with_reducible first | exact HB.out | apply oA | apply pN | apply o1 | refine bS ?_ GE117.out | refine bS ?_ GE118.out) | exact HB.out)))
     (case aF => exact (fun _ _ => trivial))
     (case aO => exact (by (with_reducible repeat (first | apply rA | apply rN | apply rD)); exact HO121.out))
     (case aS => exact (bZ (by repeat (first | (with_reducible first | exact HB.out | apply oA | apply pN | apply o1 | refine bS ?_ GE117.out | refine bS ?_ GE118.out) | exact HB.out))))
     (case aL => have := LMc2.out; omega)
     intro v123 w11 ho hb hg hat
     rw [← Ny122.out] at ho
     have n0_ := Am (blk_grown (g := gb117) (o := .cells #[.slice A0_0 l0_0.length c0_0, .slice A0_1 l0_1.length c0_1] 61 (0, 0)) (by (with_reducible repeat (first | refine bN ?_ _ | refine bD ?_ | refine bA ?_ _)); exact BK117.out) hg (Kd.R_ne HO121.out BK117.out (by decide)))
     have n1_ := Am (blk_grown (g := gb118) (o := .cells #[.slice none 0 0, .slice none 0 0] 61 (0, 0)) (by (with_reducible repeat (first | refine bN ?_ _ | refine bD ?_ | refine bA ?_ _)); exact BK118.out) hg (Kd.R_ne HO121.out BK118.out (by decide)))
     have n2_ := Am (Kd.R_over' (by (with_reducible repeat (first | apply rA | apply rN | apply rD)); exact HO127.out) (Kd.R_typed (by (with_reducible repeat (first | apply rA | apply rN | apply rD)); exact HO121.out)) (by decide) hg)
     have n3_ := Am (hb)
     have n4_ := Am (ho)
     clear BK117
     clear BK118
     clear HO127
     clear HB
     clear HO121
     have BK117 := n0_
     have BK118 := n1_
     have HO127 := n2_
     have HB := n3_
     have HO124 := n4_
     clear n0_ n1_ n2_ n3_ n4_
     clear ho hb hg hat
     refine hK.out _ _ ⟨(bC BK117.out 0).trans rfl, (bC BK117.out 1).trans rfl⟩ (fun hHeld => ?_)
     clear hK K
     refine norm_ (a' := ?_) ?_ ?_
     rotate_left
     ·show Act.put _ (some 6) _ = _
      simp only [Act.put, lA, lZ, lS, i64_w, i32_w]
      rfl
     exact norm_ (by simp only [putAll, Act.put, lA, lZ, lS]) (hCont (v120, v123, v126) _ ⟨hHeld, (by (with_reducible repeat (first | apply rA | apply rN | apply rD)); exact HO124.out), (by (with_reducible repeat (first | apply rA | apply rN | apply rD)); exact HO127.out), (by (with_reducible repeat (first | refine bN ?_ _ | refine bD ?_ | refine bA ?_ _)); exact BK117.out), (by (with_reducible repeat (first | refine bN ?_ _ | refine bD ?_ | refine bA ?_ _)); exact BK118.out), (by repeat (first | (with_reducible first | exact HB.out | apply oA | apply pN | apply o1 | refine bS ?_ GE117.out | refine bS ?_ GE118.out) | exact HB.out))⟩)
   rintro ⟨v120, v123, v126⟩ w12 ⟨hS_, h0_, h1_, h2_, h3_, h4_⟩
   have n0_ : Aside0 (Kd.R Kd.string 9 w12 w.heap.size (fun _ => True) v123 y122) := ⟨h0_⟩
   have n1_ : Aside0 (Kd.R (Kd.int .i64) 3 w12 w.heap.size (fun _ => True) v126 y125) := ⟨h1_⟩
   have n2_ : Aside0 (w12.heap[gb117]? = some (.cells #[.slice A0_0 l0_0.length c0_0, .slice A0_1 l0_1.length c0_1] 61 (0, 0))) := ⟨h2_⟩
   have n3_ : Aside0 (w12.heap[gb118]? = some (.cells #[.slice none 0 0, .slice none 0 0] 61 (0, 0))) := ⟨h3_⟩
   have n4_ : Aside0 (Below w.heap.size w w12) := ⟨h4_⟩
   clear BK117
   clear BK118
   clear HB
   clear h0_ h1_ h2_ h3_ h4_
   have HO124 := n0_
   have HO127 := n1_
   have BK117 := n2_
   have BK118 := n3_
   have HB := n4_
   clear n0_ n1_ n2_ n3_ n4_
   have hHeld : w12.cell? ⟨gb117, 0, none⟩ = some (.slice A0_0 l0_0.length c0_0) ∧ w12.cell? ⟨gb117, 1, none⟩ = some (.slice A0_1 l0_1.length c0_1) := hS_
   refine norm_ (a' := ?_) ?_ ?_
   rotate_left
   ·simp only [putAll, Act.put, lA, lZ, lS]
    rfl
   refine one_ (i := 7) (N := some 10) spec_l1Copy.q10 rfl rfl (one_of HT_.out (by kernel_rfl)) (by decide) (fun K hK => ?_)
   refine Kd.R_append_rows_step (Kd.int .i64) (w0 := w) w.heap.size (by rfl) (.tmp 7) (.tmp 9) 23 3 (.int .i64 0) 8 rfl Try.underlying23 info3 rfl (by decide) (by omega) v126 y125 l0_1 _ _ _ (fun _ => True) (fun _ => False) rfl rfl ?aO ?aR (fun _ _ h => h) (fun _ h => h.elim) ?aF ?aB ?aS ?aL ?_
   (case aR => repeat (first | exact (cB HR0_1.out HB.out) | (with_reducible refine cA ?_ _) | (with_reducible refine cN ?_ _) | (with_reducible refine cD ?_)))
   (case aB => exact (by repeat (first | (with_reducible first | exact HB.out | apply oA | apply pN | apply o1 | refine bS ?_ GE117.out | refine bS ?_ GE118.out) | exact HB.out)))
   (case aF => exact (fun _ _ => trivial))
   (case aO => exact (by (with_reducible repeat (first | apply rA | apply rN | apply rD)); exact HO127.out))
   (case aS => exact (bZ (by repeat (first | (with_reducible first | exact HB.out | apply oA | apply pN | apply o1 | refine bS ?_ GE117.out | refine bS ?_ GE118.out) | exact HB.out))))
   (case aL => have := LMc3.out; omega)
   intro v129 w13 ho hb hg hat
   rw [← Ny128.out] at ho
   have n0_ := Am (blk_grown (g := gb117) (o := .cells #[.slice A0_0 l0_0.length c0_0, .slice A0_1 l0_1.length c0_1] 61 (0, 0)) (by (with_reducible repeat (first | refine bN ?_ _ | refine bD ?_ | refine bA ?_ _)); exact BK117.out) hg (Kd.R_ne HO127.out BK117.out (by decide)))
   have n1_ := Am (blk_grown (g := gb118) (o := .cells #[.slice none 0 0, .slice none 0 0] 61 (0, 0)) (by (with_reducible repeat (first | refine bN ?_ _ | refine bD ?_ | refine bA ?_ _)); exact BK118.out) hg (Kd.R_ne HO127.out BK118.out (by decide)))
   have n2_ := Am (Kd.R_over' (by (with_reducible repeat (first | apply rA | apply rN | apply rD)); exact HO124.out) (Kd.R_typed (by (with_reducible repeat (first | apply rA | apply rN | apply rD)); exact HO127.out)) (by decide) hg)
   have n3_ := Am (hb)
   have n4_ := Am (ho)
   clear BK117
   clear BK118
   clear HO124
   clear HB
   clear HO127
   have BK117 := n0_
   have BK118 := n1_
   have HO124 := n2_
   have HB := n3_
   have HO130 := n4_
   clear n0_ n1_ n2_ n3_ n4_
   clear ho hb hg hat
   obtain ⟨Ao14, co14, eo14⟩ := Kd.R_slice HO130.out
   (first | subst eo14 | (injection eo14 with f1_ f2_ f3_; have f4_ := f1_.symm; have f5_ := f3_.symm; clear f1_ f2_ f3_; subst f4_; subst f5_))
   obtain ⟨Ao15, co15, eo15⟩ := Kd.R_slice HO124.out
   (first | subst eo15 | (injection eo15 with f1_ f2_ f3_; have f4_ := f1_.symm; have f5_ := f3_.symm; clear f1_ f2_ f3_; subst f4_; subst f5_))
   refine hK.out _ _ ⟨(bC BK117.out 0).trans rfl, (bC BK117.out 1).trans rfl⟩ (fun hHeld => ?_)
   clear hK K
   refine norm_ (a' := ?_) ?_ ?_
   rotate_left
   ·show Act.put _ (some 10) _ = _
    simp only [Act.put, lA, lZ, lS, i64_w, i32_w]
    rfl
   refine pure_ (i := 8) (N := some 11) (v := ?_) (a' := ?_) spec_l1Copy.q11 rfl rfl (any_of HT_.out (by kernel_rfl)) (fun _ _ _ h => h) (Or.inl ⟨by rfl, ?_⟩) ?_ ?_
   rotate_left
   ·intro w'
    go_simp
    with_reducible rfl
   rotate_left
   ·simp only [Act.put, lA, lZ, lS, i64_w, i32_w]
    rfl
   refine one_ (i := 9) (N := none) spec_l1Copy.q12 rfl rfl (one_of HT_.out (by kernel_rfl)) (by decide) (fun K hK => ?_)
   have hs16 : w13.cell? ⟨gb118, 0, none⟩ = some (.slice none 0 0) := (bC BK118.out 0).trans rfl
   have hfs16 := bF BK118.out 0
   have hns16_0 := NB117_118.out
   have hms16_0 := NB118_117.out
   have hs17 : w13.cell? ⟨gb118, 1, none⟩ = some (.slice none 0 0) := (bC BK118.out 1).trans rfl
   have hfs17 := bF BK118.out 1
   have hns17_0 := NB117_118.out
   have hms17_0 := NB118_117.out
   refine skip_ (w1 := ?_) (by rfl) rfl ?_ ?_
   rotate_left
   ·go_simp
    rfl
   refine hK.out _ _ ⟨((cell_far (p := ⟨gb118, _, none⟩) NB117_118.out _).trans (((cell_far (p := ⟨gb118, _, none⟩) NB117_118.out _).trans (hHeld.1)))), ((cell_far (p := ⟨gb118, _, none⟩) NB117_118.out _).trans (((cell_far (p := ⟨gb118, _, none⟩) NB117_118.out _).trans (hHeld.2))))⟩ (fun hHeld => ?_)
   clear hK K
   refine done_ (done_of HT_.out (by kernel_rfl)) ?_
   try go_wp2
   refine bodyPost_ret (results_cell_row rfl _ _ gb118 61 #[.slice Ao15 y122.length co15, .slice Ao14 y128.length co14] (0, 0) _ rfl (by (with_reducible repeat (first | refine bN ?_ _ | refine bD ?_ | refine bA ?_ _)); refine blk_put (cs := #[.slice Ao15 y122.length co15, .slice none 0 0]) ?_ 1 _ rfl; (with_reducible repeat (first | refine bN ?_ _ | refine bD ?_ | refine bA ?_ _)); refine blk_put (cs := #[.slice none 0 0, .slice none 0 0]) ?_ 0 _ rfl; (with_reducible repeat (first | refine bN ?_ _ | refine bD ?_ | refine bA ?_ _)); exact BK118.out) Try.underlying61 rfl (by kernel_rfl)) rfl ?_
   exact ⟨_, _, by first | rfl | (simp [errW_none, errW_some] <;> rfl) | (simp [*, errW_none, errW_some] <;> rfl), by (with_reducible repeat (first | apply rA | apply rN | apply rD)); exact rM (rF (p := ⟨gb118, 1, none⟩) (rF (p := ⟨gb118, 0, none⟩) (rT HO124.out BK118.out (by decide)) (fun _ hk => hk.2) (.slice Ao15 y122.length co15)) (fun _ hk => hk.2) (.slice Ao14 y128.length co14)) (fun _ hk => trivial), by (with_reducible repeat (first | apply rA | apply rN | apply rD)); exact rM (rF (p := ⟨gb118, 1, none⟩) (rF (p := ⟨gb118, 0, none⟩) (rT HO130.out BK118.out (by decide)) (fun _ hk => hk.2) (.slice Ao15 y122.length co15)) (fun _ hk => hk.2) (.slice Ao14 y128.length co14)) (fun _ hk => trivial), by repeat (first | (with_reducible first | exact HB.out | apply oA | apply pN | apply o1 | refine bS ?_ GE117.out | refine bS ?_ GE118.out) | exact HB.out)⟩
  ·rw [if_neg c3] at H
   exact absurd H (by simp)
 ·rw [if_neg c2] at H
  exact absurd H (by simp)

/-! ### spec_PagesKeep: function 43 -/
def spec_PagesKeep.f (k : Nat) (l0_0 : List ByteArray) (l0_1 : List Int) (a1 : Int) : Option (List ByteArray × List Int × Bool) := (spec_PagesOk.f k l0_0 l0_1).bind fun t133 => (if t133 = true then ((spec_l1Used.f l0_0 l0_1 a1).bind fun t134 => (if t134 = true then (if 0 ≤ a1 then (if a1 < (l0_1.length : Int) then (if (rd l0_1 a1) ≥ 99 then (some (([] : List ByteArray), ([] : List Int), false)) else ((spec_l1Copy.f l0_0 l0_1).bind fun bt136 => (if a1 < (bt136.2.length : Int) then (some (bt136.1, (bt136.2.set (a1 : Int).toNat (wrap64 ((rd bt136.2 a1) + 1))), true)) else (none)))) else (none)) else (none)) else (some (([] : List ByteArray), ([] : List Int), false)))) else (some (([] : List ByteArray), ([] : List Int), false)))
theorem spec_PagesKeep.mono : ∀ a0 a1 a2 k, LeO (spec_PagesKeep.f k a0 a1 a2) (spec_PagesKeep.f (k + 1) a0 a1 a2) := by
 intro a0 a1 a2 k
 unfold spec_PagesKeep.f
 repeat' first
   | (with_reducible exact spec_PagesOk.mono _ _ _)
   | (with_reducible exact LeO.refl _)
   | (with_reducible exact LeO.none _)
   | (with_reducible refine LeO.ite ?_ ?_)
   | (with_reducible refine LeO.bind ?_ (fun _ => ?_))
   | exact spec_PagesOk.mono _ _ _
   | exact LeO.none _
   | refine LeO.ite ?_ ?_
   | refine LeO.bind ?_ (fun _ => ?_)
def spec_PagesKeep.T4 : Bool × List (List Nat × List Nat) := (true, [([], []), ([0], [0]), ([], []), ([], []), ([3], [3]), ([], []), ([4, 5], [4, 5]), ([6], [6]), ([7], [7]), ([1, 2, 0, 1, 2, 3, 4, 5, 6, 7, 8], [1, 2]), ([9, 8, 0, 1, 2, 3, 4, 5, 6, 7, 8], [8, 9])])
def spec_PagesKeep.B4 : List Nat := [0, 1, 0, 0, 8, 0, 56, 120, 248, 511, 1023]
theorem spec_PagesKeep.tab4 : rtab .any (opsOf Try.f43 4) = spec_PagesKeep.T4 := by kernel_rfl
theorem spec_PagesKeep.bits4 : waitsOk spec_PagesKeep.T4.2 spec_PagesKeep.B4 = true := by kernel_rfl
abbrev spec_PagesKeep.q0 : Array Bool := #[false, false, false, false, false, false, false, false, false, false, false]
abbrev spec_PagesKeep.q1 : Array Bool := #[true, false, false, false, false, false, false, false, false, false, false]
abbrev spec_PagesKeep.q2 : Array Bool := #[true, false, true, false, false, false, false, false, false, false, false]
abbrev spec_PagesKeep.q3 : Array Bool := #[true, false, true, true, false, false, false, false, false, false, false]
abbrev spec_PagesKeep.q4 : Array Bool := #[true, false, true, true, false, true, false, false, false, false, false]
abbrev spec_PagesKeep.q5 : Array Bool := #[true, true, true, true, false, true, false, false, false, false, false]
abbrev spec_PagesKeep.q6 : Array Bool := #[true, true, true, true, true, true, false, false, false, false, false]
abbrev spec_PagesKeep.q7 : Array Bool := #[true, true, true, true, true, true, true, false, false, false, false]
abbrev spec_PagesKeep.q8 : Array Bool := #[true, true, true, true, true, true, true, true, false, false, false]
abbrev spec_PagesKeep.q9 : Array Bool := #[true, true, true, true, true, true, true, true, true, false, false]
abbrev spec_PagesKeep.q10 : Array Bool := #[true, true, true, true, true, true, true, true, true, true, false]
abbrev spec_PagesKeep.q11 : Array Bool := #[true, true, true, true, true, true, true, true, true, true, true]
set_option maxHeartbeats 2000000 in
set_option maxRecDepth 100000 in
theorem spec_PagesKeep.calls (k : Nat) (A0_0 : Option Addr) (c0_0 : Nat) (l0_0 : List ByteArray) (A0_1 : Option Addr) (c0_1 : Nat) (l0_1 : List Int) (a1 : Int) (r1 : List ByteArray) (r2 : List Int) (r3 : Bool) (w : World) (hr0_0 : Kd.C Kd.string w A0_0 l0_0.length l0_0) (hc0_0 : l0_0.length ≤ c0_0) (hr0_1 : Kd.C (Kd.int .i64) w A0_1 l0_1.length l0_1) (hc0_1 : l0_1.length ≤ c0_1) (h : spec_PagesKeep.f k l0_0 l0_1 a1 = some (r1, r2, r3)) :
  Calls Try.prog 43 #[.agg #[.slice A0_0 l0_0.length c0_0, .slice A0_1 l0_1.length c0_1], .int .i64 a1] w fun e w' => ∃ v0_ v1_ : Value, e = .returned (.tuple #[.agg #[v0_, v1_], .bool r3]) ∧ Kd.R Kd.string 9 w' w.heap.size (fun _ => True) v0_ r1 ∧ Kd.R (Kd.int .i64) 3 w' w.heap.size (fun _ => True) v1_ r2 ∧ Below w.heap.size w w' := by
 have hu61 := Try.underlying61
 have HR0_0 := Am hr0_0
 have HC0_0 := Am hc0_0
 clear hr0_0 hc0_0
 have HR0_1 := Am hr0_1
 have HC0_1 := Am hc0_1
 clear hr0_1 hc0_1
 have HB := Am (Below.refl w.heap.size w)
 have H : ((spec_PagesOk.f k l0_0 l0_1).bind fun t133 => (if t133 = true then ((spec_l1Used.f l0_0 l0_1 a1).bind fun t134 => (if t134 = true then (if 0 ≤ a1 then (if a1 < (l0_1.length : Int) then (if (rd l0_1 a1) ≥ 99 then (some (([] : List ByteArray), ([] : List Int), false)) else ((spec_l1Copy.f l0_0 l0_1).bind fun bt136 => (if a1 < (bt136.2.length : Int) then (some (bt136.1, (bt136.2.set (a1 : Int).toNat (wrap64 ((rd bt136.2 a1) + 1))), true)) else (none)))) else (none)) else (none)) else (some (([] : List ByteArray), ([] : List Int), false)))) else (some (([] : List ByteArray), ([] : List Int), false)))) = some (r1, r2, r3) := h
 clear h
 replace H := Option.bind_eq_some_iff.mp H
 obtain ⟨t133, A30, H⟩ := H
 replace H : (if t133 = true then ((spec_l1Used.f l0_0 l0_1 a1).bind fun t134 => (if t134 = true then (if 0 ≤ a1 then (if a1 < (l0_1.length : Int) then (if (rd l0_1 a1) ≥ 99 then (some (([] : List ByteArray), ([] : List Int), false)) else ((spec_l1Copy.f l0_0 l0_1).bind fun bt136 => (if a1 < (bt136.2.length : Int) then (some (bt136.1, (bt136.2.set (a1 : Int).toNat (wrap64 ((rd bt136.2 a1) + 1))), true)) else (none)))) else (none)) else (none)) else (some (([] : List ByteArray), ([] : List Int), false)))) else (some (([] : List ByteArray), ([] : List Int), false))) = some (r1, r2, r3) := H
 have A3 := Am A30
 clear A30
 by_cases c4 : t133 = true
 ·subst c4
  have H1 : ((spec_l1Used.f l0_0 l0_1 a1).bind fun t134 => (if t134 = true then (if 0 ≤ a1 then (if a1 < (l0_1.length : Int) then (if (rd l0_1 a1) ≥ 99 then (some (([] : List ByteArray), ([] : List Int), false)) else ((spec_l1Copy.f l0_0 l0_1).bind fun bt136 => (if a1 < (bt136.2.length : Int) then (some (bt136.1, (bt136.2.set (a1 : Int).toNat (wrap64 ((rd bt136.2 a1) + 1))), true)) else (none)))) else (none)) else (none)) else (some (([] : List ByteArray), ([] : List Int), false)))) = some (r1, r2, r3) := by rw [if_pos rfl] at H; exact H
  clear H
  have H := H1
  clear H1
  replace H := Option.bind_eq_some_iff.mp H
  obtain ⟨t134, A50, H⟩ := H
  replace H : (if t134 = true then (if 0 ≤ a1 then (if a1 < (l0_1.length : Int) then (if (rd l0_1 a1) ≥ 99 then (some (([] : List ByteArray), ([] : List Int), false)) else ((spec_l1Copy.f l0_0 l0_1).bind fun bt136 => (if a1 < (bt136.2.length : Int) then (some (bt136.1, (bt136.2.set (a1 : Int).toNat (wrap64 ((rd bt136.2 a1) + 1))), true)) else (none)))) else (none)) else (none)) else (some (([] : List ByteArray), ([] : List Int), false))) = some (r1, r2, r3) := H
  have A5 := Am A50
  clear A50
  by_cases c6 : t134 = true
  ·subst c6
   have H1 : (if 0 ≤ a1 then (if a1 < (l0_1.length : Int) then (if (rd l0_1 a1) ≥ 99 then (some (([] : List ByteArray), ([] : List Int), false)) else ((spec_l1Copy.f l0_0 l0_1).bind fun bt136 => (if a1 < (bt136.2.length : Int) then (some (bt136.1, (bt136.2.set (a1 : Int).toNat (wrap64 ((rd bt136.2 a1) + 1))), true)) else (none)))) else (none)) else (none)) = some (r1, r2, r3) := by rw [if_pos rfl] at H; exact H
   clear H
   have H := H1
   clear H1
   by_cases c7 : 0 ≤ a1
   ·rw [if_pos c7] at H
    have c7b0 : decide (0 ≤ a1) = true := decide_eq_true c7
    clear c7
    by_cases c8 : a1 < (l0_1.length : Int)
    ·rw [if_pos c8] at H
     have c8b0 : decide (a1 < (l0_1.length : Int)) = true := decide_eq_true c8
     clear c8
     by_cases c9 : (rd l0_1 a1) ≥ 99
     ·rw [if_pos c9] at H
      have c9b0 : decide (99 ≤ (rd l0_1 a1)) = true := decide_eq_true c9
      clear c9
      simp only [Option.some.injEq, Prod.mk.injEq] at H
      obtain ⟨rfl, rfl, rfl⟩ := H
      go_enter Try.func43, Try.ntmps43
      go_wp2_with (first | ((with_reducible refine gate_dst (N := 2) rfl ?_); refine box_event ?hg (N := 2) ?hd (cs := #[.slice A0_0 l0_0.length c0_0, .slice A0_1 l0_1.length c0_1]) (t := 61) ?hr ?_; (case hd => rfl); (case hg => rfl); (case hr => first | (go_simp; done) | (go_simp; rfl)); intro gb131 hg w10 hbox hb; have n0_ := Am (bP (by repeat (first | (with_reducible first | exact HB.out | apply oA | apply pN | apply o1) | exact HB.out)) hb); have n1_ := Am (hbox); have n2_ := Am ((by rw [hg]; exact (bZ (by repeat (first | (with_reducible first | exact HB.out | apply oA | apply pN | apply o1) | exact HB.out))) : w.heap.size ≤ gb131)); have n3_ := Am ((by rw [hg]; exact (bZ (by repeat (first | (with_reducible first | exact HB.out | apply oA | apply pN | apply o1) | exact HB.out))) : w.heap.size ≤ gb131)); clear HB; have HB := n0_; have BK131 := n1_; have GW131 := n2_; have GE131 := n3_; clear n0_ n1_ n2_ n3_; clear hb hbox hg) | ((with_reducible refine gate_dst (N := 4) rfl ?_); refine box_event ?hg (N := 4) ?hd (cs := #[.slice none 0 0, .slice none 0 0]) (t := 61) ?hr ?_; (case hd => rfl); (case hg => rfl); (case hr => first | (go_simp; done) | (go_simp; rfl)); intro gb132 hg w11 hbox hb; have n0_ := Am (bB (g := gb131) (o := .cells #[.slice A0_0 l0_0.length c0_0, .slice A0_1 l0_1.length c0_1] 61 (0, 0)) (by (with_reducible repeat (first | refine bN ?_ _ | refine bD ?_ | refine bA ?_ _)); exact BK131.out) hb); have n1_ := Am (bP (by repeat (first | (with_reducible first | exact HB.out | apply oA | apply pN | apply o1 | refine bS ?_ GE131.out) | exact HB.out)) hb); have n2_ := Am (hbox); have n3_ := Am ((by rw [hg]; exact (bZ (by repeat (first | (with_reducible first | exact HB.out | apply oA | apply pN | apply o1 | refine bS ?_ GE131.out) | exact HB.out))) : w.heap.size ≤ gb132)); have n4_ := Am ((by rw [hg]; exact (bZ (by repeat (first | (with_reducible first | exact HB.out | apply oA | apply pN | apply o1 | refine bS ?_ GE131.out) | exact HB.out))) : w.heap.size ≤ gb132)); have n5_ := Am ((by rw [hg]; exact Nat.ne_of_lt (blk_lt (g := gb131) (o := .cells #[.slice A0_0 l0_0.length c0_0, .slice A0_1 l0_1.length c0_1] 61 (0, 0)) (by (with_reducible repeat (first | refine bN ?_ _ | refine bD ?_ | refine bA ?_ _)); exact BK131.out)) : gb131 ≠ gb132)); have n6_ := Am ((by rw [hg]; exact Nat.ne_of_gt (blk_lt (g := gb131) (o := .cells #[.slice A0_0 l0_0.length c0_0, .slice A0_1 l0_1.length c0_1] 61 (0, 0)) (by (with_reducible repeat (first | refine bN ?_ _ | refine bD ?_ | refine bA ?_ _)); exact BK131.out)) : gb132 ≠ gb131)); clear BK131; clear HB; have BK131 := n0_; have HB := n1_; have BK132 := n2_; have GW132 := n3_; have GE132 := n4_; have NB131_132 := n5_; have NB132_131 := n6_; clear n0_ n1_ n2_ n3_ n4_ n5_ n6_; clear hb hbox hg; have hnb12 := NB131_132.out; have hnc12 := NB132_131.out; have hcz13_0 : w11.cell? ⟨gb131, 0, none⟩ = some (.slice A0_0 l0_0.length c0_0) := (bC BK131.out 0).trans rfl; have hcz13_1 : w11.cell? ⟨gb131, 1, none⟩ = some (.slice A0_1 l0_1.length c0_1) := (bC BK131.out 1).trans rfl; have hfz13_0 := bF BK131.out 0; have hfz13_1 := bF BK131.out 1) | ((with_reducible refine gate_callee (f := 85) rfl ?_); refine goesL_ (some 8) rfl rfl Try.func85 (by kernel_rfl) rfl #[.agg #[.slice A0_0 l0_0.length c0_0, .slice A0_1 l0_1.length c0_1]] rfl (by (try simp only [lM, lC, lN]); first | done | rfl | (simp only [lD, lT]; rfl)) ?_; (with_reducible refine (spec_PagesOk.calls k _ _ l0_0 _ _ l0_1 true _ ?side1 ?side2 ?side3 ?side4 A3.out).mono ?_); (case side1 => repeat (first | exact (cB HR0_0.out HB.out) | (with_reducible refine cA ?_ _) | (with_reducible refine cN ?_ _) | (with_reducible refine cD ?_))); (case side2 => exact HC0_0.out); (case side3 => repeat (first | exact (cB HR0_1.out HB.out) | (with_reducible refine cA ?_ _) | (with_reducible refine cN ?_ _) | (with_reducible refine cD ?_))); (case side4 => exact HC0_1.out); rintro e w14 ⟨rfl, hb⟩; refine ⟨_, rfl, ?_⟩; have n0_ := Am (bB (g := gb131) (o := .cells #[.slice A0_0 l0_0.length c0_0, .slice A0_1 l0_1.length c0_1] 61 (0, 0)) (by (with_reducible repeat (first | refine bN ?_ _ | refine bD ?_ | refine bA ?_ _)); exact BK131.out) hb); have n1_ := Am (bB (g := gb132) (o := .cells #[.slice none 0 0, .slice none 0 0] 61 (0, 0)) (by (with_reducible repeat (first | refine bN ?_ _ | refine bD ?_ | refine bA ?_ _)); exact BK132.out) hb); have n2_ := Am (bP (by repeat (first | (with_reducible first | exact HB.out | apply oA | apply pN | apply o1 | refine bS ?_ GE131.out | refine bS ?_ GE132.out) | exact HB.out)) hb); clear BK131; clear BK132; clear HB; have BK131 := n0_; have BK132 := n1_; have HB := n2_; clear n0_ n1_ n2_; (try clear hb); (try clear hb2); (try clear hk); (try clear hi); have hcz15_0 : w14.cell? ⟨gb131, 0, none⟩ = some (.slice A0_0 l0_0.length c0_0) := (bC BK131.out 0).trans rfl; have hcz15_1 : w14.cell? ⟨gb131, 1, none⟩ = some (.slice A0_1 l0_1.length c0_1) := (bC BK131.out 1).trans rfl; have hfz15_0 := bF BK131.out 0; have hfz15_1 := bF BK131.out 1) | (go_at_call 86; (with_reducible refine (spec_l1Used.calls _ _ l0_0 _ _ l0_1 a1 true _ ?side1 ?side2 ?side3 ?side4 A5.out).mono ?_); (case side1 => repeat (first | exact (cB HR0_0.out HB.out) | (with_reducible refine cA ?_ _) | (with_reducible refine cN ?_ _) | (with_reducible refine cD ?_))); (case side2 => exact HC0_0.out); (case side3 => repeat (first | exact (cB HR0_1.out HB.out) | (with_reducible refine cA ?_ _) | (with_reducible refine cN ?_ _) | (with_reducible refine cD ?_))); (case side4 => exact HC0_1.out); rintro e w16 ⟨rfl, hb⟩; have n0_ := Am (bB (g := gb131) (o := .cells #[.slice A0_0 l0_0.length c0_0, .slice A0_1 l0_1.length c0_1] 61 (0, 0)) (by (with_reducible repeat (first | refine bN ?_ _ | refine bD ?_ | refine bA ?_ _)); exact BK131.out) hb); have n1_ := Am (bB (g := gb132) (o := .cells #[.slice none 0 0, .slice none 0 0] 61 (0, 0)) (by (with_reducible repeat (first | refine bN ?_ _ | refine bD ?_ | refine bA ?_ _)); exact BK132.out) hb); have n2_ := Am (bP (by repeat (first | (with_reducible first | exact HB.out | apply oA | apply pN | apply o1 | refine bS ?_ GE131.out | refine bS ?_ GE132.out) | exact HB.out)) hb); clear BK131; clear BK132; clear HB; have BK131 := n0_; have BK132 := n1_; have HB := n2_; clear n0_ n1_ n2_; (try clear hb); (try clear hb2); (try clear hk); (try clear hi); have hcz17_0 : w16.cell? ⟨gb131, 0, none⟩ = some (.slice A0_0 l0_0.length c0_0) := (bC BK131.out 0).trans rfl; have hcz17_1 : w16.cell? ⟨gb131, 1, none⟩ = some (.slice A0_1 l0_1.length c0_1) := (bC BK131.out 1).trans rfl; have hfz17_0 := bF BK131.out 0; have hfz17_1 := bF BK131.out 1; have p135 : 0 ≤ (a1 : Int) := of_decide_eq_true (by first | (with_reducible assumption) | assumption); have q135 : a1 < (l0_1.length : Int) := of_decide_eq_true (by first | (with_reducible assumption) | assumption); obtain ⟨ad135, e135, hx135_0⟩ := Kd.at_int HR0_1.out a1 p135 q135; cases e135; replace hx135_0 := (HB.out.cell (World.block_lt_of_cell? w _ hx135_0)).trans hx135_0; replace p135 := eq_true p135; replace q135 := eq_true q135; have hcz18_0 : w16.cell? ⟨gb132, 0, none⟩ = some (.slice none 0 0) := (bC BK132.out 0).trans rfl; have hcz18_1 : w16.cell? ⟨gb132, 1, none⟩ = some (.slice none 0 0) := (bC BK132.out 1).trans rfl; have hfz18_0 := bF BK132.out 0; have hfz18_1 := bF BK132.out 1))
      refine bodyPost_ret (results_ct rfl _ _ gb132 61 #[.slice none 0 0, .slice none 0 0] (0, 0) _ rfl (by (with_reducible repeat (first | refine bN ?_ _ | refine bD ?_ | refine bA ?_ _)); refine blk_put (cs := #[.slice none 0 0, .slice none 0 0]) ?_ 1 _ rfl; (with_reducible repeat (first | refine bN ?_ _ | refine bD ?_ | refine bA ?_ _)); refine blk_put (cs := #[.slice none 0 0, .slice none 0 0]) ?_ 0 _ rfl; (with_reducible repeat (first | refine bN ?_ _ | refine bD ?_ | refine bA ?_ _)); exact BK132.out) Try.underlying61 rfl (by kernel_rfl)) rfl ?_
      exact ⟨_, _, by first | rfl | (simp [errW_none, errW_some] <;> rfl) | (simp [*, errW_none, errW_some] <;> rfl), by first | exact Kd.R_nil _ _ _ _ _ | exact Kd.N_nil _ _ _ _ _ | exact Kd.V_nil _ _ _ _ _ | exact Kd.Q_nil _ _ _ _ _ | exact Kd.S_nil _ _ _ _ _, by first | exact Kd.R_nil _ _ _ _ _ | exact Kd.N_nil _ _ _ _ _ | exact Kd.V_nil _ _ _ _ _ | exact Kd.Q_nil _ _ _ _ _ | exact Kd.S_nil _ _ _ _ _, by repeat (first | (with_reducible first | exact HB.out | apply oA | apply pN | apply o1 | refine bS ?_ GE131.out | refine bS ?_ GE132.out) | exact HB.out)⟩
     ·rw [if_neg c9] at H
      have c9b0 : decide (99 ≤ (rd l0_1 a1)) = false := decide_eq_false c9
      clear c9
      replace H := Option.bind_eq_some_iff.mp H
      obtain ⟨⟨t136, t139⟩, A190, H⟩ := H
      replace H : (if a1 < (t139.length : Int) then (some (t136, (t139.set (a1 : Int).toNat (wrap64 ((rd t139 a1) + 1))), true)) else (none)) = some (r1, r2, r3) := H
      have A19 := Am A190
      clear A190
      by_cases c20 : a1 < (t139.length : Int)
      ·rw [if_pos c20] at H
       have c20b0 : decide (a1 < (t139.length : Int)) = true := decide_eq_true c20
       clear c20
       obtain ⟨y144, hy144⟩ : ∃ y_ : List Int, y_ = (t139.set (a1 : Int).toNat (wrap64 ((rd t139 a1) + 1))) := ⟨_, rfl⟩
       replace H : (some (t136, y144, true)) = some (r1, r2, r3) := by first | (rw [hy144]; with_reducible exact H) | (have H2_ := (Option.bind_some _ _).symm.trans H; rw [hy144]; with_reducible exact H2_) | (have H2_ := (Option.bind_some _ _).symm.trans H; with_reducible exact H2_) | with_reducible exact H | (rw [hy144]; exact H) | exact H
       have Ny144 := Am hy144
       clear hy144
       simp only [Option.some.injEq, Prod.mk.injEq] at H
       obtain ⟨rfl, rfl, rfl⟩ := H
       go_enter Try.func43, Try.ntmps43
       try go_wp2_with (first | ((with_reducible refine gate_dst (N := 2) rfl ?_); refine box_event ?hg (N := 2) ?hd (cs := #[.slice A0_0 l0_0.length c0_0, .slice A0_1 l0_1.length c0_1]) (t := 61) ?hr ?_; (case hd => rfl); (case hg => rfl); (case hr => first | (go_simp; done) | (go_simp; rfl)); intro gb131 hg w22 hbox hb; have n0_ := Am (bP (by repeat (first | (with_reducible first | exact HB.out | apply oA | apply pN | apply o1) | exact HB.out)) hb); have n1_ := Am (hbox); have n2_ := Am ((by rw [hg]; exact (bZ (by repeat (first | (with_reducible first | exact HB.out | apply oA | apply pN | apply o1) | exact HB.out))) : w.heap.size ≤ gb131)); have n3_ := Am ((by rw [hg]; exact (bZ (by repeat (first | (with_reducible first | exact HB.out | apply oA | apply pN | apply o1) | exact HB.out))) : w.heap.size ≤ gb131)); clear HB; have HB := n0_; have BK131 := n1_; have GW131 := n2_; have GE131 := n3_; clear n0_ n1_ n2_ n3_; clear hb hbox hg) | ((with_reducible refine gate_dst (N := 4) rfl ?_); refine box_event ?hg (N := 4) ?hd (cs := #[.slice none 0 0, .slice none 0 0]) (t := 61) ?hr ?_; (case hd => rfl); (case hg => rfl); (case hr => first | (go_simp; done) | (go_simp; rfl)); intro gb132 hg w23 hbox hb; have n0_ := Am (bB (g := gb131) (o := .cells #[.slice A0_0 l0_0.length c0_0, .slice A0_1 l0_1.length c0_1] 61 (0, 0)) (by (with_reducible repeat (first | refine bN ?_ _ | refine bD ?_ | refine bA ?_ _)); exact BK131.out) hb); have n1_ := Am (bP (by repeat (first | (with_reducible first | exact HB.out | apply oA | apply pN | apply o1 | refine bS ?_ GE131.out) | exact HB.out)) hb); have n2_ := Am (hbox); have n3_ := Am ((by rw [hg]; exact (bZ (by repeat (first | (with_reducible first | exact HB.out | apply oA | apply pN | apply o1 | refine bS ?_ GE131.out) | exact HB.out))) : w.heap.size ≤ gb132)); have n4_ := Am ((by rw [hg]; exact (bZ (by repeat (first | (with_reducible first | exact HB.out | apply oA | apply pN | apply o1 | refine bS ?_ GE131.out) | exact HB.out))) : w.heap.size ≤ gb132)); have n5_ := Am ((by rw [hg]; exact Nat.ne_of_lt (blk_lt (g := gb131) (o := .cells #[.slice A0_0 l0_0.length c0_0, .slice A0_1 l0_1.length c0_1] 61 (0, 0)) (by (with_reducible repeat (first | refine bN ?_ _ | refine bD ?_ | refine bA ?_ _)); exact BK131.out)) : gb131 ≠ gb132)); have n6_ := Am ((by rw [hg]; exact Nat.ne_of_gt (blk_lt (g := gb131) (o := .cells #[.slice A0_0 l0_0.length c0_0, .slice A0_1 l0_1.length c0_1] 61 (0, 0)) (by (with_reducible repeat (first | refine bN ?_ _ | refine bD ?_ | refine bA ?_ _)); exact BK131.out)) : gb132 ≠ gb131)); clear BK131; clear HB; have BK131 := n0_; have HB := n1_; have BK132 := n2_; have GW132 := n3_; have GE132 := n4_; have NB131_132 := n5_; have NB132_131 := n6_; clear n0_ n1_ n2_ n3_ n4_ n5_ n6_; clear hb hbox hg; have hnb24 := NB131_132.out; have hnc24 := NB132_131.out; have hcz25_0 : w23.cell? ⟨gb131, 0, none⟩ = some (.slice A0_0 l0_0.length c0_0) := (bC BK131.out 0).trans rfl; have hcz25_1 : w23.cell? ⟨gb131, 1, none⟩ = some (.slice A0_1 l0_1.length c0_1) := (bC BK131.out 1).trans rfl; have hfz25_0 := bF BK131.out 0; have hfz25_1 := bF BK131.out 1) | ((with_reducible refine gate_callee (f := 85) rfl ?_); refine goesL_ (some 8) rfl rfl Try.func85 (by kernel_rfl) rfl #[.agg #[.slice A0_0 l0_0.length c0_0, .slice A0_1 l0_1.length c0_1]] rfl (by (try simp only [lM, lC, lN]); first | done | rfl | (simp only [lD, lT]; rfl)) ?_; (with_reducible refine (spec_PagesOk.calls k _ _ l0_0 _ _ l0_1 true _ ?side1 ?side2 ?side3 ?side4 A3.out).mono ?_); (case side1 => repeat (first | exact (cB HR0_0.out HB.out) | (with_reducible refine cA ?_ _) | (with_reducible refine cN ?_ _) | (with_reducible refine cD ?_))); (case side2 => exact HC0_0.out); (case side3 => repeat (first | exact (cB HR0_1.out HB.out) | (with_reducible refine cA ?_ _) | (with_reducible refine cN ?_ _) | (with_reducible refine cD ?_))); (case side4 => exact HC0_1.out); rintro e w26 ⟨rfl, hb⟩; refine ⟨_, rfl, ?_⟩; have n0_ := Am (bB (g := gb131) (o := .cells #[.slice A0_0 l0_0.length c0_0, .slice A0_1 l0_1.length c0_1] 61 (0, 0)) (by (with_reducible repeat (first | refine bN ?_ _ | refine bD ?_ | refine bA ?_ _)); exact BK131.out) hb); have n1_ := Am (bB (g := gb132) (o := .cells #[.slice none 0 0, .slice none 0 0] 61 (0, 0)) (by (with_reducible repeat (first | refine bN ?_ _ | refine bD ?_ | refine bA ?_ _)); exact BK132.out) hb); have n2_ := Am (bP (by repeat (first | (with_reducible first | exact HB.out | apply oA | apply pN | apply o1 | refine bS ?_ GE131.out | refine bS ?_ GE132.out) | exact HB.out)) hb); clear BK131; clear BK132; clear HB; have BK131 := n0_; have BK132 := n1_; have HB := n2_; clear n0_ n1_ n2_; (try clear hb); (try clear hb2); (try clear hk); (try clear hi); have hcz27_0 : w26.cell? ⟨gb131, 0, none⟩ = some (.slice A0_0 l0_0.length c0_0) := (bC BK131.out 0).trans rfl; have hcz27_1 : w26.cell? ⟨gb131, 1, none⟩ = some (.slice A0_1 l0_1.length c0_1) := (bC BK131.out 1).trans rfl; have hfz27_0 := bF BK131.out 0; have hfz27_1 := bF BK131.out 1) | (go_at_call 86; (with_reducible refine (spec_l1Used.calls _ _ l0_0 _ _ l0_1 a1 true _ ?side1 ?side2 ?side3 ?side4 A5.out).mono ?_); (case side1 => repeat (first | exact (cB HR0_0.out HB.out) | (with_reducible refine cA ?_ _) | (with_reducible refine cN ?_ _) | (with_reducible refine cD ?_))); (case side2 => exact HC0_0.out); (case side3 => repeat (first | exact (cB HR0_1.out HB.out) | (with_reducible refine cA ?_ _) | (with_reducible refine cN ?_ _) | (with_reducible refine cD ?_))); (case side4 => exact HC0_1.out); rintro e w28 ⟨rfl, hb⟩; have n0_ := Am (bB (g := gb131) (o := .cells #[.slice A0_0 l0_0.length c0_0, .slice A0_1 l0_1.length c0_1] 61 (0, 0)) (by (with_reducible repeat (first | refine bN ?_ _ | refine bD ?_ | refine bA ?_ _)); exact BK131.out) hb); have n1_ := Am (bB (g := gb132) (o := .cells #[.slice none 0 0, .slice none 0 0] 61 (0, 0)) (by (with_reducible repeat (first | refine bN ?_ _ | refine bD ?_ | refine bA ?_ _)); exact BK132.out) hb); have n2_ := Am (bP (by repeat (first | (with_reducible first | exact HB.out | apply oA | apply pN | apply o1 | refine bS ?_ GE131.out | refine bS ?_ GE132.out) | exact HB.out)) hb); clear BK131; clear BK132; clear HB; have BK131 := n0_; have BK132 := n1_; have HB := n2_; clear n0_ n1_ n2_; (try clear hb); (try clear hb2); (try clear hk); (try clear hi); have hcz29_0 : w28.cell? ⟨gb131, 0, none⟩ = some (.slice A0_0 l0_0.length c0_0) := (bC BK131.out 0).trans rfl; have hcz29_1 : w28.cell? ⟨gb131, 1, none⟩ = some (.slice A0_1 l0_1.length c0_1) := (bC BK131.out 1).trans rfl; have hfz29_0 := bF BK131.out 0; have hfz29_1 := bF BK131.out 1; have p135 : 0 ≤ (a1 : Int) := of_decide_eq_true (by first | (with_reducible assumption) | assumption); have q135 : a1 < (l0_1.length : Int) := of_decide_eq_true (by first | (with_reducible assumption) | assumption); obtain ⟨ad135, e135, hx135_0⟩ := Kd.at_int HR0_1.out a1 p135 q135; cases e135; replace hx135_0 := (HB.out.cell (World.block_lt_of_cell? w _ hx135_0)).trans hx135_0; replace p135 := eq_true p135; replace q135 := eq_true q135) | ((with_reducible refine gate_callee (f := 87) rfl ?_); refine goesL_ (some 26) rfl rfl Try.func87 (by kernel_rfl) rfl #[.agg #[.slice A0_0 l0_0.length c0_0, .slice (some ad135) l0_1.length c0_1]] rfl (by (try simp only [lM, lC, lN]); first | done | rfl | (simp only [lD, lT]; rfl)) ?_; (with_reducible refine (spec_l1Copy.calls _ _ l0_0 _ _ l0_1 t136 t139 _ ?side1 ?side2 ?side3 ?side4 A19.out).mono ?_); (case side1 => repeat (first | exact (cB HR0_0.out HB.out) | (with_reducible refine cA ?_ _) | (with_reducible refine cN ?_ _) | (with_reducible refine cD ?_))); (case side2 => exact HC0_0.out); (case side3 => repeat (first | exact (cB HR0_1.out HB.out) | (with_reducible refine cA ?_ _) | (with_reducible refine cN ?_ _) | (with_reducible refine cD ?_))); (case side4 => exact HC0_1.out); rintro e w30 ⟨v137, v140, rfl, ho0, ho1, hb⟩; refine ⟨_, rfl, ?_⟩; have n0_ := Am (Kd.R_lower ho0 (bZ (by repeat (first | (with_reducible first | exact HB.out | apply oA | apply pN | apply o1 | refine bS ?_ GE131.out | refine bS ?_ GE132.out) | exact HB.out)))); have n1_ := Am (Kd.R_lower ho1 (bZ (by repeat (first | (with_reducible first | exact HB.out | apply oA | apply pN | apply o1 | refine bS ?_ GE131.out | refine bS ?_ GE132.out) | exact HB.out)))); have n2_ := Am (bB (g := gb131) (o := .cells #[.slice A0_0 l0_0.length c0_0, .slice (some ad135) l0_1.length c0_1] 61 (0, 0)) (by (with_reducible repeat (first | refine bN ?_ _ | refine bD ?_ | refine bA ?_ _)); exact BK131.out) hb); have n3_ := Am (bB (g := gb132) (o := .cells #[.slice none 0 0, .slice none 0 0] 61 (0, 0)) (by (with_reducible repeat (first | refine bN ?_ _ | refine bD ?_ | refine bA ?_ _)); exact BK132.out) hb); have n4_ := Am (bP (by repeat (first | (with_reducible first | exact HB.out | apply oA | apply pN | apply o1 | refine bS ?_ GE131.out | refine bS ?_ GE132.out) | exact HB.out)) hb); clear BK131; clear BK132; clear HB; have HO138 := n0_; have HO141 := n1_; have BK131 := n2_; have BK132 := n3_; have HB := n4_; clear n0_ n1_ n2_ n3_ n4_; (try clear hb); (try clear hb2); (try clear hk); (try clear hi); (try clear ho0); (try clear ho1)) | ((with_reducible refine gate_dst (N := 6) rfl ?_); refine box_event ?hg (N := 6) ?hd (cs := #[.slice none 0 0, .slice none 0 0]) (t := 61) ?hr ?_; (case hd => rfl); (case hg => rfl); (case hr => first | (go_simp; done) | (go_simp; rfl)); intro gb142 hg w31 hbox hb; have n0_ := Am (rB (by (with_reducible repeat (first | apply rA | apply rN | apply rD)); exact HO138.out) hb); have n1_ := Am (rB (by (with_reducible repeat (first | apply rA | apply rN | apply rD)); exact HO141.out) hb); have n2_ := Am (bB (g := gb131) (o := .cells #[.slice A0_0 l0_0.length c0_0, .slice (some ad135) l0_1.length c0_1] 61 (0, 0)) (by (with_reducible repeat (first | refine bN ?_ _ | refine bD ?_ | refine bA ?_ _)); exact BK131.out) hb); have n3_ := Am (bB (g := gb132) (o := .cells #[.slice none 0 0, .slice none 0 0] 61 (0, 0)) (by (with_reducible repeat (first | refine bN ?_ _ | refine bD ?_ | refine bA ?_ _)); exact BK132.out) hb); have n4_ := Am (bP (by repeat (first | (with_reducible first | exact HB.out | apply oA | apply pN | apply o1 | refine bS ?_ GE131.out | refine bS ?_ GE132.out) | exact HB.out)) hb); have n5_ := Am (hbox); have n6_ := Am ((by rw [hg]; exact (bZ (by repeat (first | (with_reducible first | exact HB.out | apply oA | apply pN | apply o1 | refine bS ?_ GE131.out | refine bS ?_ GE132.out) | exact HB.out))) : w.heap.size ≤ gb142)); have n7_ := Am ((by rw [hg]; exact (bZ (by repeat (first | (with_reducible first | exact HB.out | apply oA | apply pN | apply o1 | refine bS ?_ GE131.out | refine bS ?_ GE132.out) | exact HB.out))) : w.heap.size ≤ gb142)); have n8_ := Am ((by rw [hg]; exact Nat.ne_of_lt (blk_lt (g := gb131) (o := .cells #[.slice A0_0 l0_0.length c0_0, .slice (some ad135) l0_1.length c0_1] 61 (0, 0)) (by (with_reducible repeat (first | refine bN ?_ _ | refine bD ?_ | refine bA ?_ _)); exact BK131.out)) : gb131 ≠ gb142)); have n9_ := Am ((by rw [hg]; exact Nat.ne_of_gt (blk_lt (g := gb131) (o := .cells #[.slice A0_0 l0_0.length c0_0, .slice (some ad135) l0_1.length c0_1] 61 (0, 0)) (by (with_reducible repeat (first | refine bN ?_ _ | refine bD ?_ | refine bA ?_ _)); exact BK131.out)) : gb142 ≠ gb131)); have n10_ := Am ((by rw [hg]; exact Nat.ne_of_lt (blk_lt (g := gb132) (o := .cells #[.slice none 0 0, .slice none 0 0] 61 (0, 0)) (by (with_reducible repeat (first | refine bN ?_ _ | refine bD ?_ | refine bA ?_ _)); exact BK132.out)) : gb132 ≠ gb142)); have n11_ := Am ((by rw [hg]; exact Nat.ne_of_gt (blk_lt (g := gb132) (o := .cells #[.slice none 0 0, .slice none 0 0] 61 (0, 0)) (by (with_reducible repeat (first | refine bN ?_ _ | refine bD ?_ | refine bA ?_ _)); exact BK132.out)) : gb142 ≠ gb132)); clear HO138; clear HO141; clear BK131; clear BK132; clear HB; have HO138 := n0_; have HO141 := n1_; have BK131 := n2_; have BK132 := n3_; have HB := n4_; have BK142 := n5_; have GW142 := n6_; have GE142 := n7_; have NB131_142 := n8_; have NB142_131 := n9_; have NB132_142 := n10_; have NB142_132 := n11_; clear n0_ n1_ n2_ n3_ n4_ n5_ n6_ n7_ n8_ n9_ n10_ n11_; clear hb hbox hg; obtain ⟨Ao32, co32, eo32⟩ := Kd.R_slice HO138.out; subst eo32; have hnb33 := NB142_131.out; have hnc33 := NB131_142.out; have hnb34 := NB142_132.out; have hnc34 := NB132_142.out; have hcz35_0 : w31.cell? ⟨gb142, 0, none⟩ = some (.slice none 0 0) := (bC BK142.out 0).trans rfl; have hcz35_1 : w31.cell? ⟨gb142, 1, none⟩ = some (.slice none 0 0) := (bC BK142.out 1).trans rfl; have hfz35_0 := bF BK142.out 0; have hfz35_1 := bF BK142.out 1; obtain ⟨Ao36, co36, eo36⟩ := Kd.R_slice HO141.out; subst eo36))
       have n0_ : Aside0 (Kd.R Kd.string 9 ((w31.setCell ⟨gb142, 0, none⟩ (.slice Ao32 t136.length co32)).setCell ⟨gb142, 1, none⟩ (.slice Ao36 t139.length co36)) w.heap.size (fun _ => True) (.slice Ao32 t136.length co32) t136) := ⟨by (with_reducible repeat (first | apply rA | apply rN | apply rD)); exact rM (rF (p := ⟨gb142, 1, none⟩) (rF (p := ⟨gb142, 0, none⟩) (rT HO138.out BK142.out (by decide)) (fun _ hk => hk.2) (.slice Ao32 t136.length co32)) (fun _ hk => hk.2) (.slice Ao36 t139.length co36)) (fun _ hk => trivial)⟩
       have n1_ : Aside0 (Kd.R (Kd.int .i64) 3 ((w31.setCell ⟨gb142, 0, none⟩ (.slice Ao32 t136.length co32)).setCell ⟨gb142, 1, none⟩ (.slice Ao36 t139.length co36)) w.heap.size (fun _ => True) (.slice Ao36 t139.length co36) t139) := ⟨by (with_reducible repeat (first | apply rA | apply rN | apply rD)); exact rM (rF (p := ⟨gb142, 1, none⟩) (rF (p := ⟨gb142, 0, none⟩) (rT HO141.out BK142.out (by decide)) (fun _ hk => hk.2) (.slice Ao32 t136.length co32)) (fun _ hk => hk.2) (.slice Ao36 t139.length co36)) (fun _ hk => trivial)⟩
       have n2_ : Aside0 (((w31.setCell ⟨gb142, 0, none⟩ (.slice Ao32 t136.length co32)).setCell ⟨gb142, 1, none⟩ (.slice Ao36 t139.length co36)).heap[gb131]? = some (.cells #[.slice A0_0 l0_0.length c0_0, .slice (some ad135) l0_1.length c0_1] 61 (0, 0))) := ⟨by (with_reducible repeat (first | refine bN ?_ _ | refine bD ?_ | refine bA ?_ _)); refine blk_far ?_ NB131_142.out _; (with_reducible repeat (first | refine bN ?_ _ | refine bD ?_ | refine bA ?_ _)); refine blk_far ?_ NB131_142.out _; (with_reducible repeat (first | refine bN ?_ _ | refine bD ?_ | refine bA ?_ _)); exact BK131.out⟩
       have n3_ : Aside0 (((w31.setCell ⟨gb142, 0, none⟩ (.slice Ao32 t136.length co32)).setCell ⟨gb142, 1, none⟩ (.slice Ao36 t139.length co36)).heap[gb132]? = some (.cells #[.slice none 0 0, .slice none 0 0] 61 (0, 0))) := ⟨by (with_reducible repeat (first | refine bN ?_ _ | refine bD ?_ | refine bA ?_ _)); refine blk_far ?_ NB132_142.out _; (with_reducible repeat (first | refine bN ?_ _ | refine bD ?_ | refine bA ?_ _)); refine blk_far ?_ NB132_142.out _; (with_reducible repeat (first | refine bN ?_ _ | refine bD ?_ | refine bA ?_ _)); exact BK132.out⟩
       have n4_ : Aside0 (((w31.setCell ⟨gb142, 0, none⟩ (.slice Ao32 t136.length co32)).setCell ⟨gb142, 1, none⟩ (.slice Ao36 t139.length co36)).heap[gb142]? = some (.cells #[.slice Ao32 t136.length co32, .slice Ao36 t139.length co36] 61 (0, 0))) := ⟨by (with_reducible repeat (first | refine bN ?_ _ | refine bD ?_ | refine bA ?_ _)); refine blk_put (cs := #[.slice Ao32 t136.length co32, .slice none 0 0]) ?_ 1 _ rfl; (with_reducible repeat (first | refine bN ?_ _ | refine bD ?_ | refine bA ?_ _)); refine blk_put (cs := #[.slice none 0 0, .slice none 0 0]) ?_ 0 _ rfl; (with_reducible repeat (first | refine bN ?_ _ | refine bD ?_ | refine bA ?_ _)); exact BK142.out⟩
       have n5_ : Aside0 (Below w.heap.size w ((w31.setCell ⟨gb142, 0, none⟩ (.slice Ao32 t136.length co32)).setCell ⟨gb142, 1, none⟩ (.slice Ao36 t139.length co36))) := ⟨by repeat (first | (with_reducible first | exact HB.out | apply oA | apply pN | apply o1 | refine bS ?_ GE131.out | refine bS ?_ GE132.out | refine bS ?_ GE142.out) | exact HB.out)⟩
       (try clear HO138)
       (try clear HO141)
       (try clear BK131)
       (try clear BK132)
       (try clear BK142)
       (try clear HB)
       generalize ((w31.setCell ⟨gb142, 0, none⟩ (.slice Ao32 t136.length co32)).setCell ⟨gb142, 1, none⟩ (.slice Ao36 t139.length co36)) = w37 at n0_ n1_ n2_ n3_ n4_ n5_ ⊢
       have HO138 := n0_
       have HO141 := n1_
       have BK131 := n2_
       have BK132 := n3_
       have BK142 := n4_
       have HB := n5_
       clear n0_ n1_ n2_ n3_ n4_ n5_
       have n0_ := Am (rD HO138.out)
       have n1_ := Am (rD HO141.out)
       have n2_ := Am (bD BK131.out)
       have n3_ := Am (bD BK132.out)
       have n4_ := Am (bD BK142.out)
       have n5_ := Am (o1 HB.out)
       clear HO138
       clear HO141
       clear BK131
       clear BK132
       clear BK142
       clear HB
       have HO138 := n0_
       have HO141 := n1_
       have BK131 := n2_
       have BK132 := n3_
       have BK142 := n4_
       have HB := n5_
       clear n0_ n1_ n2_ n3_ n4_ n5_
       have p143 : 0 ≤ (a1 : Int) := of_decide_eq_true (by first | (with_reducible assumption) | assumption)
       have q143 : a1 < (t139.length : Int) := of_decide_eq_true (by first | (with_reducible assumption) | assumption)
       obtain ⟨ad143, e143, hx143_0⟩ := Kd.at_int (Kd.R_reads' HO141.out).2.2 a1 p143 q143
       cases e143
       replace p143 := eq_true p143
       replace q143 := eq_true q143
       have p21 : 0 ≤ (a1 : Int) := of_decide_eq_true (by first | (with_reducible assumption) | assumption)
       have q21 : (a1 : Int) < ((t139.length : Int) : Int) := of_decide_eq_true (by first | (with_reducible assumption) | assumption)
       obtain ⟨go21, co21, eo21, gb21, gl21, cl21, HG21⟩ := Kd.R_form HO141.out (by omega)
       (first | cases eo21 | (injection eo21 with ea_ en_ ec_; (first | subst ea_ | (injection ea_ with ea_; subst ea_)); subst ec_; clear en_))
       have GB21 := Am gb21
       have GG21 := Am HG21
       clear gb21 gl21 HG21
       (first | simp only [add_plain] at hx143_0 | skip)
       obtain ⟨hx21_0, hf21_0⟩ := Kd.R_celln 0 HO141.out (a1 : Int) p21 q21
       replace p21 := eq_true p21
       replace q21 := eq_true q21
       have HP39 := Kd.R_putn HO141.out (a1 : Int) (wrap64 ((rd t139 a1) + 1))
       rw [← Ny144.out] at HP39
       have HQ39 := Am HP39
       clear HP39
       refine start_ (n := 11) (S := fun w' => w'.cell? ⟨gb142, 0, none⟩ = some (.slice Ao32 t136.length co32) ∧ w'.cell? ⟨gb142, 1, none⟩ = some (.slice (some ⟨go21, 0, none⟩) t139.length co36) ∧ w'.cell? ⟨go21, (a1).toNat, none⟩ = some (.int .i64 (rd t139 a1))) (ds := [10]) spec_PagesKeep.q0 (by kernel_rfl) rfl rfl ⟨(bC BK142.out 0).trans rfl, (bC BK142.out 1).trans rfl, hx143_0⟩ (fun hHeld => ?_); refine with_tabW spec_PagesKeep.tab4 spec_PagesKeep.bits4 (fun HT_ HW_ => ?_)
       generalize w37.drew = w38 at HO138 HO141 BK131 BK132 BK142 HB GG21 HQ39 hf21_0 hx143_0 hx21_0 hHeld ⊢
       refine pure_ (i := 0) (N := some 27) (v := ?_) (a' := ?_) spec_PagesKeep.q1 rfl rfl (any_of HT_.out (by kernel_rfl)) (fun _ _ _ h => h) (Or.inl ⟨by rfl, ?_⟩) ?_ ?_
       rotate_left
       ·intro w'
        go_simp
        with_reducible rfl
       rotate_left
       ·simp only [Act.put, lA, lZ, lS, i64_w, i32_w]
        rfl
       refine pure_ (i := 2) (N := some 29) (v := ?_) (a' := ?_) spec_PagesKeep.q2 rfl rfl (any_of HT_.out (by kernel_rfl)) (fun _ _ _ h => h) (Or.inl ⟨by rfl, ?_⟩) ?_ ?_
       rotate_left
       ·intro w'
        go_simp
        with_reducible rfl
       rotate_left
       ·simp only [Act.put, lA, lZ, lS, i64_w, i32_w]
        rfl
       refine pure_ (i := 3) (N := some 30) (v := ?_) (a' := ?_) spec_PagesKeep.q3 rfl rfl (any_of HT_.out (by kernel_rfl)) (fun _ _ _ h => h) (Or.inl ⟨by rfl, ?_⟩) ?_ ?_
       rotate_left
       ·intro w'
        go_simp
        with_reducible rfl
       rotate_left
       ·simp only [Act.put, lA, lZ, lS, i64_w, i32_w]
        rfl
       refine pure_ (i := 5) (N := some 32) (v := ?_) (a' := ?_) spec_PagesKeep.q4 rfl rfl (any_of HT_.out (by kernel_rfl)) (fun _ _ _ h => h) (Or.inl ⟨by rfl, ?_⟩) ?_ ?_
       rotate_left
       ·intro w'
        go_simp
        with_reducible rfl
       rotate_left
       ·simp only [Act.put, lA, lZ, lS, i64_w, i32_w]
        rfl
       refine take_ (i := 1) (N := some 28) (v := ?_) (a' := ?_) spec_PagesKeep.q5 rfl rfl (take_ofW HT_.out HW_.out (by kernel_rfl)) (fun _ _ _ h => h) (Or.inl ⟨by rfl, ?_⟩) hHeld ?_ ?_
       rotate_left
       ·rintro w' ⟨s0, s1, s2⟩
        go_simp
        with_reducible rfl
       rotate_left
       ·simp only [Act.put, lA, lZ, lS, i64_w, i32_w]
        rfl
       refine take_ (i := 4) (N := some 31) (v := ?_) (a' := ?_) spec_PagesKeep.q6 rfl rfl (take_ofW HT_.out HW_.out (by kernel_rfl)) (fun _ _ _ h => h) (Or.inl ⟨by rfl, ?_⟩) hHeld ?_ ?_
       rotate_left
       ·rintro w' ⟨s0, s1, s2⟩
        go_simp
        with_reducible rfl
       rotate_left
       ·simp only [Act.put, lA, lZ, lS, i64_w, i32_w]
        rfl
       refine pure_ (i := 6) (N := some 33) (v := ?_) (a' := ?_) spec_PagesKeep.q7 rfl rfl (any_of HT_.out (by kernel_rfl)) (fun _ _ _ h => h) (Or.inl ⟨by rfl, ?_⟩) ?_ ?_
       rotate_left
       ·intro w'
        go_simp
        with_reducible rfl
       rotate_left
       ·simp only [Act.put, lA, lZ, lS, i64_w, i32_w]
        rfl
       refine take_ (i := 7) (N := some 34) (v := ?_) (a' := ?_) spec_PagesKeep.q8 rfl rfl (take_ofW HT_.out HW_.out (by kernel_rfl)) (fun _ _ _ h => h) (Or.inl ⟨by rfl, ?_⟩) hHeld ?_ ?_
       rotate_left
       ·rintro w' ⟨s0, s1, s2⟩
        go_simp
        with_reducible rfl
       rotate_left
       ·simp only [Act.put, lA, lZ, lS, i64_w, i32_w]
        rfl
       refine pure_ (i := 8) (N := some 35) (v := ?_) (a' := ?_) spec_PagesKeep.q9 rfl rfl (any_of HT_.out (by kernel_rfl)) (fun _ _ _ h => h) (Or.inl ⟨by rfl, ?_⟩) ?_ ?_
       rotate_left
       ·intro w'
        go_simp
        with_reducible rfl
       rotate_left
       ·simp only [Act.put, lA, lZ, lS, i64_w, i32_w]
        rfl
       refine pure_ (i := 9) (N := some 36) (v := ?_) (a' := ?_) spec_PagesKeep.q10 rfl rfl (any_of HT_.out (by kernel_rfl)) (fun _ _ _ h => h) (Or.inl ⟨by rfl, ?_⟩) ?_ ?_
       rotate_left
       ·intro w'
        go_simp
        with_reducible rfl
       rotate_left
       ·simp only [Act.put, lA, lZ, lS, i64_w, i32_w]
        rfl
       refine last_ (i := 10) (N := none) spec_PagesKeep.q11 rfl rfl (one_of HT_.out (by kernel_rfl)) (by decide) (fun K hK => ?_)
       refine skip_ (w1 := ?_) (by rfl) rfl ?_ ?_
       rotate_left
       ·go_simp
        rfl
       refine hK.out _ _ ?_
       clear hK K
       refine done_ (done_of HT_.out (by kernel_rfl)) ?_
       have n0_ : Aside0 (Kd.R Kd.string 9 (w38.setCell ⟨go21, (a1 : Int).toNat, none⟩ (.int .i64 (wrap64 ((rd t139 a1) + 1)))) w.heap.size (fun _ => True) (.slice Ao32 t136.length co32) t136) := ⟨by (with_reducible repeat (first | apply rA | apply rN | apply rD)); exact rM (rF (p := ⟨go21, (a1 : Int).toNat, none⟩) (rT HO138.out GG21.out (by decide)) (fun _ hk => hk.2) (.int .i64 (wrap64 ((rd t139 a1) + 1)))) (fun _ hk => trivial)⟩
       have n1_ : Aside0 (Kd.R (Kd.int .i64) 3 (w38.setCell ⟨go21, (a1 : Int).toNat, none⟩ (.int .i64 (wrap64 ((rd t139 a1) + 1)))) w.heap.size (fun _ => True) (.slice (some ⟨go21, 0, none⟩) t139.length co36) y144) := ⟨by (with_reducible repeat (first | apply rA | apply rN | apply rD)); exact HQ39.out⟩
       have n2_ : Aside0 ((w38.setCell ⟨go21, (a1 : Int).toNat, none⟩ (.int .i64 (wrap64 ((rd t139 a1) + 1)))).heap[gb131]? = some (.cells #[.slice A0_0 l0_0.length c0_0, .slice (some ad135) l0_1.length c0_1] 61 (0, 0))) := ⟨by (with_reducible repeat (first | refine bN ?_ _ | refine bD ?_ | refine bA ?_ _)); refine blk_far ?_ (by have h_ := Kd.R_ne HO141.out BK131.out (by decide); intro e_; exact h_ (by rw [e_]; rfl)) _; (with_reducible repeat (first | refine bN ?_ _ | refine bD ?_ | refine bA ?_ _)); exact BK131.out⟩
       have n3_ : Aside0 ((w38.setCell ⟨go21, (a1 : Int).toNat, none⟩ (.int .i64 (wrap64 ((rd t139 a1) + 1)))).heap[gb132]? = some (.cells #[.slice none 0 0, .slice none 0 0] 61 (0, 0))) := ⟨by (with_reducible repeat (first | refine bN ?_ _ | refine bD ?_ | refine bA ?_ _)); refine blk_far ?_ (by have h_ := Kd.R_ne HO141.out BK132.out (by decide); intro e_; exact h_ (by rw [e_]; rfl)) _; (with_reducible repeat (first | refine bN ?_ _ | refine bD ?_ | refine bA ?_ _)); exact BK132.out⟩
       have n4_ : Aside0 ((w38.setCell ⟨go21, (a1 : Int).toNat, none⟩ (.int .i64 (wrap64 ((rd t139 a1) + 1)))).heap[gb142]? = some (.cells #[.slice Ao32 t136.length co32, .slice (some ⟨go21, 0, none⟩) t139.length co36] 61 (0, 0))) := ⟨by (with_reducible repeat (first | refine bN ?_ _ | refine bD ?_ | refine bA ?_ _)); refine blk_far ?_ (by have h_ := Kd.R_ne HO141.out BK142.out (by decide); intro e_; exact h_ (by rw [e_]; rfl)) _; (with_reducible repeat (first | refine bN ?_ _ | refine bD ?_ | refine bA ?_ _)); exact BK142.out⟩
       have n5_ : Aside0 (Below w.heap.size w (w38.setCell ⟨go21, (a1 : Int).toNat, none⟩ (.int .i64 (wrap64 ((rd t139 a1) + 1))))) := ⟨by repeat (first | (with_reducible first | exact HB.out | apply oA | apply pN | apply o1 | refine bS ?_ GB21.out | refine bS ?_ GE131.out | refine bS ?_ GE132.out | refine bS ?_ GE142.out) | exact HB.out)⟩
       (try clear HO138)
       (try clear HO141)
       (try clear BK131)
       (try clear BK132)
       (try clear BK142)
       (try clear HB)
       generalize (w38.setCell ⟨go21, (a1 : Int).toNat, none⟩ (.int .i64 (wrap64 ((rd t139 a1) + 1)))) = w40 at n0_ n1_ n2_ n3_ n4_ n5_ ⊢
       have HO138 := n0_
       have HO141 := n1_
       have BK131 := n2_
       have BK132 := n3_
       have BK142 := n4_
       have HB := n5_
       clear n0_ n1_ n2_ n3_ n4_ n5_
       have hcz41_0 : w40.cell? ⟨gb142, 0, none⟩ = some (.slice Ao32 t136.length co32) := (bC BK142.out 0).trans rfl
       have hcz41_1 : w40.cell? ⟨gb142, 1, none⟩ = some (.slice (some ⟨go21, 0, none⟩) t139.length co36) := (bC BK142.out 1).trans rfl
       have hfz41_0 := bF BK142.out 0
       have hfz41_1 := bF BK142.out 1
       have hcz42_0 : w40.cell? ⟨gb132, 0, none⟩ = some (.slice none 0 0) := (bC BK132.out 0).trans rfl
       have hcz42_1 : w40.cell? ⟨gb132, 1, none⟩ = some (.slice none 0 0) := (bC BK132.out 1).trans rfl
       have hfz42_0 := bF BK132.out 0
       have hfz42_1 := bF BK132.out 1
       try go_wp2
       refine bodyPost_ret (results_ct rfl _ _ gb132 61 #[.slice Ao32 t136.length co32, .slice (some ⟨go21, 0, none⟩) t139.length co36] (0, 0) _ rfl (by (with_reducible repeat (first | refine bN ?_ _ | refine bD ?_ | refine bA ?_ _)); refine blk_put (cs := #[.slice Ao32 t136.length co32, .slice none 0 0]) ?_ 1 _ rfl; (with_reducible repeat (first | refine bN ?_ _ | refine bD ?_ | refine bA ?_ _)); refine blk_put (cs := #[.slice none 0 0, .slice none 0 0]) ?_ 0 _ rfl; (with_reducible repeat (first | refine bN ?_ _ | refine bD ?_ | refine bA ?_ _)); exact BK132.out) Try.underlying61 rfl (by kernel_rfl)) rfl ?_
       exact ⟨_, _, by first | rfl | (simp [errW_none, errW_some] <;> rfl) | (simp [*, errW_none, errW_some] <;> rfl), by (with_reducible repeat (first | apply rA | apply rN | apply rD)); exact rM (rF (p := ⟨gb132, 1, none⟩) (rF (p := ⟨gb132, 0, none⟩) (rT HO138.out BK132.out (by decide)) (fun _ hk => hk.2) (.slice Ao32 t136.length co32)) (fun _ hk => hk.2) (.slice (some ⟨go21, 0, none⟩) t139.length co36)) (fun _ hk => trivial), by (with_reducible repeat (first | apply rA | apply rN | apply rD)); exact rM (rF (p := ⟨gb132, 1, none⟩) (rF (p := ⟨gb132, 0, none⟩) (rT HO141.out BK132.out (by decide)) (fun _ hk => hk.2) (.slice Ao32 t136.length co32)) (fun _ hk => hk.2) (.slice (some ⟨go21, 0, none⟩) t139.length co36)) (fun _ hk => trivial), by repeat (first | (with_reducible first | exact HB.out | apply oA | apply pN | apply o1 | refine bS ?_ GE131.out | refine bS ?_ GE132.out | refine bS ?_ GE142.out) | exact HB.out)⟩
      ·rw [if_neg c20] at H
       exact absurd H (by simp)
    ·rw [if_neg c8] at H
     exact absurd H (by simp)
   ·rw [if_neg c7] at H
    exact absurd H (by simp)
  ·replace c6 := Bool.eq_false_iff.mpr c6
   subst c6
   have H1 : (some (([] : List ByteArray), ([] : List Int), false)) = some (r1, r2, r3) := by rw [if_neg (show ¬ (false = true) by decide)] at H; exact H
   clear H
   have H := H1
   clear H1
   simp only [Option.some.injEq, Prod.mk.injEq] at H
   obtain ⟨rfl, rfl, rfl⟩ := H
   go_enter Try.func43, Try.ntmps43
   go_wp2_with (first | ((with_reducible refine gate_dst (N := 2) rfl ?_); refine box_event ?hg (N := 2) ?hd (cs := #[.slice A0_0 l0_0.length c0_0, .slice A0_1 l0_1.length c0_1]) (t := 61) ?hr ?_; (case hd => rfl); (case hg => rfl); (case hr => first | (go_simp; done) | (go_simp; rfl)); intro gb131 hg w43 hbox hb; have n0_ := Am (bP (by repeat (first | (with_reducible first | exact HB.out | apply oA | apply pN | apply o1) | exact HB.out)) hb); have n1_ := Am (hbox); have n2_ := Am ((by rw [hg]; exact (bZ (by repeat (first | (with_reducible first | exact HB.out | apply oA | apply pN | apply o1) | exact HB.out))) : w.heap.size ≤ gb131)); have n3_ := Am ((by rw [hg]; exact (bZ (by repeat (first | (with_reducible first | exact HB.out | apply oA | apply pN | apply o1) | exact HB.out))) : w.heap.size ≤ gb131)); clear HB; have HB := n0_; have BK131 := n1_; have GW131 := n2_; have GE131 := n3_; clear n0_ n1_ n2_ n3_; clear hb hbox hg) | ((with_reducible refine gate_dst (N := 4) rfl ?_); refine box_event ?hg (N := 4) ?hd (cs := #[.slice none 0 0, .slice none 0 0]) (t := 61) ?hr ?_; (case hd => rfl); (case hg => rfl); (case hr => first | (go_simp; done) | (go_simp; rfl)); intro gb132 hg w44 hbox hb; have n0_ := Am (bB (g := gb131) (o := .cells #[.slice A0_0 l0_0.length c0_0, .slice A0_1 l0_1.length c0_1] 61 (0, 0)) (by (with_reducible repeat (first | refine bN ?_ _ | refine bD ?_ | refine bA ?_ _)); exact BK131.out) hb); have n1_ := Am (bP (by repeat (first | (with_reducible first | exact HB.out | apply oA | apply pN | apply o1 | refine bS ?_ GE131.out) | exact HB.out)) hb); have n2_ := Am (hbox); have n3_ := Am ((by rw [hg]; exact (bZ (by repeat (first | (with_reducible first | exact HB.out | apply oA | apply pN | apply o1 | refine bS ?_ GE131.out) | exact HB.out))) : w.heap.size ≤ gb132)); have n4_ := Am ((by rw [hg]; exact (bZ (by repeat (first | (with_reducible first | exact HB.out | apply oA | apply pN | apply o1 | refine bS ?_ GE131.out) | exact HB.out))) : w.heap.size ≤ gb132)); have n5_ := Am ((by rw [hg]; exact Nat.ne_of_lt (blk_lt (g := gb131) (o := .cells #[.slice A0_0 l0_0.length c0_0, .slice A0_1 l0_1.length c0_1] 61 (0, 0)) (by (with_reducible repeat (first | refine bN ?_ _ | refine bD ?_ | refine bA ?_ _)); exact BK131.out)) : gb131 ≠ gb132)); have n6_ := Am ((by rw [hg]; exact Nat.ne_of_gt (blk_lt (g := gb131) (o := .cells #[.slice A0_0 l0_0.length c0_0, .slice A0_1 l0_1.length c0_1] 61 (0, 0)) (by (with_reducible repeat (first | refine bN ?_ _ | refine bD ?_ | refine bA ?_ _)); exact BK131.out)) : gb132 ≠ gb131)); clear BK131; clear HB; have BK131 := n0_; have HB := n1_; have BK132 := n2_; have GW132 := n3_; have GE132 := n4_; have NB131_132 := n5_; have NB132_131 := n6_; clear n0_ n1_ n2_ n3_ n4_ n5_ n6_; clear hb hbox hg; have hnb45 := NB131_132.out; have hnc45 := NB132_131.out; have hcz46_0 : w44.cell? ⟨gb131, 0, none⟩ = some (.slice A0_0 l0_0.length c0_0) := (bC BK131.out 0).trans rfl; have hcz46_1 : w44.cell? ⟨gb131, 1, none⟩ = some (.slice A0_1 l0_1.length c0_1) := (bC BK131.out 1).trans rfl; have hfz46_0 := bF BK131.out 0; have hfz46_1 := bF BK131.out 1) | ((with_reducible refine gate_callee (f := 85) rfl ?_); refine goesL_ (some 8) rfl rfl Try.func85 (by kernel_rfl) rfl #[.agg #[.slice A0_0 l0_0.length c0_0, .slice A0_1 l0_1.length c0_1]] rfl (by (try simp only [lM, lC, lN]); first | done | rfl | (simp only [lD, lT]; rfl)) ?_; (with_reducible refine (spec_PagesOk.calls k _ _ l0_0 _ _ l0_1 true _ ?side1 ?side2 ?side3 ?side4 A3.out).mono ?_); (case side1 => repeat (first | exact (cB HR0_0.out HB.out) | (with_reducible refine cA ?_ _) | (with_reducible refine cN ?_ _) | (with_reducible refine cD ?_))); (case side2 => exact HC0_0.out); (case side3 => repeat (first | exact (cB HR0_1.out HB.out) | (with_reducible refine cA ?_ _) | (with_reducible refine cN ?_ _) | (with_reducible refine cD ?_))); (case side4 => exact HC0_1.out); rintro e w47 ⟨rfl, hb⟩; refine ⟨_, rfl, ?_⟩; have n0_ := Am (bB (g := gb131) (o := .cells #[.slice A0_0 l0_0.length c0_0, .slice A0_1 l0_1.length c0_1] 61 (0, 0)) (by (with_reducible repeat (first | refine bN ?_ _ | refine bD ?_ | refine bA ?_ _)); exact BK131.out) hb); have n1_ := Am (bB (g := gb132) (o := .cells #[.slice none 0 0, .slice none 0 0] 61 (0, 0)) (by (with_reducible repeat (first | refine bN ?_ _ | refine bD ?_ | refine bA ?_ _)); exact BK132.out) hb); have n2_ := Am (bP (by repeat (first | (with_reducible first | exact HB.out | apply oA | apply pN | apply o1 | refine bS ?_ GE131.out | refine bS ?_ GE132.out) | exact HB.out)) hb); clear BK131; clear BK132; clear HB; have BK131 := n0_; have BK132 := n1_; have HB := n2_; clear n0_ n1_ n2_; (try clear hb); (try clear hb2); (try clear hk); (try clear hi); have hcz48_0 : w47.cell? ⟨gb131, 0, none⟩ = some (.slice A0_0 l0_0.length c0_0) := (bC BK131.out 0).trans rfl; have hcz48_1 : w47.cell? ⟨gb131, 1, none⟩ = some (.slice A0_1 l0_1.length c0_1) := (bC BK131.out 1).trans rfl; have hfz48_0 := bF BK131.out 0; have hfz48_1 := bF BK131.out 1) | (go_at_call 86; (with_reducible refine (spec_l1Used.calls _ _ l0_0 _ _ l0_1 a1 false _ ?side1 ?side2 ?side3 ?side4 A5.out).mono ?_); (case side1 => repeat (first | exact (cB HR0_0.out HB.out) | (with_reducible refine cA ?_ _) | (with_reducible refine cN ?_ _) | (with_reducible refine cD ?_))); (case side2 => exact HC0_0.out); (case side3 => repeat (first | exact (cB HR0_1.out HB.out) | (with_reducible refine cA ?_ _) | (with_reducible refine cN ?_ _) | (with_reducible refine cD ?_))); (case side4 => exact HC0_1.out); rintro e w49 ⟨rfl, hb⟩; have n0_ := Am (bB (g := gb131) (o := .cells #[.slice A0_0 l0_0.length c0_0, .slice A0_1 l0_1.length c0_1] 61 (0, 0)) (by (with_reducible repeat (first | refine bN ?_ _ | refine bD ?_ | refine bA ?_ _)); exact BK131.out) hb); have n1_ := Am (bB (g := gb132) (o := .cells #[.slice none 0 0, .slice none 0 0] 61 (0, 0)) (by (with_reducible repeat (first | refine bN ?_ _ | refine bD ?_ | refine bA ?_ _)); exact BK132.out) hb); have n2_ := Am (bP (by repeat (first | (with_reducible first | exact HB.out | apply oA | apply pN | apply o1 | refine bS ?_ GE131.out | refine bS ?_ GE132.out) | exact HB.out)) hb); clear BK131; clear BK132; clear HB; have BK131 := n0_; have BK132 := n1_; have HB := n2_; clear n0_ n1_ n2_; (try clear hb); (try clear hb2); (try clear hk); (try clear hi); have hcz50_0 : w49.cell? ⟨gb132, 0, none⟩ = some (.slice none 0 0) := (bC BK132.out 0).trans rfl; have hcz50_1 : w49.cell? ⟨gb132, 1, none⟩ = some (.slice none 0 0) := (bC BK132.out 1).trans rfl; have hfz50_0 := bF BK132.out 0; have hfz50_1 := bF BK132.out 1))
   refine bodyPost_ret (results_ct rfl _ _ gb132 61 #[.slice none 0 0, .slice none 0 0] (0, 0) _ rfl (by (with_reducible repeat (first | refine bN ?_ _ | refine bD ?_ | refine bA ?_ _)); refine blk_put (cs := #[.slice none 0 0, .slice none 0 0]) ?_ 1 _ rfl; (with_reducible repeat (first | refine bN ?_ _ | refine bD ?_ | refine bA ?_ _)); refine blk_put (cs := #[.slice none 0 0, .slice none 0 0]) ?_ 0 _ rfl; (with_reducible repeat (first | refine bN ?_ _ | refine bD ?_ | refine bA ?_ _)); exact BK132.out) Try.underlying61 rfl (by kernel_rfl)) rfl ?_
   exact ⟨_, _, by first | rfl | (simp [errW_none, errW_some] <;> rfl) | (simp [*, errW_none, errW_some] <;> rfl), by first | exact Kd.R_nil _ _ _ _ _ | exact Kd.N_nil _ _ _ _ _ | exact Kd.V_nil _ _ _ _ _ | exact Kd.Q_nil _ _ _ _ _ | exact Kd.S_nil _ _ _ _ _, by first | exact Kd.R_nil _ _ _ _ _ | exact Kd.N_nil _ _ _ _ _ | exact Kd.V_nil _ _ _ _ _ | exact Kd.Q_nil _ _ _ _ _ | exact Kd.S_nil _ _ _ _ _, by repeat (first | (with_reducible first | exact HB.out | apply oA | apply pN | apply o1 | refine bS ?_ GE131.out | refine bS ?_ GE132.out) | exact HB.out)⟩
 ·replace c4 := Bool.eq_false_iff.mpr c4
  subst c4
  have H1 : (some (([] : List ByteArray), ([] : List Int), false)) = some (r1, r2, r3) := by rw [if_neg (show ¬ (false = true) by decide)] at H; exact H
  clear H
  have H := H1
  clear H1
  simp only [Option.some.injEq, Prod.mk.injEq] at H
  obtain ⟨rfl, rfl, rfl⟩ := H
  go_enter Try.func43, Try.ntmps43
  go_wp2_with (first | ((with_reducible refine gate_dst (N := 2) rfl ?_); refine box_event ?hg (N := 2) ?hd (cs := #[.slice A0_0 l0_0.length c0_0, .slice A0_1 l0_1.length c0_1]) (t := 61) ?hr ?_; (case hd => rfl); (case hg => rfl); (case hr => first | (go_simp; done) | (go_simp; rfl)); intro gb131 hg w51 hbox hb; have n0_ := Am (bP (by repeat (first | (with_reducible first | exact HB.out | apply oA | apply pN | apply o1) | exact HB.out)) hb); have n1_ := Am (hbox); have n2_ := Am ((by rw [hg]; exact (bZ (by repeat (first | (with_reducible first | exact HB.out | apply oA | apply pN | apply o1) | exact HB.out))) : w.heap.size ≤ gb131)); have n3_ := Am ((by rw [hg]; exact (bZ (by repeat (first | (with_reducible first | exact HB.out | apply oA | apply pN | apply o1) | exact HB.out))) : w.heap.size ≤ gb131)); clear HB; have HB := n0_; have BK131 := n1_; have GW131 := n2_; have GE131 := n3_; clear n0_ n1_ n2_ n3_; clear hb hbox hg) | ((with_reducible refine gate_dst (N := 4) rfl ?_); refine box_event ?hg (N := 4) ?hd (cs := #[.slice none 0 0, .slice none 0 0]) (t := 61) ?hr ?_; (case hd => rfl); (case hg => rfl); (case hr => first | (go_simp; done) | (go_simp; rfl)); intro gb132 hg w52 hbox hb; have n0_ := Am (bB (g := gb131) (o := .cells #[.slice A0_0 l0_0.length c0_0, .slice A0_1 l0_1.length c0_1] 61 (0, 0)) (by (with_reducible repeat (first | refine bN ?_ _ | refine bD ?_ | refine bA ?_ _)); exact BK131.out) hb); have n1_ := Am (bP (by repeat (first | (with_reducible first | exact HB.out | apply oA | apply pN | apply o1 | refine bS ?_ GE131.out) | exact HB.out)) hb); have n2_ := Am (hbox); have n3_ := Am ((by rw [hg]; exact (bZ (by repeat (first | (with_reducible first | exact HB.out | apply oA | apply pN | apply o1 | refine bS ?_ GE131.out) | exact HB.out))) : w.heap.size ≤ gb132)); have n4_ := Am ((by rw [hg]; exact (bZ (by repeat (first | (with_reducible first | exact HB.out | apply oA | apply pN | apply o1 | refine bS ?_ GE131.out) | exact HB.out))) : w.heap.size ≤ gb132)); have n5_ := Am ((by rw [hg]; exact Nat.ne_of_lt (blk_lt (g := gb131) (o := .cells #[.slice A0_0 l0_0.length c0_0, .slice A0_1 l0_1.length c0_1] 61 (0, 0)) (by (with_reducible repeat (first | refine bN ?_ _ | refine bD ?_ | refine bA ?_ _)); exact BK131.out)) : gb131 ≠ gb132)); have n6_ := Am ((by rw [hg]; exact Nat.ne_of_gt (blk_lt (g := gb131) (o := .cells #[.slice A0_0 l0_0.length c0_0, .slice A0_1 l0_1.length c0_1] 61 (0, 0)) (by (with_reducible repeat (first | refine bN ?_ _ | refine bD ?_ | refine bA ?_ _)); exact BK131.out)) : gb132 ≠ gb131)); clear BK131; clear HB; have BK131 := n0_; have HB := n1_; have BK132 := n2_; have GW132 := n3_; have GE132 := n4_; have NB131_132 := n5_; have NB132_131 := n6_; clear n0_ n1_ n2_ n3_ n4_ n5_ n6_; clear hb hbox hg; have hnb53 := NB131_132.out; have hnc53 := NB132_131.out; have hcz54_0 : w52.cell? ⟨gb131, 0, none⟩ = some (.slice A0_0 l0_0.length c0_0) := (bC BK131.out 0).trans rfl; have hcz54_1 : w52.cell? ⟨gb131, 1, none⟩ = some (.slice A0_1 l0_1.length c0_1) := (bC BK131.out 1).trans rfl; have hfz54_0 := bF BK131.out 0; have hfz54_1 := bF BK131.out 1) | ((with_reducible refine gate_callee (f := 85) rfl ?_); refine goesL_ (some 8) rfl rfl Try.func85 (by kernel_rfl) rfl #[.agg #[.slice A0_0 l0_0.length c0_0, .slice A0_1 l0_1.length c0_1]] rfl (by (try simp only [lM, lC, lN]); first | done | rfl | (simp only [lD, lT]; rfl)) ?_; (with_reducible refine (spec_PagesOk.calls k _ _ l0_0 _ _ l0_1 false _ ?side1 ?side2 ?side3 ?side4 A3.out).mono ?_); (case side1 => repeat (first | exact (cB HR0_0.out HB.out) | (with_reducible refine cA ?_ _) | (with_reducible refine cN ?_ _) | (with_reducible refine cD ?_))); (case side2 => exact HC0_0.out); (case side3 => repeat (first | exact (cB HR0_1.out HB.out) | (with_reducible refine cA ?_ _) | (with_reducible refine cN ?_ _) | (with_reducible refine cD ?_))); (case side4 => exact HC0_1.out); rintro e w55 ⟨rfl, hb⟩; refine ⟨_, rfl, ?_⟩; have n0_ := Am (bB (g := gb131) (o := .cells #[.slice A0_0 l0_0.length c0_0, .slice A0_1 l0_1.length c0_1] 61 (0, 0)) (by (with_reducible repeat (first | refine bN ?_ _ | refine bD ?_ | refine bA ?_ _)); exact BK131.out) hb); have n1_ := Am (bB (g := gb132) (o := .cells #[.slice none 0 0, .slice none 0 0] 61 (0, 0)) (by (with_reducible repeat (first | refine bN ?_ _ | refine bD ?_ | refine bA ?_ _)); exact BK132.out) hb); have n2_ := Am (bP (by repeat (first | (with_reducible first | exact HB.out | apply oA | apply pN | apply o1 | refine bS ?_ GE131.out | refine bS ?_ GE132.out) | exact HB.out)) hb); clear BK131; clear BK132; clear HB; have BK131 := n0_; have BK132 := n1_; have HB := n2_; clear n0_ n1_ n2_; (try clear hb); (try clear hb2); (try clear hk); (try clear hi); have hcz56_0 : w55.cell? ⟨gb132, 0, none⟩ = some (.slice none 0 0) := (bC BK132.out 0).trans rfl; have hcz56_1 : w55.cell? ⟨gb132, 1, none⟩ = some (.slice none 0 0) := (bC BK132.out 1).trans rfl; have hfz56_0 := bF BK132.out 0; have hfz56_1 := bF BK132.out 1))
  refine bodyPost_ret (results_ct rfl _ _ gb132 61 #[.slice none 0 0, .slice none 0 0] (0, 0) _ rfl (by (with_reducible repeat (first | refine bN ?_ _ | refine bD ?_ | refine bA ?_ _)); refine blk_put (cs := #[.slice none 0 0, .slice none 0 0]) ?_ 1 _ rfl; (with_reducible repeat (first | refine bN ?_ _ | refine bD ?_ | refine bA ?_ _)); refine blk_put (cs := #[.slice none 0 0, .slice none 0 0]) ?_ 0 _ rfl; (with_reducible repeat (first | refine bN ?_ _ | refine bD ?_ | refine bA ?_ _)); exact BK132.out) Try.underlying61 rfl (by kernel_rfl)) rfl ?_
  exact ⟨_, _, by first | rfl | (simp [errW_none, errW_some] <;> rfl) | (simp [*, errW_none, errW_some] <;> rfl), by first | exact Kd.R_nil _ _ _ _ _ | exact Kd.N_nil _ _ _ _ _ | exact Kd.V_nil _ _ _ _ _ | exact Kd.Q_nil _ _ _ _ _ | exact Kd.S_nil _ _ _ _ _, by first | exact Kd.R_nil _ _ _ _ _ | exact Kd.N_nil _ _ _ _ _ | exact Kd.V_nil _ _ _ _ _ | exact Kd.Q_nil _ _ _ _ _ | exact Kd.S_nil _ _ _ _ _, by repeat (first | (with_reducible first | exact HB.out | apply oA | apply pN | apply o1 | refine bS ?_ GE131.out | refine bS ?_ GE132.out) | exact HB.out)⟩

/-! ### laws_toIntS: function 58 -/
def laws_toIntS.l0 : Nat → List Int → List Int → Int → Option (List Int)
 | 0, _, _, _ => none
 | k + 1, x0, x3, x4 => if x4 < (x0.length : Int) then (if 0 ≤ x4 then (if x4 < (x3.length : Int) then (laws_toIntS.l0 k x0 (x3.set (x4 : Int).toNat (rd x0 x4)) (wrap64 (x4 + 1))) else (none)) else (none)) else (some x3)
def laws_toIntS.f (k : Nat) (l0 : List Int) : Option (List Int) := if 0 ≤ (l0.length : Int) then (if ((l0.length : Int) : Int).toNat ≤ 35184372088832 then (laws_toIntS.l0 k l0 (List.replicate ((l0.length : Int) : Int).toNat 0) 0) else (none)) else (none)
theorem laws_toIntS.mono_l : ∀ k, (∀ y0 y1 y2, LeO (laws_toIntS.l0 k y0 y1 y2) (laws_toIntS.l0 (k + 1) y0 y1 y2))
 | 0 => fun _ _ _ r h => by simp [laws_toIntS.l0] at h
 | k + 1 => by
  have ih0 := laws_toIntS.mono_l k
  ·intro y0 y1 y2
   unfold laws_toIntS.l0
   repeat' first
   | (with_reducible exact ih0 _ _ _)
   | (with_reducible exact LeO.refl _)
   | (with_reducible exact LeO.none _)
   | (with_reducible refine LeO.ite ?_ ?_)
   | (with_reducible refine LeO.bind ?_ (fun _ => ?_))
   | exact ih0 _ _ _
   | exact LeO.none _
   | refine LeO.ite ?_ ?_
   | refine LeO.bind ?_ (fun _ => ?_)
theorem laws_toIntS.mono : ∀ a0 k, LeO (laws_toIntS.f k a0) (laws_toIntS.f (k + 1) a0) := by
 intro a0 k
 have ih0 := laws_toIntS.mono_l k
 unfold laws_toIntS.f
 repeat' first
   | (with_reducible exact ih0 _ _ _)
   | (with_reducible exact LeO.refl _)
   | (with_reducible exact LeO.none _)
   | (with_reducible refine LeO.ite ?_ ?_)
   | (with_reducible refine LeO.bind ?_ (fun _ => ?_))
   | exact ih0 _ _ _
   | exact LeO.none _
   | refine LeO.ite ?_ ?_
   | refine LeO.bind ?_ (fun _ => ?_)
set_option maxHeartbeats 2000000 in
set_option maxRecDepth 100000 in
theorem laws_toIntS.calls (k : Nat) (A0 : Option Addr) (c0 : Nat) (l0 : List Int) (r : List Int) (w : World) (hr0 : Kd.C (Kd.int .i64) w A0 l0.length l0) (hc0 : l0.length ≤ c0) (h : laws_toIntS.f k l0 = some r) :
  Calls Try.prog 58 #[.slice A0 l0.length c0] w fun e w' => ∃ v0_ : Value, e = .returned (v0_) ∧ Kd.R (Kd.int .i64) 3 w' w.heap.size (fun _ => True) v0_ r ∧ Below w.heap.size w w' := by
 have HR0 := Am hr0
 have HC0 := Am hc0
 clear hr0 hc0
 have HB := Am (Below.refl w.heap.size w)
 have H : (if 0 ≤ (l0.length : Int) then (if ((l0.length : Int) : Int).toNat ≤ 35184372088832 then (laws_toIntS.l0 k l0 (List.replicate ((l0.length : Int) : Int).toNat 0) 0) else (none)) else (none)) = some r := h
 clear h
 by_cases c2 : 0 ≤ (l0.length : Int)
 ·rw [if_pos c2] at H
  have c2b0 := eq_true c2
  have c2b1 : decide (0 ≤ (l0.length : Int)) = true := decide_eq_true c2
  clear c2
  by_cases c3 : ((l0.length : Int) : Int).toNat ≤ 35184372088832
  ·rw [if_pos c3] at H
   have c3b0 := eq_true c3
   have c3b1 : decide (((l0.length : Int) : Int).toNat ≤ 35184372088832) = true := decide_eq_true c3
   clear c3
   obtain ⟨y145, hy145⟩ : ∃ y_ : List Int, y_ = (List.replicate ((l0.length : Int) : Int).toNat 0) := ⟨_, rfl⟩
   replace H : (laws_toIntS.l0 k l0 y145 0) = some r := by first | (rw [hy145]; with_reducible exact H) | (have H2_ := (Option.bind_some _ _).symm.trans H; rw [hy145]; with_reducible exact H2_) | (have H2_ := (Option.bind_some _ _).symm.trans H; with_reducible exact H2_) | with_reducible exact H | (rw [hy145]; exact H) | exact H
   have Ny145 := Am hy145
   clear hy145
   have H' := Am H
   clear H
   go_enter Try.func58, Try.ntmps58
   go_wp2_with (first | ((with_reducible refine gate_dst (N := 7) rfl ?_); refine Kd.R_make (Kd.int .i64) _ 3 rfl (N := 7) rfl 23 _ _ rfl (l0.length : Int) rfl rfl Try.underlying23 (.int .i64 0) 8 info3 rfl (by decide) (by omega) 0 (ok := fun _ => True) (okp := fun _ => True) rfl (fun _ hk => hk) trivial (of_decide_eq_true (by first | (with_reducible assumption) | assumption)) (Nat.le_trans (Nat.mul_le_mul_right _ (of_decide_eq_true (by first | (with_reducible assumption) | assumption) : (l0.length : Int).toNat ≤ 35184372088832)) (by omega)) (Below.refl _ _) (Nat.le_refl _) ?_; intro v146 w4 ho5 hb hg_ hnew_; clear hg_ hnew_; (first | rw [← Ny145.out] at ho5 | (simp only [Int.reduceToNat] at ho5; rw [← Ny145.out] at ho5)); have n0_ := Am (Kd.R_lower ho5 (bZ (by repeat (first | (with_reducible first | exact HB.out | apply oA | apply pN | apply o1) | exact HB.out)))); have n1_ := Am (bP (by repeat (first | (with_reducible first | exact HB.out | apply oA | apply pN | apply o1) | exact HB.out)) hb); clear HB; have HO147 := n0_; have HB := n1_; clear n0_ n1_; clear hb ho5))
   go_loopg [4] k (fun kq v4 w' => ∃ (x3_1 : List Int) (x4_1 : Int), v4 = .int .i64 x4_1 ∧ Aside0 (laws_toIntS.l0 kq l0 x3_1 x4_1 = some r) ∧ Aside0 (kq ≤ k) ∧ Aside0 (Kd.R (Kd.int .i64) 3 w' w.heap.size (fun _ => True) v146 x3_1) ∧ Aside0 (Below w.heap.size w w'))
   case atStart => exact ⟨(y145), (0), (by first | rfl | (simp; done) | (simp [*]; done)), H', ⟨Nat.le_refl _⟩, ⟨by (with_reducible repeat (first | apply rA | apply rN | apply rD)); exact HO147.out⟩, ⟨by repeat (first | (with_reducible first | exact HB.out | apply oA | apply pN | apply o1) | exact HB.out)⟩⟩
   case round =>
    clear H'
    try clear c2
    try clear c2b0
    try clear c2b1
    try clear p2
    try clear c3
    try clear c3b0
    try clear c3b1
    try clear c5
    obtain ⟨x3_1, x4_1, rfl, HA, HK1, HO_3, HB⟩ := hrel
    cases gk with
    | zero => exact absurd HA.out (by simp [laws_toIntS.l0])
    | succ k1 =>
     have H := HA.out
     clear HA
     simp only [laws_toIntS.l0] at H
     by_cases c6 : x4_1 < (l0.length : Int)
     ·rw [if_pos c6] at H
      have c6b0 : decide (x4_1 < (l0.length : Int)) = true := decide_eq_true c6
      clear c6
      by_cases c7 : 0 ≤ x4_1
      ·rw [if_pos c7] at H
       have c7b0 : decide (0 ≤ x4_1) = true := decide_eq_true c7
       clear c7
       by_cases c8 : x4_1 < (x3_1.length : Int)
       ·rw [if_pos c8] at H
        have c8b0 : decide (x4_1 < (x3_1.length : Int)) = true := decide_eq_true c8
        clear c8
        obtain ⟨y149, hy149⟩ : ∃ y_ : List Int, y_ = (x3_1.set (x4_1 : Int).toNat (rd l0 x4_1)) := ⟨_, rfl⟩
        replace H : (laws_toIntS.l0 k1 l0 y149 (wrap64 (x4_1 + 1))) = some r := by first | (rw [hy149]; with_reducible exact H) | (have H2_ := (Option.bind_some _ _).symm.trans H; rw [hy149]; with_reducible exact H2_) | (have H2_ := (Option.bind_some _ _).symm.trans H; with_reducible exact H2_) | with_reducible exact H | (rw [hy149]; exact H) | exact H
        have Ny149 := Am hy149
        clear hy149
        have H' := Am H
        clear H
        have p148 : 0 ≤ (x4_1 : Int) := of_decide_eq_true (by first | (with_reducible assumption) | assumption)
        have q148 : x4_1 < (l0.length : Int) := of_decide_eq_true (by first | (with_reducible assumption) | assumption)
        obtain ⟨ad148, e148, hx148_0⟩ := Kd.at_int HR0.out x4_1 p148 q148
        cases e148
        replace hx148_0 := (HB.out.cell (World.block_lt_of_cell? w _ hx148_0)).trans hx148_0
        replace p148 := eq_true p148
        replace q148 := eq_true q148
        have p9 : 0 ≤ (x4_1 : Int) := of_decide_eq_true (by first | (with_reducible assumption) | assumption)
        have q9 : (x4_1 : Int) < ((x3_1.length : Int) : Int) := of_decide_eq_true (by first | (with_reducible assumption) | assumption)
        obtain ⟨go9, co9, eo9, gb9, gl9, cl9, HG9⟩ := Kd.R_form HO_3.out (by omega)
        (first | cases eo9 | (injection eo9 with ea_ en_ ec_; (first | subst ea_ | (injection ea_ with ea_; subst ea_)); subst ec_; clear en_))
        have GB9 := Am gb9
        have GG9 := Am HG9
        clear gb9 gl9 HG9
        obtain ⟨hx9_0, hf9_0⟩ := Kd.R_celln 0 HO_3.out (x4_1 : Int) p9 q9
        replace p9 := eq_true p9
        replace q9 := eq_true q9
        have HP10 := Kd.R_putg HO_3.out (x4_1 : Int) (rd l0 x4_1)
        go_wp2_with (first | ((with_reducible refine gate_store (t := 3) (p := 20) rfl ?_); refine store_event (t := 3) (p := 20) (v := ?vo_w11) (w1 := (wr.setCell ⟨go9, (x4_1 : Int).toNat, none⟩ (.int .i64 (rd l0 x4_1)))) ?hg ?ho ?hn ?hr ?_; (case ho => rfl); (case hg => rfl); (case hn => rfl); (case hr => first | (go_simp; done) | (go_simp; rfl)); intro w11 hw; have hg : wr.grownBy w11 (some go9) := (by rw [hw]; exact HP10.2); have hp_ : Kd.R (Kd.int .i64) 3 w11 w.heap.size (fun _ => True) (.slice (some ⟨go9, 0, none⟩) x3_1.length co9) y149 := (by rw [hw, Ny149.out]; exact HP10.1); clear HP10; have n0_ := Am (hp_); have n1_ := Am ((by rw [hw]; exact bS (HB.out) GB9.out : Below w.heap.size w w11)); clear HO_3; clear HB; have HO_3 := n0_; have HB := n1_; clear n0_ n1_; clear hg hw hp_))
        go_roundg k1
        case measure => have := HK1.out; omega
        case rel => exact ⟨(y149), (wrap64 (x4_1 + 1)), (by first | rfl | (simp; done) | (simp [*]; done)), H', ⟨by have := HK1.out; omega⟩, ⟨by (with_reducible repeat (first | apply rA | apply rN | apply rD)); exact HO_3.out⟩, ⟨by repeat (first | (with_reducible first | exact HB.out | apply oA | apply pN | apply o1) | exact HB.out)⟩⟩
       ·rw [if_neg c8] at H
        exact absurd H (by simp)
      ·rw [if_neg c7] at H
       exact absurd H (by simp)
     ·rw [if_neg c6] at H
      have c6b0 : decide (x4_1 < (l0.length : Int)) = false := decide_eq_false c6
      clear c6
      obtain rfl := Option.some.inj H
      go_wp2
      go_ret
      exact ⟨_, by first | rfl | (simp [errW_none, errW_some] <;> rfl) | (simp [*, errW_none, errW_some] <;> rfl), by (with_reducible repeat (first | apply rA | apply rN | apply rD)); exact HO_3.out, by repeat (first | (with_reducible first | exact HB.out | apply oA | apply pN | apply o1) | exact HB.out)⟩
  ·rw [if_neg c3] at H
   exact absurd H (by simp)
 ·rw [if_neg c2] at H
  exact absurd H (by simp)

end Go.Proofs.Ytehekikjadjdaaa.PFnExactPagesKeep
