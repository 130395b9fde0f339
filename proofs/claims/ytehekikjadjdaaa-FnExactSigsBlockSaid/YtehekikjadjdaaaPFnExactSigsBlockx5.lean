/- Proved here, without a condition beyond those that each theorem states: what the Go functions named below do is what the plain functions of the same names say. Written by xprint.py, a program of this session. -/
import Derived.Test.YtehekikjadjdaaaPFnExactSigsBlockx0
import Derived.Test.YtehekikjadjdaaaPFnExactSigsBlockx2
import Derived.Test.YtehekikjadjdaaaPFnExactSigsBlockx3
import Derived.Test.YtehekikjadjdaaaPFnExactSigsBlockx4
namespace Go.Proofs.Ytehekikjadjdaaa.PFnExactSigsBlock
open Go.RowKit Go.Proofs.YtehekikjadjdaaaW.PrintWords Go.Proofs.YtehekikjadjdaaaW.PrintLast Go.Proofs.YtehekikjadjdaaaW.PrintMore
attribute [local go_sem] max2_int min2_int max_two min_two max_three min_three max_four min_four   -- for this text's walks alone
set_option linter.unusedVariables false
set_option linter.unusedSimpArgs false

attribute [local go_sem ↓] isSome_setCell_
/-! ### spec_SigsBlock: function 20 -/
mutual
def spec_SigsBlock.j0 : Nat → List Bool → Bool → List Bool → List Bool → List Int → Option (List Bool × List Bool × List Int × Bool)
 | 0, _, _, _, _, _ => none
 | k + 1, x1, x15, x180000, x180001, x180002 => if x15 = true then (some (([] : List Bool), ([] : List Bool), ([] : List Int), false)) else ((spec_l10Copy.f x180000 x180001 x180002).bind fun bt182 => (spec_SigsBlock.l0 k x1 0 bt182.1 bt182.2.1 bt182.2.2))
def spec_SigsBlock.l0 : Nat → List Bool → Int → List Bool → List Bool → List Int → Option (List Bool × List Bool × List Int × Bool)
 | 0, _, _, _, _, _ => none
 | k + 1, x1, x7, x192000, x192001, x192002 => if x7 < 8 then (if 0 ≤ x7 then (if x7 < (x1.length : Int) then (if rdOf false x1 x7 = true then ((spec_l10Fixed.f (wrap64 (x7 + 1))).bind fun t193 => (if x7 < (x192001.length : Int) then (spec_SigsBlock.l0 k x1 (wrap64 (x7 + 1)) x192000 (x192001.set (x7 : Int).toNat (!t193)) x192002) else (none))) else (if x7 < (x192001.length : Int) then (spec_SigsBlock.l0 k x1 (wrap64 (x7 + 1)) x192000 (x192001.set (x7 : Int).toNat false) x192002) else (none))) else (none)) else (none)) else (some (x192000, x192001, x192002, true))
end
def spec_SigsBlock.f (k : Nat) (l0_0 : List Bool) (l0_1 : List Bool) (l0_2 : List Int) (l1 : List Bool) : Option (List Bool × List Bool × List Int × Bool) := (spec_SigsOk.f k l0_0 l0_1 l0_2).bind fun t181 => (if t181 = true then (spec_SigsBlock.j0 k l1 ((l1.length : Int) != 8) l0_0 l0_1 l0_2) else (spec_SigsBlock.j0 k l1 true l0_0 l0_1 l0_2))
theorem spec_SigsBlock.mono_l : ∀ k, (∀ y0 y1 y2 y3 y4, LeO (spec_SigsBlock.j0 k y0 y1 y2 y3 y4) (spec_SigsBlock.j0 (k + 1) y0 y1 y2 y3 y4)) ∧ (∀ y0 y1 y2 y3 y4, LeO (spec_SigsBlock.l0 k y0 y1 y2 y3 y4) (spec_SigsBlock.l0 (k + 1) y0 y1 y2 y3 y4))
 | 0 => ⟨fun _ _ _ _ _ r h => by simp [spec_SigsBlock.j0] at h, fun _ _ _ _ _ r h => by simp [spec_SigsBlock.l0] at h⟩
 | k + 1 => by
  obtain ⟨ih0, ih1⟩ := spec_SigsBlock.mono_l k
  refine ⟨?_, ?_⟩
  ·intro y0 y1 y2 y3 y4
   unfold spec_SigsBlock.j0
   repeat' first
   | (with_reducible exact ih0 _ _ _ _ _)
   | (with_reducible exact ih1 _ _ _ _ _)
   | (with_reducible exact spec_SigsOk.mono _ _ _ _)
   | (with_reducible exact LeO.refl _)
   | (with_reducible exact LeO.none _)
   | (with_reducible refine LeO.ite ?_ ?_)
   | (with_reducible refine LeO.bind ?_ (fun _ => ?_))
   | exact ih0 _ _ _ _ _
   | exact ih1 _ _ _ _ _
   | exact spec_SigsOk.mono _ _ _ _
   | exact LeO.none _
   | refine LeO.ite ?_ ?_
   | refine LeO.bind ?_ (fun _ => ?_)
  ·intro y0 y1 y2 y3 y4
   unfold spec_SigsBlock.l0
   repeat' first
   | (with_reducible exact ih0 _ _ _ _ _)
   | (with_reducible exact ih1 _ _ _ _ _)
   | (with_reducible exact spec_SigsOk.mono _ _ _ _)
   | (with_reducible exact LeO.refl _)
   | (with_reducible exact LeO.none _)
   | (with_reducible refine LeO.ite ?_ ?_)
   | (with_reducible refine LeO.bind ?_ (fun _ => ?_))
   | exact ih0 _ _ _ _ _
   | exact ih1 _ _ _ _ _
   | exact spec_SigsOk.mono _ _ _ _
   | exact LeO.none _
   | refine LeO.ite ?_ ?_
   | refine LeO.bind ?_ (fun _ => ?_)
theorem spec_SigsBlock.mono : ∀ a0 a1 a2 a3 k, LeO (spec_SigsBlock.f k a0 a1 a2 a3) (spec_SigsBlock.f (k + 1) a0 a1 a2 a3) := by
 intro a0 a1 a2 a3 k
 obtain ⟨ih0, ih1⟩ := spec_SigsBlock.mono_l k
 unfold spec_SigsBlock.f
 repeat' first
   | (with_reducible exact ih0 _ _ _ _ _)
   | (with_reducible exact ih1 _ _ _ _ _)
   | (with_reducible exact spec_SigsOk.mono _ _ _ _)
   | (with_reducible exact LeO.refl _)
   | (with_reducible exact LeO.none _)
   | (with_reducible refine LeO.ite ?_ ?_)
   | (with_reducible refine LeO.bind ?_ (fun _ => ?_))
   | exact ih0 _ _ _ _ _
   | exact ih1 _ _ _ _ _
   | exact spec_SigsOk.mono _ _ _ _
   | exact LeO.none _
   | refine LeO.ite ?_ ?_
   | refine LeO.bind ?_ (fun _ => ?_)
def spec_SigsBlock.T7 : Bool × List (List Nat × List Nat) := (true, [([], []), ([0], [0]), ([], []), ([], []), ([], []), ([3, 4], [3, 4]), ([5], [5]), ([6], [6]), ([7], [7]), ([8, 7], [7, 8]), ([9, 7, 7], [7, 9]), ([10, 7], [7, 10]), ([7, 11], [7, 11]), ([1, 2, 0, 1, 2, 3, 4, 5, 6, 7, 8, 9, 10, 11, 12], [1, 2]), ([13, 12, 10, 0, 1, 2, 3, 4, 5, 6, 7, 8, 9, 10, 11, 12], [12, 13])])
def spec_SigsBlock.B7 : List Nat := [0, 1, 0, 0, 0, 24, 56, 120, 248, 504, 1016, 2040, 4088, 8191, 16383]
theorem spec_SigsBlock.tab7 : rtab .any (opsOf Try.f20 7) = spec_SigsBlock.T7 := by kernel_rfl
theorem spec_SigsBlock.bits7 : waitsOk spec_SigsBlock.T7.2 spec_SigsBlock.B7 = true := by kernel_rfl
abbrev spec_SigsBlock.q0 : Array Bool := #[false, false, false, false, false, false, false, false, false, false, false, false, false, false, false]
abbrev spec_SigsBlock.q1 : Array Bool := #[true, false, false, false, false, false, false, false, false, false, false, false, false, false, false]
abbrev spec_SigsBlock.q2 : Array Bool := #[true, false, true, false, false, false, false, false, false, false, false, false, false, false, false]
abbrev spec_SigsBlock.q3 : Array Bool := #[true, false, true, true, false, false, false, false, false, false, false, false, false, false, false]
abbrev spec_SigsBlock.q4 : Array Bool := #[true, false, true, true, true, false, false, false, false, false, false, false, false, false, false]
abbrev spec_SigsBlock.q5 : Array Bool := #[true, false, true, true, true, true, false, false, false, false, false, false, false, false, false]
abbrev spec_SigsBlock.q6 : Array Bool := #[true, true, true, true, true, true, false, false, false, false, false, false, false, false, false]
abbrev spec_SigsBlock.q7 : Array Bool := #[true, true, true, true, true, true, true, false, false, false, false, false, false, false, false]
abbrev spec_SigsBlock.q8 : Array Bool := #[true, true, true, true, true, true, true, true, false, false, false, false, false, false, false]
abbrev spec_SigsBlock.q9 : Array Bool := #[true, true, true, true, true, true, true, true, true, false, false, false, false, false, false]
abbrev spec_SigsBlock.q10 : Array Bool := #[true, true, true, true, true, true, true, true, true, true, false, false, false, false, false]
abbrev spec_SigsBlock.q11 : Array Bool := #[true, true, true, true, true, true, true, true, true, true, true, false, false, false, false]
abbrev spec_SigsBlock.q12 : Array Bool := #[true, true, true, true, true, true, true, true, true, true, true, true, false, false, false]
abbrev spec_SigsBlock.q13 : Array Bool := #[true, true, true, true, true, true, true, true, true, true, true, true, true, false, false]
abbrev spec_SigsBlock.q14 : Array Bool := #[true, true, true, true, true, true, true, true, true, true, true, true, true, true, false]
abbrev spec_SigsBlock.q15 : Array Bool := #[true, true, true, true, true, true, true, true, true, true, true, true, true, true, true]
set_option maxHeartbeats 2000000 in
set_option maxRecDepth 100000 in
theorem spec_SigsBlock.calls (k : Nat) (A0_0 : Option Addr) (c0_0 : Nat) (l0_0 : List Bool) (A0_1 : Option Addr) (c0_1 : Nat) (l0_1 : List Bool) (A0_2 : Option Addr) (c0_2 : Nat) (l0_2 : List Int) (A1 : Option Addr) (c1 : Nat) (l1 : List Bool) (r1 : List Bool) (r2 : List Bool) (r3 : List Int) (r4 : Bool) (w : World) (hr0_0 : Kd.C Kd.bool w A0_0 l0_0.length l0_0) (hc0_0 : l0_0.length ≤ c0_0) (hr0_1 : Kd.C Kd.bool w A0_1 l0_1.length l0_1) (hc0_1 : l0_1.length ≤ c0_1) (hr0_2 : Kd.C (Kd.int .i64) w A0_2 l0_2.length l0_2) (hc0_2 : l0_2.length ≤ c0_2) (hr1 : Kd.C Kd.bool w A1 l1.length l1) (hc1 : l1.length ≤ c1) (h : spec_SigsBlock.f k l0_0 l0_1 l0_2 l1 = some (r1, r2, r3, r4)) :
  Calls Try.prog 20 #[.agg #[.slice A0_0 l0_0.length c0_0, .slice A0_1 l0_1.length c0_1, .slice A0_2 l0_2.length c0_2], .slice A1 l1.length c1] w fun e w' => ∃ v0_ v1_ v2_ : Value, e = .returned (.tuple #[.agg #[v0_, v1_, v2_], .bool r4]) ∧ Kd.R Kd.bool 4 w' w.heap.size (fun k_ => some k_ ≠ (v1_ : Value).ownBlock) v0_ r1 ∧ Kd.R Kd.bool 4 w' w.heap.size (fun k_ => some k_ ≠ (v0_ : Value).ownBlock) v1_ r2 ∧ Kd.R (Kd.int .i64) 3 w' w.heap.size (fun _ => True) v2_ r3 ∧ Below w.heap.size w w' := by
 have hu27 := Try.underlying27
 have HR0_0 := Am hr0_0
 have HC0_0 := Am hc0_0
 clear hr0_0 hc0_0
 have HR0_1 := Am hr0_1
 have HC0_1 := Am hc0_1
 clear hr0_1 hc0_1
 have HR0_2 := Am hr0_2
 have HC0_2 := Am hc0_2
 clear hr0_2 hc0_2
 have HR1 := Am hr1
 have HC1 := Am hc1
 clear hr1 hc1
 have HB := Am (Below.refl w.heap.size w)
 have H : ((spec_SigsOk.f k l0_0 l0_1 l0_2).bind fun t181 => (if t181 = true then (spec_SigsBlock.j0 k l1 ((l1.length : Int) != 8) l0_0 l0_1 l0_2) else (spec_SigsBlock.j0 k l1 true l0_0 l0_1 l0_2))) = some (r1, r2, r3, r4) := h
 clear h
 have HC3 := Am H
 clear H
 go_enter Try.func20, Try.ntmps20
 go_upto_region 1 with (first | ((with_reducible refine gate_dst (N := 2) rfl ?_); (try (refine gate_guard (by rfl) ?_; dsimp only)); refine box_event ?hg (N := 2) ?hd (cs := #[.slice A0_0 l0_0.length c0_0, .slice A0_1 l0_1.length c0_1, .slice A0_2 l0_2.length c0_2]) (t := 27) ?hr ?_; (case hd => rfl); (case hg => rfl); (case hr => first | (go_simp; done) | (go_simp; rfl)); intro gb179 hg w4 hbox hb; have n0_ := Am (bP (by repeat (first | (with_reducible first | exact HB.out | apply oA | apply pN | apply o1) | exact HB.out)) hb); have n1_ := Am (hbox); have n2_ := Am ((by rw [hg]; exact (bZ (by repeat (first | (with_reducible first | exact HB.out | apply oA | apply pN | apply o1) | exact HB.out))) : w.heap.size ≤ gb179)); have n3_ := Am ((by rw [hg]; exact (bZ (by repeat (first | (with_reducible first | exact HB.out | apply oA | apply pN | apply o1) | exact HB.out))) : w.heap.size ≤ gb179)); clear HB; have HB := n0_; have BK179 := n1_; have GW179 := n2_; have GE179 := n3_; clear n0_ n1_ n2_ n3_; clear hb hbox hg) | ((with_reducible refine gate_dst (N := 4) rfl ?_); (try (refine gate_guard (by rfl) ?_; dsimp only)); refine box_event ?hg (N := 4) ?hd (cs := #[.slice none 0 0, .slice none 0 0, .slice none 0 0]) (t := 27) ?hr ?_; (case hd => rfl); (case hg => rfl); (case hr => first | (go_simp; done) | (go_simp; rfl)); intro gb180 hg w5 hbox hb; have n0_ := Am (bB (g := gb179) (o := .cells #[.slice A0_0 l0_0.length c0_0, .slice A0_1 l0_1.length c0_1, .slice A0_2 l0_2.length c0_2] 27 (0, 0)) (by (with_reducible repeat (first | refine bN ?_ _ | refine bD ?_ | refine bA ?_ _)); exact BK179.out) hb); have n1_ := Am (bP (by repeat (first | (with_reducible first | exact HB.out | apply oA | apply pN | apply o1 | refine bS ?_ GE179.out) | exact HB.out)) hb); have n2_ := Am (hbox); have n3_ := Am ((by rw [hg]; exact (bZ (by repeat (first | (with_reducible first | exact HB.out | apply oA | apply pN | apply o1 | refine bS ?_ GE179.out) | exact HB.out))) : w.heap.size ≤ gb180)); have n4_ := Am ((by rw [hg]; exact (bZ (by repeat (first | (with_reducible first | exact HB.out | apply oA | apply pN | apply o1 | refine bS ?_ GE179.out) | exact HB.out))) : w.heap.size ≤ gb180)); have n5_ := Am ((by rw [hg]; exact Nat.ne_of_lt (blk_lt (g := gb179) (o := .cells #[.slice A0_0 l0_0.length c0_0, .slice A0_1 l0_1.length c0_1, .slice A0_2 l0_2.length c0_2] 27 (0, 0)) (by (with_reducible repeat (first | refine bN ?_ _ | refine bD ?_ | refine bA ?_ _)); exact BK179.out)) : gb179 ≠ gb180)); have n6_ := Am ((by rw [hg]; exact Nat.ne_of_gt (blk_lt (g := gb179) (o := .cells #[.slice A0_0 l0_0.length c0_0, .slice A0_1 l0_1.length c0_1, .slice A0_2 l0_2.length c0_2] 27 (0, 0)) (by (with_reducible repeat (first | refine bN ?_ _ | refine bD ?_ | refine bA ?_ _)); exact BK179.out)) : gb180 ≠ gb179)); clear BK179; clear HB; have BK179 := n0_; have HB := n1_; have BK180 := n2_; have GW180 := n3_; have GE180 := n4_; have NB179_180 := n5_; have NB180_179 := n6_; clear n0_ n1_ n2_ n3_ n4_ n5_ n6_; clear hb hbox hg))
 (try simp only [Act.put, lA, lZ, lS])
 go_cut [15] (fun v15 wc => ∃ (kq : Nat) (x15_2 : Bool), v15 = .bool x15_2 ∧ Aside0 (spec_SigsBlock.j0 kq l1 x15_2 l0_0 l0_1 l0_2 = some (r1, r2, r3, r4)) ∧ Aside0 (kq ≤ k) ∧ Aside0 (wc.heap[gb179]? = some (.cells #[(.slice A0_0 l0_0.length c0_0), (.slice A0_1 l0_1.length c0_1), (.slice A0_2 l0_2.length c0_2)] 27 (0, 0))) ∧ Aside0 (wc.heap[gb180]? = some (.cells #[(.slice none 0 0), (.slice none 0 0), (.slice none 0 0)] 27 (0, 0))) ∧ Aside0 (Below w.heap.size w wc))
 case first =>
  have H := HC3.out
  clear HC3
  replace H := Option.bind_eq_some_iff.mp H
  obtain ⟨t181, A60, H⟩ := H
  replace H : (if t181 = true then (spec_SigsBlock.j0 k l1 ((l1.length : Int) != 8) l0_0 l0_1 l0_2) else (spec_SigsBlock.j0 k l1 true l0_0 l0_1 l0_2)) = some (r1, r2, r3, r4) := H
  have A6 := Am A60
  clear A60
  by_cases c7 : t181 = true
  ·subst c7
   have H1 : (spec_SigsBlock.j0 k l1 ((l1.length : Int) != 8) l0_0 l0_1 l0_2) = some (r1, r2, r3, r4) := by rw [if_pos rfl] at H; exact H
   clear H
   have H := H1
   clear H1
   have H' := Am H
   clear H
   have hnb8 := NB179_180.out
   have hnc8 := NB180_179.out
   have hcz9_0 : w5.cell? ⟨gb179, 0, none⟩ = some (.slice A0_0 l0_0.length c0_0) := (bC BK179.out 0).trans rfl
   have hcz9_1 : w5.cell? ⟨gb179, 1, none⟩ = some (.slice A0_1 l0_1.length c0_1) := (bC BK179.out 1).trans rfl
   have hcz9_2 : w5.cell? ⟨gb179, 2, none⟩ = some (.slice A0_2 l0_2.length c0_2) := (bC BK179.out 2).trans rfl
   have hfz9_0 := bF BK179.out 0
   have hfz9_1 := bF BK179.out 1
   have hfz9_2 := bF BK179.out 2
   go_wp2_with (first | ((with_reducible refine gate_callee (f := 56) rfl ?_); refine goesL_ (some 9) rfl rfl Try.func56 (by kernel_rfl) rfl #[.agg #[.slice A0_0 l0_0.length c0_0, .slice A0_1 l0_1.length c0_1, .slice A0_2 l0_2.length c0_2]] rfl (by (try simp only [lM, lC, lN]); first | done | rfl | (simp only [lD, lT]; rfl)) ?_; (with_reducible refine (spec_SigsOk.calls k _ _ l0_0 _ _ l0_1 _ _ l0_2 true _ ?side1 ?side2 ?side3 ?side4 ?side5 ?side6 A6.out).mono ?_); (case side1 => repeat (first | exact (cB HR0_0.out HB.out) | (with_reducible refine cA ?_ _) | (with_reducible refine cN ?_ _) | (with_reducible refine cD ?_))); (case side2 => exact HC0_0.out); (case side3 => repeat (first | exact (cB HR0_1.out HB.out) | (with_reducible refine cA ?_ _) | (with_reducible refine cN ?_ _) | (with_reducible refine cD ?_))); (case side4 => exact HC0_1.out); (case side5 => repeat (first | exact (cB HR0_2.out HB.out) | (with_reducible refine cA ?_ _) | (with_reducible refine cN ?_ _) | (with_reducible refine cD ?_))); (case side6 => exact HC0_2.out); rintro e w10 ⟨rfl, hb⟩; refine ⟨_, rfl, ?_⟩; have n0_ := Am (bB (g := gb179) (o := .cells #[.slice A0_0 l0_0.length c0_0, .slice A0_1 l0_1.length c0_1, .slice A0_2 l0_2.length c0_2] 27 (0, 0)) (by (with_reducible repeat (first | refine bN ?_ _ | refine bD ?_ | refine bA ?_ _)); exact BK179.out) hb); have n1_ := Am (bB (g := gb180) (o := .cells #[.slice none 0 0, .slice none 0 0, .slice none 0 0] 27 (0, 0)) (by (with_reducible repeat (first | refine bN ?_ _ | refine bD ?_ | refine bA ?_ _)); exact BK180.out) hb); have n2_ := Am (bP (by repeat (first | (with_reducible first | exact HB.out | apply oA | apply pN | apply o1 | refine bS ?_ GE179.out | refine bS ?_ GE180.out) | exact HB.out)) hb); clear BK179; clear BK180; clear HB; have BK179 := n0_; have BK180 := n1_; have HB := n2_; clear n0_ n1_ n2_; (try clear hb); (try clear hb2); (try clear hk); (try clear hi)))
   go_meet
   case rel => exact ⟨_, (((l1.length : Int) != 8)), (by first | rfl | (simp; done) | (simp [*]; done)), H', ⟨by first | omega | exact Nat.le_refl _⟩, ⟨by (with_reducible repeat (first | refine bN ?_ _ | refine bD ?_ | refine bA ?_ _)); exact BK179.out⟩, ⟨by (with_reducible repeat (first | refine bN ?_ _ | refine bD ?_ | refine bA ?_ _)); exact BK180.out⟩, ⟨by repeat (first | (with_reducible first | exact HB.out | apply oA | apply pN | apply o1 | refine bS ?_ GE179.out | refine bS ?_ GE180.out) | exact HB.out)⟩⟩
  ·replace c7 := Bool.eq_false_iff.mpr c7
   subst c7
   have H1 : (spec_SigsBlock.j0 k l1 true l0_0 l0_1 l0_2) = some (r1, r2, r3, r4) := by rw [if_neg (show ¬ (false = true) by decide)] at H; exact H
   clear H
   have H := H1
   clear H1
   have H' := Am H
   clear H
   have hnb11 := NB179_180.out
   have hnc11 := NB180_179.out
   have hcz12_0 : w5.cell? ⟨gb179, 0, none⟩ = some (.slice A0_0 l0_0.length c0_0) := (bC BK179.out 0).trans rfl
   have hcz12_1 : w5.cell? ⟨gb179, 1, none⟩ = some (.slice A0_1 l0_1.length c0_1) := (bC BK179.out 1).trans rfl
   have hcz12_2 : w5.cell? ⟨gb179, 2, none⟩ = some (.slice A0_2 l0_2.length c0_2) := (bC BK179.out 2).trans rfl
   have hfz12_0 := bF BK179.out 0
   have hfz12_1 := bF BK179.out 1
   have hfz12_2 := bF BK179.out 2
   go_wp2_with (first | ((with_reducible refine gate_callee (f := 56) rfl ?_); refine goesL_ (some 9) rfl rfl Try.func56 (by kernel_rfl) rfl #[.agg #[.slice A0_0 l0_0.length c0_0, .slice A0_1 l0_1.length c0_1, .slice A0_2 l0_2.length c0_2]] rfl (by (try simp only [lM, lC, lN]); first | done | rfl | (simp only [lD, lT]; rfl)) ?_; (with_reducible refine (spec_SigsOk.calls k _ _ l0_0 _ _ l0_1 _ _ l0_2 false _ ?side1 ?side2 ?side3 ?side4 ?side5 ?side6 A6.out).mono ?_); (case side1 => repeat (first | exact (cB HR0_0.out HB.out) | (with_reducible refine cA ?_ _) | (with_reducible refine cN ?_ _) | (with_reducible refine cD ?_))); (case side2 => exact HC0_0.out); (case side3 => repeat (first | exact (cB HR0_1.out HB.out) | (with_reducible refine cA ?_ _) | (with_reducible refine cN ?_ _) | (with_reducible refine cD ?_))); (case side4 => exact HC0_1.out); (case side5 => repeat (first | exact (cB HR0_2.out HB.out) | (with_reducible refine cA ?_ _) | (with_reducible refine cN ?_ _) | (with_reducible refine cD ?_))); (case side6 => exact HC0_2.out); rintro e w13 ⟨rfl, hb⟩; refine ⟨_, rfl, ?_⟩; have n0_ := Am (bB (g := gb179) (o := .cells #[.slice A0_0 l0_0.length c0_0, .slice A0_1 l0_1.length c0_1, .slice A0_2 l0_2.length c0_2] 27 (0, 0)) (by (with_reducible repeat (first | refine bN ?_ _ | refine bD ?_ | refine bA ?_ _)); exact BK179.out) hb); have n1_ := Am (bB (g := gb180) (o := .cells #[.slice none 0 0, .slice none 0 0, .slice none 0 0] 27 (0, 0)) (by (with_reducible repeat (first | refine bN ?_ _ | refine bD ?_ | refine bA ?_ _)); exact BK180.out) hb); have n2_ := Am (bP (by repeat (first | (with_reducible first | exact HB.out | apply oA | apply pN | apply o1 | refine bS ?_ GE179.out | refine bS ?_ GE180.out) | exact HB.out)) hb); clear BK179; clear BK180; clear HB; have BK179 := n0_; have BK180 := n1_; have HB := n2_; clear n0_ n1_ n2_; (try clear hb); (try clear hb2); (try clear hk); (try clear hi)))
   go_meet
   case rel => exact ⟨_, (true), (by first | rfl | (simp; done) | (simp [*]; done)), H', ⟨by first | omega | exact Nat.le_refl _⟩, ⟨by (with_reducible repeat (first | refine bN ?_ _ | refine bD ?_ | refine bA ?_ _)); exact BK179.out⟩, ⟨by (with_reducible repeat (first | refine bN ?_ _ | refine bD ?_ | refine bA ?_ _)); exact BK180.out⟩, ⟨by repeat (first | (with_reducible first | exact HB.out | apply oA | apply pN | apply o1 | refine bS ?_ GE179.out | refine bS ?_ GE180.out) | exact HB.out)⟩⟩
 case rest =>
  clear HC3
  try clear c1
  try clear c2
  try clear p2
  try clear c5
  try clear c7
  try clear c8
  try clear c11
  try clear hcz12_0
  try clear hcz12_1
  try clear hcz12_2
  try clear hcz9_0
  try clear hcz9_1
  try clear hcz9_2
  try clear hfz12_0
  try clear hfz12_1
  try clear hfz12_2
  try clear hfz9_0
  try clear hfz9_1
  try clear hfz9_2
  obtain ⟨kq, x15_2, rfl, HA, HJ2, BK179, BK180, HB⟩ := hcut
  cases kq with
  | zero => exact absurd HA.out (by simp [spec_SigsBlock.j0])
  | succ kj2 =>
   have H := HA.out
   clear HA
   simp only [spec_SigsBlock.j0] at H
   by_cases c14 : x15_2 = true
   ·subst c14
    have H1 : (some (([] : List Bool), ([] : List Bool), ([] : List Int), false)) = some (r1, r2, r3, r4) := by rw [if_pos rfl] at H; exact H
    clear H
    have H := H1
    clear H1
    simp only [Option.some.injEq, Prod.mk.injEq] at H
    obtain ⟨rfl, rfl, rfl, rfl⟩ := H
    have hnb15 := NB180_179.out
    have hnc15 := NB179_180.out
    have hcz16_0 : wc.cell? ⟨gb180, 0, none⟩ = some (.slice none 0 0) := (bC BK180.out 0).trans rfl
    have hcz16_1 : wc.cell? ⟨gb180, 1, none⟩ = some (.slice none 0 0) := (bC BK180.out 1).trans rfl
    have hcz16_2 : wc.cell? ⟨gb180, 2, none⟩ = some (.slice none 0 0) := (bC BK180.out 2).trans rfl
    have hfz16_0 := bF BK180.out 0
    have hfz16_1 := bF BK180.out 1
    have hfz16_2 := bF BK180.out 2
    go_wp2
    refine bodyPost_ret (results_ct rfl _ _ gb180 27 #[.slice none 0 0, .slice none 0 0, .slice none 0 0] (0, 0) _ rfl (by (with_reducible repeat (first | refine bN ?_ _ | refine bD ?_ | refine bA ?_ _)); refine blk_put (cs := #[.slice none 0 0, .slice none 0 0, .slice none 0 0]) ?_ 2 _ rfl; (with_reducible repeat (first | refine bN ?_ _ | refine bD ?_ | refine bA ?_ _)); refine blk_put (cs := #[.slice none 0 0, .slice none 0 0, .slice none 0 0]) ?_ 1 _ rfl; (with_reducible repeat (first | refine bN ?_ _ | refine bD ?_ | refine bA ?_ _)); refine blk_put (cs := #[.slice none 0 0, .slice none 0 0, .slice none 0 0]) ?_ 0 _ rfl; (with_reducible repeat (first | refine bN ?_ _ | refine bD ?_ | refine bA ?_ _)); exact BK180.out) Try.underlying27 rfl (by kernel_rfl)) rfl ?_
    exact ⟨_, _, _, by first | rfl | (simp [errW_none, errW_some] <;> rfl) | (simp [*, errW_none, errW_some] <;> rfl), by first | exact Kd.R_nil _ _ _ _ _ | exact Kd.N_nil _ _ _ _ _ | exact Kd.V_nil _ _ _ _ _ | exact Kd.Q_nil _ _ _ _ _ | exact Kd.S_nil _ _ _ _ _, by first | exact Kd.R_nil _ _ _ _ _ | exact Kd.N_nil _ _ _ _ _ | exact Kd.V_nil _ _ _ _ _ | exact Kd.Q_nil _ _ _ _ _ | exact Kd.S_nil _ _ _ _ _, by first | exact Kd.R_nil _ _ _ _ _ | exact Kd.N_nil _ _ _ _ _ | exact Kd.V_nil _ _ _ _ _ | exact Kd.Q_nil _ _ _ _ _ | exact Kd.S_nil _ _ _ _ _, by repeat (first | (with_reducible first | exact HB.out | apply oA | apply pN | apply o1 | refine bS ?_ GE179.out | refine bS ?_ GE180.out) | exact HB.out)⟩
   ·replace c14 := Bool.eq_false_iff.mpr c14
    subst c14
    have H1 : ((spec_l10Copy.f l0_0 l0_1 l0_2).bind fun bt182 => (spec_SigsBlock.l0 kj2 l1 0 bt182.1 bt182.2.1 bt182.2.2)) = some (r1, r2, r3, r4) := by rw [if_neg (show ¬ (false = true) by decide)] at H; exact H
    clear H
    have H := H1
    clear H1
    replace H := Option.bind_eq_some_iff.mp H
    obtain ⟨⟨t182, t185, t188⟩, A170, H⟩ := H
    replace H : (spec_SigsBlock.l0 kj2 l1 0 t182 t185 t188) = some (r1, r2, r3, r4) := H
    have A17 := Am A170
    clear A170
    have H' := Am H
    clear H
    have hnb18 := NB179_180.out
    have hnc18 := NB180_179.out
    have hcz19_0 : wc.cell? ⟨gb179, 0, none⟩ = some (.slice A0_0 l0_0.length c0_0) := (bC BK179.out 0).trans rfl
    have hcz19_1 : wc.cell? ⟨gb179, 1, none⟩ = some (.slice A0_1 l0_1.length c0_1) := (bC BK179.out 1).trans rfl
    have hcz19_2 : wc.cell? ⟨gb179, 2, none⟩ = some (.slice A0_2 l0_2.length c0_2) := (bC BK179.out 2).trans rfl
    have hfz19_0 := bF BK179.out 0
    have hfz19_1 := bF BK179.out 1
    have hfz19_2 := bF BK179.out 2
    go_wp2_with (first | ((with_reducible refine gate_callee (f := 57) rfl ?_); refine goesL_ (some 18) rfl rfl Try.func57 (by kernel_rfl) rfl #[.agg #[.slice A0_0 l0_0.length c0_0, .slice A0_1 l0_1.length c0_1, .slice A0_2 l0_2.length c0_2]] rfl (by (try simp only [lM, lC, lN]); first | done | rfl | (simp only [lD, lT]; rfl)) ?_; (with_reducible refine (spec_l10Copy.calls _ _ l0_0 _ _ l0_1 _ _ l0_2 t182 t185 t188 _ ?side1 ?side2 ?side3 ?side4 ?side5 ?side6 A17.out).mono ?_); (case side1 => repeat (first | exact (cB HR0_0.out HB.out) | (with_reducible refine cA ?_ _) | (with_reducible refine cN ?_ _) | (with_reducible refine cD ?_))); (case side2 => exact HC0_0.out); (case side3 => repeat (first | exact (cB HR0_1.out HB.out) | (with_reducible refine cA ?_ _) | (with_reducible refine cN ?_ _) | (with_reducible refine cD ?_))); (case side4 => exact HC0_1.out); (case side5 => repeat (first | exact (cB HR0_2.out HB.out) | (with_reducible refine cA ?_ _) | (with_reducible refine cN ?_ _) | (with_reducible refine cD ?_))); (case side6 => exact HC0_2.out); rintro e w20 ⟨v183, v186, v189, rfl, ho0, ho1, ho2, hb⟩; refine ⟨_, rfl, ?_⟩; have n0_ := Am (Kd.R_lower ho0 (bZ (by repeat (first | (with_reducible first | exact HB.out | apply oA | apply pN | apply o1 | refine bS ?_ GE179.out | refine bS ?_ GE180.out) | exact HB.out)))); have n1_ := Am (Kd.R_lower ho1 (bZ (by repeat (first | (with_reducible first | exact HB.out | apply oA | apply pN | apply o1 | refine bS ?_ GE179.out | refine bS ?_ GE180.out) | exact HB.out)))); have n2_ := Am (Kd.R_lower ho2 (bZ (by repeat (first | (with_reducible first | exact HB.out | apply oA | apply pN | apply o1 | refine bS ?_ GE179.out | refine bS ?_ GE180.out) | exact HB.out)))); have n3_ := Am (bB (g := gb179) (o := .cells #[.slice A0_0 l0_0.length c0_0, .slice A0_1 l0_1.length c0_1, .slice A0_2 l0_2.length c0_2] 27 (0, 0)) (by (with_reducible repeat (first | refine bN ?_ _ | refine bD ?_ | refine bA ?_ _)); exact BK179.out) hb); have n4_ := Am (bB (g := gb180) (o := .cells #[.slice none 0 0, .slice none 0 0, .slice none 0 0] 27 (0, 0)) (by (with_reducible repeat (first | refine bN ?_ _ | refine bD ?_ | refine bA ?_ _)); exact BK180.out) hb); have n5_ := Am (bP (by repeat (first | (with_reducible first | exact HB.out | apply oA | apply pN | apply o1 | refine bS ?_ GE179.out | refine bS ?_ GE180.out) | exact HB.out)) hb); clear BK179; clear BK180; clear HB; have HO184 := n0_; have HO187 := n1_; have HO190 := n2_; have BK179 := n3_; have BK180 := n4_; have HB := n5_; clear n0_ n1_ n2_ n3_ n4_ n5_; (try clear hb); (try clear hb2); (try clear hk); (try clear hi); (try clear ho0); (try clear ho1); (try clear ho2)) | ((with_reducible refine gate_dst (N := 6) rfl ?_); (try (refine gate_guard (by rfl) ?_; dsimp only)); refine box_event ?hg (N := 6) ?hd (cs := #[.slice none 0 0, .slice none 0 0, .slice none 0 0]) (t := 27) ?hr ?_; (case hd => rfl); (case hg => rfl); (case hr => first | (go_simp; done) | (go_simp; rfl)); intro gb191 hg w21 hbox hb; have n0_ := Am (rB (by (with_reducible repeat (first | apply rA | apply rN | apply rD)); exact HO184.out) hb); have n1_ := Am (rB (by (with_reducible repeat (first | apply rA | apply rN | apply rD)); exact HO187.out) hb); have n2_ := Am (rB (by (with_reducible repeat (first | apply rA | apply rN | apply rD)); exact HO190.out) hb); have n3_ := Am (bB (g := gb179) (o := .cells #[.slice A0_0 l0_0.length c0_0, .slice A0_1 l0_1.length c0_1, .slice A0_2 l0_2.length c0_2] 27 (0, 0)) (by (with_reducible repeat (first | refine bN ?_ _ | refine bD ?_ | refine bA ?_ _)); exact BK179.out) hb); have n4_ := Am (bB (g := gb180) (o := .cells #[.slice none 0 0, .slice none 0 0, .slice none 0 0] 27 (0, 0)) (by (with_reducible repeat (first | refine bN ?_ _ | refine bD ?_ | refine bA ?_ _)); exact BK180.out) hb); have n5_ := Am (bP (by repeat (first | (with_reducible first | exact HB.out | apply oA | apply pN | apply o1 | refine bS ?_ GE179.out | refine bS ?_ GE180.out) | exact HB.out)) hb); have n6_ := Am (hbox); have n7_ := Am ((by rw [hg]; exact (bZ (by repeat (first | (with_reducible first | exact HB.out | apply oA | apply pN | apply o1 | refine bS ?_ GE179.out | refine bS ?_ GE180.out) | exact HB.out))) : w.heap.size ≤ gb191)); have n8_ := Am ((by rw [hg]; exact (bZ (by repeat (first | (with_reducible first | exact HB.out | apply oA | apply pN | apply o1 | refine bS ?_ GE179.out | refine bS ?_ GE180.out) | exact HB.out))) : w.heap.size ≤ gb191)); have n9_ := Am ((by rw [hg]; exact Nat.ne_of_lt (blk_lt (g := gb179) (o := .cells #[.slice A0_0 l0_0.length c0_0, .slice A0_1 l0_1.length c0_1, .slice A0_2 l0_2.length c0_2] 27 (0, 0)) (by (with_reducible repeat (first | refine bN ?_ _ | refine bD ?_ | refine bA ?_ _)); exact BK179.out)) : gb179 ≠ gb191)); have n10_ := Am ((by rw [hg]; exact Nat.ne_of_gt (blk_lt (g := gb179) (o := .cells #[.slice A0_0 l0_0.length c0_0, .slice A0_1 l0_1.length c0_1, .slice A0_2 l0_2.length c0_2] 27 (0, 0)) (by (with_reducible repeat (first | refine bN ?_ _ | refine bD ?_ | refine bA ?_ _)); exact BK179.out)) : gb191 ≠ gb179)); have n11_ := Am ((by rw [hg]; exact Nat.ne_of_lt (blk_lt (g := gb180) (o := .cells #[.slice none 0 0, .slice none 0 0, .slice none 0 0] 27 (0, 0)) (by (with_reducible repeat (first | refine bN ?_ _ | refine bD ?_ | refine bA ?_ _)); exact BK180.out)) : gb180 ≠ gb191)); have n12_ := Am ((by rw [hg]; exact Nat.ne_of_gt (blk_lt (g := gb180) (o := .cells #[.slice none 0 0, .slice none 0 0, .slice none 0 0] 27 (0, 0)) (by (with_reducible repeat (first | refine bN ?_ _ | refine bD ?_ | refine bA ?_ _)); exact BK180.out)) : gb191 ≠ gb180)); clear HO184; clear HO187; clear HO190; clear BK179; clear BK180; clear HB; have HO184 := n0_; have HO187 := n1_; have HO190 := n2_; have BK179 := n3_; have BK180 := n4_; have HB := n5_; have BK191 := n6_; have GW191 := n7_; have GE191 := n8_; have NB179_191 := n9_; have NB191_179 := n10_; have NB180_191 := n11_; have NB191_180 := n12_; clear n0_ n1_ n2_ n3_ n4_ n5_ n6_ n7_ n8_ n9_ n10_ n11_ n12_; clear hb hbox hg; obtain ⟨Ao22, co22, eo22⟩ := Kd.R_slice HO184.out; subst eo22; have hnb23 := NB191_179.out; have hnc23 := NB179_191.out; have hnb24 := NB191_180.out; have hnc24 := NB180_191.out; have hcz25_0 : w21.cell? ⟨gb191, 0, none⟩ = some (.slice none 0 0) := (bC BK191.out 0).trans rfl; have hcz25_1 : w21.cell? ⟨gb191, 1, none⟩ = some (.slice none 0 0) := (bC BK191.out 1).trans rfl; have hcz25_2 : w21.cell? ⟨gb191, 2, none⟩ = some (.slice none 0 0) := (bC BK191.out 2).trans rfl; have hfz25_0 := bF BK191.out 0; have hfz25_1 := bF BK191.out 1; have hfz25_2 := bF BK191.out 2; obtain ⟨Ao26, co26, eo26⟩ := Kd.R_slice HO187.out; subst eo26; obtain ⟨Ao27, co27, eo27⟩ := Kd.R_slice HO190.out; subst eo27))
    go_loopg [7] kj2 (fun kq v7 w' => ∃ (x7_2 : Int) (x192000_2 : List Bool) (x192001_2 : List Bool) (u192000 : Value) (u192001 : Value), v7 = .int .i64 x7_2 ∧ Aside0 (spec_SigsBlock.l0 kq l1 x7_2 x192000_2 x192001_2 t188 = some (r1, r2, r3, r4)) ∧ Aside0 (kq ≤ kj2) ∧ Aside0 (Kd.R Kd.bool 4 w' w.heap.size (fun k_ => some k_ ≠ (u192001 : Value).ownBlock) u192000 x192000_2) ∧ Aside0 (Kd.R Kd.bool 4 w' w.heap.size (fun k_ => some k_ ≠ (u192000 : Value).ownBlock) u192001 x192001_2) ∧ Aside0 (Kd.R (Kd.int .i64) 3 w' w.heap.size (fun _ => True) (.slice Ao27 t188.length co27) t188) ∧ Aside0 (w'.heap[gb179]? = some (.cells #[(.slice A0_0 l0_0.length c0_0), (.slice A0_1 l0_1.length c0_1), (.slice A0_2 l0_2.length c0_2)] 27 (0, 0))) ∧ Aside0 (w'.heap[gb180]? = some (.cells #[(.slice none 0 0), (.slice none 0 0), (.slice none 0 0)] 27 (0, 0))) ∧ Aside0 (w'.heap[gb191]? = some (.cells #[u192000, u192001, (.slice Ao27 t188.length co27)] 27 (0, 0))) ∧ Aside0 (Below w.heap.size w w'))
    case atStart => exact ⟨(0), (t182), (t185), (.slice Ao22 t182.length co22), (.slice Ao26 t185.length co26), (by first | rfl | (simp; done) | (simp [*]; done)), H', ⟨Nat.le_refl _⟩, ⟨by (with_reducible repeat (first | apply rA | apply rN | apply rD)); exact rM (rF (p := ⟨gb191, 2, none⟩) (rF (p := ⟨gb191, 1, none⟩) (rF (p := ⟨gb191, 0, none⟩) (rT HO184.out BK191.out (by decide)) (fun _ hk => hk.2) (.slice Ao22 t182.length co22)) (fun _ hk => hk.2) (.slice Ao26 t185.length co26)) (fun _ hk => hk.2) (.slice Ao27 t188.length co27)) (fun _ hk => hk.1)⟩, ⟨by (with_reducible repeat (first | apply rA | apply rN | apply rD)); exact rM (rF (p := ⟨gb191, 2, none⟩) (rF (p := ⟨gb191, 1, none⟩) (rF (p := ⟨gb191, 0, none⟩) (rT HO187.out BK191.out (by decide)) (fun _ hk => hk.2) (.slice Ao22 t182.length co22)) (fun _ hk => hk.2) (.slice Ao26 t185.length co26)) (fun _ hk => hk.2) (.slice Ao27 t188.length co27)) (fun _ hk => hk.1)⟩, ⟨by (with_reducible repeat (first | apply rA | apply rN | apply rD)); exact rM (rF (p := ⟨gb191, 2, none⟩) (rF (p := ⟨gb191, 1, none⟩) (rF (p := ⟨gb191, 0, none⟩) (rT HO190.out BK191.out (by decide)) (fun _ hk => hk.2) (.slice Ao22 t182.length co22)) (fun _ hk => hk.2) (.slice Ao26 t185.length co26)) (fun _ hk => hk.2) (.slice Ao27 t188.length co27)) (fun _ hk => trivial)⟩, ⟨by (with_reducible repeat (first | refine bN ?_ _ | refine bD ?_ | refine bA ?_ _)); refine blk_far ?_ NB179_191.out _; (with_reducible repeat (first | refine bN ?_ _ | refine bD ?_ | refine bA ?_ _)); refine blk_far ?_ NB179_191.out _; (with_reducible repeat (first | refine bN ?_ _ | refine bD ?_ | refine bA ?_ _)); refine blk_far ?_ NB179_191.out _; (with_reducible repeat (first | refine bN ?_ _ | refine bD ?_ | refine bA ?_ _)); exact BK179.out⟩, ⟨by (with_reducible repeat (first | refine bN ?_ _ | refine bD ?_ | refine bA ?_ _)); refine blk_far ?_ NB180_191.out _; (with_reducible repeat (first | refine bN ?_ _ | refine bD ?_ | refine bA ?_ _)); refine blk_far ?_ NB180_191.out _; (with_reducible repeat (first | refine bN ?_ _ | refine bD ?_ | refine bA ?_ _)); refine blk_far ?_ NB180_191.out _; (with_reducible repeat (first | refine bN ?_ _ | refine bD ?_ | refine bA ?_ _)); exact BK180.out⟩, ⟨by (with_reducible repeat (first | refine bN ?_ _ | refine bD ?_ | refine bA ?_ _)); refine blk_put (cs := #[.slice Ao22 t182.length co22, .slice Ao26 t185.length co26, .slice none 0 0]) ?_ 2 _ rfl; (with_reducible repeat (first | refine bN ?_ _ | refine bD ?_ | refine bA ?_ _)); refine blk_put (cs := #[.slice Ao22 t182.length co22, .slice none 0 0, .slice none 0 0]) ?_ 1 _ rfl; (with_reducible repeat (first | refine bN ?_ _ | refine bD ?_ | refine bA ?_ _)); refine blk_put (cs := #[.slice none 0 0, .slice none 0 0, .slice none 0 0]) ?_ 0 _ rfl; (with_reducible repeat (first | refine bN ?_ _ | refine bD ?_ | refine bA ?_ _)); exact BK191.out⟩, ⟨by repeat (first | (with_reducible first | exact HB.out | apply oA | apply pN | apply o1 | refine bS ?_ GE179.out | refine bS ?_ GE180.out | refine bS ?_ GE191.out) | exact HB.out)⟩⟩
    case round =>
     clear H'
     try clear c1
     try clear c2
     try clear p2
     try clear c5
     try clear c7
     try clear c8
     try clear c11
     try clear c14
     try clear c15
     try clear c18
     try clear c20
     try clear c23
     try clear c24
     try clear hcz12_0
     try clear hcz12_1
     try clear hcz12_2
     try clear hcz16_0
     try clear hcz16_1
     try clear hcz16_2
     try clear hcz19_0
     try clear hcz19_1
     try clear hcz19_2
     try clear hcz25_0
     try clear hcz25_1
     try clear hcz25_2
     try clear hcz9_0
     try clear hcz9_1
     try clear hcz9_2
     try clear hfz12_0
     try clear hfz12_1
     try clear hfz12_2
     try clear hfz16_0
     try clear hfz16_1
     try clear hfz16_2
     try clear hfz19_0
     try clear hfz19_1
     try clear hfz19_2
     try clear hfz25_0
     try clear hfz25_1
     try clear hfz25_2
     try clear hfz9_0
     try clear hfz9_1
     try clear hfz9_2
     try clear p2
     obtain ⟨x7_2, x192000_2, x192001_2, u192000, u192001, rfl, HA, HK2, HO_192000, HO_192001, HO_192002, BK179, BK180, BK191, HB⟩ := hrel
     cases gk with
     | zero => exact absurd HA.out (by simp [spec_SigsBlock.l0])
     | succ k2 =>
      have H := HA.out
      clear HA
      simp only [spec_SigsBlock.l0] at H
      by_cases c28 : x7_2 < 8
      ·rw [if_pos c28] at H
       have c28b0 : decide (x7_2 < 8) = true := decide_eq_true c28
       clear c28
       by_cases c29 : 0 ≤ x7_2
       ·rw [if_pos c29] at H
        have c29b0 : decide (0 ≤ x7_2) = true := decide_eq_true c29
        clear c29
        by_cases c30 : x7_2 < (l1.length : Int)
        ·rw [if_pos c30] at H
         have c30b0 : decide (x7_2 < (l1.length : Int)) = true := decide_eq_true c30
         clear c30
         obtain ⟨bq31, hbq31⟩ : ∃ b_ : Bool, b_ = (rdOf false l1 x7_2) := ⟨_, rfl⟩
         replace H : (if bq31 = true then ((spec_l10Fixed.f (wrap64 (x7_2 + 1))).bind fun t193 => (if x7_2 < (x192001_2.length : Int) then (spec_SigsBlock.l0 k2 l1 (wrap64 (x7_2 + 1)) x192000_2 (x192001_2.set (x7_2 : Int).toNat (!t193)) t188) else (none))) else (if x7_2 < (x192001_2.length : Int) then (spec_SigsBlock.l0 k2 l1 (wrap64 (x7_2 + 1)) x192000_2 (x192001_2.set (x7_2 : Int).toNat false) t188) else (none))) = some (r1, r2, r3, r4) := by rw [← hbq31] at H; exact H
         have Nbq31 := Am hbq31
         clear hbq31
         by_cases c32 : bq31 = true
         ·subst c32
          have H1 : ((spec_l10Fixed.f (wrap64 (x7_2 + 1))).bind fun t193 => (if x7_2 < (x192001_2.length : Int) then (spec_SigsBlock.l0 k2 l1 (wrap64 (x7_2 + 1)) x192000_2 (x192001_2.set (x7_2 : Int).toNat (!t193)) t188) else (none))) = some (r1, r2, r3, r4) := by rw [if_pos rfl] at H; exact H
          clear H
          have H := H1
          clear H1
          replace H := Option.bind_eq_some_iff.mp H
          obtain ⟨t193, A330, H⟩ := H
          replace H : (if x7_2 < (x192001_2.length : Int) then (spec_SigsBlock.l0 k2 l1 (wrap64 (x7_2 + 1)) x192000_2 (x192001_2.set (x7_2 : Int).toNat (!t193)) t188) else (none)) = some (r1, r2, r3, r4) := H
          have A33 := Am A330
          clear A330
          by_cases c34 : x7_2 < (x192001_2.length : Int)
          ·rw [if_pos c34] at H
           have c34b0 : decide (x7_2 < (x192001_2.length : Int)) = true := decide_eq_true c34
           clear c34
           obtain ⟨y194, hy194⟩ : ∃ y_ : List Bool, y_ = (x192001_2.set (x7_2 : Int).toNat (!t193)) := ⟨_, rfl⟩
           replace H : (spec_SigsBlock.l0 k2 l1 (wrap64 (x7_2 + 1)) x192000_2 y194 t188) = some (r1, r2, r3, r4) := by first | (rw [hy194]; with_reducible exact H) | (have H2_ := (Option.bind_some _ _).symm.trans H; rw [hy194]; with_reducible exact H2_) | (have H2_ := (Option.bind_some _ _).symm.trans H; with_reducible exact H2_) | with_reducible exact H | (rw [hy194]; exact H) | exact H
           have Ny194 := Am hy194
           clear hy194
           have H' := Am H
           clear H
           try go_wp2
           have n0_ := Am (rD HO_192000.out)
           have n1_ := Am (rD HO_192001.out)
           have n2_ := Am (rD HO_192002.out)
           have n3_ := Am (bD BK179.out)
           have n4_ := Am (bD BK180.out)
           have n5_ := Am (bD BK191.out)
           have n6_ := Am (o1 HB.out)
           clear HO_192000
           clear HO_192001
           clear HO_192002
           clear BK179
           clear BK180
           clear BK191
           clear HB
           have HO_192000 := n0_
           have HO_192001 := n1_
           have HO_192002 := n2_
           have BK179 := n3_
           have BK180 := n4_
           have BK191 := n5_
           have HB := n6_
           clear n0_ n1_ n2_ n3_ n4_ n5_ n6_
           have p192 : 0 ≤ (x7_2 : Int) := of_decide_eq_true (by first | (with_reducible assumption) | assumption)
           have q192 : x7_2 < (l1.length : Int) := of_decide_eq_true (by first | (with_reducible assumption) | assumption)
           obtain ⟨ad192, e192, hx192_0⟩ := Kd.at_bool HR1.out x7_2 p192 q192
           have hw192_0 := hx192_0
           (try rw [← Nbq31.out] at hx192_0)
           cases e192
           replace hx192_0 := (HB.out.cell (World.block_lt_of_cell? w _ hx192_0)).trans hx192_0
           replace p192 := eq_true p192
           replace q192 := eq_true q192
           refine start_ (n := 15) (S := fun w' => w'.cell? ⟨gb191, 0, none⟩ = some (u192000) ∧ w'.cell? ⟨gb191, 1, none⟩ = some (u192001) ∧ w'.cell? ⟨gb191, 2, none⟩ = some (.slice Ao27 t188.length co27) ∧ w'.cell? (ad192.add (x7_2).toNat) = some (.bool true)) (ds := [14]) spec_SigsBlock.q0 (by kernel_rfl) rfl rfl ⟨(bC BK191.out 0).trans rfl, (bC BK191.out 1).trans rfl, (bC BK191.out 2).trans rfl, (by first | exact ((HB.out.cell (World.block_lt_of_cell? w _ hw192_0)).trans hw192_0) | (have z_ := ((HB.out.cell (World.block_lt_of_cell? w _ hw192_0)).trans hw192_0); rw [← Nbq31.out] at z_; exact z_))⟩ (fun hHeld => ?_); refine with_tabW spec_SigsBlock.tab7 spec_SigsBlock.bits7 (fun HT_ HW_ => ?_)
           generalize wr.drew = w36 at HO_192000 HO_192001 HO_192002 BK179 BK180 BK191 HB hx192_0 hHeld ⊢
           refine pure_ (i := 0) (N := some 23) (v := ?_) (a' := ?_) spec_SigsBlock.q1 rfl rfl (any_of HT_.out (by kernel_rfl)) (fun _ _ _ h => h) (Or.inl ⟨by rfl, ?_⟩) ?_ ?_
           rotate_left
           ·intro w'
            go_simp
            with_reducible rfl
           rotate_left
           ·simp only [Act.put, lA, lZ, lS, i64_w, i32_w]
            rfl
           refine pure_ (i := 2) (N := some 25) (v := ?_) (a' := ?_) spec_SigsBlock.q2 rfl rfl (any_of HT_.out (by kernel_rfl)) (fun _ _ _ h => h) (Or.inl ⟨by rfl, ?_⟩) ?_ ?_
           rotate_left
           ·intro w'
            go_simp
            with_reducible rfl
           rotate_left
           ·simp only [Act.put, lA, lZ, lS, i64_w, i32_w]
            rfl
           refine pure_ (i := 3) (N := some 26) (v := ?_) (a' := ?_) spec_SigsBlock.q3 rfl rfl (any_of HT_.out (by kernel_rfl)) (fun _ _ _ h => h) (Or.inl ⟨by rfl, ?_⟩) ?_ ?_
           rotate_left
           ·intro w'
            go_simp
            with_reducible rfl
           rotate_left
           ·simp only [Act.put, lA, lZ, lS, i64_w, i32_w]
            rfl
           refine pure_ (i := 4) (N := some 27) (v := ?_) (a' := ?_) spec_SigsBlock.q4 rfl rfl (any_of HT_.out (by kernel_rfl)) (fun _ _ _ h => h) (Or.inl ⟨by rfl, ?_⟩) ?_ ?_
           rotate_left
           ·intro w'
            go_simp
            with_reducible rfl
           rotate_left
           ·simp only [Act.put, lA, lZ, lS, i64_w, i32_w]
            rfl
           refine pure_ (i := 5) (N := some 28) (v := ?_) (a' := ?_) spec_SigsBlock.q5 rfl rfl (any_of HT_.out (by kernel_rfl)) (fun _ _ _ h => h) (Or.inl ⟨by rfl, ?_⟩) ?_ ?_
           rotate_left
           ·intro w'
            go_simp
            with_reducible rfl
           rotate_left
           ·simp only [Act.put, lA, lZ, lS, i64_w, i32_w]
            rfl
           refine take_ (i := 1) (N := some 24) (v := ?_) (a' := ?_) spec_SigsBlock.q6 rfl rfl (take_ofW HT_.out HW_.out (by kernel_rfl)) (fun _ _ _ h => h) (Or.inl ⟨by rfl, ?_⟩) hHeld ?_ ?_
           rotate_left
           ·rintro w' ⟨s0, s1, s2, s3⟩
            go_simp
            with_reducible rfl
           rotate_left
           ·simp only [Act.put, lA, lZ, lS, i64_w, i32_w]
            rfl
           refine take_ (i := 6) (N := some 29) (v := ?_) (a' := ?_) spec_SigsBlock.q7 rfl rfl (take_ofW HT_.out HW_.out (by kernel_rfl)) (fun _ _ _ h => h) (Or.inl ⟨by rfl, ?_⟩) hHeld ?_ ?_
           rotate_left
           ·rintro w' ⟨s0, s1, s2, s3⟩
            go_simp
            with_reducible rfl
           rotate_left
           ·simp only [Act.put, lA, lZ, lS, i64_w, i32_w]
            rfl
           refine pure_ (i := 7) (N := some 30) (v := ?_) (a' := ?_) spec_SigsBlock.q8 rfl rfl (any_of HT_.out (by kernel_rfl)) (fun _ _ _ h => h) (Or.inl ⟨by rfl, ?_⟩) ?_ ?_
           rotate_left
           ·intro w'
            go_simp
            with_reducible rfl
           rotate_left
           ·simp only [Act.put, lA, lZ, lS, i64_w, i32_w]
            rfl
           refine pure_ (i := 8) (N := some 31) (v := ?_) (a' := ?_) spec_SigsBlock.q9 rfl rfl (any_of HT_.out (by kernel_rfl)) (fun _ _ _ h => h) (Or.inl ⟨by rfl, ?_⟩) ?_ ?_
           rotate_left
           ·intro w'
            go_simp
            with_reducible rfl
           rotate_left
           ·simp only [Act.put, lA, lZ, lS, i64_w, i32_w]
            rfl
           refine pure_ (i := 9) (N := some 32) (v := ?_) (a' := ?_) spec_SigsBlock.q10 rfl rfl (any_of HT_.out (by kernel_rfl)) (fun _ _ _ h => h) (Or.inl ⟨by rfl, ?_⟩) ?_ ?_
           rotate_left
           ·intro w'
            go_simp
            with_reducible rfl
           rotate_left
           ·simp only [Act.put, lA, lZ, lS, i64_w, i32_w]
            rfl
           refine one_ (i := 10) (N := some 33) spec_SigsBlock.q11 rfl rfl (one_of HT_.out (by kernel_rfl)) (by decide) (fun K hK => ?_)
           refine goes_ Try.func65 (by kernel_rfl) rfl #[.int .i64 (wrap64 (x7_2 + 1))] (by rfl) rfl rfl (by (try simp only [lM, lC, lN]); first | done | rfl | (simp only [lD, lT]; rfl)) ?_
           with_reducible refine (spec_l10Fixed.calls (wrap64 (x7_2 + 1)) t193 _ A33.out).mono ?_
           rintro e w' ⟨rfl, ⟨nd, rfl⟩⟩
           refine ⟨_, rfl, ?_⟩
           have p35 : 0 ≤ (x7_2 : Int) := of_decide_eq_true (by first | (with_reducible assumption) | assumption)
           have q35 : (x7_2 : Int) < ((x192001_2.length : Int) : Int) := of_decide_eq_true (by first | (with_reducible assumption) | assumption)
           obtain ⟨go35, co35, eo35, gb35, gl35, cl35, HG35⟩ := Kd.R_form HO_192001.out (by omega)
           (first | cases eo35 | (injection eo35 with ea_ en_ ec_; (first | subst ea_ | (injection ea_ with ea_; subst ea_)); subst ec_; clear en_))
           have GB35 := Am gb35
           have GG35 := Am HG35
           clear gb35 gl35 HG35
           obtain ⟨hx35_0, hf35_0⟩ := Kd.R_celln false HO_192001.out (x7_2 : Int) p35 q35
           replace p35 := eq_true p35
           replace q35 := eq_true q35
           have HP37 := Kd.R_putn HO_192001.out (x7_2 : Int) (!t193)
           rw [← Ny194.out] at HP37
           have HQ37 := Am HP37
           clear HP37
           refine hK.out _ _ ⟨(bC BK191.out 0).trans rfl, (bC BK191.out 1).trans rfl, (bC BK191.out 2).trans rfl, (by first | exact ((HB.out.cell (World.block_lt_of_cell? w _ hw192_0)).trans hw192_0) | (have z_ := ((HB.out.cell (World.block_lt_of_cell? w _ hw192_0)).trans hw192_0); rw [← Nbq31.out] at z_; exact z_))⟩ (fun hHeld => ?_)
           clear hK K
           refine norm_ (a' := ?_) ?_ ?_
           rotate_left
           ·show Act.put _ (some 33) _ = _
            simp only [Act.put, lA, lZ, lS, i64_w, i32_w]
            rfl
           refine pure_ (i := 11) (N := some 34) (v := ?_) (a' := ?_) spec_SigsBlock.q12 rfl rfl (any_of HT_.out (by kernel_rfl)) (fun _ _ _ h => h) (Or.inl ⟨by rfl, ?_⟩) ?_ ?_
           rotate_left
           ·intro w'
            go_simp
            with_reducible rfl
           rotate_left
           ·simp only [Act.put, lA, lZ, lS, i64_w, i32_w]
            rfl
           refine pure_ (i := 12) (N := some 35) (v := ?_) (a' := ?_) spec_SigsBlock.q13 rfl rfl (any_of HT_.out (by kernel_rfl)) (fun _ _ _ h => h) (Or.inl ⟨by rfl, ?_⟩) ?_ ?_
           rotate_left
           ·intro w'
            go_simp
            with_reducible rfl
           rotate_left
           ·simp only [Act.put, lA, lZ, lS, i64_w, i32_w]
            rfl
           refine pure_ (i := 13) (N := some 36) (v := ?_) (a' := ?_) spec_SigsBlock.q14 rfl rfl (any_of HT_.out (by kernel_rfl)) (fun _ _ _ h => h) (Or.inl ⟨by rfl, ?_⟩) ?_ ?_
           rotate_left
           ·intro w'
            go_simp
            with_reducible rfl
           rotate_left
           ·simp only [Act.put, lA, lZ, lS, i64_w, i32_w]
            rfl
           refine last_ (i := 14) (N := none) spec_SigsBlock.q15 rfl rfl (one_of HT_.out (by kernel_rfl)) (by decide) (fun K hK => ?_)
           refine skip_ (w1 := ?_) (by rfl) rfl ?_ ?_
           rotate_left
           ·go_simp
            rfl
           refine hK.out _ _ ?_
           clear hK K
           refine done_ (done_of HT_.out (by kernel_rfl)) ?_
           try go_wp2
           go_roundg k2
           case measure => have := HJ2.out; have := HK2.out; omega
           case rel => exact ⟨(wrap64 (x7_2 + 1)), (x192000_2), (y194), (u192000), (.slice (some ⟨go35, 0, none⟩) x192001_2.length co35), (by first | rfl | (simp; done) | (simp [*]; done)), H', ⟨by have := HJ2.out; have := HK2.out; omega⟩, ⟨by (with_reducible repeat (first | apply rA | apply rN | apply rD)); exact rM (rF (p := ⟨go35, (x7_2 : Int).toNat, none⟩) (rM HO_192000.out (fun k_ hk => (⟨hk, fun e_ => hk (by rw [e_]; rfl)⟩ : _ ∧ k_ ≠ go35))) (fun _ hk => hk.2) (.bool (!t193))) (fun _ hk => hk.1)⟩, ⟨by (with_reducible repeat (first | apply rA | apply rN | apply rD)); exact HQ37.out⟩, ⟨by (with_reducible repeat (first | apply rA | apply rN | apply rD)); exact rM (rF (p := ⟨go35, (x7_2 : Int).toNat, none⟩) (rT HO_192002.out GG35.out (by decide)) (fun _ hk => hk.2) (.bool (!t193))) (fun _ hk => trivial)⟩, ⟨by (with_reducible repeat (first | refine bN ?_ _ | refine bD ?_ | refine bA ?_ _)); refine blk_far ?_ (by have h_ := Kd.R_ne HO_192001.out BK179.out (by decide); intro e_; exact h_ (by rw [e_]; rfl)) _; (with_reducible repeat (first | refine bN ?_ _ | refine bD ?_ | refine bA ?_ _)); exact BK179.out⟩, ⟨by (with_reducible repeat (first | refine bN ?_ _ | refine bD ?_ | refine bA ?_ _)); refine blk_far ?_ (by have h_ := Kd.R_ne HO_192001.out BK180.out (by decide); intro e_; exact h_ (by rw [e_]; rfl)) _; (with_reducible repeat (first | refine bN ?_ _ | refine bD ?_ | refine bA ?_ _)); exact BK180.out⟩, ⟨by (with_reducible repeat (first | refine bN ?_ _ | refine bD ?_ | refine bA ?_ _)); refine blk_far ?_ (by have h_ := Kd.R_ne HO_192001.out BK191.out (by decide); intro e_; exact h_ (by rw [e_]; rfl)) _; (with_reducible repeat (first | refine bN ?_ _ | refine bD ?_ | refine bA ?_ _)); exact BK191.out⟩, ⟨by repeat (first | (with_reducible first | exact HB.out | apply oA | apply pN | apply o1 | refine bS ?_ GB35.out | refine bS ?_ GE179.out | refine bS ?_ GE180.out | refine bS ?_ GE191.out) | exact HB.out)⟩⟩
          ·rw [if_neg c34] at H
           exact absurd H (by simp)
         ·replace c32 := Bool.eq_false_iff.mpr c32
          subst c32
          have H1 : (if x7_2 < (x192001_2.length : Int) then (spec_SigsBlock.l0 k2 l1 (wrap64 (x7_2 + 1)) x192000_2 (x192001_2.set (x7_2 : Int).toNat false) t188) else (none)) = some (r1, r2, r3, r4) := by rw [if_neg (show ¬ (false = true) by decide)] at H; exact H
          clear H
          have H := H1
          clear H1
          by_cases c38 : x7_2 < (x192001_2.length : Int)
          ·rw [if_pos c38] at H
           have c38b0 : decide (x7_2 < (x192001_2.length : Int)) = true := decide_eq_true c38
           clear c38
           obtain ⟨y195, hy195⟩ : ∃ y_ : List Bool, y_ = (x192001_2.set (x7_2 : Int).toNat false) := ⟨_, rfl⟩
           replace H : (spec_SigsBlock.l0 k2 l1 (wrap64 (x7_2 + 1)) x192000_2 y195 t188) = some (r1, r2, r3, r4) := by first | (rw [hy195]; with_reducible exact H) | (have H2_ := (Option.bind_some _ _).symm.trans H; rw [hy195]; with_reducible exact H2_) | (have H2_ := (Option.bind_some _ _).symm.trans H; with_reducible exact H2_) | with_reducible exact H | (rw [hy195]; exact H) | exact H
           have Ny195 := Am hy195
           clear hy195
           have H' := Am H
           clear H
           try go_wp2
           have n0_ := Am (rD HO_192000.out)
           have n1_ := Am (rD HO_192001.out)
           have n2_ := Am (rD HO_192002.out)
           have n3_ := Am (bD BK179.out)
           have n4_ := Am (bD BK180.out)
           have n5_ := Am (bD BK191.out)
           have n6_ := Am (o1 HB.out)
           clear HO_192000
           clear HO_192001
           clear HO_192002
           clear BK179
           clear BK180
           clear BK191
           clear HB
           have HO_192000 := n0_
           have HO_192001 := n1_
           have HO_192002 := n2_
           have BK179 := n3_
           have BK180 := n4_
           have BK191 := n5_
           have HB := n6_
           clear n0_ n1_ n2_ n3_ n4_ n5_ n6_
           have p192 : 0 ≤ (x7_2 : Int) := of_decide_eq_true (by first | (with_reducible assumption) | assumption)
           have q192 : x7_2 < (l1.length : Int) := of_decide_eq_true (by first | (with_reducible assumption) | assumption)
           obtain ⟨ad192, e192, hx192_0⟩ := Kd.at_bool HR1.out x7_2 p192 q192
           have hw192_0 := hx192_0
           (try rw [← Nbq31.out] at hx192_0)
           cases e192
           replace hx192_0 := (HB.out.cell (World.block_lt_of_cell? w _ hx192_0)).trans hx192_0
           replace p192 := eq_true p192
           replace q192 := eq_true q192
           have p39 : 0 ≤ (x7_2 : Int) := of_decide_eq_true (by first | (with_reducible assumption) | assumption)
           have q39 : (x7_2 : Int) < ((x192001_2.length : Int) : Int) := of_decide_eq_true (by first | (with_reducible assumption) | assumption)
           obtain ⟨go39, co39, eo39, gb39, gl39, cl39, HG39⟩ := Kd.R_form HO_192001.out (by omega)
           (first | cases eo39 | (injection eo39 with ea_ en_ ec_; (first | subst ea_ | (injection ea_ with ea_; subst ea_)); subst ec_; clear en_))
           have GB39 := Am gb39
           have GG39 := Am HG39
           clear gb39 gl39 HG39
           obtain ⟨hx39_0, hf39_0⟩ := Kd.R_celln false HO_192001.out (x7_2 : Int) p39 q39
           replace p39 := eq_true p39
           replace q39 := eq_true q39
           have HP41 := Kd.R_putn HO_192001.out (x7_2 : Int) false
           rw [← Ny195.out] at HP41
           have HQ41 := Am HP41
           clear HP41
           refine start_ (n := 15) (S := fun w' => w'.cell? ⟨gb191, 0, none⟩ = some (u192000) ∧ w'.cell? ⟨gb191, 1, none⟩ = some (.slice (some ⟨go39, 0, none⟩) x192001_2.length co39) ∧ w'.cell? ⟨gb191, 2, none⟩ = some (.slice Ao27 t188.length co27) ∧ w'.cell? (ad192.add (x7_2).toNat) = some (.bool false)) (ds := [14]) spec_SigsBlock.q0 (by kernel_rfl) rfl rfl ⟨(bC BK191.out 0).trans rfl, (bC BK191.out 1).trans rfl, (bC BK191.out 2).trans rfl, (by first | exact ((HB.out.cell (World.block_lt_of_cell? w _ hw192_0)).trans hw192_0) | (have z_ := ((HB.out.cell (World.block_lt_of_cell? w _ hw192_0)).trans hw192_0); rw [← Nbq31.out] at z_; exact z_))⟩ (fun hHeld => ?_); refine with_tabW spec_SigsBlock.tab7 spec_SigsBlock.bits7 (fun HT_ HW_ => ?_)
           generalize wr.drew = w40 at HO_192000 HO_192001 HO_192002 BK179 BK180 BK191 HB GG39 HQ41 hf39_0 hx192_0 hx39_0 hHeld ⊢
           refine pure_ (i := 0) (N := some 23) (v := ?_) (a' := ?_) spec_SigsBlock.q1 rfl rfl (any_of HT_.out (by kernel_rfl)) (fun _ _ _ h => h) (Or.inl ⟨by rfl, ?_⟩) ?_ ?_
           rotate_left
           ·intro w'
            go_simp
            with_reducible rfl
           rotate_left
           ·simp only [Act.put, lA, lZ, lS, i64_w, i32_w]
            rfl
           refine pure_ (i := 2) (N := some 25) (v := ?_) (a' := ?_) spec_SigsBlock.q2 rfl rfl (any_of HT_.out (by kernel_rfl)) (fun _ _ _ h => h) (Or.inl ⟨by rfl, ?_⟩) ?_ ?_
           rotate_left
           ·intro w'
            go_simp
            with_reducible rfl
           rotate_left
           ·simp only [Act.put, lA, lZ, lS, i64_w, i32_w]
            rfl
           refine pure_ (i := 3) (N := some 26) (v := ?_) (a' := ?_) spec_SigsBlock.q3 rfl rfl (any_of HT_.out (by kernel_rfl)) (fun _ _ _ h => h) (Or.inl ⟨by rfl, ?_⟩) ?_ ?_
           rotate_left
           ·intro w'
            go_simp
            with_reducible rfl
           rotate_left
           ·simp only [Act.put, lA, lZ, lS, i64_w, i32_w]
            rfl
           refine pure_ (i := 4) (N := some 27) (v := ?_) (a' := ?_) spec_SigsBlock.q4 rfl rfl (any_of HT_.out (by kernel_rfl)) (fun _ _ _ h => h) (Or.inl ⟨by rfl, ?_⟩) ?_ ?_
           rotate_left
           ·intro w'
            go_simp
            with_reducible rfl
           rotate_left
           ·simp only [Act.put, lA, lZ, lS, i64_w, i32_w]
            rfl
           refine pure_ (i := 5) (N := some 28) (v := ?_) (a' := ?_) spec_SigsBlock.q5 rfl rfl (any_of HT_.out (by kernel_rfl)) (fun _ _ _ h => h) (Or.inl ⟨by rfl, ?_⟩) ?_ ?_
           rotate_left
           ·intro w'
            go_simp
            with_reducible rfl
           rotate_left
           ·simp only [Act.put, lA, lZ, lS, i64_w, i32_w]
            rfl
           refine take_ (i := 1) (N := some 24) (v := ?_) (a' := ?_) spec_SigsBlock.q6 rfl rfl (take_ofW HT_.out HW_.out (by kernel_rfl)) (fun _ _ _ h => h) (Or.inl ⟨by rfl, ?_⟩) hHeld ?_ ?_
           rotate_left
           ·rintro w' ⟨s0, s1, s2, s3⟩
            go_simp
            with_reducible rfl
           rotate_left
           ·simp only [Act.put, lA, lZ, lS, i64_w, i32_w]
            rfl
           refine take_ (i := 6) (N := some 29) (v := ?_) (a' := ?_) spec_SigsBlock.q7 rfl rfl (take_ofW HT_.out HW_.out (by kernel_rfl)) (fun _ _ _ h => h) (Or.inl ⟨by rfl, ?_⟩) hHeld ?_ ?_
           rotate_left
           ·rintro w' ⟨s0, s1, s2, s3⟩
            go_simp
            with_reducible rfl
           rotate_left
           ·simp only [Act.put, lA, lZ, lS, i64_w, i32_w]
            rfl
           refine pure_ (i := 7) (N := some 30) (v := ?_) (a' := ?_) spec_SigsBlock.q8 rfl rfl (any_of HT_.out (by kernel_rfl)) (fun _ _ _ h => h) (Or.inl ⟨by rfl, ?_⟩) ?_ ?_
           rotate_left
           ·intro w'
            go_simp
            with_reducible rfl
           rotate_left
           ·simp only [Act.put, lA, lZ, lS, i64_w, i32_w]
            rfl
           refine pure_ (i := 8) (N := some 31) (v := undef) (a' := ?_) spec_SigsBlock.q9 rfl rfl (any_of HT_.out (by kernel_rfl)) (fun _ _ _ h => h) (Or.inr ⟨by rfl, rfl⟩) ?_ ?_
           rotate_left
           ·simp only [Act.put, lA, lZ, lS, i64_w, i32_w]
            rfl
           refine pure_ (i := 9) (N := some 32) (v := undef) (a' := ?_) spec_SigsBlock.q10 rfl rfl (any_of HT_.out (by kernel_rfl)) (fun _ _ _ h => h) (Or.inr ⟨by rfl, rfl⟩) ?_ ?_
           rotate_left
           ·simp only [Act.put, lA, lZ, lS, i64_w, i32_w]
            rfl
           refine pure_ (i := 10) (N := some 33) (v := undef) (a' := ?_) spec_SigsBlock.q11 rfl rfl (any_of HT_.out (by kernel_rfl)) (fun _ _ _ h => h) (Or.inr ⟨by rfl, rfl⟩) ?_ ?_
           rotate_left
           ·simp only [Act.put, lA, lZ, lS, i64_w, i32_w]
            rfl
           refine pure_ (i := 11) (N := some 34) (v := undef) (a' := ?_) spec_SigsBlock.q12 rfl rfl (any_of HT_.out (by kernel_rfl)) (fun _ _ _ h => h) (Or.inr ⟨by rfl, rfl⟩) ?_ ?_
           rotate_left
           ·simp only [Act.put, lA, lZ, lS, i64_w, i32_w]
            rfl
           refine pure_ (i := 12) (N := some 35) (v := ?_) (a' := ?_) spec_SigsBlock.q13 rfl rfl (any_of HT_.out (by kernel_rfl)) (fun _ _ _ h => h) (Or.inl ⟨by rfl, ?_⟩) ?_ ?_
           rotate_left
           ·intro w'
            go_simp
            with_reducible rfl
           rotate_left
           ·simp only [Act.put, lA, lZ, lS, i64_w, i32_w]
            rfl
           refine pure_ (i := 13) (N := some 36) (v := ?_) (a' := ?_) spec_SigsBlock.q14 rfl rfl (any_of HT_.out (by kernel_rfl)) (fun _ _ _ h => h) (Or.inl ⟨by rfl, ?_⟩) ?_ ?_
           rotate_left
           ·intro w'
            go_simp
            with_reducible rfl
           rotate_left
           ·simp only [Act.put, lA, lZ, lS, i64_w, i32_w]
            rfl
           refine last_ (i := 14) (N := none) spec_SigsBlock.q15 rfl rfl (one_of HT_.out (by kernel_rfl)) (by decide) (fun K hK => ?_)
           refine skip_ (w1 := ?_) (by rfl) rfl ?_ ?_
           rotate_left
           ·go_simp
            rfl
           refine hK.out _ _ ?_
           clear hK K
           refine done_ (done_of HT_.out (by kernel_rfl)) ?_
           try go_wp2
           go_roundg k2
           case measure => have := HJ2.out; have := HK2.out; omega
           case rel => exact ⟨(wrap64 (x7_2 + 1)), (x192000_2), (y195), (u192000), (.slice (some ⟨go39, 0, none⟩) x192001_2.length co39), (by first | rfl | (simp; done) | (simp [*]; done)), H', ⟨by have := HJ2.out; have := HK2.out; omega⟩, ⟨by (with_reducible repeat (first | apply rA | apply rN | apply rD)); exact rM (rF (p := ⟨go39, (x7_2 : Int).toNat, none⟩) (rM HO_192000.out (fun k_ hk => (⟨hk, fun e_ => hk (by rw [e_]; rfl)⟩ : _ ∧ k_ ≠ go39))) (fun _ hk => hk.2) (.bool false)) (fun _ hk => hk.1)⟩, ⟨by (with_reducible repeat (first | apply rA | apply rN | apply rD)); exact HQ41.out⟩, ⟨by (with_reducible repeat (first | apply rA | apply rN | apply rD)); exact rM (rF (p := ⟨go39, (x7_2 : Int).toNat, none⟩) (rT HO_192002.out GG39.out (by decide)) (fun _ hk => hk.2) (.bool false)) (fun _ hk => trivial)⟩, ⟨by (with_reducible repeat (first | refine bN ?_ _ | refine bD ?_ | refine bA ?_ _)); refine blk_far ?_ (by have h_ := Kd.R_ne HO_192001.out BK179.out (by decide); intro e_; exact h_ (by rw [e_]; rfl)) _; (with_reducible repeat (first | refine bN ?_ _ | refine bD ?_ | refine bA ?_ _)); exact BK179.out⟩, ⟨by (with_reducible repeat (first | refine bN ?_ _ | refine bD ?_ | refine bA ?_ _)); refine blk_far ?_ (by have h_ := Kd.R_ne HO_192001.out BK180.out (by decide); intro e_; exact h_ (by rw [e_]; rfl)) _; (with_reducible repeat (first | refine bN ?_ _ | refine bD ?_ | refine bA ?_ _)); exact BK180.out⟩, ⟨by (with_reducible repeat (first | refine bN ?_ _ | refine bD ?_ | refine bA ?_ _)); refine blk_far ?_ (by have h_ := Kd.R_ne HO_192001.out BK191.out (by decide); intro e_; exact h_ (by rw [e_]; rfl)) _; (with_reducible repeat (first | refine bN ?_ _ | refine bD ?_ | refine bA ?_ _)); exact BK191.out⟩, ⟨by repeat (first | (with_reducible first | exact HB.out | apply oA | apply pN | apply o1 | refine bS ?_ GB39.out | refine bS ?_ GE179.out | refine bS ?_ GE180.out | refine bS ?_ GE191.out) | exact HB.out)⟩⟩
          ·rw [if_neg c38] at H
           exact absurd H (by simp)
        ·rw [if_neg c30] at H
         exact absurd H (by simp)
       ·rw [if_neg c29] at H
        exact absurd H (by simp)
      ·rw [if_neg c28] at H
       have c28b0 : decide (x7_2 < 8) = false := decide_eq_false c28
       clear c28
       simp only [Option.some.injEq, Prod.mk.injEq] at H
       obtain ⟨rfl, rfl, rfl, rfl⟩ := H
       have hnb42 := NB191_179.out
       have hnc42 := NB179_191.out
       have hnb43 := NB191_180.out
       have hnc43 := NB180_191.out
       have hcz44_0 : wr.cell? ⟨gb191, 0, none⟩ = some (u192000) := (bC BK191.out 0).trans rfl
       have hcz44_1 : wr.cell? ⟨gb191, 1, none⟩ = some (u192001) := (bC BK191.out 1).trans rfl
       have hcz44_2 : wr.cell? ⟨gb191, 2, none⟩ = some (.slice Ao27 t188.length co27) := (bC BK191.out 2).trans rfl
       have hfz44_0 := bF BK191.out 0
       have hfz44_1 := bF BK191.out 1
       have hfz44_2 := bF BK191.out 2
       obtain ⟨Ao45, co45, eo45⟩ := Kd.R_slice HO_192000.out
       subst eo45
       have hnb46 := NB180_179.out
       have hnc46 := NB179_180.out
       have hcz47_0 : wr.cell? ⟨gb180, 0, none⟩ = some (.slice none 0 0) := (bC BK180.out 0).trans rfl
       have hcz47_1 : wr.cell? ⟨gb180, 1, none⟩ = some (.slice none 0 0) := (bC BK180.out 1).trans rfl
       have hcz47_2 : wr.cell? ⟨gb180, 2, none⟩ = some (.slice none 0 0) := (bC BK180.out 2).trans rfl
       have hfz47_0 := bF BK180.out 0
       have hfz47_1 := bF BK180.out 1
       have hfz47_2 := bF BK180.out 2
       obtain ⟨Ao48, co48, eo48⟩ := Kd.R_slice HO_192001.out
       subst eo48
       go_wp2
       refine bodyPost_ret (results_ct rfl _ _ gb180 27 #[.slice Ao45 x192000_2.length co45, .slice Ao48 x192001_2.length co48, .slice Ao27 t188.length co27] (0, 0) _ rfl (by (with_reducible repeat (first | refine bN ?_ _ | refine bD ?_ | refine bA ?_ _)); refine blk_put (cs := #[.slice Ao45 x192000_2.length co45, .slice Ao48 x192001_2.length co48, .slice none 0 0]) ?_ 2 _ rfl; (with_reducible repeat (first | refine bN ?_ _ | refine bD ?_ | refine bA ?_ _)); refine blk_put (cs := #[.slice Ao45 x192000_2.length co45, .slice none 0 0, .slice none 0 0]) ?_ 1 _ rfl; (with_reducible repeat (first | refine bN ?_ _ | refine bD ?_ | refine bA ?_ _)); refine blk_put (cs := #[.slice none 0 0, .slice none 0 0, .slice none 0 0]) ?_ 0 _ rfl; (with_reducible repeat (first | refine bN ?_ _ | refine bD ?_ | refine bA ?_ _)); exact BK180.out) Try.underlying27 rfl (by kernel_rfl)) rfl ?_
       exact ⟨_, _, _, by first | rfl | (simp [errW_none, errW_some] <;> rfl) | (simp [*, errW_none, errW_some] <;> rfl), by (with_reducible repeat (first | apply rA | apply rN | apply rD)); exact rM (rF (p := ⟨gb180, 2, none⟩) (rF (p := ⟨gb180, 1, none⟩) (rF (p := ⟨gb180, 0, none⟩) (rT HO_192000.out BK180.out (by decide)) (fun _ hk => hk.2) (.slice Ao45 x192000_2.length co45)) (fun _ hk => hk.2) (.slice Ao48 x192001_2.length co48)) (fun _ hk => hk.2) (.slice Ao27 t188.length co27)) (fun _ hk => hk.1), by (with_reducible repeat (first | apply rA | apply rN | apply rD)); exact rM (rF (p := ⟨gb180, 2, none⟩) (rF (p := ⟨gb180, 1, none⟩) (rF (p := ⟨gb180, 0, none⟩) (rT HO_192001.out BK180.out (by decide)) (fun _ hk => hk.2) (.slice Ao45 x192000_2.length co45)) (fun _ hk => hk.2) (.slice Ao48 x192001_2.length co48)) (fun _ hk => hk.2) (.slice Ao27 t188.length co27)) (fun _ hk => hk.1), by (with_reducible repeat (first | apply rA | apply rN | apply rD)); exact rM (rF (p := ⟨gb180, 2, none⟩) (rF (p := ⟨gb180, 1, none⟩) (rF (p := ⟨gb180, 0, none⟩) (rT HO_192002.out BK180.out (by decide)) (fun _ hk => hk.2) (.slice Ao45 x192000_2.length co45)) (fun _ hk => hk.2) (.slice Ao48 x192001_2.length co48)) (fun _ hk => hk.2) (.slice Ao27 t188.length co27)) (fun _ hk => trivial), by repeat (first | (with_reducible first | exact HB.out | apply oA | apply pN | apply o1 | refine bS ?_ GE179.out | refine bS ?_ GE180.out | refine bS ?_ GE191.out) | exact HB.out)⟩

end Go.Proofs.Ytehekikjadjdaaa.PFnExactSigsBlock
