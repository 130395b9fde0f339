/- Proved here, without a condition beyond those that each theorem states: what the Go functions named below do is what the plain functions of the same names say. Written by xprint.py, a program of this session. -/
import Derived.Test.YtiifanjjohophaaPFnSigsBlockx0
import Derived.Test.YtiifanjjohophaaPFnSigsBlockx2
import Derived.Test.YtiifanjjohophaaPFnSigsBlockx6
namespace Go.Proofs.Ytiifanjjohophaa.PFnSigsBlock
open Go.RowKit Go.Proofs.YtiifanjjohophaaW.PrintWords Go.Proofs.YtiifanjjohophaaW.PrintLast Go.Proofs.YtiifanjjohophaaW.PrintMore
attribute [local go_sem] max2_int min2_int max_two min_two max_three min_three max_four min_four   -- for this text's walks alone
set_option linter.unusedVariables false
set_option linter.unusedSimpArgs false

attribute [local go_sem ↓] isSome_setCell_
/-! ### impl_SigsBlock: function 28 -/
mutual
def impl_SigsBlock.j0 : Nat → List Bool → Bool → List Bool → List Bool → List Int → Option (List Bool × List Bool × List Int × Bool)
 | 0, _, _, _, _, _ => none
 | k + 1, x1, x16, x220000, x220001, x220002 => if x16 = true then (some (([] : List Bool), ([] : List Bool), ([] : List Int), false)) else ((impl_Sigs_clone.f x220000 x220001 x220002).bind fun bt222 => (impl_SigsBlock.l0 k x1 (x1.length : Int) 0 bt222.1 bt222.2.1 bt222.2.2))
def impl_SigsBlock.l0 : Nat → List Bool → Int → Int → List Bool → List Bool → List Int → Option (List Bool × List Bool × List Int × Bool)
 | 0, _, _, _, _, _, _ => none
 | k + 1, x20, x21, x22, x232000, x232001, x232002 => if x22 < x21 then (if 0 ≤ x22 then (if x22 < (x20.length : Int) then (if rdOf false x20 x22 = true then (if (wrap64 (x22 + 1)) = 1 then (if x22 < (x232001.length : Int) then (impl_SigsBlock.l0 k x20 x21 (wrap64 (x22 + 1)) x232000 (x232001.set (x22 : Int).toNat false) x232002) else (none)) else (if x22 < (x232001.length : Int) then (impl_SigsBlock.l0 k x20 x21 (wrap64 (x22 + 1)) x232000 (x232001.set (x22 : Int).toNat ((wrap64 (x22 + 1)) != 2)) x232002) else (none))) else (if x22 < (x232001.length : Int) then (impl_SigsBlock.l0 k x20 x21 (wrap64 (x22 + 1)) x232000 (x232001.set (x22 : Int).toNat false) x232002) else (none))) else (none)) else (none)) else (some (x232000, x232001, x232002, true))
end
def impl_SigsBlock.f (k : Nat) (l0_0 : List Bool) (l0_1 : List Bool) (l0_2 : List Int) (l1 : List Bool) : Option (List Bool × List Bool × List Int × Bool) := (impl_SigsOk.f k l0_0 l0_1 l0_2).bind fun t221 => (if t221 = true then (impl_SigsBlock.j0 k l1 ((l1.length : Int) != 8) l0_0 l0_1 l0_2) else (impl_SigsBlock.j0 k l1 true l0_0 l0_1 l0_2))
theorem impl_SigsBlock.mono_l : ∀ k, (∀ y0 y1 y2 y3 y4, LeO (impl_SigsBlock.j0 k y0 y1 y2 y3 y4) (impl_SigsBlock.j0 (k + 1) y0 y1 y2 y3 y4)) ∧ (∀ y0 y1 y2 y3 y4 y5, LeO (impl_SigsBlock.l0 k y0 y1 y2 y3 y4 y5) (impl_SigsBlock.l0 (k + 1) y0 y1 y2 y3 y4 y5))
 | 0 => ⟨fun _ _ _ _ _ r h => by simp [impl_SigsBlock.j0] at h, fun _ _ _ _ _ _ r h => by simp [impl_SigsBlock.l0] at h⟩
 | k + 1 => by
  obtain ⟨ih0, ih1⟩ := impl_SigsBlock.mono_l k
  refine ⟨?_, ?_⟩
  ·intro y0 y1 y2 y3 y4
   unfold impl_SigsBlock.j0
   repeat' first
   | (with_reducible exact ih0 _ _ _ _ _)
   | (with_reducible exact ih1 _ _ _ _ _ _)
   | (with_reducible exact impl_SigsOk.mono _ _ _ _)
   | (with_reducible exact LeO.refl _)
   | (with_reducible exact LeO.none _)
   | (with_reducible refine LeO.ite ?_ ?_)
   | (with_reducible refine LeO.bind ?_ (fun _ => ?_))
   | exact ih0 _ _ _ _ _
   | exact ih1 _ _ _ _ _ _
   | exact impl_SigsOk.mono _ _ _ _
   | exact LeO.none _
   | refine LeO.ite ?_ ?_
   | refine LeO.bind ?_ (fun _ => ?_)
  ·intro y0 y1 y2 y3 y4 y5
   unfold impl_SigsBlock.l0
   repeat' first
   | (with_reducible exact ih0 _ _ _ _ _)
   | (with_reducible exact ih1 _ _ _ _ _ _)
   | (with_reducible exact impl_SigsOk.mono _ _ _ _)
   | (with_reducible exact LeO.refl _)
   | (with_reducible exact LeO.none _)
   | (with_reducible refine LeO.ite ?_ ?_)
   | (with_reducible refine LeO.bind ?_ (fun _ => ?_))
   | exact ih0 _ _ _ _ _
   | exact ih1 _ _ _ _ _ _
   | exact impl_SigsOk.mono _ _ _ _
   | exact LeO.none _
   | refine LeO.ite ?_ ?_
   | refine LeO.bind ?_ (fun _ => ?_)
theorem impl_SigsBlock.mono : ∀ a0 a1 a2 a3 k, LeO (impl_SigsBlock.f k a0 a1 a2 a3) (impl_SigsBlock.f (k + 1) a0 a1 a2 a3) := by
 intro a0 a1 a2 a3 k
 obtain ⟨ih0, ih1⟩ := impl_SigsBlock.mono_l k
 unfold impl_SigsBlock.f
 repeat' first
   | (with_reducible exact ih0 _ _ _ _ _)
   | (with_reducible exact ih1 _ _ _ _ _ _)
   | (with_reducible exact impl_SigsOk.mono _ _ _ _)
   | (with_reducible exact LeO.refl _)
   | (with_reducible exact LeO.none _)
   | (with_reducible refine LeO.ite ?_ ?_)
   | (with_reducible refine LeO.bind ?_ (fun _ => ?_))
   | exact ih0 _ _ _ _ _
   | exact ih1 _ _ _ _ _ _
   | exact impl_SigsOk.mono _ _ _ _
   | exact LeO.none _
   | refine LeO.ite ?_ ?_
   | refine LeO.bind ?_ (fun _ => ?_)
set_option maxHeartbeats 2000000 in
set_option maxRecDepth 100000 in
theorem impl_SigsBlock.calls (k : Nat) (A0_0 : Option Addr) (c0_0 : Nat) (l0_0 : List Bool) (A0_1 : Option Addr) (c0_1 : Nat) (l0_1 : List Bool) (A0_2 : Option Addr) (c0_2 : Nat) (l0_2 : List Int) (A1 : Option Addr) (c1 : Nat) (l1 : List Bool) (r1 : List Bool) (r2 : List Bool) (r3 : List Int) (r4 : Bool) (w : World) (hr0_0 : Kd.C Kd.bool w A0_0 l0_0.length l0_0) (hc0_0 : l0_0.length ≤ c0_0) (hr0_1 : Kd.C Kd.bool w A0_1 l0_1.length l0_1) (hc0_1 : l0_1.length ≤ c0_1) (hr0_2 : Kd.C (Kd.int .i64) w A0_2 l0_2.length l0_2) (hc0_2 : l0_2.length ≤ c0_2) (hr1 : Kd.C Kd.bool w A1 l1.length l1) (hc1 : l1.length ≤ c1) (h : impl_SigsBlock.f k l0_0 l0_1 l0_2 l1 = some (r1, r2, r3, r4)) :
  Calls Try.prog 28 #[.agg #[.slice A0_0 l0_0.length c0_0, .slice A0_1 l0_1.length c0_1, .slice A0_2 l0_2.length c0_2], .slice A1 l1.length c1] w fun e w' => ∃ v0_ v1_ v2_ : Value, e = .returned (.tuple #[.agg #[v0_, v1_, v2_], .bool r4]) ∧ Kd.R Kd.bool 4 w' w.heap.size (fun k_ => some k_ ≠ (v1_ : Value).ownBlock) v0_ r1 ∧ Kd.R Kd.bool 4 w' w.heap.size (fun k_ => some k_ ≠ (v0_ : Value).ownBlock) v1_ r2 ∧ Kd.R (Kd.int .i64) 3 w' w.heap.size (fun _ => True) v2_ r3 ∧ Below w.heap.size w w' := by
 have hu26 := Try.underlying26
 have HR0_0 := Am hr0_0
 have HC0_0 := Am hc0_0
 clear hr0_0 hc0_0
 have HR0_1 := Am hr0_1
 have HC0_1 := Am hc0_1
 clear hr0_1 hc0_1
 have HR0_2 := Am hr0_2
 have HC0_2 := Am hc0_2
 clear hr0_2 hc0_2
 have HR1 := Am hr1
 have HC1 := Am hc1
 clear hr1 hc1
 have HB := Am (Below.refl w.heap.size w)
 have H : ((impl_SigsOk.f k l0_0 l0_1 l0_2).bind fun t221 => (if t221 = true then (impl_SigsBlock.j0 k l1 ((l1.length : Int) != 8) l0_0 l0_1 l0_2) else (impl_SigsBlock.j0 k l1 true l0_0 l0_1 l0_2))) = some (r1, r2, r3, r4) := h
 clear h
 have HC3 := Am H
 clear H
 go_enter Try.func28, Try.ntmps28
 go_upto_region 1 with (first | ((with_reducible refine gate_dst (N := 2) rfl ?_); (try (refine gate_guard (by rfl) ?_; dsimp only)); refine box_event ?hg (N := 2) ?hd (cs := #[.slice A0_0 l0_0.length c0_0, .slice A0_1 l0_1.length c0_1, .slice A0_2 l0_2.length c0_2]) (t := 26) ?hr ?_; (case hd => rfl); (case hg => rfl); (case hr => first | (go_simp; done) | (go_simp; rfl)); intro gb219 hg w4 hbox hb; have n0_ := Am (bP (by repeat (first | (with_reducible first | exact HB.out | apply oA | apply pN | apply o1) | exact HB.out)) hb); have n1_ := Am (hbox); have n2_ := Am ((by rw [hg]; exact (bZ (by repeat (first | (with_reducible first | exact HB.out | apply oA | apply pN | apply o1) | exact HB.out))) : w.heap.size ≤ gb219)); have n3_ := Am ((by rw [hg]; exact (bZ (by repeat (first | (with_reducible first | exact HB.out | apply oA | apply pN | apply o1) | exact HB.out))) : w.heap.size ≤ gb219)); clear HB; have HB := n0_; have BK219 := n1_; have GW219 := n2_; have GE219 := n3_; clear n0_ n1_ n2_ n3_; clear hb hbox hg) | ((with_reducible refine gate_dst (N := 4) rfl ?_); (try (refine gate_guard (by rfl) ?_; dsimp only)); refine box_event ?hg (N := 4) ?hd (cs := #[.slice none 0 0, .slice none 0 0, .slice none 0 0]) (t := 26) ?hr ?_; (case hd => rfl); (case hg => rfl); (case hr => first | (go_simp; done) | (go_simp; rfl)); intro gb220 hg w5 hbox hb; have n0_ := Am (bB (g := gb219) (o := .cells #[.slice A0_0 l0_0.length c0_0, .slice A0_1 l0_1.length c0_1, .slice A0_2 l0_2.length c0_2] 26 (0, 0)) (by (with_reducible repeat (first | refine bN ?_ _ | refine bD ?_ | refine bA ?_ _)); exact BK219.out) hb); have n1_ := Am (bP (by repeat (first | (with_reducible first | exact HB.out | apply oA | apply pN | apply o1 | refine bS ?_ GE219.out) | exact HB.out)) hb); have n2_ := Am (hbox); have n3_ := Am ((by rw [hg]; exact (bZ (by repeat (first | (with_reducible first | exact HB.out | apply oA | apply pN | apply o1 | refine bS ?_ GE219.out) | exact HB.out))) : w.heap.size ≤ gb220)); have n4_ := Am ((by rw [hg]; exact (bZ (by repeat (first | (with_reducible first | exact HB.out | apply oA | apply pN | apply o1 | refine bS ?_ GE219.out) | exact HB.out))) : w.heap.size ≤ gb220)); have n5_ := Am ((by rw [hg]; exact Nat.ne_of_lt (blk_lt (g := gb219) (o := .cells #[.slice A0_0 l0_0.length c0_0, .slice A0_1 l0_1.length c0_1, .slice A0_2 l0_2.length c0_2] 26 (0, 0)) (by (with_reducible repeat (first | refine bN ?_ _ | refine bD ?_ | refine bA ?_ _)); exact BK219.out)) : gb219 ≠ gb220)); have n6_ := Am ((by rw [hg]; exact Nat.ne_of_gt (blk_lt (g := gb219) (o := .cells #[.slice A0_0 l0_0.length c0_0, .slice A0_1 l0_1.length c0_1, .slice A0_2 l0_2.length c0_2] 26 (0, 0)) (by (with_reducible repeat (first | refine bN ?_ _ | refine bD ?_ | refine bA ?_ _)); exact BK219.out)) : gb220 ≠ gb219)); clear BK219; clear HB; have BK219 := n0_; have HB := n1_; have BK220 := n2_; have GW220 := n3_; have GE220 := n4_; have NB219_220 := n5_; have NB220_219 := n6_; clear n0_ n1_ n2_ n3_ n4_ n5_ n6_; clear hb hbox hg))
 (try simp only [Act.put, lA, lZ, lS])
 go_cut [16] (fun v16 wc => ∃ (kq : Nat) (x16_2 : Bool), v16 = .bool x16_2 ∧ Aside0 (impl_SigsBlock.j0 kq l1 x16_2 l0_0 l0_1 l0_2 = some (r1, r2, r3, r4)) ∧ Aside0 (kq ≤ k) ∧ Aside0 (wc.heap[gb219]? = some (.cells #[(.slice A0_0 l0_0.length c0_0), (.slice A0_1 l0_1.length c0_1), (.slice A0_2 l0_2.length c0_2)] 26 (0, 0))) ∧ Aside0 (wc.heap[gb220]? = some (.cells #[(.slice none 0 0), (.slice none 0 0), (.slice none 0 0)] 26 (0, 0))) ∧ Aside0 (Below w.heap.size w wc))
 case first =>
  have H := HC3.out
  clear HC3
  replace H := Option.bind_eq_some_iff.mp H
  obtain ⟨t221, A60, H⟩ := H
  replace H : (if t221 = true then (impl_SigsBlock.j0 k l1 ((l1.length : Int) != 8) l0_0 l0_1 l0_2) else (impl_SigsBlock.j0 k l1 true l0_0 l0_1 l0_2)) = some (r1, r2, r3, r4) := H
  have A6 := Am A60
  clear A60
  by_cases c7 : t221 = true
  ·subst c7
   have H1 : (impl_SigsBlock.j0 k l1 ((l1.length : Int) != 8) l0_0 l0_1 l0_2) = some (r1, r2, r3, r4) := by rw [if_pos rfl] at H; exact H
   clear H
   have H := H1
   clear H1
   have H' := Am H
   clear H
   have hnb8 := NB219_220.out
   have hnc8 := NB220_219.out
   have hcz9_0 : w5.cell? ⟨gb219, 0, none⟩ = some (.slice A0_0 l0_0.length c0_0) := (bC BK219.out 0).trans rfl
   have hcz9_1 : w5.cell? ⟨gb219, 1, none⟩ = some (.slice A0_1 l0_1.length c0_1) := (bC BK219.out 1).trans rfl
   have hcz9_2 : w5.cell? ⟨gb219, 2, none⟩ = some (.slice A0_2 l0_2.length c0_2) := (bC BK219.out 2).trans rfl
   have hfz9_0 := bF BK219.out 0
   have hfz9_1 := bF BK219.out 1
   have hfz9_2 := bF BK219.out 2
   go_wp2_with (first | ((with_reducible refine gate_callee (f := 16) rfl ?_); refine goesL_ (some 10) rfl rfl Try.func16 (by kernel_rfl) rfl #[.agg #[.slice A0_0 l0_0.length c0_0, .slice A0_1 l0_1.length c0_1, .slice A0_2 l0_2.length c0_2]] rfl (by (try simp only [lM, lC, lN]); first | done | rfl | (simp only [lD, lT]; rfl)) ?_; (with_reducible refine (impl_SigsOk.calls k _ _ l0_0 _ _ l0_1 _ _ l0_2 true _ ?side1 ?side2 ?side3 ?side4 ?side5 ?side6 A6.out).mono ?_); (case side1 => repeat (first | exact (cB HR0_0.out HB.out) | (with_reducible refine cA ?_ _) | (with_reducible refine cN ?_ _) | (with_reducible refine cD ?_))); (case side2 => exact HC0_0.out); (case side3 => repeat (first | exact (cB HR0_1.out HB.out) | (with_reducible refine cA ?_ _) | (with_reducible refine cN ?_ _) | (with_reducible refine cD ?_))); (case side4 => exact HC0_1.out); (case side5 => repeat (first | exact (cB HR0_2.out HB.out) | (with_reducible refine cA ?_ _) | (with_reducible refine cN ?_ _) | (with_reducible refine cD ?_))); (case side6 => exact HC0_2.out); rintro e w10 ⟨rfl, hb⟩; refine ⟨_, rfl, ?_⟩; have n0_ := Am (bB (g := gb219) (o := .cells #[.slice A0_0 l0_0.length c0_0, .slice A0_1 l0_1.length c0_1, .slice A0_2 l0_2.length c0_2] 26 (0, 0)) (by (with_reducible repeat (first | refine bN ?_ _ | refine bD ?_ | refine bA ?_ _)); exact BK219.out) hb); have n1_ := Am (bB (g := gb220) (o := .cells #[.slice none 0 0, .slice none 0 0, .slice none 0 0] 26 (0, 0)) (by (with_reducible repeat (first | refine bN ?_ _ | refine bD ?_ | refine bA ?_ _)); exact BK220.out) hb); have n2_ := Am (bP (by repeat (first | (with_reducible first | exact HB.out | apply oA | apply pN | apply o1 | refine bS ?_ GE219.out | refine bS ?_ GE220.out) | exact HB.out)) hb); clear BK219; clear BK220; clear HB; have BK219 := n0_; have BK220 := n1_; have HB := n2_; clear n0_ n1_ n2_; (try clear hb); (try clear hb2); (try clear hk); (try clear hi)))
   go_meet
   case rel => exact ⟨_, (((l1.length : Int) != 8)), (by first | rfl | (simp; done) | (simp [*]; done)), H', ⟨by first | omega | exact Nat.le_refl _⟩, ⟨by (with_reducible repeat (first | refine bN ?_ _ | refine bD ?_ | refine bA ?_ _)); exact BK219.out⟩, ⟨by (with_reducible repeat (first | refine bN ?_ _ | refine bD ?_ | refine bA ?_ _)); exact BK220.out⟩, ⟨by repeat (first | (with_reducible first | exact HB.out | apply oA | apply pN | apply o1 | refine bS ?_ GE219.out | refine bS ?_ GE220.out) | exact HB.out)⟩⟩
  ·replace c7 := Bool.eq_false_iff.mpr c7
   subst c7
   have H1 : (impl_SigsBlock.j0 k l1 true l0_0 l0_1 l0_2) = some (r1, r2, r3, r4) := by rw [if_neg (show ¬ (false = true) by decide)] at H; exact H
   clear H
   have H := H1
   clear H1
   have H' := Am H
   clear H
   have hnb11 := NB219_220.out
   have hnc11 := NB220_219.out
   have hcz12_0 : w5.cell? ⟨gb219, 0, none⟩ = some (.slice A0_0 l0_0.length c0_0) := (bC BK219.out 0).trans rfl
   have hcz12_1 : w5.cell? ⟨gb219, 1, none⟩ = some (.slice A0_1 l0_1.length c0_1) := (bC BK219.out 1).trans rfl
   have hcz12_2 : w5.cell? ⟨gb219, 2, none⟩ = some (.slice A0_2 l0_2.length c0_2) := (bC BK219.out 2).trans rfl
   have hfz12_0 := bF BK219.out 0
   have hfz12_1 := bF BK219.out 1
   have hfz12_2 := bF BK219.out 2
   go_wp2_with (first | ((with_reducible refine gate_callee (f := 16) rfl ?_); refine goesL_ (some 10) rfl rfl Try.func16 (by kernel_rfl) rfl #[.agg #[.slice A0_0 l0_0.length c0_0, .slice A0_1 l0_1.length c0_1, .slice A0_2 l0_2.length c0_2]] rfl (by (try simp only [lM, lC, lN]); first | done | rfl | (simp only [lD, lT]; rfl)) ?_; (with_reducible refine (impl_SigsOk.calls k _ _ l0_0 _ _ l0_1 _ _ l0_2 false _ ?side1 ?side2 ?side3 ?side4 ?side5 ?side6 A6.out).mono ?_); (case side1 => repeat (first | exact (cB HR0_0.out HB.out) | (with_reducible refine cA ?_ _) | (with_reducible refine cN ?_ _) | (with_reducible refine cD ?_))); (case side2 => exact HC0_0.out); (case side3 => repeat (first | exact (cB HR0_1.out HB.out) | (with_reducible refine cA ?_ _) | (with_reducible refine cN ?_ _) | (with_reducible refine cD ?_))); (case side4 => exact HC0_1.out); (case side5 => repeat (first | exact (cB HR0_2.out HB.out) | (with_reducible refine cA ?_ _) | (with_reducible refine cN ?_ _) | (with_reducible refine cD ?_))); (case side6 => exact HC0_2.out); rintro e w13 ⟨rfl, hb⟩; refine ⟨_, rfl, ?_⟩; have n0_ := Am (bB (g := gb219) (o := .cells #[.slice A0_0 l0_0.length c0_0, .slice A0_1 l0_1.length c0_1, .slice A0_2 l0_2.length c0_2] 26 (0, 0)) (by (with_reducible repeat (first | refine bN ?_ _ | refine bD ?_ | refine bA ?_ _)); exact BK219.out) hb); have n1_ := Am (bB (g := gb220) (o := .cells #[.slice none 0 0, .slice none 0 0, .slice none 0 0] 26 (0, 0)) (by (with_reducible repeat (first | refine bN ?_ _ | refine bD ?_ | refine bA ?_ _)); exact BK220.out) hb); have n2_ := Am (bP (by repeat (first | (with_reducible first | exact HB.out | apply oA | apply pN | apply o1 | refine bS ?_ GE219.out | refine bS ?_ GE220.out) | exact HB.out)) hb); clear BK219; clear BK220; clear HB; have BK219 := n0_; have BK220 := n1_; have HB := n2_; clear n0_ n1_ n2_; (try clear hb); (try clear hb2); (try clear hk); (try clear hi)))
   go_meet
   case rel => exact ⟨_, (true), (by first | rfl | (simp; done) | (simp [*]; done)), H', ⟨by first | omega | exact Nat.le_refl _⟩, ⟨by (with_reducible repeat (first | refine bN ?_ _ | refine bD ?_ | refine bA ?_ _)); exact BK219.out⟩, ⟨by (with_reducible repeat (first | refine bN ?_ _ | refine bD ?_ | refine bA ?_ _)); exact BK220.out⟩, ⟨by repeat (first | (with_reducible first | exact HB.out | apply oA | apply pN | apply o1 | refine bS ?_ GE219.out | refine bS ?_ GE220.out) | exact HB.out)⟩⟩
 case rest =>
  clear HC3
  try clear c1
  try clear c2
  try clear p2
  try clear c7
  try clear c8
  try clear c11
  try clear hcz12_0
  try clear hcz12_1
  try clear hcz12_2
  try clear hcz9_0
  try clear hcz9_1
  try clear hcz9_2
  try clear hfz12_0
  try clear hfz12_1
  try clear hfz12_2
  try clear hfz9_0
  try clear hfz9_1
  try clear hfz9_2
  obtain ⟨kq, x16_2, rfl, HA, HJ2, BK219, BK220, HB⟩ := hcut
  cases kq with
  | zero => exact absurd HA.out (by simp [impl_SigsBlock.j0])
  | succ kj2 =>
   have H := HA.out
   clear HA
   simp only [impl_SigsBlock.j0] at H
   by_cases c14 : x16_2 = true
   ·subst c14
    have H1 : (some (([] : List Bool), ([] : List Bool), ([] : List Int), false)) = some (r1, r2, r3, r4) := by rw [if_pos rfl] at H; exact H
    clear H
    have H := H1
    clear H1
    simp only [Option.some.injEq, Prod.mk.injEq] at H
    obtain ⟨rfl, rfl, rfl, rfl⟩ := H
    have hnb15 := NB220_219.out
    have hnc15 := NB219_220.out
    have hcz16_0 : wc.cell? ⟨gb220, 0, none⟩ = some (.slice none 0 0) := (bC BK220.out 0).trans rfl
    have hcz16_1 : wc.cell? ⟨gb220, 1, none⟩ = some (.slice none 0 0) := (bC BK220.out 1).trans rfl
    have hcz16_2 : wc.cell? ⟨gb220, 2, none⟩ = some (.slice none 0 0) := (bC BK220.out 2).trans rfl
    have hfz16_0 := bF BK220.out 0
    have hfz16_1 := bF BK220.out 1
    have hfz16_2 := bF BK220.out 2
    go_wp2
    refine bodyPost_ret (results_ct rfl _ _ gb220 26 #[.slice none 0 0, .slice none 0 0, .slice none 0 0] (0, 0) _ rfl (by (with_reducible repeat (first | refine bN ?_ _ | refine bD ?_ | refine bA ?_ _)); refine blk_put (cs := #[.slice none 0 0, .slice none 0 0, .slice none 0 0]) ?_ 2 _ rfl; (with_reducible repeat (first | refine bN ?_ _ | refine bD ?_ | refine bA ?_ _)); refine blk_put (cs := #[.slice none 0 0, .slice none 0 0, .slice none 0 0]) ?_ 1 _ rfl; (with_reducible repeat (first | refine bN ?_ _ | refine bD ?_ | refine bA ?_ _)); refine blk_put (cs := #[.slice none 0 0, .slice none 0 0, .slice none 0 0]) ?_ 0 _ rfl; (with_reducible repeat (first | refine bN ?_ _ | refine bD ?_ | refine bA ?_ _)); exact BK220.out) Try.underlying26 rfl (by kernel_rfl)) rfl ?_
    exact ⟨_, _, _, by first | rfl | (simp [errW_none, errW_some] <;> rfl) | (simp [*, errW_none, errW_some] <;> rfl), by first | exact Kd.R_nil _ _ _ _ _ | exact Kd.N_nil _ _ _ _ _ | exact Kd.V_nil _ _ _ _ _ | exact Kd.Q_nil _ _ _ _ _ | exact Kd.S_nil _ _ _ _ _, by first | exact Kd.R_nil _ _ _ _ _ | exact Kd.N_nil _ _ _ _ _ | exact Kd.V_nil _ _ _ _ _ | exact Kd.Q_nil _ _ _ _ _ | exact Kd.S_nil _ _ _ _ _, by first | exact Kd.R_nil _ _ _ _ _ | exact Kd.N_nil _ _ _ _ _ | exact Kd.V_nil _ _ _ _ _ | exact Kd.Q_nil _ _ _ _ _ | exact Kd.S_nil _ _ _ _ _, by repeat (first | (with_reducible first | exact HB.out | apply oA | apply pN | apply o1 | refine bS ?_ GE219.out | refine bS ?_ GE220.out) | exact HB.out)⟩
   ·replace c14 := Bool.eq_false_iff.mpr c14
    subst c14
    have H1 : ((impl_Sigs_clone.f l0_0 l0_1 l0_2).bind fun bt222 => (impl_SigsBlock.l0 kj2 l1 (l1.length : Int) 0 bt222.1 bt222.2.1 bt222.2.2)) = some (r1, r2, r3, r4) := by rw [if_neg (show ¬ (false = true) by decide)] at H; exact H
    clear H
    have H := H1
    clear H1
    replace H := Option.bind_eq_some_iff.mp H
    obtain ⟨⟨t222, t225, t228⟩, A170, H⟩ := H
    replace H : (impl_SigsBlock.l0 kj2 l1 (l1.length : Int) 0 t222 t225 t228) = some (r1, r2, r3, r4) := H
    have A17 := Am A170
    clear A170
    have H' := Am H
    clear H
    have hnb18 := NB219_220.out
    have hnc18 := NB220_219.out
    have hcz19_0 : wc.cell? ⟨gb219, 0, none⟩ = some (.slice A0_0 l0_0.length c0_0) := (bC BK219.out 0).trans rfl
    have hcz19_1 : wc.cell? ⟨gb219, 1, none⟩ = some (.slice A0_1 l0_1.length c0_1) := (bC BK219.out 1).trans rfl
    have hcz19_2 : wc.cell? ⟨gb219, 2, none⟩ = some (.slice A0_2 l0_2.length c0_2) := (bC BK219.out 2).trans rfl
    have hfz19_0 := bF BK219.out 0
    have hfz19_1 := bF BK219.out 1
    have hfz19_2 := bF BK219.out 2
    go_wp2_with (first | ((with_reducible refine gate_callee (f := 37) rfl ?_); refine goesL_ (some 19) rfl rfl Try.func37 (by kernel_rfl) rfl #[.agg #[.slice A0_0 l0_0.length c0_0, .slice A0_1 l0_1.length c0_1, .slice A0_2 l0_2.length c0_2]] rfl (by (try simp only [lM, lC, lN]); first | done | rfl | (simp only [lD, lT]; rfl)) ?_; (with_reducible refine (impl_Sigs_clone.calls _ _ l0_0 _ _ l0_1 _ _ l0_2 t222 t225 t228 _ ?side1 ?side2 ?side3 ?side4 ?side5 ?side6 A17.out).mono ?_); (case side1 => repeat (first | exact (cB HR0_0.out HB.out) | (with_reducible refine cA ?_ _) | (with_reducible refine cN ?_ _) | (with_reducible refine cD ?_))); (case side2 => exact HC0_0.out); (case side3 => repeat (first | exact (cB HR0_1.out HB.out) | (with_reducible refine cA ?_ _) | (with_reducible refine cN ?_ _) | (with_reducible refine cD ?_))); (case side4 => exact HC0_1.out); (case side5 => repeat (first | exact (cB HR0_2.out HB.out) | (with_reducible refine cA ?_ _) | (with_reducible refine cN ?_ _) | (with_reducible refine cD ?_))); (case side6 => exact HC0_2.out); rintro e w20 ⟨v223, v226, v229, rfl, ho0, ho1, ho2, hb⟩; refine ⟨_, rfl, ?_⟩; have n0_ := Am (Kd.R_lower ho0 (bZ (by repeat (first | (with_reducible first | exact HB.out | apply oA | apply pN | apply o1 | refine bS ?_ GE219.out | refine bS ?_ GE220.out) | exact HB.out)))); have n1_ := Am (Kd.R_lower ho1 (bZ (by repeat (first | (with_reducible first | exact HB.out | apply oA | apply pN | apply o1 | refine bS ?_ GE219.out | refine bS ?_ GE220.out) | exact HB.out)))); have n2_ := Am (Kd.R_lower ho2 (bZ (by repeat (first | (with_reducible first | exact HB.out | apply oA | apply pN | apply o1 | refine bS ?_ GE219.out | refine bS ?_ GE220.out) | exact HB.out)))); have n3_ := Am (bB (g := gb219) (o := .cells #[.slice A0_0 l0_0.length c0_0, .slice A0_1 l0_1.length c0_1, .slice A0_2 l0_2.length c0_2] 26 (0, 0)) (by (with_reducible repeat (first | refine bN ?_ _ | refine bD ?_ | refine bA ?_ _)); exact BK219.out) hb); have n4_ := Am (bB (g := gb220) (o := .cells #[.slice none 0 0, .slice none 0 0, .slice none 0 0] 26 (0, 0)) (by (with_reducible repeat (first | refine bN ?_ _ | refine bD ?_ | refine bA ?_ _)); exact BK220.out) hb); have n5_ := Am (bP (by repeat (first | (with_reducible first | exact HB.out | apply oA | apply pN | apply o1 | refine bS ?_ GE219.out | refine bS ?_ GE220.out) | exact HB.out)) hb); clear BK219; clear BK220; clear HB; have HO224 := n0_; have HO227 := n1_; have HO230 := n2_; have BK219 := n3_; have BK220 := n4_; have HB := n5_; clear n0_ n1_ n2_ n3_ n4_ n5_; (try clear hb); (try clear hb2); (try clear hk); (try clear hi); (try clear ho0); (try clear ho1); (try clear ho2)) | ((with_reducible refine gate_dst (N := 6) rfl ?_); (try (refine gate_guard (by rfl) ?_; dsimp only)); refine box_event ?hg (N := 6) ?hd (cs := #[.slice none 0 0, .slice none 0 0, .slice none 0 0]) (t := 26) ?hr ?_; (case hd => rfl); (case hg => rfl); (case hr => first | (go_simp; done) | (go_simp; rfl)); intro gb231 hg w21 hbox hb; have n0_ := Am (rB (by (with_reducible repeat (first | apply rA | apply rN | apply rD)); exact HO224.out) hb); have n1_ := Am (rB (by (with_reducible repeat (first | apply rA | apply rN | apply rD)); exact HO227.out) hb); have n2_ := Am (rB (by (with_reducible repeat (first | apply rA | apply rN | apply rD)); exact HO230.out) hb); have n3_ := Am (bB (g := gb219) (o := .cells #[.slice A0_0 l0_0.length c0_0, .slice A0_1 l0_1.length c0_1, .slice A0_2 l0_2.length c0_2] 26 (0, 0)) (by (with_reducible repeat (first | refine bN ?_ _ | refine bD ?_ | refine bA ?_ _)); exact BK219.out) hb); have n4_ := Am (bB (g := gb220) (o := .cells #[.slice none 0 0, .slice none 0 0, .slice none 0 0] 26 (0, 0)) (by (with_reducible repeat (first | refine bN ?_ _ | refine bD ?_ | refine bA ?_ _)); exact BK220.out) hb); have n5_ := Am (bP (by repeat (first | (with_reducible first | exact HB.out | apply oA | apply pN | apply o1 | refine bS ?_ GE219.out | refine bS ?_ GE220.out) | exact HB.out)) hb); have n6_ := Am (hbox); have n7_ := Am ((by rw [hg]; exact (bZ (by repeat (first | (with_reducible first | exact HB.out | apply oA | apply pN | apply o1 | refine bS ?_ GE219.out | refine bS ?_ GE220.out) | exact HB.out))) : w.heap.size ≤ gb231)); have n8_ := Am ((by rw [hg]; exact (bZ (by repeat (first | (with_reducible first | exact HB.out | apply oA | apply pN | apply o1 | refine bS ?_ GE219.out | refine bS ?_ GE220.out) | exact HB.out))) : w.heap.size ≤ gb231)); have n9_ := Am ((by rw [hg]; exact Nat.ne_of_lt (blk_lt (g := gb219) (o := .cells #[.slice A0_0 l0_0.length c0_0, .slice A0_1 l0_1.length c0_1, .slice A0_2 l0_2.length c0_2] 26 (0, 0)) (by (with_reducible repeat (first | refine bN ?_ _ | refine bD ?_ | refine bA ?_ _)); exact BK219.out)) : gb219 ≠ gb231)); have n10_ := Am ((by rw [hg]; exact Nat.ne_of_gt (blk_lt (g := gb219) (o := .cells #[.slice A0_0 l0_0.length c0_0, .slice A0_1 l0_1.length c0_1, .slice A0_2 l0_2.length c0_2] 26 (0, 0)) (by (with_reducible repeat (first | refine bN ?_ _ | refine bD ?_ | refine bA ?_ _)); exact BK219.out)) : gb231 ≠ gb219)); have n11_ := Am ((by rw [hg]; exact Nat.ne_of_lt (blk_lt (g := gb220) (o := .cells #[.slice none 0 0, .slice none 0 0, .slice none 0 0] 26 (0, 0)) (by (with_reducible repeat (first | refine bN ?_ _ | refine bD ?_ | refine bA ?_ _)); exact BK220.out)) : gb220 ≠ gb231)); have n12_ := Am ((by rw [hg]; exact Nat.ne_of_gt (blk_lt (g := gb220) (o := .cells #[.slice none 0 0, .slice none 0 0, .slice none 0 0] 26 (0, 0)) (by (with_reducible repeat (first | refine bN ?_ _ | refine bD ?_ | refine bA ?_ _)); exact BK220.out)) : gb231 ≠ gb220)); clear HO224; clear HO227; clear HO230; clear BK219; clear BK220; clear HB; have HO224 := n0_; have HO227 := n1_; have HO230 := n2_; have BK219 := n3_; have BK220 := n4_; have HB := n5_; have BK231 := n6_; have GW231 := n7_; have GE231 := n8_; have NB219_231 := n9_; have NB231_219 := n10_; have NB220_231 := n11_; have NB231_220 := n12_; clear n0_ n1_ n2_ n3_ n4_ n5_ n6_ n7_ n8_ n9_ n10_ n11_ n12_; clear hb hbox hg; obtain ⟨Ao22, co22, eo22⟩ := Kd.R_slice HO224.out; subst eo22; have hnb23 := NB231_219.out; have hnc23 := NB219_231.out; have hnb24 := NB231_220.out; have hnc24 := NB220_231.out; have hcz25_0 : w21.cell? ⟨gb231, 0, none⟩ = some (.slice none 0 0) := (bC BK231.out 0).trans rfl; have hcz25_1 : w21.cell? ⟨gb231, 1, none⟩ = some (.slice none 0 0) := (bC BK231.out 1).trans rfl; have hcz25_2 : w21.cell? ⟨gb231, 2, none⟩ = some (.slice none 0 0) := (bC BK231.out 2).trans rfl; have hfz25_0 := bF BK231.out 0; have hfz25_1 := bF BK231.out 1; have hfz25_2 := bF BK231.out 2; obtain ⟨Ao26, co26, eo26⟩ := Kd.R_slice HO227.out; subst eo26; obtain ⟨Ao27, co27, eo27⟩ := Kd.R_slice HO230.out; subst eo27))
    go_loopg [22] kj2 (fun kq v22 w' => ∃ (x22_2 : Int) (x232000_2 : List Bool) (x232001_2 : List Bool) (u232000 : Value) (u232001 : Value), v22 = .int .i64 x22_2 ∧ Aside0 (impl_SigsBlock.l0 kq l1 (l1.length : Int) x22_2 x232000_2 x232001_2 t228 = some (r1, r2, r3, r4)) ∧ Aside0 (kq ≤ kj2) ∧ Aside0 (Kd.R Kd.bool 4 w' w.heap.size (fun k_ => some k_ ≠ (u232001 : Value).ownBlock) u232000 x232000_2) ∧ Aside0 (Kd.R Kd.bool 4 w' w.heap.size (fun k_ => some k_ ≠ (u232000 : Value).ownBlock) u232001 x232001_2) ∧ Aside0 (Kd.R (Kd.int .i64) 3 w' w.heap.size (fun _ => True) (.slice Ao27 t228.length co27) t228) ∧ Aside0 (w'.heap[gb219]? = some (.cells #[(.slice A0_0 l0_0.length c0_0), (.slice A0_1 l0_1.length c0_1), (.slice A0_2 l0_2.length c0_2)] 26 (0, 0))) ∧ Aside0 (w'.heap[gb220]? = some (.cells #[(.slice none 0 0), (.slice none 0 0), (.slice none 0 0)] 26 (0, 0))) ∧ Aside0 (w'.heap[gb231]? = some (.cells #[u232000, u232001, (.slice Ao27 t228.length co27)] 26 (0, 0))) ∧ Aside0 (Below w.heap.size w w'))
    case atStart => exact ⟨(0), (t222), (t225), (.slice Ao22 t222.length co22), (.slice Ao26 t225.length co26), (by first | rfl | (simp; done) | (simp [*]; done)), H', ⟨Nat.le_refl _⟩, ⟨by (with_reducible repeat (first | apply rA | apply rN | apply rD)); exact rM (rF (p := ⟨gb231, 2, none⟩) (rF (p := ⟨gb231, 1, none⟩) (rF (p := ⟨gb231, 0, none⟩) (rT HO224.out BK231.out (by decide)) (fun _ hk => hk.2) (.slice Ao22 t222.length co22)) (fun _ hk => hk.2) (.slice Ao26 t225.length co26)) (fun _ hk => hk.2) (.slice Ao27 t228.length co27)) (fun _ hk => hk.1)⟩, ⟨by (with_reducible repeat (first | apply rA | apply rN | apply rD)); exact rM (rF (p := ⟨gb231, 2, none⟩) (rF (p := ⟨gb231, 1, none⟩) (rF (p := ⟨gb231, 0, none⟩) (rT HO227.out BK231.out (by decide)) (fun _ hk => hk.2) (.slice Ao22 t222.length co22)) (fun _ hk => hk.2) (.slice Ao26 t225.length co26)) (fun _ hk => hk.2) (.slice Ao27 t228.length co27)) (fun _ hk => hk.1)⟩, ⟨by (with_reducible repeat (first | apply rA | apply rN | apply rD)); exact rM (rF (p := ⟨gb231, 2, none⟩) (rF (p := ⟨gb231, 1, none⟩) (rF (p := ⟨gb231, 0, none⟩) (rT HO230.out BK231.out (by decide)) (fun _ hk => hk.2) (.slice Ao22 t222.length co22)) (fun _ hk => hk.2) (.slice Ao26 t225.length co26)) (fun _ hk => hk.2) (.slice Ao27 t228.length co27)) (fun _ hk => trivial)⟩, ⟨by (with_reducible repeat (first | refine bN ?_ _ | refine bD ?_ | refine bA ?_ _)); refine blk_far ?_ NB219_231.out _; (with_reducible repeat (first | refine bN ?_ _ | refine bD ?_ | refine bA ?_ _)); refine blk_far ?_ NB219_231.out _; (with_reducible repeat (first | refine bN ?_ _ | refine bD ?_ | refine bA ?_ _)); refine blk_far ?_ NB219_231.out _; (with_reducible repeat (first | refine bN ?_ _ | refine bD ?_ | refine bA ?_ _)); exact BK219.out⟩, ⟨by (with_reducible repeat (first | refine bN ?_ _ | refine bD ?_ | refine bA ?_ _)); refine blk_far ?_ NB220_231.out _; (with_reducible repeat (first | refine bN ?_ _ | refine bD ?_ | refine bA ?_ _)); refine blk_far ?_ NB220_231.out _; (with_reducible repeat (first | refine bN ?_ _ | refine bD ?_ | refine bA ?_ _)); refine blk_far ?_ NB220_231.out _; (with_reducible repeat (first | refine bN ?_ _ | refine bD ?_ | refine bA ?_ _)); exact BK220.out⟩, ⟨by (with_reducible repeat (first | refine bN ?_ _ | refine bD ?_ | refine bA ?_ _)); refine blk_put (cs := #[.slice Ao22 t222.length co22, .slice Ao26 t225.length co26, .slice none 0 0]) ?_ 2 _ rfl; (with_reducible repeat (first | refine bN ?_ _ | refine bD ?_ | refine bA ?_ _)); refine blk_put (cs := #[.slice Ao22 t222.length co22, .slice none 0 0, .slice none 0 0]) ?_ 1 _ rfl; (with_reducible repeat (first | refine bN ?_ _ | refine bD ?_ | refine bA ?_ _)); refine blk_put (cs := #[.slice none 0 0, .slice none 0 0, .slice none 0 0]) ?_ 0 _ rfl; (with_reducible repeat (first | refine bN ?_ _ | refine bD ?_ | refine bA ?_ _)); exact BK231.out⟩, ⟨by repeat (first | (with_reducible first | exact HB.out | apply oA | apply pN | apply o1 | refine bS ?_ GE219.out | refine bS ?_ GE220.out | refine bS ?_ GE231.out) | exact HB.out)⟩⟩
    case round =>
     clear H'
     try clear c1
     try clear c2
     try clear p2
     try clear c3
     try clear c7
     try clear c8
     try clear c11
     try clear c14
     try clear c15
     try clear c16
     try clear c18
     try clear c23
     try clear c24
     try clear hcz12_0
     try clear hcz12_1
     try clear hcz12_2
     try clear hcz16_0
     try clear hcz16_1
     try clear hcz16_2
     try clear hcz19_0
     try clear hcz19_1
     try clear hcz19_2
     try clear hcz25_0
     try clear hcz25_1
     try clear hcz25_2
     try clear hcz9_0
     try clear hcz9_1
     try clear hcz9_2
     try clear hfz12_0
     try clear hfz12_1
     try clear hfz12_2
     try clear hfz16_0
     try clear hfz16_1
     try clear hfz16_2
     try clear hfz19_0
     try clear hfz19_1
     try clear hfz19_2
     try clear hfz25_0
     try clear hfz25_1
     try clear hfz25_2
     try clear hfz9_0
     try clear hfz9_1
     try clear hfz9_2
     try clear p2
     obtain ⟨x22_2, x232000_2, x232001_2, u232000, u232001, rfl, HA, HK2, HO_232000, HO_232001, HO_232002, BK219, BK220, BK231, HB⟩ := hrel
     cases gk with
     | zero => exact absurd HA.out (by simp [impl_SigsBlock.l0])
     | succ k2 =>
      have H := HA.out
      clear HA
      simp only [impl_SigsBlock.l0] at H
      by_cases c28 : x22_2 < (l1.length : Int)
      ·rw [if_pos c28] at H
       have c28b0 : decide (x22_2 < (l1.length : Int)) = true := decide_eq_true c28
       clear c28
       by_cases c29 : 0 ≤ x22_2
       ·rw [if_pos c29] at H
        have c29b0 : decide (0 ≤ x22_2) = true := decide_eq_true c29
        clear c29
        by_cases c30 : x22_2 < (l1.length : Int)
        ·rw [if_pos c30] at H
         have c30b0 : decide (x22_2 < (l1.length : Int)) = true := decide_eq_true c30
         clear c30
         obtain ⟨bq31, hbq31⟩ : ∃ b_ : Bool, b_ = (rdOf false l1 x22_2) := ⟨_, rfl⟩
         replace H : (if bq31 = true then (if (wrap64 (x22_2 + 1)) = 1 then (if x22_2 < (x232001_2.length : Int) then (impl_SigsBlock.l0 k2 l1 (l1.length : Int) (wrap64 (x22_2 + 1)) x232000_2 (x232001_2.set (x22_2 : Int).toNat false) t228) else (none)) else (if x22_2 < (x232001_2.length : Int) then (impl_SigsBlock.l0 k2 l1 (l1.length : Int) (wrap64 (x22_2 + 1)) x232000_2 (x232001_2.set (x22_2 : Int).toNat ((wrap64 (x22_2 + 1)) != 2)) t228) else (none))) else (if x22_2 < (x232001_2.length : Int) then (impl_SigsBlock.l0 k2 l1 (l1.length : Int) (wrap64 (x22_2 + 1)) x232000_2 (x232001_2.set (x22_2 : Int).toNat false) t228) else (none))) = some (r1, r2, r3, r4) := by rw [← hbq31] at H; exact H
         have Nbq31 := Am hbq31
         clear hbq31
         by_cases c32 : bq31 = true
         ·subst c32
          have H1 : (if (wrap64 (x22_2 + 1)) = 1 then (if x22_2 < (x232001_2.length : Int) then (impl_SigsBlock.l0 k2 l1 (l1.length : Int) (wrap64 (x22_2 + 1)) x232000_2 (x232001_2.set (x22_2 : Int).toNat false) t228) else (none)) else (if x22_2 < (x232001_2.length : Int) then (impl_SigsBlock.l0 k2 l1 (l1.length : Int) (wrap64 (x22_2 + 1)) x232000_2 (x232001_2.set (x22_2 : Int).toNat ((wrap64 (x22_2 + 1)) != 2)) t228) else (none))) = some (r1, r2, r3, r4) := by rw [if_pos rfl] at H; exact H
          clear H
          have H := H1
          clear H1
          by_cases c33 : (wrap64 (x22_2 + 1)) = 1
          ·rw [if_pos c33] at H
           have c33b0 : ((wrap64 (x22_2 + 1)) == 1) = true := beq_iff_eq.mpr c33
           have c33b1 : ((wrap64 (x22_2 + 1)) != 1) = false := bne_eq_false_iff_eq.mpr c33
           clear c33
           by_cases c34 : x22_2 < (x232001_2.length : Int)
           ·rw [if_pos c34] at H
            have c34b0 : decide (x22_2 < (x232001_2.length : Int)) = true := decide_eq_true c34
            clear c34
            obtain ⟨y233, hy233⟩ : ∃ y_ : List Bool, y_ = (x232001_2.set (x22_2 : Int).toNat false) := ⟨_, rfl⟩
            replace H : (impl_SigsBlock.l0 k2 l1 (l1.length : Int) (wrap64 (x22_2 + 1)) x232000_2 y233 t228) = some (r1, r2, r3, r4) := by first | (rw [hy233]; with_reducible exact H) | (have H2_ := (Option.bind_some _ _).symm.trans H; rw [hy233]; with_reducible exact H2_) | (have H2_ := (Option.bind_some _ _).symm.trans H; with_reducible exact H2_) | with_reducible exact H | (rw [hy233]; exact H) | exact H
            have Ny233 := Am hy233
            clear hy233
            have H' := Am H
            clear H
            have p232 : 0 ≤ (x22_2 : Int) := of_decide_eq_true (by first | (with_reducible assumption) | assumption)
            have q232 : x22_2 < (l1.length : Int) := of_decide_eq_true (by first | (with_reducible assumption) | assumption)
            obtain ⟨ad232, e232, hx232_0⟩ := Kd.at_bool HR1.out x22_2 p232 q232
            (try rw [← Nbq31.out] at hx232_0)
            cases e232
            replace hx232_0 := (HB.out.cell (World.block_lt_of_cell? w _ hx232_0)).trans hx232_0
            replace p232 := eq_true p232
            replace q232 := eq_true q232
            have hnb36 := NB231_219.out
            have hnc36 := NB219_231.out
            have hnb37 := NB231_220.out
            have hnc37 := NB220_231.out
            have hcz38_0 : wr.cell? ⟨gb231, 0, none⟩ = some (u232000) := (bC BK231.out 0).trans rfl
            have hcz38_1 : wr.cell? ⟨gb231, 1, none⟩ = some (u232001) := (bC BK231.out 1).trans rfl
            have hcz38_2 : wr.cell? ⟨gb231, 2, none⟩ = some (.slice Ao27 t228.length co27) := (bC BK231.out 2).trans rfl
            have hfz38_0 := bF BK231.out 0
            have hfz38_1 := bF BK231.out 1
            have hfz38_2 := bF BK231.out 2
            have p35 : 0 ≤ (x22_2 : Int) := of_decide_eq_true (by first | (with_reducible assumption) | assumption)
            have q35 : (x22_2 : Int) < ((x232001_2.length : Int) : Int) := of_decide_eq_true (by first | (with_reducible assumption) | assumption)
            obtain ⟨go35, co35, eo35, gb35, gl35, cl35, HG35⟩ := Kd.R_form HO_232001.out (by omega)
            (first | cases eo35 | (injection eo35 with ea_ en_ ec_; (first | subst ea_ | (injection ea_ with ea_; subst ea_)); subst ec_; clear en_))
            have GB35 := Am gb35
            have GG35 := Am HG35
            clear gb35 gl35 HG35
            obtain ⟨hx35_0, hf35_0⟩ := Kd.R_celln false HO_232001.out (x22_2 : Int) p35 q35
            replace p35 := eq_true p35
            replace q35 := eq_true q35
            have HP39 := Kd.R_putg HO_232001.out (x22_2 : Int) false
            go_wp2_with (first | ((with_reducible refine gate_store (t := 4) (p := 41) rfl ?_); refine store_event (t := 4) (p := 41) (v := ?vo_w40) (w1 := (wr.setCell ⟨go35, (x22_2 : Int).toNat, none⟩ (.bool false))) ?hg ?ho ?hn ?hr ?_; (case ho => rfl); (case hg => rfl); (case hn => rfl); (case hr => first | (go_simp; done) | (go_simp; rfl)); intro w40 hw; have hg : wr.grownBy w40 (some go35) := (by rw [hw]; exact HP39.2); have hp_ : Kd.R Kd.bool 4 w40 w.heap.size (fun k_ => some k_ ≠ (u232000 : Value).ownBlock) (.slice (some ⟨go35, 0, none⟩) x232001_2.length co35) y233 := (by rw [hw, Ny233.out]; exact HP39.1); clear HP39; have n0_ := Am (Kd.R_after (v := (.slice (some ⟨go35, 0, none⟩) x232001_2.length co35)) (v1 := (.slice (some ⟨go35, 0, none⟩) x232001_2.length co35)) (ok := (fun _ => True)) (by (with_reducible repeat (first | apply rA | apply rN | apply rD)); exact rM HO_232000.out (fun _ hk => ⟨trivial, hk⟩)) hg (.inl rfl)); have n1_ := Am (hp_); have n2_ := Am (Kd.R_over' (v := (.slice (some ⟨go35, 0, none⟩) x232001_2.length co35)) (by (with_reducible repeat (first | apply rA | apply rN | apply rD)); exact HO_232002.out) (Kd.R_typed HO_232001.out) (by decide) hg); have n3_ := Am (blk_grown (g := gb219) (o := .cells #[.slice A0_0 l0_0.length c0_0, .slice A0_1 l0_1.length c0_1, .slice A0_2 l0_2.length c0_2] 26 (0, 0)) (by (with_reducible repeat (first | refine bN ?_ _ | refine bD ?_ | refine bA ?_ _)); exact BK219.out) hg (Kd.R_ne HO_232001.out BK219.out (by decide))); have n4_ := Am (blk_grown (g := gb220) (o := .cells #[.slice none 0 0, .slice none 0 0, .slice none 0 0] 26 (0, 0)) (by (with_reducible repeat (first | refine bN ?_ _ | refine bD ?_ | refine bA ?_ _)); exact BK220.out) hg (Kd.R_ne HO_232001.out BK220.out (by decide))); have n5_ := Am (blk_grown (g := gb231) (o := .cells #[u232000, .slice (some ⟨go35, 0, none⟩) x232001_2.length co35, .slice Ao27 t228.length co27] 26 (0, 0)) (by (with_reducible repeat (first | refine bN ?_ _ | refine bD ?_ | refine bA ?_ _)); exact BK231.out) hg (Kd.R_ne HO_232001.out BK231.out (by decide))); have n6_ := Am ((by rw [hw]; exact bS (HB.out) GB35.out : Below w.heap.size w w40)); clear HO_232000; clear HO_232001; clear HO_232002; clear BK219; clear BK220; clear BK231; clear HB; have HO_232000 := n0_; have HO_232001 := n1_; have HO_232002 := n2_; have BK219 := n3_; have BK220 := n4_; have BK231 := n5_; have HB := n6_; clear n0_ n1_ n2_ n3_ n4_ n5_ n6_; clear hg hw hp_))
            go_roundg k2
            case measure => have := HJ2.out; have := HK2.out; omega
            case rel => exact ⟨(wrap64 (x22_2 + 1)), (x232000_2), (y233), (u232000), (.slice (some ⟨go35, 0, none⟩) x232001_2.length co35), (by first | rfl | (simp; done) | (simp [*]; done)), H', ⟨by have := HJ2.out; have := HK2.out; omega⟩, ⟨by (with_reducible repeat (first | apply rA | apply rN | apply rD)); exact rM HO_232000.out (fun _ hk => hk.2)⟩, ⟨by (with_reducible repeat (first | apply rA | apply rN | apply rD)); exact HO_232001.out⟩, ⟨by (with_reducible repeat (first | apply rA | apply rN | apply rD)); exact HO_232002.out⟩, ⟨by (with_reducible repeat (first | refine bN ?_ _ | refine bD ?_ | refine bA ?_ _)); exact BK219.out⟩, ⟨by (with_reducible repeat (first | refine bN ?_ _ | refine bD ?_ | refine bA ?_ _)); exact BK220.out⟩, ⟨by (with_reducible repeat (first | refine bN ?_ _ | refine bD ?_ | refine bA ?_ _)); exact BK231.out⟩, ⟨by repeat (first | (with_reducible first | exact HB.out | apply oA | apply pN | apply o1 | refine bS ?_ GE219.out | refine bS ?_ GE220.out | refine bS ?_ GE231.out) | exact HB.out)⟩⟩
           ·rw [if_neg c34] at H
            exact absurd H (by simp)
          ·rw [if_neg c33] at H
           have c33b0 : ((wrap64 (x22_2 + 1)) == 1) = false := beq_eq_false_iff_ne.mpr c33
           have c33b1 : ((wrap64 (x22_2 + 1)) != 1) = true := bne_iff_ne.mpr c33
           by_cases c41 : x22_2 < (x232001_2.length : Int)
           ·rw [if_pos c41] at H
            have c41b0 : decide (x22_2 < (x232001_2.length : Int)) = true := decide_eq_true c41
            clear c41
            obtain ⟨y234, hy234⟩ : ∃ y_ : List Bool, y_ = (x232001_2.set (x22_2 : Int).toNat ((wrap64 (x22_2 + 1)) != 2)) := ⟨_, rfl⟩
            replace H : (impl_SigsBlock.l0 k2 l1 (l1.length : Int) (wrap64 (x22_2 + 1)) x232000_2 y234 t228) = some (r1, r2, r3, r4) := by first | (rw [hy234]; with_reducible exact H) | (have H2_ := (Option.bind_some _ _).symm.trans H; rw [hy234]; with_reducible exact H2_) | (have H2_ := (Option.bind_some _ _).symm.trans H; with_reducible exact H2_) | with_reducible exact H | (rw [hy234]; exact H) | exact H
            have Ny234 := Am hy234
            clear hy234
            have H' := Am H
            clear H
            have p232 : 0 ≤ (x22_2 : Int) := of_decide_eq_true (by first | (with_reducible assumption) | assumption)
            have q232 : x22_2 < (l1.length : Int) := of_decide_eq_true (by first | (with_reducible assumption) | assumption)
            obtain ⟨ad232, e232, hx232_0⟩ := Kd.at_bool HR1.out x22_2 p232 q232
            (try rw [← Nbq31.out] at hx232_0)
            cases e232
            replace hx232_0 := (HB.out.cell (World.block_lt_of_cell? w _ hx232_0)).trans hx232_0
            replace p232 := eq_true p232
            replace q232 := eq_true q232
            have hnb43 := NB231_219.out
            have hnc43 := NB219_231.out
            have hnb44 := NB231_220.out
            have hnc44 := NB220_231.out
            have hcz45_0 : wr.cell? ⟨gb231, 0, none⟩ = some (u232000) := (bC BK231.out 0).trans rfl
            have hcz45_1 : wr.cell? ⟨gb231, 1, none⟩ = some (u232001) := (bC BK231.out 1).trans rfl
            have hcz45_2 : wr.cell? ⟨gb231, 2, none⟩ = some (.slice Ao27 t228.length co27) := (bC BK231.out 2).trans rfl
            have hfz45_0 := bF BK231.out 0
            have hfz45_1 := bF BK231.out 1
            have hfz45_2 := bF BK231.out 2
            have p42 : 0 ≤ (x22_2 : Int) := of_decide_eq_true (by first | (with_reducible assumption) | assumption)
            have q42 : (x22_2 : Int) < ((x232001_2.length : Int) : Int) := of_decide_eq_true (by first | (with_reducible assumption) | assumption)
            obtain ⟨go42, co42, eo42, gb42, gl42, cl42, HG42⟩ := Kd.R_form HO_232001.out (by omega)
            (first | cases eo42 | (injection eo42 with ea_ en_ ec_; (first | subst ea_ | (injection ea_ with ea_; subst ea_)); subst ec_; clear en_))
            have GB42 := Am gb42
            have GG42 := Am HG42
            clear gb42 gl42 HG42
            obtain ⟨hx42_0, hf42_0⟩ := Kd.R_celln false HO_232001.out (x22_2 : Int) p42 q42
            replace p42 := eq_true p42
            replace q42 := eq_true q42
            have HP46 := Kd.R_putg HO_232001.out (x22_2 : Int) ((wrap64 (x22_2 + 1)) != 2)
            go_wp2_with (first | ((with_reducible refine gate_store (t := 4) (p := 41) rfl ?_); refine store_event (t := 4) (p := 41) (v := ?vo_w47) (w1 := (wr.setCell ⟨go42, (x22_2 : Int).toNat, none⟩ (.bool ((wrap64 (x22_2 + 1)) != 2)))) ?hg ?ho ?hn ?hr ?_; (case ho => rfl); (case hg => rfl); (case hn => rfl); (case hr => first | (go_simp; done) | (go_simp; rfl)); intro w47 hw; have hg : wr.grownBy w47 (some go42) := (by rw [hw]; exact HP46.2); have hp_ : Kd.R Kd.bool 4 w47 w.heap.size (fun k_ => some k_ ≠ (u232000 : Value).ownBlock) (.slice (some ⟨go42, 0, none⟩) x232001_2.length co42) y234 := (by rw [hw, Ny234.out]; exact HP46.1); clear HP46; have n0_ := Am (Kd.R_after (v := (.slice (some ⟨go42, 0, none⟩) x232001_2.length co42)) (v1 := (.slice (some ⟨go42, 0, none⟩) x232001_2.length co42)) (ok := (fun _ => True)) (by (with_reducible repeat (first | apply rA | apply rN | apply rD)); exact rM HO_232000.out (fun _ hk => ⟨trivial, hk⟩)) hg (.inl rfl)); have n1_ := Am (hp_); have n2_ := Am (Kd.R_over' (v := (.slice (some ⟨go42, 0, none⟩) x232001_2.length co42)) (by (with_reducible repeat (first | apply rA | apply rN | apply rD)); exact HO_232002.out) (Kd.R_typed HO_232001.out) (by decide) hg); have n3_ := Am (blk_grown (g := gb219) (o := .cells #[.slice A0_0 l0_0.length c0_0, .slice A0_1 l0_1.length c0_1, .slice A0_2 l0_2.length c0_2] 26 (0, 0)) (by (with_reducible repeat (first | refine bN ?_ _ | refine bD ?_ | refine bA ?_ _)); exact BK219.out) hg (Kd.R_ne HO_232001.out BK219.out (by decide))); have n4_ := Am (blk_grown (g := gb220) (o := .cells #[.slice none 0 0, .slice none 0 0, .slice none 0 0] 26 (0, 0)) (by (with_reducible repeat (first | refine bN ?_ _ | refine bD ?_ | refine bA ?_ _)); exact BK220.out) hg (Kd.R_ne HO_232001.out BK220.out (by decide))); have n5_ := Am (blk_grown (g := gb231) (o := .cells #[u232000, .slice (some ⟨go42, 0, none⟩) x232001_2.length co42, .slice Ao27 t228.length co27] 26 (0, 0)) (by (with_reducible repeat (first | refine bN ?_ _ | refine bD ?_ | refine bA ?_ _)); exact BK231.out) hg (Kd.R_ne HO_232001.out BK231.out (by decide))); have n6_ := Am ((by rw [hw]; exact bS (HB.out) GB42.out : Below w.heap.size w w47)); clear HO_232000; clear HO_232001; clear HO_232002; clear BK219; clear BK220; clear BK231; clear HB; have HO_232000 := n0_; have HO_232001 := n1_; have HO_232002 := n2_; have BK219 := n3_; have BK220 := n4_; have BK231 := n5_; have HB := n6_; clear n0_ n1_ n2_ n3_ n4_ n5_ n6_; clear hg hw hp_))
            go_roundg k2
            case measure => have := HJ2.out; have := HK2.out; omega
            case rel => exact ⟨(wrap64 (x22_2 + 1)), (x232000_2), (y234), (u232000), (.slice (some ⟨go42, 0, none⟩) x232001_2.length co42), (by first | rfl | (simp; done) | (simp [*]; done)), H', ⟨by have := HJ2.out; have := HK2.out; omega⟩, ⟨by (with_reducible repeat (first | apply rA | apply rN | apply rD)); exact rM HO_232000.out (fun _ hk => hk.2)⟩, ⟨by (with_reducible repeat (first | apply rA | apply rN | apply rD)); exact HO_232001.out⟩, ⟨by (with_reducible repeat (first | apply rA | apply rN | apply rD)); exact HO_232002.out⟩, ⟨by (with_reducible repeat (first | refine bN ?_ _ | refine bD ?_ | refine bA ?_ _)); exact BK219.out⟩, ⟨by (with_reducible repeat (first | refine bN ?_ _ | refine bD ?_ | refine bA ?_ _)); exact BK220.out⟩, ⟨by (with_reducible repeat (first | refine bN ?_ _ | refine bD ?_ | refine bA ?_ _)); exact BK231.out⟩, ⟨by repeat (first | (with_reducible first | exact HB.out | apply oA | apply pN | apply o1 | refine bS ?_ GE219.out | refine bS ?_ GE220.out | refine bS ?_ GE231.out) | exact HB.out)⟩⟩
           ·rw [if_neg c41] at H
            exact absurd H (by simp)
         ·replace c32 := Bool.eq_false_iff.mpr c32
          subst c32
          have H1 : (if x22_2 < (x232001_2.length : Int) then (impl_SigsBlock.l0 k2 l1 (l1.length : Int) (wrap64 (x22_2 + 1)) x232000_2 (x232001_2.set (x22_2 : Int).toNat false) t228) else (none)) = some (r1, r2, r3, r4) := by rw [if_neg (show ¬ (false = true) by decide)] at H; exact H
          clear H
          have H := H1
          clear H1
          by_cases c48 : x22_2 < (x232001_2.length : Int)
          ·rw [if_pos c48] at H
           have c48b0 : decide (x22_2 < (x232001_2.length : Int)) = true := decide_eq_true c48
           clear c48
           obtain ⟨y235, hy235⟩ : ∃ y_ : List Bool, y_ = (x232001_2.set (x22_2 : Int).toNat false) := ⟨_, rfl⟩
           replace H : (impl_SigsBlock.l0 k2 l1 (l1.length : Int) (wrap64 (x22_2 + 1)) x232000_2 y235 t228) = some (r1, r2, r3, r4) := by first | (rw [hy235]; with_reducible exact H) | (have H2_ := (Option.bind_some _ _).symm.trans H; rw [hy235]; with_reducible exact H2_) | (have H2_ := (Option.bind_some _ _).symm.trans H; with_reducible exact H2_) | with_reducible exact H | (rw [hy235]; exact H) | exact H
           have Ny235 := Am hy235
           clear hy235
           have H' := Am H
           clear H
           have p232 : 0 ≤ (x22_2 : Int) := of_decide_eq_true (by first | (with_reducible assumption) | assumption)
           have q232 : x22_2 < (l1.length : Int) := of_decide_eq_true (by first | (with_reducible assumption) | assumption)
           obtain ⟨ad232, e232, hx232_0⟩ := Kd.at_bool HR1.out x22_2 p232 q232
           (try rw [← Nbq31.out] at hx232_0)
           cases e232
           replace hx232_0 := (HB.out.cell (World.block_lt_of_cell? w _ hx232_0)).trans hx232_0
           replace p232 := eq_true p232
           replace q232 := eq_true q232
           have hnb50 := NB231_219.out
           have hnc50 := NB219_231.out
           have hnb51 := NB231_220.out
           have hnc51 := NB220_231.out
           have hcz52_0 : wr.cell? ⟨gb231, 0, none⟩ = some (u232000) := (bC BK231.out 0).trans rfl
           have hcz52_1 : wr.cell? ⟨gb231, 1, none⟩ = some (u232001) := (bC BK231.out 1).trans rfl
           have hcz52_2 : wr.cell? ⟨gb231, 2, none⟩ = some (.slice Ao27 t228.length co27) := (bC BK231.out 2).trans rfl
           have hfz52_0 := bF BK231.out 0
           have hfz52_1 := bF BK231.out 1
           have hfz52_2 := bF BK231.out 2
           have p49 : 0 ≤ (x22_2 : Int) := of_decide_eq_true (by first | (with_reducible assumption) | assumption)
           have q49 : (x22_2 : Int) < ((x232001_2.length : Int) : Int) := of_decide_eq_true (by first | (with_reducible assumption) | assumption)
           obtain ⟨go49, co49, eo49, gb49, gl49, cl49, HG49⟩ := Kd.R_form HO_232001.out (by omega)
           (first | cases eo49 | (injection eo49 with ea_ en_ ec_; (first | subst ea_ | (injection ea_ with ea_; subst ea_)); subst ec_; clear en_))
           have GB49 := Am gb49
           have GG49 := Am HG49
           clear gb49 gl49 HG49
           obtain ⟨hx49_0, hf49_0⟩ := Kd.R_celln false HO_232001.out (x22_2 : Int) p49 q49
           replace p49 := eq_true p49
           replace q49 := eq_true q49
           have HP53 := Kd.R_putg HO_232001.out (x22_2 : Int) false
           go_wp2_with (first | ((with_reducible refine gate_store (t := 4) (p := 41) rfl ?_); refine store_event (t := 4) (p := 41) (v := ?vo_w54) (w1 := (wr.setCell ⟨go49, (x22_2 : Int).toNat, none⟩ (.bool false))) ?hg ?ho ?hn ?hr ?_; (case ho => rfl); (case hg => rfl); (case hn => rfl); (case hr => first | (go_simp; done) | (go_simp; rfl)); intro w54 hw; have hg : wr.grownBy w54 (some go49) := (by rw [hw]; exact HP53.2); have hp_ : Kd.R Kd.bool 4 w54 w.heap.size (fun k_ => some k_ ≠ (u232000 : Value).ownBlock) (.slice (some ⟨go49, 0, none⟩) x232001_2.length co49) y235 := (by rw [hw, Ny235.out]; exact HP53.1); clear HP53; have n0_ := Am (Kd.R_after (v := (.slice (some ⟨go49, 0, none⟩) x232001_2.length co49)) (v1 := (.slice (some ⟨go49, 0, none⟩) x232001_2.length co49)) (ok := (fun _ => True)) (by (with_reducible repeat (first | apply rA | apply rN | apply rD)); exact rM HO_232000.out (fun _ hk => ⟨trivial, hk⟩)) hg (.inl rfl)); have n1_ := Am (hp_); have n2_ := Am (Kd.R_over' (v := (.slice (some ⟨go49, 0, none⟩) x232001_2.length co49)) (by (with_reducible repeat (first | apply rA | apply rN | apply rD)); exact HO_232002.out) (Kd.R_typed HO_232001.out) (by decide) hg); have n3_ := Am (blk_grown (g := gb219) (o := .cells #[.slice A0_0 l0_0.length c0_0, .slice A0_1 l0_1.length c0_1, .slice A0_2 l0_2.length c0_2] 26 (0, 0)) (by (with_reducible repeat (first | refine bN ?_ _ | refine bD ?_ | refine bA ?_ _)); exact BK219.out) hg (Kd.R_ne HO_232001.out BK219.out (by decide))); have n4_ := Am (blk_grown (g := gb220) (o := .cells #[.slice none 0 0, .slice none 0 0, .slice none 0 0] 26 (0, 0)) (by (with_reducible repeat (first | refine bN ?_ _ | refine bD ?_ | refine bA ?_ _)); exact BK220.out) hg (Kd.R_ne HO_232001.out BK220.out (by decide))); have n5_ := Am (blk_grown (g := gb231) (o := .cells #[u232000, .slice (some ⟨go49, 0, none⟩) x232001_2.length co49, .slice Ao27 t228.length co27] 26 (0, 0)) (by (with_reducible repeat (first | refine bN ?_ _ | refine bD ?_ | refine bA ?_ _)); exact BK231.out) hg (Kd.R_ne HO_232001.out BK231.out (by decide))); have n6_ := Am ((by rw [hw]; exact bS (HB.out) GB49.out : Below w.heap.size w w54)); clear HO_232000; clear HO_232001; clear HO_232002; clear BK219; clear BK220; clear BK231; clear HB; have HO_232000 := n0_; have HO_232001 := n1_; have HO_232002 := n2_; have BK219 := n3_; have BK220 := n4_; have BK231 := n5_; have HB := n6_; clear n0_ n1_ n2_ n3_ n4_ n5_ n6_; clear hg hw hp_))
           go_roundg k2
           case measure => have := HJ2.out; have := HK2.out; omega
           case rel => exact ⟨(wrap64 (x22_2 + 1)), (x232000_2), (y235), (u232000), (.slice (some ⟨go49, 0, none⟩) x232001_2.length co49), (by first | rfl | (simp; done) | (simp [*]; done)), H', ⟨by have := HJ2.out; have := HK2.out; omega⟩, ⟨by (with_reducible repeat (first | apply rA | apply rN | apply rD)); exact rM HO_232000.out (fun _ hk => hk.2)⟩, ⟨by (with_reducible repeat (first | apply rA | apply rN | apply rD)); exact HO_232001.out⟩, ⟨by (with_reducible repeat (first | apply rA | apply rN | apply rD)); exact HO_232002.out⟩, ⟨by (with_reducible repeat (first | refine bN ?_ _ | refine bD ?_ | refine bA ?_ _)); exact BK219.out⟩, ⟨by (with_reducible repeat (first | refine bN ?_ _ | refine bD ?_ | refine bA ?_ _)); exact BK220.out⟩, ⟨by (with_reducible repeat (first | refine bN ?_ _ | refine bD ?_ | refine bA ?_ _)); exact BK231.out⟩, ⟨by repeat (first | (with_reducible first | exact HB.out | apply oA | apply pN | apply o1 | refine bS ?_ GE219.out | refine bS ?_ GE220.out | refine bS ?_ GE231.out) | exact HB.out)⟩⟩
          ·rw [if_neg c48] at H
           exact absurd H (by simp)
        ·rw [if_neg c30] at H
         exact absurd H (by simp)
       ·rw [if_neg c29] at H
        exact absurd H (by simp)
      ·rw [if_neg c28] at H
       have c28b0 : decide (x22_2 < (l1.length : Int)) = false := decide_eq_false c28
       clear c28
       simp only [Option.some.injEq, Prod.mk.injEq] at H
       obtain ⟨rfl, rfl, rfl, rfl⟩ := H
       have hnb55 := NB231_219.out
       have hnc55 := NB219_231.out
       have hnb56 := NB231_220.out
       have hnc56 := NB220_231.out
       have hcz57_0 : wr.cell? ⟨gb231, 0, none⟩ = some (u232000) := (bC BK231.out 0).trans rfl
       have hcz57_1 : wr.cell? ⟨gb231, 1, none⟩ = some (u232001) := (bC BK231.out 1).trans rfl
       have hcz57_2 : wr.cell? ⟨gb231, 2, none⟩ = some (.slice Ao27 t228.length co27) := (bC BK231.out 2).trans rfl
       have hfz57_0 := bF BK231.out 0
       have hfz57_1 := bF BK231.out 1
       have hfz57_2 := bF BK231.out 2
       obtain ⟨Ao58, co58, eo58⟩ := Kd.R_slice HO_232000.out
       subst eo58
       have hnb59 := NB220_219.out
       have hnc59 := NB219_220.out
       have hcz60_0 : wr.cell? ⟨gb220, 0, none⟩ = some (.slice none 0 0) := (bC BK220.out 0).trans rfl
       have hcz60_1 : wr.cell? ⟨gb220, 1, none⟩ = some (.slice none 0 0) := (bC BK220.out 1).trans rfl
       have hcz60_2 : wr.cell? ⟨gb220, 2, none⟩ = some (.slice none 0 0) := (bC BK220.out 2).trans rfl
       have hfz60_0 := bF BK220.out 0
       have hfz60_1 := bF BK220.out 1
       have hfz60_2 := bF BK220.out 2
       obtain ⟨Ao61, co61, eo61⟩ := Kd.R_slice HO_232001.out
       subst eo61
       go_wp2
       refine bodyPost_ret (results_ct rfl _ _ gb220 26 #[.slice Ao58 x232000_2.length co58, .slice Ao61 x232001_2.length co61, .slice Ao27 t228.length co27] (0, 0) _ rfl (by (with_reducible repeat (first | refine bN ?_ _ | refine bD ?_ | refine bA ?_ _)); refine blk_put (cs := #[.slice Ao58 x232000_2.length co58, .slice Ao61 x232001_2.length co61, .slice none 0 0]) ?_ 2 _ rfl; (with_reducible repeat (first | refine bN ?_ _ | refine bD ?_ | refine bA ?_ _)); refine blk_put (cs := #[.slice Ao58 x232000_2.length co58, .slice none 0 0, .slice none 0 0]) ?_ 1 _ rfl; (with_reducible repeat (first | refine bN ?_ _ | refine bD ?_ | refine bA ?_ _)); refine blk_put (cs := #[.slice none 0 0, .slice none 0 0, .slice none 0 0]) ?_ 0 _ rfl; (with_reducible repeat (first | refine bN ?_ _ | refine bD ?_ | refine bA ?_ _)); exact BK220.out) Try.underlying26 rfl (by kernel_rfl)) rfl ?_
       exact ⟨_, _, _, by first | rfl | (simp [errW_none, errW_some] <;> rfl) | (simp [*, errW_none, errW_some] <;> rfl), by (with_reducible repeat (first | apply rA | apply rN | apply rD)); exact rM (rF (p := ⟨gb220, 2, none⟩) (rF (p := ⟨gb220, 1, none⟩) (rF (p := ⟨gb220, 0, none⟩) (rT HO_232000.out BK220.out (by decide)) (fun _ hk => hk.2) (.slice Ao58 x232000_2.length co58)) (fun _ hk => hk.2) (.slice Ao61 x232001_2.length co61)) (fun _ hk => hk.2) (.slice Ao27 t228.length co27)) (fun _ hk => hk.1), by (with_reducible repeat (first | apply rA | apply rN | apply rD)); exact rM (rF (p := ⟨gb220, 2, none⟩) (rF (p := ⟨gb220, 1, none⟩) (rF (p := ⟨gb220, 0, none⟩) (rT HO_232001.out BK220.out (by decide)) (fun _ hk => hk.2) (.slice Ao58 x232000_2.length co58)) (fun _ hk => hk.2) (.slice Ao61 x232001_2.length co61)) (fun _ hk => hk.2) (.slice Ao27 t228.length co27)) (fun _ hk => hk.1), by (with_reducible repeat (first | apply rA | apply rN | apply rD)); exact rM (rF (p := ⟨gb220, 2, none⟩) (rF (p := ⟨gb220, 1, none⟩) (rF (p := ⟨gb220, 0, none⟩) (rT HO_232002.out BK220.out (by decide)) (fun _ hk => hk.2) (.slice Ao58 x232000_2.length co58)) (fun _ hk => hk.2) (.slice Ao61 x232001_2.length co61)) (fun _ hk => hk.2) (.slice Ao27 t228.length co27)) (fun _ hk => trivial), by repeat (first | (with_reducible first | exact HB.out | apply oA | apply pN | apply o1 | refine bS ?_ GE219.out | refine bS ?_ GE220.out | refine bS ?_ GE231.out) | exact HB.out)⟩

end Go.Proofs.Ytiifanjjohophaa.PFnSigsBlock
