/- Proved here, without a condition beyond those that each theorem states: what the Go functions named below do is what the plain functions of the same names say. Written by xprint.py, a program of this session. -/
import Derived.Test.YtffnkpbogkodbaaPFnMemNewx0
import Derived.Test.YtffnkpbogkodbaaPFnMemNewx3
import Derived.Test.YtffnkpbogkodbaaPFnMemNewx4
namespace Go.Proofs.Ytffnkpbogkodbaa.PFnMemNew
open Go.RowKit Go.Proofs.YtffnkpbogkodbaaW.PrintWords Go.Proofs.YtffnkpbogkodbaaW.PrintLast Go.Proofs.YtffnkpbogkodbaaW.PrintMore
attribute [local go_sem] max2_int min2_int max_two min_two max_three min_three max_four min_four   -- for this text's walks alone
set_option linter.unusedVariables false
set_option linter.unusedSimpArgs false

attribute [local go_sem ↓] isSome_setCell_
/-! ### laws_qdMem: function 12 -/
mutual
def laws_qdMem.j0 : Nat → Bool → List ByteArray → List Int → List ByteArray → List Int → List (S73) → Int → List ByteArray → List Int → List ByteArray → List Int → List (S73) → Int → Option (Bool)
 | 0, _, _, _, _, _, _, _, _, _, _, _, _, _ => none
 | k + 1, x35, x145000, x145001, x145002, x145003, x145004, x145005, x146000, x146001, x146002, x146003, x146004, x146005 => if x35 = true then (some false) else (laws_qdMem.l0 k 0 x145000 x145001 x145002 x145003 x145004 x145005 x146000 x146001 x146002 x146003 x146004 x146005)
def laws_qdMem.l0 : Nat → Int → List ByteArray → List Int → List ByteArray → List Int → List (S73) → Int → List ByteArray → List Int → List ByteArray → List Int → List (S73) → Int → Option (Bool)
 | 0, _, _, _, _, _, _, _, _, _, _, _, _, _ => none
 | k + 1, x5, x145000, x145001, x145002, x145003, x145004, x145005, x146000, x146001, x146002, x146003, x146004, x146005 => if x5 < (x145004.length : Int) then (if 0 ≤ x5 then (if x5 < (x146004.length : Int) then ((laws_qdSpace.f k ((rd_T73 x145004 x5).f0) ((rd_T73 x145004 x5).f1) ((rd_T73 x145004 x5).f2) ((rd_T73 x146004 x5).f0) ((rd_T73 x146004 x5).f1) ((rd_T73 x146004 x5).f2)).bind fun t150 => (if t150 = true then (laws_qdMem.l0 k (wrap64 (x5 + 1)) x145000 x145001 x145002 x145003 x145004 x145005 x146000 x146001 x146002 x146003 x146004 x146005) else (some false))) else (none)) else (none)) else (some true)
end
def laws_qdMem.f (k : Nat) (l0_0 : List ByteArray) (l0_1 : List Int) (l0_2 : List ByteArray) (l0_3 : List Int) (l0_4 : List (S73)) (a0_5 : Int) (l1_0 : List ByteArray) (l1_1 : List Int) (l1_2 : List ByteArray) (l1_3 : List Int) (l1_4 : List (S73)) (a1_5 : Int) : Option (Bool) := (laws_qdPages.f k l0_0 l0_1 l1_0 l1_1).bind fun t146 => (if t146 = true then ((laws_qdPages.f k l0_2 l0_3 l1_2 l1_3).bind fun t147 => (if t147 = true then (if a0_5 = a1_5 then (laws_qdMem.j0 k ((l0_4.length : Int) != (l1_4.length : Int)) l0_0 l0_1 l0_2 l0_3 l0_4 a0_5 l1_0 l1_1 l1_2 l1_3 l1_4 a1_5) else (laws_qdMem.j0 k true l0_0 l0_1 l0_2 l0_3 l0_4 a0_5 l1_0 l1_1 l1_2 l1_3 l1_4 a1_5)) else (laws_qdMem.j0 k true l0_0 l0_1 l0_2 l0_3 l0_4 a0_5 l1_0 l1_1 l1_2 l1_3 l1_4 a1_5))) else (laws_qdMem.j0 k true l0_0 l0_1 l0_2 l0_3 l0_4 a0_5 l1_0 l1_1 l1_2 l1_3 l1_4 a1_5))
theorem laws_qdMem.mono_l : ∀ k, (∀ y0 y1 y2 y3 y4 y5 y6 y7 y8 y9 y10 y11 y12, LeO (laws_qdMem.j0 k y0 y1 y2 y3 y4 y5 y6 y7 y8 y9 y10 y11 y12) (laws_qdMem.j0 (k + 1) y0 y1 y2 y3 y4 y5 y6 y7 y8 y9 y10 y11 y12)) ∧ (∀ y0 y1 y2 y3 y4 y5 y6 y7 y8 y9 y10 y11 y12, LeO (laws_qdMem.l0 k y0 y1 y2 y3 y4 y5 y6 y7 y8 y9 y10 y11 y12) (laws_qdMem.l0 (k + 1) y0 y1 y2 y3 y4 y5 y6 y7 y8 y9 y10 y11 y12))
 | 0 => ⟨fun _ _ _ _ _ _ _ _ _ _ _ _ _ r h => by simp [laws_qdMem.j0] at h, fun _ _ _ _ _ _ _ _ _ _ _ _ _ r h => by simp [laws_qdMem.l0] at h⟩
 | k + 1 => by
  obtain ⟨ih0, ih1⟩ := laws_qdMem.mono_l k
  refine ⟨?_, ?_⟩
  ·intro y0 y1 y2 y3 y4 y5 y6 y7 y8 y9 y10 y11 y12
   unfold laws_qdMem.j0
   repeat' first
   | (with_reducible exact ih0 _ _ _ _ _ _ _ _ _ _ _ _ _)
   | (with_reducible exact ih1 _ _ _ _ _ _ _ _ _ _ _ _ _)
   | (with_reducible exact laws_qdPages.mono _ _ _ _ _)
   | (with_reducible exact laws_qdSpace.mono _ _ _ _ _ _ _)
   | (with_reducible exact LeO.refl _)
   | (with_reducible exact LeO.none _)
   | (with_reducible refine LeO.ite ?_ ?_)
   | (with_reducible refine LeO.bind ?_ (fun _ => ?_))
   | exact ih0 _ _ _ _ _ _ _ _ _ _ _ _ _
   | exact ih1 _ _ _ _ _ _ _ _ _ _ _ _ _
   | exact laws_qdPages.mono _ _ _ _ _
   | exact laws_qdSpace.mono _ _ _ _ _ _ _
   | exact LeO.none _
   | refine LeO.ite ?_ ?_
   | refine LeO.bind ?_ (fun _ => ?_)
  ·intro y0 y1 y2 y3 y4 y5 y6 y7 y8 y9 y10 y11 y12
   unfold laws_qdMem.l0
   repeat' first
   | (with_reducible exact ih0 _ _ _ _ _ _ _ _ _ _ _ _ _)
   | (with_reducible exact ih1 _ _ _ _ _ _ _ _ _ _ _ _ _)
   | (with_reducible exact laws_qdPages.mono _ _ _ _ _)
   | (with_reducible exact laws_qdSpace.mono _ _ _ _ _ _ _)
   | (with_reducible exact LeO.refl _)
   | (with_reducible exact LeO.none _)
   | (with_reducible refine LeO.ite ?_ ?_)
   | (with_reducible refine LeO.bind ?_ (fun _ => ?_))
   | exact ih0 _ _ _ _ _ _ _ _ _ _ _ _ _
   | exact ih1 _ _ _ _ _ _ _ _ _ _ _ _ _
   | exact laws_qdPages.mono _ _ _ _ _
   | exact laws_qdSpace.mono _ _ _ _ _ _ _
   | exact LeO.none _
   | refine LeO.ite ?_ ?_
   | refine LeO.bind ?_ (fun _ => ?_)
theorem laws_qdMem.mono : ∀ a0 a1 a2 a3 a4 a5 a6 a7 a8 a9 a10 a11 k, LeO (laws_qdMem.f k a0 a1 a2 a3 a4 a5 a6 a7 a8 a9 a10 a11) (laws_qdMem.f (k + 1) a0 a1 a2 a3 a4 a5 a6 a7 a8 a9 a10 a11) := by
 intro a0 a1 a2 a3 a4 a5 a6 a7 a8 a9 a10 a11 k
 obtain ⟨ih0, ih1⟩ := laws_qdMem.mono_l k
 unfold laws_qdMem.f
 repeat' first
   | (with_reducible exact ih0 _ _ _ _ _ _ _ _ _ _ _ _ _)
   | (with_reducible exact ih1 _ _ _ _ _ _ _ _ _ _ _ _ _)
   | (with_reducible exact laws_qdPages.mono _ _ _ _ _)
   | (with_reducible exact laws_qdSpace.mono _ _ _ _ _ _ _)
   | (with_reducible exact LeO.refl _)
   | (with_reducible exact LeO.none _)
   | (with_reducible refine LeO.ite ?_ ?_)
   | (with_reducible refine LeO.bind ?_ (fun _ => ?_))
   | exact ih0 _ _ _ _ _ _ _ _ _ _ _ _ _
   | exact ih1 _ _ _ _ _ _ _ _ _ _ _ _ _
   | exact laws_qdPages.mono _ _ _ _ _
   | exact laws_qdSpace.mono _ _ _ _ _ _ _
   | exact LeO.none _
   | refine LeO.ite ?_ ?_
   | refine LeO.bind ?_ (fun _ => ?_)
def laws_qdMem.T6 : Bool × List (List Nat × List Nat) := (true, [([], []), ([0], [0]), ([], []), ([1, 2], [1, 2]), ([3], [3]), ([], []), ([5], [5]), ([], []), ([6, 7], [6, 7]), ([8], [8]), ([4, 9], [4, 9]), ([10], [10])])
def laws_qdMem.B6 : List Nat := [0, 1, 0, 7, 15, 0, 32, 0, 224, 480, 1023, 2047]
theorem laws_qdMem.tab6 : rtab .any (opsOf Try.f12 6) = laws_qdMem.T6 := by kernel_rfl
theorem laws_qdMem.bits6 : waitsOk laws_qdMem.T6.2 laws_qdMem.B6 = true := by kernel_rfl
abbrev laws_qdMem.q0 : Array Bool := #[false, false, false, false, false, false, false, false, false, false, false, false]
abbrev laws_qdMem.q1 : Array Bool := #[true, false, false, false, false, false, false, false, false, false, false, false]
abbrev laws_qdMem.q2 : Array Bool := #[true, false, true, false, false, false, false, false, false, false, false, false]
abbrev laws_qdMem.q3 : Array Bool := #[true, false, true, false, false, true, false, false, false, false, false, false]
abbrev laws_qdMem.q4 : Array Bool := #[true, false, true, false, false, true, false, true, false, false, false, false]
abbrev laws_qdMem.q5 : Array Bool := #[true, true, true, false, false, true, false, true, false, false, false, false]
abbrev laws_qdMem.q6 : Array Bool := #[true, true, true, true, false, true, false, true, false, false, false, false]
abbrev laws_qdMem.q7 : Array Bool := #[true, true, true, true, true, true, false, true, false, false, false, false]
abbrev laws_qdMem.q8 : Array Bool := #[true, true, true, true, true, true, true, true, false, false, false, false]
abbrev laws_qdMem.q9 : Array Bool := #[true, true, true, true, true, true, true, true, true, false, false, false]
abbrev laws_qdMem.q10 : Array Bool := #[true, true, true, true, true, true, true, true, true, true, false, false]
abbrev laws_qdMem.q11 : Array Bool := #[true, true, true, true, true, true, true, true, true, true, true, false]
abbrev laws_qdMem.q12 : Array Bool := #[true, true, true, true, true, true, true, true, true, true, true, true]
set_option maxHeartbeats 2000000 in
set_option maxRecDepth 100000 in
theorem laws_qdMem.calls (k : Nat) (A0_0 : Option Addr) (c0_0 : Nat) (l0_0 : List ByteArray) (A0_1 : Option Addr) (c0_1 : Nat) (l0_1 : List Int) (A0_2 : Option Addr) (c0_2 : Nat) (l0_2 : List ByteArray) (A0_3 : Option Addr) (c0_3 : Nat) (l0_3 : List Int) (A0_4 : Option Addr) (c0_4 : Nat) (l0_4 : List (S73)) (a0_5 : Int) (A1_0 : Option Addr) (c1_0 : Nat) (l1_0 : List ByteArray) (A1_1 : Option Addr) (c1_1 : Nat) (l1_1 : List Int) (A1_2 : Option Addr) (c1_2 : Nat) (l1_2 : List ByteArray) (A1_3 : Option Addr) (c1_3 : Nat) (l1_3 : List Int) (A1_4 : Option Addr) (c1_4 : Nat) (l1_4 : List (S73)) (a1_5 : Int) (r : Bool) (w : World) (hr0_0 : Kd.C Kd.string w A0_0 l0_0.length l0_0) (hc0_0 : l0_0.length ≤ c0_0) (hr0_1 : Kd.C (Kd.int .i64) w A0_1 l0_1.length l0_1) (hc0_1 : l0_1.length ≤ c0_1) (hr0_2 : Kd.C Kd.string w A0_2 l0_2.length l0_2) (hc0_2 : l0_2.length ≤ c0_2) (hr0_3 : Kd.C (Kd.int .i64) w A0_3 l0_3.length l0_3) (hc0_3 : l0_3.length ≤ c0_3) (hr0_4 : Kd.C k73 w A0_4 l0_4.length l0_4) (hc0_4 : l0_4.length ≤ c0_4) (hr1_0 : Kd.C Kd.string w A1_0 l1_0.length l1_0) (hc1_0 : l1_0.length ≤ c1_0) (hr1_1 : Kd.C (Kd.int .i64) w A1_1 l1_1.length l1_1) (hc1_1 : l1_1.length ≤ c1_1) (hr1_2 : Kd.C Kd.string w A1_2 l1_2.length l1_2) (hc1_2 : l1_2.length ≤ c1_2) (hr1_3 : Kd.C (Kd.int .i64) w A1_3 l1_3.length l1_3) (hc1_3 : l1_3.length ≤ c1_3) (hr1_4 : Kd.C k73 w A1_4 l1_4.length l1_4) (hc1_4 : l1_4.length ≤ c1_4) (h : laws_qdMem.f k l0_0 l0_1 l0_2 l0_3 l0_4 a0_5 l1_0 l1_1 l1_2 l1_3 l1_4 a1_5 = some r) :
  Calls Try.prog 12 #[.agg #[.slice A0_0 l0_0.length c0_0, .slice A0_1 l0_1.length c0_1, .slice A0_2 l0_2.length c0_2, .slice A0_3 l0_3.length c0_3, .slice A0_4 l0_4.length c0_4, .int .i64 a0_5], .agg #[.slice A1_0 l1_0.length c1_0, .slice A1_1 l1_1.length c1_1, .slice A1_2 l1_2.length c1_2, .slice A1_3 l1_3.length c1_3, .slice A1_4 l1_4.length c1_4, .int .i64 a1_5]] w fun e w' => e = .returned (.bool r) ∧ Below w.heap.size w w' := by
 have hu38 := Try.underlying38
 have hu35 := Try.underlying35
 have hu73 := Try.underlying73
 have HR0_0 := Am hr0_0
 have HC0_0 := Am hc0_0
 clear hr0_0 hc0_0
 have HR0_1 := Am hr0_1
 have HC0_1 := Am hc0_1
 clear hr0_1 hc0_1
 have HR0_2 := Am hr0_2
 have HC0_2 := Am hc0_2
 clear hr0_2 hc0_2
 have HR0_3 := Am hr0_3
 have HC0_3 := Am hc0_3
 clear hr0_3 hc0_3
 have HR0_4 := Am hr0_4
 have HC0_4 := Am hc0_4
 clear hr0_4 hc0_4
 have HR1_0 := Am hr1_0
 have HC1_0 := Am hc1_0
 clear hr1_0 hc1_0
 have HR1_1 := Am hr1_1
 have HC1_1 := Am hc1_1
 clear hr1_1 hc1_1
 have HR1_2 := Am hr1_2
 have HC1_2 := Am hc1_2
 clear hr1_2 hc1_2
 have HR1_3 := Am hr1_3
 have HC1_3 := Am hc1_3
 clear hr1_3 hc1_3
 have HR1_4 := Am hr1_4
 have HC1_4 := Am hc1_4
 clear hr1_4 hc1_4
 have HB := Am (Below.refl w.heap.size w)
 have H : ((laws_qdPages.f k l0_0 l0_1 l1_0 l1_1).bind fun t146 => (if t146 = true then ((laws_qdPages.f k l0_2 l0_3 l1_2 l1_3).bind fun t147 => (if t147 = true then (if a0_5 = a1_5 then (laws_qdMem.j0 k ((l0_4.length : Int) != (l1_4.length : Int)) l0_0 l0_1 l0_2 l0_3 l0_4 a0_5 l1_0 l1_1 l1_2 l1_3 l1_4 a1_5) else (laws_qdMem.j0 k true l0_0 l0_1 l0_2 l0_3 l0_4 a0_5 l1_0 l1_1 l1_2 l1_3 l1_4 a1_5)) else (laws_qdMem.j0 k true l0_0 l0_1 l0_2 l0_3 l0_4 a0_5 l1_0 l1_1 l1_2 l1_3 l1_4 a1_5))) else (laws_qdMem.j0 k true l0_0 l0_1 l0_2 l0_3 l0_4 a0_5 l1_0 l1_1 l1_2 l1_3 l1_4 a1_5))) = some r := h
 clear h
 have HC3 := Am H
 clear H
 go_enter Try.func12, Try.ntmps12
 go_upto_region 1 with (first | ((with_reducible refine gate_dst (N := 2) rfl ?_); (try (refine gate_guard (by rfl) ?_; dsimp only)); refine box_event ?hg (N := 2) ?hd (cs := #[.slice A0_0 l0_0.length c0_0, .slice A0_1 l0_1.length c0_1, .slice A0_2 l0_2.length c0_2, .slice A0_3 l0_3.length c0_3, .slice A0_4 l0_4.length c0_4, .int .i64 a0_5]) (t := 38) ?hr ?_; (case hd => rfl); (case hg => rfl); (case hr => first | (go_simp; done) | (go_simp; rfl)); intro gb144 hg w4 hbox hb; have n0_ := Am (bP (by repeat (first | (with_reducible first | exact HB.out | apply oA | apply pN | apply o1) | exact HB.out)) hb); have n1_ := Am (hbox); have n2_ := Am ((by rw [hg]; exact (bZ (by repeat (first | (with_reducible first | exact HB.out | apply oA | apply pN | apply o1) | exact HB.out))) : w.heap.size ≤ gb144)); have n3_ := Am ((by rw [hg]; exact (bZ (by repeat (first | (with_reducible first | exact HB.out | apply oA | apply pN | apply o1) | exact HB.out))) : w.heap.size ≤ gb144)); clear HB; have HB := n0_; have BK144 := n1_; have GW144 := n2_; have GE144 := n3_; clear n0_ n1_ n2_ n3_; clear hb hbox hg) | ((with_reducible refine gate_dst (N := 3) rfl ?_); (try (refine gate_guard (by rfl) ?_; dsimp only)); refine box_event ?hg (N := 3) ?hd (cs := #[.slice A1_0 l1_0.length c1_0, .slice A1_1 l1_1.length c1_1, .slice A1_2 l1_2.length c1_2, .slice A1_3 l1_3.length c1_3, .slice A1_4 l1_4.length c1_4, .int .i64 a1_5]) (t := 38) ?hr ?_; (case hd => rfl); (case hg => rfl); (case hr => first | (go_simp; done) | (go_simp; rfl)); intro gb145 hg w5 hbox hb; have n0_ := Am (bB (g := gb144) (o := .cells #[.slice A0_0 l0_0.length c0_0, .slice A0_1 l0_1.length c0_1, .slice A0_2 l0_2.length c0_2, .slice A0_3 l0_3.length c0_3, .slice A0_4 l0_4.length c0_4, .int .i64 a0_5] 38 (0, 0)) (by (with_reducible repeat (first | refine bN ?_ _ | refine bD ?_ | refine bA ?_ _)); exact BK144.out) hb); have n1_ := Am (bP (by repeat (first | (with_reducible first | exact HB.out | apply oA | apply pN | apply o1 | refine bS ?_ GE144.out) | exact HB.out)) hb); have n2_ := Am (hbox); have n3_ := Am ((by rw [hg]; exact (bZ (by repeat (first | (with_reducible first | exact HB.out | apply oA | apply pN | apply o1 | refine bS ?_ GE144.out) | exact HB.out))) : w.heap.size ≤ gb145)); have n4_ := Am ((by rw [hg]; exact (bZ (by repeat (first | (with_reducible first | exact HB.out | apply oA | apply pN | apply o1 | refine bS ?_ GE144.out) | exact HB.out))) : w.heap.size ≤ gb145)); have n5_ := Am ((by rw [hg]; exact Nat.ne_of_lt (blk_lt (g := gb144) (o := .cells #[.slice A0_0 l0_0.length c0_0, .slice A0_1 l0_1.length c0_1, .slice A0_2 l0_2.length c0_2, .slice A0_3 l0_3.length c0_3, .slice A0_4 l0_4.length c0_4, .int .i64 a0_5] 38 (0, 0)) (by (with_reducible repeat (first | refine bN ?_ _ | refine bD ?_ | refine bA ?_ _)); exact BK144.out)) : gb144 ≠ gb145)); have n6_ := Am ((by rw [hg]; exact Nat.ne_of_gt (blk_lt (g := gb144) (o := .cells #[.slice A0_0 l0_0.length c0_0, .slice A0_1 l0_1.length c0_1, .slice A0_2 l0_2.length c0_2, .slice A0_3 l0_3.length c0_3, .slice A0_4 l0_4.length c0_4, .int .i64 a0_5] 38 (0, 0)) (by (with_reducible repeat (first | refine bN ?_ _ | refine bD ?_ | refine bA ?_ _)); exact BK144.out)) : gb145 ≠ gb144)); clear BK144; clear HB; have BK144 := n0_; have HB := n1_; have BK145 := n2_; have GW145 := n3_; have GE145 := n4_; have NB144_145 := n5_; have NB145_144 := n6_; clear n0_ n1_ n2_ n3_ n4_ n5_ n6_; clear hb hbox hg))
 (try simp only [Act.put, lA, lZ, lS])
 go_cut [35] (fun v35 wc => ∃ (kq : Nat) (x35_2 : Bool), v35 = .bool x35_2 ∧ Aside0 (laws_qdMem.j0 kq x35_2 l0_0 l0_1 l0_2 l0_3 l0_4 a0_5 l1_0 l1_1 l1_2 l1_3 l1_4 a1_5 = some r) ∧ Aside0 (kq ≤ k) ∧ Aside0 (wc.heap[gb144]? = some (.cells #[(.slice A0_0 l0_0.length c0_0), (.slice A0_1 l0_1.length c0_1), (.slice A0_2 l0_2.length c0_2), (.slice A0_3 l0_3.length c0_3), (.slice A0_4 l0_4.length c0_4), .int .i64 a0_5] 38 (0, 0))) ∧ Aside0 (wc.heap[gb145]? = some (.cells #[(.slice A1_0 l1_0.length c1_0), (.slice A1_1 l1_1.length c1_1), (.slice A1_2 l1_2.length c1_2), (.slice A1_3 l1_3.length c1_3), (.slice A1_4 l1_4.length c1_4), .int .i64 a1_5] 38 (0, 0))) ∧ Aside0 (Below w.heap.size w wc))
 case first =>
  have H := HC3.out
  clear HC3
  replace H := Option.bind_eq_some_iff.mp H
  obtain ⟨t146, A60, H⟩ := H
  replace H : (if t146 = true then ((laws_qdPages.f k l0_2 l0_3 l1_2 l1_3).bind fun t147 => (if t147 = true then (if a0_5 = a1_5 then (laws_qdMem.j0 k ((l0_4.length : Int) != (l1_4.length : Int)) l0_0 l0_1 l0_2 l0_3 l0_4 a0_5 l1_0 l1_1 l1_2 l1_3 l1_4 a1_5) else (laws_qdMem.j0 k true l0_0 l0_1 l0_2 l0_3 l0_4 a0_5 l1_0 l1_1 l1_2 l1_3 l1_4 a1_5)) else (laws_qdMem.j0 k true l0_0 l0_1 l0_2 l0_3 l0_4 a0_5 l1_0 l1_1 l1_2 l1_3 l1_4 a1_5))) else (laws_qdMem.j0 k true l0_0 l0_1 l0_2 l0_3 l0_4 a0_5 l1_0 l1_1 l1_2 l1_3 l1_4 a1_5)) = some r := H
  have A6 := Am A60
  clear A60
  by_cases c7 : t146 = true
  ·subst c7
   have H1 : ((laws_qdPages.f k l0_2 l0_3 l1_2 l1_3).bind fun t147 => (if t147 = true then (if a0_5 = a1_5 then (laws_qdMem.j0 k ((l0_4.length : Int) != (l1_4.length : Int)) l0_0 l0_1 l0_2 l0_3 l0_4 a0_5 l1_0 l1_1 l1_2 l1_3 l1_4 a1_5) else (laws_qdMem.j0 k true l0_0 l0_1 l0_2 l0_3 l0_4 a0_5 l1_0 l1_1 l1_2 l1_3 l1_4 a1_5)) else (laws_qdMem.j0 k true l0_0 l0_1 l0_2 l0_3 l0_4 a0_5 l1_0 l1_1 l1_2 l1_3 l1_4 a1_5))) = some r := by rw [if_pos rfl] at H; exact H
   clear H
   have H := H1
   clear H1
   replace H := Option.bind_eq_some_iff.mp H
   obtain ⟨t147, A80, H⟩ := H
   replace H : (if t147 = true then (if a0_5 = a1_5 then (laws_qdMem.j0 k ((l0_4.length : Int) != (l1_4.length : Int)) l0_0 l0_1 l0_2 l0_3 l0_4 a0_5 l1_0 l1_1 l1_2 l1_3 l1_4 a1_5) else (laws_qdMem.j0 k true l0_0 l0_1 l0_2 l0_3 l0_4 a0_5 l1_0 l1_1 l1_2 l1_3 l1_4 a1_5)) else (laws_qdMem.j0 k true l0_0 l0_1 l0_2 l0_3 l0_4 a0_5 l1_0 l1_1 l1_2 l1_3 l1_4 a1_5)) = some r := H
   have A8 := Am A80
   clear A80
   by_cases c9 : t147 = true
   ·subst c9
    have H1 : (if a0_5 = a1_5 then (laws_qdMem.j0 k ((l0_4.length : Int) != (l1_4.length : Int)) l0_0 l0_1 l0_2 l0_3 l0_4 a0_5 l1_0 l1_1 l1_2 l1_3 l1_4 a1_5) else (laws_qdMem.j0 k true l0_0 l0_1 l0_2 l0_3 l0_4 a0_5 l1_0 l1_1 l1_2 l1_3 l1_4 a1_5)) = some r := by rw [if_pos rfl] at H; exact H
    clear H
    have H := H1
    clear H1
    by_cases c10 : a0_5 = a1_5
    ·rw [if_pos c10] at H
     have c10b0 : (a0_5 == a1_5) = true := beq_iff_eq.mpr c10
     have c10b1 : (a0_5 != a1_5) = false := bne_eq_false_iff_eq.mpr c10
     clear c10
     (first | rw [c10b0] | (simp only [i64_w, i32_w]; rw [c10b0]) | skip)
     have H' := Am H
     clear H
     have hnb11 := NB144_145.out
     have hnc11 := NB145_144.out
     have hcz12_0 : w5.cell? ⟨gb144, 0, none⟩ = some (.slice A0_0 l0_0.length c0_0) := (bC BK144.out 0).trans rfl
     have hcz12_1 : w5.cell? ⟨gb144, 1, none⟩ = some (.slice A0_1 l0_1.length c0_1) := (bC BK144.out 1).trans rfl
     have hcz12_2 : w5.cell? ⟨gb144, 2, none⟩ = some (.slice A0_2 l0_2.length c0_2) := (bC BK144.out 2).trans rfl
     have hcz12_3 : w5.cell? ⟨gb144, 3, none⟩ = some (.slice A0_3 l0_3.length c0_3) := (bC BK144.out 3).trans rfl
     have hcz12_4 : w5.cell? ⟨gb144, 4, none⟩ = some (.slice A0_4 l0_4.length c0_4) := (bC BK144.out 4).trans rfl
     have hcz12_5 : w5.cell? ⟨gb144, 5, none⟩ = some (.int .i64 a0_5) := (bC BK144.out 5).trans rfl
     have hfz12_0 := bF BK144.out 0
     have hfz12_1 := bF BK144.out 1
     have hfz12_2 := bF BK144.out 2
     have hfz12_3 := bF BK144.out 3
     have hfz12_4 := bF BK144.out 4
     have hfz12_5 := bF BK144.out 5
     have hcz13_0 : w5.cell? ⟨gb145, 0, none⟩ = some (.slice A1_0 l1_0.length c1_0) := (bC BK145.out 0).trans rfl
     have hcz13_1 : w5.cell? ⟨gb145, 1, none⟩ = some (.slice A1_1 l1_1.length c1_1) := (bC BK145.out 1).trans rfl
     have hcz13_2 : w5.cell? ⟨gb145, 2, none⟩ = some (.slice A1_2 l1_2.length c1_2) := (bC BK145.out 2).trans rfl
     have hcz13_3 : w5.cell? ⟨gb145, 3, none⟩ = some (.slice A1_3 l1_3.length c1_3) := (bC BK145.out 3).trans rfl
     have hcz13_4 : w5.cell? ⟨gb145, 4, none⟩ = some (.slice A1_4 l1_4.length c1_4) := (bC BK145.out 4).trans rfl
     have hcz13_5 : w5.cell? ⟨gb145, 5, none⟩ = some (.int .i64 a1_5) := (bC BK145.out 5).trans rfl
     have hfz13_0 := bF BK145.out 0
     have hfz13_1 := bF BK145.out 1
     have hfz13_2 := bF BK145.out 2
     have hfz13_3 := bF BK145.out 3
     have hfz13_4 := bF BK145.out 4
     have hfz13_5 := bF BK145.out 5
     go_wp2_with (first | ((with_reducible refine gate_callee (f := 30) rfl ?_); refine goesL_ (some 10) rfl rfl Try.func30 (by kernel_rfl) rfl #[.agg #[.slice A0_0 l0_0.length c0_0, .slice A0_1 l0_1.length c0_1], .agg #[.slice A1_0 l1_0.length c1_0, .slice A1_1 l1_1.length c1_1]] rfl (by (try simp only [lM, lC, lN]); first | done | rfl | (simp only [lD, lT]; rfl)) ?_; (with_reducible refine (laws_qdPages.calls k _ _ l0_0 _ _ l0_1 _ _ l1_0 _ _ l1_1 true _ ?side1 ?side2 ?side3 ?side4 ?side5 ?side6 ?side7 ?side8 A6.out).mono ?_); (case side1 => repeat (first | exact (cB HR0_0.out HB.out) | (with_reducible refine cA ?_ _) | (with_reducible refine cN ?_ _) | (with_reducible refine cD ?_))); (case side2 => exact HC0_0.out); (case side3 => repeat (first | exact (cB HR0_1.out HB.out) | (with_reducible refine cA ?_ _) | (with_reducible refine cN ?_ _) | (with_reducible refine cD ?_))); (case side4 => exact HC0_1.out); (case side5 => repeat (first | exact (cB HR1_0.out HB.out) | (with_reducible refine cA ?_ _) | (with_reducible refine cN ?_ _) | (with_reducible refine cD ?_))); (case side6 => exact HC1_0.out); (case side7 => repeat (first | exact (cB HR1_1.out HB.out) | (with_reducible refine cA ?_ _) | (with_reducible refine cN ?_ _) | (with_reducible refine cD ?_))); (case side8 => exact HC1_1.out); rintro e w14 ⟨rfl, hb⟩; refine ⟨_, rfl, ?_⟩; have n0_ := Am (bB (g := gb144) (o := .cells #[.slice A0_0 l0_0.length c0_0, .slice A0_1 l0_1.length c0_1, .slice A0_2 l0_2.length c0_2, .slice A0_3 l0_3.length c0_3, .slice A0_4 l0_4.length c0_4, .int .i64 a0_5] 38 (0, 0)) (by (with_reducible repeat (first | refine bN ?_ _ | refine bD ?_ | refine bA ?_ _)); exact BK144.out) hb); have n1_ := Am (bB (g := gb145) (o := .cells #[.slice A1_0 l1_0.length c1_0, .slice A1_1 l1_1.length c1_1, .slice A1_2 l1_2.length c1_2, .slice A1_3 l1_3.length c1_3, .slice A1_4 l1_4.length c1_4, .int .i64 a1_5] 38 (0, 0)) (by (with_reducible repeat (first | refine bN ?_ _ | refine bD ?_ | refine bA ?_ _)); exact BK145.out) hb); have n2_ := Am (bP (by repeat (first | (with_reducible first | exact HB.out | apply oA | apply pN | apply o1 | refine bS ?_ GE144.out | refine bS ?_ GE145.out) | exact HB.out)) hb); clear BK144; clear BK145; clear HB; have BK144 := n0_; have BK145 := n1_; have HB := n2_; clear n0_ n1_ n2_; (try clear hb); (try clear hb2); (try clear hk); (try clear hi); have hcz15_0 : w14.cell? ⟨gb144, 0, none⟩ = some (.slice A0_0 l0_0.length c0_0) := (bC BK144.out 0).trans rfl; have hcz15_1 : w14.cell? ⟨gb144, 1, none⟩ = some (.slice A0_1 l0_1.length c0_1) := (bC BK144.out 1).trans rfl; have hcz15_2 : w14.cell? ⟨gb144, 2, none⟩ = some (.slice A0_2 l0_2.length c0_2) := (bC BK144.out 2).trans rfl; have hcz15_3 : w14.cell? ⟨gb144, 3, none⟩ = some (.slice A0_3 l0_3.length c0_3) := (bC BK144.out 3).trans rfl; have hcz15_4 : w14.cell? ⟨gb144, 4, none⟩ = some (.slice A0_4 l0_4.length c0_4) := (bC BK144.out 4).trans rfl; have hcz15_5 : w14.cell? ⟨gb144, 5, none⟩ = some (.int .i64 a0_5) := (bC BK144.out 5).trans rfl; have hfz15_0 := bF BK144.out 0; have hfz15_1 := bF BK144.out 1; have hfz15_2 := bF BK144.out 2; have hfz15_3 := bF BK144.out 3; have hfz15_4 := bF BK144.out 4; have hfz15_5 := bF BK144.out 5; have hcz16_0 : w14.cell? ⟨gb145, 0, none⟩ = some (.slice A1_0 l1_0.length c1_0) := (bC BK145.out 0).trans rfl; have hcz16_1 : w14.cell? ⟨gb145, 1, none⟩ = some (.slice A1_1 l1_1.length c1_1) := (bC BK145.out 1).trans rfl; have hcz16_2 : w14.cell? ⟨gb145, 2, none⟩ = some (.slice A1_2 l1_2.length c1_2) := (bC BK145.out 2).trans rfl; have hcz16_3 : w14.cell? ⟨gb145, 3, none⟩ = some (.slice A1_3 l1_3.length c1_3) := (bC BK145.out 3).trans rfl; have hcz16_4 : w14.cell? ⟨gb145, 4, none⟩ = some (.slice A1_4 l1_4.length c1_4) := (bC BK145.out 4).trans rfl; have hcz16_5 : w14.cell? ⟨gb145, 5, none⟩ = some (.int .i64 a1_5) := (bC BK145.out 5).trans rfl; have hfz16_0 := bF BK145.out 0; have hfz16_1 := bF BK145.out 1; have hfz16_2 := bF BK145.out 2; have hfz16_3 := bF BK145.out 3; have hfz16_4 := bF BK145.out 4; have hfz16_5 := bF BK145.out 5) | (go_at_call 30; (with_reducible refine (laws_qdPages.calls k _ _ l0_2 _ _ l0_3 _ _ l1_2 _ _ l1_3 true _ ?side1 ?side2 ?side3 ?side4 ?side5 ?side6 ?side7 ?side8 A8.out).mono ?_); (case side1 => repeat (first | exact (cB HR0_2.out HB.out) | (with_reducible refine cA ?_ _) | (with_reducible refine cN ?_ _) | (with_reducible refine cD ?_))); (case side2 => exact HC0_2.out); (case side3 => repeat (first | exact (cB HR0_3.out HB.out) | (with_reducible refine cA ?_ _) | (with_reducible refine cN ?_ _) | (with_reducible refine cD ?_))); (case side4 => exact HC0_3.out); (case side5 => repeat (first | exact (cB HR1_2.out HB.out) | (with_reducible refine cA ?_ _) | (with_reducible refine cN ?_ _) | (with_reducible refine cD ?_))); (case side6 => exact HC1_2.out); (case side7 => repeat (first | exact (cB HR1_3.out HB.out) | (with_reducible refine cA ?_ _) | (with_reducible refine cN ?_ _) | (with_reducible refine cD ?_))); (case side8 => exact HC1_3.out); rintro e w17 ⟨rfl, hb⟩; have n0_ := Am (bB (g := gb144) (o := .cells #[.slice A0_0 l0_0.length c0_0, .slice A0_1 l0_1.length c0_1, .slice A0_2 l0_2.length c0_2, .slice A0_3 l0_3.length c0_3, .slice A0_4 l0_4.length c0_4, .int .i64 a0_5] 38 (0, 0)) (by (with_reducible repeat (first | refine bN ?_ _ | refine bD ?_ | refine bA ?_ _)); exact BK144.out) hb); have n1_ := Am (bB (g := gb145) (o := .cells #[.slice A1_0 l1_0.length c1_0, .slice A1_1 l1_1.length c1_1, .slice A1_2 l1_2.length c1_2, .slice A1_3 l1_3.length c1_3, .slice A1_4 l1_4.length c1_4, .int .i64 a1_5] 38 (0, 0)) (by (with_reducible repeat (first | refine bN ?_ _ | refine bD ?_ | refine bA ?_ _)); exact BK145.out) hb); have n2_ := Am (bP (by repeat (first | (with_reducible first | exact HB.out | apply oA | apply pN | apply o1 | refine bS ?_ GE144.out | refine bS ?_ GE145.out) | exact HB.out)) hb); clear BK144; clear BK145; clear HB; have BK144 := n0_; have BK145 := n1_; have HB := n2_; clear n0_ n1_ n2_; (try clear hb); (try clear hb2); (try clear hk); (try clear hi); have hcz18_0 : w17.cell? ⟨gb144, 0, none⟩ = some (.slice A0_0 l0_0.length c0_0) := (bC BK144.out 0).trans rfl; have hcz18_1 : w17.cell? ⟨gb144, 1, none⟩ = some (.slice A0_1 l0_1.length c0_1) := (bC BK144.out 1).trans rfl; have hcz18_2 : w17.cell? ⟨gb144, 2, none⟩ = some (.slice A0_2 l0_2.length c0_2) := (bC BK144.out 2).trans rfl; have hcz18_3 : w17.cell? ⟨gb144, 3, none⟩ = some (.slice A0_3 l0_3.length c0_3) := (bC BK144.out 3).trans rfl; have hcz18_4 : w17.cell? ⟨gb144, 4, none⟩ = some (.slice A0_4 l0_4.length c0_4) := (bC BK144.out 4).trans rfl; have hcz18_5 : w17.cell? ⟨gb144, 5, none⟩ = some (.int .i64 a0_5) := (bC BK144.out 5).trans rfl; have hfz18_0 := bF BK144.out 0; have hfz18_1 := bF BK144.out 1; have hfz18_2 := bF BK144.out 2; have hfz18_3 := bF BK144.out 3; have hfz18_4 := bF BK144.out 4; have hfz18_5 := bF BK144.out 5; have hcz19_0 : w17.cell? ⟨gb145, 0, none⟩ = some (.slice A1_0 l1_0.length c1_0) := (bC BK145.out 0).trans rfl; have hcz19_1 : w17.cell? ⟨gb145, 1, none⟩ = some (.slice A1_1 l1_1.length c1_1) := (bC BK145.out 1).trans rfl; have hcz19_2 : w17.cell? ⟨gb145, 2, none⟩ = some (.slice A1_2 l1_2.length c1_2) := (bC BK145.out 2).trans rfl; have hcz19_3 : w17.cell? ⟨gb145, 3, none⟩ = some (.slice A1_3 l1_3.length c1_3) := (bC BK145.out 3).trans rfl; have hcz19_4 : w17.cell? ⟨gb145, 4, none⟩ = some (.slice A1_4 l1_4.length c1_4) := (bC BK145.out 4).trans rfl; have hcz19_5 : w17.cell? ⟨gb145, 5, none⟩ = some (.int .i64 a1_5) := (bC BK145.out 5).trans rfl; have hfz19_0 := bF BK145.out 0; have hfz19_1 := bF BK145.out 1; have hfz19_2 := bF BK145.out 2; have hfz19_3 := bF BK145.out 3; have hfz19_4 := bF BK145.out 4; have hfz19_5 := bF BK145.out 5))
     go_meet
     case rel => exact ⟨_, (((l0_4.length : Int) != (l1_4.length : Int))), (by first | rfl | (simp; done) | (simp [*]; done)), H', ⟨by first | omega | exact Nat.le_refl _⟩, ⟨by (with_reducible repeat (first | refine bN ?_ _ | refine bD ?_ | refine bA ?_ _)); exact BK144.out⟩, ⟨by (with_reducible repeat (first | refine bN ?_ _ | refine bD ?_ | refine bA ?_ _)); exact BK145.out⟩, ⟨by repeat (first | (with_reducible first | exact HB.out | apply oA | apply pN | apply o1 | refine bS ?_ GE144.out | refine bS ?_ GE145.out) | exact HB.out)⟩⟩
    ·rw [if_neg c10] at H
     have c10b0 : (a0_5 == a1_5) = false := beq_eq_false_iff_ne.mpr c10
     have c10b1 : (a0_5 != a1_5) = true := bne_iff_ne.mpr c10
     (first | rw [c10b0] | (simp only [i64_w, i32_w]; rw [c10b0]) | skip)
     have H' := Am H
     clear H
     have hnb20 := NB144_145.out
     have hnc20 := NB145_144.out
     have hcz21_0 : w5.cell? ⟨gb144, 0, none⟩ = some (.slice A0_0 l0_0.length c0_0) := (bC BK144.out 0).trans rfl
     have hcz21_1 : w5.cell? ⟨gb144, 1, none⟩ = some (.slice A0_1 l0_1.length c0_1) := (bC BK144.out 1).trans rfl
     have hcz21_2 : w5.cell? ⟨gb144, 2, none⟩ = some (.slice A0_2 l0_2.length c0_2) := (bC BK144.out 2).trans rfl
     have hcz21_3 : w5.cell? ⟨gb144, 3, none⟩ = some (.slice A0_3 l0_3.length c0_3) := (bC BK144.out 3).trans rfl
     have hcz21_4 : w5.cell? ⟨gb144, 4, none⟩ = some (.slice A0_4 l0_4.length c0_4) := (bC BK144.out 4).trans rfl
     have hcz21_5 : w5.cell? ⟨gb144, 5, none⟩ = some (.int .i64 a0_5) := (bC BK144.out 5).trans rfl
     have hfz21_0 := bF BK144.out 0
     have hfz21_1 := bF BK144.out 1
     have hfz21_2 := bF BK144.out 2
     have hfz21_3 := bF BK144.out 3
     have hfz21_4 := bF BK144.out 4
     have hfz21_5 := bF BK144.out 5
     have hcz22_0 : w5.cell? ⟨gb145, 0, none⟩ = some (.slice A1_0 l1_0.length c1_0) := (bC BK145.out 0).trans rfl
     have hcz22_1 : w5.cell? ⟨gb145, 1, none⟩ = some (.slice A1_1 l1_1.length c1_1) := (bC BK145.out 1).trans rfl
     have hcz22_2 : w5.cell? ⟨gb145, 2, none⟩ = some (.slice A1_2 l1_2.length c1_2) := (bC BK145.out 2).trans rfl
     have hcz22_3 : w5.cell? ⟨gb145, 3, none⟩ = some (.slice A1_3 l1_3.length c1_3) := (bC BK145.out 3).trans rfl
     have hcz22_4 : w5.cell? ⟨gb145, 4, none⟩ = some (.slice A1_4 l1_4.length c1_4) := (bC BK145.out 4).trans rfl
     have hcz22_5 : w5.cell? ⟨gb145, 5, none⟩ = some (.int .i64 a1_5) := (bC BK145.out 5).trans rfl
     have hfz22_0 := bF BK145.out 0
     have hfz22_1 := bF BK145.out 1
     have hfz22_2 := bF BK145.out 2
     have hfz22_3 := bF BK145.out 3
     have hfz22_4 := bF BK145.out 4
     have hfz22_5 := bF BK145.out 5
     go_wp2_with (first | ((with_reducible refine gate_callee (f := 30) rfl ?_); refine goesL_ (some 10) rfl rfl Try.func30 (by kernel_rfl) rfl #[.agg #[.slice A0_0 l0_0.length c0_0, .slice A0_1 l0_1.length c0_1], .agg #[.slice A1_0 l1_0.length c1_0, .slice A1_1 l1_1.length c1_1]] rfl (by (try simp only [lM, lC, lN]); first | done | rfl | (simp only [lD, lT]; rfl)) ?_; (with_reducible refine (laws_qdPages.calls k _ _ l0_0 _ _ l0_1 _ _ l1_0 _ _ l1_1 true _ ?side1 ?side2 ?side3 ?side4 ?side5 ?side6 ?side7 ?side8 A6.out).mono ?_); (case side1 => repeat (first | exact (cB HR0_0.out HB.out) | (with_reducible refine cA ?_ _) | (with_reducible refine cN ?_ _) | (with_reducible refine cD ?_))); (case side2 => exact HC0_0.out); (case side3 => repeat (first | exact (cB HR0_1.out HB.out) | (with_reducible refine cA ?_ _) | (with_reducible refine cN ?_ _) | (with_reducible refine cD ?_))); (case side4 => exact HC0_1.out); (case side5 => repeat (first | exact (cB HR1_0.out HB.out) | (with_reducible refine cA ?_ _) | (with_reducible refine cN ?_ _) | (with_reducible refine cD ?_))); (case side6 => exact HC1_0.out); (case side7 => repeat (first | exact (cB HR1_1.out HB.out) | (with_reducible refine cA ?_ _) | (with_reducible refine cN ?_ _) | (with_reducible refine cD ?_))); (case side8 => exact HC1_1.out); rintro e w23 ⟨rfl, hb⟩; refine ⟨_, rfl, ?_⟩; have n0_ := Am (bB (g := gb144) (o := .cells #[.slice A0_0 l0_0.length c0_0, .slice A0_1 l0_1.length c0_1, .slice A0_2 l0_2.length c0_2, .slice A0_3 l0_3.length c0_3, .slice A0_4 l0_4.length c0_4, .int .i64 a0_5] 38 (0, 0)) (by (with_reducible repeat (first | refine bN ?_ _ | refine bD ?_ | refine bA ?_ _)); exact BK144.out) hb); have n1_ := Am (bB (g := gb145) (o := .cells #[.slice A1_0 l1_0.length c1_0, .slice A1_1 l1_1.length c1_1, .slice A1_2 l1_2.length c1_2, .slice A1_3 l1_3.length c1_3, .slice A1_4 l1_4.length c1_4, .int .i64 a1_5] 38 (0, 0)) (by (with_reducible repeat (first | refine bN ?_ _ | refine bD ?_ | refine bA ?_ _)); exact BK145.out) hb); have n2_ := Am (bP (by repeat (first | (with_reducible first | exact HB.out | apply oA | apply pN | apply o1 | refine bS ?_ GE144.out | refine bS ?_ GE145.out) | exact HB.out)) hb); clear BK144; clear BK145; clear HB; have BK144 := n0_; have BK145 := n1_; have HB := n2_; clear n0_ n1_ n2_; (try clear hb); (try clear hb2); (try clear hk); (try clear hi); have hcz24_0 : w23.cell? ⟨gb144, 0, none⟩ = some (.slice A0_0 l0_0.length c0_0) := (bC BK144.out 0).trans rfl; have hcz24_1 : w23.cell? ⟨gb144, 1, none⟩ = some (.slice A0_1 l0_1.length c0_1) := (bC BK144.out 1).trans rfl; have hcz24_2 : w23.cell? ⟨gb144, 2, none⟩ = some (.slice A0_2 l0_2.length c0_2) := (bC BK144.out 2).trans rfl; have hcz24_3 : w23.cell? ⟨gb144, 3, none⟩ = some (.slice A0_3 l0_3.length c0_3) := (bC BK144.out 3).trans rfl; have hcz24_4 : w23.cell? ⟨gb144, 4, none⟩ = some (.slice A0_4 l0_4.length c0_4) := (bC BK144.out 4).trans rfl; have hcz24_5 : w23.cell? ⟨gb144, 5, none⟩ = some (.int .i64 a0_5) := (bC BK144.out 5).trans rfl; have hfz24_0 := bF BK144.out 0; have hfz24_1 := bF BK144.out 1; have hfz24_2 := bF BK144.out 2; have hfz24_3 := bF BK144.out 3; have hfz24_4 := bF BK144.out 4; have hfz24_5 := bF BK144.out 5; have hcz25_0 : w23.cell? ⟨gb145, 0, none⟩ = some (.slice A1_0 l1_0.length c1_0) := (bC BK145.out 0).trans rfl; have hcz25_1 : w23.cell? ⟨gb145, 1, none⟩ = some (.slice A1_1 l1_1.length c1_1) := (bC BK145.out 1).trans rfl; have hcz25_2 : w23.cell? ⟨gb145, 2, none⟩ = some (.slice A1_2 l1_2.length c1_2) := (bC BK145.out 2).trans rfl; have hcz25_3 : w23.cell? ⟨gb145, 3, none⟩ = some (.slice A1_3 l1_3.length c1_3) := (bC BK145.out 3).trans rfl; have hcz25_4 : w23.cell? ⟨gb145, 4, none⟩ = some (.slice A1_4 l1_4.length c1_4) := (bC BK145.out 4).trans rfl; have hcz25_5 : w23.cell? ⟨gb145, 5, none⟩ = some (.int .i64 a1_5) := (bC BK145.out 5).trans rfl; have hfz25_0 := bF BK145.out 0; have hfz25_1 := bF BK145.out 1; have hfz25_2 := bF BK145.out 2; have hfz25_3 := bF BK145.out 3; have hfz25_4 := bF BK145.out 4; have hfz25_5 := bF BK145.out 5) | (go_at_call 30; (with_reducible refine (laws_qdPages.calls k _ _ l0_2 _ _ l0_3 _ _ l1_2 _ _ l1_3 true _ ?side1 ?side2 ?side3 ?side4 ?side5 ?side6 ?side7 ?side8 A8.out).mono ?_); (case side1 => repeat (first | exact (cB HR0_2.out HB.out) | (with_reducible refine cA ?_ _) | (with_reducible refine cN ?_ _) | (with_reducible refine cD ?_))); (case side2 => exact HC0_2.out); (case side3 => repeat (first | exact (cB HR0_3.out HB.out) | (with_reducible refine cA ?_ _) | (with_reducible refine cN ?_ _) | (with_reducible refine cD ?_))); (case side4 => exact HC0_3.out); (case side5 => repeat (first | exact (cB HR1_2.out HB.out) | (with_reducible refine cA ?_ _) | (with_reducible refine cN ?_ _) | (with_reducible refine cD ?_))); (case side6 => exact HC1_2.out); (case side7 => repeat (first | exact (cB HR1_3.out HB.out) | (with_reducible refine cA ?_ _) | (with_reducible refine cN ?_ _) | (with_reducible refine cD ?_))); (case side8 => exact HC1_3.out); rintro e w26 ⟨rfl, hb⟩; have n0_ := Am (bB (g := gb144) (o := .cells #[.slice A0_0 l0_0.length c0_0, .slice A0_1 l0_1.length c0_1, .slice A0_2 l0_2.length c0_2, .slice A0_3 l0_3.length c0_3, .slice A0_4 l0_4.length c0_4, .int .i64 a0_5] 38 (0, 0)) (by (with_reducible repeat (first | refine bN ?_ _ | refine bD ?_ | refine bA ?_ _)); exact BK144.out) hb); have n1_ := Am (bB (g := gb145) (o := .cells #[.slice A1_0 l1_0.length c1_0, .slice A1_1 l1_1.length c1_1, .slice A1_2 l1_2.length c1_2, .slice A1_3 l1_3.length c1_3, .slice A1_4 l1_4.length c1_4, .int .i64 a1_5] 38 (0, 0)) (by (with_reducible repeat (first | refine bN ?_ _ | refine bD ?_ | refine bA ?_ _)); exact BK145.out) hb); have n2_ := Am (bP (by repeat (first | (with_reducible first | exact HB.out | apply oA | apply pN | apply o1 | refine bS ?_ GE144.out | refine bS ?_ GE145.out) | exact HB.out)) hb); clear BK144; clear BK145; clear HB; have BK144 := n0_; have BK145 := n1_; have HB := n2_; clear n0_ n1_ n2_; (try clear hb); (try clear hb2); (try clear hk); (try clear hi); have hcz27_0 : w26.cell? ⟨gb144, 0, none⟩ = some (.slice A0_0 l0_0.length c0_0) := (bC BK144.out 0).trans rfl; have hcz27_1 : w26.cell? ⟨gb144, 1, none⟩ = some (.slice A0_1 l0_1.length c0_1) := (bC BK144.out 1).trans rfl; have hcz27_2 : w26.cell? ⟨gb144, 2, none⟩ = some (.slice A0_2 l0_2.length c0_2) := (bC BK144.out 2).trans rfl; have hcz27_3 : w26.cell? ⟨gb144, 3, none⟩ = some (.slice A0_3 l0_3.length c0_3) := (bC BK144.out 3).trans rfl; have hcz27_4 : w26.cell? ⟨gb144, 4, none⟩ = some (.slice A0_4 l0_4.length c0_4) := (bC BK144.out 4).trans rfl; have hcz27_5 : w26.cell? ⟨gb144, 5, none⟩ = some (.int .i64 a0_5) := (bC BK144.out 5).trans rfl; have hfz27_0 := bF BK144.out 0; have hfz27_1 := bF BK144.out 1; have hfz27_2 := bF BK144.out 2; have hfz27_3 := bF BK144.out 3; have hfz27_4 := bF BK144.out 4; have hfz27_5 := bF BK144.out 5; have hcz28_0 : w26.cell? ⟨gb145, 0, none⟩ = some (.slice A1_0 l1_0.length c1_0) := (bC BK145.out 0).trans rfl; have hcz28_1 : w26.cell? ⟨gb145, 1, none⟩ = some (.slice A1_1 l1_1.length c1_1) := (bC BK145.out 1).trans rfl; have hcz28_2 : w26.cell? ⟨gb145, 2, none⟩ = some (.slice A1_2 l1_2.length c1_2) := (bC BK145.out 2).trans rfl; have hcz28_3 : w26.cell? ⟨gb145, 3, none⟩ = some (.slice A1_3 l1_3.length c1_3) := (bC BK145.out 3).trans rfl; have hcz28_4 : w26.cell? ⟨gb145, 4, none⟩ = some (.slice A1_4 l1_4.length c1_4) := (bC BK145.out 4).trans rfl; have hcz28_5 : w26.cell? ⟨gb145, 5, none⟩ = some (.int .i64 a1_5) := (bC BK145.out 5).trans rfl; have hfz28_0 := bF BK145.out 0; have hfz28_1 := bF BK145.out 1; have hfz28_2 := bF BK145.out 2; have hfz28_3 := bF BK145.out 3; have hfz28_4 := bF BK145.out 4; have hfz28_5 := bF BK145.out 5))
     go_meet
     case rel => exact ⟨_, (true), (by first | rfl | (simp; done) | (simp [*]; done)), H', ⟨by first | omega | exact Nat.le_refl _⟩, ⟨by (with_reducible repeat (first | refine bN ?_ _ | refine bD ?_ | refine bA ?_ _)); exact BK144.out⟩, ⟨by (with_reducible repeat (first | refine bN ?_ _ | refine bD ?_ | refine bA ?_ _)); exact BK145.out⟩, ⟨by repeat (first | (with_reducible first | exact HB.out | apply oA | apply pN | apply o1 | refine bS ?_ GE144.out | refine bS ?_ GE145.out) | exact HB.out)⟩⟩
   ·replace c9 := Bool.eq_false_iff.mpr c9
    subst c9
    have H1 : (laws_qdMem.j0 k true l0_0 l0_1 l0_2 l0_3 l0_4 a0_5 l1_0 l1_1 l1_2 l1_3 l1_4 a1_5) = some r := by rw [if_neg (show ¬ (false = true) by decide)] at H; exact H
    clear H
    have H := H1
    clear H1
    have H' := Am H
    clear H
    have hnb29 := NB144_145.out
    have hnc29 := NB145_144.out
    have hcz30_0 : w5.cell? ⟨gb144, 0, none⟩ = some (.slice A0_0 l0_0.length c0_0) := (bC BK144.out 0).trans rfl
    have hcz30_1 : w5.cell? ⟨gb144, 1, none⟩ = some (.slice A0_1 l0_1.length c0_1) := (bC BK144.out 1).trans rfl
    have hcz30_2 : w5.cell? ⟨gb144, 2, none⟩ = some (.slice A0_2 l0_2.length c0_2) := (bC BK144.out 2).trans rfl
    have hcz30_3 : w5.cell? ⟨gb144, 3, none⟩ = some (.slice A0_3 l0_3.length c0_3) := (bC BK144.out 3).trans rfl
    have hcz30_4 : w5.cell? ⟨gb144, 4, none⟩ = some (.slice A0_4 l0_4.length c0_4) := (bC BK144.out 4).trans rfl
    have hcz30_5 : w5.cell? ⟨gb144, 5, none⟩ = some (.int .i64 a0_5) := (bC BK144.out 5).trans rfl
    have hfz30_0 := bF BK144.out 0
    have hfz30_1 := bF BK144.out 1
    have hfz30_2 := bF BK144.out 2
    have hfz30_3 := bF BK144.out 3
    have hfz30_4 := bF BK144.out 4
    have hfz30_5 := bF BK144.out 5
    have hcz31_0 : w5.cell? ⟨gb145, 0, none⟩ = some (.slice A1_0 l1_0.length c1_0) := (bC BK145.out 0).trans rfl
    have hcz31_1 : w5.cell? ⟨gb145, 1, none⟩ = some (.slice A1_1 l1_1.length c1_1) := (bC BK145.out 1).trans rfl
    have hcz31_2 : w5.cell? ⟨gb145, 2, none⟩ = some (.slice A1_2 l1_2.length c1_2) := (bC BK145.out 2).trans rfl
    have hcz31_3 : w5.cell? ⟨gb145, 3, none⟩ = some (.slice A1_3 l1_3.length c1_3) := (bC BK145.out 3).trans rfl
    have hcz31_4 : w5.cell? ⟨gb145, 4, none⟩ = some (.slice A1_4 l1_4.length c1_4) := (bC BK145.out 4).trans rfl
    have hcz31_5 : w5.cell? ⟨gb145, 5, none⟩ = some (.int .i64 a1_5) := (bC BK145.out 5).trans rfl
    have hfz31_0 := bF BK145.out 0
    have hfz31_1 := bF BK145.out 1
    have hfz31_2 := bF BK145.out 2
    have hfz31_3 := bF BK145.out 3
    have hfz31_4 := bF BK145.out 4
    have hfz31_5 := bF BK145.out 5
    go_wp2_with (first | ((with_reducible refine gate_callee (f := 30) rfl ?_); refine goesL_ (some 10) rfl rfl Try.func30 (by kernel_rfl) rfl #[.agg #[.slice A0_0 l0_0.length c0_0, .slice A0_1 l0_1.length c0_1], .agg #[.slice A1_0 l1_0.length c1_0, .slice A1_1 l1_1.length c1_1]] rfl (by (try simp only [lM, lC, lN]); first | done | rfl | (simp only [lD, lT]; rfl)) ?_; (with_reducible refine (laws_qdPages.calls k _ _ l0_0 _ _ l0_1 _ _ l1_0 _ _ l1_1 true _ ?side1 ?side2 ?side3 ?side4 ?side5 ?side6 ?side7 ?side8 A6.out).mono ?_); (case side1 => repeat (first | exact (cB HR0_0.out HB.out) | (with_reducible refine cA ?_ _) | (with_reducible refine cN ?_ _) | (with_reducible refine cD ?_))); (case side2 => exact HC0_0.out); (case side3 => repeat (first | exact (cB HR0_1.out HB.out) | (with_reducible refine cA ?_ _) | (with_reducible refine cN ?_ _) | (with_reducible refine cD ?_))); (case side4 => exact HC0_1.out); (case side5 => repeat (first | exact (cB HR1_0.out HB.out) | (with_reducible refine cA ?_ _) | (with_reducible refine cN ?_ _) | (with_reducible refine cD ?_))); (case side6 => exact HC1_0.out); (case side7 => repeat (first | exact (cB HR1_1.out HB.out) | (with_reducible refine cA ?_ _) | (with_reducible refine cN ?_ _) | (with_reducible refine cD ?_))); (case side8 => exact HC1_1.out); rintro e w32 ⟨rfl, hb⟩; refine ⟨_, rfl, ?_⟩; have n0_ := Am (bB (g := gb144) (o := .cells #[.slice A0_0 l0_0.length c0_0, .slice A0_1 l0_1.length c0_1, .slice A0_2 l0_2.length c0_2, .slice A0_3 l0_3.length c0_3, .slice A0_4 l0_4.length c0_4, .int .i64 a0_5] 38 (0, 0)) (by (with_reducible repeat (first | refine bN ?_ _ | refine bD ?_ | refine bA ?_ _)); exact BK144.out) hb); have n1_ := Am (bB (g := gb145) (o := .cells #[.slice A1_0 l1_0.length c1_0, .slice A1_1 l1_1.length c1_1, .slice A1_2 l1_2.length c1_2, .slice A1_3 l1_3.length c1_3, .slice A1_4 l1_4.length c1_4, .int .i64 a1_5] 38 (0, 0)) (by (with_reducible repeat (first | refine bN ?_ _ | refine bD ?_ | refine bA ?_ _)); exact BK145.out) hb); have n2_ := Am (bP (by repeat (first | (with_reducible first | exact HB.out | apply oA | apply pN | apply o1 | refine bS ?_ GE144.out | refine bS ?_ GE145.out) | exact HB.out)) hb); clear BK144; clear BK145; clear HB; have BK144 := n0_; have BK145 := n1_; have HB := n2_; clear n0_ n1_ n2_; (try clear hb); (try clear hb2); (try clear hk); (try clear hi); have hcz33_0 : w32.cell? ⟨gb144, 0, none⟩ = some (.slice A0_0 l0_0.length c0_0) := (bC BK144.out 0).trans rfl; have hcz33_1 : w32.cell? ⟨gb144, 1, none⟩ = some (.slice A0_1 l0_1.length c0_1) := (bC BK144.out 1).trans rfl; have hcz33_2 : w32.cell? ⟨gb144, 2, none⟩ = some (.slice A0_2 l0_2.length c0_2) := (bC BK144.out 2).trans rfl; have hcz33_3 : w32.cell? ⟨gb144, 3, none⟩ = some (.slice A0_3 l0_3.length c0_3) := (bC BK144.out 3).trans rfl; have hcz33_4 : w32.cell? ⟨gb144, 4, none⟩ = some (.slice A0_4 l0_4.length c0_4) := (bC BK144.out 4).trans rfl; have hcz33_5 : w32.cell? ⟨gb144, 5, none⟩ = some (.int .i64 a0_5) := (bC BK144.out 5).trans rfl; have hfz33_0 := bF BK144.out 0; have hfz33_1 := bF BK144.out 1; have hfz33_2 := bF BK144.out 2; have hfz33_3 := bF BK144.out 3; have hfz33_4 := bF BK144.out 4; have hfz33_5 := bF BK144.out 5; have hcz34_0 : w32.cell? ⟨gb145, 0, none⟩ = some (.slice A1_0 l1_0.length c1_0) := (bC BK145.out 0).trans rfl; have hcz34_1 : w32.cell? ⟨gb145, 1, none⟩ = some (.slice A1_1 l1_1.length c1_1) := (bC BK145.out 1).trans rfl; have hcz34_2 : w32.cell? ⟨gb145, 2, none⟩ = some (.slice A1_2 l1_2.length c1_2) := (bC BK145.out 2).trans rfl; have hcz34_3 : w32.cell? ⟨gb145, 3, none⟩ = some (.slice A1_3 l1_3.length c1_3) := (bC BK145.out 3).trans rfl; have hcz34_4 : w32.cell? ⟨gb145, 4, none⟩ = some (.slice A1_4 l1_4.length c1_4) := (bC BK145.out 4).trans rfl; have hcz34_5 : w32.cell? ⟨gb145, 5, none⟩ = some (.int .i64 a1_5) := (bC BK145.out 5).trans rfl; have hfz34_0 := bF BK145.out 0; have hfz34_1 := bF BK145.out 1; have hfz34_2 := bF BK145.out 2; have hfz34_3 := bF BK145.out 3; have hfz34_4 := bF BK145.out 4; have hfz34_5 := bF BK145.out 5) | (go_at_call 30; (with_reducible refine (laws_qdPages.calls k _ _ l0_2 _ _ l0_3 _ _ l1_2 _ _ l1_3 false _ ?side1 ?side2 ?side3 ?side4 ?side5 ?side6 ?side7 ?side8 A8.out).mono ?_); (case side1 => repeat (first | exact (cB HR0_2.out HB.out) | (with_reducible refine cA ?_ _) | (with_reducible refine cN ?_ _) | (with_reducible refine cD ?_))); (case side2 => exact HC0_2.out); (case side3 => repeat (first | exact (cB HR0_3.out HB.out) | (with_reducible refine cA ?_ _) | (with_reducible refine cN ?_ _) | (with_reducible refine cD ?_))); (case side4 => exact HC0_3.out); (case side5 => repeat (first | exact (cB HR1_2.out HB.out) | (with_reducible refine cA ?_ _) | (with_reducible refine cN ?_ _) | (with_reducible refine cD ?_))); (case side6 => exact HC1_2.out); (case side7 => repeat (first | exact (cB HR1_3.out HB.out) | (with_reducible refine cA ?_ _) | (with_reducible refine cN ?_ _) | (with_reducible refine cD ?_))); (case side8 => exact HC1_3.out); rintro e w35 ⟨rfl, hb⟩; have n0_ := Am (bB (g := gb144) (o := .cells #[.slice A0_0 l0_0.length c0_0, .slice A0_1 l0_1.length c0_1, .slice A0_2 l0_2.length c0_2, .slice A0_3 l0_3.length c0_3, .slice A0_4 l0_4.length c0_4, .int .i64 a0_5] 38 (0, 0)) (by (with_reducible repeat (first | refine bN ?_ _ | refine bD ?_ | refine bA ?_ _)); exact BK144.out) hb); have n1_ := Am (bB (g := gb145) (o := .cells #[.slice A1_0 l1_0.length c1_0, .slice A1_1 l1_1.length c1_1, .slice A1_2 l1_2.length c1_2, .slice A1_3 l1_3.length c1_3, .slice A1_4 l1_4.length c1_4, .int .i64 a1_5] 38 (0, 0)) (by (with_reducible repeat (first | refine bN ?_ _ | refine bD ?_ | refine bA ?_ _)); exact BK145.out) hb); have n2_ := Am (bP (by repeat (first | (with_reducible first | exact HB.out | apply oA | apply pN | apply o1 | refine bS ?_ GE144.out | refine bS ?_ GE145.out) | exact HB.out)) hb); clear BK144; clear BK145; clear HB; have BK144 := n0_; have BK145 := n1_; have HB := n2_; clear n0_ n1_ n2_; (try clear hb); (try clear hb2); (try clear hk); (try clear hi)))
    go_meet
    case rel => exact ⟨_, (true), (by first | rfl | (simp; done) | (simp [*]; done)), H', ⟨by first | omega | exact Nat.le_refl _⟩, ⟨by (with_reducible repeat (first | refine bN ?_ _ | refine bD ?_ | refine bA ?_ _)); exact BK144.out⟩, ⟨by (with_reducible repeat (first | refine bN ?_ _ | refine bD ?_ | refine bA ?_ _)); exact BK145.out⟩, ⟨by repeat (first | (with_reducible first | exact HB.out | apply oA | apply pN | apply o1 | refine bS ?_ GE144.out | refine bS ?_ GE145.out) | exact HB.out)⟩⟩
  ·replace c7 := Bool.eq_false_iff.mpr c7
   subst c7
   have H1 : (laws_qdMem.j0 k true l0_0 l0_1 l0_2 l0_3 l0_4 a0_5 l1_0 l1_1 l1_2 l1_3 l1_4 a1_5) = some r := by rw [if_neg (show ¬ (false = true) by decide)] at H; exact H
   clear H
   have H := H1
   clear H1
   have H' := Am H
   clear H
   have hnb36 := NB144_145.out
   have hnc36 := NB145_144.out
   have hcz37_0 : w5.cell? ⟨gb144, 0, none⟩ = some (.slice A0_0 l0_0.length c0_0) := (bC BK144.out 0).trans rfl
   have hcz37_1 : w5.cell? ⟨gb144, 1, none⟩ = some (.slice A0_1 l0_1.length c0_1) := (bC BK144.out 1).trans rfl
   have hcz37_2 : w5.cell? ⟨gb144, 2, none⟩ = some (.slice A0_2 l0_2.length c0_2) := (bC BK144.out 2).trans rfl
   have hcz37_3 : w5.cell? ⟨gb144, 3, none⟩ = some (.slice A0_3 l0_3.length c0_3) := (bC BK144.out 3).trans rfl
   have hcz37_4 : w5.cell? ⟨gb144, 4, none⟩ = some (.slice A0_4 l0_4.length c0_4) := (bC BK144.out 4).trans rfl
   have hcz37_5 : w5.cell? ⟨gb144, 5, none⟩ = some (.int .i64 a0_5) := (bC BK144.out 5).trans rfl
   have hfz37_0 := bF BK144.out 0
   have hfz37_1 := bF BK144.out 1
   have hfz37_2 := bF BK144.out 2
   have hfz37_3 := bF BK144.out 3
   have hfz37_4 := bF BK144.out 4
   have hfz37_5 := bF BK144.out 5
   have hcz38_0 : w5.cell? ⟨gb145, 0, none⟩ = some (.slice A1_0 l1_0.length c1_0) := (bC BK145.out 0).trans rfl
   have hcz38_1 : w5.cell? ⟨gb145, 1, none⟩ = some (.slice A1_1 l1_1.length c1_1) := (bC BK145.out 1).trans rfl
   have hcz38_2 : w5.cell? ⟨gb145, 2, none⟩ = some (.slice A1_2 l1_2.length c1_2) := (bC BK145.out 2).trans rfl
   have hcz38_3 : w5.cell? ⟨gb145, 3, none⟩ = some (.slice A1_3 l1_3.length c1_3) := (bC BK145.out 3).trans rfl
   have hcz38_4 : w5.cell? ⟨gb145, 4, none⟩ = some (.slice A1_4 l1_4.length c1_4) := (bC BK145.out 4).trans rfl
   have hcz38_5 : w5.cell? ⟨gb145, 5, none⟩ = some (.int .i64 a1_5) := (bC BK145.out 5).trans rfl
   have hfz38_0 := bF BK145.out 0
   have hfz38_1 := bF BK145.out 1
   have hfz38_2 := bF BK145.out 2
   have hfz38_3 := bF BK145.out 3
   have hfz38_4 := bF BK145.out 4
   have hfz38_5 := bF BK145.out 5
   go_wp2_with (first | ((with_reducible refine gate_callee (f := 30) rfl ?_); refine goesL_ (some 10) rfl rfl Try.func30 (by kernel_rfl) rfl #[.agg #[.slice A0_0 l0_0.length c0_0, .slice A0_1 l0_1.length c0_1], .agg #[.slice A1_0 l1_0.length c1_0, .slice A1_1 l1_1.length c1_1]] rfl (by (try simp only [lM, lC, lN]); first | done | rfl | (simp only [lD, lT]; rfl)) ?_; (with_reducible refine (laws_qdPages.calls k _ _ l0_0 _ _ l0_1 _ _ l1_0 _ _ l1_1 false _ ?side1 ?side2 ?side3 ?side4 ?side5 ?side6 ?side7 ?side8 A6.out).mono ?_); (case side1 => repeat (first | exact (cB HR0_0.out HB.out) | (with_reducible refine cA ?_ _) | (with_reducible refine cN ?_ _) | (with_reducible refine cD ?_))); (case side2 => exact HC0_0.out); (case side3 => repeat (first | exact (cB HR0_1.out HB.out) | (with_reducible refine cA ?_ _) | (with_reducible refine cN ?_ _) | (with_reducible refine cD ?_))); (case side4 => exact HC0_1.out); (case side5 => repeat (first | exact (cB HR1_0.out HB.out) | (with_reducible refine cA ?_ _) | (with_reducible refine cN ?_ _) | (with_reducible refine cD ?_))); (case side6 => exact HC1_0.out); (case side7 => repeat (first | exact (cB HR1_1.out HB.out) | (with_reducible refine cA ?_ _) | (with_reducible refine cN ?_ _) | (with_reducible refine cD ?_))); (case side8 => exact HC1_1.out); rintro e w39 ⟨rfl, hb⟩; refine ⟨_, rfl, ?_⟩; have n0_ := Am (bB (g := gb144) (o := .cells #[.slice A0_0 l0_0.length c0_0, .slice A0_1 l0_1.length c0_1, .slice A0_2 l0_2.length c0_2, .slice A0_3 l0_3.length c0_3, .slice A0_4 l0_4.length c0_4, .int .i64 a0_5] 38 (0, 0)) (by (with_reducible repeat (first | refine bN ?_ _ | refine bD ?_ | refine bA ?_ _)); exact BK144.out) hb); have n1_ := Am (bB (g := gb145) (o := .cells #[.slice A1_0 l1_0.length c1_0, .slice A1_1 l1_1.length c1_1, .slice A1_2 l1_2.length c1_2, .slice A1_3 l1_3.length c1_3, .slice A1_4 l1_4.length c1_4, .int .i64 a1_5] 38 (0, 0)) (by (with_reducible repeat (first | refine bN ?_ _ | refine bD ?_ | refine bA ?_ _)); exact BK145.out) hb); have n2_ := Am (bP (by repeat (first | (with_reducible first | exact HB.out | apply oA | apply pN | apply o1 | refine bS ?_ GE144.out | refine bS ?_ GE145.out) | exact HB.out)) hb); clear BK144; clear BK145; clear HB; have BK144 := n0_; have BK145 := n1_; have HB := n2_; clear n0_ n1_ n2_; (try clear hb); (try clear hb2); (try clear hk); (try clear hi)))
   go_meet
   case rel => exact ⟨_, (true), (by first | rfl | (simp; done) | (simp [*]; done)), H', ⟨by first | omega | exact Nat.le_refl _⟩, ⟨by (with_reducible repeat (first | refine bN ?_ _ | refine bD ?_ | refine bA ?_ _)); exact BK144.out⟩, ⟨by (with_reducible repeat (first | refine bN ?_ _ | refine bD ?_ | refine bA ?_ _)); exact BK145.out⟩, ⟨by repeat (first | (with_reducible first | exact HB.out | apply oA | apply pN | apply o1 | refine bS ?_ GE144.out | refine bS ?_ GE145.out) | exact HB.out)⟩⟩
 case rest =>
  clear HC3
  try clear c1
  try clear c2
  try clear p2
  try clear c3
  try clear c7
  try clear c9
  try clear c10
  try clear c10b0
  try clear c10b1
  try clear c11
  try clear c12
  try clear c20
  try clear c29
  try clear c30
  try clear c36
  try clear hcz12_0
  try clear hcz12_1
  try clear hcz12_2
  try clear hcz12_3
  try clear hcz12_4
  try clear hcz12_5
  try clear hcz13_0
  try clear hcz13_1
  try clear hcz13_2
  try clear hcz13_3
  try clear hcz13_4
  try clear hcz13_5
  try clear hcz15_0
  try clear hcz15_1
  try clear hcz15_2
  try clear hcz15_3
  try clear hcz15_4
  try clear hcz15_5
  try clear hcz16_0
  try clear hcz16_1
  try clear hcz16_2
  try clear hcz16_3
  try clear hcz16_4
  try clear hcz16_5
  try clear hcz18_0
  try clear hcz18_1
  try clear hcz18_2
  try clear hcz18_3
  try clear hcz18_4
  try clear hcz18_5
  try clear hcz19_0
  try clear hcz19_1
  try clear hcz19_2
  try clear hcz19_3
  try clear hcz19_4
  try clear hcz19_5
  try clear hcz21_0
  try clear hcz21_1
  try clear hcz21_2
  try clear hcz21_3
  try clear hcz21_4
  try clear hcz21_5
  try clear hcz22_0
  try clear hcz22_1
  try clear hcz22_2
  try clear hcz22_3
  try clear hcz22_4
  try clear hcz22_5
  try clear hcz24_0
  try clear hcz24_1
  try clear hcz24_2
  try clear hcz24_3
  try clear hcz24_4
  try clear hcz24_5
  try clear hcz25_0
  try clear hcz25_1
  try clear hcz25_2
  try clear hcz25_3
  try clear hcz25_4
  try clear hcz25_5
  try clear hcz27_0
  try clear hcz27_1
  try clear hcz27_2
  try clear hcz27_3
  try clear hcz27_4
  try clear hcz27_5
  try clear hcz28_0
  try clear hcz28_1
  try clear hcz28_2
  try clear hcz28_3
  try clear hcz28_4
  try clear hcz28_5
  try clear hcz30_0
  try clear hcz30_1
  try clear hcz30_2
  try clear hcz30_3
  try clear hcz30_4
  try clear hcz30_5
  try clear hcz31_0
  try clear hcz31_1
  try clear hcz31_2
  try clear hcz31_3
  try clear hcz31_4
  try clear hcz31_5
  try clear hcz33_0
  try clear hcz33_1
  try clear hcz33_2
  try clear hcz33_3
  try clear hcz33_4
  try clear hcz33_5
  try clear hcz34_0
  try clear hcz34_1
  try clear hcz34_2
  try clear hcz34_3
  try clear hcz34_4
  try clear hcz34_5
  try clear hcz37_0
  try clear hcz37_1
  try clear hcz37_2
  try clear hcz37_3
  try clear hcz37_4
  try clear hcz37_5
  try clear hcz38_0
  try clear hcz38_1
  try clear hcz38_2
  try clear hcz38_3
  try clear hcz38_4
  try clear hcz38_5
  try clear hfz12_0
  try clear hfz12_1
  try clear hfz12_2
  try clear hfz12_3
  try clear hfz12_4
  try clear hfz12_5
  try clear hfz13_0
  try clear hfz13_1
  try clear hfz13_2
  try clear hfz13_3
  try clear hfz13_4
  try clear hfz13_5
  try clear hfz15_0
  try clear hfz15_1
  try clear hfz15_2
  try clear hfz15_3
  try clear hfz15_4
  try clear hfz15_5
  try clear hfz16_0
  try clear hfz16_1
  try clear hfz16_2
  try clear hfz16_3
  try clear hfz16_4
  try clear hfz16_5
  try clear hfz18_0
  try clear hfz18_1
  try clear hfz18_2
  try clear hfz18_3
  try clear hfz18_4
  try clear hfz18_5
  try clear hfz19_0
  try clear hfz19_1
  try clear hfz19_2
  try clear hfz19_3
  try clear hfz19_4
  try clear hfz19_5
  try clear hfz21_0
  try clear hfz21_1
  try clear hfz21_2
  try clear hfz21_3
  try clear hfz21_4
  try clear hfz21_5
  try clear hfz22_0
  try clear hfz22_1
  try clear hfz22_2
  try clear hfz22_3
  try clear hfz22_4
  try clear hfz22_5
  try clear hfz24_0
  try clear hfz24_1
  try clear hfz24_2
  try clear hfz24_3
  try clear hfz24_4
  try clear hfz24_5
  try clear hfz25_0
  try clear hfz25_1
  try clear hfz25_2
  try clear hfz25_3
  try clear hfz25_4
  try clear hfz25_5
  try clear hfz27_0
  try clear hfz27_1
  try clear hfz27_2
  try clear hfz27_3
  try clear hfz27_4
  try clear hfz27_5
  try clear hfz28_0
  try clear hfz28_1
  try clear hfz28_2
  try clear hfz28_3
  try clear hfz28_4
  try clear hfz28_5
  try clear hfz30_0
  try clear hfz30_1
  try clear hfz30_2
  try clear hfz30_3
  try clear hfz30_4
  try clear hfz30_5
  try clear hfz31_0
  try clear hfz31_1
  try clear hfz31_2
  try clear hfz31_3
  try clear hfz31_4
  try clear hfz31_5
  try clear hfz33_0
  try clear hfz33_1
  try clear hfz33_2
  try clear hfz33_3
  try clear hfz33_4
  try clear hfz33_5
  try clear hfz34_0
  try clear hfz34_1
  try clear hfz34_2
  try clear hfz34_3
  try clear hfz34_4
  try clear hfz34_5
  try clear hfz37_0
  try clear hfz37_1
  try clear hfz37_2
  try clear hfz37_3
  try clear hfz37_4
  try clear hfz37_5
  try clear hfz38_0
  try clear hfz38_1
  try clear hfz38_2
  try clear hfz38_3
  try clear hfz38_4
  try clear hfz38_5
  obtain ⟨kq, x35_2, rfl, HA, HJ2, BK144, BK145, HB⟩ := hcut
  cases kq with
  | zero => exact absurd HA.out (by simp [laws_qdMem.j0])
  | succ kj2 =>
   have H := HA.out
   clear HA
   simp only [laws_qdMem.j0] at H
   by_cases c40 : x35_2 = true
   ·subst c40
    have H1 : (some false) = some r := by rw [if_pos rfl] at H; exact H
    clear H
    have H := H1
    clear H1
    obtain rfl := Option.some.inj H
    go_wp2
    go_ret
    exact ⟨by first | rfl | (simp [errW_none, errW_some] <;> rfl) | (simp [*, errW_none, errW_some] <;> rfl), by repeat (first | (with_reducible first | exact HB.out | apply oA | apply pN | apply o1 | refine bS ?_ GE144.out | refine bS ?_ GE145.out) | exact HB.out)⟩
   ·replace c40 := Bool.eq_false_iff.mpr c40
    subst c40
    have H1 : (laws_qdMem.l0 kj2 0 l0_0 l0_1 l0_2 l0_3 l0_4 a0_5 l1_0 l1_1 l1_2 l1_3 l1_4 a1_5) = some r := by rw [if_neg (show ¬ (false = true) by decide)] at H; exact H
    clear H
    have H := H1
    clear H1
    have H' := Am H
    clear H
    go_wp2
    go_loopg [5] kj2 (fun kq v5 w' => ∃ (x5_2 : Int), v5 = .int .i64 x5_2 ∧ Aside0 (laws_qdMem.l0 kq x5_2 l0_0 l0_1 l0_2 l0_3 l0_4 a0_5 l1_0 l1_1 l1_2 l1_3 l1_4 a1_5 = some r) ∧ Aside0 (kq ≤ kj2) ∧ Aside0 (w'.heap[gb144]? = some (.cells #[(.slice A0_0 l0_0.length c0_0), (.slice A0_1 l0_1.length c0_1), (.slice A0_2 l0_2.length c0_2), (.slice A0_3 l0_3.length c0_3), (.slice A0_4 l0_4.length c0_4), .int .i64 a0_5] 38 (0, 0))) ∧ Aside0 (w'.heap[gb145]? = some (.cells #[(.slice A1_0 l1_0.length c1_0), (.slice A1_1 l1_1.length c1_1), (.slice A1_2 l1_2.length c1_2), (.slice A1_3 l1_3.length c1_3), (.slice A1_4 l1_4.length c1_4), .int .i64 a1_5] 38 (0, 0))) ∧ Aside0 (Below w.heap.size w w'))
    case atStart => exact ⟨(0), (by first | rfl | (simp; done) | (simp [*]; done)), H', ⟨Nat.le_refl _⟩, ⟨by (with_reducible repeat (first | refine bN ?_ _ | refine bD ?_ | refine bA ?_ _)); exact BK144.out⟩, ⟨by (with_reducible repeat (first | refine bN ?_ _ | refine bD ?_ | refine bA ?_ _)); exact BK145.out⟩, ⟨by repeat (first | (with_reducible first | exact HB.out | apply oA | apply pN | apply o1 | refine bS ?_ GE144.out | refine bS ?_ GE145.out) | exact HB.out)⟩⟩
    case round =>
     clear H'
     try clear c1
     try clear c2
     try clear p2
     try clear c3
     try clear c4
     try clear c7
     try clear c9
     try clear c10
     try clear c10b0
     try clear c10b1
     try clear c11
     try clear c12
     try clear c20
     try clear c29
     try clear c30
     try clear c36
     try clear c40
     try clear hcz12_0
     try clear hcz12_1
     try clear hcz12_2
     try clear hcz12_3
     try clear hcz12_4
     try clear hcz12_5
     try clear hcz13_0
     try clear hcz13_1
     try clear hcz13_2
     try clear hcz13_3
     try clear hcz13_4
     try clear hcz13_5
     try clear hcz15_0
     try clear hcz15_1
     try clear hcz15_2
     try clear hcz15_3
     try clear hcz15_4
     try clear hcz15_5
     try clear hcz16_0
     try clear hcz16_1
     try clear hcz16_2
     try clear hcz16_3
     try clear hcz16_4
     try clear hcz16_5
     try clear hcz18_0
     try clear hcz18_1
     try clear hcz18_2
     try clear hcz18_3
     try clear hcz18_4
     try clear hcz18_5
     try clear hcz19_0
     try clear hcz19_1
     try clear hcz19_2
     try clear hcz19_3
     try clear hcz19_4
     try clear hcz19_5
     try clear hcz21_0
     try clear hcz21_1
     try clear hcz21_2
     try clear hcz21_3
     try clear hcz21_4
     try clear hcz21_5
     try clear hcz22_0
     try clear hcz22_1
     try clear hcz22_2
     try clear hcz22_3
     try clear hcz22_4
     try clear hcz22_5
     try clear hcz24_0
     try clear hcz24_1
     try clear hcz24_2
     try clear hcz24_3
     try clear hcz24_4
     try clear hcz24_5
     try clear hcz25_0
     try clear hcz25_1
     try clear hcz25_2
     try clear hcz25_3
     try clear hcz25_4
     try clear hcz25_5
     try clear hcz27_0
     try clear hcz27_1
     try clear hcz27_2
     try clear hcz27_3
     try clear hcz27_4
     try clear hcz27_5
     try clear hcz28_0
     try clear hcz28_1
     try clear hcz28_2
     try clear hcz28_3
     try clear hcz28_4
     try clear hcz28_5
     try clear hcz30_0
     try clear hcz30_1
     try clear hcz30_2
     try clear hcz30_3
     try clear hcz30_4
     try clear hcz30_5
     try clear hcz31_0
     try clear hcz31_1
     try clear hcz31_2
     try clear hcz31_3
     try clear hcz31_4
     try clear hcz31_5
     try clear hcz33_0
     try clear hcz33_1
     try clear hcz33_2
     try clear hcz33_3
     try clear hcz33_4
     try clear hcz33_5
     try clear hcz34_0
     try clear hcz34_1
     try clear hcz34_2
     try clear hcz34_3
     try clear hcz34_4
     try clear hcz34_5
     try clear hcz37_0
     try clear hcz37_1
     try clear hcz37_2
     try clear hcz37_3
     try clear hcz37_4
     try clear hcz37_5
     try clear hcz38_0
     try clear hcz38_1
     try clear hcz38_2
     try clear hcz38_3
     try clear hcz38_4
     try clear hcz38_5
     try clear hfz12_0
     try clear hfz12_1
     try clear hfz12_2
     try clear hfz12_3
     try clear hfz12_4
     try clear hfz12_5
     try clear hfz13_0
     try clear hfz13_1
     try clear hfz13_2
     try clear hfz13_3
     try clear hfz13_4
     try clear hfz13_5
     try clear hfz15_0
     try clear hfz15_1
     try clear hfz15_2
     try clear hfz15_3
     try clear hfz15_4
     try clear hfz15_5
     try clear hfz16_0
     try clear hfz16_1
     try clear hfz16_2
     try clear hfz16_3
     try clear hfz16_4
     try clear hfz16_5
     try clear hfz18_0
     try clear hfz18_1
     try clear hfz18_2
     try clear hfz18_3
     try clear hfz18_4
     try clear hfz18_5
     try clear hfz19_0
     try clear hfz19_1
     try clear hfz19_2
     try clear hfz19_3
     try clear hfz19_4
     try clear hfz19_5
     try clear hfz21_0
     try clear hfz21_1
     try clear hfz21_2
     try clear hfz21_3
     try clear hfz21_4
     try clear hfz21_5
     try clear hfz22_0
     try clear hfz22_1
     try clear hfz22_2
     try clear hfz22_3
     try clear hfz22_4
     try clear hfz22_5
     try clear hfz24_0
     try clear hfz24_1
     try clear hfz24_2
     try clear hfz24_3
     try clear hfz24_4
     try clear hfz24_5
     try clear hfz25_0
     try clear hfz25_1
     try clear hfz25_2
     try clear hfz25_3
     try clear hfz25_4
     try clear hfz25_5
     try clear hfz27_0
     try clear hfz27_1
     try clear hfz27_2
     try clear hfz27_3
     try clear hfz27_4
     try clear hfz27_5
     try clear hfz28_0
     try clear hfz28_1
     try clear hfz28_2
     try clear hfz28_3
     try clear hfz28_4
     try clear hfz28_5
     try clear hfz30_0
     try clear hfz30_1
     try clear hfz30_2
     try clear hfz30_3
     try clear hfz30_4
     try clear hfz30_5
     try clear hfz31_0
     try clear hfz31_1
     try clear hfz31_2
     try clear hfz31_3
     try clear hfz31_4
     try clear hfz31_5
     try clear hfz33_0
     try clear hfz33_1
     try clear hfz33_2
     try clear hfz33_3
     try clear hfz33_4
     try clear hfz33_5
     try clear hfz34_0
     try clear hfz34_1
     try clear hfz34_2
     try clear hfz34_3
     try clear hfz34_4
     try clear hfz34_5
     try clear hfz37_0
     try clear hfz37_1
     try clear hfz37_2
     try clear hfz37_3
     try clear hfz37_4
     try clear hfz37_5
     try clear hfz38_0
     try clear hfz38_1
     try clear hfz38_2
     try clear hfz38_3
     try clear hfz38_4
     try clear hfz38_5
     try clear p2
     obtain ⟨x5_2, rfl, HA, HK2, BK144, BK145, HB⟩ := hrel
     cases gk with
     | zero => exact absurd HA.out (by simp [laws_qdMem.l0])
     | succ k2 =>
      have H := HA.out
      clear HA
      simp only [laws_qdMem.l0] at H
      by_cases c41 : x5_2 < (l0_4.length : Int)
      ·rw [if_pos c41] at H
       have c41b0 : decide (x5_2 < (l0_4.length : Int)) = true := decide_eq_true c41
       clear c41
       by_cases c42 : 0 ≤ x5_2
       ·rw [if_pos c42] at H
        have c42b0 : decide (0 ≤ x5_2) = true := decide_eq_true c42
        clear c42
        by_cases c43 : x5_2 < (l1_4.length : Int)
        ·rw [if_pos c43] at H
         have c43b0 : decide (x5_2 < (l1_4.length : Int)) = true := decide_eq_true c43
         clear c43
         replace H := Option.bind_eq_some_iff.mp H
         obtain ⟨t150, A440, H⟩ := H
         replace H : (if t150 = true then (laws_qdMem.l0 k2 (wrap64 (x5_2 + 1)) l0_0 l0_1 l0_2 l0_3 l0_4 a0_5 l1_0 l1_1 l1_2 l1_3 l1_4 a1_5) else (some false)) = some r := H
         have A44 := Am A440
         clear A440
         by_cases c45 : t150 = true
         ·subst c45
          have H1 : (laws_qdMem.l0 k2 (wrap64 (x5_2 + 1)) l0_0 l0_1 l0_2 l0_3 l0_4 a0_5 l1_0 l1_1 l1_2 l1_3 l1_4 a1_5) = some r := by rw [if_pos rfl] at H; exact H
          clear H
          have H := H1
          clear H1
          have H' := Am H
          clear H
          have hnb46 := NB144_145.out
          have hnc46 := NB145_144.out
          have hcz47_0 : wr.cell? ⟨gb144, 0, none⟩ = some (.slice A0_0 l0_0.length c0_0) := (bC BK144.out 0).trans rfl
          have hcz47_1 : wr.cell? ⟨gb144, 1, none⟩ = some (.slice A0_1 l0_1.length c0_1) := (bC BK144.out 1).trans rfl
          have hcz47_2 : wr.cell? ⟨gb144, 2, none⟩ = some (.slice A0_2 l0_2.length c0_2) := (bC BK144.out 2).trans rfl
          have hcz47_3 : wr.cell? ⟨gb144, 3, none⟩ = some (.slice A0_3 l0_3.length c0_3) := (bC BK144.out 3).trans rfl
          have hcz47_4 : wr.cell? ⟨gb144, 4, none⟩ = some (.slice A0_4 l0_4.length c0_4) := (bC BK144.out 4).trans rfl
          have hcz47_5 : wr.cell? ⟨gb144, 5, none⟩ = some (.int .i64 a0_5) := (bC BK144.out 5).trans rfl
          have hfz47_0 := bF BK144.out 0
          have hfz47_1 := bF BK144.out 1
          have hfz47_2 := bF BK144.out 2
          have hfz47_3 := bF BK144.out 3
          have hfz47_4 := bF BK144.out 4
          have hfz47_5 := bF BK144.out 5
          try go_wp2
          have n0_ := Am (bD BK144.out)
          have n1_ := Am (bD BK145.out)
          have n2_ := Am (o1 HB.out)
          clear BK144
          clear BK145
          clear HB
          have BK144 := n0_
          have BK145 := n1_
          have HB := n2_
          clear n0_ n1_ n2_
          have p148 : 0 ≤ (x5_2 : Int) := of_decide_eq_true (by first | (with_reducible assumption) | assumption)
          have q148 : x5_2 < (l0_4.length : Int) := of_decide_eq_true (by first | (with_reducible assumption) | assumption)
          obtain ⟨ad148, A148_1, c148_1, A148_2, c148_2, e148, hx148_0, hx148_1, hx148_2, hl148_1, hi148_1, hl148_2, hi148_2⟩ := at_T73 HR0_4.out x5_2 p148 q148
          have hw148_2 := hx148_2
          have hw148_1 := hx148_1
          have hw148_0 := hx148_0
          cases e148
          replace hx148_0 := (HB.out.cell (World.block_lt_of_cell? w _ hx148_0)).trans hx148_0
          replace hx148_1 := (HB.out.cell (World.block_lt_of_cell? w _ hx148_1)).trans hx148_1
          replace hx148_2 := (HB.out.cell (World.block_lt_of_cell? w _ hx148_2)).trans hx148_2
          have HR148_1 := Am hi148_1
          have HC148_1 := Am hl148_1
          clear hi148_1 hl148_1
          have HR148_2 := Am hi148_2
          have HC148_2 := Am hl148_2
          clear hi148_2 hl148_2
          replace p148 := eq_true p148
          replace q148 := eq_true q148
          have p149 : 0 ≤ (x5_2 : Int) := of_decide_eq_true (by first | (with_reducible assumption) | assumption)
          have q149 : x5_2 < (l1_4.length : Int) := of_decide_eq_true (by first | (with_reducible assumption) | assumption)
          obtain ⟨ad149, A149_1, c149_1, A149_2, c149_2, e149, hx149_0, hx149_1, hx149_2, hl149_1, hi149_1, hl149_2, hi149_2⟩ := at_T73 HR1_4.out x5_2 p149 q149
          have hw149_2 := hx149_2
          have hw149_1 := hx149_1
          have hw149_0 := hx149_0
          cases e149
          replace hx149_0 := (HB.out.cell (World.block_lt_of_cell? w _ hx149_0)).trans hx149_0
          replace hx149_1 := (HB.out.cell (World.block_lt_of_cell? w _ hx149_1)).trans hx149_1
          replace hx149_2 := (HB.out.cell (World.block_lt_of_cell? w _ hx149_2)).trans hx149_2
          have HR149_1 := Am hi149_1
          have HC149_1 := Am hl149_1
          clear hi149_1 hl149_1
          have HR149_2 := Am hi149_2
          have HC149_2 := Am hl149_2
          clear hi149_2 hl149_2
          replace p149 := eq_true p149
          replace q149 := eq_true q149
          refine start_ (n := 12) (S := fun w' => w'.cell? ⟨gb144, 0, none⟩ = some (.slice A0_0 l0_0.length c0_0) ∧ w'.cell? ⟨gb144, 1, none⟩ = some (.slice A0_1 l0_1.length c0_1) ∧ w'.cell? ⟨gb144, 2, none⟩ = some (.slice A0_2 l0_2.length c0_2) ∧ w'.cell? ⟨gb144, 3, none⟩ = some (.slice A0_3 l0_3.length c0_3) ∧ w'.cell? ⟨gb144, 4, none⟩ = some (.slice (some ad148) l0_4.length c0_4) ∧ w'.cell? ⟨gb144, 5, none⟩ = some (.int .i64 a0_5) ∧ w'.cell? ⟨gb145, 0, none⟩ = some (.slice A1_0 l1_0.length c1_0) ∧ w'.cell? ⟨gb145, 1, none⟩ = some (.slice A1_1 l1_1.length c1_1) ∧ w'.cell? ⟨gb145, 2, none⟩ = some (.slice A1_2 l1_2.length c1_2) ∧ w'.cell? ⟨gb145, 3, none⟩ = some (.slice A1_3 l1_3.length c1_3) ∧ w'.cell? ⟨gb145, 4, none⟩ = some (.slice (some ad149) l1_4.length c1_4) ∧ w'.cell? ⟨gb145, 5, none⟩ = some (.int .i64 a1_5) ∧ w'.cell? (ad148.add ((x5_2).toNat * 3)) = some (.bool ((rd_T73 l0_4 x5_2).f0)) ∧ w'.cell? ⟨(ad148.add ((x5_2).toNat * 3)).block, (ad148.add ((x5_2).toNat * 3)).off + 1, none⟩ = some (.slice A148_1 ((rd_T73 l0_4 x5_2).f1).length c148_1) ∧ w'.cell? ⟨(ad148.add ((x5_2).toNat * 3)).block, (ad148.add ((x5_2).toNat * 3)).off + 2, none⟩ = some (.slice A148_2 ((rd_T73 l0_4 x5_2).f2).length c148_2) ∧ w'.cell? (ad149.add ((x5_2).toNat * 3)) = some (.bool ((rd_T73 l1_4 x5_2).f0)) ∧ w'.cell? ⟨(ad149.add ((x5_2).toNat * 3)).block, (ad149.add ((x5_2).toNat * 3)).off + 1, none⟩ = some (.slice A149_1 ((rd_T73 l1_4 x5_2).f1).length c149_1) ∧ w'.cell? ⟨(ad149.add ((x5_2).toNat * 3)).block, (ad149.add ((x5_2).toNat * 3)).off + 2, none⟩ = some (.slice A149_2 ((rd_T73 l1_4 x5_2).f2).length c149_2)) (ds := []) laws_qdMem.q0 (by kernel_rfl) rfl rfl ⟨(bC BK144.out 0).trans rfl, (bC BK144.out 1).trans rfl, (bC BK144.out 2).trans rfl, (bC BK144.out 3).trans rfl, (bC BK144.out 4).trans rfl, (bC BK144.out 5).trans rfl, (bC BK145.out 0).trans rfl, (bC BK145.out 1).trans rfl, (bC BK145.out 2).trans rfl, (bC BK145.out 3).trans rfl, (bC BK145.out 4).trans rfl, (bC BK145.out 5).trans rfl, ((HB.out.cell (World.block_lt_of_cell? w _ hw148_0)).trans hw148_0), ((HB.out.cell (World.block_lt_of_cell? w _ hw148_1)).trans hw148_1), ((HB.out.cell (World.block_lt_of_cell? w _ hw148_2)).trans hw148_2), ((HB.out.cell (World.block_lt_of_cell? w _ hw149_0)).trans hw149_0), ((HB.out.cell (World.block_lt_of_cell? w _ hw149_1)).trans hw149_1), ((HB.out.cell (World.block_lt_of_cell? w _ hw149_2)).trans hw149_2)⟩ (fun hHeld => ?_); refine with_tabW laws_qdMem.tab6 laws_qdMem.bits6 (fun HT_ HW_ => ?_)
          generalize wr.drew = w48 at BK144 BK145 HB HR148_1 HR148_2 HR149_1 HR149_2 hx148_0 hx148_1 hx148_2 hx149_0 hx149_1 hx149_2 hHeld ⊢
          refine pure_ (i := 0) (N := some 43) (v := ?_) (a' := ?_) laws_qdMem.q1 rfl rfl (any_of HT_.out (by kernel_rfl)) (fun _ _ _ h => h) (Or.inl ⟨by rfl, ?_⟩) ?_ ?_
          rotate_left
          ·intro w'
           go_simp
           with_reducible rfl
          rotate_left
          ·simp only [Act.put, lA, lZ, lS, i64_w, i32_w]
           rfl
          refine pure_ (i := 2) (N := some 45) (v := ?_) (a' := ?_) laws_qdMem.q2 rfl rfl (any_of HT_.out (by kernel_rfl)) (fun _ _ _ h => h) (Or.inl ⟨by rfl, ?_⟩) ?_ ?_
          rotate_left
          ·intro w'
           go_simp
           with_reducible rfl
          rotate_left
          ·simp only [Act.put, lA, lZ, lS, i64_w, i32_w]
           rfl
          refine pure_ (i := 5) (N := some 48) (v := ?_) (a' := ?_) laws_qdMem.q3 rfl rfl (any_of HT_.out (by kernel_rfl)) (fun _ _ _ h => h) (Or.inl ⟨by rfl, ?_⟩) ?_ ?_
          rotate_left
          ·intro w'
           go_simp
           with_reducible rfl
          rotate_left
          ·simp only [Act.put, lA, lZ, lS, i64_w, i32_w]
           rfl
          refine pure_ (i := 7) (N := some 50) (v := ?_) (a' := ?_) laws_qdMem.q4 rfl rfl (any_of HT_.out (by kernel_rfl)) (fun _ _ _ h => h) (Or.inl ⟨by rfl, ?_⟩) ?_ ?_
          rotate_left
          ·intro w'
           go_simp
           with_reducible rfl
          rotate_left
          ·simp only [Act.put, lA, lZ, lS, i64_w, i32_w]
           rfl
          refine take_ (i := 1) (N := some 44) (v := ?_) (a' := ?_) laws_qdMem.q5 rfl rfl (take_ofW HT_.out HW_.out (by kernel_rfl)) (fun _ _ _ h => h) (Or.inl ⟨by rfl, ?_⟩) hHeld ?_ ?_
          rotate_left
          ·rintro w' ⟨s0, s1, s2, s3, s4, s5, s6, s7, s8, s9, s10, s11, s12, s13, s14, s15, s16, s17⟩
           go_simp
           with_reducible rfl
          rotate_left
          ·simp only [Act.put, lA, lZ, lS, i64_w, i32_w]
           rfl
          refine pure_ (i := 3) (N := some 46) (v := ?_) (a' := ?_) laws_qdMem.q6 rfl rfl (any_of HT_.out (by kernel_rfl)) (fun _ _ _ h => h) (Or.inl ⟨by rfl, ?_⟩) ?_ ?_
          rotate_left
          ·intro w'
           go_simp
           with_reducible rfl
          rotate_left
          ·simp only [Act.put, lA, lZ, lS, i64_w, i32_w]
           rfl
          refine take_ (i := 4) (N := some 47) (v := ?_) (a' := ?_) laws_qdMem.q7 rfl rfl (take_ofW HT_.out HW_.out (by kernel_rfl)) (fun _ _ _ h => h) (Or.inl ⟨by rfl, ?_⟩) hHeld ?_ ?_
          rotate_left
          ·rintro w' ⟨s0, s1, s2, s3, s4, s5, s6, s7, s8, s9, s10, s11, s12, s13, s14, s15, s16, s17⟩
           go_simp
           with_reducible rfl
          rotate_left
          ·simp only [Act.put, lA, lZ, lS, i64_w, i32_w]
           rfl
          refine take_ (i := 6) (N := some 49) (v := ?_) (a' := ?_) laws_qdMem.q8 rfl rfl (take_ofW HT_.out HW_.out (by kernel_rfl)) (fun _ _ _ h => h) (Or.inl ⟨by rfl, ?_⟩) hHeld ?_ ?_
          rotate_left
          ·rintro w' ⟨s0, s1, s2, s3, s4, s5, s6, s7, s8, s9, s10, s11, s12, s13, s14, s15, s16, s17⟩
           go_simp
           with_reducible rfl
          rotate_left
          ·simp only [Act.put, lA, lZ, lS, i64_w, i32_w]
           rfl
          refine pure_ (i := 8) (N := some 51) (v := ?_) (a' := ?_) laws_qdMem.q9 rfl rfl (any_of HT_.out (by kernel_rfl)) (fun _ _ _ h => h) (Or.inl ⟨by rfl, ?_⟩) ?_ ?_
          rotate_left
          ·intro w'
           go_simp
           with_reducible rfl
          rotate_left
          ·simp only [Act.put, lA, lZ, lS, i64_w, i32_w]
           rfl
          refine take_ (i := 9) (N := some 52) (v := ?_) (a' := ?_) laws_qdMem.q10 rfl rfl (take_ofW HT_.out HW_.out (by kernel_rfl)) (fun _ _ _ h => h) (Or.inl ⟨by rfl, ?_⟩) hHeld ?_ ?_
          rotate_left
          ·rintro w' ⟨s0, s1, s2, s3, s4, s5, s6, s7, s8, s9, s10, s11, s12, s13, s14, s15, s16, s17⟩
           go_simp
           with_reducible rfl
          rotate_left
          ·simp only [Act.put, lA, lZ, lS, i64_w, i32_w]
           rfl
          refine one_ (i := 10) (N := some 53) laws_qdMem.q11 rfl rfl (one_of HT_.out (by kernel_rfl)) (by decide) (fun K hK => ?_)
          refine goes_ Try.func31 (by kernel_rfl) rfl #[.agg #[.bool ((rd_T73 l0_4 x5_2).f0), .slice A148_1 ((rd_T73 l0_4 x5_2).f1).length c148_1, .slice A148_2 ((rd_T73 l0_4 x5_2).f2).length c148_2], .agg #[.bool ((rd_T73 l1_4 x5_2).f0), .slice A149_1 ((rd_T73 l1_4 x5_2).f1).length c149_1, .slice A149_2 ((rd_T73 l1_4 x5_2).f2).length c149_2]] (by rfl) rfl rfl (by (try simp only [lM, lC, lN]); first | done | rfl | (simp only [lD, lT]; rfl)) ?_
          with_reducible refine (laws_qdSpace.calls k2 ((rd_T73 l0_4 x5_2).f0) _ _ ((rd_T73 l0_4 x5_2).f1) _ _ ((rd_T73 l0_4 x5_2).f2) ((rd_T73 l1_4 x5_2).f0) _ _ ((rd_T73 l1_4 x5_2).f1) _ _ ((rd_T73 l1_4 x5_2).f2) true _ ?side1 ?side2 ?side3 ?side4 ?side5 ?side6 ?side7 ?side8 A44.out).mono ?_
          (case side1 => repeat (first | exact (cB HR148_1.out HB.out) | (with_reducible refine cA ?_ _) | (with_reducible refine cN ?_ _) | (with_reducible refine cD ?_)))
          (case side2 => exact HC148_1.out)
          (case side3 => repeat (first | exact (cB HR148_2.out HB.out) | (with_reducible refine cA ?_ _) | (with_reducible refine cN ?_ _) | (with_reducible refine cD ?_)))
          (case side4 => exact HC148_2.out)
          (case side5 => repeat (first | exact (cB HR149_1.out HB.out) | (with_reducible refine cA ?_ _) | (with_reducible refine cN ?_ _) | (with_reducible refine cD ?_)))
          (case side6 => exact HC149_1.out)
          (case side7 => repeat (first | exact (cB HR149_2.out HB.out) | (with_reducible refine cA ?_ _) | (with_reducible refine cN ?_ _) | (with_reducible refine cD ?_)))
          (case side8 => exact HC149_2.out)
          rintro e w49 ⟨rfl, hb⟩
          refine ⟨_, rfl, ?_⟩
          have n0_ := Am (bB (g := gb144) (o := .cells #[.slice A0_0 l0_0.length c0_0, .slice A0_1 l0_1.length c0_1, .slice A0_2 l0_2.length c0_2, .slice A0_3 l0_3.length c0_3, .slice (some ad148) l0_4.length c0_4, .int .i64 a0_5] 38 (0, 0)) (by (with_reducible repeat (first | refine bN ?_ _ | refine bD ?_ | refine bA ?_ _)); exact BK144.out) hb)
          have n1_ := Am (bB (g := gb145) (o := .cells #[.slice A1_0 l1_0.length c1_0, .slice A1_1 l1_1.length c1_1, .slice A1_2 l1_2.length c1_2, .slice A1_3 l1_3.length c1_3, .slice (some ad149) l1_4.length c1_4, .int .i64 a1_5] 38 (0, 0)) (by (with_reducible repeat (first | refine bN ?_ _ | refine bD ?_ | refine bA ?_ _)); exact BK145.out) hb)
          have n2_ := Am (bP (by repeat (first | (with_reducible first | exact HB.out | apply oA | apply pN | apply o1 | refine bS ?_ GE144.out | refine bS ?_ GE145.out) | exact HB.out)) hb)
          clear BK144
          clear BK145
          clear HB
          have BK144 := n0_
          have BK145 := n1_
          have HB := n2_
          clear n0_ n1_ n2_
          (try clear hb)
          (try clear hb2)
          (try clear hk)
          (try clear hi)
          refine hK.out _ _ ⟨(bC BK144.out 0).trans rfl, (bC BK144.out 1).trans rfl, (bC BK144.out 2).trans rfl, (bC BK144.out 3).trans rfl, (bC BK144.out 4).trans rfl, (bC BK144.out 5).trans rfl, (bC BK145.out 0).trans rfl, (bC BK145.out 1).trans rfl, (bC BK145.out 2).trans rfl, (bC BK145.out 3).trans rfl, (bC BK145.out 4).trans rfl, (bC BK145.out 5).trans rfl, ((HB.out.cell (World.block_lt_of_cell? w _ hw148_0)).trans hw148_0), ((HB.out.cell (World.block_lt_of_cell? w _ hw148_1)).trans hw148_1), ((HB.out.cell (World.block_lt_of_cell? w _ hw148_2)).trans hw148_2), ((HB.out.cell (World.block_lt_of_cell? w _ hw149_0)).trans hw149_0), ((HB.out.cell (World.block_lt_of_cell? w _ hw149_1)).trans hw149_1), ((HB.out.cell (World.block_lt_of_cell? w _ hw149_2)).trans hw149_2)⟩ (fun hHeld => ?_)
          clear hK K
          refine norm_ (a' := ?_) ?_ ?_
          rotate_left
          ·show Act.put _ (some 53) _ = _
           simp only [Act.put, lA, lZ, lS, i64_w, i32_w]
           rfl
          refine pure_ (i := 11) (N := some 54) (v := ?_) (a' := ?_) laws_qdMem.q12 rfl rfl (any_of HT_.out (by kernel_rfl)) (fun _ _ _ h => h) (Or.inl ⟨by rfl, ?_⟩) ?_ ?_
          rotate_left
          ·intro w'
           go_simp
           with_reducible rfl
          rotate_left
          ·simp only [Act.put, lA, lZ, lS, i64_w, i32_w]
           rfl
          refine done_ (done_of HT_.out (by kernel_rfl)) ?_
          try go_wp2
          go_roundg k2
          case measure => have := HJ2.out; have := HK2.out; omega
          case rel => exact ⟨(wrap64 (x5_2 + 1)), (by first | rfl | (simp; done) | (simp [*]; done)), H', ⟨by have := HJ2.out; have := HK2.out; omega⟩, ⟨by (with_reducible repeat (first | refine bN ?_ _ | refine bD ?_ | refine bA ?_ _)); exact BK144.out⟩, ⟨by (with_reducible repeat (first | refine bN ?_ _ | refine bD ?_ | refine bA ?_ _)); exact BK145.out⟩, ⟨by repeat (first | (with_reducible first | exact HB.out | apply oA | apply pN | apply o1 | refine bS ?_ GE144.out | refine bS ?_ GE145.out) | exact HB.out)⟩⟩
         ·replace c45 := Bool.eq_false_iff.mpr c45
          subst c45
          have H1 : (some false) = some r := by rw [if_neg (show ¬ (false = true) by decide)] at H; exact H
          clear H
          have H := H1
          clear H1
          obtain rfl := Option.some.inj H
          have hnb50 := NB144_145.out
          have hnc50 := NB145_144.out
          have hcz51_0 : wr.cell? ⟨gb144, 0, none⟩ = some (.slice A0_0 l0_0.length c0_0) := (bC BK144.out 0).trans rfl
          have hcz51_1 : wr.cell? ⟨gb144, 1, none⟩ = some (.slice A0_1 l0_1.length c0_1) := (bC BK144.out 1).trans rfl
          have hcz51_2 : wr.cell? ⟨gb144, 2, none⟩ = some (.slice A0_2 l0_2.length c0_2) := (bC BK144.out 2).trans rfl
          have hcz51_3 : wr.cell? ⟨gb144, 3, none⟩ = some (.slice A0_3 l0_3.length c0_3) := (bC BK144.out 3).trans rfl
          have hcz51_4 : wr.cell? ⟨gb144, 4, none⟩ = some (.slice A0_4 l0_4.length c0_4) := (bC BK144.out 4).trans rfl
          have hcz51_5 : wr.cell? ⟨gb144, 5, none⟩ = some (.int .i64 a0_5) := (bC BK144.out 5).trans rfl
          have hfz51_0 := bF BK144.out 0
          have hfz51_1 := bF BK144.out 1
          have hfz51_2 := bF BK144.out 2
          have hfz51_3 := bF BK144.out 3
          have hfz51_4 := bF BK144.out 4
          have hfz51_5 := bF BK144.out 5
          try go_wp2
          have n0_ := Am (bD BK144.out)
          have n1_ := Am (bD BK145.out)
          have n2_ := Am (o1 HB.out)
          clear BK144
          clear BK145
          clear HB
          have BK144 := n0_
          have BK145 := n1_
          have HB := n2_
          clear n0_ n1_ n2_
          have p148 : 0 ≤ (x5_2 : Int) := of_decide_eq_true (by first | (with_reducible assumption) | assumption)
          have q148 : x5_2 < (l0_4.length : Int) := of_decide_eq_true (by first | (with_reducible assumption) | assumption)
          obtain ⟨ad148, A148_1, c148_1, A148_2, c148_2, e148, hx148_0, hx148_1, hx148_2, hl148_1, hi148_1, hl148_2, hi148_2⟩ := at_T73 HR0_4.out x5_2 p148 q148
          have hw148_2 := hx148_2
          have hw148_1 := hx148_1
          have hw148_0 := hx148_0
          cases e148
          replace hx148_0 := (HB.out.cell (World.block_lt_of_cell? w _ hx148_0)).trans hx148_0
          replace hx148_1 := (HB.out.cell (World.block_lt_of_cell? w _ hx148_1)).trans hx148_1
          replace hx148_2 := (HB.out.cell (World.block_lt_of_cell? w _ hx148_2)).trans hx148_2
          have HR148_1 := Am hi148_1
          have HC148_1 := Am hl148_1
          clear hi148_1 hl148_1
          have HR148_2 := Am hi148_2
          have HC148_2 := Am hl148_2
          clear hi148_2 hl148_2
          replace p148 := eq_true p148
          replace q148 := eq_true q148
          have p149 : 0 ≤ (x5_2 : Int) := of_decide_eq_true (by first | (with_reducible assumption) | assumption)
          have q149 : x5_2 < (l1_4.length : Int) := of_decide_eq_true (by first | (with_reducible assumption) | assumption)
          obtain ⟨ad149, A149_1, c149_1, A149_2, c149_2, e149, hx149_0, hx149_1, hx149_2, hl149_1, hi149_1, hl149_2, hi149_2⟩ := at_T73 HR1_4.out x5_2 p149 q149
          have hw149_2 := hx149_2
          have hw149_1 := hx149_1
          have hw149_0 := hx149_0
          cases e149
          replace hx149_0 := (HB.out.cell (World.block_lt_of_cell? w _ hx149_0)).trans hx149_0
          replace hx149_1 := (HB.out.cell (World.block_lt_of_cell? w _ hx149_1)).trans hx149_1
          replace hx149_2 := (HB.out.cell (World.block_lt_of_cell? w _ hx149_2)).trans hx149_2
          have HR149_1 := Am hi149_1
          have HC149_1 := Am hl149_1
          clear hi149_1 hl149_1
          have HR149_2 := Am hi149_2
          have HC149_2 := Am hl149_2
          clear hi149_2 hl149_2
          replace p149 := eq_true p149
          replace q149 := eq_true q149
          refine start_ (n := 12) (S := fun w' => w'.cell? ⟨gb144, 0, none⟩ = some (.slice A0_0 l0_0.length c0_0) ∧ w'.cell? ⟨gb144, 1, none⟩ = some (.slice A0_1 l0_1.length c0_1) ∧ w'.cell? ⟨gb144, 2, none⟩ = some (.slice A0_2 l0_2.length c0_2) ∧ w'.cell? ⟨gb144, 3, none⟩ = some (.slice A0_3 l0_3.length c0_3) ∧ w'.cell? ⟨gb144, 4, none⟩ = some (.slice (some ad148) l0_4.length c0_4) ∧ w'.cell? ⟨gb144, 5, none⟩ = some (.int .i64 a0_5) ∧ w'.cell? ⟨gb145, 0, none⟩ = some (.slice A1_0 l1_0.length c1_0) ∧ w'.cell? ⟨gb145, 1, none⟩ = some (.slice A1_1 l1_1.length c1_1) ∧ w'.cell? ⟨gb145, 2, none⟩ = some (.slice A1_2 l1_2.length c1_2) ∧ w'.cell? ⟨gb145, 3, none⟩ = some (.slice A1_3 l1_3.length c1_3) ∧ w'.cell? ⟨gb145, 4, none⟩ = some (.slice (some ad149) l1_4.length c1_4) ∧ w'.cell? ⟨gb145, 5, none⟩ = some (.int .i64 a1_5) ∧ w'.cell? (ad148.add ((x5_2).toNat * 3)) = some (.bool ((rd_T73 l0_4 x5_2).f0)) ∧ w'.cell? ⟨(ad148.add ((x5_2).toNat * 3)).block, (ad148.add ((x5_2).toNat * 3)).off + 1, none⟩ = some (.slice A148_1 ((rd_T73 l0_4 x5_2).f1).length c148_1) ∧ w'.cell? ⟨(ad148.add ((x5_2).toNat * 3)).block, (ad148.add ((x5_2).toNat * 3)).off + 2, none⟩ = some (.slice A148_2 ((rd_T73 l0_4 x5_2).f2).length c148_2) ∧ w'.cell? (ad149.add ((x5_2).toNat * 3)) = some (.bool ((rd_T73 l1_4 x5_2).f0)) ∧ w'.cell? ⟨(ad149.add ((x5_2).toNat * 3)).block, (ad149.add ((x5_2).toNat * 3)).off + 1, none⟩ = some (.slice A149_1 ((rd_T73 l1_4 x5_2).f1).length c149_1) ∧ w'.cell? ⟨(ad149.add ((x5_2).toNat * 3)).block, (ad149.add ((x5_2).toNat * 3)).off + 2, none⟩ = some (.slice A149_2 ((rd_T73 l1_4 x5_2).f2).length c149_2)) (ds := []) laws_qdMem.q0 (by kernel_rfl) rfl rfl ⟨(bC BK144.out 0).trans rfl, (bC BK144.out 1).trans rfl, (bC BK144.out 2).trans rfl, (bC BK144.out 3).trans rfl, (bC BK144.out 4).trans rfl, (bC BK144.out 5).trans rfl, (bC BK145.out 0).trans rfl, (bC BK145.out 1).trans rfl, (bC BK145.out 2).trans rfl, (bC BK145.out 3).trans rfl, (bC BK145.out 4).trans rfl, (bC BK145.out 5).trans rfl, ((HB.out.cell (World.block_lt_of_cell? w _ hw148_0)).trans hw148_0), ((HB.out.cell (World.block_lt_of_cell? w _ hw148_1)).trans hw148_1), ((HB.out.cell (World.block_lt_of_cell? w _ hw148_2)).trans hw148_2), ((HB.out.cell (World.block_lt_of_cell? w _ hw149_0)).trans hw149_0), ((HB.out.cell (World.block_lt_of_cell? w _ hw149_1)).trans hw149_1), ((HB.out.cell (World.block_lt_of_cell? w _ hw149_2)).trans hw149_2)⟩ (fun hHeld => ?_); refine with_tabW laws_qdMem.tab6 laws_qdMem.bits6 (fun HT_ HW_ => ?_)
          generalize wr.drew = w52 at BK144 BK145 HB HR148_1 HR148_2 HR149_1 HR149_2 hx148_0 hx148_1 hx148_2 hx149_0 hx149_1 hx149_2 hHeld ⊢
          refine pure_ (i := 0) (N := some 43) (v := ?_) (a' := ?_) laws_qdMem.q1 rfl rfl (any_of HT_.out (by kernel_rfl)) (fun _ _ _ h => h) (Or.inl ⟨by rfl, ?_⟩) ?_ ?_
          rotate_left
          ·intro w'
           go_simp
           with_reducible rfl
          rotate_left
          ·simp only [Act.put, lA, lZ, lS, i64_w, i32_w]
           rfl
          refine pure_ (i := 2) (N := some 45) (v := ?_) (a' := ?_) laws_qdMem.q2 rfl rfl (any_of HT_.out (by kernel_rfl)) (fun _ _ _ h => h) (Or.inl ⟨by rfl, ?_⟩) ?_ ?_
          rotate_left
          ·intro w'
           go_simp
           with_reducible rfl
          rotate_left
          ·simp only [Act.put, lA, lZ, lS, i64_w, i32_w]
           rfl
          refine pure_ (i := 5) (N := some 48) (v := ?_) (a' := ?_) laws_qdMem.q3 rfl rfl (any_of HT_.out (by kernel_rfl)) (fun _ _ _ h => h) (Or.inl ⟨by rfl, ?_⟩) ?_ ?_
          rotate_left
          ·intro w'
           go_simp
           with_reducible rfl
          rotate_left
          ·simp only [Act.put, lA, lZ, lS, i64_w, i32_w]
           rfl
          refine pure_ (i := 7) (N := some 50) (v := ?_) (a' := ?_) laws_qdMem.q4 rfl rfl (any_of HT_.out (by kernel_rfl)) (fun _ _ _ h => h) (Or.inl ⟨by rfl, ?_⟩) ?_ ?_
          rotate_left
          ·intro w'
           go_simp
           with_reducible rfl
          rotate_left
          ·simp only [Act.put, lA, lZ, lS, i64_w, i32_w]
           rfl
          refine take_ (i := 1) (N := some 44) (v := ?_) (a' := ?_) laws_qdMem.q5 rfl rfl (take_ofW HT_.out HW_.out (by kernel_rfl)) (fun _ _ _ h => h) (Or.inl ⟨by rfl, ?_⟩) hHeld ?_ ?_
          rotate_left
          ·rintro w' ⟨s0, s1, s2, s3, s4, s5, s6, s7, s8, s9, s10, s11, s12, s13, s14, s15, s16, s17⟩
           go_simp
           with_reducible rfl
          rotate_left
          ·simp only [Act.put, lA, lZ, lS, i64_w, i32_w]
           rfl
          refine pure_ (i := 3) (N := some 46) (v := ?_) (a' := ?_) laws_qdMem.q6 rfl rfl (any_of HT_.out (by kernel_rfl)) (fun _ _ _ h => h) (Or.inl ⟨by rfl, ?_⟩) ?_ ?_
          rotate_left
          ·intro w'
           go_simp
           with_reducible rfl
          rotate_left
          ·simp only [Act.put, lA, lZ, lS, i64_w, i32_w]
           rfl
          refine take_ (i := 4) (N := some 47) (v := ?_) (a' := ?_) laws_qdMem.q7 rfl rfl (take_ofW HT_.out HW_.out (by kernel_rfl)) (fun _ _ _ h => h) (Or.inl ⟨by rfl, ?_⟩) hHeld ?_ ?_
          rotate_left
          ·rintro w' ⟨s0, s1, s2, s3, s4, s5, s6, s7, s8, s9, s10, s11, s12, s13, s14, s15, s16, s17⟩
           go_simp
           with_reducible rfl
          rotate_left
          ·simp only [Act.put, lA, lZ, lS, i64_w, i32_w]
           rfl
          refine take_ (i := 6) (N := some 49) (v := ?_) (a' := ?_) laws_qdMem.q8 rfl rfl (take_ofW HT_.out HW_.out (by kernel_rfl)) (fun _ _ _ h => h) (Or.inl ⟨by rfl, ?_⟩) hHeld ?_ ?_
          rotate_left
          ·rintro w' ⟨s0, s1, s2, s3, s4, s5, s6, s7, s8, s9, s10, s11, s12, s13, s14, s15, s16, s17⟩
           go_simp
           with_reducible rfl
          rotate_left
          ·simp only [Act.put, lA, lZ, lS, i64_w, i32_w]
           rfl
          refine pure_ (i := 8) (N := some 51) (v := ?_) (a' := ?_) laws_qdMem.q9 rfl rfl (any_of HT_.out (by kernel_rfl)) (fun _ _ _ h => h) (Or.inl ⟨by rfl, ?_⟩) ?_ ?_
          rotate_left
          ·intro w'
           go_simp
           with_reducible rfl
          rotate_left
          ·simp only [Act.put, lA, lZ, lS, i64_w, i32_w]
           rfl
          refine take_ (i := 9) (N := some 52) (v := ?_) (a' := ?_) laws_qdMem.q10 rfl rfl (take_ofW HT_.out HW_.out (by kernel_rfl)) (fun _ _ _ h => h) (Or.inl ⟨by rfl, ?_⟩) hHeld ?_ ?_
          rotate_left
          ·rintro w' ⟨s0, s1, s2, s3, s4, s5, s6, s7, s8, s9, s10, s11, s12, s13, s14, s15, s16, s17⟩
           go_simp
           with_reducible rfl
          rotate_left
          ·simp only [Act.put, lA, lZ, lS, i64_w, i32_w]
           rfl
          refine one_ (i := 10) (N := some 53) laws_qdMem.q11 rfl rfl (one_of HT_.out (by kernel_rfl)) (by decide) (fun K hK => ?_)
          refine goes_ Try.func31 (by kernel_rfl) rfl #[.agg #[.bool ((rd_T73 l0_4 x5_2).f0), .slice A148_1 ((rd_T73 l0_4 x5_2).f1).length c148_1, .slice A148_2 ((rd_T73 l0_4 x5_2).f2).length c148_2], .agg #[.bool ((rd_T73 l1_4 x5_2).f0), .slice A149_1 ((rd_T73 l1_4 x5_2).f1).length c149_1, .slice A149_2 ((rd_T73 l1_4 x5_2).f2).length c149_2]] (by rfl) rfl rfl (by (try simp only [lM, lC, lN]); first | done | rfl | (simp only [lD, lT]; rfl)) ?_
          with_reducible refine (laws_qdSpace.calls k2 ((rd_T73 l0_4 x5_2).f0) _ _ ((rd_T73 l0_4 x5_2).f1) _ _ ((rd_T73 l0_4 x5_2).f2) ((rd_T73 l1_4 x5_2).f0) _ _ ((rd_T73 l1_4 x5_2).f1) _ _ ((rd_T73 l1_4 x5_2).f2) false _ ?side1 ?side2 ?side3 ?side4 ?side5 ?side6 ?side7 ?side8 A44.out).mono ?_
          (case side1 => repeat (first | exact (cB HR148_1.out HB.out) | (with_reducible refine cA ?_ _) | (with_reducible refine cN ?_ _) | (with_reducible refine cD ?_)))
          (case side2 => exact HC148_1.out)
          (case side3 => repeat (first | exact (cB HR148_2.out HB.out) | (with_reducible refine cA ?_ _) | (with_reducible refine cN ?_ _) | (with_reducible refine cD ?_)))
          (case side4 => exact HC148_2.out)
          (case side5 => repeat (first | exact (cB HR149_1.out HB.out) | (with_reducible refine cA ?_ _) | (with_reducible refine cN ?_ _) | (with_reducible refine cD ?_)))
          (case side6 => exact HC149_1.out)
          (case side7 => repeat (first | exact (cB HR149_2.out HB.out) | (with_reducible refine cA ?_ _) | (with_reducible refine cN ?_ _) | (with_reducible refine cD ?_)))
          (case side8 => exact HC149_2.out)
          rintro e w53 ⟨rfl, hb⟩
          refine ⟨_, rfl, ?_⟩
          have n0_ := Am (bB (g := gb144) (o := .cells #[.slice A0_0 l0_0.length c0_0, .slice A0_1 l0_1.length c0_1, .slice A0_2 l0_2.length c0_2, .slice A0_3 l0_3.length c0_3, .slice (some ad148) l0_4.length c0_4, .int .i64 a0_5] 38 (0, 0)) (by (with_reducible repeat (first | refine bN ?_ _ | refine bD ?_ | refine bA ?_ _)); exact BK144.out) hb)
          have n1_ := Am (bB (g := gb145) (o := .cells #[.slice A1_0 l1_0.length c1_0, .slice A1_1 l1_1.length c1_1, .slice A1_2 l1_2.length c1_2, .slice A1_3 l1_3.length c1_3, .slice (some ad149) l1_4.length c1_4, .int .i64 a1_5] 38 (0, 0)) (by (with_reducible repeat (first | refine bN ?_ _ | refine bD ?_ | refine bA ?_ _)); exact BK145.out) hb)
          have n2_ := Am (bP (by repeat (first | (with_reducible first | exact HB.out | apply oA | apply pN | apply o1 | refine bS ?_ GE144.out | refine bS ?_ GE145.out) | exact HB.out)) hb)
          clear BK144
          clear BK145
          clear HB
          have BK144 := n0_
          have BK145 := n1_
          have HB := n2_
          clear n0_ n1_ n2_
          (try clear hb)
          (try clear hb2)
          (try clear hk)
          (try clear hi)
          refine hK.out _ _ ⟨(bC BK144.out 0).trans rfl, (bC BK144.out 1).trans rfl, (bC BK144.out 2).trans rfl, (bC BK144.out 3).trans rfl, (bC BK144.out 4).trans rfl, (bC BK144.out 5).trans rfl, (bC BK145.out 0).trans rfl, (bC BK145.out 1).trans rfl, (bC BK145.out 2).trans rfl, (bC BK145.out 3).trans rfl, (bC BK145.out 4).trans rfl, (bC BK145.out 5).trans rfl, ((HB.out.cell (World.block_lt_of_cell? w _ hw148_0)).trans hw148_0), ((HB.out.cell (World.block_lt_of_cell? w _ hw148_1)).trans hw148_1), ((HB.out.cell (World.block_lt_of_cell? w _ hw148_2)).trans hw148_2), ((HB.out.cell (World.block_lt_of_cell? w _ hw149_0)).trans hw149_0), ((HB.out.cell (World.block_lt_of_cell? w _ hw149_1)).trans hw149_1), ((HB.out.cell (World.block_lt_of_cell? w _ hw149_2)).trans hw149_2)⟩ (fun hHeld => ?_)
          clear hK K
          refine norm_ (a' := ?_) ?_ ?_
          rotate_left
          ·show Act.put _ (some 53) _ = _
           simp only [Act.put, lA, lZ, lS, i64_w, i32_w]
           rfl
          refine pure_ (i := 11) (N := some 54) (v := ?_) (a' := ?_) laws_qdMem.q12 rfl rfl (any_of HT_.out (by kernel_rfl)) (fun _ _ _ h => h) (Or.inl ⟨by rfl, ?_⟩) ?_ ?_
          rotate_left
          ·intro w'
           go_simp
           with_reducible rfl
          rotate_left
          ·simp only [Act.put, lA, lZ, lS, i64_w, i32_w]
           rfl
          refine done_ (done_of HT_.out (by kernel_rfl)) ?_
          try go_wp2
          go_ret
          exact ⟨by first | rfl | (simp [errW_none, errW_some] <;> rfl) | (simp [*, errW_none, errW_some] <;> rfl), by repeat (first | (with_reducible first | exact HB.out | apply oA | apply pN | apply o1 | refine bS ?_ GE144.out | refine bS ?_ GE145.out) | exact HB.out)⟩
        ·rw [if_neg c43] at H
         exact absurd H (by simp)
       ·rw [if_neg c42] at H
        exact absurd H (by simp)
      ·rw [if_neg c41] at H
       have c41b0 : decide (x5_2 < (l0_4.length : Int)) = false := decide_eq_false c41
       clear c41
       obtain rfl := Option.some.inj H
       have hnb54 := NB144_145.out
       have hnc54 := NB145_144.out
       have hcz55_0 : wr.cell? ⟨gb144, 0, none⟩ = some (.slice A0_0 l0_0.length c0_0) := (bC BK144.out 0).trans rfl
       have hcz55_1 : wr.cell? ⟨gb144, 1, none⟩ = some (.slice A0_1 l0_1.length c0_1) := (bC BK144.out 1).trans rfl
       have hcz55_2 : wr.cell? ⟨gb144, 2, none⟩ = some (.slice A0_2 l0_2.length c0_2) := (bC BK144.out 2).trans rfl
       have hcz55_3 : wr.cell? ⟨gb144, 3, none⟩ = some (.slice A0_3 l0_3.length c0_3) := (bC BK144.out 3).trans rfl
       have hcz55_4 : wr.cell? ⟨gb144, 4, none⟩ = some (.slice A0_4 l0_4.length c0_4) := (bC BK144.out 4).trans rfl
       have hcz55_5 : wr.cell? ⟨gb144, 5, none⟩ = some (.int .i64 a0_5) := (bC BK144.out 5).trans rfl
       have hfz55_0 := bF BK144.out 0
       have hfz55_1 := bF BK144.out 1
       have hfz55_2 := bF BK144.out 2
       have hfz55_3 := bF BK144.out 3
       have hfz55_4 := bF BK144.out 4
       have hfz55_5 := bF BK144.out 5
       go_wp2
       go_ret
       exact ⟨by first | rfl | (simp [errW_none, errW_some] <;> rfl) | (simp [*, errW_none, errW_some] <;> rfl), by repeat (first | (with_reducible first | exact HB.out | apply oA | apply pN | apply o1 | refine bS ?_ GE144.out | refine bS ?_ GE145.out) | exact HB.out)⟩

end Go.Proofs.Ytffnkpbogkodbaa.PFnMemNew
