/- Proved here, without a condition beyond those that each theorem states: what the Go functions named below do is what the plain functions of the same names say. Written by xprint.py, a program of this session. -/
import Derived.Test.YtffnkpbogkodbaaPFnMemNewx0
import Derived.Test.YtffnkpbogkodbaaPFnMemNewx8
namespace Go.Proofs.Ytffnkpbogkodbaa.PFnMemNew
open Go.RowKit Go.Proofs.YtffnkpbogkodbaaW.PrintWords Go.Proofs.YtffnkpbogkodbaaW.PrintLast Go.Proofs.YtffnkpbogkodbaaW.PrintMore
attribute [local go_sem] max2_int min2_int max_two min_two max_three min_three max_four min_four   -- for this text's walks alone
set_option linter.unusedVariables false
set_option linter.unusedSimpArgs false

attribute [local go_sem ↓] isSome_setCell_
/-! ### impl_Mem_clone: function 34 -/
def impl_Mem_clone.l0 : Nat → List (S73) → Int → Int → List ByteArray → List Int → List ByteArray → List Int → List (S73) → Int → Option (List ByteArray × List Int × List ByteArray × List Int × (List (S73)) × Int)
 | 0, _, _, _, _, _, _, _, _, _ => none
 | k + 1, x16, x17, x18, x245000, x245001, x245002, x245003, x245004, x245005 => if x18 < x17 then (if 0 ≤ x18 then (if x18 < (x16.length : Int) then ((impl_Area_63.f ((rd_T73 x16 x18).f1)).bind fun t247 => ((impl_Slot.f ((rd_T73 x16 x18).f2)).bind fun t250 => (if x245004.length < 2513169434916 then (impl_Mem_clone.l0 k x16 x17 (wrap64 (x18 + 1)) x245000 x245001 x245002 x245003 (x245004 ++ [(⟨(rd_T73 x16 x18).f0, t247, t250⟩ : S73)]) x245005) else (none)))) else (none)) else (none)) else (some (x245000, x245001, x245002, x245003, x245004, x245005))
def impl_Mem_clone.f (k : Nat) (l0_0 : List ByteArray) (l0_1 : List Int) (l0_2 : List ByteArray) (l0_3 : List Int) (l0_4 : List (S73)) (a0_5 : Int) : Option (List ByteArray × List Int × List ByteArray × List Int × (List (S73)) × Int) := (impl_Pages_clone.f l0_0 l0_1).bind fun bt232 => ((impl_Pages_clone.f l0_2 l0_3).bind fun bt238 => (impl_Mem_clone.l0 k l0_4 (l0_4.length : Int) 0 bt232.1 bt232.2 bt238.1 bt238.2 ([] : List (S73)) a0_5))
theorem impl_Mem_clone.mono_l : ∀ k, (∀ y0 y1 y2 y3 y4 y5 y6 y7 y8, LeO (impl_Mem_clone.l0 k y0 y1 y2 y3 y4 y5 y6 y7 y8) (impl_Mem_clone.l0 (k + 1) y0 y1 y2 y3 y4 y5 y6 y7 y8))
 | 0 => fun _ _ _ _ _ _ _ _ _ r h => by simp [impl_Mem_clone.l0] at h
 | k + 1 => by
  have ih0 := impl_Mem_clone.mono_l k
  ·intro y0 y1 y2 y3 y4 y5 y6 y7 y8
   unfold impl_Mem_clone.l0
   repeat' first
   | (with_reducible exact ih0 _ _ _ _ _ _ _ _ _)
   | (with_reducible exact LeO.refl _)
   | (with_reducible exact LeO.none _)
   | (with_reducible refine LeO.ite ?_ ?_)
   | (with_reducible refine LeO.bind ?_ (fun _ => ?_))
   | exact ih0 _ _ _ _ _ _ _ _ _
   | exact LeO.none _
   | refine LeO.ite ?_ ?_
   | refine LeO.bind ?_ (fun _ => ?_)
theorem impl_Mem_clone.mono : ∀ a0 a1 a2 a3 a4 a5 k, LeO (impl_Mem_clone.f k a0 a1 a2 a3 a4 a5) (impl_Mem_clone.f (k + 1) a0 a1 a2 a3 a4 a5) := by
 intro a0 a1 a2 a3 a4 a5 k
 have ih0 := impl_Mem_clone.mono_l k
 unfold impl_Mem_clone.f
 repeat' first
   | (with_reducible exact ih0 _ _ _ _ _ _ _ _ _)
   | (with_reducible exact LeO.refl _)
   | (with_reducible exact LeO.none _)
   | (with_reducible refine LeO.ite ?_ ?_)
   | (with_reducible refine LeO.bind ?_ (fun _ => ?_))
   | exact ih0 _ _ _ _ _ _ _ _ _
   | exact LeO.none _
   | refine LeO.ite ?_ ?_
   | refine LeO.bind ?_ (fun _ => ?_)
def impl_Mem_clone.T1 : Bool × List (List Nat × List Nat) := (true, [([], []), ([0], [0]), ([1], [1]), ([], []), ([3], [3]), ([4, 2], [4]), ([], []), ([6], [6]), ([2, 5, 7], [2, 5, 7]), ([], []), ([9, 8, 5, 0, 1, 2, 3, 4, 5, 6, 7, 8, 9], [8, 9])])
def impl_Mem_clone.B1 : List Nat := [0, 1, 3, 0, 8, 31, 0, 64, 255, 0, 1023]
theorem impl_Mem_clone.tab1 : rtab .any (opsOf Try.f34 1) = impl_Mem_clone.T1 := by kernel_rfl
theorem impl_Mem_clone.bits1 : waitsOk impl_Mem_clone.T1.2 impl_Mem_clone.B1 = true := by kernel_rfl
def impl_Mem_clone.T5 : Bool × List (List Nat × List Nat) := (true, [([], []), ([0], [0]), ([], []), ([2], [2]), ([], []), ([4], [4]), ([5], [5]), ([], []), ([7], [7]), ([8, 6], [8]), ([3, 6, 9], [3, 6, 9]), ([10], [10]), ([1, 11, 9], [1, 11]), ([0, 1, 2, 3, 4, 5, 6, 7, 8, 9, 10, 11, 12], []), ([13, 12, 12, 0, 1, 2, 3, 4, 5, 6, 7, 8, 9, 10, 11, 12], [12, 13])])
def impl_Mem_clone.B5 : List Nat := [0, 1, 0, 4, 0, 16, 48, 0, 128, 496, 1020, 2044, 4095, 8191, 16383]
theorem impl_Mem_clone.tab5 : rtab .any (opsOf Try.f34 5) = impl_Mem_clone.T5 := by kernel_rfl
theorem impl_Mem_clone.bits5 : waitsOk impl_Mem_clone.T5.2 impl_Mem_clone.B5 = true := by kernel_rfl
abbrev impl_Mem_clone.q0 : Array Bool := #[false, false, false, false, false, false, false, false, false, false, false]
abbrev impl_Mem_clone.q1 : Array Bool := #[true, false, false, false, false, false, false, false, false, false, false]
abbrev impl_Mem_clone.q2 : Array Bool := #[true, false, false, true, false, false, false, false, false, false, false]
abbrev impl_Mem_clone.q3 : Array Bool := #[true, false, false, true, false, false, true, false, false, false, false]
abbrev impl_Mem_clone.q4 : Array Bool := #[true, true, false, true, false, false, true, false, false, false, false]
abbrev impl_Mem_clone.q5 : Array Bool := #[true, true, false, true, true, false, true, false, false, false, false]
abbrev impl_Mem_clone.q6 : Array Bool := #[true, true, false, true, true, false, true, true, false, false, false]
abbrev impl_Mem_clone.q7 : Array Bool := #[true, true, true, true, true, true, true, true, true, true, false]
abbrev impl_Mem_clone.q8 : Array Bool := #[true, true, true, true, true, false, true, true, false, false, false]
abbrev impl_Mem_clone.q9 : Array Bool := #[true, true, false, true, true, false, true, true, false, true, false]
abbrev impl_Mem_clone.q10 : Array Bool := #[true, true, true, true, true, true, true, true, false, false, false]
abbrev impl_Mem_clone.q11 : Array Bool := #[true, true, true, true, true, false, true, true, false, true, false]
abbrev impl_Mem_clone.q12 : Array Bool := #[true, true, true, true, true, true, true, true, true, false, false]
abbrev impl_Mem_clone.q13 : Array Bool := #[true, true, true, true, true, true, true, true, false, true, false]
abbrev impl_Mem_clone.q14 : Array Bool := #[true, true, true, true, true, true, true, true, true, true, true]
abbrev impl_Mem_clone.q15 : Array Bool := #[false, false, false, false, false, false, false, false, false, false, false, false, false, false, false]
abbrev impl_Mem_clone.q16 : Array Bool := #[true, false, false, false, false, false, false, false, false, false, false, false, false, false, false]
abbrev impl_Mem_clone.q17 : Array Bool := #[true, false, true, false, false, false, false, false, false, false, false, false, false, false, false]
abbrev impl_Mem_clone.q18 : Array Bool := #[true, false, true, false, true, false, false, false, false, false, false, false, false, false, false]
abbrev impl_Mem_clone.q19 : Array Bool := #[true, false, true, false, true, false, false, true, false, false, false, false, false, false, false]
abbrev impl_Mem_clone.q20 : Array Bool := #[true, true, true, false, true, false, false, true, false, false, false, false, false, false, false]
abbrev impl_Mem_clone.q21 : Array Bool := #[true, true, true, true, true, false, false, true, false, false, false, false, false, false, false]
abbrev impl_Mem_clone.q22 : Array Bool := #[true, true, true, true, true, true, false, true, false, false, false, false, false, false, false]
abbrev impl_Mem_clone.q23 : Array Bool := #[true, true, true, true, true, true, false, true, true, false, false, false, false, false, false]
abbrev impl_Mem_clone.q24 : Array Bool := #[true, true, true, true, true, true, true, true, true, false, false, false, false, false, false]
abbrev impl_Mem_clone.q25 : Array Bool := #[true, true, true, true, true, true, true, true, true, true, false, false, false, false, false]
abbrev impl_Mem_clone.q26 : Array Bool := #[true, true, true, true, true, true, true, true, true, true, true, false, false, false, false]
abbrev impl_Mem_clone.q27 : Array Bool := #[true, true, true, true, true, true, true, true, true, true, true, true, false, false, false]
abbrev impl_Mem_clone.q28 : Array Bool := #[true, true, true, true, true, true, true, true, true, true, true, true, true, false, false]
abbrev impl_Mem_clone.q29 : Array Bool := #[true, true, true, true, true, true, true, true, true, true, true, true, true, true, false]
abbrev impl_Mem_clone.q30 : Array Bool := #[true, true, true, true, true, true, true, true, true, true, true, true, true, true, true]
set_option maxHeartbeats 2000000 in
set_option maxRecDepth 100000 in
theorem impl_Mem_clone.calls (k : Nat) (A0_0 : Option Addr) (c0_0 : Nat) (l0_0 : List ByteArray) (A0_1 : Option Addr) (c0_1 : Nat) (l0_1 : List Int) (A0_2 : Option Addr) (c0_2 : Nat) (l0_2 : List ByteArray) (A0_3 : Option Addr) (c0_3 : Nat) (l0_3 : List Int) (A0_4 : Option Addr) (c0_4 : Nat) (l0_4 : List (S73)) (a0_5 : Int) (r1 : List ByteArray) (r2 : List Int) (r3 : List ByteArray) (r4 : List Int) (r5 : List (S73)) (r6 : Int) (w : World) (hr0_0 : Kd.C Kd.string w A0_0 l0_0.length l0_0) (hc0_0 : l0_0.length ≤ c0_0) (hr0_1 : Kd.C (Kd.int .i64) w A0_1 l0_1.length l0_1) (hc0_1 : l0_1.length ≤ c0_1) (hr0_2 : Kd.C Kd.string w A0_2 l0_2.length l0_2) (hc0_2 : l0_2.length ≤ c0_2) (hr0_3 : Kd.C (Kd.int .i64) w A0_3 l0_3.length l0_3) (hc0_3 : l0_3.length ≤ c0_3) (hr0_4 : Kd.C k73 w A0_4 l0_4.length l0_4) (hc0_4 : l0_4.length ≤ c0_4) (h : impl_Mem_clone.f k l0_0 l0_1 l0_2 l0_3 l0_4 a0_5 = some (r1, r2, r3, r4, r5, r6)) :
  Calls Try.prog 34 #[.agg #[.slice A0_0 l0_0.length c0_0, .slice A0_1 l0_1.length c0_1, .slice A0_2 l0_2.length c0_2, .slice A0_3 l0_3.length c0_3, .slice A0_4 l0_4.length c0_4, .int .i64 a0_5]] w fun e w' => ∃ v0_ v1_ v2_ v3_ v4_ : Value, e = .returned (.agg #[v0_, v1_, v2_, v3_, v4_, .int .i64 r6]) ∧ Kd.R Kd.string 9 w' w.heap.size (fun k_ => some k_ ≠ (v2_ : Value).ownBlock) v0_ r1 ∧ Kd.R (Kd.int .i64) 3 w' w.heap.size (fun k_ => some k_ ≠ (v3_ : Value).ownBlock) v1_ r2 ∧ Kd.R Kd.string 9 w' w.heap.size (fun k_ => some k_ ≠ (v0_ : Value).ownBlock) v2_ r3 ∧ Kd.R (Kd.int .i64) 3 w' w.heap.size (fun k_ => some k_ ≠ (v1_ : Value).ownBlock) v3_ r4 ∧ Kd.S k73 73 w' w.heap.size (fun _ => True) v4_ r5 ∧ Below w.heap.size w w' := by
 have hu38 := Try.underlying38
 have hu35 := Try.underlying35
 have hu73 := Try.underlying73
 have HR0_0 := Am hr0_0
 have HC0_0 := Am hc0_0
 clear hr0_0 hc0_0
 have HR0_1 := Am hr0_1
 have HC0_1 := Am hc0_1
 clear hr0_1 hc0_1
 have HR0_2 := Am hr0_2
 have HC0_2 := Am hc0_2
 clear hr0_2 hc0_2
 have HR0_3 := Am hr0_3
 have HC0_3 := Am hc0_3
 clear hr0_3 hc0_3
 have HR0_4 := Am hr0_4
 have HC0_4 := Am hc0_4
 clear hr0_4 hc0_4
 have HB := Am (Below.refl w.heap.size w)
 have H : ((impl_Pages_clone.f l0_0 l0_1).bind fun bt232 => ((impl_Pages_clone.f l0_2 l0_3).bind fun bt238 => (impl_Mem_clone.l0 k l0_4 (l0_4.length : Int) 0 bt232.1 bt232.2 bt238.1 bt238.2 ([] : List (S73)) a0_5))) = some (r1, r2, r3, r4, r5, r6) := h
 clear h
 replace H := Option.bind_eq_some_iff.mp H
 obtain ⟨⟨t232, t235⟩, A20, H⟩ := H
 replace H : ((impl_Pages_clone.f l0_2 l0_3).bind fun bt238 => (impl_Mem_clone.l0 k l0_4 (l0_4.length : Int) 0 t232 t235 bt238.1 bt238.2 ([] : List (S73)) a0_5)) = some (r1, r2, r3, r4, r5, r6) := H
 have A2 := Am A20
 clear A20
 replace H := Option.bind_eq_some_iff.mp H
 obtain ⟨⟨t238, t241⟩, A30, H⟩ := H
 replace H : (impl_Mem_clone.l0 k l0_4 (l0_4.length : Int) 0 t232 t235 t238 t241 ([] : List (S73)) a0_5) = some (r1, r2, r3, r4, r5, r6) := H
 have A3 := Am A30
 clear A30
 have H' := Am H
 clear H
 go_enter Try.func34, Try.ntmps34
 try go_wp2_with (first | ((with_reducible refine gate_dst (N := 1) rfl ?_); refine box_event ?hg (N := 1) ?hd (cs := #[.slice A0_0 l0_0.length c0_0, .slice A0_1 l0_1.length c0_1, .slice A0_2 l0_2.length c0_2, .slice A0_3 l0_3.length c0_3, .slice A0_4 l0_4.length c0_4, .int .i64 a0_5]) (t := 38) ?hr ?_; (case hd => rfl); (case hg => rfl); (case hr => first | (go_simp; done) | (go_simp; rfl)); intro gb230 hg w4 hbox hb; have n0_ := Am (bP (by repeat (first | (with_reducible first | exact HB.out | apply oA | apply pN | apply o1) | exact HB.out)) hb); have n1_ := Am (hbox); have n2_ := Am ((by rw [hg]; exact (bZ (by repeat (first | (with_reducible first | exact HB.out | apply oA | apply pN | apply o1) | exact HB.out))) : w.heap.size ≤ gb230)); have n3_ := Am ((by rw [hg]; exact (bZ (by repeat (first | (with_reducible first | exact HB.out | apply oA | apply pN | apply o1) | exact HB.out))) : w.heap.size ≤ gb230)); clear HB; have HB := n0_; have BK230 := n1_; have GW230 := n2_; have GE230 := n3_; clear n0_ n1_ n2_ n3_; clear hb hbox hg) | ((with_reducible refine gate_dst (N := 2) rfl ?_); refine box_event ?hg (N := 2) ?hd (cs := #[.slice none 0 0, .slice none 0 0, .slice none 0 0, .slice none 0 0, .slice none 0 0, .int .i64 0]) (t := 38) ?hr ?_; (case hd => rfl); (case hg => rfl); (case hr => first | (go_simp; done) | (go_simp; rfl)); intro gb231 hg w5 hbox hb; have n0_ := Am (bB (g := gb230) (o := .cells #[.slice A0_0 l0_0.length c0_0, .slice A0_1 l0_1.length c0_1, .slice A0_2 l0_2.length c0_2, .slice A0_3 l0_3.length c0_3, .slice A0_4 l0_4.length c0_4, .int .i64 a0_5] 38 (0, 0)) (by (with_reducible repeat (first | refine bN ?_ _ | refine bD ?_ | refine bA ?_ _)); exact BK230.out) hb); have n1_ := Am (bP (by repeat (first | (with_reducible first | exact HB.out | apply oA | apply pN | apply o1 | refine bS ?_ GE230.out) | exact HB.out)) hb); have n2_ := Am (hbox); have n3_ := Am ((by rw [hg]; exact (bZ (by repeat (first | (with_reducible first | exact HB.out | apply oA | apply pN | apply o1 | refine bS ?_ GE230.out) | exact HB.out))) : w.heap.size ≤ gb231)); have n4_ := Am ((by rw [hg]; exact (bZ (by repeat (first | (with_reducible first | exact HB.out | apply oA | apply pN | apply o1 | refine bS ?_ GE230.out) | exact HB.out))) : w.heap.size ≤ gb231)); have n5_ := Am ((by rw [hg]; exact Nat.ne_of_lt (blk_lt (g := gb230) (o := .cells #[.slice A0_0 l0_0.length c0_0, .slice A0_1 l0_1.length c0_1, .slice A0_2 l0_2.length c0_2, .slice A0_3 l0_3.length c0_3, .slice A0_4 l0_4.length c0_4, .int .i64 a0_5] 38 (0, 0)) (by (with_reducible repeat (first | refine bN ?_ _ | refine bD ?_ | refine bA ?_ _)); exact BK230.out)) : gb230 ≠ gb231)); have n6_ := Am ((by rw [hg]; exact Nat.ne_of_gt (blk_lt (g := gb230) (o := .cells #[.slice A0_0 l0_0.length c0_0, .slice A0_1 l0_1.length c0_1, .slice A0_2 l0_2.length c0_2, .slice A0_3 l0_3.length c0_3, .slice A0_4 l0_4.length c0_4, .int .i64 a0_5] 38 (0, 0)) (by (with_reducible repeat (first | refine bN ?_ _ | refine bD ?_ | refine bA ?_ _)); exact BK230.out)) : gb231 ≠ gb230)); clear BK230; clear HB; have BK230 := n0_; have HB := n1_; have BK231 := n2_; have GW231 := n3_; have GE231 := n4_; have NB230_231 := n5_; have NB231_230 := n6_; clear n0_ n1_ n2_ n3_ n4_ n5_ n6_; clear hb hbox hg))
 have n0_ := Am (bD BK230.out)
 have n1_ := Am (bD BK231.out)
 have n2_ := Am (o1 HB.out)
 clear BK230
 clear BK231
 clear HB
 have BK230 := n0_
 have BK231 := n1_
 have HB := n2_
 clear n0_ n1_ n2_
 refine start_ (n := 11) (S := fun w' => w'.cell? ⟨gb230, 0, none⟩ = some (.slice A0_0 l0_0.length c0_0) ∧ w'.cell? ⟨gb230, 1, none⟩ = some (.slice A0_1 l0_1.length c0_1) ∧ w'.cell? ⟨gb230, 2, none⟩ = some (.slice A0_2 l0_2.length c0_2) ∧ w'.cell? ⟨gb230, 3, none⟩ = some (.slice A0_3 l0_3.length c0_3) ∧ w'.cell? ⟨gb230, 4, none⟩ = some (.slice A0_4 l0_4.length c0_4) ∧ w'.cell? ⟨gb230, 5, none⟩ = some (.int .i64 a0_5)) (ds := []) impl_Mem_clone.q0 (by kernel_rfl) rfl rfl ⟨(bC BK230.out 0).trans rfl, (bC BK230.out 1).trans rfl, (bC BK230.out 2).trans rfl, (bC BK230.out 3).trans rfl, (bC BK230.out 4).trans rfl, (bC BK230.out 5).trans rfl⟩ (fun hHeld => ?_); refine with_tabW impl_Mem_clone.tab1 impl_Mem_clone.bits1 (fun HT_ HW_ => ?_)
 generalize w5.drew = w6 at BK230 BK231 HB hHeld ⊢
 refine pure_ (i := 0) (N := some 6) (v := ?_) (a' := ?_) impl_Mem_clone.q1 rfl rfl (any_of HT_.out (by kernel_rfl)) (fun _ _ _ h => h) (Or.inl ⟨by rfl, ?_⟩) ?_ ?_
 rotate_left
 ·intro w'
  go_simp
  with_reducible rfl
 rotate_left
 ·simp only [Act.put, lA, lZ, lS, i64_w, i32_w]
  rfl
 refine pure_ (i := 3) (N := some 9) (v := ?_) (a' := ?_) impl_Mem_clone.q2 rfl rfl (any_of HT_.out (by kernel_rfl)) (fun _ _ _ h => h) (Or.inl ⟨by rfl, ?_⟩) ?_ ?_
 rotate_left
 ·intro w'
  go_simp
  with_reducible rfl
 rotate_left
 ·simp only [Act.put, lA, lZ, lS, i64_w, i32_w]
  rfl
 refine pure_ (i := 6) (N := some 12) (v := ?_) (a' := ?_) impl_Mem_clone.q3 rfl rfl (any_of HT_.out (by kernel_rfl)) (fun _ _ _ h => h) (Or.inl ⟨by rfl, ?_⟩) ?_ ?_
 rotate_left
 ·intro w'
  go_simp
  with_reducible rfl
 rotate_left
 ·simp only [Act.put, lA, lZ, lS, i64_w, i32_w]
  rfl
 refine take_ (i := 1) (N := some 7) (v := ?_) (a' := ?_) impl_Mem_clone.q4 rfl rfl (take_ofW HT_.out HW_.out (by kernel_rfl)) (fun _ _ _ h => h) (Or.inl ⟨by rfl, ?_⟩) hHeld ?_ ?_
 rotate_left
 ·rintro w' ⟨s0, s1, s2, s3, s4, s5⟩
  go_simp
  with_reducible rfl
 rotate_left
 ·simp only [Act.put, lA, lZ, lS, i64_w, i32_w]
  rfl
 refine take_ (i := 4) (N := some 10) (v := ?_) (a' := ?_) impl_Mem_clone.q5 rfl rfl (take_ofW HT_.out HW_.out (by kernel_rfl)) (fun _ _ _ h => h) (Or.inl ⟨by rfl, ?_⟩) hHeld ?_ ?_
 rotate_left
 ·rintro w' ⟨s0, s1, s2, s3, s4, s5⟩
  go_simp
  with_reducible rfl
 rotate_left
 ·simp only [Act.put, lA, lZ, lS, i64_w, i32_w]
  rfl
 refine take_ (i := 7) (N := some 13) (v := ?_) (a' := ?_) impl_Mem_clone.q6 rfl rfl (take_ofW HT_.out HW_.out (by kernel_rfl)) (fun _ _ _ h => h) (Or.inl ⟨by rfl, ?_⟩) hHeld ?_ ?_
 rotate_left
 ·rintro w' ⟨s0, s1, s2, s3, s4, s5⟩
  go_simp
  with_reducible rfl
 rotate_left
 ·simp only [Act.put, lA, lZ, lS, i64_w, i32_w]
  rfl
 refine join_ (σ := Value × Value × Value × Value × Nat) 1 impl_Mem_clone.q7 (fun s_ => [(8, .agg #[s_.1, s_.2.1]), (11, .agg #[s_.2.2.1, s_.2.2.2.1]), (3, .pointer (some ⟨s_.2.2.2.2, 0, none⟩)), (14, .agg #[s_.1, s_.2.1, s_.2.2.1, s_.2.2.2.1, .slice none 0 0, .int .i64 a0_5])]) (fun s_ w' => (w'.cell? ⟨gb230, 0, none⟩ = some (.slice A0_0 l0_0.length c0_0) ∧ w'.cell? ⟨gb230, 1, none⟩ = some (.slice A0_1 l0_1.length c0_1) ∧ w'.cell? ⟨gb230, 2, none⟩ = some (.slice A0_2 l0_2.length c0_2) ∧ w'.cell? ⟨gb230, 3, none⟩ = some (.slice A0_3 l0_3.length c0_3) ∧ w'.cell? ⟨gb230, 4, none⟩ = some (.slice A0_4 l0_4.length c0_4) ∧ w'.cell? ⟨gb230, 5, none⟩ = some (.int .i64 a0_5)) ∧ (Kd.R Kd.string 9 w' w.heap.size (fun k_ => some k_ ≠ (s_.2.2.1 : Value).ownBlock) s_.1 t232) ∧ (Kd.R (Kd.int .i64) 3 w' w.heap.size (fun k_ => some k_ ≠ (s_.2.2.2.1 : Value).ownBlock) s_.2.1 t235) ∧ (Kd.R Kd.string 9 w' w.heap.size (fun k_ => some k_ ≠ (s_.1 : Value).ownBlock) s_.2.2.1 t238) ∧ (Kd.R (Kd.int .i64) 3 w' w.heap.size (fun k_ => some k_ ≠ (s_.2.1 : Value).ownBlock) s_.2.2.2.1 t241) ∧ (w'.heap[gb230]? = some (.cells #[.slice A0_0 l0_0.length c0_0, .slice A0_1 l0_1.length c0_1, .slice A0_2 l0_2.length c0_2, .slice A0_3 l0_3.length c0_3, .slice A0_4 l0_4.length c0_4, .int .i64 a0_5] 38 (0, 0))) ∧ (w'.heap[gb231]? = some (.cells #[.slice none 0 0, .slice none 0 0, .slice none 0 0, .slice none 0 0, .slice none 0 0, .int .i64 0] 38 (0, 0))) ∧ (w'.heap[s_.2.2.2.2]? = some (.cells #[.slice none 0 0, .slice none 0 0, .slice none 0 0, .slice none 0 0, .slice none 0 0, .int .i64 0] 38 (0, 0))) ∧ (w.heap.size ≤ s_.2.2.2.2) ∧ (w.heap.size ≤ s_.2.2.2.2) ∧ (gb230 ≠ s_.2.2.2.2) ∧ (s_.2.2.2.2 ≠ gb230) ∧ (gb231 ≠ s_.2.2.2.2) ∧ (s_.2.2.2.2 ≠ gb231) ∧ (Below w.heap.size w w')) ?_ ?_
 rotate_left
 ·intro hCont
  refine two_ (i := 2) (j := 9) (Ni := some 8) (Nj := some 3) impl_Mem_clone.q8 impl_Mem_clone.q9 rfl rfl rfl rfl (two_of HT_.out (by kernel_rfl)) (by decide) (by decide) (fun K hK => ?_) (fun K hK => ?_)
  ·skip
   refine goes_ Try.func62 (by kernel_rfl) rfl #[.agg #[.slice A0_0 l0_0.length c0_0, .slice A0_1 l0_1.length c0_1]] (by rfl) rfl rfl (by (try simp only [lM, lC, lN]); first | done | rfl | (simp only [lD, lT]; rfl)) ?_
   with_reducible refine (impl_Pages_clone.calls _ _ l0_0 _ _ l0_1 t232 t235 _ ?side1 ?side2 ?side3 ?side4 A2.out).mono ?_
   (case side1 => repeat (first | exact (cB HR0_0.out HB.out) | (with_reducible refine cA ?_ _) | (with_reducible refine cN ?_ _) | (with_reducible refine cD ?_)))
   (case side2 => exact HC0_0.out)
   (case side3 => repeat (first | exact (cB HR0_1.out HB.out) | (with_reducible refine cA ?_ _) | (with_reducible refine cN ?_ _) | (with_reducible refine cD ?_)))
   (case side4 => exact HC0_1.out)
   rintro e w7 ⟨v233, v236, rfl, ho0, ho1, hb⟩
   refine ⟨_, rfl, ?_⟩
   have n0_ := Am (Kd.R_lower ho0 (bZ (by repeat (first | (with_reducible first | exact HB.out | apply oA | apply pN | apply o1 | refine bS ?_ GE230.out | refine bS ?_ GE231.out) | exact HB.out))))
   have n1_ := Am (Kd.R_lower ho1 (bZ (by repeat (first | (with_reducible first | exact HB.out | apply oA | apply pN | apply o1 | refine bS ?_ GE230.out | refine bS ?_ GE231.out) | exact HB.out))))
   have n2_ := Am (bB (g := gb230) (o := .cells #[.slice A0_0 l0_0.length c0_0, .slice A0_1 l0_1.length c0_1, .slice A0_2 l0_2.length c0_2, .slice A0_3 l0_3.length c0_3, .slice A0_4 l0_4.length c0_4, .int .i64 a0_5] 38 (0, 0)) (by (with_reducible repeat (first | refine bN ?_ _ | refine bD ?_ | refine bA ?_ _)); exact BK230.out) hb)
   have n3_ := Am (bB (g := gb231) (o := .cells #[.slice none 0 0, .slice none 0 0, .slice none 0 0, .slice none 0 0, .slice none 0 0, .int .i64 0] 38 (0, 0)) (by (with_reducible repeat (first | refine bN ?_ _ | refine bD ?_ | refine bA ?_ _)); exact BK231.out) hb)
   have n4_ := Am (bP (by repeat (first | (with_reducible first | exact HB.out | apply oA | apply pN | apply o1 | refine bS ?_ GE230.out | refine bS ?_ GE231.out) | exact HB.out)) hb)
   clear BK230
   clear BK231
   clear HB
   have HO234 := n0_
   have HO237 := n1_
   have BK230 := n2_
   have BK231 := n3_
   have HB := n4_
   clear n0_ n1_ n2_ n3_ n4_
   (try clear hb)
   (try clear hb2)
   (try clear hk)
   (try clear hi)
   (try clear ho0)
   (try clear ho1)
   refine hK.out _ _ ⟨(bC BK230.out 0).trans rfl, (bC BK230.out 1).trans rfl, (bC BK230.out 2).trans rfl, (bC BK230.out 3).trans rfl, (bC BK230.out 4).trans rfl, (bC BK230.out 5).trans rfl⟩ (fun hHeld => ?_)
   clear hK K
   refine norm_ (a' := ?_) ?_ ?_
   rotate_left
   ·show Act.put _ (some 8) _ = _
    simp only [Act.put, lA, lZ, lS, i64_w, i32_w]
    rfl
   refine two_ (i := 5) (j := 9) (Ni := some 11) (Nj := some 3) impl_Mem_clone.q10 impl_Mem_clone.q11 rfl rfl rfl rfl (two_of HT_.out (by kernel_rfl)) (by decide) (by decide) (fun K hK => ?_) (fun K hK => ?_)
   ·skip
    refine goes_ Try.func62 (by kernel_rfl) rfl #[.agg #[.slice A0_2 l0_2.length c0_2, .slice A0_3 l0_3.length c0_3]] (by rfl) rfl rfl (by (try simp only [lM, lC, lN]); first | done | rfl | (simp only [lD, lT]; rfl)) ?_
    with_reducible refine (impl_Pages_clone.calls _ _ l0_2 _ _ l0_3 t238 t241 _ ?side1 ?side2 ?side3 ?side4 A3.out).mono ?_
    (case side1 => repeat (first | exact (cB HR0_2.out HB.out) | (with_reducible refine cA ?_ _) | (with_reducible refine cN ?_ _) | (with_reducible refine cD ?_)))
    (case side2 => exact HC0_2.out)
    (case side3 => repeat (first | exact (cB HR0_3.out HB.out) | (with_reducible refine cA ?_ _) | (with_reducible refine cN ?_ _) | (with_reducible refine cD ?_)))
    (case side4 => exact HC0_3.out)
    rintro e w8 ⟨v239, v242, rfl, ho0, ho1, hb⟩
    refine ⟨_, rfl, ?_⟩
    have n0_ := Am (Kd.R_elder' (by (with_reducible repeat (first | apply rA | apply rN | apply rD)); exact HO234.out) (Kd.R_base ho0) hb)
    have n1_ := Am (Kd.R_elder' (by (with_reducible repeat (first | apply rA | apply rN | apply rD)); exact HO237.out) (Kd.R_base ho1) hb)
    have n2_ := Am (Kd.R_lower (Kd.R_new' ho0 (Kd.R_lt (by (with_reducible repeat (first | apply rA | apply rN | apply rD)); exact HO234.out))) (bZ (by repeat (first | (with_reducible first | exact HB.out | apply oA | apply pN | apply o1 | refine bS ?_ GE230.out | refine bS ?_ GE231.out) | exact HB.out))))
    have n3_ := Am (Kd.R_lower (Kd.R_new' ho1 (Kd.R_lt (by (with_reducible repeat (first | apply rA | apply rN | apply rD)); exact HO237.out))) (bZ (by repeat (first | (with_reducible first | exact HB.out | apply oA | apply pN | apply o1 | refine bS ?_ GE230.out | refine bS ?_ GE231.out) | exact HB.out))))
    have n4_ := Am (bB (g := gb230) (o := .cells #[.slice A0_0 l0_0.length c0_0, .slice A0_1 l0_1.length c0_1, .slice A0_2 l0_2.length c0_2, .slice A0_3 l0_3.length c0_3, .slice A0_4 l0_4.length c0_4, .int .i64 a0_5] 38 (0, 0)) (by (with_reducible repeat (first | refine bN ?_ _ | refine bD ?_ | refine bA ?_ _)); exact BK230.out) hb)
    have n5_ := Am (bB (g := gb231) (o := .cells #[.slice none 0 0, .slice none 0 0, .slice none 0 0, .slice none 0 0, .slice none 0 0, .int .i64 0] 38 (0, 0)) (by (with_reducible repeat (first | refine bN ?_ _ | refine bD ?_ | refine bA ?_ _)); exact BK231.out) hb)
    have n6_ := Am (bP (by repeat (first | (with_reducible first | exact HB.out | apply oA | apply pN | apply o1 | refine bS ?_ GE230.out | refine bS ?_ GE231.out) | exact HB.out)) hb)
    clear HO234
    clear HO237
    clear BK230
    clear BK231
    clear HB
    have HO234 := n0_
    have HO237 := n1_
    have HO240 := n2_
    have HO243 := n3_
    have BK230 := n4_
    have BK231 := n5_
    have HB := n6_
    clear n0_ n1_ n2_ n3_ n4_ n5_ n6_
    (try clear hb)
    (try clear hb2)
    (try clear hk)
    (try clear hi)
    (try clear ho0)
    (try clear ho1)
    obtain ⟨Ao9, co9, eo9⟩ := Kd.R_slice HO243.out
    (first | subst eo9 | (injection eo9 with f1_ f2_ f3_; have f4_ := f1_.symm; have f5_ := f3_.symm; clear f1_ f2_ f3_; subst f4_; subst f5_))
    obtain ⟨Ao10, co10, eo10⟩ := Kd.R_slice HO240.out
    (first | subst eo10 | (injection eo10 with f1_ f2_ f3_; have f4_ := f1_.symm; have f5_ := f3_.symm; clear f1_ f2_ f3_; subst f4_; subst f5_))
    obtain ⟨Ao11, co11, eo11⟩ := Kd.R_slice HO237.out
    (first | subst eo11 | (injection eo11 with f1_ f2_ f3_; have f4_ := f1_.symm; have f5_ := f3_.symm; clear f1_ f2_ f3_; subst f4_; subst f5_))
    obtain ⟨Ao12, co12, eo12⟩ := Kd.R_slice HO234.out
    (first | subst eo12 | (injection eo12 with f1_ f2_ f3_; have f4_ := f1_.symm; have f5_ := f3_.symm; clear f1_ f2_ f3_; subst f4_; subst f5_))
    refine hK.out _ _ ⟨(bC BK230.out 0).trans rfl, (bC BK230.out 1).trans rfl, (bC BK230.out 2).trans rfl, (bC BK230.out 3).trans rfl, (bC BK230.out 4).trans rfl, (bC BK230.out 5).trans rfl⟩ (fun hHeld => ?_)
    clear hK K
    refine norm_ (a' := ?_) ?_ ?_
    rotate_left
    ·show Act.put _ (some 11) _ = _
     simp only [Act.put, lA, lZ, lS, i64_w, i32_w]
     rfl
    refine pure_ (i := 8) (N := some 14) (v := ?_) (a' := ?_) impl_Mem_clone.q12 rfl rfl (any_of HT_.out (by kernel_rfl)) (fun _ _ _ h => h) (Or.inl ⟨by rfl, ?_⟩) ?_ ?_
    rotate_left
    ·intro w'
     go_simp
     with_reducible rfl
    rotate_left
    ·simp only [Act.put, lA, lZ, lS, i64_w, i32_w]
     rfl
    refine one_ (i := 9) (N := some 3) impl_Mem_clone.q7 rfl rfl (one_of HT_.out (by kernel_rfl)) (by decide) (fun K hK => ?_)
    refine box_step ?hg (N := 3) ?hd (cs := #[.slice none 0 0, .slice none 0 0, .slice none 0 0, .slice none 0 0, .slice none 0 0, .int .i64 0]) (t := 38) ?hr ?_; (case hd => rfl); (case hg => rfl); (case hr => first | (go_simp; done) | (go_simp; rfl))
    intro gb244 hg w13 hbox hb
    have n0_ := Am (rB (by (with_reducible repeat (first | apply rA | apply rN | apply rD)); exact HO234.out) hb)
    have n1_ := Am (rB (by (with_reducible repeat (first | apply rA | apply rN | apply rD)); exact HO237.out) hb)
    have n2_ := Am (rB (by (with_reducible repeat (first | apply rA | apply rN | apply rD)); exact HO240.out) hb)
    have n3_ := Am (rB (by (with_reducible repeat (first | apply rA | apply rN | apply rD)); exact HO243.out) hb)
    have n4_ := Am (bB (g := gb230) (o := .cells #[.slice A0_0 l0_0.length c0_0, .slice A0_1 l0_1.length c0_1, .slice A0_2 l0_2.length c0_2, .slice A0_3 l0_3.length c0_3, .slice A0_4 l0_4.length c0_4, .int .i64 a0_5] 38 (0, 0)) (by (with_reducible repeat (first | refine bN ?_ _ | refine bD ?_ | refine bA ?_ _)); exact BK230.out) hb)
    have n5_ := Am (bB (g := gb231) (o := .cells #[.slice none 0 0, .slice none 0 0, .slice none 0 0, .slice none 0 0, .slice none 0 0, .int .i64 0] 38 (0, 0)) (by (with_reducible repeat (first | refine bN ?_ _ | refine bD ?_ | refine bA ?_ _)); exact BK231.out) hb)
    have n6_ := Am (bP (by repeat (first | (with_reducible first | exact HB.out | apply oA | apply pN | apply o1 | refine bS ?_ GE230.out | refine bS ?_ GE231.out) | exact HB.out)) hb)
    have n7_ := Am (hbox)
    have n8_ := Am ((by rw [hg]; exact (bZ (by repeat (first | (with_reducible first | exact HB.out | apply oA | apply pN | apply o1 | refine bS ?_ GE230.out | refine bS ?_ GE231.out) | exact HB.out))) : w.heap.size ≤ gb244))
    have n9_ := Am ((by rw [hg]; exact (bZ (by repeat (first | (with_reducible first | exact HB.out | apply oA | apply pN | apply o1 | refine bS ?_ GE230.out | refine bS ?_ GE231.out) | exact HB.out))) : w.heap.size ≤ gb244))
    have n10_ := Am ((by rw [hg]; exact Nat.ne_of_lt (blk_lt (g := gb230) (o := .cells #[.slice A0_0 l0_0.length c0_0, .slice A0_1 l0_1.length c0_1, .slice A0_2 l0_2.length c0_2, .slice A0_3 l0_3.length c0_3, .slice A0_4 l0_4.length c0_4, .int .i64 a0_5] 38 (0, 0)) (by (with_reducible repeat (first | refine bN ?_ _ | refine bD ?_ | refine bA ?_ _)); exact BK230.out)) : gb230 ≠ gb244))
    have n11_ := Am ((by rw [hg]; exact Nat.ne_of_gt (blk_lt (g := gb230) (o := .cells #[.slice A0_0 l0_0.length c0_0, .slice A0_1 l0_1.length c0_1, .slice A0_2 l0_2.length c0_2, .slice A0_3 l0_3.length c0_3, .slice A0_4 l0_4.length c0_4, .int .i64 a0_5] 38 (0, 0)) (by (with_reducible repeat (first | refine bN ?_ _ | refine bD ?_ | refine bA ?_ _)); exact BK230.out)) : gb244 ≠ gb230))
    have n12_ := Am ((by rw [hg]; exact Nat.ne_of_lt (blk_lt (g := gb231) (o := .cells #[.slice none 0 0, .slice none 0 0, .slice none 0 0, .slice none 0 0, .slice none 0 0, .int .i64 0] 38 (0, 0)) (by (with_reducible repeat (first | refine bN ?_ _ | refine bD ?_ | refine bA ?_ _)); exact BK231.out)) : gb231 ≠ gb244))
    have n13_ := Am ((by rw [hg]; exact Nat.ne_of_gt (blk_lt (g := gb231) (o := .cells #[.slice none 0 0, .slice none 0 0, .slice none 0 0, .slice none 0 0, .slice none 0 0, .int .i64 0] 38 (0, 0)) (by (with_reducible repeat (first | refine bN ?_ _ | refine bD ?_ | refine bA ?_ _)); exact BK231.out)) : gb244 ≠ gb231))
    clear HO234
    clear HO237
    clear HO240
    clear HO243
    clear BK230
    clear BK231
    clear HB
    have HO234 := n0_
    have HO237 := n1_
    have HO240 := n2_
    have HO243 := n3_
    have BK230 := n4_
    have BK231 := n5_
    have HB := n6_
    have BK244 := n7_
    have GW244 := n8_
    have GE244 := n9_
    have NB230_244 := n10_
    have NB244_230 := n11_
    have NB231_244 := n12_
    have NB244_231 := n13_
    clear n0_ n1_ n2_ n3_ n4_ n5_ n6_ n7_ n8_ n9_ n10_ n11_ n12_ n13_
    clear hb hbox hg
    refine hK.out _ _ ⟨(bC BK230.out 0).trans rfl, (bC BK230.out 1).trans rfl, (bC BK230.out 2).trans rfl, (bC BK230.out 3).trans rfl, (bC BK230.out 4).trans rfl, (bC BK230.out 5).trans rfl⟩ (fun hHeld => ?_)
    clear hK K
    refine norm_ (a' := ?_) ?_ ?_
    rotate_left
    ·show Act.put _ (some 3) _ = _
     simp only [Act.put, lA, lZ, lS, i64_w, i32_w]
     rfl
    exact norm_ (by simp only [putAll, Act.put, lA, lZ, lS]) (hCont (.slice Ao12 t232.length co12, .slice Ao11 t235.length co11, .slice Ao10 t238.length co10, .slice Ao9 t241.length co9, gb244) _ ⟨hHeld, (by (with_reducible repeat (first | apply rA | apply rN | apply rD)); exact rM HO234.out (fun _ hk => hk.2)), (by (with_reducible repeat (first | apply rA | apply rN | apply rD)); exact rM HO237.out (fun _ hk => hk.2)), (by (with_reducible repeat (first | apply rA | apply rN | apply rD)); exact rM HO240.out (fun _ hk => hk.2)), (by (with_reducible repeat (first | apply rA | apply rN | apply rD)); exact rM HO243.out (fun _ hk => hk.2)), (by (with_reducible repeat (first | refine bN ?_ _ | refine bD ?_ | refine bA ?_ _)); exact BK230.out), (by (with_reducible repeat (first | refine bN ?_ _ | refine bD ?_ | refine bA ?_ _)); exact BK231.out), (by (with_reducible repeat (first | refine bN ?_ _ | refine bD ?_ | refine bA ?_ _)); exact BK244.out), GW244.out, GE244.out, NB230_244.out, NB244_230.out, NB231_244.out, NB244_231.out, (by repeat (first | (with_reducible first | exact HB.out | apply oA | apply pN | apply o1 | refine bS ?_ GE230.out | refine bS ?_ GE231.out | refine bS ?_ GE244.out) | exact HB.out))⟩)
   ·skip
    refine box_step ?hg (N := 3) ?hd (cs := #[.slice none 0 0, .slice none 0 0, .slice none 0 0, .slice none 0 0, .slice none 0 0, .int .i64 0]) (t := 38) ?hr ?_; (case hd => rfl); (case hg => rfl); (case hr => first | (go_simp; done) | (go_simp; rfl))
    intro gb244 hg w8 hbox hb
    have n0_ := Am (rB (by (with_reducible repeat (first | apply rA | apply rN | apply rD)); exact HO234.out) hb)
    have n1_ := Am (rB (by (with_reducible repeat (first | apply rA | apply rN | apply rD)); exact HO237.out) hb)
    have n2_ := Am (bB (g := gb230) (o := .cells #[.slice A0_0 l0_0.length c0_0, .slice A0_1 l0_1.length c0_1, .slice A0_2 l0_2.length c0_2, .slice A0_3 l0_3.length c0_3, .slice A0_4 l0_4.length c0_4, .int .i64 a0_5] 38 (0, 0)) (by (with_reducible repeat (first | refine bN ?_ _ | refine bD ?_ | refine bA ?_ _)); exact BK230.out) hb)
    have n3_ := Am (bB (g := gb231) (o := .cells #[.slice none 0 0, .slice none 0 0, .slice none 0 0, .slice none 0 0, .slice none 0 0, .int .i64 0] 38 (0, 0)) (by (with_reducible repeat (first | refine bN ?_ _ | refine bD ?_ | refine bA ?_ _)); exact BK231.out) hb)
    have n4_ := Am (bP (by repeat (first | (with_reducible first | exact HB.out | apply oA | apply pN | apply o1 | refine bS ?_ GE230.out | refine bS ?_ GE231.out) | exact HB.out)) hb)
    have n5_ := Am (hbox)
    have n6_ := Am ((by rw [hg]; exact (bZ (by repeat (first | (with_reducible first | exact HB.out | apply oA | apply pN | apply o1 | refine bS ?_ GE230.out | refine bS ?_ GE231.out) | exact HB.out))) : w.heap.size ≤ gb244))
    have n7_ := Am ((by rw [hg]; exact (bZ (by repeat (first | (with_reducible first | exact HB.out | apply oA | apply pN | apply o1 | refine bS ?_ GE230.out | refine bS ?_ GE231.out) | exact HB.out))) : w.heap.size ≤ gb244))
    have n8_ := Am ((by rw [hg]; exact Nat.ne_of_lt (blk_lt (g := gb230) (o := .cells #[.slice A0_0 l0_0.length c0_0, .slice A0_1 l0_1.length c0_1, .slice A0_2 l0_2.length c0_2, .slice A0_3 l0_3.length c0_3, .slice A0_4 l0_4.length c0_4, .int .i64 a0_5] 38 (0, 0)) (by (with_reducible repeat (first | refine bN ?_ _ | refine bD ?_ | refine bA ?_ _)); exact BK230.out)) : gb230 ≠ gb244))
    have n9_ := Am ((by rw [hg]; exact Nat.ne_of_gt (blk_lt (g := gb230) (o := .cells #[.slice A0_0 l0_0.length c0_0, .slice A0_1 l0_1.length c0_1, .slice A0_2 l0_2.length c0_2, .slice A0_3 l0_3.length c0_3, .slice A0_4 l0_4.length c0_4, .int .i64 a0_5] 38 (0, 0)) (by (with_reducible repeat (first | refine bN ?_ _ | refine bD ?_ | refine bA ?_ _)); exact BK230.out)) : gb244 ≠ gb230))
    have n10_ := Am ((by rw [hg]; exact Nat.ne_of_lt (blk_lt (g := gb231) (o := .cells #[.slice none 0 0, .slice none 0 0, .slice none 0 0, .slice none 0 0, .slice none 0 0, .int .i64 0] 38 (0, 0)) (by (with_reducible repeat (first | refine bN ?_ _ | refine bD ?_ | refine bA ?_ _)); exact BK231.out)) : gb231 ≠ gb244))
    have n11_ := Am ((by rw [hg]; exact Nat.ne_of_gt (blk_lt (g := gb231) (o := .cells #[.slice none 0 0, .slice none 0 0, .slice none 0 0, .slice none 0 0, .slice none 0 0, .int .i64 0] 38 (0, 0)) (by (with_reducible repeat (first | refine bN ?_ _ | refine bD ?_ | refine bA ?_ _)); exact BK231.out)) : gb244 ≠ gb231))
    clear HO234
    clear HO237
    clear BK230
    clear BK231
    clear HB
    have HO234 := n0_
    have HO237 := n1_
    have BK230 := n2_
    have BK231 := n3_
    have HB := n4_
    have BK244 := n5_
    have GW244 := n6_
    have GE244 := n7_
    have NB230_244 := n8_
    have NB244_230 := n9_
    have NB231_244 := n10_
    have NB244_231 := n11_
    clear n0_ n1_ n2_ n3_ n4_ n5_ n6_ n7_ n8_ n9_ n10_ n11_
    clear hb hbox hg
    refine hK.out _ _ ⟨(bC BK230.out 0).trans rfl, (bC BK230.out 1).trans rfl, (bC BK230.out 2).trans rfl, (bC BK230.out 3).trans rfl, (bC BK230.out 4).trans rfl, (bC BK230.out 5).trans rfl⟩ (fun hHeld => ?_)
    clear hK K
    refine norm_ (a' := ?_) ?_ ?_
    rotate_left
    ·show Act.put _ (some 3) _ = _
     simp only [Act.put, lA, lZ, lS, i64_w, i32_w]
     rfl
    refine one_ (i := 5) (N := some 11) impl_Mem_clone.q13 rfl rfl (one_of HT_.out (by kernel_rfl)) (by decide) (fun K hK => ?_)
    refine goes_ Try.func62 (by kernel_rfl) rfl #[.agg #[.slice A0_2 l0_2.length c0_2, .slice A0_3 l0_3.length c0_3]] (by rfl) rfl rfl (by (try simp only [lM, lC, lN]); first | done | rfl | (simp only [lD, lT]; rfl)) ?_
    with_reducible refine (impl_Pages_clone.calls _ _ l0_2 _ _ l0_3 t238 t241 _ ?side1 ?side2 ?side3 ?side4 A3.out).mono ?_
    (case side1 => repeat (first | exact (cB HR0_2.out HB.out) | (with_reducible refine cA ?_ _) | (with_reducible refine cN ?_ _) | (with_reducible refine cD ?_)))
    (case side2 => exact HC0_2.out)
    (case side3 => repeat (first | exact (cB HR0_3.out HB.out) | (with_reducible refine cA ?_ _) | (with_reducible refine cN ?_ _) | (with_reducible refine cD ?_)))
    (case side4 => exact HC0_3.out)
    rintro e w9 ⟨v239, v242, rfl, ho0, ho1, hb⟩
    refine ⟨_, rfl, ?_⟩
    have n0_ := Am (Kd.R_elder' (by (with_reducible repeat (first | apply rA | apply rN | apply rD)); exact HO234.out) (Kd.R_base ho0) hb)
    have n1_ := Am (Kd.R_elder' (by (with_reducible repeat (first | apply rA | apply rN | apply rD)); exact HO237.out) (Kd.R_base ho1) hb)
    have n2_ := Am (Kd.R_lower (Kd.R_new' ho0 (Kd.R_lt (by (with_reducible repeat (first | apply rA | apply rN | apply rD)); exact HO234.out))) (bZ (by repeat (first | (with_reducible first | exact HB.out | apply oA | apply pN | apply o1 | refine bS ?_ GE230.out | refine bS ?_ GE231.out | refine bS ?_ GE244.out) | exact HB.out))))
    have n3_ := Am (Kd.R_lower (Kd.R_new' ho1 (Kd.R_lt (by (with_reducible repeat (first | apply rA | apply rN | apply rD)); exact HO237.out))) (bZ (by repeat (first | (with_reducible first | exact HB.out | apply oA | apply pN | apply o1 | refine bS ?_ GE230.out | refine bS ?_ GE231.out | refine bS ?_ GE244.out) | exact HB.out))))
    have n4_ := Am (bB (g := gb230) (o := .cells #[.slice A0_0 l0_0.length c0_0, .slice A0_1 l0_1.length c0_1, .slice A0_2 l0_2.length c0_2, .slice A0_3 l0_3.length c0_3, .slice A0_4 l0_4.length c0_4, .int .i64 a0_5] 38 (0, 0)) (by (with_reducible repeat (first | refine bN ?_ _ | refine bD ?_ | refine bA ?_ _)); exact BK230.out) hb)
    have n5_ := Am (bB (g := gb231) (o := .cells #[.slice none 0 0, .slice none 0 0, .slice none 0 0, .slice none 0 0, .slice none 0 0, .int .i64 0] 38 (0, 0)) (by (with_reducible repeat (first | refine bN ?_ _ | refine bD ?_ | refine bA ?_ _)); exact BK231.out) hb)
    have n6_ := Am (bB (g := gb244) (o := .cells #[.slice none 0 0, .slice none 0 0, .slice none 0 0, .slice none 0 0, .slice none 0 0, .int .i64 0] 38 (0, 0)) (by (with_reducible repeat (first | refine bN ?_ _ | refine bD ?_ | refine bA ?_ _)); exact BK244.out) hb)
    have n7_ := Am (bP (by repeat (first | (with_reducible first | exact HB.out | apply oA | apply pN | apply o1 | refine bS ?_ GE230.out | refine bS ?_ GE231.out | refine bS ?_ GE244.out) | exact HB.out)) hb)
    clear HO234
    clear HO237
    clear BK230
    clear BK231
    clear BK244
    clear HB
    have HO234 := n0_
    have HO237 := n1_
    have HO240 := n2_
    have HO243 := n3_
    have BK230 := n4_
    have BK231 := n5_
    have BK244 := n6_
    have HB := n7_
    clear n0_ n1_ n2_ n3_ n4_ n5_ n6_ n7_
    (try clear hb)
    (try clear hb2)
    (try clear hk)
    (try clear hi)
    (try clear ho0)
    (try clear ho1)
    obtain ⟨Ao10, co10, eo10⟩ := Kd.R_slice HO243.out
    (first | subst eo10 | (injection eo10 with f1_ f2_ f3_; have f4_ := f1_.symm; have f5_ := f3_.symm; clear f1_ f2_ f3_; subst f4_; subst f5_))
    obtain ⟨Ao11, co11, eo11⟩ := Kd.R_slice HO240.out
    (first | subst eo11 | (injection eo11 with f1_ f2_ f3_; have f4_ := f1_.symm; have f5_ := f3_.symm; clear f1_ f2_ f3_; subst f4_; subst f5_))
    obtain ⟨Ao12, co12, eo12⟩ := Kd.R_slice HO237.out
    (first | subst eo12 | (injection eo12 with f1_ f2_ f3_; have f4_ := f1_.symm; have f5_ := f3_.symm; clear f1_ f2_ f3_; subst f4_; subst f5_))
    obtain ⟨Ao13, co13, eo13⟩ := Kd.R_slice HO234.out
    (first | subst eo13 | (injection eo13 with f1_ f2_ f3_; have f4_ := f1_.symm; have f5_ := f3_.symm; clear f1_ f2_ f3_; subst f4_; subst f5_))
    refine hK.out _ _ ⟨(bC BK230.out 0).trans rfl, (bC BK230.out 1).trans rfl, (bC BK230.out 2).trans rfl, (bC BK230.out 3).trans rfl, (bC BK230.out 4).trans rfl, (bC BK230.out 5).trans rfl⟩ (fun hHeld => ?_)
    clear hK K
    refine norm_ (a' := ?_) ?_ ?_
    rotate_left
    ·show Act.put _ (some 11) _ = _
     simp only [Act.put, lA, lZ, lS, i64_w, i32_w]
     rfl
    refine pure_ (i := 8) (N := some 14) (v := ?_) (a' := ?_) impl_Mem_clone.q7 rfl rfl (any_of HT_.out (by kernel_rfl)) (fun _ _ _ h => h) (Or.inl ⟨by rfl, ?_⟩) ?_ ?_
    rotate_left
    ·intro w'
     go_simp
     with_reducible rfl
    rotate_left
    ·simp only [Act.put, lA, lZ, lS, i64_w, i32_w]
     rfl
    exact norm_ (by simp only [putAll, Act.put, lA, lZ, lS]) (hCont (.slice Ao13 t232.length co13, .slice Ao12 t235.length co12, .slice Ao11 t238.length co11, .slice Ao10 t241.length co10, gb244) _ ⟨hHeld, (by (with_reducible repeat (first | apply rA | apply rN | apply rD)); exact rM HO234.out (fun _ hk => hk.2)), (by (with_reducible repeat (first | apply rA | apply rN | apply rD)); exact rM HO237.out (fun _ hk => hk.2)), (by (with_reducible repeat (first | apply rA | apply rN | apply rD)); exact rM HO240.out (fun _ hk => hk.2)), (by (with_reducible repeat (first | apply rA | apply rN | apply rD)); exact rM HO243.out (fun _ hk => hk.2)), (by (with_reducible repeat (first | refine bN ?_ _ | refine bD ?_ | refine bA ?_ _)); exact BK230.out), (by (with_reducible repeat (first | refine bN ?_ _ | refine bD ?_ | refine bA ?_ _)); exact BK231.out), (by (with_reducible repeat (first | refine bN ?_ _ | refine bD ?_ | refine bA ?_ _)); exact BK244.out), GW244.out, GE244.out, NB230_244.out, NB244_230.out, NB231_244.out, NB244_231.out, (by repeat (first | (with_reducible first | exact HB.out | apply oA | apply pN | apply o1 | refine bS ?_ GE230.out | refine bS ?_ GE231.out | refine bS ?_ GE244.out) | exact HB.out))⟩)
  ·skip
   refine box_step ?hg (N := 3) ?hd (cs := #[.slice none 0 0, .slice none 0 0, .slice none 0 0, .slice none 0 0, .slice none 0 0, .int .i64 0]) (t := 38) ?hr ?_; (case hd => rfl); (case hg => rfl); (case hr => first | (go_simp; done) | (go_simp; rfl))
   intro gb244 hg w7 hbox hb
   have n0_ := Am (bB (g := gb230) (o := .cells #[.slice A0_0 l0_0.length c0_0, .slice A0_1 l0_1.length c0_1, .slice A0_2 l0_2.length c0_2, .slice A0_3 l0_3.length c0_3, .slice A0_4 l0_4.length c0_4, .int .i64 a0_5] 38 (0, 0)) (by (with_reducible repeat (first | refine bN ?_ _ | refine bD ?_ | refine bA ?_ _)); exact BK230.out) hb)
   have n1_ := Am (bB (g := gb231) (o := .cells #[.slice none 0 0, .slice none 0 0, .slice none 0 0, .slice none 0 0, .slice none 0 0, .int .i64 0] 38 (0, 0)) (by (with_reducible repeat (first | refine bN ?_ _ | refine bD ?_ | refine bA ?_ _)); exact BK231.out) hb)
   have n2_ := Am (bP (by repeat (first | (with_reducible first | exact HB.out | apply oA | apply pN | apply o1 | refine bS ?_ GE230.out | refine bS ?_ GE231.out) | exact HB.out)) hb)
   have n3_ := Am (hbox)
   have n4_ := Am ((by rw [hg]; exact (bZ (by repeat (first | (with_reducible first | exact HB.out | apply oA | apply pN | apply o1 | refine bS ?_ GE230.out | refine bS ?_ GE231.out) | exact HB.out))) : w.heap.size ≤ gb244))
   have n5_ := Am ((by rw [hg]; exact (bZ (by repeat (first | (with_reducible first | exact HB.out | apply oA | apply pN | apply o1 | refine bS ?_ GE230.out | refine bS ?_ GE231.out) | exact HB.out))) : w.heap.size ≤ gb244))
   have n6_ := Am ((by rw [hg]; exact Nat.ne_of_lt (blk_lt (g := gb230) (o := .cells #[.slice A0_0 l0_0.length c0_0, .slice A0_1 l0_1.length c0_1, .slice A0_2 l0_2.length c0_2, .slice A0_3 l0_3.length c0_3, .slice A0_4 l0_4.length c0_4, .int .i64 a0_5] 38 (0, 0)) (by (with_reducible repeat (first | refine bN ?_ _ | refine bD ?_ | refine bA ?_ _)); exact BK230.out)) : gb230 ≠ gb244))
   have n7_ := Am ((by rw [hg]; exact Nat.ne_of_gt (blk_lt (g := gb230) (o := .cells #[.slice A0_0 l0_0.length c0_0, .slice A0_1 l0_1.length c0_1, .slice A0_2 l0_2.length c0_2, .slice A0_3 l0_3.length c0_3, .slice A0_4 l0_4.length c0_4, .int .i64 a0_5] 38 (0, 0)) (by (with_reducible repeat (first | refine bN ?_ _ | refine bD ?_ | refine bA ?_ _)); exact BK230.out)) : gb244 ≠ gb230))
   have n8_ := Am ((by rw [hg]; exact Nat.ne_of_lt (blk_lt (g := gb231) (o := .cells #[.slice none 0 0, .slice none 0 0, .slice none 0 0, .slice none 0 0, .slice none 0 0, .int .i64 0] 38 (0, 0)) (by (with_reducible repeat (first | refine bN ?_ _ | refine bD ?_ | refine bA ?_ _)); exact BK231.out)) : gb231 ≠ gb244))
   have n9_ := Am ((by rw [hg]; exact Nat.ne_of_gt (blk_lt (g := gb231) (o := .cells #[.slice none 0 0, .slice none 0 0, .slice none 0 0, .slice none 0 0, .slice none 0 0, .int .i64 0] 38 (0, 0)) (by (with_reducible repeat (first | refine bN ?_ _ | refine bD ?_ | refine bA ?_ _)); exact BK231.out)) : gb244 ≠ gb231))
   clear BK230
   clear BK231
   clear HB
   have BK230 := n0_
   have BK231 := n1_
   have HB := n2_
   have BK244 := n3_
   have GW244 := n4_
   have GE244 := n5_
   have NB230_244 := n6_
   have NB244_230 := n7_
   have NB231_244 := n8_
   have NB244_231 := n9_
   clear n0_ n1_ n2_ n3_ n4_ n5_ n6_ n7_ n8_ n9_
   clear hb hbox hg
   refine hK.out _ _ ⟨(bC BK230.out 0).trans rfl, (bC BK230.out 1).trans rfl, (bC BK230.out 2).trans rfl, (bC BK230.out 3).trans rfl, (bC BK230.out 4).trans rfl, (bC BK230.out 5).trans rfl⟩ (fun hHeld => ?_)
   clear hK K
   refine norm_ (a' := ?_) ?_ ?_
   rotate_left
   ·show Act.put _ (some 3) _ = _
    simp only [Act.put, lA, lZ, lS, i64_w, i32_w]
    rfl
   refine one_ (i := 2) (N := some 8) impl_Mem_clone.q11 rfl rfl (one_of HT_.out (by kernel_rfl)) (by decide) (fun K hK => ?_)
   refine goes_ Try.func62 (by kernel_rfl) rfl #[.agg #[.slice A0_0 l0_0.length c0_0, .slice A0_1 l0_1.length c0_1]] (by rfl) rfl rfl (by (try simp only [lM, lC, lN]); first | done | rfl | (simp only [lD, lT]; rfl)) ?_
   with_reducible refine (impl_Pages_clone.calls _ _ l0_0 _ _ l0_1 t232 t235 _ ?side1 ?side2 ?side3 ?side4 A2.out).mono ?_
   (case side1 => repeat (first | exact (cB HR0_0.out HB.out) | (with_reducible refine cA ?_ _) | (with_reducible refine cN ?_ _) | (with_reducible refine cD ?_)))
   (case side2 => exact HC0_0.out)
   (case side3 => repeat (first | exact (cB HR0_1.out HB.out) | (with_reducible refine cA ?_ _) | (with_reducible refine cN ?_ _) | (with_reducible refine cD ?_)))
   (case side4 => exact HC0_1.out)
   rintro e w8 ⟨v233, v236, rfl, ho0, ho1, hb⟩
   refine ⟨_, rfl, ?_⟩
   have n0_ := Am (Kd.R_lower ho0 (bZ (by repeat (first | (with_reducible first | exact HB.out | apply oA | apply pN | apply o1 | refine bS ?_ GE230.out | refine bS ?_ GE231.out | refine bS ?_ GE244.out) | exact HB.out))))
   have n1_ := Am (Kd.R_lower ho1 (bZ (by repeat (first | (with_reducible first | exact HB.out | apply oA | apply pN | apply o1 | refine bS ?_ GE230.out | refine bS ?_ GE231.out | refine bS ?_ GE244.out) | exact HB.out))))
   have n2_ := Am (bB (g := gb230) (o := .cells #[.slice A0_0 l0_0.length c0_0, .slice A0_1 l0_1.length c0_1, .slice A0_2 l0_2.length c0_2, .slice A0_3 l0_3.length c0_3, .slice A0_4 l0_4.length c0_4, .int .i64 a0_5] 38 (0, 0)) (by (with_reducible repeat (first | refine bN ?_ _ | refine bD ?_ | refine bA ?_ _)); exact BK230.out) hb)
   have n3_ := Am (bB (g := gb231) (o := .cells #[.slice none 0 0, .slice none 0 0, .slice none 0 0, .slice none 0 0, .slice none 0 0, .int .i64 0] 38 (0, 0)) (by (with_reducible repeat (first | refine bN ?_ _ | refine bD ?_ | refine bA ?_ _)); exact BK231.out) hb)
   have n4_ := Am (bB (g := gb244) (o := .cells #[.slice none 0 0, .slice none 0 0, .slice none 0 0, .slice none 0 0, .slice none 0 0, .int .i64 0] 38 (0, 0)) (by (with_reducible repeat (first | refine bN ?_ _ | refine bD ?_ | refine bA ?_ _)); exact BK244.out) hb)
   have n5_ := Am (bP (by repeat (first | (with_reducible first | exact HB.out | apply oA | apply pN | apply o1 | refine bS ?_ GE230.out | refine bS ?_ GE231.out | refine bS ?_ GE244.out) | exact HB.out)) hb)
   clear BK230
   clear BK231
   clear BK244
   clear HB
   have HO234 := n0_
   have HO237 := n1_
   have BK230 := n2_
   have BK231 := n3_
   have BK244 := n4_
   have HB := n5_
   clear n0_ n1_ n2_ n3_ n4_ n5_
   (try clear hb)
   (try clear hb2)
   (try clear hk)
   (try clear hi)
   (try clear ho0)
   (try clear ho1)
   refine hK.out _ _ ⟨(bC BK230.out 0).trans rfl, (bC BK230.out 1).trans rfl, (bC BK230.out 2).trans rfl, (bC BK230.out 3).trans rfl, (bC BK230.out 4).trans rfl, (bC BK230.out 5).trans rfl⟩ (fun hHeld => ?_)
   clear hK K
   refine norm_ (a' := ?_) ?_ ?_
   rotate_left
   ·show Act.put _ (some 8) _ = _
    simp only [Act.put, lA, lZ, lS, i64_w, i32_w]
    rfl
   refine one_ (i := 5) (N := some 11) impl_Mem_clone.q13 rfl rfl (one_of HT_.out (by kernel_rfl)) (by decide) (fun K hK => ?_)
   refine goes_ Try.func62 (by kernel_rfl) rfl #[.agg #[.slice A0_2 l0_2.length c0_2, .slice A0_3 l0_3.length c0_3]] (by rfl) rfl rfl (by (try simp only [lM, lC, lN]); first | done | rfl | (simp only [lD, lT]; rfl)) ?_
   with_reducible refine (impl_Pages_clone.calls _ _ l0_2 _ _ l0_3 t238 t241 _ ?side1 ?side2 ?side3 ?side4 A3.out).mono ?_
   (case side1 => repeat (first | exact (cB HR0_2.out HB.out) | (with_reducible refine cA ?_ _) | (with_reducible refine cN ?_ _) | (with_reducible refine cD ?_)))
   (case side2 => exact HC0_2.out)
   (case side3 => repeat (first | exact (cB HR0_3.out HB.out) | (with_reducible refine cA ?_ _) | (with_reducible refine cN ?_ _) | (with_reducible refine cD ?_)))
   (case side4 => exact HC0_3.out)
   rintro e w9 ⟨v239, v242, rfl, ho0, ho1, hb⟩
   refine ⟨_, rfl, ?_⟩
   have n0_ := Am (Kd.R_elder' (by (with_reducible repeat (first | apply rA | apply rN | apply rD)); exact HO234.out) (Kd.R_base ho0) hb)
   have n1_ := Am (Kd.R_elder' (by (with_reducible repeat (first | apply rA | apply rN | apply rD)); exact HO237.out) (Kd.R_base ho1) hb)
   have n2_ := Am (Kd.R_lower (Kd.R_new' ho0 (Kd.R_lt (by (with_reducible repeat (first | apply rA | apply rN | apply rD)); exact HO234.out))) (bZ (by repeat (first | (with_reducible first | exact HB.out | apply oA | apply pN | apply o1 | refine bS ?_ GE230.out | refine bS ?_ GE231.out | refine bS ?_ GE244.out) | exact HB.out))))
   have n3_ := Am (Kd.R_lower (Kd.R_new' ho1 (Kd.R_lt (by (with_reducible repeat (first | apply rA | apply rN | apply rD)); exact HO237.out))) (bZ (by repeat (first | (with_reducible first | exact HB.out | apply oA | apply pN | apply o1 | refine bS ?_ GE230.out | refine bS ?_ GE231.out | refine bS ?_ GE244.out) | exact HB.out))))
   have n4_ := Am (bB (g := gb230) (o := .cells #[.slice A0_0 l0_0.length c0_0, .slice A0_1 l0_1.length c0_1, .slice A0_2 l0_2.length c0_2, .slice A0_3 l0_3.length c0_3, .slice A0_4 l0_4.length c0_4, .int .i64 a0_5] 38 (0, 0)) (by (with_reducible repeat (first | refine bN ?_ _ | refine bD ?_ | refine bA ?_ _)); exact BK230.out) hb)
   have n5_ := Am (bB (g := gb231) (o := .cells #[.slice none 0 0, .slice none 0 0, .slice none 0 0, .slice none 0 0, .slice none 0 0, .int .i64 0] 38 (0, 0)) (by (with_reducible repeat (first | refine bN ?_ _ | refine bD ?_ | refine bA ?_ _)); exact BK231.out) hb)
   have n6_ := Am (bB (g := gb244) (o := .cells #[.slice none 0 0, .slice none 0 0, .slice none 0 0, .slice none 0 0, .slice none 0 0, .int .i64 0] 38 (0, 0)) (by (with_reducible repeat (first | refine bN ?_ _ | refine bD ?_ | refine bA ?_ _)); exact BK244.out) hb)
   have n7_ := Am (bP (by repeat (first | (with_reducible first | exact HB.out | apply oA | apply pN | apply o1 | refine bS ?_ GE230.out | refine bS ?_ GE231.out | refine bS ?_ GE244.out) | exact HB.out)) hb)
   clear HO234
   clear HO237
   clear BK230
   clear BK231
   clear BK244
   clear HB
   have HO234 := n0_
   have HO237 := n1_
   have HO240 := n2_
   have HO243 := n3_
   have BK230 := n4_
   have BK231 := n5_
   have BK244 := n6_
   have HB := n7_
   clear n0_ n1_ n2_ n3_ n4_ n5_ n6_ n7_
   (try clear hb)
   (try clear hb2)
   (try clear hk)
   (try clear hi)
   (try clear ho0)
   (try clear ho1)
   obtain ⟨Ao10, co10, eo10⟩ := Kd.R_slice HO243.out
   (first | subst eo10 | (injection eo10 with f1_ f2_ f3_; have f4_ := f1_.symm; have f5_ := f3_.symm; clear f1_ f2_ f3_; subst f4_; subst f5_))
   obtain ⟨Ao11, co11, eo11⟩ := Kd.R_slice HO240.out
   (first | subst eo11 | (injection eo11 with f1_ f2_ f3_; have f4_ := f1_.symm; have f5_ := f3_.symm; clear f1_ f2_ f3_; subst f4_; subst f5_))
   obtain ⟨Ao12, co12, eo12⟩ := Kd.R_slice HO237.out
   (first | subst eo12 | (injection eo12 with f1_ f2_ f3_; have f4_ := f1_.symm; have f5_ := f3_.symm; clear f1_ f2_ f3_; subst f4_; subst f5_))
   obtain ⟨Ao13, co13, eo13⟩ := Kd.R_slice HO234.out
   (first | subst eo13 | (injection eo13 with f1_ f2_ f3_; have f4_ := f1_.symm; have f5_ := f3_.symm; clear f1_ f2_ f3_; subst f4_; subst f5_))
   refine hK.out _ _ ⟨(bC BK230.out 0).trans rfl, (bC BK230.out 1).trans rfl, (bC BK230.out 2).trans rfl, (bC BK230.out 3).trans rfl, (bC BK230.out 4).trans rfl, (bC BK230.out 5).trans rfl⟩ (fun hHeld => ?_)
   clear hK K
   refine norm_ (a' := ?_) ?_ ?_
   rotate_left
   ·show Act.put _ (some 11) _ = _
    simp only [Act.put, lA, lZ, lS, i64_w, i32_w]
    rfl
   refine pure_ (i := 8) (N := some 14) (v := ?_) (a' := ?_) impl_Mem_clone.q7 rfl rfl (any_of HT_.out (by kernel_rfl)) (fun _ _ _ h => h) (Or.inl ⟨by rfl, ?_⟩) ?_ ?_
   rotate_left
   ·intro w'
    go_simp
    with_reducible rfl
   rotate_left
   ·simp only [Act.put, lA, lZ, lS, i64_w, i32_w]
    rfl
   exact norm_ (by simp only [putAll, Act.put, lA, lZ, lS]) (hCont (.slice Ao13 t232.length co13, .slice Ao12 t235.length co12, .slice Ao11 t238.length co11, .slice Ao10 t241.length co10, gb244) _ ⟨hHeld, (by (with_reducible repeat (first | apply rA | apply rN | apply rD)); exact rM HO234.out (fun _ hk => hk.2)), (by (with_reducible repeat (first | apply rA | apply rN | apply rD)); exact rM HO237.out (fun _ hk => hk.2)), (by (with_reducible repeat (first | apply rA | apply rN | apply rD)); exact rM HO240.out (fun _ hk => hk.2)), (by (with_reducible repeat (first | apply rA | apply rN | apply rD)); exact rM HO243.out (fun _ hk => hk.2)), (by (with_reducible repeat (first | refine bN ?_ _ | refine bD ?_ | refine bA ?_ _)); exact BK230.out), (by (with_reducible repeat (first | refine bN ?_ _ | refine bD ?_ | refine bA ?_ _)); exact BK231.out), (by (with_reducible repeat (first | refine bN ?_ _ | refine bD ?_ | refine bA ?_ _)); exact BK244.out), GW244.out, GE244.out, NB230_244.out, NB244_230.out, NB231_244.out, NB244_231.out, (by repeat (first | (with_reducible first | exact HB.out | apply oA | apply pN | apply o1 | refine bS ?_ GE230.out | refine bS ?_ GE231.out | refine bS ?_ GE244.out) | exact HB.out))⟩)
 rintro ⟨v233, v236, v239, v242, gb244⟩ w14 ⟨hS_, h0_, h1_, h2_, h3_, h4_, h5_, h6_, h7_, h8_, h9_, h10_, h11_, h12_, h13_⟩
 have n0_ : Aside0 (Kd.R Kd.string 9 w14 w.heap.size (fun k_ => some k_ ≠ (v239 : Value).ownBlock) v233 t232) := ⟨h0_⟩
 have n1_ : Aside0 (Kd.R (Kd.int .i64) 3 w14 w.heap.size (fun k_ => some k_ ≠ (v242 : Value).ownBlock) v236 t235) := ⟨h1_⟩
 have n2_ : Aside0 (Kd.R Kd.string 9 w14 w.heap.size (fun k_ => some k_ ≠ (v233 : Value).ownBlock) v239 t238) := ⟨h2_⟩
 have n3_ : Aside0 (Kd.R (Kd.int .i64) 3 w14 w.heap.size (fun k_ => some k_ ≠ (v236 : Value).ownBlock) v242 t241) := ⟨h3_⟩
 have n4_ : Aside0 (w14.heap[gb230]? = some (.cells #[.slice A0_0 l0_0.length c0_0, .slice A0_1 l0_1.length c0_1, .slice A0_2 l0_2.length c0_2, .slice A0_3 l0_3.length c0_3, .slice A0_4 l0_4.length c0_4, .int .i64 a0_5] 38 (0, 0))) := ⟨h4_⟩
 have n5_ : Aside0 (w14.heap[gb231]? = some (.cells #[.slice none 0 0, .slice none 0 0, .slice none 0 0, .slice none 0 0, .slice none 0 0, .int .i64 0] 38 (0, 0))) := ⟨h5_⟩
 have n6_ : Aside0 (w14.heap[gb244]? = some (.cells #[.slice none 0 0, .slice none 0 0, .slice none 0 0, .slice none 0 0, .slice none 0 0, .int .i64 0] 38 (0, 0))) := ⟨h6_⟩
 have n7_ : Aside0 (w.heap.size ≤ gb244) := ⟨h7_⟩
 have n8_ : Aside0 (w.heap.size ≤ gb244) := ⟨h8_⟩
 have n9_ : Aside0 (gb230 ≠ gb244) := ⟨h9_⟩
 have n10_ : Aside0 (gb244 ≠ gb230) := ⟨h10_⟩
 have n11_ : Aside0 (gb231 ≠ gb244) := ⟨h11_⟩
 have n12_ : Aside0 (gb244 ≠ gb231) := ⟨h12_⟩
 have n13_ : Aside0 (Below w.heap.size w w14) := ⟨h13_⟩
 clear BK230
 clear BK231
 clear HB
 clear h0_ h1_ h2_ h3_ h4_ h5_ h6_ h7_ h8_ h9_ h10_ h11_ h12_ h13_
 have HO234 := n0_
 have HO237 := n1_
 have HO240 := n2_
 have HO243 := n3_
 have BK230 := n4_
 have BK231 := n5_
 have BK244 := n6_
 have GW244 := n7_
 have GE244 := n8_
 have NB230_244 := n9_
 have NB244_230 := n10_
 have NB231_244 := n11_
 have NB244_231 := n12_
 have HB := n13_
 clear n0_ n1_ n2_ n3_ n4_ n5_ n6_ n7_ n8_ n9_ n10_ n11_ n12_ n13_
 have hHeld : w14.cell? ⟨gb230, 0, none⟩ = some (.slice A0_0 l0_0.length c0_0) ∧ w14.cell? ⟨gb230, 1, none⟩ = some (.slice A0_1 l0_1.length c0_1) ∧ w14.cell? ⟨gb230, 2, none⟩ = some (.slice A0_2 l0_2.length c0_2) ∧ w14.cell? ⟨gb230, 3, none⟩ = some (.slice A0_3 l0_3.length c0_3) ∧ w14.cell? ⟨gb230, 4, none⟩ = some (.slice A0_4 l0_4.length c0_4) ∧ w14.cell? ⟨gb230, 5, none⟩ = some (.int .i64 a0_5) := hS_
 obtain ⟨Ao15, co15, eo15⟩ := Kd.R_slice HO243.out
 (first | subst eo15 | (injection eo15 with f1_ f2_ f3_; have f4_ := f1_.symm; have f5_ := f3_.symm; clear f1_ f2_ f3_; subst f4_; subst f5_))
 obtain ⟨Ao16, co16, eo16⟩ := Kd.R_slice HO240.out
 (first | subst eo16 | (injection eo16 with f1_ f2_ f3_; have f4_ := f1_.symm; have f5_ := f3_.symm; clear f1_ f2_ f3_; subst f4_; subst f5_))
 obtain ⟨Ao17, co17, eo17⟩ := Kd.R_slice HO237.out
 (first | subst eo17 | (injection eo17 with f1_ f2_ f3_; have f4_ := f1_.symm; have f5_ := f3_.symm; clear f1_ f2_ f3_; subst f4_; subst f5_))
 obtain ⟨Ao18, co18, eo18⟩ := Kd.R_slice HO234.out
 (first | subst eo18 | (injection eo18 with f1_ f2_ f3_; have f4_ := f1_.symm; have f5_ := f3_.symm; clear f1_ f2_ f3_; subst f4_; subst f5_))
 refine norm_ (a' := ?_) ?_ ?_
 rotate_left
 ·simp only [putAll, Act.put, lA, lZ, lS]
  rfl
 refine one_ (i := 10) (N := none) impl_Mem_clone.q14 rfl rfl (one_of HT_.out (by kernel_rfl)) (by decide) (fun K hK => ?_)
 have hs19 : w14.cell? ⟨gb244, 0, none⟩ = some (.slice none 0 0) := (bC BK244.out 0).trans rfl
 have hfs19 := bF BK244.out 0
 have hns19_0 := NB230_244.out
 have hns19_1 := NB231_244.out
 have hms19_0 := NB244_230.out
 have hms19_1 := NB244_231.out
 have hs20 : w14.cell? ⟨gb244, 1, none⟩ = some (.slice none 0 0) := (bC BK244.out 1).trans rfl
 have hfs20 := bF BK244.out 1
 have hns20_0 := NB230_244.out
 have hns20_1 := NB231_244.out
 have hms20_0 := NB244_230.out
 have hms20_1 := NB244_231.out
 have hs21 : w14.cell? ⟨gb244, 2, none⟩ = some (.slice none 0 0) := (bC BK244.out 2).trans rfl
 have hfs21 := bF BK244.out 2
 have hns21_0 := NB230_244.out
 have hns21_1 := NB231_244.out
 have hms21_0 := NB244_230.out
 have hms21_1 := NB244_231.out
 have hs22 : w14.cell? ⟨gb244, 3, none⟩ = some (.slice none 0 0) := (bC BK244.out 3).trans rfl
 have hfs22 := bF BK244.out 3
 have hns22_0 := NB230_244.out
 have hns22_1 := NB231_244.out
 have hms22_0 := NB244_230.out
 have hms22_1 := NB244_231.out
 have hs23 : w14.cell? ⟨gb244, 4, none⟩ = some (.slice none 0 0) := (bC BK244.out 4).trans rfl
 have hfs23 := bF BK244.out 4
 have hns23_0 := NB230_244.out
 have hns23_1 := NB231_244.out
 have hms23_0 := NB244_230.out
 have hms23_1 := NB244_231.out
 have hs24 : w14.cell? ⟨gb244, 5, none⟩ = some (.int .i64 0) := (bC BK244.out 5).trans rfl
 have hfs24 := bF BK244.out 5
 have hns24_0 := NB230_244.out
 have hns24_1 := NB231_244.out
 have hms24_0 := NB244_230.out
 have hms24_1 := NB244_231.out
 refine skip_ (w1 := ?_) (by rfl) rfl ?_ ?_
 rotate_left
 ·go_simp
  rfl
 refine hK.out _ _ ⟨((cell_far (p := ⟨gb244, _, none⟩) NB230_244.out _).trans (((cell_far (p := ⟨gb244, _, none⟩) NB230_244.out _).trans (((cell_far (p := ⟨gb244, _, none⟩) NB230_244.out _).trans (((cell_far (p := ⟨gb244, _, none⟩) NB230_244.out _).trans (((cell_far (p := ⟨gb244, _, none⟩) NB230_244.out _).trans (((cell_far (p := ⟨gb244, _, none⟩) NB230_244.out _).trans (hHeld.1)))))))))))), ((cell_far (p := ⟨gb244, _, none⟩) NB230_244.out _).trans (((cell_far (p := ⟨gb244, _, none⟩) NB230_244.out _).trans (((cell_far (p := ⟨gb244, _, none⟩) NB230_244.out _).trans (((cell_far (p := ⟨gb244, _, none⟩) NB230_244.out _).trans (((cell_far (p := ⟨gb244, _, none⟩) NB230_244.out _).trans (((cell_far (p := ⟨gb244, _, none⟩) NB230_244.out _).trans (hHeld.2.1)))))))))))), ((cell_far (p := ⟨gb244, _, none⟩) NB230_244.out _).trans (((cell_far (p := ⟨gb244, _, none⟩) NB230_244.out _).trans (((cell_far (p := ⟨gb244, _, none⟩) NB230_244.out _).trans (((cell_far (p := ⟨gb244, _, none⟩) NB230_244.out _).trans (((cell_far (p := ⟨gb244, _, none⟩) NB230_244.out _).trans (((cell_far (p := ⟨gb244, _, none⟩) NB230_244.out _).trans (hHeld.2.2.1)))))))))))), ((cell_far (p := ⟨gb244, _, none⟩) NB230_244.out _).trans (((cell_far (p := ⟨gb244, _, none⟩) NB230_244.out _).trans (((cell_far (p := ⟨gb244, _, none⟩) NB230_244.out _).trans (((cell_far (p := ⟨gb244, _, none⟩) NB230_244.out _).trans (((cell_far (p := ⟨gb244, _, none⟩) NB230_244.out _).trans (((cell_far (p := ⟨gb244, _, none⟩) NB230_244.out _).trans (hHeld.2.2.2.1)))))))))))), ((cell_far (p := ⟨gb244, _, none⟩) NB230_244.out _).trans (((cell_far (p := ⟨gb244, _, none⟩) NB230_244.out _).trans (((cell_far (p := ⟨gb244, _, none⟩) NB230_244.out _).trans (((cell_far (p := ⟨gb244, _, none⟩) NB230_244.out _).trans (((cell_far (p := ⟨gb244, _, none⟩) NB230_244.out _).trans (((cell_far (p := ⟨gb244, _, none⟩) NB230_244.out _).trans (hHeld.2.2.2.2.1)))))))))))), ((cell_far (p := ⟨gb244, _, none⟩) NB230_244.out _).trans (((cell_far (p := ⟨gb244, _, none⟩) NB230_244.out _).trans (((cell_far (p := ⟨gb244, _, none⟩) NB230_244.out _).trans (((cell_far (p := ⟨gb244, _, none⟩) NB230_244.out _).trans (((cell_far (p := ⟨gb244, _, none⟩) NB230_244.out _).trans (((cell_far (p := ⟨gb244, _, none⟩) NB230_244.out _).trans (hHeld.2.2.2.2.2))))))))))))⟩ (fun hHeld => ?_)
 clear hK K
 refine done_ (done_of HT_.out (by kernel_rfl)) ?_
 have hnb25 := NB230_231.out
 have hnc25 := NB231_230.out
 have hnb26 := NB230_244.out
 have hnc26 := NB244_230.out
 have hcz27_0 : w14.cell? ⟨gb230, 0, none⟩ = some (.slice A0_0 l0_0.length c0_0) := (bC BK230.out 0).trans rfl
 have hcz27_1 : w14.cell? ⟨gb230, 1, none⟩ = some (.slice A0_1 l0_1.length c0_1) := (bC BK230.out 1).trans rfl
 have hcz27_2 : w14.cell? ⟨gb230, 2, none⟩ = some (.slice A0_2 l0_2.length c0_2) := (bC BK230.out 2).trans rfl
 have hcz27_3 : w14.cell? ⟨gb230, 3, none⟩ = some (.slice A0_3 l0_3.length c0_3) := (bC BK230.out 3).trans rfl
 have hcz27_4 : w14.cell? ⟨gb230, 4, none⟩ = some (.slice A0_4 l0_4.length c0_4) := (bC BK230.out 4).trans rfl
 have hcz27_5 : w14.cell? ⟨gb230, 5, none⟩ = some (.int .i64 a0_5) := (bC BK230.out 5).trans rfl
 have hfz27_0 := bF BK230.out 0
 have hfz27_1 := bF BK230.out 1
 have hfz27_2 := bF BK230.out 2
 have hfz27_3 := bF BK230.out 3
 have hfz27_4 := bF BK230.out 4
 have hfz27_5 := bF BK230.out 5
 try go_wp2
 go_loopg [18] k (fun kq v18 w' => ∃ (x18_1 : Int) (x245004_1 : List (S73)) (u245004 : Value), v18 = .int .i64 x18_1 ∧ Aside0 (impl_Mem_clone.l0 kq l0_4 (l0_4.length : Int) x18_1 t232 t235 t238 t241 x245004_1 a0_5 = some (r1, r2, r3, r4, r5, r6)) ∧ Aside0 (kq ≤ k) ∧ Aside0 (Kd.R Kd.string 9 w' w.heap.size (fun k_ => some k_ ≠ ((.slice Ao16 t238.length co16) : Value).ownBlock) (.slice Ao18 t232.length co18) t232) ∧ Aside0 (Kd.R (Kd.int .i64) 3 w' w.heap.size (fun k_ => some k_ ≠ ((.slice Ao15 t241.length co15) : Value).ownBlock) (.slice Ao17 t235.length co17) t235) ∧ Aside0 (Kd.R Kd.string 9 w' w.heap.size (fun k_ => some k_ ≠ ((.slice Ao18 t232.length co18) : Value).ownBlock) (.slice Ao16 t238.length co16) t238) ∧ Aside0 (Kd.R (Kd.int .i64) 3 w' w.heap.size (fun k_ => some k_ ≠ ((.slice Ao17 t235.length co17) : Value).ownBlock) (.slice Ao15 t241.length co15) t241) ∧ Aside0 (Kd.S k73 73 w' w.heap.size (fun _ => True) u245004 x245004_1) ∧ Aside0 (w'.heap[gb230]? = some (.cells #[(.slice A0_0 l0_0.length c0_0), (.slice A0_1 l0_1.length c0_1), (.slice A0_2 l0_2.length c0_2), (.slice A0_3 l0_3.length c0_3), (.slice A0_4 l0_4.length c0_4), .int .i64 a0_5] 38 (0, 0))) ∧ Aside0 (w'.heap[gb231]? = some (.cells #[(.slice none 0 0), (.slice none 0 0), (.slice none 0 0), (.slice none 0 0), (.slice none 0 0), .int .i64 0] 38 (0, 0))) ∧ Aside0 (w'.heap[gb244]? = some (.cells #[(.slice Ao18 t232.length co18), (.slice Ao17 t235.length co17), (.slice Ao16 t238.length co16), (.slice Ao15 t241.length co15), u245004, .int .i64 a0_5] 38 (0, 0))) ∧ Aside0 (Below w.heap.size w w'))
 case atStart => exact ⟨(0), (([] : List (S73))), (.slice none 0 0), (by first | rfl | (simp; done) | (simp [*]; done)), H', ⟨Nat.le_refl _⟩, ⟨by (with_reducible repeat (first | apply rA | apply rN | apply rD)); exact rM (rF (p := ⟨gb244, 5, none⟩) (rF (p := ⟨gb244, 4, none⟩) (rF (p := ⟨gb244, 3, none⟩) (rF (p := ⟨gb244, 2, none⟩) (rF (p := ⟨gb244, 1, none⟩) (rF (p := ⟨gb244, 0, none⟩) (rT HO234.out BK244.out (by decide)) (fun _ hk => hk.2) (.slice Ao18 t232.length co18)) (fun _ hk => hk.2) (.slice Ao17 t235.length co17)) (fun _ hk => hk.2) (.slice Ao16 t238.length co16)) (fun _ hk => hk.2) (.slice Ao15 t241.length co15)) (fun _ hk => hk.2) (.slice none 0 0)) (fun _ hk => hk.2) (.int .i64 a0_5)) (fun _ hk => hk.1)⟩, ⟨by (with_reducible repeat (first | apply rA | apply rN | apply rD)); exact rM (rF (p := ⟨gb244, 5, none⟩) (rF (p := ⟨gb244, 4, none⟩) (rF (p := ⟨gb244, 3, none⟩) (rF (p := ⟨gb244, 2, none⟩) (rF (p := ⟨gb244, 1, none⟩) (rF (p := ⟨gb244, 0, none⟩) (rT HO237.out BK244.out (by decide)) (fun _ hk => hk.2) (.slice Ao18 t232.length co18)) (fun _ hk => hk.2) (.slice Ao17 t235.length co17)) (fun _ hk => hk.2) (.slice Ao16 t238.length co16)) (fun _ hk => hk.2) (.slice Ao15 t241.length co15)) (fun _ hk => hk.2) (.slice none 0 0)) (fun _ hk => hk.2) (.int .i64 a0_5)) (fun _ hk => hk.1)⟩, ⟨by (with_reducible repeat (first | apply rA | apply rN | apply rD)); exact rM (rF (p := ⟨gb244, 5, none⟩) (rF (p := ⟨gb244, 4, none⟩) (rF (p := ⟨gb244, 3, none⟩) (rF (p := ⟨gb244, 2, none⟩) (rF (p := ⟨gb244, 1, none⟩) (rF (p := ⟨gb244, 0, none⟩) (rT HO240.out BK244.out (by decide)) (fun _ hk => hk.2) (.slice Ao18 t232.length co18)) (fun _ hk => hk.2) (.slice Ao17 t235.length co17)) (fun _ hk => hk.2) (.slice Ao16 t238.length co16)) (fun _ hk => hk.2) (.slice Ao15 t241.length co15)) (fun _ hk => hk.2) (.slice none 0 0)) (fun _ hk => hk.2) (.int .i64 a0_5)) (fun _ hk => hk.1)⟩, ⟨by (with_reducible repeat (first | apply rA | apply rN | apply rD)); exact rM (rF (p := ⟨gb244, 5, none⟩) (rF (p := ⟨gb244, 4, none⟩) (rF (p := ⟨gb244, 3, none⟩) (rF (p := ⟨gb244, 2, none⟩) (rF (p := ⟨gb244, 1, none⟩) (rF (p := ⟨gb244, 0, none⟩) (rT HO243.out BK244.out (by decide)) (fun _ hk => hk.2) (.slice Ao18 t232.length co18)) (fun _ hk => hk.2) (.slice Ao17 t235.length co17)) (fun _ hk => hk.2) (.slice Ao16 t238.length co16)) (fun _ hk => hk.2) (.slice Ao15 t241.length co15)) (fun _ hk => hk.2) (.slice none 0 0)) (fun _ hk => hk.2) (.int .i64 a0_5)) (fun _ hk => hk.1)⟩, ⟨by first | exact Kd.S_nil _ _ _ _ _ | exact Kd.N_nil _ _ _ _ _ | exact Kd.V_nil _ _ _ _ _ | exact Kd.Q_nil _ _ _ _ _ | exact Kd.R_nil _ _ _ _ _⟩, ⟨by (with_reducible repeat (first | refine bN ?_ _ | refine bD ?_ | refine bA ?_ _)); refine blk_far ?_ NB230_244.out _; (with_reducible repeat (first | refine bN ?_ _ | refine bD ?_ | refine bA ?_ _)); refine blk_far ?_ NB230_244.out _; (with_reducible repeat (first | refine bN ?_ _ | refine bD ?_ | refine bA ?_ _)); refine blk_far ?_ NB230_244.out _; (with_reducible repeat (first | refine bN ?_ _ | refine bD ?_ | refine bA ?_ _)); refine blk_far ?_ NB230_244.out _; (with_reducible repeat (first | refine bN ?_ _ | refine bD ?_ | refine bA ?_ _)); refine blk_far ?_ NB230_244.out _; (with_reducible repeat (first | refine bN ?_ _ | refine bD ?_ | refine bA ?_ _)); refine blk_far ?_ NB230_244.out _; (with_reducible repeat (first | refine bN ?_ _ | refine bD ?_ | refine bA ?_ _)); exact BK230.out⟩, ⟨by (with_reducible repeat (first | refine bN ?_ _ | refine bD ?_ | refine bA ?_ _)); refine blk_far ?_ NB231_244.out _; (with_reducible repeat (first | refine bN ?_ _ | refine bD ?_ | refine bA ?_ _)); refine blk_far ?_ NB231_244.out _; (with_reducible repeat (first | refine bN ?_ _ | refine bD ?_ | refine bA ?_ _)); refine blk_far ?_ NB231_244.out _; (with_reducible repeat (first | refine bN ?_ _ | refine bD ?_ | refine bA ?_ _)); refine blk_far ?_ NB231_244.out _; (with_reducible repeat (first | refine bN ?_ _ | refine bD ?_ | refine bA ?_ _)); refine blk_far ?_ NB231_244.out _; (with_reducible repeat (first | refine bN ?_ _ | refine bD ?_ | refine bA ?_ _)); refine blk_far ?_ NB231_244.out _; (with_reducible repeat (first | refine bN ?_ _ | refine bD ?_ | refine bA ?_ _)); exact BK231.out⟩, ⟨by (with_reducible repeat (first | refine bN ?_ _ | refine bD ?_ | refine bA ?_ _)); refine blk_put (cs := #[.slice Ao18 t232.length co18, .slice Ao17 t235.length co17, .slice Ao16 t238.length co16, .slice Ao15 t241.length co15, .slice none 0 0, .int .i64 0]) ?_ 5 _ rfl; (with_reducible repeat (first | refine bN ?_ _ | refine bD ?_ | refine bA ?_ _)); refine blk_put (cs := #[.slice Ao18 t232.length co18, .slice Ao17 t235.length co17, .slice Ao16 t238.length co16, .slice Ao15 t241.length co15, .slice none 0 0, .int .i64 0]) ?_ 4 _ rfl; (with_reducible repeat (first | refine bN ?_ _ | refine bD ?_ | refine bA ?_ _)); refine blk_put (cs := #[.slice Ao18 t232.length co18, .slice Ao17 t235.length co17, .slice Ao16 t238.length co16, .slice none 0 0, .slice none 0 0, .int .i64 0]) ?_ 3 _ rfl; (with_reducible repeat (first | refine bN ?_ _ | refine bD ?_ | refine bA ?_ _)); refine blk_put (cs := #[.slice Ao18 t232.length co18, .slice Ao17 t235.length co17, .slice none 0 0, .slice none 0 0, .slice none 0 0, .int .i64 0]) ?_ 2 _ rfl; (with_reducible repeat (first | refine bN ?_ _ | refine bD ?_ | refine bA ?_ _)); refine blk_put (cs := #[.slice Ao18 t232.length co18, .slice none 0 0, .slice none 0 0, .slice none 0 0, .slice none 0 0, .int .i64 0]) ?_ 1 _ rfl; (with_reducible repeat (first | refine bN ?_ _ | refine bD ?_ | refine bA ?_ _)); refine blk_put (cs := #[.slice none 0 0, .slice none 0 0, .slice none 0 0, .slice none 0 0, .slice none 0 0, .int .i64 0]) ?_ 0 _ rfl; (with_reducible repeat (first | refine bN ?_ _ | refine bD ?_ | refine bA ?_ _)); exact BK244.out⟩, ⟨by repeat (first | (with_reducible first | exact HB.out | apply oA | apply pN | apply o1 | refine bS ?_ GE230.out | refine bS ?_ GE231.out | refine bS ?_ GE244.out) | exact HB.out)⟩⟩
 case round =>
  clear H'
  try clear c2
  try clear p2
  try clear c3
  try clear c6
  try clear c25
  try clear c26
  try clear hcz27_0
  try clear hcz27_1
  try clear hcz27_2
  try clear hcz27_3
  try clear hcz27_4
  try clear hcz27_5
  try clear hfz27_0
  try clear hfz27_1
  try clear hfz27_2
  try clear hfz27_3
  try clear hfz27_4
  try clear hfz27_5
  obtain ⟨x18_1, x245004_1, u245004, rfl, HA, HK1, HO_245000, HO_245001, HO_245002, HO_245003, HO_245004, BK230, BK231, BK244, HB⟩ := hrel
  cases gk with
  | zero => exact absurd HA.out (by simp [impl_Mem_clone.l0])
  | succ k1 =>
   have H := HA.out
   clear HA
   simp only [impl_Mem_clone.l0] at H
   by_cases c28 : x18_1 < (l0_4.length : Int)
   ·rw [if_pos c28] at H
    have c28b0 : decide (x18_1 < (l0_4.length : Int)) = true := decide_eq_true c28
    clear c28
    by_cases c29 : 0 ≤ x18_1
    ·rw [if_pos c29] at H
     have c29b0 : decide (0 ≤ x18_1) = true := decide_eq_true c29
     clear c29
     by_cases c30 : x18_1 < (l0_4.length : Int)
     ·rw [if_pos c30] at H
      have c30b0 : decide (x18_1 < (l0_4.length : Int)) = true := decide_eq_true c30
      clear c30
      replace H := Option.bind_eq_some_iff.mp H
      obtain ⟨t247, A310, H⟩ := H
      replace H : ((impl_Slot.f ((rd_T73 l0_4 x18_1).f2)).bind fun t250 => (if x245004_1.length < 2513169434916 then (impl_Mem_clone.l0 k1 l0_4 (l0_4.length : Int) (wrap64 (x18_1 + 1)) t232 t235 t238 t241 (x245004_1 ++ [(⟨(rd_T73 l0_4 x18_1).f0, t247, t250⟩ : S73)]) a0_5) else (none))) = some (r1, r2, r3, r4, r5, r6) := H
      have A31 := Am A310
      clear A310
      replace H := Option.bind_eq_some_iff.mp H
      obtain ⟨t250, A320, H⟩ := H
      replace H : (if x245004_1.length < 2513169434916 then (impl_Mem_clone.l0 k1 l0_4 (l0_4.length : Int) (wrap64 (x18_1 + 1)) t232 t235 t238 t241 (x245004_1 ++ [(⟨(rd_T73 l0_4 x18_1).f0, t247, t250⟩ : S73)]) a0_5) else (none)) = some (r1, r2, r3, r4, r5, r6) := H
      have A32 := Am A320
      clear A320
      by_cases c33 : x245004_1.length < 2513169434916
      ·rw [if_pos c33] at H
       have LMc33 := Am c33
       clear c33
       obtain ⟨y253, hy253⟩ : ∃ y_ : List (S73), y_ = (x245004_1 ++ [(⟨(rd_T73 l0_4 x18_1).f0, t247, t250⟩ : S73)]) := ⟨_, rfl⟩
       replace H : (impl_Mem_clone.l0 k1 l0_4 (l0_4.length : Int) (wrap64 (x18_1 + 1)) t232 t235 t238 t241 y253 a0_5) = some (r1, r2, r3, r4, r5, r6) := by first | (rw [hy253]; with_reducible exact H) | (have H2_ := (Option.bind_some _ _).symm.trans H; rw [hy253]; with_reducible exact H2_) | (have H2_ := (Option.bind_some _ _).symm.trans H; with_reducible exact H2_) | with_reducible exact H | (rw [hy253]; exact H) | exact H
       have Ny253 := Am hy253
       clear hy253
       have H' := Am H
       clear H
       have p245 : 0 ≤ (x18_1 : Int) := of_decide_eq_true (by first | (with_reducible assumption) | assumption)
       have q245 : x18_1 < (l0_4.length : Int) := of_decide_eq_true (by first | (with_reducible assumption) | assumption)
       obtain ⟨ad245, A245_1, c245_1, A245_2, c245_2, e245, hx245_0, hx245_1, hx245_2, hl245_1, hi245_1, hl245_2, hi245_2⟩ := at_T73 HR0_4.out x18_1 p245 q245
       cases e245
       replace hx245_0 := (HB.out.cell (World.block_lt_of_cell? w _ hx245_0)).trans hx245_0
       replace hx245_1 := (HB.out.cell (World.block_lt_of_cell? w _ hx245_1)).trans hx245_1
       replace hx245_2 := (HB.out.cell (World.block_lt_of_cell? w _ hx245_2)).trans hx245_2
       have HR245_1 := Am hi245_1
       have HC245_1 := Am hl245_1
       clear hi245_1 hl245_1
       have HR245_2 := Am hi245_2
       have HC245_2 := Am hl245_2
       clear hi245_2 hl245_2
       replace p245 := eq_true p245
       replace q245 := eq_true q245
       try go_wp2_with (first | ((with_reducible refine gate_dst (N := 5) rfl ?_); refine box_event ?hg (N := 5) ?hd (cs := #[.bool false, .slice none 0 0, .slice none 0 0]) (t := 73) ?hr ?_; (case hd => rfl); (case hg => rfl); (case hr => first | (go_simp; done) | (go_simp; rfl)); intro gb246 hg w34 hbox hb; have n0_ := Am (rB (by (with_reducible repeat (first | apply rA | apply rN | apply rD)); exact HO_245000.out) hb); have n1_ := Am (rB (by (with_reducible repeat (first | apply rA | apply rN | apply rD)); exact HO_245001.out) hb); have n2_ := Am (rB (by (with_reducible repeat (first | apply rA | apply rN | apply rD)); exact HO_245002.out) hb); have n3_ := Am (rB (by (with_reducible repeat (first | apply rA | apply rN | apply rD)); exact HO_245003.out) hb); have n4_ := Am (Kd.S_below (Kd.S_elderB (by (with_reducible repeat (first | apply Kd.S_alloc | apply Kd.S_drewN | apply Kd.S_drew)); exact HO_245004.out) gb246 (Nat.le_of_eq hg.symm)) hb); have n5_ := Am (bB (g := gb230) (o := .cells #[.slice A0_0 l0_0.length c0_0, .slice A0_1 l0_1.length c0_1, .slice A0_2 l0_2.length c0_2, .slice A0_3 l0_3.length c0_3, .slice (some ad245) l0_4.length c0_4, .int .i64 a0_5] 38 (0, 0)) (by (with_reducible repeat (first | refine bN ?_ _ | refine bD ?_ | refine bA ?_ _)); exact BK230.out) hb); have n6_ := Am (bB (g := gb231) (o := .cells #[.slice none 0 0, .slice none 0 0, .slice none 0 0, .slice none 0 0, .slice none 0 0, .int .i64 0] 38 (0, 0)) (by (with_reducible repeat (first | refine bN ?_ _ | refine bD ?_ | refine bA ?_ _)); exact BK231.out) hb); have n7_ := Am (bB (g := gb244) (o := .cells #[.slice Ao18 t232.length co18, .slice Ao17 t235.length co17, .slice Ao16 t238.length co16, .slice Ao15 t241.length co15, u245004, .int .i64 a0_5] 38 (0, 0)) (by (with_reducible repeat (first | refine bN ?_ _ | refine bD ?_ | refine bA ?_ _)); exact BK244.out) hb); have n8_ := Am (bP (by repeat (first | (with_reducible first | exact HB.out | apply oA | apply pN | apply o1 | refine bS ?_ GE230.out | refine bS ?_ GE231.out | refine bS ?_ GE244.out) | exact HB.out)) hb); have n9_ := Am (hbox); have n10_ := Am ((by rw [hg]; exact (bZ (by repeat (first | (with_reducible first | exact HB.out | apply oA | apply pN | apply o1 | refine bS ?_ GE230.out | refine bS ?_ GE231.out | refine bS ?_ GE244.out) | exact HB.out))) : w.heap.size ≤ gb246)); have n11_ := Am ((by rw [hg]; exact (bZ (by repeat (first | (with_reducible first | exact HB.out | apply oA | apply pN | apply o1 | refine bS ?_ GE230.out | refine bS ?_ GE231.out | refine bS ?_ GE244.out) | exact HB.out))) : w.heap.size ≤ gb246)); have n12_ := Am ((by rw [hg]; exact Nat.ne_of_lt (blk_lt (g := gb230) (o := .cells #[.slice A0_0 l0_0.length c0_0, .slice A0_1 l0_1.length c0_1, .slice A0_2 l0_2.length c0_2, .slice A0_3 l0_3.length c0_3, .slice (some ad245) l0_4.length c0_4, .int .i64 a0_5] 38 (0, 0)) (by (with_reducible repeat (first | refine bN ?_ _ | refine bD ?_ | refine bA ?_ _)); exact BK230.out)) : gb230 ≠ gb246)); have n13_ := Am ((by rw [hg]; exact Nat.ne_of_gt (blk_lt (g := gb230) (o := .cells #[.slice A0_0 l0_0.length c0_0, .slice A0_1 l0_1.length c0_1, .slice A0_2 l0_2.length c0_2, .slice A0_3 l0_3.length c0_3, .slice (some ad245) l0_4.length c0_4, .int .i64 a0_5] 38 (0, 0)) (by (with_reducible repeat (first | refine bN ?_ _ | refine bD ?_ | refine bA ?_ _)); exact BK230.out)) : gb246 ≠ gb230)); have n14_ := Am ((by rw [hg]; exact Nat.ne_of_lt (blk_lt (g := gb231) (o := .cells #[.slice none 0 0, .slice none 0 0, .slice none 0 0, .slice none 0 0, .slice none 0 0, .int .i64 0] 38 (0, 0)) (by (with_reducible repeat (first | refine bN ?_ _ | refine bD ?_ | refine bA ?_ _)); exact BK231.out)) : gb231 ≠ gb246)); have n15_ := Am ((by rw [hg]; exact Nat.ne_of_gt (blk_lt (g := gb231) (o := .cells #[.slice none 0 0, .slice none 0 0, .slice none 0 0, .slice none 0 0, .slice none 0 0, .int .i64 0] 38 (0, 0)) (by (with_reducible repeat (first | refine bN ?_ _ | refine bD ?_ | refine bA ?_ _)); exact BK231.out)) : gb246 ≠ gb231)); have n16_ := Am ((by rw [hg]; exact Nat.ne_of_lt (blk_lt (g := gb244) (o := .cells #[.slice Ao18 t232.length co18, .slice Ao17 t235.length co17, .slice Ao16 t238.length co16, .slice Ao15 t241.length co15, u245004, .int .i64 a0_5] 38 (0, 0)) (by (with_reducible repeat (first | refine bN ?_ _ | refine bD ?_ | refine bA ?_ _)); exact BK244.out)) : gb244 ≠ gb246)); have n17_ := Am ((by rw [hg]; exact Nat.ne_of_gt (blk_lt (g := gb244) (o := .cells #[.slice Ao18 t232.length co18, .slice Ao17 t235.length co17, .slice Ao16 t238.length co16, .slice Ao15 t241.length co15, u245004, .int .i64 a0_5] 38 (0, 0)) (by (with_reducible repeat (first | refine bN ?_ _ | refine bD ?_ | refine bA ?_ _)); exact BK244.out)) : gb246 ≠ gb244)); clear HO_245000; clear HO_245001; clear HO_245002; clear HO_245003; clear HO_245004; clear BK230; clear BK231; clear BK244; clear HB; have HO_245000 := n0_; have HO_245001 := n1_; have HO_245002 := n2_; have HO_245003 := n3_; have HO_245004 := n4_; have BK230 := n5_; have BK231 := n6_; have BK244 := n7_; have HB := n8_; have BK246 := n9_; have GW246 := n10_; have GE246 := n11_; have NB230_246 := n12_; have NB246_230 := n13_; have NB231_246 := n14_; have NB246_231 := n15_; have NB244_246 := n16_; have NB246_244 := n17_; clear n0_ n1_ n2_ n3_ n4_ n5_ n6_ n7_ n8_ n9_ n10_ n11_ n12_ n13_ n14_ n15_ n16_ n17_; clear hb hbox hg; have hnb35 := NB246_230.out; have hnc35 := NB230_246.out; have hnb36 := NB246_231.out; have hnc36 := NB231_246.out; have hnb37 := NB246_244.out; have hnc37 := NB244_246.out; have hcz38_0 : w34.cell? ⟨gb246, 0, none⟩ = some (.bool false) := (bC BK246.out 0).trans rfl; have hcz38_1 : w34.cell? ⟨gb246, 1, none⟩ = some (.slice none 0 0) := (bC BK246.out 1).trans rfl; have hcz38_2 : w34.cell? ⟨gb246, 2, none⟩ = some (.slice none 0 0) := (bC BK246.out 2).trans rfl; have hfz38_0 := bF BK246.out 0; have hfz38_1 := bF BK246.out 1; have hfz38_2 := bF BK246.out 2))
       have n0_ : Aside0 (Kd.R Kd.string 9 (((w34.setCell ⟨gb246, 0, none⟩ (.bool ((rd_T73 l0_4 x18_1).f0))).setCell ⟨gb246, 1, none⟩ (.slice A245_1 ((rd_T73 l0_4 x18_1).f1).length c245_1)).setCell ⟨gb246, 2, none⟩ (.slice A245_2 ((rd_T73 l0_4 x18_1).f2).length c245_2)) w.heap.size (fun k_ => some k_ ≠ (.slice Ao16 t238.length co16 : Value).ownBlock) (.slice Ao18 t232.length co18) t232) := ⟨by (with_reducible repeat (first | apply rA | apply rN | apply rD)); exact rM (rF (p := ⟨gb246, 2, none⟩) (rF (p := ⟨gb246, 1, none⟩) (rF (p := ⟨gb246, 0, none⟩) (rT HO_245000.out BK246.out (by decide)) (fun _ hk => hk.2) (.bool ((rd_T73 l0_4 x18_1).f0))) (fun _ hk => hk.2) (.slice A245_1 ((rd_T73 l0_4 x18_1).f1).length c245_1)) (fun _ hk => hk.2) (.slice A245_2 ((rd_T73 l0_4 x18_1).f2).length c245_2)) (fun _ hk => hk.1)⟩
       have n1_ : Aside0 (Kd.R (Kd.int .i64) 3 (((w34.setCell ⟨gb246, 0, none⟩ (.bool ((rd_T73 l0_4 x18_1).f0))).setCell ⟨gb246, 1, none⟩ (.slice A245_1 ((rd_T73 l0_4 x18_1).f1).length c245_1)).setCell ⟨gb246, 2, none⟩ (.slice A245_2 ((rd_T73 l0_4 x18_1).f2).length c245_2)) w.heap.size (fun k_ => some k_ ≠ (.slice Ao15 t241.length co15 : Value).ownBlock) (.slice Ao17 t235.length co17) t235) := ⟨by (with_reducible repeat (first | apply rA | apply rN | apply rD)); exact rM (rF (p := ⟨gb246, 2, none⟩) (rF (p := ⟨gb246, 1, none⟩) (rF (p := ⟨gb246, 0, none⟩) (rT HO_245001.out BK246.out (by decide)) (fun _ hk => hk.2) (.bool ((rd_T73 l0_4 x18_1).f0))) (fun _ hk => hk.2) (.slice A245_1 ((rd_T73 l0_4 x18_1).f1).length c245_1)) (fun _ hk => hk.2) (.slice A245_2 ((rd_T73 l0_4 x18_1).f2).length c245_2)) (fun _ hk => hk.1)⟩
       have n2_ : Aside0 (Kd.R Kd.string 9 (((w34.setCell ⟨gb246, 0, none⟩ (.bool ((rd_T73 l0_4 x18_1).f0))).setCell ⟨gb246, 1, none⟩ (.slice A245_1 ((rd_T73 l0_4 x18_1).f1).length c245_1)).setCell ⟨gb246, 2, none⟩ (.slice A245_2 ((rd_T73 l0_4 x18_1).f2).length c245_2)) w.heap.size (fun k_ => some k_ ≠ (.slice Ao18 t232.length co18 : Value).ownBlock) (.slice Ao16 t238.length co16) t238) := ⟨by (with_reducible repeat (first | apply rA | apply rN | apply rD)); exact rM (rF (p := ⟨gb246, 2, none⟩) (rF (p := ⟨gb246, 1, none⟩) (rF (p := ⟨gb246, 0, none⟩) (rT HO_245002.out BK246.out (by decide)) (fun _ hk => hk.2) (.bool ((rd_T73 l0_4 x18_1).f0))) (fun _ hk => hk.2) (.slice A245_1 ((rd_T73 l0_4 x18_1).f1).length c245_1)) (fun _ hk => hk.2) (.slice A245_2 ((rd_T73 l0_4 x18_1).f2).length c245_2)) (fun _ hk => hk.1)⟩
       have n3_ : Aside0 (Kd.R (Kd.int .i64) 3 (((w34.setCell ⟨gb246, 0, none⟩ (.bool ((rd_T73 l0_4 x18_1).f0))).setCell ⟨gb246, 1, none⟩ (.slice A245_1 ((rd_T73 l0_4 x18_1).f1).length c245_1)).setCell ⟨gb246, 2, none⟩ (.slice A245_2 ((rd_T73 l0_4 x18_1).f2).length c245_2)) w.heap.size (fun k_ => some k_ ≠ (.slice Ao17 t235.length co17 : Value).ownBlock) (.slice Ao15 t241.length co15) t241) := ⟨by (with_reducible repeat (first | apply rA | apply rN | apply rD)); exact rM (rF (p := ⟨gb246, 2, none⟩) (rF (p := ⟨gb246, 1, none⟩) (rF (p := ⟨gb246, 0, none⟩) (rT HO_245003.out BK246.out (by decide)) (fun _ hk => hk.2) (.bool ((rd_T73 l0_4 x18_1).f0))) (fun _ hk => hk.2) (.slice A245_1 ((rd_T73 l0_4 x18_1).f1).length c245_1)) (fun _ hk => hk.2) (.slice A245_2 ((rd_T73 l0_4 x18_1).f2).length c245_2)) (fun _ hk => hk.1)⟩
       have n4_ : Aside0 (Kd.S k73 73 (((w34.setCell ⟨gb246, 0, none⟩ (.bool ((rd_T73 l0_4 x18_1).f0))).setCell ⟨gb246, 1, none⟩ (.slice A245_1 ((rd_T73 l0_4 x18_1).f1).length c245_1)).setCell ⟨gb246, 2, none⟩ (.slice A245_2 ((rd_T73 l0_4 x18_1).f2).length c245_2)) w.heap.size (fun k_ => k_ ≠ gb246) u245004 x245004_1) := ⟨by (with_reducible repeat (first | apply Kd.S_alloc | apply Kd.S_drewN | apply Kd.S_drew)); exact Kd.S_mono (Kd.S_far (p := ⟨gb246, 2, none⟩) (Kd.S_far (p := ⟨gb246, 1, none⟩) (Kd.S_far (p := ⟨gb246, 0, none⟩) (Kd.S_mono HO_245004.out (fun k_ hk => (⟨hk, hk.2⟩ : _ ∧ k_ ≠ gb246))) (fun _ hk => hk.2) (.bool ((rd_T73 l0_4 x18_1).f0))) (fun _ hk => hk.2) (.slice A245_1 ((rd_T73 l0_4 x18_1).f1).length c245_1)) (fun _ hk => hk.2) (.slice A245_2 ((rd_T73 l0_4 x18_1).f2).length c245_2)) (fun _ hk => hk.1.2)⟩
       have n5_ : Aside0 ((((w34.setCell ⟨gb246, 0, none⟩ (.bool ((rd_T73 l0_4 x18_1).f0))).setCell ⟨gb246, 1, none⟩ (.slice A245_1 ((rd_T73 l0_4 x18_1).f1).length c245_1)).setCell ⟨gb246, 2, none⟩ (.slice A245_2 ((rd_T73 l0_4 x18_1).f2).length c245_2)).heap[gb230]? = some (.cells #[.slice A0_0 l0_0.length c0_0, .slice A0_1 l0_1.length c0_1, .slice A0_2 l0_2.length c0_2, .slice A0_3 l0_3.length c0_3, .slice (some ad245) l0_4.length c0_4, .int .i64 a0_5] 38 (0, 0))) := ⟨by (with_reducible repeat (first | refine bN ?_ _ | refine bD ?_ | refine bA ?_ _)); refine blk_far ?_ NB230_246.out _; (with_reducible repeat (first | refine bN ?_ _ | refine bD ?_ | refine bA ?_ _)); refine blk_far ?_ NB230_246.out _; (with_reducible repeat (first | refine bN ?_ _ | refine bD ?_ | refine bA ?_ _)); refine blk_far ?_ NB230_246.out _; (with_reducible repeat (first | refine bN ?_ _ | refine bD ?_ | refine bA ?_ _)); exact BK230.out⟩
       have n6_ : Aside0 ((((w34.setCell ⟨gb246, 0, none⟩ (.bool ((rd_T73 l0_4 x18_1).f0))).setCell ⟨gb246, 1, none⟩ (.slice A245_1 ((rd_T73 l0_4 x18_1).f1).length c245_1)).setCell ⟨gb246, 2, none⟩ (.slice A245_2 ((rd_T73 l0_4 x18_1).f2).length c245_2)).heap[gb231]? = some (.cells #[.slice none 0 0, .slice none 0 0, .slice none 0 0, .slice none 0 0, .slice none 0 0, .int .i64 0] 38 (0, 0))) := ⟨by (with_reducible repeat (first | refine bN ?_ _ | refine bD ?_ | refine bA ?_ _)); refine blk_far ?_ NB231_246.out _; (with_reducible repeat (first | refine bN ?_ _ | refine bD ?_ | refine bA ?_ _)); refine blk_far ?_ NB231_246.out _; (with_reducible repeat (first | refine bN ?_ _ | refine bD ?_ | refine bA ?_ _)); refine blk_far ?_ NB231_246.out _; (with_reducible repeat (first | refine bN ?_ _ | refine bD ?_ | refine bA ?_ _)); exact BK231.out⟩
       have n7_ : Aside0 ((((w34.setCell ⟨gb246, 0, none⟩ (.bool ((rd_T73 l0_4 x18_1).f0))).setCell ⟨gb246, 1, none⟩ (.slice A245_1 ((rd_T73 l0_4 x18_1).f1).length c245_1)).setCell ⟨gb246, 2, none⟩ (.slice A245_2 ((rd_T73 l0_4 x18_1).f2).length c245_2)).heap[gb244]? = some (.cells #[.slice Ao18 t232.length co18, .slice Ao17 t235.length co17, .slice Ao16 t238.length co16, .slice Ao15 t241.length co15, u245004, .int .i64 a0_5] 38 (0, 0))) := ⟨by (with_reducible repeat (first | refine bN ?_ _ | refine bD ?_ | refine bA ?_ _)); refine blk_far ?_ NB244_246.out _; (with_reducible repeat (first | refine bN ?_ _ | refine bD ?_ | refine bA ?_ _)); refine blk_far ?_ NB244_246.out _; (with_reducible repeat (first | refine bN ?_ _ | refine bD ?_ | refine bA ?_ _)); refine blk_far ?_ NB244_246.out _; (with_reducible repeat (first | refine bN ?_ _ | refine bD ?_ | refine bA ?_ _)); exact BK244.out⟩
       have n8_ : Aside0 ((((w34.setCell ⟨gb246, 0, none⟩ (.bool ((rd_T73 l0_4 x18_1).f0))).setCell ⟨gb246, 1, none⟩ (.slice A245_1 ((rd_T73 l0_4 x18_1).f1).length c245_1)).setCell ⟨gb246, 2, none⟩ (.slice A245_2 ((rd_T73 l0_4 x18_1).f2).length c245_2)).heap[gb246]? = some (.cells #[.bool ((rd_T73 l0_4 x18_1).f0), .slice A245_1 ((rd_T73 l0_4 x18_1).f1).length c245_1, .slice A245_2 ((rd_T73 l0_4 x18_1).f2).length c245_2] 73 (0, 0))) := ⟨by (with_reducible repeat (first | refine bN ?_ _ | refine bD ?_ | refine bA ?_ _)); refine blk_put (cs := #[.bool ((rd_T73 l0_4 x18_1).f0), .slice A245_1 ((rd_T73 l0_4 x18_1).f1).length c245_1, .slice none 0 0]) ?_ 2 _ rfl; (with_reducible repeat (first | refine bN ?_ _ | refine bD ?_ | refine bA ?_ _)); refine blk_put (cs := #[.bool ((rd_T73 l0_4 x18_1).f0), .slice none 0 0, .slice none 0 0]) ?_ 1 _ rfl; (with_reducible repeat (first | refine bN ?_ _ | refine bD ?_ | refine bA ?_ _)); refine blk_put (cs := #[.bool false, .slice none 0 0, .slice none 0 0]) ?_ 0 _ rfl; (with_reducible repeat (first | refine bN ?_ _ | refine bD ?_ | refine bA ?_ _)); exact BK246.out⟩
       have n9_ : Aside0 (Below w.heap.size w (((w34.setCell ⟨gb246, 0, none⟩ (.bool ((rd_T73 l0_4 x18_1).f0))).setCell ⟨gb246, 1, none⟩ (.slice A245_1 ((rd_T73 l0_4 x18_1).f1).length c245_1)).setCell ⟨gb246, 2, none⟩ (.slice A245_2 ((rd_T73 l0_4 x18_1).f2).length c245_2))) := ⟨by repeat (first | (with_reducible first | exact HB.out | apply oA | apply pN | apply o1 | refine bS ?_ GE230.out | refine bS ?_ GE231.out | refine bS ?_ GE244.out | refine bS ?_ GE246.out) | exact HB.out)⟩
       (try clear HO_245000)
       (try clear HO_245001)
       (try clear HO_245002)
       (try clear HO_245003)
       (try clear HO_245004)
       (try clear BK230)
       (try clear BK231)
       (try clear BK244)
       (try clear BK246)
       (try clear HB)
       generalize (((w34.setCell ⟨gb246, 0, none⟩ (.bool ((rd_T73 l0_4 x18_1).f0))).setCell ⟨gb246, 1, none⟩ (.slice A245_1 ((rd_T73 l0_4 x18_1).f1).length c245_1)).setCell ⟨gb246, 2, none⟩ (.slice A245_2 ((rd_T73 l0_4 x18_1).f2).length c245_2)) = w39 at n0_ n1_ n2_ n3_ n4_ n5_ n6_ n7_ n8_ n9_ ⊢
       have HO_245000 := n0_
       have HO_245001 := n1_
       have HO_245002 := n2_
       have HO_245003 := n3_
       have HO_245004 := n4_
       have BK230 := n5_
       have BK231 := n6_
       have BK244 := n7_
       have BK246 := n8_
       have HB := n9_
       clear n0_ n1_ n2_ n3_ n4_ n5_ n6_ n7_ n8_ n9_
       have n0_ := Am (rD HO_245000.out)
       have n1_ := Am (rD HO_245001.out)
       have n2_ := Am (rD HO_245002.out)
       have n3_ := Am (rD HO_245003.out)
       have n4_ := Am (Kd.S_drew HO_245004.out)
       have n5_ := Am (bD BK230.out)
       have n6_ := Am (bD BK231.out)
       have n7_ := Am (bD BK244.out)
       have n8_ := Am (bD BK246.out)
       have n9_ := Am (o1 HB.out)
       clear HO_245000
       clear HO_245001
       clear HO_245002
       clear HO_245003
       clear HO_245004
       clear BK230
       clear BK231
       clear BK244
       clear BK246
       clear HB
       have HO_245000 := n0_
       have HO_245001 := n1_
       have HO_245002 := n2_
       have HO_245003 := n3_
       have HO_245004 := n4_
       have BK230 := n5_
       have BK231 := n6_
       have BK244 := n7_
       have BK246 := n8_
       have HB := n9_
       clear n0_ n1_ n2_ n3_ n4_ n5_ n6_ n7_ n8_ n9_
       refine start_ (n := 15) (S := fun w' => w'.cell? ⟨gb244, 0, none⟩ = some (.slice Ao18 t232.length co18) ∧ w'.cell? ⟨gb244, 1, none⟩ = some (.slice Ao17 t235.length co17) ∧ w'.cell? ⟨gb244, 2, none⟩ = some (.slice Ao16 t238.length co16) ∧ w'.cell? ⟨gb244, 3, none⟩ = some (.slice Ao15 t241.length co15) ∧ w'.cell? ⟨gb244, 4, none⟩ = some (u245004) ∧ w'.cell? ⟨gb244, 5, none⟩ = some (.int .i64 a0_5) ∧ w'.cell? ⟨gb246, 0, none⟩ = some (.bool ((rd_T73 l0_4 x18_1).f0)) ∧ w'.cell? ⟨gb246, 1, none⟩ = some (.slice A245_1 ((rd_T73 l0_4 x18_1).f1).length c245_1) ∧ w'.cell? ⟨gb246, 2, none⟩ = some (.slice A245_2 ((rd_T73 l0_4 x18_1).f2).length c245_2)) (ds := [14]) impl_Mem_clone.q15 (by kernel_rfl) rfl rfl ⟨(bC BK244.out 0).trans rfl, (bC BK244.out 1).trans rfl, (bC BK244.out 2).trans rfl, (bC BK244.out 3).trans rfl, (bC BK244.out 4).trans rfl, (bC BK244.out 5).trans rfl, (bC BK246.out 0).trans rfl, (bC BK246.out 1).trans rfl, (bC BK246.out 2).trans rfl⟩ (fun hHeld => ?_); refine with_tabW impl_Mem_clone.tab5 impl_Mem_clone.bits5 (fun HT_ HW_ => ?_)
       generalize w39.drew = w40 at HO_245000 HO_245001 HO_245002 HO_245003 HO_245004 BK230 BK231 BK244 BK246 HB hHeld ⊢
       refine pure_ (i := 0) (N := some 22) (v := ?_) (a' := ?_) impl_Mem_clone.q16 rfl rfl (any_of HT_.out (by kernel_rfl)) (fun _ _ _ h => h) (Or.inl ⟨by rfl, ?_⟩) ?_ ?_
       rotate_left
       ·intro w'
        go_simp
        with_reducible rfl
       rotate_left
       ·simp only [Act.put, lA, lZ, lS, i64_w, i32_w]
        rfl
       refine pure_ (i := 2) (N := some 24) (v := ?_) (a' := ?_) impl_Mem_clone.q17 rfl rfl (any_of HT_.out (by kernel_rfl)) (fun _ _ _ h => h) (Or.inl ⟨by rfl, ?_⟩) ?_ ?_
       rotate_left
       ·intro w'
        go_simp
        with_reducible rfl
       rotate_left
       ·simp only [Act.put, lA, lZ, lS, i64_w, i32_w]
        rfl
       refine pure_ (i := 4) (N := some 26) (v := ?_) (a' := ?_) impl_Mem_clone.q18 rfl rfl (any_of HT_.out (by kernel_rfl)) (fun _ _ _ h => h) (Or.inl ⟨by rfl, ?_⟩) ?_ ?_
       rotate_left
       ·intro w'
        go_simp
        with_reducible rfl
       rotate_left
       ·simp only [Act.put, lA, lZ, lS, i64_w, i32_w]
        rfl
       refine pure_ (i := 7) (N := some 29) (v := ?_) (a' := ?_) impl_Mem_clone.q19 rfl rfl (any_of HT_.out (by kernel_rfl)) (fun _ _ _ h => h) (Or.inl ⟨by rfl, ?_⟩) ?_ ?_
       rotate_left
       ·intro w'
        go_simp
        with_reducible rfl
       rotate_left
       ·simp only [Act.put, lA, lZ, lS, i64_w, i32_w]
        rfl
       refine take_ (i := 1) (N := some 23) (v := ?_) (a' := ?_) impl_Mem_clone.q20 rfl rfl (take_ofW HT_.out HW_.out (by kernel_rfl)) (fun _ _ _ h => h) (Or.inl ⟨by rfl, ?_⟩) hHeld ?_ ?_
       rotate_left
       ·rintro w' ⟨s0, s1, s2, s3, s4, s5, s6, s7, s8⟩
        go_simp
        with_reducible rfl
       rotate_left
       ·simp only [Act.put, lA, lZ, lS, i64_w, i32_w]
        rfl
       refine take_ (i := 3) (N := some 25) (v := ?_) (a' := ?_) impl_Mem_clone.q21 rfl rfl (take_ofW HT_.out HW_.out (by kernel_rfl)) (fun _ _ _ h => h) (Or.inl ⟨by rfl, ?_⟩) hHeld ?_ ?_
       rotate_left
       ·rintro w' ⟨s0, s1, s2, s3, s4, s5, s6, s7, s8⟩
        go_simp
        with_reducible rfl
       rotate_left
       ·simp only [Act.put, lA, lZ, lS, i64_w, i32_w]
        rfl
       refine take_ (i := 5) (N := some 27) (v := ?_) (a' := ?_) impl_Mem_clone.q22 rfl rfl (take_ofW HT_.out HW_.out (by kernel_rfl)) (fun _ _ _ h => h) (Or.inl ⟨by rfl, ?_⟩) hHeld ?_ ?_
       rotate_left
       ·rintro w' ⟨s0, s1, s2, s3, s4, s5, s6, s7, s8⟩
        go_simp
        with_reducible rfl
       rotate_left
       ·simp only [Act.put, lA, lZ, lS, i64_w, i32_w]
        rfl
       refine take_ (i := 8) (N := some 30) (v := ?_) (a' := ?_) impl_Mem_clone.q23 rfl rfl (take_ofW HT_.out HW_.out (by kernel_rfl)) (fun _ _ _ h => h) (Or.inl ⟨by rfl, ?_⟩) hHeld ?_ ?_
       rotate_left
       ·rintro w' ⟨s0, s1, s2, s3, s4, s5, s6, s7, s8⟩
        go_simp
        with_reducible rfl
       rotate_left
       ·simp only [Act.put, lA, lZ, lS, i64_w, i32_w]
        rfl
       refine one_ (i := 6) (N := some 28) impl_Mem_clone.q24 rfl rfl (one_of HT_.out (by kernel_rfl)) (by decide) (fun K hK => ?_)
       refine goes_ Try.func63 (by kernel_rfl) rfl #[.slice A245_1 ((rd_T73 l0_4 x18_1).f1).length c245_1] (by rfl) rfl rfl (by (try simp only [lM, lC, lN]); first | done | rfl | (simp only [lD, lT]; rfl)) ?_
       with_reducible refine (impl_Area_63.calls _ _ ((rd_T73 l0_4 x18_1).f1) t247 _ ?side1 ?side2 A31.out).mono ?_
       (case side1 => repeat (first | exact (cB HR245_1.out HB.out) | (with_reducible refine cA ?_ _) | (with_reducible refine cN ?_ _) | (with_reducible refine cD ?_)))
       (case side2 => exact HC245_1.out)
       rintro e w41 ⟨v248, rfl, ho0, hb⟩
       refine ⟨_, rfl, ?_⟩
       have n0_ := Am (rB (by (with_reducible repeat (first | apply rA | apply rN | apply rD)); exact HO_245000.out) hb)
       have n1_ := Am (rB (by (with_reducible repeat (first | apply rA | apply rN | apply rD)); exact HO_245001.out) hb)
       have n2_ := Am (rB (by (with_reducible repeat (first | apply rA | apply rN | apply rD)); exact HO_245002.out) hb)
       have n3_ := Am (rB (by (with_reducible repeat (first | apply rA | apply rN | apply rD)); exact HO_245003.out) hb)
       have n4_ := Am (Kd.S_elder' (by (with_reducible repeat (first | apply Kd.S_alloc | apply Kd.S_drewN | apply Kd.S_drew)); exact HO_245004.out) (Kd.R_base ho0) hb)
       have n5_ := Am (Kd.R_lower ho0 (bZ (by repeat (first | (with_reducible first | exact HB.out | apply oA | apply pN | apply o1 | refine bS ?_ GE230.out | refine bS ?_ GE231.out | refine bS ?_ GE244.out | refine bS ?_ GE246.out) | exact HB.out))))
       have n6_ := Am (bB (g := gb230) (o := .cells #[.slice A0_0 l0_0.length c0_0, .slice A0_1 l0_1.length c0_1, .slice A0_2 l0_2.length c0_2, .slice A0_3 l0_3.length c0_3, .slice (some ad245) l0_4.length c0_4, .int .i64 a0_5] 38 (0, 0)) (by (with_reducible repeat (first | refine bN ?_ _ | refine bD ?_ | refine bA ?_ _)); exact BK230.out) hb)
       have n7_ := Am (bB (g := gb231) (o := .cells #[.slice none 0 0, .slice none 0 0, .slice none 0 0, .slice none 0 0, .slice none 0 0, .int .i64 0] 38 (0, 0)) (by (with_reducible repeat (first | refine bN ?_ _ | refine bD ?_ | refine bA ?_ _)); exact BK231.out) hb)
       have n8_ := Am (bB (g := gb244) (o := .cells #[.slice Ao18 t232.length co18, .slice Ao17 t235.length co17, .slice Ao16 t238.length co16, .slice Ao15 t241.length co15, u245004, .int .i64 a0_5] 38 (0, 0)) (by (with_reducible repeat (first | refine bN ?_ _ | refine bD ?_ | refine bA ?_ _)); exact BK244.out) hb)
       have n9_ := Am (bB (g := gb246) (o := .cells #[.bool ((rd_T73 l0_4 x18_1).f0), .slice A245_1 ((rd_T73 l0_4 x18_1).f1).length c245_1, .slice A245_2 ((rd_T73 l0_4 x18_1).f2).length c245_2] 73 (0, 0)) (by (with_reducible repeat (first | refine bN ?_ _ | refine bD ?_ | refine bA ?_ _)); exact BK246.out) hb)
       have n10_ := Am (bP (by repeat (first | (with_reducible first | exact HB.out | apply oA | apply pN | apply o1 | refine bS ?_ GE230.out | refine bS ?_ GE231.out | refine bS ?_ GE244.out | refine bS ?_ GE246.out) | exact HB.out)) hb)
       clear HO_245000
       clear HO_245001
       clear HO_245002
       clear HO_245003
       clear HO_245004
       clear BK230
       clear BK231
       clear BK244
       clear BK246
       clear HB
       have HO_245000 := n0_
       have HO_245001 := n1_
       have HO_245002 := n2_
       have HO_245003 := n3_
       have HO_245004 := n4_
       have HO249 := n5_
       have BK230 := n6_
       have BK231 := n7_
       have BK244 := n8_
       have BK246 := n9_
       have HB := n10_
       clear n0_ n1_ n2_ n3_ n4_ n5_ n6_ n7_ n8_ n9_ n10_
       (try clear hb)
       (try clear hb2)
       (try clear hk)
       (try clear hi)
       (try clear ho0)
       refine hK.out _ _ ⟨(bC BK244.out 0).trans rfl, (bC BK244.out 1).trans rfl, (bC BK244.out 2).trans rfl, (bC BK244.out 3).trans rfl, (bC BK244.out 4).trans rfl, (bC BK244.out 5).trans rfl, (bC BK246.out 0).trans rfl, (bC BK246.out 1).trans rfl, (bC BK246.out 2).trans rfl⟩ (fun hHeld => ?_)
       clear hK K
       refine norm_ (a' := ?_) ?_ ?_
       rotate_left
       ·show Act.put _ (some 28) _ = _
        simp only [Act.put, lA, lZ, lS, i64_w, i32_w]
        rfl
       refine one_ (i := 9) (N := some 31) impl_Mem_clone.q25 rfl rfl (one_of HT_.out (by kernel_rfl)) (by decide) (fun K hK => ?_)
       refine goes_ Try.func64 (by kernel_rfl) rfl #[.slice A245_2 ((rd_T73 l0_4 x18_1).f2).length c245_2] (by rfl) rfl rfl (by (try simp only [lM, lC, lN]); first | done | rfl | (simp only [lD, lT]; rfl)) ?_
       with_reducible refine (impl_Slot.calls _ _ ((rd_T73 l0_4 x18_1).f2) t250 _ ?side1 ?side2 A32.out).mono ?_
       (case side1 => repeat (first | exact (cB HR245_2.out HB.out) | (with_reducible refine cA ?_ _) | (with_reducible refine cN ?_ _) | (with_reducible refine cD ?_)))
       (case side2 => exact HC245_2.out)
       rintro e w42 ⟨v251, rfl, ho0, hb⟩
       refine ⟨_, rfl, ?_⟩
       have n0_ := Am (rB (by (with_reducible repeat (first | apply rA | apply rN | apply rD)); exact HO_245000.out) hb)
       have n1_ := Am (rB (by (with_reducible repeat (first | apply rA | apply rN | apply rD)); exact HO_245001.out) hb)
       have n2_ := Am (rB (by (with_reducible repeat (first | apply rA | apply rN | apply rD)); exact HO_245002.out) hb)
       have n3_ := Am (rB (by (with_reducible repeat (first | apply rA | apply rN | apply rD)); exact HO_245003.out) hb)
       have n4_ := Am (Kd.S_elder' (by (with_reducible repeat (first | apply Kd.S_alloc | apply Kd.S_drewN | apply Kd.S_drew)); exact HO_245004.out) (Kd.R_base ho0) hb)
       have n5_ := Am (rB (by (with_reducible repeat (first | apply rA | apply rN | apply rD)); exact HO249.out) hb)
       have n6_ := Am (Kd.R_lower ho0 (bZ (by repeat (first | (with_reducible first | exact HB.out | apply oA | apply pN | apply o1 | refine bS ?_ GE230.out | refine bS ?_ GE231.out | refine bS ?_ GE244.out | refine bS ?_ GE246.out) | exact HB.out))))
       have n7_ := Am (bB (g := gb230) (o := .cells #[.slice A0_0 l0_0.length c0_0, .slice A0_1 l0_1.length c0_1, .slice A0_2 l0_2.length c0_2, .slice A0_3 l0_3.length c0_3, .slice (some ad245) l0_4.length c0_4, .int .i64 a0_5] 38 (0, 0)) (by (with_reducible repeat (first | refine bN ?_ _ | refine bD ?_ | refine bA ?_ _)); exact BK230.out) hb)
       have n8_ := Am (bB (g := gb231) (o := .cells #[.slice none 0 0, .slice none 0 0, .slice none 0 0, .slice none 0 0, .slice none 0 0, .int .i64 0] 38 (0, 0)) (by (with_reducible repeat (first | refine bN ?_ _ | refine bD ?_ | refine bA ?_ _)); exact BK231.out) hb)
       have n9_ := Am (bB (g := gb244) (o := .cells #[.slice Ao18 t232.length co18, .slice Ao17 t235.length co17, .slice Ao16 t238.length co16, .slice Ao15 t241.length co15, u245004, .int .i64 a0_5] 38 (0, 0)) (by (with_reducible repeat (first | refine bN ?_ _ | refine bD ?_ | refine bA ?_ _)); exact BK244.out) hb)
       have n10_ := Am (bB (g := gb246) (o := .cells #[.bool ((rd_T73 l0_4 x18_1).f0), .slice A245_1 ((rd_T73 l0_4 x18_1).f1).length c245_1, .slice A245_2 ((rd_T73 l0_4 x18_1).f2).length c245_2] 73 (0, 0)) (by (with_reducible repeat (first | refine bN ?_ _ | refine bD ?_ | refine bA ?_ _)); exact BK246.out) hb)
       have n11_ := Am (bP (by repeat (first | (with_reducible first | exact HB.out | apply oA | apply pN | apply o1 | refine bS ?_ GE230.out | refine bS ?_ GE231.out | refine bS ?_ GE244.out | refine bS ?_ GE246.out) | exact HB.out)) hb)
       clear HO_245000
       clear HO_245001
       clear HO_245002
       clear HO_245003
       clear HO_245004
       clear HO249
       clear BK230
       clear BK231
       clear BK244
       clear BK246
       clear HB
       have HO_245000 := n0_
       have HO_245001 := n1_
       have HO_245002 := n2_
       have HO_245003 := n3_
       have HO_245004 := n4_
       have HO249 := n5_
       have HO252 := n6_
       have BK230 := n7_
       have BK231 := n8_
       have BK244 := n9_
       have BK246 := n10_
       have HB := n11_
       clear n0_ n1_ n2_ n3_ n4_ n5_ n6_ n7_ n8_ n9_ n10_ n11_
       (try clear hb)
       (try clear hb2)
       (try clear hk)
       (try clear hi)
       (try clear ho0)
       obtain ⟨Ao43, co43, eo43⟩ := Kd.R_slice HO252.out
       (first | subst eo43 | (injection eo43 with f1_ f2_ f3_; have f4_ := f1_.symm; have f5_ := f3_.symm; clear f1_ f2_ f3_; subst f4_; subst f5_))
       obtain ⟨Ao44, co44, eo44⟩ := Kd.R_slice HO249.out
       (first | subst eo44 | (injection eo44 with f1_ f2_ f3_; have f4_ := f1_.symm; have f5_ := f3_.symm; clear f1_ f2_ f3_; subst f4_; subst f5_))
       refine hK.out _ _ ⟨(bC BK244.out 0).trans rfl, (bC BK244.out 1).trans rfl, (bC BK244.out 2).trans rfl, (bC BK244.out 3).trans rfl, (bC BK244.out 4).trans rfl, (bC BK244.out 5).trans rfl, (bC BK246.out 0).trans rfl, (bC BK246.out 1).trans rfl, (bC BK246.out 2).trans rfl⟩ (fun hHeld => ?_)
       clear hK K
       refine norm_ (a' := ?_) ?_ ?_
       rotate_left
       ·show Act.put _ (some 31) _ = _
        simp only [Act.put, lA, lZ, lS, i64_w, i32_w]
        rfl
       refine pure_ (i := 10) (N := some 32) (v := ?_) (a' := ?_) impl_Mem_clone.q26 rfl rfl (any_of HT_.out (by kernel_rfl)) (fun _ _ _ h => h) (Or.inl ⟨by rfl, ?_⟩) ?_ ?_
       rotate_left
       ·intro w'
        go_simp
        with_reducible rfl
       rotate_left
       ·simp only [Act.put, lA, lZ, lS, i64_w, i32_w]
        rfl
       refine one_ (i := 11) (N := some 33) impl_Mem_clone.q27 rfl rfl (one_of HT_.out (by kernel_rfl)) (by decide) (fun K hK => ?_)
       refine value_ (w1 := ?_) (v := ?_) (by rfl) rfl ?_ ?_
       rotate_left 2
       ·go_simp
        constructor
        ·rfl
        ·rfl
       refine hK.out _ _ ⟨(bC (bA BK244.out _) 0).trans rfl, (bC (bA BK244.out _) 1).trans rfl, (bC (bA BK244.out _) 2).trans rfl, (bC (bA BK244.out _) 3).trans rfl, (bC (bA BK244.out _) 4).trans rfl, (bC (bA BK244.out _) 5).trans rfl, (bC (bA BK246.out _) 0).trans rfl, (bC (bA BK246.out _) 1).trans rfl, (bC (bA BK246.out _) 2).trans rfl⟩ (fun hHeld => ?_)
       clear hK K
       refine norm_ (a' := ?_) ?_ ?_
       rotate_left
       ·show Act.put _ (some 33) _ = _
        simp only [Act.put, lA, lZ, lS, i64_w, i32_w]
        rfl
       refine one_ (i := 12) (N := some 34) impl_Mem_clone.q28 rfl rfl (one_of HT_.out (by kernel_rfl)) (by decide) (fun K hK => ?_)
       refine Kd.S_append_step k73 (w0 := w) w.heap.size (by rfl) (.tmp 23) (.tmp 33) 36 73 (.agg #[(.bool false), (.slice none 0 0), (.slice none 0 0)]) 56 rfl Try.underlying36 info73 rfl (by decide) (by omega) u245004 x245004_1 (⟨(rd_T73 l0_4 x18_1).f0, t247, t250⟩ : S73) [.bool ((rd_T73 l0_4 x18_1).f0), .slice Ao44 t247.length co44, .slice Ao43 t250.length co43] (fun k_ => k_ ≠ gb246) (fun k_ => some k_ = (.slice Ao44 t247.length co44 : Value).ownBlock ∨ some k_ = (.slice Ao43 t250.length co43 : Value).ownBlock) rfl rfl ?aP (fun k_ hk_ => hk_.elim (fun h_ => ((rM (ok' := fun k_ => ((fun k_ => k_ ≠ gb246)) k_ ∧ some k_ ≠ (u245004 : Value).ownBlock) (rT (Kd.R_apart' (HO249.out) (Kd.S_typed HO_245004.out) (by decide)) BK246.out (by decide)) (fun k_ hk => ⟨hk.2, hk.1.2⟩))).1 k_ h_.symm) (fun h_ => ((rM (ok' := fun k_ => ((fun k_ => k_ ≠ gb246)) k_ ∧ some k_ ≠ (u245004 : Value).ownBlock) (rT (Kd.R_apart' (HO252.out) (Kd.S_typed HO_245004.out) (by decide)) BK246.out (by decide)) (fun k_ hk => ⟨hk.2, hk.1.2⟩))).1 k_ h_.symm)) ?aF ?aO ?aB ?aS ?aL ?_
       (case aP => exact k73_mkM _ _ _ (⟨(rd_T73 l0_4 x18_1).f0, t247, t250⟩ : S73) (rM (Kd.R_tight rfl (rM (ok' := fun k_ => ((fun k_ => k_ ≠ gb246)) k_ ∧ some k_ ≠ (u245004 : Value).ownBlock) (rT (Kd.R_apart' (HO249.out) (Kd.S_typed HO_245004.out) (by decide)) BK246.out (by decide)) (fun k_ hk => ⟨hk.2, hk.1.2⟩))) (fun _ h_ => Or.inl h_)) (rM (Kd.R_tight rfl (rM (ok' := fun k_ => ((fun k_ => k_ ≠ gb246)) k_ ∧ some k_ ≠ (u245004 : Value).ownBlock) (rT (Kd.R_apart' (HO252.out) (Kd.S_typed HO_245004.out) (by decide)) BK246.out (by decide)) (fun k_ hk => ⟨hk.2, hk.1.2⟩))) (fun _ h_ => Or.inr (h_))))
       (case aB => exact (by repeat (first | (with_reducible first | exact HB.out | apply oA | apply pN | apply o1 | refine bS ?_ GE230.out | refine bS ?_ GE231.out | refine bS ?_ GE244.out | refine bS ?_ GE246.out) | exact HB.out)))
       (case aF => exact (fun k_ hk => Kd.freshB (g := gb246) (o := .cells #[.bool ((rd_T73 l0_4 x18_1).f0), .slice A245_1 ((rd_T73 l0_4 x18_1).f1).length c245_1, .slice A245_2 ((rd_T73 l0_4 x18_1).f2).length c245_2] 73 (0, 0)) (by (with_reducible repeat (first | refine bN ?_ _ | refine bD ?_ | refine bA ?_ _)); exact BK246.out) k_ hk))
       (case aO => exact (by (with_reducible repeat (first | apply Kd.S_alloc | apply Kd.S_drewN | apply Kd.S_drew)); exact Kd.S_mono HO_245004.out (fun k_ hk => ⟨hk.1.1, fun e_ => e_.elim (fun h_ => hk.1.2 h_) (fun h_ => hk.2 h_)⟩)))
       (case aS => exact (bZ (by repeat (first | (with_reducible first | exact HB.out | apply oA | apply pN | apply o1 | refine bS ?_ GE230.out | refine bS ?_ GE231.out | refine bS ?_ GE244.out | refine bS ?_ GE246.out) | exact HB.out))))
       (case aL => have := LMc33.out; omega)
       intro v254 w45 ho hb hg hat
       rw [← Ny253.out] at ho
       have n0_ := Am (Kd.R_over' (by (with_reducible repeat (first | apply rA | apply rN | apply rD)); exact HO_245000.out) (Kd.S_typed (by (with_reducible repeat (first | apply Kd.S_alloc | apply Kd.S_drewN | apply Kd.S_drew)); exact HO_245004.out)) (by decide) hg)
       have n1_ := Am (Kd.R_over' (by (with_reducible repeat (first | apply rA | apply rN | apply rD)); exact HO_245001.out) (Kd.S_typed (by (with_reducible repeat (first | apply Kd.S_alloc | apply Kd.S_drewN | apply Kd.S_drew)); exact HO_245004.out)) (by decide) hg)
       have n2_ := Am (Kd.R_over' (by (with_reducible repeat (first | apply rA | apply rN | apply rD)); exact HO_245002.out) (Kd.S_typed (by (with_reducible repeat (first | apply Kd.S_alloc | apply Kd.S_drewN | apply Kd.S_drew)); exact HO_245004.out)) (by decide) hg)
       have n3_ := Am (Kd.R_over' (by (with_reducible repeat (first | apply rA | apply rN | apply rD)); exact HO_245003.out) (Kd.S_typed (by (with_reducible repeat (first | apply Kd.S_alloc | apply Kd.S_drewN | apply Kd.S_drew)); exact HO_245004.out)) (by decide) hg)
       have n4_ := Am (blk_grown (g := gb230) (o := .cells #[.slice A0_0 l0_0.length c0_0, .slice A0_1 l0_1.length c0_1, .slice A0_2 l0_2.length c0_2, .slice A0_3 l0_3.length c0_3, .slice (some ad245) l0_4.length c0_4, .int .i64 a0_5] 38 (0, 0)) (by (with_reducible repeat (first | refine bN ?_ _ | refine bD ?_ | refine bA ?_ _)); exact BK230.out) hg (Kd.S_ne HO_245004.out BK230.out (by decide)))
       have n5_ := Am (blk_grown (g := gb231) (o := .cells #[.slice none 0 0, .slice none 0 0, .slice none 0 0, .slice none 0 0, .slice none 0 0, .int .i64 0] 38 (0, 0)) (by (with_reducible repeat (first | refine bN ?_ _ | refine bD ?_ | refine bA ?_ _)); exact BK231.out) hg (Kd.S_ne HO_245004.out BK231.out (by decide)))
       have n6_ := Am (blk_grown (g := gb244) (o := .cells #[.slice Ao18 t232.length co18, .slice Ao17 t235.length co17, .slice Ao16 t238.length co16, .slice Ao15 t241.length co15, u245004, .int .i64 a0_5] 38 (0, 0)) (by (with_reducible repeat (first | refine bN ?_ _ | refine bD ?_ | refine bA ?_ _)); exact BK244.out) hg (Kd.S_ne HO_245004.out BK244.out (by decide)))
       have n7_ := Am (blk_grown (g := gb246) (o := .cells #[.bool ((rd_T73 l0_4 x18_1).f0), .slice A245_1 ((rd_T73 l0_4 x18_1).f1).length c245_1, .slice A245_2 ((rd_T73 l0_4 x18_1).f2).length c245_2] 73 (0, 0)) (by (with_reducible repeat (first | refine bN ?_ _ | refine bD ?_ | refine bA ?_ _)); exact BK246.out) hg (Kd.S_away HO_245004.out (fun _ hk => hk.1.1)))
       have n8_ := Am (hb)
       have n9_ := Am (ho)
       clear HO_245000
       clear HO_245001
       clear HO_245002
       clear HO_245003
       clear BK230
       clear BK231
       clear BK244
       clear BK246
       clear HB
       clear HO_245004
       clear HO249
       clear HO252
       have HO_245000 := n0_
       have HO_245001 := n1_
       have HO_245002 := n2_
       have HO_245003 := n3_
       have BK230 := n4_
       have BK231 := n5_
       have BK244 := n6_
       have BK246 := n7_
       have HB := n8_
       have HO255 := n9_
       clear n0_ n1_ n2_ n3_ n4_ n5_ n6_ n7_ n8_ n9_
       clear ho hb hg hat
       obtain ⟨Ao46, co46, eo46⟩ := Kd.S_slice HO255.out
       (first | subst eo46 | (injection eo46 with f1_ f2_ f3_; have f4_ := f1_.symm; have f5_ := f3_.symm; clear f1_ f2_ f3_; subst f4_; subst f5_))
       refine hK.out _ _ ⟨(bC BK244.out 0).trans rfl, (bC BK244.out 1).trans rfl, (bC BK244.out 2).trans rfl, (bC BK244.out 3).trans rfl, (bC BK244.out 4).trans rfl, (bC BK244.out 5).trans rfl, (bC BK246.out 0).trans rfl, (bC BK246.out 1).trans rfl, (bC BK246.out 2).trans rfl⟩ (fun hHeld => ?_)
       clear hK K
       refine norm_ (a' := ?_) ?_ ?_
       rotate_left
       ·show Act.put _ (some 34) _ = _
        simp only [Act.put, lA, lZ, lS, i64_w, i32_w]
        rfl
       refine pure_ (i := 13) (N := some 35) (v := ?_) (a' := ?_) impl_Mem_clone.q29 rfl rfl (any_of HT_.out (by kernel_rfl)) (fun _ _ _ h => h) (Or.inl ⟨by rfl, ?_⟩) ?_ ?_
       rotate_left
       ·intro w'
        go_simp
        with_reducible rfl
       rotate_left
       ·simp only [Act.put, lA, lZ, lS, i64_w, i32_w]
        rfl
       refine last_ (i := 14) (N := none) impl_Mem_clone.q30 rfl rfl (one_of HT_.out (by kernel_rfl)) (by decide) (fun K hK => ?_)
       have hs47 : w45.cell? ⟨gb244, 4, none⟩ = some (u245004) := (bC BK244.out 4).trans rfl
       have hfs47 := bF BK244.out 4
       have hns47_0 := NB230_244.out
       have hns47_1 := NB231_244.out
       have hns47_3 := NB246_244.out
       have hms47_0 := NB244_230.out
       have hms47_1 := NB244_231.out
       have hms47_3 := NB244_246.out
       refine skip_ (w1 := ?_) (by rfl) rfl ?_ ?_
       rotate_left
       ·go_simp
        rfl
       refine hK.out _ _ ?_
       clear hK K
       refine done_ (done_of HT_.out (by kernel_rfl)) ?_
       try go_wp2
       go_roundg k1
       case measure => have := HK1.out; omega
       case rel => exact ⟨(wrap64 (x18_1 + 1)), (y253), (.slice Ao46 y253.length co46), (by first | rfl | (simp; done) | (simp [*]; done)), H', ⟨by have := HK1.out; omega⟩, ⟨by (with_reducible repeat (first | apply rA | apply rN | apply rD)); exact rM (rF (p := ⟨gb244, 4, none⟩) (rT HO_245000.out BK244.out (by decide)) (fun _ hk => hk.2) (.slice Ao46 y253.length co46)) (fun _ hk => hk.1)⟩, ⟨by (with_reducible repeat (first | apply rA | apply rN | apply rD)); exact rM (rF (p := ⟨gb244, 4, none⟩) (rT HO_245001.out BK244.out (by decide)) (fun _ hk => hk.2) (.slice Ao46 y253.length co46)) (fun _ hk => hk.1)⟩, ⟨by (with_reducible repeat (first | apply rA | apply rN | apply rD)); exact rM (rF (p := ⟨gb244, 4, none⟩) (rT HO_245002.out BK244.out (by decide)) (fun _ hk => hk.2) (.slice Ao46 y253.length co46)) (fun _ hk => hk.1)⟩, ⟨by (with_reducible repeat (first | apply rA | apply rN | apply rD)); exact rM (rF (p := ⟨gb244, 4, none⟩) (rT HO_245003.out BK244.out (by decide)) (fun _ hk => hk.2) (.slice Ao46 y253.length co46)) (fun _ hk => hk.1)⟩, ⟨by (with_reducible repeat (first | apply Kd.S_alloc | apply Kd.S_drewN | apply Kd.S_drew)); exact Kd.S_mono (Kd.S_far (p := ⟨gb244, 4, none⟩) (Kd.S_types HO255.out BK244.out (by decide)) (fun _ hk => hk.2) (.slice Ao46 y253.length co46)) (fun _ hk => trivial)⟩, ⟨by (with_reducible repeat (first | refine bN ?_ _ | refine bD ?_ | refine bA ?_ _)); refine blk_far ?_ NB230_244.out _; (with_reducible repeat (first | refine bN ?_ _ | refine bD ?_ | refine bA ?_ _)); exact BK230.out⟩, ⟨by (with_reducible repeat (first | refine bN ?_ _ | refine bD ?_ | refine bA ?_ _)); refine blk_far ?_ NB231_244.out _; (with_reducible repeat (first | refine bN ?_ _ | refine bD ?_ | refine bA ?_ _)); exact BK231.out⟩, ⟨by (with_reducible repeat (first | refine bN ?_ _ | refine bD ?_ | refine bA ?_ _)); refine blk_put (cs := #[.slice Ao18 t232.length co18, .slice Ao17 t235.length co17, .slice Ao16 t238.length co16, .slice Ao15 t241.length co15, u245004, .int .i64 a0_5]) ?_ 4 _ rfl; (with_reducible repeat (first | refine bN ?_ _ | refine bD ?_ | refine bA ?_ _)); exact BK244.out⟩, ⟨by repeat (first | (with_reducible first | exact HB.out | apply oA | apply pN | apply o1 | refine bS ?_ GE230.out | refine bS ?_ GE231.out | refine bS ?_ GE244.out | refine bS ?_ GE246.out) | exact HB.out)⟩⟩
      ·rw [if_neg c33] at H
       exact absurd H (by simp)
     ·rw [if_neg c30] at H
      exact absurd H (by simp)
    ·rw [if_neg c29] at H
     exact absurd H (by simp)
   ·rw [if_neg c28] at H
    have c28b0 : decide (x18_1 < (l0_4.length : Int)) = false := decide_eq_false c28
    clear c28
    simp only [Option.some.injEq, Prod.mk.injEq] at H
    obtain ⟨rfl, rfl, rfl, rfl, rfl, rfl⟩ := H
    have hnb48 := NB244_230.out
    have hnc48 := NB230_244.out
    have hnb49 := NB244_231.out
    have hnc49 := NB231_244.out
    have hcz50_0 : wr.cell? ⟨gb244, 0, none⟩ = some (.slice Ao18 t232.length co18) := (bC BK244.out 0).trans rfl
    have hcz50_1 : wr.cell? ⟨gb244, 1, none⟩ = some (.slice Ao17 t235.length co17) := (bC BK244.out 1).trans rfl
    have hcz50_2 : wr.cell? ⟨gb244, 2, none⟩ = some (.slice Ao16 t238.length co16) := (bC BK244.out 2).trans rfl
    have hcz50_3 : wr.cell? ⟨gb244, 3, none⟩ = some (.slice Ao15 t241.length co15) := (bC BK244.out 3).trans rfl
    have hcz50_4 : wr.cell? ⟨gb244, 4, none⟩ = some (u245004) := (bC BK244.out 4).trans rfl
    have hcz50_5 : wr.cell? ⟨gb244, 5, none⟩ = some (.int .i64 a0_5) := (bC BK244.out 5).trans rfl
    have hfz50_0 := bF BK244.out 0
    have hfz50_1 := bF BK244.out 1
    have hfz50_2 := bF BK244.out 2
    have hfz50_3 := bF BK244.out 3
    have hfz50_4 := bF BK244.out 4
    have hfz50_5 := bF BK244.out 5
    have hnb51 := NB231_230.out
    have hnc51 := NB230_231.out
    have hcz52_0 : wr.cell? ⟨gb231, 0, none⟩ = some (.slice none 0 0) := (bC BK231.out 0).trans rfl
    have hcz52_1 : wr.cell? ⟨gb231, 1, none⟩ = some (.slice none 0 0) := (bC BK231.out 1).trans rfl
    have hcz52_2 : wr.cell? ⟨gb231, 2, none⟩ = some (.slice none 0 0) := (bC BK231.out 2).trans rfl
    have hcz52_3 : wr.cell? ⟨gb231, 3, none⟩ = some (.slice none 0 0) := (bC BK231.out 3).trans rfl
    have hcz52_4 : wr.cell? ⟨gb231, 4, none⟩ = some (.slice none 0 0) := (bC BK231.out 4).trans rfl
    have hcz52_5 : wr.cell? ⟨gb231, 5, none⟩ = some (.int .i64 0) := (bC BK231.out 5).trans rfl
    have hfz52_0 := bF BK231.out 0
    have hfz52_1 := bF BK231.out 1
    have hfz52_2 := bF BK231.out 2
    have hfz52_3 := bF BK231.out 3
    have hfz52_4 := bF BK231.out 4
    have hfz52_5 := bF BK231.out 5
    obtain ⟨Ao53, co53, eo53⟩ := Kd.S_slice HO_245004.out
    subst eo53
    go_wp2
    refine bodyPost_ret (results_cell_row rfl _ _ gb231 38 #[.slice Ao18 t232.length co18, .slice Ao17 t235.length co17, .slice Ao16 t238.length co16, .slice Ao15 t241.length co15, .slice Ao53 x245004_1.length co53, .int .i64 a0_5] (0, 0) _ rfl (by (with_reducible repeat (first | refine bN ?_ _ | refine bD ?_ | refine bA ?_ _)); refine blk_put (cs := #[.slice Ao18 t232.length co18, .slice Ao17 t235.length co17, .slice Ao16 t238.length co16, .slice Ao15 t241.length co15, .slice Ao53 x245004_1.length co53, .int .i64 0]) ?_ 5 _ rfl; (with_reducible repeat (first | refine bN ?_ _ | refine bD ?_ | refine bA ?_ _)); refine blk_put (cs := #[.slice Ao18 t232.length co18, .slice Ao17 t235.length co17, .slice Ao16 t238.length co16, .slice Ao15 t241.length co15, .slice none 0 0, .int .i64 0]) ?_ 4 _ rfl; (with_reducible repeat (first | refine bN ?_ _ | refine bD ?_ | refine bA ?_ _)); refine blk_put (cs := #[.slice Ao18 t232.length co18, .slice Ao17 t235.length co17, .slice Ao16 t238.length co16, .slice none 0 0, .slice none 0 0, .int .i64 0]) ?_ 3 _ rfl; (with_reducible repeat (first | refine bN ?_ _ | refine bD ?_ | refine bA ?_ _)); refine blk_put (cs := #[.slice Ao18 t232.length co18, .slice Ao17 t235.length co17, .slice none 0 0, .slice none 0 0, .slice none 0 0, .int .i64 0]) ?_ 2 _ rfl; (with_reducible repeat (first | refine bN ?_ _ | refine bD ?_ | refine bA ?_ _)); refine blk_put (cs := #[.slice Ao18 t232.length co18, .slice none 0 0, .slice none 0 0, .slice none 0 0, .slice none 0 0, .int .i64 0]) ?_ 1 _ rfl; (with_reducible repeat (first | refine bN ?_ _ | refine bD ?_ | refine bA ?_ _)); refine blk_put (cs := #[.slice none 0 0, .slice none 0 0, .slice none 0 0, .slice none 0 0, .slice none 0 0, .int .i64 0]) ?_ 0 _ rfl; (with_reducible repeat (first | refine bN ?_ _ | refine bD ?_ | refine bA ?_ _)); exact BK231.out) Try.underlying38 rfl (by kernel_rfl)) rfl ?_
    exact ⟨_, _, _, _, _, by first | rfl | (simp [errW_none, errW_some] <;> rfl) | (simp [*, errW_none, errW_some] <;> rfl), by (with_reducible repeat (first | apply rA | apply rN | apply rD)); exact rM (rF (p := ⟨gb231, 5, none⟩) (rF (p := ⟨gb231, 4, none⟩) (rF (p := ⟨gb231, 3, none⟩) (rF (p := ⟨gb231, 2, none⟩) (rF (p := ⟨gb231, 1, none⟩) (rF (p := ⟨gb231, 0, none⟩) (rT HO_245000.out BK231.out (by decide)) (fun _ hk => hk.2) (.slice Ao18 t232.length co18)) (fun _ hk => hk.2) (.slice Ao17 t235.length co17)) (fun _ hk => hk.2) (.slice Ao16 t238.length co16)) (fun _ hk => hk.2) (.slice Ao15 t241.length co15)) (fun _ hk => hk.2) (.slice Ao53 x245004_1.length co53)) (fun _ hk => hk.2) (.int .i64 a0_5)) (fun _ hk => hk.1), by (with_reducible repeat (first | apply rA | apply rN | apply rD)); exact rM (rF (p := ⟨gb231, 5, none⟩) (rF (p := ⟨gb231, 4, none⟩) (rF (p := ⟨gb231, 3, none⟩) (rF (p := ⟨gb231, 2, none⟩) (rF (p := ⟨gb231, 1, none⟩) (rF (p := ⟨gb231, 0, none⟩) (rT HO_245001.out BK231.out (by decide)) (fun _ hk => hk.2) (.slice Ao18 t232.length co18)) (fun _ hk => hk.2) (.slice Ao17 t235.length co17)) (fun _ hk => hk.2) (.slice Ao16 t238.length co16)) (fun _ hk => hk.2) (.slice Ao15 t241.length co15)) (fun _ hk => hk.2) (.slice Ao53 x245004_1.length co53)) (fun _ hk => hk.2) (.int .i64 a0_5)) (fun _ hk => hk.1), by (with_reducible repeat (first | apply rA | apply rN | apply rD)); exact rM (rF (p := ⟨gb231, 5, none⟩) (rF (p := ⟨gb231, 4, none⟩) (rF (p := ⟨gb231, 3, none⟩) (rF (p := ⟨gb231, 2, none⟩) (rF (p := ⟨gb231, 1, none⟩) (rF (p := ⟨gb231, 0, none⟩) (rT HO_245002.out BK231.out (by decide)) (fun _ hk => hk.2) (.slice Ao18 t232.length co18)) (fun _ hk => hk.2) (.slice Ao17 t235.length co17)) (fun _ hk => hk.2) (.slice Ao16 t238.length co16)) (fun _ hk => hk.2) (.slice Ao15 t241.length co15)) (fun _ hk => hk.2) (.slice Ao53 x245004_1.length co53)) (fun _ hk => hk.2) (.int .i64 a0_5)) (fun _ hk => hk.1), by (with_reducible repeat (first | apply rA | apply rN | apply rD)); exact rM (rF (p := ⟨gb231, 5, none⟩) (rF (p := ⟨gb231, 4, none⟩) (rF (p := ⟨gb231, 3, none⟩) (rF (p := ⟨gb231, 2, none⟩) (rF (p := ⟨gb231, 1, none⟩) (rF (p := ⟨gb231, 0, none⟩) (rT HO_245003.out BK231.out (by decide)) (fun _ hk => hk.2) (.slice Ao18 t232.length co18)) (fun _ hk => hk.2) (.slice Ao17 t235.length co17)) (fun _ hk => hk.2) (.slice Ao16 t238.length co16)) (fun _ hk => hk.2) (.slice Ao15 t241.length co15)) (fun _ hk => hk.2) (.slice Ao53 x245004_1.length co53)) (fun _ hk => hk.2) (.int .i64 a0_5)) (fun _ hk => hk.1), by (with_reducible repeat (first | apply Kd.S_alloc | apply Kd.S_drewN | apply Kd.S_drew)); exact Kd.S_mono (Kd.S_far (p := ⟨gb231, 5, none⟩) (Kd.S_far (p := ⟨gb231, 4, none⟩) (Kd.S_far (p := ⟨gb231, 3, none⟩) (Kd.S_far (p := ⟨gb231, 2, none⟩) (Kd.S_far (p := ⟨gb231, 1, none⟩) (Kd.S_far (p := ⟨gb231, 0, none⟩) (Kd.S_types HO_245004.out BK231.out (by decide)) (fun _ hk => hk.2) (.slice Ao18 t232.length co18)) (fun _ hk => hk.2) (.slice Ao17 t235.length co17)) (fun _ hk => hk.2) (.slice Ao16 t238.length co16)) (fun _ hk => hk.2) (.slice Ao15 t241.length co15)) (fun _ hk => hk.2) (.slice Ao53 x245004_1.length co53)) (fun _ hk => hk.2) (.int .i64 a0_5)) (fun _ hk => trivial), by repeat (first | (with_reducible first | exact HB.out | apply oA | apply pN | apply o1 | refine bS ?_ GE230.out | refine bS ?_ GE231.out | refine bS ?_ GE244.out) | exact HB.out)⟩

end Go.Proofs.Ytffnkpbogkodbaa.PFnMemNew
