/- Proved here, without a condition beyond those that each theorem states: what the Go functions named below do is what the plain functions of the same names say. Written by xprint.py, a program of this session. -/
import Derived.Test.YtiifanjjohophaaPFnSigsSetx0
import Derived.Test.YtiifanjjohophaaPFnSigsSetx1
import Derived.Test.YtiifanjjohophaaPFnSigsSetx2
import Derived.Test.YtiifanjjohophaaPFnSigsSetx6
import Derived.Test.YtiifanjjohophaaPFnSigsSetx9
namespace Go.Proofs.Ytiifanjjohophaa.PFnSigsSet
open Go.RowKit Go.Proofs.YtiifanjjohophaaW.PrintWords Go.Proofs.YtiifanjjohophaaW.PrintLast Go.Proofs.YtiifanjjohophaaW.PrintMore
attribute [local go_sem] max2_int min2_int max_two min_two max_three min_three max_four min_four   -- for this text's walks alone
set_option linter.unusedVariables false
set_option linter.unusedSimpArgs false

attribute [local go_sem ↓] isSome_setCell_
/-! ### laws_FnSigsSet: function 6 -/
mutual
def laws_FnSigsSet.j0 : Nat → Int → Int → Bool → Bool → List Bool → List Bool → List Int → List Bool → List Bool → List Int → Option (Bool)
 | 0, _, _, _, _, _, _, _, _, _, _ => none
 | k + 1, x4, x5, x7, x10, x328000, x328001, x328002, x339000, x339001, x339002 => if x10 = true then (laws_FnSigsSet.j1 k x4 x5 x10 (!x7) x328000 x328001 x328002 x339000 x339001 x339002) else (laws_FnSigsSet.j1 k x4 x5 x10 true x328000 x328001 x328002 x339000 x339001 x339002)
def laws_FnSigsSet.j1 : Nat → Int → Int → Bool → Bool → List Bool → List Bool → List Int → List Bool → List Bool → List Int → Option (Bool)
 | 0, _, _, _, _, _, _, _, _, _, _ => none
 | k + 1, x4, x5, x10, x49, x328000, x328001, x328002, x339000, x339001, x339002 => if x49 = true then (some x10) else (if 0 ≤ (wrap64 (x4 - 1)) then (if (wrap64 (x4 - 1)) < (x328002.length : Int) then ((impl_SigsSet.f k x339000 x339001 x339002 x4 (rd x328002 (wrap64 (x4 - 1)))).bind fun bt352 => ((impl_SigsOk.f k x339000 x339001 x339002).bind fun t363 => (if t363 = true then (if (wrap64 (x4 - 1)) < (x339002.length : Int) then (if (rd x339002 (wrap64 (x4 - 1))) = x5 then (if bt352.2.2.2 = true then ((laws_qdSigs.f k bt352.1 bt352.2.1 bt352.2.2.1 x328000 x328001 x328002).bind fun t365 => (some t365)) else (some false)) else (some false)) else (none)) else (some false)))) else (none)) else (none))
end
def laws_FnSigsSet.f (k : Nat) (l0 : List Int) : Option (Bool) := if (l0.length : Int) > 1048576 then (some true) else ((spec_DrawSigsSet.f k l0).bind fun bt316 => ((impl_SigsSet.f k bt316.1 bt316.2.1 bt316.2.2.1 bt316.2.2.2.1 bt316.2.2.2.2).bind fun bt328 => ((spec_SigsSet.f k bt316.1 bt316.2.1 bt316.2.2.1 bt316.2.2.2.1 bt316.2.2.2.2).bind fun bt339 => ((laws_qdSigs.f k bt328.1 bt328.2.1 bt328.2.2.1 bt339.1 bt339.2.1 bt339.2.2.1).bind fun t350 => (if t350 = true then (laws_FnSigsSet.j0 k bt316.2.2.2.1 bt316.2.2.2.2 bt328.2.2.2 (bt328.2.2.2 == bt339.2.2.2) bt316.1 bt316.2.1 bt316.2.2.1 bt328.1 bt328.2.1 bt328.2.2.1) else (laws_FnSigsSet.j0 k bt316.2.2.2.1 bt316.2.2.2.2 bt328.2.2.2 false bt316.1 bt316.2.1 bt316.2.2.1 bt328.1 bt328.2.1 bt328.2.2.1))))))
theorem laws_FnSigsSet.mono_l : ∀ k, (∀ y0 y1 y2 y3 y4 y5 y6 y7 y8 y9, LeO (laws_FnSigsSet.j0 k y0 y1 y2 y3 y4 y5 y6 y7 y8 y9) (laws_FnSigsSet.j0 (k + 1) y0 y1 y2 y3 y4 y5 y6 y7 y8 y9)) ∧ (∀ y0 y1 y2 y3 y4 y5 y6 y7 y8 y9, LeO (laws_FnSigsSet.j1 k y0 y1 y2 y3 y4 y5 y6 y7 y8 y9) (laws_FnSigsSet.j1 (k + 1) y0 y1 y2 y3 y4 y5 y6 y7 y8 y9))
 | 0 => ⟨fun _ _ _ _ _ _ _ _ _ _ r h => by simp [laws_FnSigsSet.j0] at h, fun _ _ _ _ _ _ _ _ _ _ r h => by simp [laws_FnSigsSet.j1] at h⟩
 | k + 1 => by
  obtain ⟨ih0, ih1⟩ := laws_FnSigsSet.mono_l k
  refine ⟨?_, ?_⟩
  ·intro y0 y1 y2 y3 y4 y5 y6 y7 y8 y9
   unfold laws_FnSigsSet.j0
   repeat' first
   | (with_reducible exact ih0 _ _ _ _ _ _ _ _ _ _)
   | (with_reducible exact ih1 _ _ _ _ _ _ _ _ _ _)
   | (with_reducible exact impl_SigsOk.mono _ _ _ _)
   | (with_reducible exact impl_SigsSet.mono _ _ _ _ _ _)
   | (with_reducible exact laws_qdSigs.mono _ _ _ _ _ _ _)
   | (with_reducible exact spec_DrawSigsSet.mono _ _)
   | (with_reducible exact spec_SigsSet.mono _ _ _ _ _ _)
   | (with_reducible exact LeO.refl _)
   | (with_reducible exact LeO.none _)
   | (with_reducible refine LeO.ite ?_ ?_)
   | (with_reducible refine LeO.bind ?_ (fun _ => ?_))
   | exact ih0 _ _ _ _ _ _ _ _ _ _
   | exact ih1 _ _ _ _ _ _ _ _ _ _
   | exact impl_SigsOk.mono _ _ _ _
   | exact impl_SigsSet.mono _ _ _ _ _ _
   | exact laws_qdSigs.mono _ _ _ _ _ _ _
   | exact spec_DrawSigsSet.mono _ _
   | exact spec_SigsSet.mono _ _ _ _ _ _
   | exact LeO.none _
   | refine LeO.ite ?_ ?_
   | refine LeO.bind ?_ (fun _ => ?_)
  ·intro y0 y1 y2 y3 y4 y5 y6 y7 y8 y9
   unfold laws_FnSigsSet.j1
   repeat' first
   | (with_reducible exact ih0 _ _ _ _ _ _ _ _ _ _)
   | (with_reducible exact ih1 _ _ _ _ _ _ _ _ _ _)
   | (with_reducible exact impl_SigsOk.mono _ _ _ _)
   | (with_reducible exact impl_SigsSet.mono _ _ _ _ _ _)
   | (with_reducible exact laws_qdSigs.mono _ _ _ _ _ _ _)
   | (with_reducible exact spec_DrawSigsSet.mono _ _)
   | (with_reducible exact spec_SigsSet.mono _ _ _ _ _ _)
   | (with_reducible exact LeO.refl _)
   | (with_reducible exact LeO.none _)
   | (with_reducible refine LeO.ite ?_ ?_)
   | (with_reducible refine LeO.bind ?_ (fun _ => ?_))
   | exact ih0 _ _ _ _ _ _ _ _ _ _
   | exact ih1 _ _ _ _ _ _ _ _ _ _
   | exact impl_SigsOk.mono _ _ _ _
   | exact impl_SigsSet.mono _ _ _ _ _ _
   | exact laws_qdSigs.mono _ _ _ _ _ _ _
   | exact spec_DrawSigsSet.mono _ _
   | exact spec_SigsSet.mono _ _ _ _ _ _
   | exact LeO.none _
   | refine LeO.ite ?_ ?_
   | refine LeO.bind ?_ (fun _ => ?_)
theorem laws_FnSigsSet.mono : ∀ a0 k, LeO (laws_FnSigsSet.f k a0) (laws_FnSigsSet.f (k + 1) a0) := by
 intro a0 k
 obtain ⟨ih0, ih1⟩ := laws_FnSigsSet.mono_l k
 unfold laws_FnSigsSet.f
 repeat' first
   | (with_reducible exact ih0 _ _ _ _ _ _ _ _ _ _)
   | (with_reducible exact ih1 _ _ _ _ _ _ _ _ _ _)
   | (with_reducible exact impl_SigsOk.mono _ _ _ _)
   | (with_reducible exact impl_SigsSet.mono _ _ _ _ _ _)
   | (with_reducible exact laws_qdSigs.mono _ _ _ _ _ _ _)
   | (with_reducible exact spec_DrawSigsSet.mono _ _)
   | (with_reducible exact spec_SigsSet.mono _ _ _ _ _ _)
   | (with_reducible exact LeO.refl _)
   | (with_reducible exact LeO.none _)
   | (with_reducible refine LeO.ite ?_ ?_)
   | (with_reducible refine LeO.bind ?_ (fun _ => ?_))
   | exact ih0 _ _ _ _ _ _ _ _ _ _
   | exact ih1 _ _ _ _ _ _ _ _ _ _
   | exact impl_SigsOk.mono _ _ _ _
   | exact impl_SigsSet.mono _ _ _ _ _ _
   | exact laws_qdSigs.mono _ _ _ _ _ _ _
   | exact spec_DrawSigsSet.mono _ _
   | exact spec_SigsSet.mono _ _ _ _ _ _
   | exact LeO.none _
   | refine LeO.ite ?_ ?_
   | refine LeO.bind ?_ (fun _ => ?_)
def laws_FnSigsSet.T9 : Bool × List (List Nat × List Nat) := (true, [([], []), ([], []), ([], []), ([2], [2]), ([], []), ([4], [4]), ([3, 5], [3, 5]), ([6], [6]), ([0, 1, 7], [0, 1, 7]), ([8], [8]), ([9], [9]), ([9], [9]), ([], []), ([12, 10, 8, 0, 1, 2, 3, 4, 5, 6, 7, 8, 9, 10, 12], [10, 12]), ([11, 13, 0, 1, 2, 3, 4, 5, 6, 7, 8, 9, 10, 11, 12, 13], [11])])
def laws_FnSigsSet.B9 : List Nat := [0, 0, 0, 4, 0, 16, 60, 124, 255, 511, 1023, 1023, 0, 6143, 16383]
theorem laws_FnSigsSet.tab9 : rtab .any (opsOf Try.f6 9) = laws_FnSigsSet.T9 := by kernel_rfl
theorem laws_FnSigsSet.bits9 : waitsOk laws_FnSigsSet.T9.2 laws_FnSigsSet.B9 = true := by kernel_rfl
abbrev laws_FnSigsSet.q0 : Array Bool := #[false, false, false, false, false, false, false, false, false, false, false, false, false, false, false]
abbrev laws_FnSigsSet.q1 : Array Bool := #[false, true, false, false, false, false, false, false, false, false, false, false, false, false, false]
abbrev laws_FnSigsSet.q2 : Array Bool := #[false, true, true, false, false, false, false, false, false, false, false, false, false, false, false]
abbrev laws_FnSigsSet.q3 : Array Bool := #[false, true, true, false, true, false, false, false, false, false, false, false, false, false, false]
abbrev laws_FnSigsSet.q4 : Array Bool := #[false, true, true, false, true, true, false, false, false, false, false, false, false, false, false]
abbrev laws_FnSigsSet.q5 : Array Bool := #[true, true, true, false, true, true, false, false, false, false, false, false, false, false, false]
abbrev laws_FnSigsSet.q6 : Array Bool := #[true, true, true, true, true, true, false, false, false, false, false, false, false, false, false]
abbrev laws_FnSigsSet.q7 : Array Bool := #[true, true, true, true, true, true, true, false, false, false, false, false, false, false, false]
abbrev laws_FnSigsSet.q8 : Array Bool := #[true, true, true, true, true, true, true, true, false, false, false, false, false, false, false]
abbrev laws_FnSigsSet.q9 : Array Bool := #[true, true, true, true, true, true, true, true, true, true, true, true, true, false, false]
abbrev laws_FnSigsSet.q10 : Array Bool := #[true, true, true, true, true, true, true, true, true, false, false, false, false, false, false]
abbrev laws_FnSigsSet.q11 : Array Bool := #[true, true, true, true, true, true, true, true, false, false, false, false, true, false, false]
abbrev laws_FnSigsSet.q12 : Array Bool := #[true, true, true, true, true, true, true, true, true, true, false, false, false, false, false]
abbrev laws_FnSigsSet.q13 : Array Bool := #[true, true, true, true, true, true, true, true, true, true, true, false, false, false, false]
abbrev laws_FnSigsSet.q14 : Array Bool := #[true, true, true, true, true, true, true, true, true, true, true, true, false, false, false]
abbrev laws_FnSigsSet.q15 : Array Bool := #[true, true, true, true, true, true, true, true, true, false, false, false, true, false, false]
abbrev laws_FnSigsSet.q16 : Array Bool := #[true, true, true, true, true, true, true, true, true, true, false, false, true, false, false]
abbrev laws_FnSigsSet.q17 : Array Bool := #[true, true, true, true, true, true, true, true, true, true, true, false, true, false, false]
abbrev laws_FnSigsSet.q18 : Array Bool := #[true, true, true, true, true, true, true, true, true, true, true, true, true, true, false]
abbrev laws_FnSigsSet.q19 : Array Bool := #[true, true, true, true, true, true, true, true, true, true, true, true, true, true, true]
set_option maxHeartbeats 2000000 in
set_option maxRecDepth 100000 in
theorem laws_FnSigsSet.calls (k : Nat) (A0 : Option Addr) (c0 : Nat) (l0 : List Int) (r : Bool) (w : World) (hr0 : Kd.C (Kd.int .u8) w A0 l0.length l0) (hc0 : l0.length ≤ c0) (h : laws_FnSigsSet.f k l0 = some r) (hT_ : Aside0 (r = true)) :
  Calls Try.prog 6 #[.slice A0 l0.length c0] w fun e w' => e = .returned (.bool r) ∧ Below w.heap.size w w' := by
 have hu26 := Try.underlying26
 have HR0 := Am hr0
 have HC0 := Am hc0
 clear hr0 hc0
 have HB := Am (Below.refl w.heap.size w)
 have H : (if (l0.length : Int) > 1048576 then (some true) else ((spec_DrawSigsSet.f k l0).bind fun bt316 => ((impl_SigsSet.f k bt316.1 bt316.2.1 bt316.2.2.1 bt316.2.2.2.1 bt316.2.2.2.2).bind fun bt328 => ((spec_SigsSet.f k bt316.1 bt316.2.1 bt316.2.2.1 bt316.2.2.2.1 bt316.2.2.2.2).bind fun bt339 => ((laws_qdSigs.f k bt328.1 bt328.2.1 bt328.2.2.1 bt339.1 bt339.2.1 bt339.2.2.1).bind fun t350 => (if t350 = true then (laws_FnSigsSet.j0 k bt316.2.2.2.1 bt316.2.2.2.2 bt328.2.2.2 (bt328.2.2.2 == bt339.2.2.2) bt316.1 bt316.2.1 bt316.2.2.1 bt328.1 bt328.2.1 bt328.2.2.1) else (laws_FnSigsSet.j0 k bt316.2.2.2.1 bt316.2.2.2.2 bt328.2.2.2 false bt316.1 bt316.2.1 bt316.2.2.1 bt328.1 bt328.2.1 bt328.2.2.1))))))) = some r := h
 clear h
 by_cases c2 : (l0.length : Int) > 1048576
 ·rw [if_pos c2] at H
  have c2b0 : decide (1048576 < (l0.length : Int)) = true := decide_eq_true c2
  have c2b1 : decide (1048576 < l0.length) = true := decide_eq_true (by omega)
  clear c2
  obtain rfl := Option.some.inj H
  go_enter Try.func6, Try.ntmps6
  go_wp2
  go_ret
  exact ⟨by first | rfl | (simp [errW_none, errW_some] <;> rfl) | (simp [*, errW_none, errW_some] <;> rfl), by repeat (first | (with_reducible first | exact HB.out | apply oA | apply pN | apply o1) | exact HB.out)⟩
 ·rw [if_neg c2] at H
  have c2b0 : decide (1048576 < (l0.length : Int)) = false := decide_eq_false c2
  have c2b1 : decide (1048576 < l0.length) = false := decide_eq_false (by omega)
  clear c2
  replace H := Option.bind_eq_some_iff.mp H
  obtain ⟨⟨t316, t319, t322, t325, t326⟩, A30, H⟩ := H
  replace H : ((impl_SigsSet.f k t316 t319 t322 t325 t326).bind fun bt328 => ((spec_SigsSet.f k t316 t319 t322 t325 t326).bind fun bt339 => ((laws_qdSigs.f k bt328.1 bt328.2.1 bt328.2.2.1 bt339.1 bt339.2.1 bt339.2.2.1).bind fun t350 => (if t350 = true then (laws_FnSigsSet.j0 k t325 t326 bt328.2.2.2 (bt328.2.2.2 == bt339.2.2.2) t316 t319 t322 bt328.1 bt328.2.1 bt328.2.2.1) else (laws_FnSigsSet.j0 k t325 t326 bt328.2.2.2 false t316 t319 t322 bt328.1 bt328.2.1 bt328.2.2.1))))) = some r := H
  have A3 := Am A30
  clear A30
  replace H := Option.bind_eq_some_iff.mp H
  obtain ⟨⟨t328, t331, t334, t337⟩, A40, H⟩ := H
  replace H : ((spec_SigsSet.f k t316 t319 t322 t325 t326).bind fun bt339 => ((laws_qdSigs.f k t328 t331 t334 bt339.1 bt339.2.1 bt339.2.2.1).bind fun t350 => (if t350 = true then (laws_FnSigsSet.j0 k t325 t326 t337 (t337 == bt339.2.2.2) t316 t319 t322 t328 t331 t334) else (laws_FnSigsSet.j0 k t325 t326 t337 false t316 t319 t322 t328 t331 t334)))) = some r := H
  have A4 := Am A40
  clear A40
  replace H := Option.bind_eq_some_iff.mp H
  obtain ⟨⟨t339, t342, t345, t348⟩, A50, H⟩ := H
  replace H : ((laws_qdSigs.f k t328 t331 t334 t339 t342 t345).bind fun t350 => (if t350 = true then (laws_FnSigsSet.j0 k t325 t326 t337 (t337 == t348) t316 t319 t322 t328 t331 t334) else (laws_FnSigsSet.j0 k t325 t326 t337 false t316 t319 t322 t328 t331 t334))) = some r := H
  have A5 := Am A50
  clear A50
  have HC6 := Am H
  clear H
  go_enter Try.func6, Try.ntmps6
  go_upto_region 6 with (first | ((with_reducible refine gate_callee (f := 24) rfl ?_); refine goesL_ (some 18) rfl rfl Try.func24 (by kernel_rfl) rfl #[.slice A0 l0.length c0] rfl (by (try simp only [lM, lC, lN]); first | done | rfl | (simp only [lD, lT]; rfl)) ?_; (with_reducible refine (spec_DrawSigsSet.calls k _ _ l0 t316 t319 t322 t325 t326 _ ?side1 ?side2 A3.out).mono ?_); (case side1 => repeat (first | exact HR0.out | (with_reducible refine cA ?_ _) | (with_reducible refine cN ?_ _) | (with_reducible refine cD ?_))); (case side2 => exact HC0.out); rintro e w7 ⟨v317, v320, v323, rfl, ho0, ho1, ho2, hb⟩; refine ⟨_, rfl, ?_⟩; have n0_ := Am (Kd.Q_lower ho0 (bZ (by repeat (first | (with_reducible first | exact HB.out | apply oA | apply pN | apply o1) | exact HB.out)))); have n1_ := Am (Kd.R_lower ho1 (bZ (by repeat (first | (with_reducible first | exact HB.out | apply oA | apply pN | apply o1) | exact HB.out)))); have n2_ := Am (Kd.R_lower ho2 (bZ (by repeat (first | (with_reducible first | exact HB.out | apply oA | apply pN | apply o1) | exact HB.out)))); have n3_ := Am (bP (by repeat (first | (with_reducible first | exact HB.out | apply oA | apply pN | apply o1) | exact HB.out)) hb); clear HB; have HO318 := n0_; have HO321 := n1_; have HO324 := n2_; have HB := n3_; clear n0_ n1_ n2_ n3_; (try clear hb); (try clear hb2); (try clear hk); (try clear hi); (try clear ho0); (try clear ho1); (try clear ho2)) | ((with_reducible refine gate_dst (N := 3) rfl ?_); refine box_event ?hg (N := 3) ?hd (cs := #[.slice none 0 0, .slice none 0 0, .slice none 0 0]) (t := 26) ?hr ?_; (case hd => rfl); (case hg => rfl); (case hr => first | (go_simp; done) | (go_simp; rfl)); intro gb327 hg w8 hbox hb; have n0_ := Am (Kd.Q_below (by (with_reducible repeat (first | apply Kd.Q_alloc | apply Kd.Q_drewN | apply Kd.Q_drew)); exact HO318.out) hb); have n1_ := Am (rB (by (with_reducible repeat (first | apply rA | apply rN | apply rD)); exact HO321.out) hb); have n2_ := Am (rB (by (with_reducible repeat (first | apply rA | apply rN | apply rD)); exact HO324.out) hb); have n3_ := Am (bP (by repeat (first | (with_reducible first | exact HB.out | apply oA | apply pN | apply o1) | exact HB.out)) hb); have n4_ := Am (hbox); have n5_ := Am ((by rw [hg]; exact (bZ (by repeat (first | (with_reducible first | exact HB.out | apply oA | apply pN | apply o1) | exact HB.out))) : w.heap.size ≤ gb327)); have n6_ := Am ((by rw [hg]; exact (bZ (by repeat (first | (with_reducible first | exact HB.out | apply oA | apply pN | apply o1) | exact HB.out))) : w.heap.size ≤ gb327)); clear HO318; clear HO321; clear HO324; clear HB; have HO318 := n0_; have HO321 := n1_; have HO324 := n2_; have HB := n3_; have BK327 := n4_; have GW327 := n5_; have GE327 := n6_; clear n0_ n1_ n2_ n3_ n4_ n5_ n6_; clear hb hbox hg; obtain ⟨Ao9, co9, eo9, _⟩ := Kd.Q_slice HO318.out; subst eo9; have hcz10_0 : w8.cell? ⟨gb327, 0, none⟩ = some (.slice none 0 0) := (bC BK327.out 0).trans rfl; have hcz10_1 : w8.cell? ⟨gb327, 1, none⟩ = some (.slice none 0 0) := (bC BK327.out 1).trans rfl; have hcz10_2 : w8.cell? ⟨gb327, 2, none⟩ = some (.slice none 0 0) := (bC BK327.out 2).trans rfl; have hfz10_0 := bF BK327.out 0; have hfz10_1 := bF BK327.out 1; have hfz10_2 := bF BK327.out 2; obtain ⟨Ao11, co11, eo11⟩ := Kd.R_slice HO321.out; subst eo11; obtain ⟨Ao12, co12, eo12⟩ := Kd.R_slice HO324.out; subst eo12) | ((with_reducible refine gate_callee (f := 25) rfl ?_); refine goesL_ (some 26) rfl rfl Try.func25 (by kernel_rfl) rfl #[.agg #[.slice Ao9 t316.length co9, .slice Ao11 t319.length co11, .slice Ao12 t322.length co12], .int .i64 t325, .int .i64 t326] rfl (by (try simp only [lM, lC, lN]); first | done | rfl | (simp only [lD, lT]; rfl)) ?_; (with_reducible refine (impl_SigsSet.calls k _ _ t316 _ _ t319 _ _ t322 t325 t326 t328 t331 t334 t337 _ ?side1 ?side2 ?side3 ?side4 ?side5 ?side6 A4.out).mono ?_); (case side1 => refine (Kd.Q_reads' (e := 4) (base := w.heap.size) (ok := fun k_ => some k_ ≠ (.slice Ao11 t319.length co11 : Value).ownBlock) (n := t316.length) (c := co9) ?_).2.2; exact (by (with_reducible repeat (first | apply Kd.Q_alloc | apply Kd.Q_drewN | apply Kd.Q_drew)); exact (Kd.Q_mono (Kd.Q_far (p := ⟨gb327, 2, none⟩) (Kd.Q_far (p := ⟨gb327, 1, none⟩) (Kd.Q_far (p := ⟨gb327, 0, none⟩) (Kd.Q_types HO318.out BK327.out (by decide)) (fun _ hk => hk.2) (.slice Ao9 t316.length co9)) (fun _ hk => hk.2) (.slice Ao11 t319.length co11)) (fun _ hk => hk.2) (.slice Ao12 t322.length co12)) (fun _ h_ => h_.1)))); (case side2 => exact (Kd.Q_reads' HO318.out).2.1); (case side3 => refine (Kd.R_reads' (e := 4) (base := w.heap.size) (ok := fun k_ => some k_ ≠ (.slice Ao9 t316.length co9 : Value).ownBlock) (n := t319.length) (c := co11) ?_).2.2; exact (by (with_reducible repeat (first | apply rA | apply rN | apply rD)); exact (rM (rF (p := ⟨gb327, 2, none⟩) (rF (p := ⟨gb327, 1, none⟩) (rF (p := ⟨gb327, 0, none⟩) (rT HO321.out BK327.out (by decide)) (fun _ hk => hk.2) (.slice Ao9 t316.length co9)) (fun _ hk => hk.2) (.slice Ao11 t319.length co11)) (fun _ hk => hk.2) (.slice Ao12 t322.length co12)) (fun _ h_ => h_.1)))); (case side4 => exact (Kd.R_reads' HO321.out).2.1); (case side5 => refine (Kd.R_reads' (e := 3) (base := w.heap.size) (ok := fun k_ => True) (n := t322.length) (c := co12) ?_).2.2; exact (by (with_reducible repeat (first | apply rA | apply rN | apply rD)); exact (rM (rF (p := ⟨gb327, 2, none⟩) (rF (p := ⟨gb327, 1, none⟩) (rF (p := ⟨gb327, 0, none⟩) (rT HO324.out BK327.out (by decide)) (fun _ hk => hk.2) (.slice Ao9 t316.length co9)) (fun _ hk => hk.2) (.slice Ao11 t319.length co11)) (fun _ hk => hk.2) (.slice Ao12 t322.length co12)) (fun _ h_ => h_.1)))); (case side6 => exact (Kd.R_reads' HO324.out).2.1); rintro e w13 ⟨v329, v332, v335, rfl, ho0, ho1, ho2, hb⟩; refine ⟨_, rfl, ?_⟩; have n0_ := Am (Kd.Q_mono (Kd.Q_told (Kd.Q_told (Kd.Q_old (by (with_reducible repeat (first | apply Kd.Q_alloc | apply Kd.Q_drewN | apply Kd.Q_drew)); exact (Kd.Q_mono (Kd.Q_far (p := ⟨gb327, 2, none⟩) (Kd.Q_far (p := ⟨gb327, 1, none⟩) (Kd.Q_far (p := ⟨gb327, 0, none⟩) (Kd.Q_types HO318.out BK327.out (by decide)) (fun _ hk => hk.2) (.slice Ao9 t316.length co9)) (fun _ hk => hk.2) (.slice Ao11 t319.length co11)) (fun _ hk => hk.2) (.slice Ao12 t322.length co12)) (fun _ h_ => h_.1))) hb) (Kd.R_base ho0)) (Kd.R_base ho1)) (fun _ h_ => h_.1)); have n1_ := Am (rM (Kd.R_told (Kd.R_told (Kd.R_old (by (with_reducible repeat (first | apply rA | apply rN | apply rD)); exact (rM (rF (p := ⟨gb327, 2, none⟩) (rF (p := ⟨gb327, 1, none⟩) (rF (p := ⟨gb327, 0, none⟩) (rT HO321.out BK327.out (by decide)) (fun _ hk => hk.2) (.slice Ao9 t316.length co9)) (fun _ hk => hk.2) (.slice Ao11 t319.length co11)) (fun _ hk => hk.2) (.slice Ao12 t322.length co12)) (fun _ h_ => h_.1))) hb) (Kd.R_base ho0)) (Kd.R_base ho1)) (fun _ h_ => h_.1)); have n2_ := Am (Kd.R_elder' (by (with_reducible repeat (first | apply rA | apply rN | apply rD)); exact (rM (rF (p := ⟨gb327, 2, none⟩) (rF (p := ⟨gb327, 1, none⟩) (rF (p := ⟨gb327, 0, none⟩) (rT HO324.out BK327.out (by decide)) (fun _ hk => hk.2) (.slice Ao9 t316.length co9)) (fun _ hk => hk.2) (.slice Ao11 t319.length co11)) (fun _ hk => hk.2) (.slice Ao12 t322.length co12)) (fun _ h_ => h_.1))) (Kd.R_base ho2) hb); have n3_ := Am (Kd.R_lower (Kd.R_new' (Kd.R_new' ho0 (Kd.Q_lt (by (with_reducible repeat (first | apply Kd.Q_alloc | apply Kd.Q_drewN | apply Kd.Q_drew)); exact (Kd.Q_mono (Kd.Q_far (p := ⟨gb327, 2, none⟩) (Kd.Q_far (p := ⟨gb327, 1, none⟩) (Kd.Q_far (p := ⟨gb327, 0, none⟩) (Kd.Q_types HO318.out BK327.out (by decide)) (fun _ hk => hk.2) (.slice Ao9 t316.length co9)) (fun _ hk => hk.2) (.slice Ao11 t319.length co11)) (fun _ hk => hk.2) (.slice Ao12 t322.length co12)) (fun _ h_ => h_.1))))) (Kd.R_lt (by (with_reducible repeat (first | apply rA | apply rN | apply rD)); exact (rM (rF (p := ⟨gb327, 2, none⟩) (rF (p := ⟨gb327, 1, none⟩) (rF (p := ⟨gb327, 0, none⟩) (rT HO321.out BK327.out (by decide)) (fun _ hk => hk.2) (.slice Ao9 t316.length co9)) (fun _ hk => hk.2) (.slice Ao11 t319.length co11)) (fun _ hk => hk.2) (.slice Ao12 t322.length co12)) (fun _ h_ => h_.1))))) (bZ (by repeat (first | (with_reducible first | exact HB.out | apply oA | apply pN | apply o1 | refine bS ?_ GE327.out) | exact HB.out)))); have n4_ := Am (Kd.R_lower (Kd.R_new' (Kd.R_new' ho1 (Kd.Q_lt (by (with_reducible repeat (first | apply Kd.Q_alloc | apply Kd.Q_drewN | apply Kd.Q_drew)); exact (Kd.Q_mono (Kd.Q_far (p := ⟨gb327, 2, none⟩) (Kd.Q_far (p := ⟨gb327, 1, none⟩) (Kd.Q_far (p := ⟨gb327, 0, none⟩) (Kd.Q_types HO318.out BK327.out (by decide)) (fun _ hk => hk.2) (.slice Ao9 t316.length co9)) (fun _ hk => hk.2) (.slice Ao11 t319.length co11)) (fun _ hk => hk.2) (.slice Ao12 t322.length co12)) (fun _ h_ => h_.1))))) (Kd.R_lt (by (with_reducible repeat (first | apply rA | apply rN | apply rD)); exact (rM (rF (p := ⟨gb327, 2, none⟩) (rF (p := ⟨gb327, 1, none⟩) (rF (p := ⟨gb327, 0, none⟩) (rT HO321.out BK327.out (by decide)) (fun _ hk => hk.2) (.slice Ao9 t316.length co9)) (fun _ hk => hk.2) (.slice Ao11 t319.length co11)) (fun _ hk => hk.2) (.slice Ao12 t322.length co12)) (fun _ h_ => h_.1))))) (bZ (by repeat (first | (with_reducible first | exact HB.out | apply oA | apply pN | apply o1 | refine bS ?_ GE327.out) | exact HB.out)))); have n5_ := Am (Kd.R_lower (Kd.R_new' ho2 (Kd.R_lt (by (with_reducible repeat (first | apply rA | apply rN | apply rD)); exact (rM (rF (p := ⟨gb327, 2, none⟩) (rF (p := ⟨gb327, 1, none⟩) (rF (p := ⟨gb327, 0, none⟩) (rT HO324.out BK327.out (by decide)) (fun _ hk => hk.2) (.slice Ao9 t316.length co9)) (fun _ hk => hk.2) (.slice Ao11 t319.length co11)) (fun _ hk => hk.2) (.slice Ao12 t322.length co12)) (fun _ h_ => h_.1))))) (bZ (by repeat (first | (with_reducible first | exact HB.out | apply oA | apply pN | apply o1 | refine bS ?_ GE327.out) | exact HB.out)))); have n6_ := Am (bB (g := gb327) (o := .cells #[.slice Ao9 t316.length co9, .slice Ao11 t319.length co11, .slice Ao12 t322.length co12] 26 (0, 0)) (by (with_reducible repeat (first | refine bN ?_ _ | refine bD ?_ | refine bA ?_ _)); refine blk_put (cs := #[.slice Ao9 t316.length co9, .slice Ao11 t319.length co11, .slice none 0 0]) ?_ 2 _ rfl; (with_reducible repeat (first | refine bN ?_ _ | refine bD ?_ | refine bA ?_ _)); refine blk_put (cs := #[.slice Ao9 t316.length co9, .slice none 0 0, .slice none 0 0]) ?_ 1 _ rfl; (with_reducible repeat (first | refine bN ?_ _ | refine bD ?_ | refine bA ?_ _)); refine blk_put (cs := #[.slice none 0 0, .slice none 0 0, .slice none 0 0]) ?_ 0 _ rfl; (with_reducible repeat (first | refine bN ?_ _ | refine bD ?_ | refine bA ?_ _)); exact BK327.out) hb); have n7_ := Am (bP (by repeat (first | (with_reducible first | exact HB.out | apply oA | apply pN | apply o1 | refine bS ?_ GE327.out) | exact HB.out)) hb); clear HO318; clear HO321; clear HO324; clear BK327; clear HB; have HO318 := n0_; have HO321 := n1_; have HO324 := n2_; have HO330 := n3_; have HO333 := n4_; have HO336 := n5_; have BK327 := n6_; have HB := n7_; clear n0_ n1_ n2_ n3_ n4_ n5_ n6_ n7_; (try clear hb); (try clear hb2); (try clear hk); (try clear hi); (try clear ho0); (try clear ho1); (try clear ho2)) | ((with_reducible refine gate_dst (N := 6) rfl ?_); refine box_event ?hg (N := 6) ?hd (cs := #[.slice none 0 0, .slice none 0 0, .slice none 0 0]) (t := 26) ?hr ?_; (case hd => rfl); (case hg => rfl); (case hr => first | (go_simp; done) | (go_simp; rfl)); intro gb338 hg w14 hbox hb; have n0_ := Am (Kd.Q_below (by (with_reducible repeat (first | apply Kd.Q_alloc | apply Kd.Q_drewN | apply Kd.Q_drew)); exact HO318.out) hb); have n1_ := Am (rB (by (with_reducible repeat (first | apply rA | apply rN | apply rD)); exact HO321.out) hb); have n2_ := Am (rB (by (with_reducible repeat (first | apply rA | apply rN | apply rD)); exact HO324.out) hb); have n3_ := Am (rB (by (with_reducible repeat (first | apply rA | apply rN | apply rD)); exact HO330.out) hb); have n4_ := Am (rB (by (with_reducible repeat (first | apply rA | apply rN | apply rD)); exact HO333.out) hb); have n5_ := Am (rB (by (with_reducible repeat (first | apply rA | apply rN | apply rD)); exact HO336.out) hb); have n6_ := Am (bB (g := gb327) (o := .cells #[.slice Ao9 t316.length co9, .slice Ao11 t319.length co11, .slice Ao12 t322.length co12] 26 (0, 0)) (by (with_reducible repeat (first | refine bN ?_ _ | refine bD ?_ | refine bA ?_ _)); exact BK327.out) hb); have n7_ := Am (bP (by repeat (first | (with_reducible first | exact HB.out | apply oA | apply pN | apply o1 | refine bS ?_ GE327.out) | exact HB.out)) hb); have n8_ := Am (hbox); have n9_ := Am ((by rw [hg]; exact (bZ (by repeat (first | (with_reducible first | exact HB.out | apply oA | apply pN | apply o1 | refine bS ?_ GE327.out) | exact HB.out))) : w.heap.size ≤ gb338)); have n10_ := Am ((by rw [hg]; exact (bZ (by repeat (first | (with_reducible first | exact HB.out | apply oA | apply pN | apply o1 | refine bS ?_ GE327.out) | exact HB.out))) : w.heap.size ≤ gb338)); have n11_ := Am ((by rw [hg]; exact Nat.ne_of_lt (blk_lt (g := gb327) (o := .cells #[.slice Ao9 t316.length co9, .slice Ao11 t319.length co11, .slice Ao12 t322.length co12] 26 (0, 0)) (by (with_reducible repeat (first | refine bN ?_ _ | refine bD ?_ | refine bA ?_ _)); exact BK327.out)) : gb327 ≠ gb338)); have n12_ := Am ((by rw [hg]; exact Nat.ne_of_gt (blk_lt (g := gb327) (o := .cells #[.slice Ao9 t316.length co9, .slice Ao11 t319.length co11, .slice Ao12 t322.length co12] 26 (0, 0)) (by (with_reducible repeat (first | refine bN ?_ _ | refine bD ?_ | refine bA ?_ _)); exact BK327.out)) : gb338 ≠ gb327)); clear HO318; clear HO321; clear HO324; clear HO330; clear HO333; clear HO336; clear BK327; clear HB; have HO318 := n0_; have HO321 := n1_; have HO324 := n2_; have HO330 := n3_; have HO333 := n4_; have HO336 := n5_; have BK327 := n6_; have HB := n7_; have BK338 := n8_; have GW338 := n9_; have GE338 := n10_; have NB327_338 := n11_; have NB338_327 := n12_; clear n0_ n1_ n2_ n3_ n4_ n5_ n6_ n7_ n8_ n9_ n10_ n11_ n12_; clear hb hbox hg; obtain ⟨Ao15, co15, eo15⟩ := Kd.R_slice HO330.out; subst eo15; have hnb16 := NB338_327.out; have hnc16 := NB327_338.out; have hcz17_0 : w14.cell? ⟨gb338, 0, none⟩ = some (.slice none 0 0) := (bC BK338.out 0).trans rfl; have hcz17_1 : w14.cell? ⟨gb338, 1, none⟩ = some (.slice none 0 0) := (bC BK338.out 1).trans rfl; have hcz17_2 : w14.cell? ⟨gb338, 2, none⟩ = some (.slice none 0 0) := (bC BK338.out 2).trans rfl; have hfz17_0 := bF BK338.out 0; have hfz17_1 := bF BK338.out 1; have hfz17_2 := bF BK338.out 2; obtain ⟨Ao18, co18, eo18⟩ := Kd.R_slice HO333.out; subst eo18; obtain ⟨Ao19, co19, eo19⟩ := Kd.R_slice HO336.out; subst eo19; have hcz20_0 : w14.cell? ⟨gb327, 0, none⟩ = some (.slice Ao9 t316.length co9) := (bC BK327.out 0).trans rfl; have hcz20_1 : w14.cell? ⟨gb327, 1, none⟩ = some (.slice Ao11 t319.length co11) := (bC BK327.out 1).trans rfl; have hcz20_2 : w14.cell? ⟨gb327, 2, none⟩ = some (.slice Ao12 t322.length co12) := (bC BK327.out 2).trans rfl; have hfz20_0 := bF BK327.out 0; have hfz20_1 := bF BK327.out 1; have hfz20_2 := bF BK327.out 2) | ((with_reducible refine gate_callee (f := 26) rfl ?_); refine goesL_ (some 33) rfl rfl Try.func26 (by kernel_rfl) rfl #[.agg #[.slice Ao9 t316.length co9, .slice Ao11 t319.length co11, .slice Ao12 t322.length co12], .int .i64 t325, .int .i64 t326] rfl (by (try simp only [lM, lC, lN]); first | done | rfl | (simp only [lD, lT]; rfl)) ?_; (with_reducible refine (spec_SigsSet.calls k _ _ t316 _ _ t319 _ _ t322 t325 t326 t339 t342 t345 t348 _ ?side1 ?side2 ?side3 ?side4 ?side5 ?side6 A5.out).mono ?_); (case side1 => refine (Kd.Q_reads' (e := 4) (base := w.heap.size) (ok := fun k_ => ((some k_ ≠ (.slice Ao11 t319.length co11 : Value).ownBlock ∧ some k_ ≠ (.slice Ao15 t328.length co15 : Value).ownBlock) ∧ some k_ ≠ (.slice Ao18 t331.length co18 : Value).ownBlock)) (n := t316.length) (c := co9) ?_).2.2; exact (by (with_reducible repeat (first | apply Kd.Q_alloc | apply Kd.Q_drewN | apply Kd.Q_drew)); exact (Kd.Q_mono (Kd.Q_far (p := ⟨gb338, 2, none⟩) (Kd.Q_far (p := ⟨gb338, 1, none⟩) (Kd.Q_far (p := ⟨gb338, 0, none⟩) (Kd.Q_types HO318.out BK338.out (by decide)) (fun _ hk => hk.2) (.slice Ao15 t328.length co15)) (fun _ hk => hk.2) (.slice Ao18 t331.length co18)) (fun _ hk => hk.2) (.slice Ao19 t334.length co19)) (fun _ h_ => h_.1)))); (case side2 => exact (Kd.Q_reads' HO318.out).2.1); (case side3 => refine (Kd.R_reads' (e := 4) (base := w.heap.size) (ok := fun k_ => ((some k_ ≠ (.slice Ao9 t316.length co9 : Value).ownBlock ∧ some k_ ≠ (.slice Ao15 t328.length co15 : Value).ownBlock) ∧ some k_ ≠ (.slice Ao18 t331.length co18 : Value).ownBlock)) (n := t319.length) (c := co11) ?_).2.2; exact (by (with_reducible repeat (first | apply rA | apply rN | apply rD)); exact (rM (rF (p := ⟨gb338, 2, none⟩) (rF (p := ⟨gb338, 1, none⟩) (rF (p := ⟨gb338, 0, none⟩) (rT HO321.out BK338.out (by decide)) (fun _ hk => hk.2) (.slice Ao15 t328.length co15)) (fun _ hk => hk.2) (.slice Ao18 t331.length co18)) (fun _ hk => hk.2) (.slice Ao19 t334.length co19)) (fun _ h_ => h_.1)))); (case side4 => exact (Kd.R_reads' HO321.out).2.1); (case side5 => refine (Kd.R_reads' (e := 3) (base := w.heap.size) (ok := fun k_ => (True ∧ some k_ ≠ (.slice Ao19 t334.length co19 : Value).ownBlock)) (n := t322.length) (c := co12) ?_).2.2; exact (by (with_reducible repeat (first | apply rA | apply rN | apply rD)); exact (rM (rF (p := ⟨gb338, 2, none⟩) (rF (p := ⟨gb338, 1, none⟩) (rF (p := ⟨gb338, 0, none⟩) (rT HO324.out BK338.out (by decide)) (fun _ hk => hk.2) (.slice Ao15 t328.length co15)) (fun _ hk => hk.2) (.slice Ao18 t331.length co18)) (fun _ hk => hk.2) (.slice Ao19 t334.length co19)) (fun _ h_ => h_.1)))); (case side6 => exact (Kd.R_reads' HO324.out).2.1); rintro e w21 ⟨v340, v343, v346, rfl, ho0, ho1, ho2, hb⟩; refine ⟨_, rfl, ?_⟩; have n0_ := Am (Kd.Q_mono (Kd.Q_told (Kd.Q_told (Kd.Q_old (by (with_reducible repeat (first | apply Kd.Q_alloc | apply Kd.Q_drewN | apply Kd.Q_drew)); exact (Kd.Q_mono (Kd.Q_far (p := ⟨gb338, 2, none⟩) (Kd.Q_far (p := ⟨gb338, 1, none⟩) (Kd.Q_far (p := ⟨gb338, 0, none⟩) (Kd.Q_types HO318.out BK338.out (by decide)) (fun _ hk => hk.2) (.slice Ao15 t328.length co15)) (fun _ hk => hk.2) (.slice Ao18 t331.length co18)) (fun _ hk => hk.2) (.slice Ao19 t334.length co19)) (fun _ h_ => h_.1))) hb) (Kd.R_base ho0)) (Kd.R_base ho1)) (fun _ h_ => h_.1)); have n1_ := Am (rM (Kd.R_told (Kd.R_told (Kd.R_old (by (with_reducible repeat (first | apply rA | apply rN | apply rD)); exact (rM (rF (p := ⟨gb338, 2, none⟩) (rF (p := ⟨gb338, 1, none⟩) (rF (p := ⟨gb338, 0, none⟩) (rT HO321.out BK338.out (by decide)) (fun _ hk => hk.2) (.slice Ao15 t328.length co15)) (fun _ hk => hk.2) (.slice Ao18 t331.length co18)) (fun _ hk => hk.2) (.slice Ao19 t334.length co19)) (fun _ h_ => h_.1))) hb) (Kd.R_base ho0)) (Kd.R_base ho1)) (fun _ h_ => h_.1)); have n2_ := Am (Kd.R_elder' (by (with_reducible repeat (first | apply rA | apply rN | apply rD)); exact (rM (rF (p := ⟨gb338, 2, none⟩) (rF (p := ⟨gb338, 1, none⟩) (rF (p := ⟨gb338, 0, none⟩) (rT HO324.out BK338.out (by decide)) (fun _ hk => hk.2) (.slice Ao15 t328.length co15)) (fun _ hk => hk.2) (.slice Ao18 t331.length co18)) (fun _ hk => hk.2) (.slice Ao19 t334.length co19)) (fun _ h_ => h_.1))) (Kd.R_base ho2) hb); have n3_ := Am (rM (Kd.R_told (Kd.R_told (Kd.R_old (by (with_reducible repeat (first | apply rA | apply rN | apply rD)); exact (rM (rF (p := ⟨gb338, 2, none⟩) (rF (p := ⟨gb338, 1, none⟩) (rF (p := ⟨gb338, 0, none⟩) (rT HO330.out BK338.out (by decide)) (fun _ hk => hk.2) (.slice Ao15 t328.length co15)) (fun _ hk => hk.2) (.slice Ao18 t331.length co18)) (fun _ hk => hk.2) (.slice Ao19 t334.length co19)) (fun _ h_ => h_.1))) hb) (Kd.R_base ho0)) (Kd.R_base ho1)) (fun _ h_ => h_.1)); have n4_ := Am (rM (Kd.R_told (Kd.R_told (Kd.R_old (by (with_reducible repeat (first | apply rA | apply rN | apply rD)); exact (rM (rF (p := ⟨gb338, 2, none⟩) (rF (p := ⟨gb338, 1, none⟩) (rF (p := ⟨gb338, 0, none⟩) (rT HO333.out BK338.out (by decide)) (fun _ hk => hk.2) (.slice Ao15 t328.length co15)) (fun _ hk => hk.2) (.slice Ao18 t331.length co18)) (fun _ hk => hk.2) (.slice Ao19 t334.length co19)) (fun _ h_ => h_.1))) hb) (Kd.R_base ho0)) (Kd.R_base ho1)) (fun _ h_ => h_.1)); have n5_ := Am (Kd.R_elder' (by (with_reducible repeat (first | apply rA | apply rN | apply rD)); exact (rM (rF (p := ⟨gb338, 2, none⟩) (rF (p := ⟨gb338, 1, none⟩) (rF (p := ⟨gb338, 0, none⟩) (rT HO336.out BK338.out (by decide)) (fun _ hk => hk.2) (.slice Ao15 t328.length co15)) (fun _ hk => hk.2) (.slice Ao18 t331.length co18)) (fun _ hk => hk.2) (.slice Ao19 t334.length co19)) (fun _ h_ => h_.1))) (Kd.R_base ho2) hb); have n6_ := Am (Kd.R_lower (Kd.R_new' (Kd.R_new' (Kd.R_new' (Kd.R_new' ho0 (Kd.Q_lt (by (with_reducible repeat (first | apply Kd.Q_alloc | apply Kd.Q_drewN | apply Kd.Q_drew)); exact (Kd.Q_mono (Kd.Q_far (p := ⟨gb338, 2, none⟩) (Kd.Q_far (p := ⟨gb338, 1, none⟩) (Kd.Q_far (p := ⟨gb338, 0, none⟩) (Kd.Q_types HO318.out BK338.out (by decide)) (fun _ hk => hk.2) (.slice Ao15 t328.length co15)) (fun _ hk => hk.2) (.slice Ao18 t331.length co18)) (fun _ hk => hk.2) (.slice Ao19 t334.length co19)) (fun _ h_ => h_.1))))) (Kd.R_lt (by (with_reducible repeat (first | apply rA | apply rN | apply rD)); exact (rM (rF (p := ⟨gb338, 2, none⟩) (rF (p := ⟨gb338, 1, none⟩) (rF (p := ⟨gb338, 0, none⟩) (rT HO321.out BK338.out (by decide)) (fun _ hk => hk.2) (.slice Ao15 t328.length co15)) (fun _ hk => hk.2) (.slice Ao18 t331.length co18)) (fun _ hk => hk.2) (.slice Ao19 t334.length co19)) (fun _ h_ => h_.1))))) (Kd.R_lt (by (with_reducible repeat (first | apply rA | apply rN | apply rD)); exact (rM (rF (p := ⟨gb338, 2, none⟩) (rF (p := ⟨gb338, 1, none⟩) (rF (p := ⟨gb338, 0, none⟩) (rT HO330.out BK338.out (by decide)) (fun _ hk => hk.2) (.slice Ao15 t328.length co15)) (fun _ hk => hk.2) (.slice Ao18 t331.length co18)) (fun _ hk => hk.2) (.slice Ao19 t334.length co19)) (fun _ h_ => h_.1))))) (Kd.R_lt (by (with_reducible repeat (first | apply rA | apply rN | apply rD)); exact (rM (rF (p := ⟨gb338, 2, none⟩) (rF (p := ⟨gb338, 1, none⟩) (rF (p := ⟨gb338, 0, none⟩) (rT HO333.out BK338.out (by decide)) (fun _ hk => hk.2) (.slice Ao15 t328.length co15)) (fun _ hk => hk.2) (.slice Ao18 t331.length co18)) (fun _ hk => hk.2) (.slice Ao19 t334.length co19)) (fun _ h_ => h_.1))))) (bZ (by repeat (first | (with_reducible first | exact HB.out | apply oA | apply pN | apply o1 | refine bS ?_ GE327.out | refine bS ?_ GE338.out) | exact HB.out)))); have n7_ := Am (Kd.R_lower (Kd.R_new' (Kd.R_new' (Kd.R_new' (Kd.R_new' ho1 (Kd.Q_lt (by (with_reducible repeat (first | apply Kd.Q_alloc | apply Kd.Q_drewN | apply Kd.Q_drew)); exact (Kd.Q_mono (Kd.Q_far (p := ⟨gb338, 2, none⟩) (Kd.Q_far (p := ⟨gb338, 1, none⟩) (Kd.Q_far (p := ⟨gb338, 0, none⟩) (Kd.Q_types HO318.out BK338.out (by decide)) (fun _ hk => hk.2) (.slice Ao15 t328.length co15)) (fun _ hk => hk.2) (.slice Ao18 t331.length co18)) (fun _ hk => hk.2) (.slice Ao19 t334.length co19)) (fun _ h_ => h_.1))))) (Kd.R_lt (by (with_reducible repeat (first | apply rA | apply rN | apply rD)); exact (rM (rF (p := ⟨gb338, 2, none⟩) (rF (p := ⟨gb338, 1, none⟩) (rF (p := ⟨gb338, 0, none⟩) (rT HO321.out BK338.out (by decide)) (fun _ hk => hk.2) (.slice Ao15 t328.length co15)) (fun _ hk => hk.2) (.slice Ao18 t331.length co18)) (fun _ hk => hk.2) (.slice Ao19 t334.length co19)) (fun _ h_ => h_.1))))) (Kd.R_lt (by (with_reducible repeat (first | apply rA | apply rN | apply rD)); exact (rM (rF (p := ⟨gb338, 2, none⟩) (rF (p := ⟨gb338, 1, none⟩) (rF (p := ⟨gb338, 0, none⟩) (rT HO330.out BK338.out (by decide)) (fun _ hk => hk.2) (.slice Ao15 t328.length co15)) (fun _ hk => hk.2) (.slice Ao18 t331.length co18)) (fun _ hk => hk.2) (.slice Ao19 t334.length co19)) (fun _ h_ => h_.1))))) (Kd.R_lt (by (with_reducible repeat (first | apply rA | apply rN | apply rD)); exact (rM (rF (p := ⟨gb338, 2, none⟩) (rF (p := ⟨gb338, 1, none⟩) (rF (p := ⟨gb338, 0, none⟩) (rT HO333.out BK338.out (by decide)) (fun _ hk => hk.2) (.slice Ao15 t328.length co15)) (fun _ hk => hk.2) (.slice Ao18 t331.length co18)) (fun _ hk => hk.2) (.slice Ao19 t334.length co19)) (fun _ h_ => h_.1))))) (bZ (by repeat (first | (with_reducible first | exact HB.out | apply oA | apply pN | apply o1 | refine bS ?_ GE327.out | refine bS ?_ GE338.out) | exact HB.out)))); have n8_ := Am (Kd.R_lower (Kd.R_new' (Kd.R_new' ho2 (Kd.R_lt (by (with_reducible repeat (first | apply rA | apply rN | apply rD)); exact (rM (rF (p := ⟨gb338, 2, none⟩) (rF (p := ⟨gb338, 1, none⟩) (rF (p := ⟨gb338, 0, none⟩) (rT HO324.out BK338.out (by decide)) (fun _ hk => hk.2) (.slice Ao15 t328.length co15)) (fun _ hk => hk.2) (.slice Ao18 t331.length co18)) (fun _ hk => hk.2) (.slice Ao19 t334.length co19)) (fun _ h_ => h_.1))))) (Kd.R_lt (by (with_reducible repeat (first | apply rA | apply rN | apply rD)); exact (rM (rF (p := ⟨gb338, 2, none⟩) (rF (p := ⟨gb338, 1, none⟩) (rF (p := ⟨gb338, 0, none⟩) (rT HO336.out BK338.out (by decide)) (fun _ hk => hk.2) (.slice Ao15 t328.length co15)) (fun _ hk => hk.2) (.slice Ao18 t331.length co18)) (fun _ hk => hk.2) (.slice Ao19 t334.length co19)) (fun _ h_ => h_.1))))) (bZ (by repeat (first | (with_reducible first | exact HB.out | apply oA | apply pN | apply o1 | refine bS ?_ GE327.out | refine bS ?_ GE338.out) | exact HB.out)))); have n9_ := Am (bB (g := gb327) (o := .cells #[.slice Ao9 t316.length co9, .slice Ao11 t319.length co11, .slice Ao12 t322.length co12] 26 (0, 0)) (by (with_reducible repeat (first | refine bN ?_ _ | refine bD ?_ | refine bA ?_ _)); refine blk_far ?_ NB327_338.out _; (with_reducible repeat (first | refine bN ?_ _ | refine bD ?_ | refine bA ?_ _)); refine blk_far ?_ NB327_338.out _; (with_reducible repeat (first | refine bN ?_ _ | refine bD ?_ | refine bA ?_ _)); refine blk_far ?_ NB327_338.out _; (with_reducible repeat (first | refine bN ?_ _ | refine bD ?_ | refine bA ?_ _)); exact BK327.out) hb); have n10_ := Am (bB (g := gb338) (o := .cells #[.slice Ao15 t328.length co15, .slice Ao18 t331.length co18, .slice Ao19 t334.length co19] 26 (0, 0)) (by (with_reducible repeat (first | refine bN ?_ _ | refine bD ?_ | refine bA ?_ _)); refine blk_put (cs := #[.slice Ao15 t328.length co15, .slice Ao18 t331.length co18, .slice none 0 0]) ?_ 2 _ rfl; (with_reducible repeat (first | refine bN ?_ _ | refine bD ?_ | refine bA ?_ _)); refine blk_put (cs := #[.slice Ao15 t328.length co15, .slice none 0 0, .slice none 0 0]) ?_ 1 _ rfl; (with_reducible repeat (first | refine bN ?_ _ | refine bD ?_ | refine bA ?_ _)); refine blk_put (cs := #[.slice none 0 0, .slice none 0 0, .slice none 0 0]) ?_ 0 _ rfl; (with_reducible repeat (first | refine bN ?_ _ | refine bD ?_ | refine bA ?_ _)); exact BK338.out) hb); have n11_ := Am (bP (by repeat (first | (with_reducible first | exact HB.out | apply oA | apply pN | apply o1 | refine bS ?_ GE327.out | refine bS ?_ GE338.out) | exact HB.out)) hb); clear HO318; clear HO321; clear HO324; clear HO330; clear HO333; clear HO336; clear BK327; clear BK338; clear HB; have HO318 := n0_; have HO321 := n1_; have HO324 := n2_; have HO330 := n3_; have HO333 := n4_; have HO336 := n5_; have HO341 := n6_; have HO344 := n7_; have HO347 := n8_; have BK327 := n9_; have BK338 := n10_; have HB := n11_; clear n0_ n1_ n2_ n3_ n4_ n5_ n6_ n7_ n8_ n9_ n10_ n11_; (try clear hb); (try clear hb2); (try clear hk); (try clear hi); (try clear ho0); (try clear ho1); (try clear ho2)) | ((with_reducible refine gate_dst (N := 8) rfl ?_); refine box_event ?hg (N := 8) ?hd (cs := #[.slice none 0 0, .slice none 0 0, .slice none 0 0]) (t := 26) ?hr ?_; (case hd => rfl); (case hg => rfl); (case hr => first | (go_simp; done) | (go_simp; rfl)); intro gb349 hg w22 hbox hb; have n0_ := Am (Kd.Q_below (by (with_reducible repeat (first | apply Kd.Q_alloc | apply Kd.Q_drewN | apply Kd.Q_drew)); exact HO318.out) hb); have n1_ := Am (rB (by (with_reducible repeat (first | apply rA | apply rN | apply rD)); exact HO321.out) hb); have n2_ := Am (rB (by (with_reducible repeat (first | apply rA | apply rN | apply rD)); exact HO324.out) hb); have n3_ := Am (rB (by (with_reducible repeat (first | apply rA | apply rN | apply rD)); exact HO330.out) hb); have n4_ := Am (rB (by (with_reducible repeat (first | apply rA | apply rN | apply rD)); exact HO333.out) hb); have n5_ := Am (rB (by (with_reducible repeat (first | apply rA | apply rN | apply rD)); exact HO336.out) hb); have n6_ := Am (rB (by (with_reducible repeat (first | apply rA | apply rN | apply rD)); exact HO341.out) hb); have n7_ := Am (rB (by (with_reducible repeat (first | apply rA | apply rN | apply rD)); exact HO344.out) hb); have n8_ := Am (rB (by (with_reducible repeat (first | apply rA | apply rN | apply rD)); exact HO347.out) hb); have n9_ := Am (bB (g := gb327) (o := .cells #[.slice Ao9 t316.length co9, .slice Ao11 t319.length co11, .slice Ao12 t322.length co12] 26 (0, 0)) (by (with_reducible repeat (first | refine bN ?_ _ | refine bD ?_ | refine bA ?_ _)); exact BK327.out) hb); have n10_ := Am (bB (g := gb338) (o := .cells #[.slice Ao15 t328.length co15, .slice Ao18 t331.length co18, .slice Ao19 t334.length co19] 26 (0, 0)) (by (with_reducible repeat (first | refine bN ?_ _ | refine bD ?_ | refine bA ?_ _)); exact BK338.out) hb); have n11_ := Am (bP (by repeat (first | (with_reducible first | exact HB.out | apply oA | apply pN | apply o1 | refine bS ?_ GE327.out | refine bS ?_ GE338.out) | exact HB.out)) hb); have n12_ := Am (hbox); have n13_ := Am ((by rw [hg]; exact (bZ (by repeat (first | (with_reducible first | exact HB.out | apply oA | apply pN | apply o1 | refine bS ?_ GE327.out | refine bS ?_ GE338.out) | exact HB.out))) : w.heap.size ≤ gb349)); have n14_ := Am ((by rw [hg]; exact (bZ (by repeat (first | (with_reducible first | exact HB.out | apply oA | apply pN | apply o1 | refine bS ?_ GE327.out | refine bS ?_ GE338.out) | exact HB.out))) : w.heap.size ≤ gb349)); have n15_ := Am ((by rw [hg]; exact Nat.ne_of_lt (blk_lt (g := gb327) (o := .cells #[.slice Ao9 t316.length co9, .slice Ao11 t319.length co11, .slice Ao12 t322.length co12] 26 (0, 0)) (by (with_reducible repeat (first | refine bN ?_ _ | refine bD ?_ | refine bA ?_ _)); exact BK327.out)) : gb327 ≠ gb349)); have n16_ := Am ((by rw [hg]; exact Nat.ne_of_gt (blk_lt (g := gb327) (o := .cells #[.slice Ao9 t316.length co9, .slice Ao11 t319.length co11, .slice Ao12 t322.length co12] 26 (0, 0)) (by (with_reducible repeat (first | refine bN ?_ _ | refine bD ?_ | refine bA ?_ _)); exact BK327.out)) : gb349 ≠ gb327)); have n17_ := Am ((by rw [hg]; exact Nat.ne_of_lt (blk_lt (g := gb338) (o := .cells #[.slice Ao15 t328.length co15, .slice Ao18 t331.length co18, .slice Ao19 t334.length co19] 26 (0, 0)) (by (with_reducible repeat (first | refine bN ?_ _ | refine bD ?_ | refine bA ?_ _)); exact BK338.out)) : gb338 ≠ gb349)); have n18_ := Am ((by rw [hg]; exact Nat.ne_of_gt (blk_lt (g := gb338) (o := .cells #[.slice Ao15 t328.length co15, .slice Ao18 t331.length co18, .slice Ao19 t334.length co19] 26 (0, 0)) (by (with_reducible repeat (first | refine bN ?_ _ | refine bD ?_ | refine bA ?_ _)); exact BK338.out)) : gb349 ≠ gb338)); clear HO318; clear HO321; clear HO324; clear HO330; clear HO333; clear HO336; clear HO341; clear HO344; clear HO347; clear BK327; clear BK338; clear HB; have HO318 := n0_; have HO321 := n1_; have HO324 := n2_; have HO330 := n3_; have HO333 := n4_; have HO336 := n5_; have HO341 := n6_; have HO344 := n7_; have HO347 := n8_; have BK327 := n9_; have BK338 := n10_; have HB := n11_; have BK349 := n12_; have GW349 := n13_; have GE349 := n14_; have NB327_349 := n15_; have NB349_327 := n16_; have NB338_349 := n17_; have NB349_338 := n18_; clear n0_ n1_ n2_ n3_ n4_ n5_ n6_ n7_ n8_ n9_ n10_ n11_ n12_ n13_ n14_ n15_ n16_ n17_ n18_; clear hb hbox hg; obtain ⟨Ao23, co23, eo23⟩ := Kd.R_slice HO341.out; subst eo23; have hnb24 := NB349_327.out; have hnc24 := NB327_349.out; have hnb25 := NB349_338.out; have hnc25 := NB338_349.out; have hcz26_0 : w22.cell? ⟨gb349, 0, none⟩ = some (.slice none 0 0) := (bC BK349.out 0).trans rfl; have hcz26_1 : w22.cell? ⟨gb349, 1, none⟩ = some (.slice none 0 0) := (bC BK349.out 1).trans rfl; have hcz26_2 : w22.cell? ⟨gb349, 2, none⟩ = some (.slice none 0 0) := (bC BK349.out 2).trans rfl; have hfz26_0 := bF BK349.out 0; have hfz26_1 := bF BK349.out 1; have hfz26_2 := bF BK349.out 2; obtain ⟨Ao27, co27, eo27⟩ := Kd.R_slice HO344.out; subst eo27; obtain ⟨Ao28, co28, eo28⟩ := Kd.R_slice HO347.out; subst eo28))
  (try simp only [Act.put, lA, lZ, lS])
  go_cut [10] (fun v10 wc => ∃ (kq : Nat) (x10_5 : Bool), v10 = .bool x10_5 ∧ Aside0 (laws_FnSigsSet.j0 kq t325 t326 t337 x10_5 t316 t319 t322 t328 t331 t334 = some r) ∧ Aside0 (kq ≤ k) ∧ Aside0 (Kd.Q Kd.bool 4 wc w.heap.size (fun k_ => some k_ ≠ ((.slice Ao11 t319.length co11) : Value).ownBlock ∧ some k_ ≠ ((.slice Ao15 t328.length co15) : Value).ownBlock ∧ some k_ ≠ ((.slice Ao18 t331.length co18) : Value).ownBlock ∧ some k_ ≠ ((.slice Ao23 t339.length co23) : Value).ownBlock ∧ some k_ ≠ ((.slice Ao27 t342.length co27) : Value).ownBlock) (.slice Ao9 t316.length co9) t316) ∧ Aside0 (Kd.R Kd.bool 4 wc w.heap.size (fun k_ => some k_ ≠ ((.slice Ao9 t316.length co9) : Value).ownBlock ∧ some k_ ≠ ((.slice Ao15 t328.length co15) : Value).ownBlock ∧ some k_ ≠ ((.slice Ao18 t331.length co18) : Value).ownBlock ∧ some k_ ≠ ((.slice Ao23 t339.length co23) : Value).ownBlock ∧ some k_ ≠ ((.slice Ao27 t342.length co27) : Value).ownBlock) (.slice Ao11 t319.length co11) t319) ∧ Aside0 (Kd.R (Kd.int .i64) 3 wc w.heap.size (fun k_ => some k_ ≠ ((.slice Ao19 t334.length co19) : Value).ownBlock ∧ some k_ ≠ ((.slice Ao28 t345.length co28) : Value).ownBlock) (.slice Ao12 t322.length co12) t322) ∧ Aside0 (Kd.Q Kd.bool 4 wc w.heap.size (fun k_ => some k_ ≠ ((.slice Ao9 t316.length co9) : Value).ownBlock ∧ some k_ ≠ ((.slice Ao11 t319.length co11) : Value).ownBlock ∧ some k_ ≠ ((.slice Ao18 t331.length co18) : Value).ownBlock ∧ some k_ ≠ ((.slice Ao23 t339.length co23) : Value).ownBlock ∧ some k_ ≠ ((.slice Ao27 t342.length co27) : Value).ownBlock) (.slice Ao15 t328.length co15) t328) ∧ Aside0 (Kd.R Kd.bool 4 wc w.heap.size (fun k_ => some k_ ≠ ((.slice Ao9 t316.length co9) : Value).ownBlock ∧ some k_ ≠ ((.slice Ao11 t319.length co11) : Value).ownBlock ∧ some k_ ≠ ((.slice Ao15 t328.length co15) : Value).ownBlock ∧ some k_ ≠ ((.slice Ao23 t339.length co23) : Value).ownBlock ∧ some k_ ≠ ((.slice Ao27 t342.length co27) : Value).ownBlock) (.slice Ao18 t331.length co18) t331) ∧ Aside0 (Kd.R (Kd.int .i64) 3 wc w.heap.size (fun k_ => some k_ ≠ ((.slice Ao12 t322.length co12) : Value).ownBlock ∧ some k_ ≠ ((.slice Ao28 t345.length co28) : Value).ownBlock) (.slice Ao19 t334.length co19) t334) ∧ Aside0 (Kd.Q Kd.bool 4 wc w.heap.size (fun k_ => some k_ ≠ ((.slice Ao9 t316.length co9) : Value).ownBlock ∧ some k_ ≠ ((.slice Ao11 t319.length co11) : Value).ownBlock ∧ some k_ ≠ ((.slice Ao15 t328.length co15) : Value).ownBlock ∧ some k_ ≠ ((.slice Ao18 t331.length co18) : Value).ownBlock ∧ some k_ ≠ ((.slice Ao27 t342.length co27) : Value).ownBlock) (.slice Ao23 t339.length co23) t339) ∧ Aside0 (Kd.R Kd.bool 4 wc w.heap.size (fun k_ => some k_ ≠ ((.slice Ao9 t316.length co9) : Value).ownBlock ∧ some k_ ≠ ((.slice Ao11 t319.length co11) : Value).ownBlock ∧ some k_ ≠ ((.slice Ao15 t328.length co15) : Value).ownBlock ∧ some k_ ≠ ((.slice Ao18 t331.length co18) : Value).ownBlock ∧ some k_ ≠ ((.slice Ao23 t339.length co23) : Value).ownBlock) (.slice Ao27 t342.length co27) t342) ∧ Aside0 (Kd.R (Kd.int .i64) 3 wc w.heap.size (fun k_ => some k_ ≠ ((.slice Ao12 t322.length co12) : Value).ownBlock ∧ some k_ ≠ ((.slice Ao19 t334.length co19) : Value).ownBlock) (.slice Ao28 t345.length co28) t345) ∧ Aside0 (wc.heap[gb327]? = some (.cells #[(.slice Ao9 t316.length co9), (.slice Ao11 t319.length co11), (.slice Ao12 t322.length co12)] 26 (0, 0))) ∧ Aside0 (wc.heap[gb338]? = some (.cells #[(.slice Ao15 t328.length co15), (.slice Ao18 t331.length co18), (.slice Ao19 t334.length co19)] 26 (0, 0))) ∧ Aside0 (wc.heap[gb349]? = some (.cells #[(.slice Ao23 t339.length co23), (.slice Ao27 t342.length co27), (.slice Ao28 t345.length co28)] 26 (0, 0))) ∧ Aside0 (Below w.heap.size w wc))
  case first =>
   have H := HC6.out
   clear HC6
   replace H := Option.bind_eq_some_iff.mp H
   obtain ⟨t350, A290, H⟩ := H
   replace H : (if t350 = true then (laws_FnSigsSet.j0 k t325 t326 t337 (t337 == t348) t316 t319 t322 t328 t331 t334) else (laws_FnSigsSet.j0 k t325 t326 t337 false t316 t319 t322 t328 t331 t334)) = some r := H
   have A29 := Am A290
   clear A290
   by_cases c30 : t350 = true
   ·subst c30
    have H1 : (laws_FnSigsSet.j0 k t325 t326 t337 (t337 == t348) t316 t319 t322 t328 t331 t334) = some r := by rw [if_pos rfl] at H; exact H
    clear H
    have H := H1
    clear H1
    have H' := Am H
    clear H
    have hnb31 := NB338_327.out
    have hnc31 := NB327_338.out
    have hnb32 := NB338_349.out
    have hnc32 := NB349_338.out
    have hcz33_0 : w22.cell? ⟨gb338, 0, none⟩ = some (.slice Ao15 t328.length co15) := (bC BK338.out 0).trans rfl
    have hcz33_1 : w22.cell? ⟨gb338, 1, none⟩ = some (.slice Ao18 t331.length co18) := (bC BK338.out 1).trans rfl
    have hcz33_2 : w22.cell? ⟨gb338, 2, none⟩ = some (.slice Ao19 t334.length co19) := (bC BK338.out 2).trans rfl
    have hfz33_0 := bF BK338.out 0
    have hfz33_1 := bF BK338.out 1
    have hfz33_2 := bF BK338.out 2
    have hnb34 := NB349_327.out
    have hnc34 := NB327_349.out
    have hcz35_0 : w22.cell? ⟨gb349, 0, none⟩ = some (.slice none 0 0) := (bC BK349.out 0).trans rfl
    have hcz35_1 : w22.cell? ⟨gb349, 1, none⟩ = some (.slice none 0 0) := (bC BK349.out 1).trans rfl
    have hcz35_2 : w22.cell? ⟨gb349, 2, none⟩ = some (.slice none 0 0) := (bC BK349.out 2).trans rfl
    have hfz35_0 := bF BK349.out 0
    have hfz35_1 := bF BK349.out 1
    have hfz35_2 := bF BK349.out 2
    go_wp2_with (first | ((with_reducible refine gate_callee (f := 14) rfl ?_); refine goesL_ (some 38) rfl rfl Try.func14 (by kernel_rfl) rfl #[.agg #[.slice Ao15 t328.length co15, .slice Ao18 t331.length co18, .slice Ao19 t334.length co19], .agg #[.slice Ao23 t339.length co23, .slice Ao27 t342.length co27, .slice Ao28 t345.length co28]] rfl (by (try simp only [lM, lC, lN]); first | done | rfl | (simp only [lD, lT]; rfl)) ?_; (with_reducible refine (laws_qdSigs.calls k _ _ t328 _ _ t331 _ _ t334 _ _ t339 _ _ t342 _ _ t345 true _ ?side1 ?side2 ?side3 ?side4 ?side5 ?side6 ?side7 ?side8 ?side9 ?side10 ?side11 ?side12 A29.out).mono ?_); (case side1 => refine (Kd.R_reads' (e := 4) (base := w.heap.size) (ok := fun k_ => ((((some k_ ≠ (.slice Ao18 t331.length co18 : Value).ownBlock ∧ some k_ ≠ (.slice Ao9 t316.length co9 : Value).ownBlock) ∧ some k_ ≠ (.slice Ao11 t319.length co11 : Value).ownBlock) ∧ some k_ ≠ (.slice Ao23 t339.length co23 : Value).ownBlock) ∧ some k_ ≠ (.slice Ao27 t342.length co27 : Value).ownBlock)) (n := t328.length) (c := co15) ?_).2.2; exact (by (with_reducible repeat (first | apply rA | apply rN | apply rD)); exact (rM (rF (p := ⟨gb349, 2, none⟩) (rF (p := ⟨gb349, 1, none⟩) (rF (p := ⟨gb349, 0, none⟩) (rT HO330.out BK349.out (by decide)) (fun _ hk => hk.2) (.slice Ao23 t339.length co23)) (fun _ hk => hk.2) (.slice Ao27 t342.length co27)) (fun _ hk => hk.2) (.slice Ao28 t345.length co28)) (fun _ h_ => h_.1)))); (case side2 => exact (Kd.R_reads' HO330.out).2.1); (case side3 => refine (Kd.R_reads' (e := 4) (base := w.heap.size) (ok := fun k_ => ((((some k_ ≠ (.slice Ao15 t328.length co15 : Value).ownBlock ∧ some k_ ≠ (.slice Ao9 t316.length co9 : Value).ownBlock) ∧ some k_ ≠ (.slice Ao11 t319.length co11 : Value).ownBlock) ∧ some k_ ≠ (.slice Ao23 t339.length co23 : Value).ownBlock) ∧ some k_ ≠ (.slice Ao27 t342.length co27 : Value).ownBlock)) (n := t331.length) (c := co18) ?_).2.2; exact (by (with_reducible repeat (first | apply rA | apply rN | apply rD)); exact (rM (rF (p := ⟨gb349, 2, none⟩) (rF (p := ⟨gb349, 1, none⟩) (rF (p := ⟨gb349, 0, none⟩) (rT HO333.out BK349.out (by decide)) (fun _ hk => hk.2) (.slice Ao23 t339.length co23)) (fun _ hk => hk.2) (.slice Ao27 t342.length co27)) (fun _ hk => hk.2) (.slice Ao28 t345.length co28)) (fun _ h_ => h_.1)))); (case side4 => exact (Kd.R_reads' HO333.out).2.1); (case side5 => refine (Kd.R_reads' (e := 3) (base := w.heap.size) (ok := fun k_ => ((True ∧ some k_ ≠ (.slice Ao12 t322.length co12 : Value).ownBlock) ∧ some k_ ≠ (.slice Ao28 t345.length co28 : Value).ownBlock)) (n := t334.length) (c := co19) ?_).2.2; exact (by (with_reducible repeat (first | apply rA | apply rN | apply rD)); exact (rM (rF (p := ⟨gb349, 2, none⟩) (rF (p := ⟨gb349, 1, none⟩) (rF (p := ⟨gb349, 0, none⟩) (rT HO336.out BK349.out (by decide)) (fun _ hk => hk.2) (.slice Ao23 t339.length co23)) (fun _ hk => hk.2) (.slice Ao27 t342.length co27)) (fun _ hk => hk.2) (.slice Ao28 t345.length co28)) (fun _ h_ => h_.1)))); (case side6 => exact (Kd.R_reads' HO336.out).2.1); (case side7 => refine (Kd.R_reads' (e := 4) (base := w.heap.size) (ok := fun k_ => ((((some k_ ≠ (.slice Ao27 t342.length co27 : Value).ownBlock ∧ some k_ ≠ (.slice Ao9 t316.length co9 : Value).ownBlock) ∧ some k_ ≠ (.slice Ao11 t319.length co11 : Value).ownBlock) ∧ some k_ ≠ (.slice Ao15 t328.length co15 : Value).ownBlock) ∧ some k_ ≠ (.slice Ao18 t331.length co18 : Value).ownBlock)) (n := t339.length) (c := co23) ?_).2.2; exact (by (with_reducible repeat (first | apply rA | apply rN | apply rD)); exact (rM (rF (p := ⟨gb349, 2, none⟩) (rF (p := ⟨gb349, 1, none⟩) (rF (p := ⟨gb349, 0, none⟩) (rT HO341.out BK349.out (by decide)) (fun _ hk => hk.2) (.slice Ao23 t339.length co23)) (fun _ hk => hk.2) (.slice Ao27 t342.length co27)) (fun _ hk => hk.2) (.slice Ao28 t345.length co28)) (fun _ h_ => h_.1)))); (case side8 => exact (Kd.R_reads' HO341.out).2.1); (case side9 => refine (Kd.R_reads' (e := 4) (base := w.heap.size) (ok := fun k_ => ((((some k_ ≠ (.slice Ao23 t339.length co23 : Value).ownBlock ∧ some k_ ≠ (.slice Ao9 t316.length co9 : Value).ownBlock) ∧ some k_ ≠ (.slice Ao11 t319.length co11 : Value).ownBlock) ∧ some k_ ≠ (.slice Ao15 t328.length co15 : Value).ownBlock) ∧ some k_ ≠ (.slice Ao18 t331.length co18 : Value).ownBlock)) (n := t342.length) (c := co27) ?_).2.2; exact (by (with_reducible repeat (first | apply rA | apply rN | apply rD)); exact (rM (rF (p := ⟨gb349, 2, none⟩) (rF (p := ⟨gb349, 1, none⟩) (rF (p := ⟨gb349, 0, none⟩) (rT HO344.out BK349.out (by decide)) (fun _ hk => hk.2) (.slice Ao23 t339.length co23)) (fun _ hk => hk.2) (.slice Ao27 t342.length co27)) (fun _ hk => hk.2) (.slice Ao28 t345.length co28)) (fun _ h_ => h_.1)))); (case side10 => exact (Kd.R_reads' HO344.out).2.1); (case side11 => refine (Kd.R_reads' (e := 3) (base := w.heap.size) (ok := fun k_ => ((True ∧ some k_ ≠ (.slice Ao12 t322.length co12 : Value).ownBlock) ∧ some k_ ≠ (.slice Ao19 t334.length co19 : Value).ownBlock)) (n := t345.length) (c := co28) ?_).2.2; exact (by (with_reducible repeat (first | apply rA | apply rN | apply rD)); exact (rM (rF (p := ⟨gb349, 2, none⟩) (rF (p := ⟨gb349, 1, none⟩) (rF (p := ⟨gb349, 0, none⟩) (rT HO347.out BK349.out (by decide)) (fun _ hk => hk.2) (.slice Ao23 t339.length co23)) (fun _ hk => hk.2) (.slice Ao27 t342.length co27)) (fun _ hk => hk.2) (.slice Ao28 t345.length co28)) (fun _ h_ => h_.1)))); (case side12 => exact (Kd.R_reads' HO347.out).2.1); rintro e w36 ⟨rfl, hb⟩; refine ⟨_, rfl, ?_⟩; have n0_ := Am (Kd.Q_below (by (with_reducible repeat (first | apply Kd.Q_alloc | apply Kd.Q_drewN | apply Kd.Q_drew)); exact (Kd.Q_mono (Kd.Q_far (p := ⟨gb349, 2, none⟩) (Kd.Q_far (p := ⟨gb349, 1, none⟩) (Kd.Q_far (p := ⟨gb349, 0, none⟩) (Kd.Q_types HO318.out BK349.out (by decide)) (fun _ hk => hk.2) (.slice Ao23 t339.length co23)) (fun _ hk => hk.2) (.slice Ao27 t342.length co27)) (fun _ hk => hk.2) (.slice Ao28 t345.length co28)) (fun _ h_ => h_.1))) hb); have n1_ := Am (rB (by (with_reducible repeat (first | apply rA | apply rN | apply rD)); exact (rM (rF (p := ⟨gb349, 2, none⟩) (rF (p := ⟨gb349, 1, none⟩) (rF (p := ⟨gb349, 0, none⟩) (rT HO321.out BK349.out (by decide)) (fun _ hk => hk.2) (.slice Ao23 t339.length co23)) (fun _ hk => hk.2) (.slice Ao27 t342.length co27)) (fun _ hk => hk.2) (.slice Ao28 t345.length co28)) (fun _ h_ => h_.1))) hb); have n2_ := Am (rB (by (with_reducible repeat (first | apply rA | apply rN | apply rD)); exact (rM (rF (p := ⟨gb349, 2, none⟩) (rF (p := ⟨gb349, 1, none⟩) (rF (p := ⟨gb349, 0, none⟩) (rT HO324.out BK349.out (by decide)) (fun _ hk => hk.2) (.slice Ao23 t339.length co23)) (fun _ hk => hk.2) (.slice Ao27 t342.length co27)) (fun _ hk => hk.2) (.slice Ao28 t345.length co28)) (fun _ h_ => h_.1))) hb); have n3_ := Am (rB (by (with_reducible repeat (first | apply rA | apply rN | apply rD)); exact (rM (rF (p := ⟨gb349, 2, none⟩) (rF (p := ⟨gb349, 1, none⟩) (rF (p := ⟨gb349, 0, none⟩) (rT HO330.out BK349.out (by decide)) (fun _ hk => hk.2) (.slice Ao23 t339.length co23)) (fun _ hk => hk.2) (.slice Ao27 t342.length co27)) (fun _ hk => hk.2) (.slice Ao28 t345.length co28)) (fun _ h_ => h_.1))) hb); have n4_ := Am (rB (by (with_reducible repeat (first | apply rA | apply rN | apply rD)); exact (rM (rF (p := ⟨gb349, 2, none⟩) (rF (p := ⟨gb349, 1, none⟩) (rF (p := ⟨gb349, 0, none⟩) (rT HO333.out BK349.out (by decide)) (fun _ hk => hk.2) (.slice Ao23 t339.length co23)) (fun _ hk => hk.2) (.slice Ao27 t342.length co27)) (fun _ hk => hk.2) (.slice Ao28 t345.length co28)) (fun _ h_ => h_.1))) hb); have n5_ := Am (rB (by (with_reducible repeat (first | apply rA | apply rN | apply rD)); exact (rM (rF (p := ⟨gb349, 2, none⟩) (rF (p := ⟨gb349, 1, none⟩) (rF (p := ⟨gb349, 0, none⟩) (rT HO336.out BK349.out (by decide)) (fun _ hk => hk.2) (.slice Ao23 t339.length co23)) (fun _ hk => hk.2) (.slice Ao27 t342.length co27)) (fun _ hk => hk.2) (.slice Ao28 t345.length co28)) (fun _ h_ => h_.1))) hb); have n6_ := Am (rB (by (with_reducible repeat (first | apply rA | apply rN | apply rD)); exact (rM (rF (p := ⟨gb349, 2, none⟩) (rF (p := ⟨gb349, 1, none⟩) (rF (p := ⟨gb349, 0, none⟩) (rT HO341.out BK349.out (by decide)) (fun _ hk => hk.2) (.slice Ao23 t339.length co23)) (fun _ hk => hk.2) (.slice Ao27 t342.length co27)) (fun _ hk => hk.2) (.slice Ao28 t345.length co28)) (fun _ h_ => h_.1))) hb); have n7_ := Am (rB (by (with_reducible repeat (first | apply rA | apply rN | apply rD)); exact (rM (rF (p := ⟨gb349, 2, none⟩) (rF (p := ⟨gb349, 1, none⟩) (rF (p := ⟨gb349, 0, none⟩) (rT HO344.out BK349.out (by decide)) (fun _ hk => hk.2) (.slice Ao23 t339.length co23)) (fun _ hk => hk.2) (.slice Ao27 t342.length co27)) (fun _ hk => hk.2) (.slice Ao28 t345.length co28)) (fun _ h_ => h_.1))) hb); have n8_ := Am (rB (by (with_reducible repeat (first | apply rA | apply rN | apply rD)); exact (rM (rF (p := ⟨gb349, 2, none⟩) (rF (p := ⟨gb349, 1, none⟩) (rF (p := ⟨gb349, 0, none⟩) (rT HO347.out BK349.out (by decide)) (fun _ hk => hk.2) (.slice Ao23 t339.length co23)) (fun _ hk => hk.2) (.slice Ao27 t342.length co27)) (fun _ hk => hk.2) (.slice Ao28 t345.length co28)) (fun _ h_ => h_.1))) hb); have n9_ := Am (bB (g := gb327) (o := .cells #[.slice Ao9 t316.length co9, .slice Ao11 t319.length co11, .slice Ao12 t322.length co12] 26 (0, 0)) (by (with_reducible repeat (first | refine bN ?_ _ | refine bD ?_ | refine bA ?_ _)); refine blk_far ?_ NB327_349.out _; (with_reducible repeat (first | refine bN ?_ _ | refine bD ?_ | refine bA ?_ _)); refine blk_far ?_ NB327_349.out _; (with_reducible repeat (first | refine bN ?_ _ | refine bD ?_ | refine bA ?_ _)); refine blk_far ?_ NB327_349.out _; (with_reducible repeat (first | refine bN ?_ _ | refine bD ?_ | refine bA ?_ _)); exact BK327.out) hb); have n10_ := Am (bB (g := gb338) (o := .cells #[.slice Ao15 t328.length co15, .slice Ao18 t331.length co18, .slice Ao19 t334.length co19] 26 (0, 0)) (by (with_reducible repeat (first | refine bN ?_ _ | refine bD ?_ | refine bA ?_ _)); refine blk_far ?_ NB338_349.out _; (with_reducible repeat (first | refine bN ?_ _ | refine bD ?_ | refine bA ?_ _)); refine blk_far ?_ NB338_349.out _; (with_reducible repeat (first | refine bN ?_ _ | refine bD ?_ | refine bA ?_ _)); refine blk_far ?_ NB338_349.out _; (with_reducible repeat (first | refine bN ?_ _ | refine bD ?_ | refine bA ?_ _)); exact BK338.out) hb); have n11_ := Am (bB (g := gb349) (o := .cells #[.slice Ao23 t339.length co23, .slice Ao27 t342.length co27, .slice Ao28 t345.length co28] 26 (0, 0)) (by (with_reducible repeat (first | refine bN ?_ _ | refine bD ?_ | refine bA ?_ _)); refine blk_put (cs := #[.slice Ao23 t339.length co23, .slice Ao27 t342.length co27, .slice none 0 0]) ?_ 2 _ rfl; (with_reducible repeat (first | refine bN ?_ _ | refine bD ?_ | refine bA ?_ _)); refine blk_put (cs := #[.slice Ao23 t339.length co23, .slice none 0 0, .slice none 0 0]) ?_ 1 _ rfl; (with_reducible repeat (first | refine bN ?_ _ | refine bD ?_ | refine bA ?_ _)); refine blk_put (cs := #[.slice none 0 0, .slice none 0 0, .slice none 0 0]) ?_ 0 _ rfl; (with_reducible repeat (first | refine bN ?_ _ | refine bD ?_ | refine bA ?_ _)); exact BK349.out) hb); have n12_ := Am (bP (by repeat (first | (with_reducible first | exact HB.out | apply oA | apply pN | apply o1 | refine bS ?_ GE327.out | refine bS ?_ GE338.out | refine bS ?_ GE349.out) | exact HB.out)) hb); clear HO318; clear HO321; clear HO324; clear HO330; clear HO333; clear HO336; clear HO341; clear HO344; clear HO347; clear BK327; clear BK338; clear BK349; clear HB; have HO318 := n0_; have HO321 := n1_; have HO324 := n2_; have HO330 := n3_; have HO333 := n4_; have HO336 := n5_; have HO341 := n6_; have HO344 := n7_; have HO347 := n8_; have BK327 := n9_; have BK338 := n10_; have BK349 := n11_; have HB := n12_; clear n0_ n1_ n2_ n3_ n4_ n5_ n6_ n7_ n8_ n9_ n10_ n11_ n12_; (try clear hb); (try clear hb2); (try clear hk); (try clear hi)))
    go_meet
    case rel => exact ⟨_, ((t337 == t348)), (by first | rfl | (simp; done) | (simp [*]; done)), H', ⟨by first | omega | exact Nat.le_refl _⟩, ⟨by (with_reducible repeat (first | apply Kd.Q_alloc | apply Kd.Q_drewN | apply Kd.Q_drew)); exact Kd.Q_mono HO318.out (fun _ hk => ⟨hk.1.1.1.1, ⟨hk.1.1.1.2, ⟨hk.1.1.2, ⟨hk.1.2, hk.2⟩⟩⟩⟩)⟩, ⟨by (with_reducible repeat (first | apply rA | apply rN | apply rD)); exact rM HO321.out (fun _ hk => ⟨hk.1.1.1.1, ⟨hk.1.1.1.2, ⟨hk.1.1.2, ⟨hk.1.2, hk.2⟩⟩⟩⟩)⟩, ⟨by (with_reducible repeat (first | apply rA | apply rN | apply rD)); exact rM HO324.out (fun _ hk => ⟨hk.1.2, hk.2⟩)⟩, ⟨Kd.Q_of_R (by (with_reducible repeat (first | apply rA | apply rN | apply rD)); exact rM HO330.out (fun _ hk => ⟨hk.1.1.1.2, ⟨hk.1.1.2, ⟨hk.1.1.1.1, ⟨hk.1.2, hk.2⟩⟩⟩⟩))⟩, ⟨by (with_reducible repeat (first | apply rA | apply rN | apply rD)); exact rM HO333.out (fun _ hk => ⟨hk.1.1.1.2, ⟨hk.1.1.2, ⟨hk.1.1.1.1, ⟨hk.1.2, hk.2⟩⟩⟩⟩)⟩, ⟨by (with_reducible repeat (first | apply rA | apply rN | apply rD)); exact rM HO336.out (fun _ hk => ⟨hk.1.2, hk.2⟩)⟩, ⟨Kd.Q_of_R (by (with_reducible repeat (first | apply rA | apply rN | apply rD)); exact rM HO341.out (fun _ hk => ⟨hk.1.1.1.2, ⟨hk.1.1.2, ⟨hk.1.2, ⟨hk.2, hk.1.1.1.1⟩⟩⟩⟩))⟩, ⟨by (with_reducible repeat (first | apply rA | apply rN | apply rD)); exact rM HO344.out (fun _ hk => ⟨hk.1.1.1.2, ⟨hk.1.1.2, ⟨hk.1.2, ⟨hk.2, hk.1.1.1.1⟩⟩⟩⟩)⟩, ⟨by (with_reducible repeat (first | apply rA | apply rN | apply rD)); exact rM HO347.out (fun _ hk => ⟨hk.1.2, hk.2⟩)⟩, ⟨by (with_reducible repeat (first | refine bN ?_ _ | refine bD ?_ | refine bA ?_ _)); exact BK327.out⟩, ⟨by (with_reducible repeat (first | refine bN ?_ _ | refine bD ?_ | refine bA ?_ _)); exact BK338.out⟩, ⟨by (with_reducible repeat (first | refine bN ?_ _ | refine bD ?_ | refine bA ?_ _)); exact BK349.out⟩, ⟨by repeat (first | (with_reducible first | exact HB.out | apply oA | apply pN | apply o1 | refine bS ?_ GE327.out | refine bS ?_ GE338.out | refine bS ?_ GE349.out) | exact HB.out)⟩⟩
   ·replace c30 := Bool.eq_false_iff.mpr c30
    subst c30
    have H1 : (laws_FnSigsSet.j0 k t325 t326 t337 false t316 t319 t322 t328 t331 t334) = some r := by rw [if_neg (show ¬ (false = true) by decide)] at H; exact H
    clear H
    have H := H1
    clear H1
    have H' := Am H
    clear H
    have hnb37 := NB338_327.out
    have hnc37 := NB327_338.out
    have hnb38 := NB338_349.out
    have hnc38 := NB349_338.out
    have hcz39_0 : w22.cell? ⟨gb338, 0, none⟩ = some (.slice Ao15 t328.length co15) := (bC BK338.out 0).trans rfl
    have hcz39_1 : w22.cell? ⟨gb338, 1, none⟩ = some (.slice Ao18 t331.length co18) := (bC BK338.out 1).trans rfl
    have hcz39_2 : w22.cell? ⟨gb338, 2, none⟩ = some (.slice Ao19 t334.length co19) := (bC BK338.out 2).trans rfl
    have hfz39_0 := bF BK338.out 0
    have hfz39_1 := bF BK338.out 1
    have hfz39_2 := bF BK338.out 2
    have hnb40 := NB349_327.out
    have hnc40 := NB327_349.out
    have hcz41_0 : w22.cell? ⟨gb349, 0, none⟩ = some (.slice none 0 0) := (bC BK349.out 0).trans rfl
    have hcz41_1 : w22.cell? ⟨gb349, 1, none⟩ = some (.slice none 0 0) := (bC BK349.out 1).trans rfl
    have hcz41_2 : w22.cell? ⟨gb349, 2, none⟩ = some (.slice none 0 0) := (bC BK349.out 2).trans rfl
    have hfz41_0 := bF BK349.out 0
    have hfz41_1 := bF BK349.out 1
    have hfz41_2 := bF BK349.out 2
    go_wp2_with (first | ((with_reducible refine gate_callee (f := 14) rfl ?_); refine goesL_ (some 38) rfl rfl Try.func14 (by kernel_rfl) rfl #[.agg #[.slice Ao15 t328.length co15, .slice Ao18 t331.length co18, .slice Ao19 t334.length co19], .agg #[.slice Ao23 t339.length co23, .slice Ao27 t342.length co27, .slice Ao28 t345.length co28]] rfl (by (try simp only [lM, lC, lN]); first | done | rfl | (simp only [lD, lT]; rfl)) ?_; (with_reducible refine (laws_qdSigs.calls k _ _ t328 _ _ t331 _ _ t334 _ _ t339 _ _ t342 _ _ t345 false _ ?side1 ?side2 ?side3 ?side4 ?side5 ?side6 ?side7 ?side8 ?side9 ?side10 ?side11 ?side12 A29.out).mono ?_); (case side1 => refine (Kd.R_reads' (e := 4) (base := w.heap.size) (ok := fun k_ => ((((some k_ ≠ (.slice Ao18 t331.length co18 : Value).ownBlock ∧ some k_ ≠ (.slice Ao9 t316.length co9 : Value).ownBlock) ∧ some k_ ≠ (.slice Ao11 t319.length co11 : Value).ownBlock) ∧ some k_ ≠ (.slice Ao23 t339.length co23 : Value).ownBlock) ∧ some k_ ≠ (.slice Ao27 t342.length co27 : Value).ownBlock)) (n := t328.length) (c := co15) ?_).2.2; exact (by (with_reducible repeat (first | apply rA | apply rN | apply rD)); exact (rM (rF (p := ⟨gb349, 2, none⟩) (rF (p := ⟨gb349, 1, none⟩) (rF (p := ⟨gb349, 0, none⟩) (rT HO330.out BK349.out (by decide)) (fun _ hk => hk.2) (.slice Ao23 t339.length co23)) (fun _ hk => hk.2) (.slice Ao27 t342.length co27)) (fun _ hk => hk.2) (.slice Ao28 t345.length co28)) (fun _ h_ => h_.1)))); (case side2 => exact (Kd.R_reads' HO330.out).2.1); (case side3 => refine (Kd.R_reads' (e := 4) (base := w.heap.size) (ok := fun k_ => ((((some k_ ≠ (.slice Ao15 t328.length co15 : Value).ownBlock ∧ some k_ ≠ (.slice Ao9 t316.length co9 : Value).ownBlock) ∧ some k_ ≠ (.slice Ao11 t319.length co11 : Value).ownBlock) ∧ some k_ ≠ (.slice Ao23 t339.length co23 : Value).ownBlock) ∧ some k_ ≠ (.slice Ao27 t342.length co27 : Value).ownBlock)) (n := t331.length) (c := co18) ?_).2.2; exact (by (with_reducible repeat (first | apply rA | apply rN | apply rD)); exact (rM (rF (p := ⟨gb349, 2, none⟩) (rF (p := ⟨gb349, 1, none⟩) (rF (p := ⟨gb349, 0, none⟩) (rT HO333.out BK349.out (by decide)) (fun _ hk => hk.2) (.slice Ao23 t339.length co23)) (fun _ hk => hk.2) (.slice Ao27 t342.length co27)) (fun _ hk => hk.2) (.slice Ao28 t345.length co28)) (fun _ h_ => h_.1)))); (case side4 => exact (Kd.R_reads' HO333.out).2.1); (case side5 => refine (Kd.R_reads' (e := 3) (base := w.heap.size) (ok := fun k_ => ((True ∧ some k_ ≠ (.slice Ao12 t322.length co12 : Value).ownBlock) ∧ some k_ ≠ (.slice Ao28 t345.length co28 : Value).ownBlock)) (n := t334.length) (c := co19) ?_).2.2; exact (by (with_reducible repeat (first | apply rA | apply rN | apply rD)); exact (rM (rF (p := ⟨gb349, 2, none⟩) (rF (p := ⟨gb349, 1, none⟩) (rF (p := ⟨gb349, 0, none⟩) (rT HO336.out BK349.out (by decide)) (fun _ hk => hk.2) (.slice Ao23 t339.length co23)) (fun _ hk => hk.2) (.slice Ao27 t342.length co27)) (fun _ hk => hk.2) (.slice Ao28 t345.length co28)) (fun _ h_ => h_.1)))); (case side6 => exact (Kd.R_reads' HO336.out).2.1); (case side7 => refine (Kd.R_reads' (e := 4) (base := w.heap.size) (ok := fun k_ => ((((some k_ ≠ (.slice Ao27 t342.length co27 : Value).ownBlock ∧ some k_ ≠ (.slice Ao9 t316.length co9 : Value).ownBlock) ∧ some k_ ≠ (.slice Ao11 t319.length co11 : Value).ownBlock) ∧ some k_ ≠ (.slice Ao15 t328.length co15 : Value).ownBlock) ∧ some k_ ≠ (.slice Ao18 t331.length co18 : Value).ownBlock)) (n := t339.length) (c := co23) ?_).2.2; exact (by (with_reducible repeat (first | apply rA | apply rN | apply rD)); exact (rM (rF (p := ⟨gb349, 2, none⟩) (rF (p := ⟨gb349, 1, none⟩) (rF (p := ⟨gb349, 0, none⟩) (rT HO341.out BK349.out (by decide)) (fun _ hk => hk.2) (.slice Ao23 t339.length co23)) (fun _ hk => hk.2) (.slice Ao27 t342.length co27)) (fun _ hk => hk.2) (.slice Ao28 t345.length co28)) (fun _ h_ => h_.1)))); (case side8 => exact (Kd.R_reads' HO341.out).2.1); (case side9 => refine (Kd.R_reads' (e := 4) (base := w.heap.size) (ok := fun k_ => ((((some k_ ≠ (.slice Ao23 t339.length co23 : Value).ownBlock ∧ some k_ ≠ (.slice Ao9 t316.length co9 : Value).ownBlock) ∧ some k_ ≠ (.slice Ao11 t319.length co11 : Value).ownBlock) ∧ some k_ ≠ (.slice Ao15 t328.length co15 : Value).ownBlock) ∧ some k_ ≠ (.slice Ao18 t331.length co18 : Value).ownBlock)) (n := t342.length) (c := co27) ?_).2.2; exact (by (with_reducible repeat (first | apply rA | apply rN | apply rD)); exact (rM (rF (p := ⟨gb349, 2, none⟩) (rF (p := ⟨gb349, 1, none⟩) (rF (p := ⟨gb349, 0, none⟩) (rT HO344.out BK349.out (by decide)) (fun _ hk => hk.2) (.slice Ao23 t339.length co23)) (fun _ hk => hk.2) (.slice Ao27 t342.length co27)) (fun _ hk => hk.2) (.slice Ao28 t345.length co28)) (fun _ h_ => h_.1)))); (case side10 => exact (Kd.R_reads' HO344.out).2.1); (case side11 => refine (Kd.R_reads' (e := 3) (base := w.heap.size) (ok := fun k_ => ((True ∧ some k_ ≠ (.slice Ao12 t322.length co12 : Value).ownBlock) ∧ some k_ ≠ (.slice Ao19 t334.length co19 : Value).ownBlock)) (n := t345.length) (c := co28) ?_).2.2; exact (by (with_reducible repeat (first | apply rA | apply rN | apply rD)); exact (rM (rF (p := ⟨gb349, 2, none⟩) (rF (p := ⟨gb349, 1, none⟩) (rF (p := ⟨gb349, 0, none⟩) (rT HO347.out BK349.out (by decide)) (fun _ hk => hk.2) (.slice Ao23 t339.length co23)) (fun _ hk => hk.2) (.slice Ao27 t342.length co27)) (fun _ hk => hk.2) (.slice Ao28 t345.length co28)) (fun _ h_ => h_.1)))); (case side12 => exact (Kd.R_reads' HO347.out).2.1); rintro e w42 ⟨rfl, hb⟩; refine ⟨_, rfl, ?_⟩; have n0_ := Am (Kd.Q_below (by (with_reducible repeat (first | apply Kd.Q_alloc | apply Kd.Q_drewN | apply Kd.Q_drew)); exact (Kd.Q_mono (Kd.Q_far (p := ⟨gb349, 2, none⟩) (Kd.Q_far (p := ⟨gb349, 1, none⟩) (Kd.Q_far (p := ⟨gb349, 0, none⟩) (Kd.Q_types HO318.out BK349.out (by decide)) (fun _ hk => hk.2) (.slice Ao23 t339.length co23)) (fun _ hk => hk.2) (.slice Ao27 t342.length co27)) (fun _ hk => hk.2) (.slice Ao28 t345.length co28)) (fun _ h_ => h_.1))) hb); have n1_ := Am (rB (by (with_reducible repeat (first | apply rA | apply rN | apply rD)); exact (rM (rF (p := ⟨gb349, 2, none⟩) (rF (p := ⟨gb349, 1, none⟩) (rF (p := ⟨gb349, 0, none⟩) (rT HO321.out BK349.out (by decide)) (fun _ hk => hk.2) (.slice Ao23 t339.length co23)) (fun _ hk => hk.2) (.slice Ao27 t342.length co27)) (fun _ hk => hk.2) (.slice Ao28 t345.length co28)) (fun _ h_ => h_.1))) hb); have n2_ := Am (rB (by (with_reducible repeat (first | apply rA | apply rN | apply rD)); exact (rM (rF (p := ⟨gb349, 2, none⟩) (rF (p := ⟨gb349, 1, none⟩) (rF (p := ⟨gb349, 0, none⟩) (rT HO324.out BK349.out (by decide)) (fun _ hk => hk.2) (.slice Ao23 t339.length co23)) (fun _ hk => hk.2) (.slice Ao27 t342.length co27)) (fun _ hk => hk.2) (.slice Ao28 t345.length co28)) (fun _ h_ => h_.1))) hb); have n3_ := Am (rB (by (with_reducible repeat (first | apply rA | apply rN | apply rD)); exact (rM (rF (p := ⟨gb349, 2, none⟩) (rF (p := ⟨gb349, 1, none⟩) (rF (p := ⟨gb349, 0, none⟩) (rT HO330.out BK349.out (by decide)) (fun _ hk => hk.2) (.slice Ao23 t339.length co23)) (fun _ hk => hk.2) (.slice Ao27 t342.length co27)) (fun _ hk => hk.2) (.slice Ao28 t345.length co28)) (fun _ h_ => h_.1))) hb); have n4_ := Am (rB (by (with_reducible repeat (first | apply rA | apply rN | apply rD)); exact (rM (rF (p := ⟨gb349, 2, none⟩) (rF (p := ⟨gb349, 1, none⟩) (rF (p := ⟨gb349, 0, none⟩) (rT HO333.out BK349.out (by decide)) (fun _ hk => hk.2) (.slice Ao23 t339.length co23)) (fun _ hk => hk.2) (.slice Ao27 t342.length co27)) (fun _ hk => hk.2) (.slice Ao28 t345.length co28)) (fun _ h_ => h_.1))) hb); have n5_ := Am (rB (by (with_reducible repeat (first | apply rA | apply rN | apply rD)); exact (rM (rF (p := ⟨gb349, 2, none⟩) (rF (p := ⟨gb349, 1, none⟩) (rF (p := ⟨gb349, 0, none⟩) (rT HO336.out BK349.out (by decide)) (fun _ hk => hk.2) (.slice Ao23 t339.length co23)) (fun _ hk => hk.2) (.slice Ao27 t342.length co27)) (fun _ hk => hk.2) (.slice Ao28 t345.length co28)) (fun _ h_ => h_.1))) hb); have n6_ := Am (rB (by (with_reducible repeat (first | apply rA | apply rN | apply rD)); exact (rM (rF (p := ⟨gb349, 2, none⟩) (rF (p := ⟨gb349, 1, none⟩) (rF (p := ⟨gb349, 0, none⟩) (rT HO341.out BK349.out (by decide)) (fun _ hk => hk.2) (.slice Ao23 t339.length co23)) (fun _ hk => hk.2) (.slice Ao27 t342.length co27)) (fun _ hk => hk.2) (.slice Ao28 t345.length co28)) (fun _ h_ => h_.1))) hb); have n7_ := Am (rB (by (with_reducible repeat (first | apply rA | apply rN | apply rD)); exact (rM (rF (p := ⟨gb349, 2, none⟩) (rF (p := ⟨gb349, 1, none⟩) (rF (p := ⟨gb349, 0, none⟩) (rT HO344.out BK349.out (by decide)) (fun _ hk => hk.2) (.slice Ao23 t339.length co23)) (fun _ hk => hk.2) (.slice Ao27 t342.length co27)) (fun _ hk => hk.2) (.slice Ao28 t345.length co28)) (fun _ h_ => h_.1))) hb); have n8_ := Am (rB (by (with_reducible repeat (first | apply rA | apply rN | apply rD)); exact (rM (rF (p := ⟨gb349, 2, none⟩) (rF (p := ⟨gb349, 1, none⟩) (rF (p := ⟨gb349, 0, none⟩) (rT HO347.out BK349.out (by decide)) (fun _ hk => hk.2) (.slice Ao23 t339.length co23)) (fun _ hk => hk.2) (.slice Ao27 t342.length co27)) (fun _ hk => hk.2) (.slice Ao28 t345.length co28)) (fun _ h_ => h_.1))) hb); have n9_ := Am (bB (g := gb327) (o := .cells #[.slice Ao9 t316.length co9, .slice Ao11 t319.length co11, .slice Ao12 t322.length co12] 26 (0, 0)) (by (with_reducible repeat (first | refine bN ?_ _ | refine bD ?_ | refine bA ?_ _)); refine blk_far ?_ NB327_349.out _; (with_reducible repeat (first | refine bN ?_ _ | refine bD ?_ | refine bA ?_ _)); refine blk_far ?_ NB327_349.out _; (with_reducible repeat (first | refine bN ?_ _ | refine bD ?_ | refine bA ?_ _)); refine blk_far ?_ NB327_349.out _; (with_reducible repeat (first | refine bN ?_ _ | refine bD ?_ | refine bA ?_ _)); exact BK327.out) hb); have n10_ := Am (bB (g := gb338) (o := .cells #[.slice Ao15 t328.length co15, .slice Ao18 t331.length co18, .slice Ao19 t334.length co19] 26 (0, 0)) (by (with_reducible repeat (first | refine bN ?_ _ | refine bD ?_ | refine bA ?_ _)); refine blk_far ?_ NB338_349.out _; (with_reducible repeat (first | refine bN ?_ _ | refine bD ?_ | refine bA ?_ _)); refine blk_far ?_ NB338_349.out _; (with_reducible repeat (first | refine bN ?_ _ | refine bD ?_ | refine bA ?_ _)); refine blk_far ?_ NB338_349.out _; (with_reducible repeat (first | refine bN ?_ _ | refine bD ?_ | refine bA ?_ _)); exact BK338.out) hb); have n11_ := Am (bB (g := gb349) (o := .cells #[.slice Ao23 t339.length co23, .slice Ao27 t342.length co27, .slice Ao28 t345.length co28] 26 (0, 0)) (by (with_reducible repeat (first | refine bN ?_ _ | refine bD ?_ | refine bA ?_ _)); refine blk_put (cs := #[.slice Ao23 t339.length co23, .slice Ao27 t342.length co27, .slice none 0 0]) ?_ 2 _ rfl; (with_reducible repeat (first | refine bN ?_ _ | refine bD ?_ | refine bA ?_ _)); refine blk_put (cs := #[.slice Ao23 t339.length co23, .slice none 0 0, .slice none 0 0]) ?_ 1 _ rfl; (with_reducible repeat (first | refine bN ?_ _ | refine bD ?_ | refine bA ?_ _)); refine blk_put (cs := #[.slice none 0 0, .slice none 0 0, .slice none 0 0]) ?_ 0 _ rfl; (with_reducible repeat (first | refine bN ?_ _ | refine bD ?_ | refine bA ?_ _)); exact BK349.out) hb); have n12_ := Am (bP (by repeat (first | (with_reducible first | exact HB.out | apply oA | apply pN | apply o1 | refine bS ?_ GE327.out | refine bS ?_ GE338.out | refine bS ?_ GE349.out) | exact HB.out)) hb); clear HO318; clear HO321; clear HO324; clear HO330; clear HO333; clear HO336; clear HO341; clear HO344; clear HO347; clear BK327; clear BK338; clear BK349; clear HB; have HO318 := n0_; have HO321 := n1_; have HO324 := n2_; have HO330 := n3_; have HO333 := n4_; have HO336 := n5_; have HO341 := n6_; have HO344 := n7_; have HO347 := n8_; have BK327 := n9_; have BK338 := n10_; have BK349 := n11_; have HB := n12_; clear n0_ n1_ n2_ n3_ n4_ n5_ n6_ n7_ n8_ n9_ n10_ n11_ n12_; (try clear hb); (try clear hb2); (try clear hk); (try clear hi)))
    go_meet
    case rel => exact ⟨_, (false), (by first | rfl | (simp; done) | (simp [*]; done)), H', ⟨by first | omega | exact Nat.le_refl _⟩, ⟨by (with_reducible repeat (first | apply Kd.Q_alloc | apply Kd.Q_drewN | apply Kd.Q_drew)); exact Kd.Q_mono HO318.out (fun _ hk => ⟨hk.1.1.1.1, ⟨hk.1.1.1.2, ⟨hk.1.1.2, ⟨hk.1.2, hk.2⟩⟩⟩⟩)⟩, ⟨by (with_reducible repeat (first | apply rA | apply rN | apply rD)); exact rM HO321.out (fun _ hk => ⟨hk.1.1.1.1, ⟨hk.1.1.1.2, ⟨hk.1.1.2, ⟨hk.1.2, hk.2⟩⟩⟩⟩)⟩, ⟨by (with_reducible repeat (first | apply rA | apply rN | apply rD)); exact rM HO324.out (fun _ hk => ⟨hk.1.2, hk.2⟩)⟩, ⟨Kd.Q_of_R (by (with_reducible repeat (first | apply rA | apply rN | apply rD)); exact rM HO330.out (fun _ hk => ⟨hk.1.1.1.2, ⟨hk.1.1.2, ⟨hk.1.1.1.1, ⟨hk.1.2, hk.2⟩⟩⟩⟩))⟩, ⟨by (with_reducible repeat (first | apply rA | apply rN | apply rD)); exact rM HO333.out (fun _ hk => ⟨hk.1.1.1.2, ⟨hk.1.1.2, ⟨hk.1.1.1.1, ⟨hk.1.2, hk.2⟩⟩⟩⟩)⟩, ⟨by (with_reducible repeat (first | apply rA | apply rN | apply rD)); exact rM HO336.out (fun _ hk => ⟨hk.1.2, hk.2⟩)⟩, ⟨Kd.Q_of_R (by (with_reducible repeat (first | apply rA | apply rN | apply rD)); exact rM HO341.out (fun _ hk => ⟨hk.1.1.1.2, ⟨hk.1.1.2, ⟨hk.1.2, ⟨hk.2, hk.1.1.1.1⟩⟩⟩⟩))⟩, ⟨by (with_reducible repeat (first | apply rA | apply rN | apply rD)); exact rM HO344.out (fun _ hk => ⟨hk.1.1.1.2, ⟨hk.1.1.2, ⟨hk.1.2, ⟨hk.2, hk.1.1.1.1⟩⟩⟩⟩)⟩, ⟨by (with_reducible repeat (first | apply rA | apply rN | apply rD)); exact rM HO347.out (fun _ hk => ⟨hk.1.2, hk.2⟩)⟩, ⟨by (with_reducible repeat (first | refine bN ?_ _ | refine bD ?_ | refine bA ?_ _)); exact BK327.out⟩, ⟨by (with_reducible repeat (first | refine bN ?_ _ | refine bD ?_ | refine bA ?_ _)); exact BK338.out⟩, ⟨by (with_reducible repeat (first | refine bN ?_ _ | refine bD ?_ | refine bA ?_ _)); exact BK349.out⟩, ⟨by repeat (first | (with_reducible first | exact HB.out | apply oA | apply pN | apply o1 | refine bS ?_ GE327.out | refine bS ?_ GE338.out | refine bS ?_ GE349.out) | exact HB.out)⟩⟩
  case rest =>
   clear HC6
   try clear c1
   try clear c2
   try clear c2b0
   try clear c2b1
   try clear p2
   try clear c3
   try clear c4
   try clear c6
   try clear c14
   try clear c16
   try clear c24
   try clear c25
   try clear c26
   try clear c30
   try clear c31
   try clear c32
   try clear c34
   try clear c37
   try clear c38
   try clear c40
   try clear hcz10_0
   try clear hcz10_1
   try clear hcz10_2
   try clear hcz17_0
   try clear hcz17_1
   try clear hcz17_2
   try clear hcz20_0
   try clear hcz20_1
   try clear hcz20_2
   try clear hcz26_0
   try clear hcz26_1
   try clear hcz26_2
   try clear hcz33_0
   try clear hcz33_1
   try clear hcz33_2
   try clear hcz35_0
   try clear hcz35_1
   try clear hcz35_2
   try clear hcz39_0
   try clear hcz39_1
   try clear hcz39_2
   try clear hcz41_0
   try clear hcz41_1
   try clear hcz41_2
   try clear hfz10_0
   try clear hfz10_1
   try clear hfz10_2
   try clear hfz17_0
   try clear hfz17_1
   try clear hfz17_2
   try clear hfz20_0
   try clear hfz20_1
   try clear hfz20_2
   try clear hfz26_0
   try clear hfz26_1
   try clear hfz26_2
   try clear hfz33_0
   try clear hfz33_1
   try clear hfz33_2
   try clear hfz35_0
   try clear hfz35_1
   try clear hfz35_2
   try clear hfz39_0
   try clear hfz39_1
   try clear hfz39_2
   try clear hfz41_0
   try clear hfz41_1
   try clear hfz41_2
   obtain ⟨kq, x10_5, rfl, HA, HJ5, HO_328000, HO_328001, HO_328002, HO_339000, HO_339001, HO_339002, HO_350000, HO_350001, HO_350002, BK327, BK338, BK349, HB⟩ := hcut
   cases kq with
   | zero => exact absurd HA.out (by simp [laws_FnSigsSet.j0])
   | succ kj5 =>
    have H := HA.out
    clear HA
    simp only [laws_FnSigsSet.j0] at H
    have HC43 := Am H
    clear H
    go_upto_region 7 with (fail)
    go_cut [49] (fun v49 wc => ∃ (kq : Nat) (x49_42 : Bool), v49 = .bool x49_42 ∧ Aside0 (laws_FnSigsSet.j1 kq t325 t326 x10_5 x49_42 t316 t319 t322 t328 t331 t334 = some r) ∧ Aside0 (kq ≤ kj5) ∧ Aside0 (Kd.Q Kd.bool 4 wc w.heap.size (fun k_ => some k_ ≠ ((.slice Ao11 t319.length co11) : Value).ownBlock ∧ some k_ ≠ ((.slice Ao15 t328.length co15) : Value).ownBlock ∧ some k_ ≠ ((.slice Ao18 t331.length co18) : Value).ownBlock ∧ some k_ ≠ ((.slice Ao23 t339.length co23) : Value).ownBlock ∧ some k_ ≠ ((.slice Ao27 t342.length co27) : Value).ownBlock) (.slice Ao9 t316.length co9) t316) ∧ Aside0 (Kd.R Kd.bool 4 wc w.heap.size (fun k_ => some k_ ≠ ((.slice Ao9 t316.length co9) : Value).ownBlock ∧ some k_ ≠ ((.slice Ao15 t328.length co15) : Value).ownBlock ∧ some k_ ≠ ((.slice Ao18 t331.length co18) : Value).ownBlock ∧ some k_ ≠ ((.slice Ao23 t339.length co23) : Value).ownBlock ∧ some k_ ≠ ((.slice Ao27 t342.length co27) : Value).ownBlock) (.slice Ao11 t319.length co11) t319) ∧ Aside0 (Kd.R (Kd.int .i64) 3 wc w.heap.size (fun k_ => some k_ ≠ ((.slice Ao19 t334.length co19) : Value).ownBlock ∧ some k_ ≠ ((.slice Ao28 t345.length co28) : Value).ownBlock) (.slice Ao12 t322.length co12) t322) ∧ Aside0 (Kd.Q Kd.bool 4 wc w.heap.size (fun k_ => some k_ ≠ ((.slice Ao9 t316.length co9) : Value).ownBlock ∧ some k_ ≠ ((.slice Ao11 t319.length co11) : Value).ownBlock ∧ some k_ ≠ ((.slice Ao18 t331.length co18) : Value).ownBlock ∧ some k_ ≠ ((.slice Ao23 t339.length co23) : Value).ownBlock ∧ some k_ ≠ ((.slice Ao27 t342.length co27) : Value).ownBlock) (.slice Ao15 t328.length co15) t328) ∧ Aside0 (Kd.R Kd.bool 4 wc w.heap.size (fun k_ => some k_ ≠ ((.slice Ao9 t316.length co9) : Value).ownBlock ∧ some k_ ≠ ((.slice Ao11 t319.length co11) : Value).ownBlock ∧ some k_ ≠ ((.slice Ao15 t328.length co15) : Value).ownBlock ∧ some k_ ≠ ((.slice Ao23 t339.length co23) : Value).ownBlock ∧ some k_ ≠ ((.slice Ao27 t342.length co27) : Value).ownBlock) (.slice Ao18 t331.length co18) t331) ∧ Aside0 (Kd.R (Kd.int .i64) 3 wc w.heap.size (fun k_ => some k_ ≠ ((.slice Ao12 t322.length co12) : Value).ownBlock ∧ some k_ ≠ ((.slice Ao28 t345.length co28) : Value).ownBlock) (.slice Ao19 t334.length co19) t334) ∧ Aside0 (Kd.Q Kd.bool 4 wc w.heap.size (fun k_ => some k_ ≠ ((.slice Ao9 t316.length co9) : Value).ownBlock ∧ some k_ ≠ ((.slice Ao11 t319.length co11) : Value).ownBlock ∧ some k_ ≠ ((.slice Ao15 t328.length co15) : Value).ownBlock ∧ some k_ ≠ ((.slice Ao18 t331.length co18) : Value).ownBlock ∧ some k_ ≠ ((.slice Ao27 t342.length co27) : Value).ownBlock) (.slice Ao23 t339.length co23) t339) ∧ Aside0 (Kd.R Kd.bool 4 wc w.heap.size (fun k_ => some k_ ≠ ((.slice Ao9 t316.length co9) : Value).ownBlock ∧ some k_ ≠ ((.slice Ao11 t319.length co11) : Value).ownBlock ∧ some k_ ≠ ((.slice Ao15 t328.length co15) : Value).ownBlock ∧ some k_ ≠ ((.slice Ao18 t331.length co18) : Value).ownBlock ∧ some k_ ≠ ((.slice Ao23 t339.length co23) : Value).ownBlock) (.slice Ao27 t342.length co27) t342) ∧ Aside0 (Kd.R (Kd.int .i64) 3 wc w.heap.size (fun k_ => some k_ ≠ ((.slice Ao12 t322.length co12) : Value).ownBlock ∧ some k_ ≠ ((.slice Ao19 t334.length co19) : Value).ownBlock) (.slice Ao28 t345.length co28) t345) ∧ Aside0 (wc.heap[gb327]? = some (.cells #[(.slice Ao9 t316.length co9), (.slice Ao11 t319.length co11), (.slice Ao12 t322.length co12)] 26 (0, 0))) ∧ Aside0 (wc.heap[gb338]? = some (.cells #[(.slice Ao15 t328.length co15), (.slice Ao18 t331.length co18), (.slice Ao19 t334.length co19)] 26 (0, 0))) ∧ Aside0 (wc.heap[gb349]? = some (.cells #[(.slice Ao23 t339.length co23), (.slice Ao27 t342.length co27), (.slice Ao28 t345.length co28)] 26 (0, 0))) ∧ Aside0 (Below w.heap.size w wc))
    case first =>
     have H := HC43.out
     clear HC43
     by_cases c44 : x10_5 = true
     ·subst c44
      have H1 : (laws_FnSigsSet.j1 kj5 t325 t326 true (!t337) t316 t319 t322 t328 t331 t334) = some r := by rw [if_pos rfl] at H; exact H
      clear H
      have H := H1
      clear H1
      have H' := Am H
      clear H
      go_wp2
      go_meet
      case rel => exact ⟨_, (!t337), (by first | rfl | (simp; done) | (simp [*]; done)), H', ⟨by have := HJ5.out; first | omega | exact Nat.le_refl _⟩, ⟨by (with_reducible repeat (first | apply Kd.Q_alloc | apply Kd.Q_drewN | apply Kd.Q_drew)); exact HO_328000.out⟩, ⟨by (with_reducible repeat (first | apply rA | apply rN | apply rD)); exact HO_328001.out⟩, ⟨by (with_reducible repeat (first | apply rA | apply rN | apply rD)); exact HO_328002.out⟩, ⟨by (with_reducible repeat (first | apply Kd.Q_alloc | apply Kd.Q_drewN | apply Kd.Q_drew)); exact HO_339000.out⟩, ⟨by (with_reducible repeat (first | apply rA | apply rN | apply rD)); exact HO_339001.out⟩, ⟨by (with_reducible repeat (first | apply rA | apply rN | apply rD)); exact HO_339002.out⟩, ⟨by (with_reducible repeat (first | apply Kd.Q_alloc | apply Kd.Q_drewN | apply Kd.Q_drew)); exact HO_350000.out⟩, ⟨by (with_reducible repeat (first | apply rA | apply rN | apply rD)); exact HO_350001.out⟩, ⟨by (with_reducible repeat (first | apply rA | apply rN | apply rD)); exact HO_350002.out⟩, ⟨by (with_reducible repeat (first | refine bN ?_ _ | refine bD ?_ | refine bA ?_ _)); exact BK327.out⟩, ⟨by (with_reducible repeat (first | refine bN ?_ _ | refine bD ?_ | refine bA ?_ _)); exact BK338.out⟩, ⟨by (with_reducible repeat (first | refine bN ?_ _ | refine bD ?_ | refine bA ?_ _)); exact BK349.out⟩, ⟨by repeat (first | (with_reducible first | exact HB.out | apply oA | apply pN | apply o1 | refine bS ?_ GE327.out | refine bS ?_ GE338.out | refine bS ?_ GE349.out) | exact HB.out)⟩⟩
     ·replace c44 := Bool.eq_false_iff.mpr c44
      subst c44
      have H1 : (laws_FnSigsSet.j1 kj5 t325 t326 false true t316 t319 t322 t328 t331 t334) = some r := by rw [if_neg (show ¬ (false = true) by decide)] at H; exact H
      clear H
      have H := H1
      clear H1
      have H' := Am H
      clear H
      go_wp2
      go_meet
      case rel => exact ⟨_, (true), (by first | rfl | (simp; done) | (simp [*]; done)), H', ⟨by have := HJ5.out; first | omega | exact Nat.le_refl _⟩, ⟨by (with_reducible repeat (first | apply Kd.Q_alloc | apply Kd.Q_drewN | apply Kd.Q_drew)); exact HO_328000.out⟩, ⟨by (with_reducible repeat (first | apply rA | apply rN | apply rD)); exact HO_328001.out⟩, ⟨by (with_reducible repeat (first | apply rA | apply rN | apply rD)); exact HO_328002.out⟩, ⟨by (with_reducible repeat (first | apply Kd.Q_alloc | apply Kd.Q_drewN | apply Kd.Q_drew)); exact HO_339000.out⟩, ⟨by (with_reducible repeat (first | apply rA | apply rN | apply rD)); exact HO_339001.out⟩, ⟨by (with_reducible repeat (first | apply rA | apply rN | apply rD)); exact HO_339002.out⟩, ⟨by (with_reducible repeat (first | apply Kd.Q_alloc | apply Kd.Q_drewN | apply Kd.Q_drew)); exact HO_350000.out⟩, ⟨by (with_reducible repeat (first | apply rA | apply rN | apply rD)); exact HO_350001.out⟩, ⟨by (with_reducible repeat (first | apply rA | apply rN | apply rD)); exact HO_350002.out⟩, ⟨by (with_reducible repeat (first | refine bN ?_ _ | refine bD ?_ | refine bA ?_ _)); exact BK327.out⟩, ⟨by (with_reducible repeat (first | refine bN ?_ _ | refine bD ?_ | refine bA ?_ _)); exact BK338.out⟩, ⟨by (with_reducible repeat (first | refine bN ?_ _ | refine bD ?_ | refine bA ?_ _)); exact BK349.out⟩, ⟨by repeat (first | (with_reducible first | exact HB.out | apply oA | apply pN | apply o1 | refine bS ?_ GE327.out | refine bS ?_ GE338.out | refine bS ?_ GE349.out) | exact HB.out)⟩⟩
    case rest =>
     clear HC43
     try clear c1
     try clear c2
     try clear c2b0
     try clear c2b1
     try clear p2
     try clear c3
     try clear c4
     try clear c6
     try clear c14
     try clear c16
     try clear c24
     try clear c25
     try clear c26
     try clear c30
     try clear c31
     try clear c32
     try clear c34
     try clear c37
     try clear c38
     try clear c40
     try clear c44
     try clear hcz10_0
     try clear hcz10_1
     try clear hcz10_2
     try clear hcz17_0
     try clear hcz17_1
     try clear hcz17_2
     try clear hcz20_0
     try clear hcz20_1
     try clear hcz20_2
     try clear hcz26_0
     try clear hcz26_1
     try clear hcz26_2
     try clear hcz33_0
     try clear hcz33_1
     try clear hcz33_2
     try clear hcz35_0
     try clear hcz35_1
     try clear hcz35_2
     try clear hcz39_0
     try clear hcz39_1
     try clear hcz39_2
     try clear hcz41_0
     try clear hcz41_1
     try clear hcz41_2
     try clear hfz10_0
     try clear hfz10_1
     try clear hfz10_2
     try clear hfz17_0
     try clear hfz17_1
     try clear hfz17_2
     try clear hfz20_0
     try clear hfz20_1
     try clear hfz20_2
     try clear hfz26_0
     try clear hfz26_1
     try clear hfz26_2
     try clear hfz33_0
     try clear hfz33_1
     try clear hfz33_2
     try clear hfz35_0
     try clear hfz35_1
     try clear hfz35_2
     try clear hfz39_0
     try clear hfz39_1
     try clear hfz39_2
     try clear hfz41_0
     try clear hfz41_1
     try clear hfz41_2
     try clear p2
     obtain ⟨kq, x49_42, rfl, HA, HJ42, HO_328000, HO_328001, HO_328002, HO_339000, HO_339001, HO_339002, HO_350000, HO_350001, HO_350002, BK327, BK338, BK349, HB⟩ := hcut
     cases kq with
     | zero => exact absurd HA.out (by simp [laws_FnSigsSet.j1])
     | succ kj42 =>
      have H := HA.out
      clear HA
      simp only [laws_FnSigsSet.j1] at H
      by_cases c45 : x49_42 = true
      ·subst c45
       have H1 : (some x10_5) = some r := by rw [if_pos rfl] at H; exact H
       clear H
       have H := H1
       clear H1
       obtain rfl := Option.some.inj H
       go_wp2
       go_ret
       exact ⟨by first | rfl | (simp [errW_none, errW_some] <;> rfl) | (simp [*, errW_none, errW_some] <;> rfl), by repeat (first | (with_reducible first | exact HB.out | apply oA | apply pN | apply o1 | refine bS ?_ GE327.out | refine bS ?_ GE338.out | refine bS ?_ GE349.out) | exact HB.out)⟩
      ·replace c45 := Bool.eq_false_iff.mpr c45
       subst c45
       have H1 : (if 0 ≤ (wrap64 (t325 - 1)) then (if (wrap64 (t325 - 1)) < (t322.length : Int) then ((impl_SigsSet.f kj42 t328 t331 t334 t325 (rd t322 (wrap64 (t325 - 1)))).bind fun bt352 => ((impl_SigsOk.f kj42 t328 t331 t334).bind fun t363 => (if t363 = true then (if (wrap64 (t325 - 1)) < (t334.length : Int) then (if (rd t334 (wrap64 (t325 - 1))) = t326 then (if bt352.2.2.2 = true then ((laws_qdSigs.f kj42 bt352.1 bt352.2.1 bt352.2.2.1 t316 t319 t322).bind fun t365 => (some t365)) else (some false)) else (some false)) else (none)) else (some false)))) else (none)) else (none)) = some r := by rw [if_neg (show ¬ (false = true) by decide)] at H; exact H
       clear H
       have H := H1
       clear H1
       obtain ⟨ji46, hji46⟩ : ∃ j_ : Int, (wrap64 (t325 - 1)) = j_ := ⟨_, rfl⟩
       replace H : (if 0 ≤ (ji46) then (if (ji46) < (t322.length : Int) then ((impl_SigsSet.f kj42 t328 t331 t334 t325 (rd t322 (ji46))).bind fun bt352 => ((impl_SigsOk.f kj42 t328 t331 t334).bind fun t363 => (if t363 = true then (if (ji46) < (t334.length : Int) then (if (rd t334 (ji46)) = t326 then (if bt352.2.2.2 = true then ((laws_qdSigs.f kj42 bt352.1 bt352.2.1 bt352.2.2.1 t316 t319 t322).bind fun t365 => (some t365)) else (some false)) else (some false)) else (none)) else (some false)))) else (none)) else (none)) = some r := by first | (rw [hji46] at H; exact H) | (simp only [hji46] at H ⊢; exact H)
       have hji46w : (IntKind.i64.wrap (t325 - 1)) = ji46 := (i64_w _).trans hji46
       by_cases c47 : 0 ≤ (ji46)
       ·rw [if_pos c47] at H
        have c47b0 : decide (0 ≤ (ji46)) = true := decide_eq_true c47
        clear c47
        by_cases c48 : (ji46) < (t322.length : Int)
        ·rw [if_pos c48] at H
         have c48b0 : decide ((ji46) < (t322.length : Int)) = true := decide_eq_true c48
         clear c48
         replace H := Option.bind_eq_some_iff.mp H
         obtain ⟨⟨t352, t355, t358, t361⟩, A490, H⟩ := H
         replace H : ((impl_SigsOk.f kj42 t328 t331 t334).bind fun t363 => (if t363 = true then (if (ji46) < (t334.length : Int) then (if (rd t334 (ji46)) = t326 then (if t361 = true then ((laws_qdSigs.f kj42 t352 t355 t358 t316 t319 t322).bind fun t365 => (some t365)) else (some false)) else (some false)) else (none)) else (some false))) = some r := H
         have A49 := Am A490
         clear A490
         replace H := Option.bind_eq_some_iff.mp H
         obtain ⟨t363, A500, H⟩ := H
         replace H : (if t363 = true then (if (ji46) < (t334.length : Int) then (if (rd t334 (ji46)) = t326 then (if t361 = true then ((laws_qdSigs.f kj42 t352 t355 t358 t316 t319 t322).bind fun t365 => (some t365)) else (some false)) else (some false)) else (none)) else (some false)) = some r := H
         have A50 := Am A500
         clear A500
         by_cases c51 : t363 = true
         ·subst c51
          have H1 : (if (ji46) < (t334.length : Int) then (if (rd t334 (ji46)) = t326 then (if t361 = true then ((laws_qdSigs.f kj42 t352 t355 t358 t316 t319 t322).bind fun t365 => (some t365)) else (some false)) else (some false)) else (none)) = some r := by rw [if_pos rfl] at H; exact H
          clear H
          have H := H1
          clear H1
          by_cases c52 : (ji46) < (t334.length : Int)
          ·rw [if_pos c52] at H
           have c52b0 : decide ((ji46) < (t334.length : Int)) = true := decide_eq_true c52
           clear c52
           by_cases c53 : (rd t334 (ji46)) = t326
           ·rw [if_pos c53] at H
            have c53b0 : ((rd t334 (ji46)) == t326) = true := beq_iff_eq.mpr c53
            have c53b1 : ((rd t334 (ji46)) != t326) = false := bne_eq_false_iff_eq.mpr c53
            clear c53
            by_cases c54 : t361 = true
            ·subst c54
             have H1 : ((laws_qdSigs.f kj42 t352 t355 t358 t316 t319 t322).bind fun t365 => (some t365)) = some r := by rw [if_pos rfl] at H; exact H
             clear H
             have H := H1
             clear H1
             replace H := Option.bind_eq_some_iff.mp H
             obtain ⟨t365, A550, H⟩ := H
             replace H : (some t365) = some r := H
             have A55 := Am A550
             clear A550
             obtain rfl := Option.some.inj H
             try go_wp2
             have n0_ := Am (Kd.Q_drew HO_328000.out)
             have n1_ := Am (rD HO_328001.out)
             have n2_ := Am (rD HO_328002.out)
             have n3_ := Am (Kd.Q_drew HO_339000.out)
             have n4_ := Am (rD HO_339001.out)
             have n5_ := Am (rD HO_339002.out)
             have n6_ := Am (Kd.Q_drew HO_350000.out)
             have n7_ := Am (rD HO_350001.out)
             have n8_ := Am (rD HO_350002.out)
             have n9_ := Am (bD BK327.out)
             have n10_ := Am (bD BK338.out)
             have n11_ := Am (bD BK349.out)
             have n12_ := Am (o1 HB.out)
             clear HO_328000
             clear HO_328001
             clear HO_328002
             clear HO_339000
             clear HO_339001
             clear HO_339002
             clear HO_350000
             clear HO_350001
             clear HO_350002
             clear BK327
             clear BK338
             clear BK349
             clear HB
             have HO_328000 := n0_
             have HO_328001 := n1_
             have HO_328002 := n2_
             have HO_339000 := n3_
             have HO_339001 := n4_
             have HO_339002 := n5_
             have HO_350000 := n6_
             have HO_350001 := n7_
             have HO_350002 := n8_
             have BK327 := n9_
             have BK338 := n10_
             have BK349 := n11_
             have HB := n12_
             clear n0_ n1_ n2_ n3_ n4_ n5_ n6_ n7_ n8_ n9_ n10_ n11_ n12_
             have p351 : 0 ≤ ((ji46) : Int) := of_decide_eq_true (by first | (with_reducible assumption) | assumption)
             have q351 : (ji46) < (t322.length : Int) := of_decide_eq_true (by first | (with_reducible assumption) | assumption)
             obtain ⟨ad351, e351, hx351_0⟩ := Kd.at_int (Kd.R_reads' HO_328002.out).2.2 (ji46) p351 q351
             cases e351
             replace p351 := eq_true p351
             replace q351 := eq_true q351
             refine start_ (n := 15) (S := fun w' => w'.cell? ⟨gb338, 0, none⟩ = some (.slice Ao15 t328.length co15) ∧ w'.cell? ⟨gb338, 1, none⟩ = some (.slice Ao18 t331.length co18) ∧ w'.cell? ⟨gb338, 2, none⟩ = some (.slice Ao19 t334.length co19) ∧ w'.cell? ⟨gb327, 0, none⟩ = some (.slice Ao9 t316.length co9) ∧ w'.cell? ⟨gb327, 1, none⟩ = some (.slice Ao11 t319.length co11) ∧ w'.cell? ⟨gb327, 2, none⟩ = some (.slice (some ad351) t322.length co12) ∧ w'.cell? (ad351.add ((ji46)).toNat) = some (.int .i64 (rd t322 (ji46)))) (ds := []) laws_FnSigsSet.q0 (by kernel_rfl) rfl rfl ⟨(bC BK338.out 0).trans rfl, (bC BK338.out 1).trans rfl, (bC BK338.out 2).trans rfl, (bC BK327.out 0).trans rfl, (bC BK327.out 1).trans rfl, (bC BK327.out 2).trans rfl, hx351_0⟩ (fun hHeld => ?_); refine with_tabW laws_FnSigsSet.tab9 laws_FnSigsSet.bits9 (fun HT_ HW_ => ?_)
             generalize wc.drew = w56 at HO_328000 HO_328001 HO_328002 HO_339000 HO_339001 HO_339002 HO_350000 HO_350001 HO_350002 BK327 BK338 BK349 HB hx351_0 hHeld ⊢
             refine pure_ (i := 1) (N := some 53) (v := ?_) (a' := ?_) laws_FnSigsSet.q1 rfl rfl (any_of HT_.out (by kernel_rfl)) (fun _ _ _ h => h) (Or.inl ⟨by rfl, ?_⟩) ?_ ?_
             rotate_left
             ·intro w'
              go_simp
              with_reducible rfl
             rotate_left
             ·simp only [Act.put, lA, lZ, lS, i64_w, i32_w]
              rfl
             refine pure_ (i := 2) (N := some 54) (v := ?_) (a' := ?_) laws_FnSigsSet.q2 rfl rfl (any_of HT_.out (by kernel_rfl)) (fun _ _ _ h => h) (Or.inl ⟨by rfl, ?_⟩) ?_ ?_
             rotate_left
             ·intro w'
              go_simp
              with_reducible rfl
             rotate_left
             ·simp only [Act.put, lA, lZ, lS, i64_w, i32_w]
              rfl
             refine pure_ (i := 4) (N := some 56) (v := ?_) (a' := ?_) laws_FnSigsSet.q3 rfl rfl (any_of HT_.out (by kernel_rfl)) (fun _ _ _ h => h) (Or.inl ⟨by rfl, ?_⟩) ?_ ?_
             rotate_left
             ·intro w'
              go_simp
              with_reducible rfl
             rotate_left
             ·simp only [Act.put, lA, lZ, lS, i64_w, i32_w]
              rfl
             refine pure_ (i := 5) (N := some 57) (v := ?_) (a' := ?_) laws_FnSigsSet.q4 rfl rfl (any_of HT_.out (by kernel_rfl)) (fun _ _ _ h => h) (Or.inl ⟨by rfl, ?_⟩) ?_ ?_
             rotate_left
             ·intro w'
              go_simp
              with_reducible rfl
             rotate_left
             ·simp only [Act.put, lA, lZ, lS, i64_w, i32_w]
              rfl
             refine take_ (i := 0) (N := some 52) (v := ?_) (a' := ?_) laws_FnSigsSet.q5 rfl rfl (take_ofW HT_.out HW_.out (by kernel_rfl)) (fun _ _ _ h => h) (Or.inl ⟨by rfl, ?_⟩) hHeld ?_ ?_
             rotate_left
             ·rintro w' ⟨s0, s1, s2, s3, s4, s5, s6⟩
              go_simp
              with_reducible rfl
             rotate_left
             ·simp only [Act.put, lA, lZ, lS, i64_w, i32_w]
              rfl
             refine take_ (i := 3) (N := some 55) (v := ?_) (a' := ?_) laws_FnSigsSet.q6 rfl rfl (take_ofW HT_.out HW_.out (by kernel_rfl)) (fun _ _ _ h => h) (Or.inl ⟨by rfl, ?_⟩) hHeld ?_ ?_
             rotate_left
             ·rintro w' ⟨s0, s1, s2, s3, s4, s5, s6⟩
              go_simp
              with_reducible rfl
             rotate_left
             ·simp only [Act.put, lA, lZ, lS, i64_w, i32_w]
              rfl
             refine pure_ (i := 6) (N := some 58) (v := ?_) (a' := ?_) laws_FnSigsSet.q7 rfl rfl (any_of HT_.out (by kernel_rfl)) (fun _ _ _ h => h) (Or.inl ⟨by rfl, ?_⟩) ?_ ?_
             rotate_left
             ·intro w'
              go_simp
              with_reducible rfl
             rotate_left
             ·simp only [Act.put, lA, lZ, lS, i64_w, i32_w]
              rfl
             refine take_ (i := 7) (N := some 59) (v := ?_) (a' := ?_) laws_FnSigsSet.q8 rfl rfl (take_ofW HT_.out HW_.out (by kernel_rfl)) (fun _ _ _ h => h) (Or.inl ⟨by rfl, ?_⟩) hHeld ?_ ?_
             rotate_left
             ·rintro w' ⟨s0, s1, s2, s3, s4, s5, s6⟩
              go_simp
              with_reducible rfl
             rotate_left
             ·simp only [Act.put, lA, lZ, lS, i64_w, i32_w]
              rfl
             refine join_ (σ := Value × Value × Value × Nat) 2 laws_FnSigsSet.q9 (fun s_ => [(60, .tuple #[.agg #[s_.1, s_.2.1, s_.2.2.1], .bool true]), (11, .pointer (some ⟨s_.2.2.2, 0, none⟩)), (51, .tuple #[.agg #[s_.1, s_.2.1, s_.2.2.1], .bool true]), (61, .agg #[s_.1, s_.2.1, s_.2.2.1]), (62, .bool true)]) (fun s_ w' => (w'.cell? ⟨gb338, 0, none⟩ = some (.slice Ao15 t328.length co15) ∧ w'.cell? ⟨gb338, 1, none⟩ = some (.slice Ao18 t331.length co18) ∧ w'.cell? ⟨gb338, 2, none⟩ = some (.slice Ao19 t334.length co19) ∧ w'.cell? ⟨gb327, 0, none⟩ = some (.slice Ao9 t316.length co9) ∧ w'.cell? ⟨gb327, 1, none⟩ = some (.slice Ao11 t319.length co11) ∧ w'.cell? ⟨gb327, 2, none⟩ = some (.slice (some ad351) t322.length co12) ∧ w'.cell? (ad351.add ((ji46)).toNat) = some (.int .i64 (rd t322 (ji46)))) ∧ (Kd.R Kd.bool 4 w' w.heap.size (fun k_ => some k_ ≠ (s_.2.1 : Value).ownBlock ∧ some k_ ≠ (.slice Ao9 t316.length co9 : Value).ownBlock ∧ some k_ ≠ (.slice Ao11 t319.length co11 : Value).ownBlock ∧ some k_ ≠ (.slice Ao15 t328.length co15 : Value).ownBlock ∧ some k_ ≠ (.slice Ao18 t331.length co18 : Value).ownBlock ∧ some k_ ≠ (.slice Ao23 t339.length co23 : Value).ownBlock ∧ some k_ ≠ (.slice Ao27 t342.length co27 : Value).ownBlock) s_.1 t352) ∧ (Kd.R Kd.bool 4 w' w.heap.size (fun k_ => some k_ ≠ (s_.1 : Value).ownBlock ∧ some k_ ≠ (.slice Ao9 t316.length co9 : Value).ownBlock ∧ some k_ ≠ (.slice Ao11 t319.length co11 : Value).ownBlock ∧ some k_ ≠ (.slice Ao15 t328.length co15 : Value).ownBlock ∧ some k_ ≠ (.slice Ao18 t331.length co18 : Value).ownBlock ∧ some k_ ≠ (.slice Ao23 t339.length co23 : Value).ownBlock ∧ some k_ ≠ (.slice Ao27 t342.length co27 : Value).ownBlock) s_.2.1 t355) ∧ (Kd.R (Kd.int .i64) 3 w' w.heap.size (fun k_ => some k_ ≠ (.slice (some ad351) t322.length co12 : Value).ownBlock ∧ some k_ ≠ (.slice Ao19 t334.length co19 : Value).ownBlock ∧ some k_ ≠ (.slice Ao28 t345.length co28 : Value).ownBlock) s_.2.2.1 t358) ∧ (Kd.Q Kd.bool 4 w' w.heap.size (fun k_ => some k_ ≠ (s_.1 : Value).ownBlock ∧ some k_ ≠ (s_.2.1 : Value).ownBlock ∧ some k_ ≠ (.slice Ao11 t319.length co11 : Value).ownBlock ∧ some k_ ≠ (.slice Ao15 t328.length co15 : Value).ownBlock ∧ some k_ ≠ (.slice Ao18 t331.length co18 : Value).ownBlock ∧ some k_ ≠ (.slice Ao23 t339.length co23 : Value).ownBlock ∧ some k_ ≠ (.slice Ao27 t342.length co27 : Value).ownBlock) (.slice Ao9 t316.length co9) t316) ∧ (Kd.R Kd.bool 4 w' w.heap.size (fun k_ => some k_ ≠ (s_.1 : Value).ownBlock ∧ some k_ ≠ (s_.2.1 : Value).ownBlock ∧ some k_ ≠ (.slice Ao9 t316.length co9 : Value).ownBlock ∧ some k_ ≠ (.slice Ao15 t328.length co15 : Value).ownBlock ∧ some k_ ≠ (.slice Ao18 t331.length co18 : Value).ownBlock ∧ some k_ ≠ (.slice Ao23 t339.length co23 : Value).ownBlock ∧ some k_ ≠ (.slice Ao27 t342.length co27 : Value).ownBlock) (.slice Ao11 t319.length co11) t319) ∧ (Kd.R (Kd.int .i64) 3 w' w.heap.size (fun k_ => some k_ ≠ (s_.2.2.1 : Value).ownBlock ∧ some k_ ≠ (.slice Ao19 t334.length co19 : Value).ownBlock ∧ some k_ ≠ (.slice Ao28 t345.length co28 : Value).ownBlock) (.slice (some ad351) t322.length co12) t322) ∧ (Kd.Q Kd.bool 4 w' w.heap.size (fun k_ => some k_ ≠ (s_.1 : Value).ownBlock ∧ some k_ ≠ (s_.2.1 : Value).ownBlock ∧ some k_ ≠ (.slice Ao9 t316.length co9 : Value).ownBlock ∧ some k_ ≠ (.slice Ao11 t319.length co11 : Value).ownBlock ∧ some k_ ≠ (.slice Ao18 t331.length co18 : Value).ownBlock ∧ some k_ ≠ (.slice Ao23 t339.length co23 : Value).ownBlock ∧ some k_ ≠ (.slice Ao27 t342.length co27 : Value).ownBlock) (.slice Ao15 t328.length co15) t328) ∧ (Kd.R Kd.bool 4 w' w.heap.size (fun k_ => some k_ ≠ (s_.1 : Value).ownBlock ∧ some k_ ≠ (s_.2.1 : Value).ownBlock ∧ some k_ ≠ (.slice Ao9 t316.length co9 : Value).ownBlock ∧ some k_ ≠ (.slice Ao11 t319.length co11 : Value).ownBlock ∧ some k_ ≠ (.slice Ao15 t328.length co15 : Value).ownBlock ∧ some k_ ≠ (.slice Ao23 t339.length co23 : Value).ownBlock ∧ some k_ ≠ (.slice Ao27 t342.length co27 : Value).ownBlock) (.slice Ao18 t331.length co18) t331) ∧ (Kd.R (Kd.int .i64) 3 w' w.heap.size (fun k_ => some k_ ≠ (s_.2.2.1 : Value).ownBlock ∧ some k_ ≠ (.slice (some ad351) t322.length co12 : Value).ownBlock ∧ some k_ ≠ (.slice Ao28 t345.length co28 : Value).ownBlock) (.slice Ao19 t334.length co19) t334) ∧ (Kd.Q Kd.bool 4 w' w.heap.size (fun k_ => some k_ ≠ (s_.1 : Value).ownBlock ∧ some k_ ≠ (s_.2.1 : Value).ownBlock ∧ some k_ ≠ (.slice Ao9 t316.length co9 : Value).ownBlock ∧ some k_ ≠ (.slice Ao11 t319.length co11 : Value).ownBlock ∧ some k_ ≠ (.slice Ao15 t328.length co15 : Value).ownBlock ∧ some k_ ≠ (.slice Ao18 t331.length co18 : Value).ownBlock ∧ some k_ ≠ (.slice Ao27 t342.length co27 : Value).ownBlock) (.slice Ao23 t339.length co23) t339) ∧ (Kd.R Kd.bool 4 w' w.heap.size (fun k_ => some k_ ≠ (s_.1 : Value).ownBlock ∧ some k_ ≠ (s_.2.1 : Value).ownBlock ∧ some k_ ≠ (.slice Ao9 t316.length co9 : Value).ownBlock ∧ some k_ ≠ (.slice Ao11 t319.length co11 : Value).ownBlock ∧ some k_ ≠ (.slice Ao15 t328.length co15 : Value).ownBlock ∧ some k_ ≠ (.slice Ao18 t331.length co18 : Value).ownBlock ∧ some k_ ≠ (.slice Ao23 t339.length co23 : Value).ownBlock) (.slice Ao27 t342.length co27) t342) ∧ (Kd.R (Kd.int .i64) 3 w' w.heap.size (fun k_ => some k_ ≠ (s_.2.2.1 : Value).ownBlock ∧ some k_ ≠ (.slice (some ad351) t322.length co12 : Value).ownBlock ∧ some k_ ≠ (.slice Ao19 t334.length co19 : Value).ownBlock) (.slice Ao28 t345.length co28) t345) ∧ (w'.heap[gb327]? = some (.cells #[.slice Ao9 t316.length co9, .slice Ao11 t319.length co11, .slice (some ad351) t322.length co12] 26 (0, 0))) ∧ (w'.heap[gb338]? = some (.cells #[.slice Ao15 t328.length co15, .slice Ao18 t331.length co18, .slice Ao19 t334.length co19] 26 (0, 0))) ∧ (w'.heap[gb349]? = some (.cells #[.slice Ao23 t339.length co23, .slice Ao27 t342.length co27, .slice Ao28 t345.length co28] 26 (0, 0))) ∧ (w'.heap[s_.2.2.2]? = some (.cells #[.slice none 0 0, .slice none 0 0, .slice none 0 0] 26 (0, 0))) ∧ (w.heap.size ≤ s_.2.2.2) ∧ (w.heap.size ≤ s_.2.2.2) ∧ (gb327 ≠ s_.2.2.2) ∧ (s_.2.2.2 ≠ gb327) ∧ (gb338 ≠ s_.2.2.2) ∧ (s_.2.2.2 ≠ gb338) ∧ (gb349 ≠ s_.2.2.2) ∧ (s_.2.2.2 ≠ gb349) ∧ (Below w.heap.size w w')) ?_ ?_
             rotate_left
             ·intro hCont
              refine two_ (i := 8) (j := 12) (Ni := some 60) (Nj := some 11) laws_FnSigsSet.q10 laws_FnSigsSet.q11 rfl rfl rfl rfl (two_of HT_.out (by kernel_rfl)) (by decide) (by decide) (fun K hK => ?_) (fun K hK => ?_)
              ·skip
               refine goes_ Try.func25 (by kernel_rfl) rfl #[.agg #[.slice Ao15 t328.length co15, .slice Ao18 t331.length co18, .slice Ao19 t334.length co19], .int .i64 t325, .int .i64 (rd t322 (ji46))] (by rfl) rfl rfl (by (try simp only [lM, lC, lN]); first | done | (simp only [hji46]; rfl) | rfl | (simp only [lD, lT]; rfl)) ?_
               with_reducible refine (impl_SigsSet.calls kj42 _ _ t328 _ _ t331 _ _ t334 t325 (rd t322 (ji46)) t352 t355 t358 true _ ?side1 ?side2 ?side3 ?side4 ?side5 ?side6 A49.out).mono ?_
               (case side1 => repeat (first | exact (Kd.Q_reads' HO_339000.out).2.2 | (with_reducible refine cA ?_ _) | (with_reducible refine cN ?_ _) | (with_reducible refine cD ?_)))
               (case side2 => exact (Kd.Q_reads' HO_339000.out).2.1)
               (case side3 => repeat (first | exact (Kd.R_reads' HO_339001.out).2.2 | (with_reducible refine cA ?_ _) | (with_reducible refine cN ?_ _) | (with_reducible refine cD ?_)))
               (case side4 => exact (Kd.R_reads' HO_339001.out).2.1)
               (case side5 => repeat (first | exact (Kd.R_reads' HO_339002.out).2.2 | (with_reducible refine cA ?_ _) | (with_reducible refine cN ?_ _) | (with_reducible refine cD ?_)))
               (case side6 => exact (Kd.R_reads' HO_339002.out).2.1)
               rintro e w57 ⟨v353, v356, v359, rfl, ho0, ho1, ho2, hb⟩
               have HS6_ := (hb.cell (World.block_lt_of_cell? _ _ (hHeld.2.2.2.2.2.2))).trans (hHeld.2.2.2.2.2.2)
               refine ⟨_, rfl, ?_⟩
               have n0_ := Am (Kd.Q_mono (Kd.Q_told (Kd.Q_told (Kd.Q_old (by (with_reducible repeat (first | apply Kd.Q_alloc | apply Kd.Q_drewN | apply Kd.Q_drew)); exact HO_328000.out) hb) (Kd.R_base ho0)) (Kd.R_base ho1)) (fun _ h_ => h_.1))
               have n1_ := Am (rM (Kd.R_told (Kd.R_told (Kd.R_old (by (with_reducible repeat (first | apply rA | apply rN | apply rD)); exact HO_328001.out) hb) (Kd.R_base ho0)) (Kd.R_base ho1)) (fun _ h_ => h_.1))
               have n2_ := Am (Kd.R_elder' (by (with_reducible repeat (first | apply rA | apply rN | apply rD)); exact HO_328002.out) (Kd.R_base ho2) hb)
               have n3_ := Am (Kd.Q_mono (Kd.Q_told (Kd.Q_told (Kd.Q_old (by (with_reducible repeat (first | apply Kd.Q_alloc | apply Kd.Q_drewN | apply Kd.Q_drew)); exact HO_339000.out) hb) (Kd.R_base ho0)) (Kd.R_base ho1)) (fun _ h_ => h_.1))
               have n4_ := Am (rM (Kd.R_told (Kd.R_told (Kd.R_old (by (with_reducible repeat (first | apply rA | apply rN | apply rD)); exact HO_339001.out) hb) (Kd.R_base ho0)) (Kd.R_base ho1)) (fun _ h_ => h_.1))
               have n5_ := Am (Kd.R_elder' (by (with_reducible repeat (first | apply rA | apply rN | apply rD)); exact HO_339002.out) (Kd.R_base ho2) hb)
               have n6_ := Am (Kd.Q_mono (Kd.Q_told (Kd.Q_told (Kd.Q_old (by (with_reducible repeat (first | apply Kd.Q_alloc | apply Kd.Q_drewN | apply Kd.Q_drew)); exact HO_350000.out) hb) (Kd.R_base ho0)) (Kd.R_base ho1)) (fun _ h_ => h_.1))
               have n7_ := Am (rM (Kd.R_told (Kd.R_told (Kd.R_old (by (with_reducible repeat (first | apply rA | apply rN | apply rD)); exact HO_350001.out) hb) (Kd.R_base ho0)) (Kd.R_base ho1)) (fun _ h_ => h_.1))
               have n8_ := Am (Kd.R_elder' (by (with_reducible repeat (first | apply rA | apply rN | apply rD)); exact HO_350002.out) (Kd.R_base ho2) hb)
               have n9_ := Am (Kd.R_lower (Kd.R_new' (Kd.R_new' (Kd.R_new' (Kd.R_new' (Kd.R_new' (Kd.R_new' ho0 (Kd.Q_lt (by (with_reducible repeat (first | apply Kd.Q_alloc | apply Kd.Q_drewN | apply Kd.Q_drew)); exact HO_328000.out))) (Kd.R_lt (by (with_reducible repeat (first | apply rA | apply rN | apply rD)); exact HO_328001.out))) (Kd.Q_lt (by (with_reducible repeat (first | apply Kd.Q_alloc | apply Kd.Q_drewN | apply Kd.Q_drew)); exact HO_339000.out))) (Kd.R_lt (by (with_reducible repeat (first | apply rA | apply rN | apply rD)); exact HO_339001.out))) (Kd.Q_lt (by (with_reducible repeat (first | apply Kd.Q_alloc | apply Kd.Q_drewN | apply Kd.Q_drew)); exact HO_350000.out))) (Kd.R_lt (by (with_reducible repeat (first | apply rA | apply rN | apply rD)); exact HO_350001.out))) (bZ (by repeat (first | (with_reducible first | exact HB.out | apply oA | apply pN | apply o1 | refine bS ?_ GE327.out | refine bS ?_ GE338.out | refine bS ?_ GE349.out) | exact HB.out))))
               have n10_ := Am (Kd.R_lower (Kd.R_new' (Kd.R_new' (Kd.R_new' (Kd.R_new' (Kd.R_new' (Kd.R_new' ho1 (Kd.Q_lt (by (with_reducible repeat (first | apply Kd.Q_alloc | apply Kd.Q_drewN | apply Kd.Q_drew)); exact HO_328000.out))) (Kd.R_lt (by (with_reducible repeat (first | apply rA | apply rN | apply rD)); exact HO_328001.out))) (Kd.Q_lt (by (with_reducible repeat (first | apply Kd.Q_alloc | apply Kd.Q_drewN | apply Kd.Q_drew)); exact HO_339000.out))) (Kd.R_lt (by (with_reducible repeat (first | apply rA | apply rN | apply rD)); exact HO_339001.out))) (Kd.Q_lt (by (with_reducible repeat (first | apply Kd.Q_alloc | apply Kd.Q_drewN | apply Kd.Q_drew)); exact HO_350000.out))) (Kd.R_lt (by (with_reducible repeat (first | apply rA | apply rN | apply rD)); exact HO_350001.out))) (bZ (by repeat (first | (with_reducible first | exact HB.out | apply oA | apply pN | apply o1 | refine bS ?_ GE327.out | refine bS ?_ GE338.out | refine bS ?_ GE349.out) | exact HB.out))))
               have n11_ := Am (Kd.R_lower (Kd.R_new' (Kd.R_new' (Kd.R_new' ho2 (Kd.R_lt (by (with_reducible repeat (first | apply rA | apply rN | apply rD)); exact HO_328002.out))) (Kd.R_lt (by (with_reducible repeat (first | apply rA | apply rN | apply rD)); exact HO_339002.out))) (Kd.R_lt (by (with_reducible repeat (first | apply rA | apply rN | apply rD)); exact HO_350002.out))) (bZ (by repeat (first | (with_reducible first | exact HB.out | apply oA | apply pN | apply o1 | refine bS ?_ GE327.out | refine bS ?_ GE338.out | refine bS ?_ GE349.out) | exact HB.out))))
               have n12_ := Am (bB (g := gb327) (o := .cells #[.slice Ao9 t316.length co9, .slice Ao11 t319.length co11, .slice (some ad351) t322.length co12] 26 (0, 0)) (by (with_reducible repeat (first | refine bN ?_ _ | refine bD ?_ | refine bA ?_ _)); exact BK327.out) hb)
               have n13_ := Am (bB (g := gb338) (o := .cells #[.slice Ao15 t328.length co15, .slice Ao18 t331.length co18, .slice Ao19 t334.length co19] 26 (0, 0)) (by (with_reducible repeat (first | refine bN ?_ _ | refine bD ?_ | refine bA ?_ _)); exact BK338.out) hb)
               have n14_ := Am (bB (g := gb349) (o := .cells #[.slice Ao23 t339.length co23, .slice Ao27 t342.length co27, .slice Ao28 t345.length co28] 26 (0, 0)) (by (with_reducible repeat (first | refine bN ?_ _ | refine bD ?_ | refine bA ?_ _)); exact BK349.out) hb)
               have n15_ := Am (bP (by repeat (first | (with_reducible first | exact HB.out | apply oA | apply pN | apply o1 | refine bS ?_ GE327.out | refine bS ?_ GE338.out | refine bS ?_ GE349.out) | exact HB.out)) hb)
               clear HO_328000
               clear HO_328001
               clear HO_328002
               clear HO_339000
               clear HO_339001
               clear HO_339002
               clear HO_350000
               clear HO_350001
               clear HO_350002
               clear BK327
               clear BK338
               clear BK349
               clear HB
               have HO_328000 := n0_
               have HO_328001 := n1_
               have HO_328002 := n2_
               have HO_339000 := n3_
               have HO_339001 := n4_
               have HO_339002 := n5_
               have HO_350000 := n6_
               have HO_350001 := n7_
               have HO_350002 := n8_
               have HO354 := n9_
               have HO357 := n10_
               have HO360 := n11_
               have BK327 := n12_
               have BK338 := n13_
               have BK349 := n14_
               have HB := n15_
               clear n0_ n1_ n2_ n3_ n4_ n5_ n6_ n7_ n8_ n9_ n10_ n11_ n12_ n13_ n14_ n15_
               (try clear hb)
               (try clear hb2)
               (try clear hk)
               (try clear hi)
               (try clear ho0)
               (try clear ho1)
               (try clear ho2)
               refine hK.out _ _ ⟨(bC BK338.out 0).trans rfl, (bC BK338.out 1).trans rfl, (bC BK338.out 2).trans rfl, (bC BK327.out 0).trans rfl, (bC BK327.out 1).trans rfl, (bC BK327.out 2).trans rfl, HS6_⟩ (fun hHeld => ?_)
               clear hK K
               refine norm_ (a' := ?_) ?_ ?_
               rotate_left
               ·show Act.put _ (some 60) _ = _
                simp only [Act.put, lA, lZ, lS, i64_w, i32_w]
                rfl
               refine pure_ (i := 9) (N := some 51) (v := ?_) (a' := ?_) laws_FnSigsSet.q12 rfl rfl (any_of HT_.out (by kernel_rfl)) (fun _ _ _ h => h) (Or.inl ⟨by rfl, ?_⟩) ?_ ?_
               rotate_left
               ·intro w'
                go_simp
                with_reducible rfl
               rotate_left
               ·simp only [Act.put, lA, lZ, lS, i64_w, i32_w]
                rfl
               refine pure_ (i := 10) (N := some 61) (v := ?_) (a' := ?_) laws_FnSigsSet.q13 rfl rfl (any_of HT_.out (by kernel_rfl)) (fun _ _ _ h => h) (Or.inl ⟨by rfl, ?_⟩) ?_ ?_
               rotate_left
               ·intro w'
                go_simp
                with_reducible rfl
               rotate_left
               ·simp only [Act.put, lA, lZ, lS, i64_w, i32_w]
                rfl
               refine pure_ (i := 11) (N := some 62) (v := ?_) (a' := ?_) laws_FnSigsSet.q14 rfl rfl (any_of HT_.out (by kernel_rfl)) (fun _ _ _ h => h) (Or.inl ⟨by rfl, ?_⟩) ?_ ?_
               rotate_left
               ·intro w'
                go_simp
                with_reducible rfl
               rotate_left
               ·simp only [Act.put, lA, lZ, lS, i64_w, i32_w]
                rfl
               refine one_ (i := 12) (N := some 11) laws_FnSigsSet.q9 rfl rfl (one_of HT_.out (by kernel_rfl)) (by decide) (fun K hK => ?_)
               refine box_step ?hg (N := 11) ?hd (cs := #[.slice none 0 0, .slice none 0 0, .slice none 0 0]) (t := 26) ?hr ?_; (case hd => rfl); (case hg => rfl); (case hr => first | (go_simp; done) | (go_simp; rfl))
               intro gb362 hg w58 hbox hb
               have HS6_ := (hb.cell (World.block_lt_of_cell? _ _ (hHeld.2.2.2.2.2.2))).trans (hHeld.2.2.2.2.2.2)
               have n0_ := Am (Kd.Q_below (by (with_reducible repeat (first | apply Kd.Q_alloc | apply Kd.Q_drewN | apply Kd.Q_drew)); exact HO_328000.out) hb)
               have n1_ := Am (rB (by (with_reducible repeat (first | apply rA | apply rN | apply rD)); exact HO_328001.out) hb)
               have n2_ := Am (rB (by (with_reducible repeat (first | apply rA | apply rN | apply rD)); exact HO_328002.out) hb)
               have n3_ := Am (Kd.Q_below (by (with_reducible repeat (first | apply Kd.Q_alloc | apply Kd.Q_drewN | apply Kd.Q_drew)); exact HO_339000.out) hb)
               have n4_ := Am (rB (by (with_reducible repeat (first | apply rA | apply rN | apply rD)); exact HO_339001.out) hb)
               have n5_ := Am (rB (by (with_reducible repeat (first | apply rA | apply rN | apply rD)); exact HO_339002.out) hb)
               have n6_ := Am (Kd.Q_below (by (with_reducible repeat (first | apply Kd.Q_alloc | apply Kd.Q_drewN | apply Kd.Q_drew)); exact HO_350000.out) hb)
               have n7_ := Am (rB (by (with_reducible repeat (first | apply rA | apply rN | apply rD)); exact HO_350001.out) hb)
               have n8_ := Am (rB (by (with_reducible repeat (first | apply rA | apply rN | apply rD)); exact HO_350002.out) hb)
               have n9_ := Am (rB (by (with_reducible repeat (first | apply rA | apply rN | apply rD)); exact HO354.out) hb)
               have n10_ := Am (rB (by (with_reducible repeat (first | apply rA | apply rN | apply rD)); exact HO357.out) hb)
               have n11_ := Am (rB (by (with_reducible repeat (first | apply rA | apply rN | apply rD)); exact HO360.out) hb)
               have n12_ := Am (bB (g := gb327) (o := .cells #[.slice Ao9 t316.length co9, .slice Ao11 t319.length co11, .slice (some ad351) t322.length co12] 26 (0, 0)) (by (with_reducible repeat (first | refine bN ?_ _ | refine bD ?_ | refine bA ?_ _)); exact BK327.out) hb)
               have n13_ := Am (bB (g := gb338) (o := .cells #[.slice Ao15 t328.length co15, .slice Ao18 t331.length co18, .slice Ao19 t334.length co19] 26 (0, 0)) (by (with_reducible repeat (first | refine bN ?_ _ | refine bD ?_ | refine bA ?_ _)); exact BK338.out) hb)
               have n14_ := Am (bB (g := gb349) (o := .cells #[.slice Ao23 t339.length co23, .slice Ao27 t342.length co27, .slice Ao28 t345.length co28] 26 (0, 0)) (by (with_reducible repeat (first | refine bN ?_ _ | refine bD ?_ | refine bA ?_ _)); exact BK349.out) hb)
               have n15_ := Am (bP (by repeat (first | (with_reducible first | exact HB.out | apply oA | apply pN | apply o1 | refine bS ?_ GE327.out | refine bS ?_ GE338.out | refine bS ?_ GE349.out) | exact HB.out)) hb)
               have n16_ := Am (hbox)
               have n17_ := Am ((by rw [hg]; exact (bZ (by repeat (first | (with_reducible first | exact HB.out | apply oA | apply pN | apply o1 | refine bS ?_ GE327.out | refine bS ?_ GE338.out | refine bS ?_ GE349.out) | exact HB.out))) : w.heap.size ≤ gb362))
               have n18_ := Am ((by rw [hg]; exact (bZ (by repeat (first | (with_reducible first | exact HB.out | apply oA | apply pN | apply o1 | refine bS ?_ GE327.out | refine bS ?_ GE338.out | refine bS ?_ GE349.out) | exact HB.out))) : w.heap.size ≤ gb362))
               have n19_ := Am ((by rw [hg]; exact Nat.ne_of_lt (blk_lt (g := gb327) (o := .cells #[.slice Ao9 t316.length co9, .slice Ao11 t319.length co11, .slice (some ad351) t322.length co12] 26 (0, 0)) (by (with_reducible repeat (first | refine bN ?_ _ | refine bD ?_ | refine bA ?_ _)); exact BK327.out)) : gb327 ≠ gb362))
               have n20_ := Am ((by rw [hg]; exact Nat.ne_of_gt (blk_lt (g := gb327) (o := .cells #[.slice Ao9 t316.length co9, .slice Ao11 t319.length co11, .slice (some ad351) t322.length co12] 26 (0, 0)) (by (with_reducible repeat (first | refine bN ?_ _ | refine bD ?_ | refine bA ?_ _)); exact BK327.out)) : gb362 ≠ gb327))
               have n21_ := Am ((by rw [hg]; exact Nat.ne_of_lt (blk_lt (g := gb338) (o := .cells #[.slice Ao15 t328.length co15, .slice Ao18 t331.length co18, .slice Ao19 t334.length co19] 26 (0, 0)) (by (with_reducible repeat (first | refine bN ?_ _ | refine bD ?_ | refine bA ?_ _)); exact BK338.out)) : gb338 ≠ gb362))
               have n22_ := Am ((by rw [hg]; exact Nat.ne_of_gt (blk_lt (g := gb338) (o := .cells #[.slice Ao15 t328.length co15, .slice Ao18 t331.length co18, .slice Ao19 t334.length co19] 26 (0, 0)) (by (with_reducible repeat (first | refine bN ?_ _ | refine bD ?_ | refine bA ?_ _)); exact BK338.out)) : gb362 ≠ gb338))
               have n23_ := Am ((by rw [hg]; exact Nat.ne_of_lt (blk_lt (g := gb349) (o := .cells #[.slice Ao23 t339.length co23, .slice Ao27 t342.length co27, .slice Ao28 t345.length co28] 26 (0, 0)) (by (with_reducible repeat (first | refine bN ?_ _ | refine bD ?_ | refine bA ?_ _)); exact BK349.out)) : gb349 ≠ gb362))
               have n24_ := Am ((by rw [hg]; exact Nat.ne_of_gt (blk_lt (g := gb349) (o := .cells #[.slice Ao23 t339.length co23, .slice Ao27 t342.length co27, .slice Ao28 t345.length co28] 26 (0, 0)) (by (with_reducible repeat (first | refine bN ?_ _ | refine bD ?_ | refine bA ?_ _)); exact BK349.out)) : gb362 ≠ gb349))
               clear HO_328000
               clear HO_328001
               clear HO_328002
               clear HO_339000
               clear HO_339001
               clear HO_339002
               clear HO_350000
               clear HO_350001
               clear HO_350002
               clear HO354
               clear HO357
               clear HO360
               clear BK327
               clear BK338
               clear BK349
               clear HB
               have HO_328000 := n0_
               have HO_328001 := n1_
               have HO_328002 := n2_
               have HO_339000 := n3_
               have HO_339001 := n4_
               have HO_339002 := n5_
               have HO_350000 := n6_
               have HO_350001 := n7_
               have HO_350002 := n8_
               have HO354 := n9_
               have HO357 := n10_
               have HO360 := n11_
               have BK327 := n12_
               have BK338 := n13_
               have BK349 := n14_
               have HB := n15_
               have BK362 := n16_
               have GW362 := n17_
               have GE362 := n18_
               have NB327_362 := n19_
               have NB362_327 := n20_
               have NB338_362 := n21_
               have NB362_338 := n22_
               have NB349_362 := n23_
               have NB362_349 := n24_
               clear n0_ n1_ n2_ n3_ n4_ n5_ n6_ n7_ n8_ n9_ n10_ n11_ n12_ n13_ n14_ n15_ n16_ n17_ n18_ n19_ n20_ n21_ n22_ n23_ n24_
               clear hb hbox hg
               refine hK.out _ _ ⟨(bC BK338.out 0).trans rfl, (bC BK338.out 1).trans rfl, (bC BK338.out 2).trans rfl, (bC BK327.out 0).trans rfl, (bC BK327.out 1).trans rfl, (bC BK327.out 2).trans rfl, HS6_⟩ (fun hHeld => ?_)
               clear hK K
               refine norm_ (a' := ?_) ?_ ?_
               rotate_left
               ·show Act.put _ (some 11) _ = _
                simp only [Act.put, lA, lZ, lS, i64_w, i32_w]
                rfl
               exact norm_ (by simp only [putAll, Act.put, lA, lZ, lS]) (hCont (v353, v356, v359, gb362) _ ⟨hHeld, (by (with_reducible repeat (first | apply rA | apply rN | apply rD)); exact rM HO354.out (fun _ hk => ⟨hk.1.1.1.1.1.1, ⟨hk.1.1.1.1.1.2, ⟨hk.1.1.1.1.2, ⟨hk.1.1.1.2, ⟨hk.1.1.2, ⟨hk.1.2, hk.2⟩⟩⟩⟩⟩⟩)), (by (with_reducible repeat (first | apply rA | apply rN | apply rD)); exact rM HO357.out (fun _ hk => ⟨hk.1.1.1.1.1.1, ⟨hk.1.1.1.1.1.2, ⟨hk.1.1.1.1.2, ⟨hk.1.1.1.2, ⟨hk.1.1.2, ⟨hk.1.2, hk.2⟩⟩⟩⟩⟩⟩)), (by (with_reducible repeat (first | apply rA | apply rN | apply rD)); exact rM HO360.out (fun _ hk => ⟨hk.1.1.2, ⟨hk.1.2, hk.2⟩⟩)), (by (with_reducible repeat (first | apply Kd.Q_alloc | apply Kd.Q_drewN | apply Kd.Q_drew)); exact Kd.Q_mono HO_328000.out (fun _ hk => ⟨hk.1.2, ⟨hk.2, ⟨hk.1.1.1, ⟨hk.1.1.2.1, ⟨hk.1.1.2.2.1, ⟨hk.1.1.2.2.2.1, hk.1.1.2.2.2.2⟩⟩⟩⟩⟩⟩)), (by (with_reducible repeat (first | apply rA | apply rN | apply rD)); exact rM HO_328001.out (fun _ hk => ⟨hk.1.2, ⟨hk.2, ⟨hk.1.1.1, ⟨hk.1.1.2.1, ⟨hk.1.1.2.2.1, ⟨hk.1.1.2.2.2.1, hk.1.1.2.2.2.2⟩⟩⟩⟩⟩⟩)), (by (with_reducible repeat (first | apply rA | apply rN | apply rD)); exact rM HO_328002.out (fun _ hk => ⟨hk.2, ⟨hk.1.1, hk.1.2⟩⟩)), (by (with_reducible repeat (first | apply Kd.Q_alloc | apply Kd.Q_drewN | apply Kd.Q_drew)); exact Kd.Q_mono HO_339000.out (fun _ hk => ⟨hk.1.2, ⟨hk.2, ⟨hk.1.1.1, ⟨hk.1.1.2.1, ⟨hk.1.1.2.2.1, ⟨hk.1.1.2.2.2.1, hk.1.1.2.2.2.2⟩⟩⟩⟩⟩⟩)), (by (with_reducible repeat (first | apply rA | apply rN | apply rD)); exact rM HO_339001.out (fun _ hk => ⟨hk.1.2, ⟨hk.2, ⟨hk.1.1.1, ⟨hk.1.1.2.1, ⟨hk.1.1.2.2.1, ⟨hk.1.1.2.2.2.1, hk.1.1.2.2.2.2⟩⟩⟩⟩⟩⟩)), (by (with_reducible repeat (first | apply rA | apply rN | apply rD)); exact rM HO_339002.out (fun _ hk => ⟨hk.2, ⟨hk.1.1, hk.1.2⟩⟩)), (by (with_reducible repeat (first | apply Kd.Q_alloc | apply Kd.Q_drewN | apply Kd.Q_drew)); exact Kd.Q_mono HO_350000.out (fun _ hk => ⟨hk.1.2, ⟨hk.2, ⟨hk.1.1.1, ⟨hk.1.1.2.1, ⟨hk.1.1.2.2.1, ⟨hk.1.1.2.2.2.1, hk.1.1.2.2.2.2⟩⟩⟩⟩⟩⟩)), (by (with_reducible repeat (first | apply rA | apply rN | apply rD)); exact rM HO_350001.out (fun _ hk => ⟨hk.1.2, ⟨hk.2, ⟨hk.1.1.1, ⟨hk.1.1.2.1, ⟨hk.1.1.2.2.1, ⟨hk.1.1.2.2.2.1, hk.1.1.2.2.2.2⟩⟩⟩⟩⟩⟩)), (by (with_reducible repeat (first | apply rA | apply rN | apply rD)); exact rM HO_350002.out (fun _ hk => ⟨hk.2, ⟨hk.1.1, hk.1.2⟩⟩)), (by (with_reducible repeat (first | refine bN ?_ _ | refine bD ?_ | refine bA ?_ _)); exact BK327.out), (by (with_reducible repeat (first | refine bN ?_ _ | refine bD ?_ | refine bA ?_ _)); exact BK338.out), (by (with_reducible repeat (first | refine bN ?_ _ | refine bD ?_ | refine bA ?_ _)); exact BK349.out), (by (with_reducible repeat (first | refine bN ?_ _ | refine bD ?_ | refine bA ?_ _)); exact BK362.out), GW362.out, GE362.out, NB327_362.out, NB362_327.out, NB338_362.out, NB362_338.out, NB349_362.out, NB362_349.out, (by repeat (first | (with_reducible first | exact HB.out | apply oA | apply pN | apply o1 | refine bS ?_ GE327.out | refine bS ?_ GE338.out | refine bS ?_ GE349.out | refine bS ?_ GE362.out) | exact HB.out))⟩)
              ·skip
               refine box_step ?hg (N := 11) ?hd (cs := #[.slice none 0 0, .slice none 0 0, .slice none 0 0]) (t := 26) ?hr ?_; (case hd => rfl); (case hg => rfl); (case hr => first | (go_simp; done) | (go_simp; rfl))
               intro gb362 hg w57 hbox hb
               have HS6_ := (hb.cell (World.block_lt_of_cell? _ _ (hHeld.2.2.2.2.2.2))).trans (hHeld.2.2.2.2.2.2)
               have n0_ := Am (Kd.Q_below (by (with_reducible repeat (first | apply Kd.Q_alloc | apply Kd.Q_drewN | apply Kd.Q_drew)); exact HO_328000.out) hb)
               have n1_ := Am (rB (by (with_reducible repeat (first | apply rA | apply rN | apply rD)); exact HO_328001.out) hb)
               have n2_ := Am (rB (by (with_reducible repeat (first | apply rA | apply rN | apply rD)); exact HO_328002.out) hb)
               have n3_ := Am (Kd.Q_below (by (with_reducible repeat (first | apply Kd.Q_alloc | apply Kd.Q_drewN | apply Kd.Q_drew)); exact HO_339000.out) hb)
               have n4_ := Am (rB (by (with_reducible repeat (first | apply rA | apply rN | apply rD)); exact HO_339001.out) hb)
               have n5_ := Am (rB (by (with_reducible repeat (first | apply rA | apply rN | apply rD)); exact HO_339002.out) hb)
               have n6_ := Am (Kd.Q_below (by (with_reducible repeat (first | apply Kd.Q_alloc | apply Kd.Q_drewN | apply Kd.Q_drew)); exact HO_350000.out) hb)
               have n7_ := Am (rB (by (with_reducible repeat (first | apply rA | apply rN | apply rD)); exact HO_350001.out) hb)
               have n8_ := Am (rB (by (with_reducible repeat (first | apply rA | apply rN | apply rD)); exact HO_350002.out) hb)
               have n9_ := Am (bB (g := gb327) (o := .cells #[.slice Ao9 t316.length co9, .slice Ao11 t319.length co11, .slice (some ad351) t322.length co12] 26 (0, 0)) (by (with_reducible repeat (first | refine bN ?_ _ | refine bD ?_ | refine bA ?_ _)); exact BK327.out) hb)
               have n10_ := Am (bB (g := gb338) (o := .cells #[.slice Ao15 t328.length co15, .slice Ao18 t331.length co18, .slice Ao19 t334.length co19] 26 (0, 0)) (by (with_reducible repeat (first | refine bN ?_ _ | refine bD ?_ | refine bA ?_ _)); exact BK338.out) hb)
               have n11_ := Am (bB (g := gb349) (o := .cells #[.slice Ao23 t339.length co23, .slice Ao27 t342.length co27, .slice Ao28 t345.length co28] 26 (0, 0)) (by (with_reducible repeat (first | refine bN ?_ _ | refine bD ?_ | refine bA ?_ _)); exact BK349.out) hb)
               have n12_ := Am (bP (by repeat (first | (with_reducible first | exact HB.out | apply oA | apply pN | apply o1 | refine bS ?_ GE327.out | refine bS ?_ GE338.out | refine bS ?_ GE349.out) | exact HB.out)) hb)
               have n13_ := Am (hbox)
               have n14_ := Am ((by rw [hg]; exact (bZ (by repeat (first | (with_reducible first | exact HB.out | apply oA | apply pN | apply o1 | refine bS ?_ GE327.out | refine bS ?_ GE338.out | refine bS ?_ GE349.out) | exact HB.out))) : w.heap.size ≤ gb362))
               have n15_ := Am ((by rw [hg]; exact (bZ (by repeat (first | (with_reducible first | exact HB.out | apply oA | apply pN | apply o1 | refine bS ?_ GE327.out | refine bS ?_ GE338.out | refine bS ?_ GE349.out) | exact HB.out))) : w.heap.size ≤ gb362))
               have n16_ := Am ((by rw [hg]; exact Nat.ne_of_lt (blk_lt (g := gb327) (o := .cells #[.slice Ao9 t316.length co9, .slice Ao11 t319.length co11, .slice (some ad351) t322.length co12] 26 (0, 0)) (by (with_reducible repeat (first | refine bN ?_ _ | refine bD ?_ | refine bA ?_ _)); exact BK327.out)) : gb327 ≠ gb362))
               have n17_ := Am ((by rw [hg]; exact Nat.ne_of_gt (blk_lt (g := gb327) (o := .cells #[.slice Ao9 t316.length co9, .slice Ao11 t319.length co11, .slice (some ad351) t322.length co12] 26 (0, 0)) (by (with_reducible repeat (first | refine bN ?_ _ | refine bD ?_ | refine bA ?_ _)); exact BK327.out)) : gb362 ≠ gb327))
               have n18_ := Am ((by rw [hg]; exact Nat.ne_of_lt (blk_lt (g := gb338) (o := .cells #[.slice Ao15 t328.length co15, .slice Ao18 t331.length co18, .slice Ao19 t334.length co19] 26 (0, 0)) (by (with_reducible repeat (first | refine bN ?_ _ | refine bD ?_ | refine bA ?_ _)); exact BK338.out)) : gb338 ≠ gb362))
               have n19_ := Am ((by rw [hg]; exact Nat.ne_of_gt (blk_lt (g := gb338) (o := .cells #[.slice Ao15 t328.length co15, .slice Ao18 t331.length co18, .slice Ao19 t334.length co19] 26 (0, 0)) (by (with_reducible repeat (first | refine bN ?_ _ | refine bD ?_ | refine bA ?_ _)); exact BK338.out)) : gb362 ≠ gb338))
               have n20_ := Am ((by rw [hg]; exact Nat.ne_of_lt (blk_lt (g := gb349) (o := .cells #[.slice Ao23 t339.length co23, .slice Ao27 t342.length co27, .slice Ao28 t345.length co28] 26 (0, 0)) (by (with_reducible repeat (first | refine bN ?_ _ | refine bD ?_ | refine bA ?_ _)); exact BK349.out)) : gb349 ≠ gb362))
               have n21_ := Am ((by rw [hg]; exact Nat.ne_of_gt (blk_lt (g := gb349) (o := .cells #[.slice Ao23 t339.length co23, .slice Ao27 t342.length co27, .slice Ao28 t345.length co28] 26 (0, 0)) (by (with_reducible repeat (first | refine bN ?_ _ | refine bD ?_ | refine bA ?_ _)); exact BK349.out)) : gb362 ≠ gb349))
               clear HO_328000
               clear HO_328001
               clear HO_328002
               clear HO_339000
               clear HO_339001
               clear HO_339002
               clear HO_350000
               clear HO_350001
               clear HO_350002
               clear BK327
               clear BK338
               clear BK349
               clear HB
               have HO_328000 := n0_
               have HO_328001 := n1_
               have HO_328002 := n2_
               have HO_339000 := n3_
               have HO_339001 := n4_
               have HO_339002 := n5_
               have HO_350000 := n6_
               have HO_350001 := n7_
               have HO_350002 := n8_
               have BK327 := n9_
               have BK338 := n10_
               have BK349 := n11_
               have HB := n12_
               have BK362 := n13_
               have GW362 := n14_
               have GE362 := n15_
               have NB327_362 := n16_
               have NB362_327 := n17_
               have NB338_362 := n18_
               have NB362_338 := n19_
               have NB349_362 := n20_
               have NB362_349 := n21_
               clear n0_ n1_ n2_ n3_ n4_ n5_ n6_ n7_ n8_ n9_ n10_ n11_ n12_ n13_ n14_ n15_ n16_ n17_ n18_ n19_ n20_ n21_
               clear hb hbox hg
               refine hK.out _ _ ⟨(bC BK338.out 0).trans rfl, (bC BK338.out 1).trans rfl, (bC BK338.out 2).trans rfl, (bC BK327.out 0).trans rfl, (bC BK327.out 1).trans rfl, (bC BK327.out 2).trans rfl, HS6_⟩ (fun hHeld => ?_)
               clear hK K
               refine norm_ (a' := ?_) ?_ ?_
               rotate_left
               ·show Act.put _ (some 11) _ = _
                simp only [Act.put, lA, lZ, lS, i64_w, i32_w]
                rfl
               refine one_ (i := 8) (N := some 60) laws_FnSigsSet.q15 rfl rfl (one_of HT_.out (by kernel_rfl)) (by decide) (fun K hK => ?_)
               refine goes_ Try.func25 (by kernel_rfl) rfl #[.agg #[.slice Ao15 t328.length co15, .slice Ao18 t331.length co18, .slice Ao19 t334.length co19], .int .i64 t325, .int .i64 (rd t322 (ji46))] (by rfl) rfl rfl (by (try simp only [lM, lC, lN]); first | done | (simp only [hji46]; rfl) | rfl | (simp only [lD, lT]; rfl)) ?_
               with_reducible refine (impl_SigsSet.calls kj42 _ _ t328 _ _ t331 _ _ t334 t325 (rd t322 (ji46)) t352 t355 t358 true _ ?side1 ?side2 ?side3 ?side4 ?side5 ?side6 A49.out).mono ?_
               (case side1 => repeat (first | exact (Kd.Q_reads' HO_339000.out).2.2 | (with_reducible refine cA ?_ _) | (with_reducible refine cN ?_ _) | (with_reducible refine cD ?_)))
               (case side2 => exact (Kd.Q_reads' HO_339000.out).2.1)
               (case side3 => repeat (first | exact (Kd.R_reads' HO_339001.out).2.2 | (with_reducible refine cA ?_ _) | (with_reducible refine cN ?_ _) | (with_reducible refine cD ?_)))
               (case side4 => exact (Kd.R_reads' HO_339001.out).2.1)
               (case side5 => repeat (first | exact (Kd.R_reads' HO_339002.out).2.2 | (with_reducible refine cA ?_ _) | (with_reducible refine cN ?_ _) | (with_reducible refine cD ?_)))
               (case side6 => exact (Kd.R_reads' HO_339002.out).2.1)
               rintro e w58 ⟨v353, v356, v359, rfl, ho0, ho1, ho2, hb⟩
               have HS6_ := (hb.cell (World.block_lt_of_cell? _ _ (hHeld.2.2.2.2.2.2))).trans (hHeld.2.2.2.2.2.2)
               refine ⟨_, rfl, ?_⟩
               have n0_ := Am (Kd.Q_mono (Kd.Q_told (Kd.Q_told (Kd.Q_old (by (with_reducible repeat (first | apply Kd.Q_alloc | apply Kd.Q_drewN | apply Kd.Q_drew)); exact HO_328000.out) hb) (Kd.R_base ho0)) (Kd.R_base ho1)) (fun _ h_ => h_.1))
               have n1_ := Am (rM (Kd.R_told (Kd.R_told (Kd.R_old (by (with_reducible repeat (first | apply rA | apply rN | apply rD)); exact HO_328001.out) hb) (Kd.R_base ho0)) (Kd.R_base ho1)) (fun _ h_ => h_.1))
               have n2_ := Am (Kd.R_elder' (by (with_reducible repeat (first | apply rA | apply rN | apply rD)); exact HO_328002.out) (Kd.R_base ho2) hb)
               have n3_ := Am (Kd.Q_mono (Kd.Q_told (Kd.Q_told (Kd.Q_old (by (with_reducible repeat (first | apply Kd.Q_alloc | apply Kd.Q_drewN | apply Kd.Q_drew)); exact HO_339000.out) hb) (Kd.R_base ho0)) (Kd.R_base ho1)) (fun _ h_ => h_.1))
               have n4_ := Am (rM (Kd.R_told (Kd.R_told (Kd.R_old (by (with_reducible repeat (first | apply rA | apply rN | apply rD)); exact HO_339001.out) hb) (Kd.R_base ho0)) (Kd.R_base ho1)) (fun _ h_ => h_.1))
               have n5_ := Am (Kd.R_elder' (by (with_reducible repeat (first | apply rA | apply rN | apply rD)); exact HO_339002.out) (Kd.R_base ho2) hb)
               have n6_ := Am (Kd.Q_mono (Kd.Q_told (Kd.Q_told (Kd.Q_old (by (with_reducible repeat (first | apply Kd.Q_alloc | apply Kd.Q_drewN | apply Kd.Q_drew)); exact HO_350000.out) hb) (Kd.R_base ho0)) (Kd.R_base ho1)) (fun _ h_ => h_.1))
               have n7_ := Am (rM (Kd.R_told (Kd.R_told (Kd.R_old (by (with_reducible repeat (first | apply rA | apply rN | apply rD)); exact HO_350001.out) hb) (Kd.R_base ho0)) (Kd.R_base ho1)) (fun _ h_ => h_.1))
               have n8_ := Am (Kd.R_elder' (by (with_reducible repeat (first | apply rA | apply rN | apply rD)); exact HO_350002.out) (Kd.R_base ho2) hb)
               have n9_ := Am (Kd.R_lower (Kd.R_new' (Kd.R_new' (Kd.R_new' (Kd.R_new' (Kd.R_new' (Kd.R_new' ho0 (Kd.Q_lt (by (with_reducible repeat (first | apply Kd.Q_alloc | apply Kd.Q_drewN | apply Kd.Q_drew)); exact HO_328000.out))) (Kd.R_lt (by (with_reducible repeat (first | apply rA | apply rN | apply rD)); exact HO_328001.out))) (Kd.Q_lt (by (with_reducible repeat (first | apply Kd.Q_alloc | apply Kd.Q_drewN | apply Kd.Q_drew)); exact HO_339000.out))) (Kd.R_lt (by (with_reducible repeat (first | apply rA | apply rN | apply rD)); exact HO_339001.out))) (Kd.Q_lt (by (with_reducible repeat (first | apply Kd.Q_alloc | apply Kd.Q_drewN | apply Kd.Q_drew)); exact HO_350000.out))) (Kd.R_lt (by (with_reducible repeat (first | apply rA | apply rN | apply rD)); exact HO_350001.out))) (bZ (by repeat (first | (with_reducible first | exact HB.out | apply oA | apply pN | apply o1 | refine bS ?_ GE327.out | refine bS ?_ GE338.out | refine bS ?_ GE349.out | refine bS ?_ GE362.out) | exact HB.out))))
               have n10_ := Am (Kd.R_lower (Kd.R_new' (Kd.R_new' (Kd.R_new' (Kd.R_new' (Kd.R_new' (Kd.R_new' ho1 (Kd.Q_lt (by (with_reducible repeat (first | apply Kd.Q_alloc | apply Kd.Q_drewN | apply Kd.Q_drew)); exact HO_328000.out))) (Kd.R_lt (by (with_reducible repeat (first | apply rA | apply rN | apply rD)); exact HO_328001.out))) (Kd.Q_lt (by (with_reducible repeat (first | apply Kd.Q_alloc | apply Kd.Q_drewN | apply Kd.Q_drew)); exact HO_339000.out))) (Kd.R_lt (by (with_reducible repeat (first | apply rA | apply rN | apply rD)); exact HO_339001.out))) (Kd.Q_lt (by (with_reducible repeat (first | apply Kd.Q_alloc | apply Kd.Q_drewN | apply Kd.Q_drew)); exact HO_350000.out))) (Kd.R_lt (by (with_reducible repeat (first | apply rA | apply rN | apply rD)); exact HO_350001.out))) (bZ (by repeat (first | (with_reducible first | exact HB.out | apply oA | apply pN | apply o1 | refine bS ?_ GE327.out | refine bS ?_ GE338.out | refine bS ?_ GE349.out | refine bS ?_ GE362.out) | exact HB.out))))
               have n11_ := Am (Kd.R_lower (Kd.R_new' (Kd.R_new' (Kd.R_new' ho2 (Kd.R_lt (by (with_reducible repeat (first | apply rA | apply rN | apply rD)); exact HO_328002.out))) (Kd.R_lt (by (with_reducible repeat (first | apply rA | apply rN | apply rD)); exact HO_339002.out))) (Kd.R_lt (by (with_reducible repeat (first | apply rA | apply rN | apply rD)); exact HO_350002.out))) (bZ (by repeat (first | (with_reducible first | exact HB.out | apply oA | apply pN | apply o1 | refine bS ?_ GE327.out | refine bS ?_ GE338.out | refine bS ?_ GE349.out | refine bS ?_ GE362.out) | exact HB.out))))
               have n12_ := Am (bB (g := gb327) (o := .cells #[.slice Ao9 t316.length co9, .slice Ao11 t319.length co11, .slice (some ad351) t322.length co12] 26 (0, 0)) (by (with_reducible repeat (first | refine bN ?_ _ | refine bD ?_ | refine bA ?_ _)); exact BK327.out) hb)
               have n13_ := Am (bB (g := gb338) (o := .cells #[.slice Ao15 t328.length co15, .slice Ao18 t331.length co18, .slice Ao19 t334.length co19] 26 (0, 0)) (by (with_reducible repeat (first | refine bN ?_ _ | refine bD ?_ | refine bA ?_ _)); exact BK338.out) hb)
               have n14_ := Am (bB (g := gb349) (o := .cells #[.slice Ao23 t339.length co23, .slice Ao27 t342.length co27, .slice Ao28 t345.length co28] 26 (0, 0)) (by (with_reducible repeat (first | refine bN ?_ _ | refine bD ?_ | refine bA ?_ _)); exact BK349.out) hb)
               have n15_ := Am (bB (g := gb362) (o := .cells #[.slice none 0 0, .slice none 0 0, .slice none 0 0] 26 (0, 0)) (by (with_reducible repeat (first | refine bN ?_ _ | refine bD ?_ | refine bA ?_ _)); exact BK362.out) hb)
               have n16_ := Am (bP (by repeat (first | (with_reducible first | exact HB.out | apply oA | apply pN | apply o1 | refine bS ?_ GE327.out | refine bS ?_ GE338.out | refine bS ?_ GE349.out | refine bS ?_ GE362.out) | exact HB.out)) hb)
               clear HO_328000
               clear HO_328001
               clear HO_328002
               clear HO_339000
               clear HO_339001
               clear HO_339002
               clear HO_350000
               clear HO_350001
               clear HO_350002
               clear BK327
               clear BK338
               clear BK349
               clear BK362
               clear HB
               have HO_328000 := n0_
               have HO_328001 := n1_
               have HO_328002 := n2_
               have HO_339000 := n3_
               have HO_339001 := n4_
               have HO_339002 := n5_
               have HO_350000 := n6_
               have HO_350001 := n7_
               have HO_350002 := n8_
               have HO354 := n9_
               have HO357 := n10_
               have HO360 := n11_
               have BK327 := n12_
               have BK338 := n13_
               have BK349 := n14_
               have BK362 := n15_
               have HB := n16_
               clear n0_ n1_ n2_ n3_ n4_ n5_ n6_ n7_ n8_ n9_ n10_ n11_ n12_ n13_ n14_ n15_ n16_
               (try clear hb)
               (try clear hb2)
               (try clear hk)
               (try clear hi)
               (try clear ho0)
               (try clear ho1)
               (try clear ho2)
               refine hK.out _ _ ⟨(bC BK338.out 0).trans rfl, (bC BK338.out 1).trans rfl, (bC BK338.out 2).trans rfl, (bC BK327.out 0).trans rfl, (bC BK327.out 1).trans rfl, (bC BK327.out 2).trans rfl, HS6_⟩ (fun hHeld => ?_)
               clear hK K
               refine norm_ (a' := ?_) ?_ ?_
               rotate_left
               ·show Act.put _ (some 60) _ = _
                simp only [Act.put, lA, lZ, lS, i64_w, i32_w]
                rfl
               refine pure_ (i := 9) (N := some 51) (v := ?_) (a' := ?_) laws_FnSigsSet.q16 rfl rfl (any_of HT_.out (by kernel_rfl)) (fun _ _ _ h => h) (Or.inl ⟨by rfl, ?_⟩) ?_ ?_
               rotate_left
               ·intro w'
                go_simp
                with_reducible rfl
               rotate_left
               ·simp only [Act.put, lA, lZ, lS, i64_w, i32_w]
                rfl
               refine pure_ (i := 10) (N := some 61) (v := ?_) (a' := ?_) laws_FnSigsSet.q17 rfl rfl (any_of HT_.out (by kernel_rfl)) (fun _ _ _ h => h) (Or.inl ⟨by rfl, ?_⟩) ?_ ?_
               rotate_left
               ·intro w'
                go_simp
                with_reducible rfl
               rotate_left
               ·simp only [Act.put, lA, lZ, lS, i64_w, i32_w]
                rfl
               refine pure_ (i := 11) (N := some 62) (v := ?_) (a' := ?_) laws_FnSigsSet.q9 rfl rfl (any_of HT_.out (by kernel_rfl)) (fun _ _ _ h => h) (Or.inl ⟨by rfl, ?_⟩) ?_ ?_
               rotate_left
               ·intro w'
                go_simp
                with_reducible rfl
               rotate_left
               ·simp only [Act.put, lA, lZ, lS, i64_w, i32_w]
                rfl
               exact norm_ (by simp only [putAll, Act.put, lA, lZ, lS]) (hCont (v353, v356, v359, gb362) _ ⟨hHeld, (by (with_reducible repeat (first | apply rA | apply rN | apply rD)); exact rM HO354.out (fun _ hk => ⟨hk.1.1.1.1.1.1, ⟨hk.1.1.1.1.1.2, ⟨hk.1.1.1.1.2, ⟨hk.1.1.1.2, ⟨hk.1.1.2, ⟨hk.1.2, hk.2⟩⟩⟩⟩⟩⟩)), (by (with_reducible repeat (first | apply rA | apply rN | apply rD)); exact rM HO357.out (fun _ hk => ⟨hk.1.1.1.1.1.1, ⟨hk.1.1.1.1.1.2, ⟨hk.1.1.1.1.2, ⟨hk.1.1.1.2, ⟨hk.1.1.2, ⟨hk.1.2, hk.2⟩⟩⟩⟩⟩⟩)), (by (with_reducible repeat (first | apply rA | apply rN | apply rD)); exact rM HO360.out (fun _ hk => ⟨hk.1.1.2, ⟨hk.1.2, hk.2⟩⟩)), (by (with_reducible repeat (first | apply Kd.Q_alloc | apply Kd.Q_drewN | apply Kd.Q_drew)); exact Kd.Q_mono HO_328000.out (fun _ hk => ⟨hk.1.2, ⟨hk.2, ⟨hk.1.1.1, ⟨hk.1.1.2.1, ⟨hk.1.1.2.2.1, ⟨hk.1.1.2.2.2.1, hk.1.1.2.2.2.2⟩⟩⟩⟩⟩⟩)), (by (with_reducible repeat (first | apply rA | apply rN | apply rD)); exact rM HO_328001.out (fun _ hk => ⟨hk.1.2, ⟨hk.2, ⟨hk.1.1.1, ⟨hk.1.1.2.1, ⟨hk.1.1.2.2.1, ⟨hk.1.1.2.2.2.1, hk.1.1.2.2.2.2⟩⟩⟩⟩⟩⟩)), (by (with_reducible repeat (first | apply rA | apply rN | apply rD)); exact rM HO_328002.out (fun _ hk => ⟨hk.2, ⟨hk.1.1, hk.1.2⟩⟩)), (by (with_reducible repeat (first | apply Kd.Q_alloc | apply Kd.Q_drewN | apply Kd.Q_drew)); exact Kd.Q_mono HO_339000.out (fun _ hk => ⟨hk.1.2, ⟨hk.2, ⟨hk.1.1.1, ⟨hk.1.1.2.1, ⟨hk.1.1.2.2.1, ⟨hk.1.1.2.2.2.1, hk.1.1.2.2.2.2⟩⟩⟩⟩⟩⟩)), (by (with_reducible repeat (first | apply rA | apply rN | apply rD)); exact rM HO_339001.out (fun _ hk => ⟨hk.1.2, ⟨hk.2, ⟨hk.1.1.1, ⟨hk.1.1.2.1, ⟨hk.1.1.2.2.1, ⟨hk.1.1.2.2.2.1, hk.1.1.2.2.2.2⟩⟩⟩⟩⟩⟩)), (by (with_reducible repeat (first | apply rA | apply rN | apply rD)); exact rM HO_339002.out (fun _ hk => ⟨hk.2, ⟨hk.1.1, hk.1.2⟩⟩)), (by (with_reducible repeat (first | apply Kd.Q_alloc | apply Kd.Q_drewN | apply Kd.Q_drew)); exact Kd.Q_mono HO_350000.out (fun _ hk => ⟨hk.1.2, ⟨hk.2, ⟨hk.1.1.1, ⟨hk.1.1.2.1, ⟨hk.1.1.2.2.1, ⟨hk.1.1.2.2.2.1, hk.1.1.2.2.2.2⟩⟩⟩⟩⟩⟩)), (by (with_reducible repeat (first | apply rA | apply rN | apply rD)); exact rM HO_350001.out (fun _ hk => ⟨hk.1.2, ⟨hk.2, ⟨hk.1.1.1, ⟨hk.1.1.2.1, ⟨hk.1.1.2.2.1, ⟨hk.1.1.2.2.2.1, hk.1.1.2.2.2.2⟩⟩⟩⟩⟩⟩)), (by (with_reducible repeat (first | apply rA | apply rN | apply rD)); exact rM HO_350002.out (fun _ hk => ⟨hk.2, ⟨hk.1.1, hk.1.2⟩⟩)), (by (with_reducible repeat (first | refine bN ?_ _ | refine bD ?_ | refine bA ?_ _)); exact BK327.out), (by (with_reducible repeat (first | refine bN ?_ _ | refine bD ?_ | refine bA ?_ _)); exact BK338.out), (by (with_reducible repeat (first | refine bN ?_ _ | refine bD ?_ | refine bA ?_ _)); exact BK349.out), (by (with_reducible repeat (first | refine bN ?_ _ | refine bD ?_ | refine bA ?_ _)); exact BK362.out), GW362.out, GE362.out, NB327_362.out, NB362_327.out, NB338_362.out, NB362_338.out, NB349_362.out, NB362_349.out, (by repeat (first | (with_reducible first | exact HB.out | apply oA | apply pN | apply o1 | refine bS ?_ GE327.out | refine bS ?_ GE338.out | refine bS ?_ GE349.out | refine bS ?_ GE362.out) | exact HB.out))⟩)
             rintro ⟨v353, v356, v359, gb362⟩ w59 ⟨hS_, h0_, h1_, h2_, h3_, h4_, h5_, h6_, h7_, h8_, h9_, h10_, h11_, h12_, h13_, h14_, h15_, h16_, h17_, h18_, h19_, h20_, h21_, h22_, h23_, h24_⟩
             have n0_ : Aside0 (Kd.R Kd.bool 4 w59 w.heap.size (fun k_ => some k_ ≠ (v356 : Value).ownBlock ∧ some k_ ≠ (.slice Ao9 t316.length co9 : Value).ownBlock ∧ some k_ ≠ (.slice Ao11 t319.length co11 : Value).ownBlock ∧ some k_ ≠ (.slice Ao15 t328.length co15 : Value).ownBlock ∧ some k_ ≠ (.slice Ao18 t331.length co18 : Value).ownBlock ∧ some k_ ≠ (.slice Ao23 t339.length co23 : Value).ownBlock ∧ some k_ ≠ (.slice Ao27 t342.length co27 : Value).ownBlock) v353 t352) := ⟨h0_⟩
             have n1_ : Aside0 (Kd.R Kd.bool 4 w59 w.heap.size (fun k_ => some k_ ≠ (v353 : Value).ownBlock ∧ some k_ ≠ (.slice Ao9 t316.length co9 : Value).ownBlock ∧ some k_ ≠ (.slice Ao11 t319.length co11 : Value).ownBlock ∧ some k_ ≠ (.slice Ao15 t328.length co15 : Value).ownBlock ∧ some k_ ≠ (.slice Ao18 t331.length co18 : Value).ownBlock ∧ some k_ ≠ (.slice Ao23 t339.length co23 : Value).ownBlock ∧ some k_ ≠ (.slice Ao27 t342.length co27 : Value).ownBlock) v356 t355) := ⟨h1_⟩
             have n2_ : Aside0 (Kd.R (Kd.int .i64) 3 w59 w.heap.size (fun k_ => some k_ ≠ (.slice (some ad351) t322.length co12 : Value).ownBlock ∧ some k_ ≠ (.slice Ao19 t334.length co19 : Value).ownBlock ∧ some k_ ≠ (.slice Ao28 t345.length co28 : Value).ownBlock) v359 t358) := ⟨h2_⟩
             have n3_ : Aside0 (Kd.Q Kd.bool 4 w59 w.heap.size (fun k_ => some k_ ≠ (v353 : Value).ownBlock ∧ some k_ ≠ (v356 : Value).ownBlock ∧ some k_ ≠ (.slice Ao11 t319.length co11 : Value).ownBlock ∧ some k_ ≠ (.slice Ao15 t328.length co15 : Value).ownBlock ∧ some k_ ≠ (.slice Ao18 t331.length co18 : Value).ownBlock ∧ some k_ ≠ (.slice Ao23 t339.length co23 : Value).ownBlock ∧ some k_ ≠ (.slice Ao27 t342.length co27 : Value).ownBlock) (.slice Ao9 t316.length co9) t316) := ⟨h3_⟩
             have n4_ : Aside0 (Kd.R Kd.bool 4 w59 w.heap.size (fun k_ => some k_ ≠ (v353 : Value).ownBlock ∧ some k_ ≠ (v356 : Value).ownBlock ∧ some k_ ≠ (.slice Ao9 t316.length co9 : Value).ownBlock ∧ some k_ ≠ (.slice Ao15 t328.length co15 : Value).ownBlock ∧ some k_ ≠ (.slice Ao18 t331.length co18 : Value).ownBlock ∧ some k_ ≠ (.slice Ao23 t339.length co23 : Value).ownBlock ∧ some k_ ≠ (.slice Ao27 t342.length co27 : Value).ownBlock) (.slice Ao11 t319.length co11) t319) := ⟨h4_⟩
             have n5_ : Aside0 (Kd.R (Kd.int .i64) 3 w59 w.heap.size (fun k_ => some k_ ≠ (v359 : Value).ownBlock ∧ some k_ ≠ (.slice Ao19 t334.length co19 : Value).ownBlock ∧ some k_ ≠ (.slice Ao28 t345.length co28 : Value).ownBlock) (.slice (some ad351) t322.length co12) t322) := ⟨h5_⟩
             have n6_ : Aside0 (Kd.Q Kd.bool 4 w59 w.heap.size (fun k_ => some k_ ≠ (v353 : Value).ownBlock ∧ some k_ ≠ (v356 : Value).ownBlock ∧ some k_ ≠ (.slice Ao9 t316.length co9 : Value).ownBlock ∧ some k_ ≠ (.slice Ao11 t319.length co11 : Value).ownBlock ∧ some k_ ≠ (.slice Ao18 t331.length co18 : Value).ownBlock ∧ some k_ ≠ (.slice Ao23 t339.length co23 : Value).ownBlock ∧ some k_ ≠ (.slice Ao27 t342.length co27 : Value).ownBlock) (.slice Ao15 t328.length co15) t328) := ⟨h6_⟩
             have n7_ : Aside0 (Kd.R Kd.bool 4 w59 w.heap.size (fun k_ => some k_ ≠ (v353 : Value).ownBlock ∧ some k_ ≠ (v356 : Value).ownBlock ∧ some k_ ≠ (.slice Ao9 t316.length co9 : Value).ownBlock ∧ some k_ ≠ (.slice Ao11 t319.length co11 : Value).ownBlock ∧ some k_ ≠ (.slice Ao15 t328.length co15 : Value).ownBlock ∧ some k_ ≠ (.slice Ao23 t339.length co23 : Value).ownBlock ∧ some k_ ≠ (.slice Ao27 t342.length co27 : Value).ownBlock) (.slice Ao18 t331.length co18) t331) := ⟨h7_⟩
             have n8_ : Aside0 (Kd.R (Kd.int .i64) 3 w59 w.heap.size (fun k_ => some k_ ≠ (v359 : Value).ownBlock ∧ some k_ ≠ (.slice (some ad351) t322.length co12 : Value).ownBlock ∧ some k_ ≠ (.slice Ao28 t345.length co28 : Value).ownBlock) (.slice Ao19 t334.length co19) t334) := ⟨h8_⟩
             have n9_ : Aside0 (Kd.Q Kd.bool 4 w59 w.heap.size (fun k_ => some k_ ≠ (v353 : Value).ownBlock ∧ some k_ ≠ (v356 : Value).ownBlock ∧ some k_ ≠ (.slice Ao9 t316.length co9 : Value).ownBlock ∧ some k_ ≠ (.slice Ao11 t319.length co11 : Value).ownBlock ∧ some k_ ≠ (.slice Ao15 t328.length co15 : Value).ownBlock ∧ some k_ ≠ (.slice Ao18 t331.length co18 : Value).ownBlock ∧ some k_ ≠ (.slice Ao27 t342.length co27 : Value).ownBlock) (.slice Ao23 t339.length co23) t339) := ⟨h9_⟩
             have n10_ : Aside0 (Kd.R Kd.bool 4 w59 w.heap.size (fun k_ => some k_ ≠ (v353 : Value).ownBlock ∧ some k_ ≠ (v356 : Value).ownBlock ∧ some k_ ≠ (.slice Ao9 t316.length co9 : Value).ownBlock ∧ some k_ ≠ (.slice Ao11 t319.length co11 : Value).ownBlock ∧ some k_ ≠ (.slice Ao15 t328.length co15 : Value).ownBlock ∧ some k_ ≠ (.slice Ao18 t331.length co18 : Value).ownBlock ∧ some k_ ≠ (.slice Ao23 t339.length co23 : Value).ownBlock) (.slice Ao27 t342.length co27) t342) := ⟨h10_⟩
             have n11_ : Aside0 (Kd.R (Kd.int .i64) 3 w59 w.heap.size (fun k_ => some k_ ≠ (v359 : Value).ownBlock ∧ some k_ ≠ (.slice (some ad351) t322.length co12 : Value).ownBlock ∧ some k_ ≠ (.slice Ao19 t334.length co19 : Value).ownBlock) (.slice Ao28 t345.length co28) t345) := ⟨h11_⟩
             have n12_ : Aside0 (w59.heap[gb327]? = some (.cells #[.slice Ao9 t316.length co9, .slice Ao11 t319.length co11, .slice (some ad351) t322.length co12] 26 (0, 0))) := ⟨h12_⟩
             have n13_ : Aside0 (w59.heap[gb338]? = some (.cells #[.slice Ao15 t328.length co15, .slice Ao18 t331.length co18, .slice Ao19 t334.length co19] 26 (0, 0))) := ⟨h13_⟩
             have n14_ : Aside0 (w59.heap[gb349]? = some (.cells #[.slice Ao23 t339.length co23, .slice Ao27 t342.length co27, .slice Ao28 t345.length co28] 26 (0, 0))) := ⟨h14_⟩
             have n15_ : Aside0 (w59.heap[gb362]? = some (.cells #[.slice none 0 0, .slice none 0 0, .slice none 0 0] 26 (0, 0))) := ⟨h15_⟩
             have n16_ : Aside0 (w.heap.size ≤ gb362) := ⟨h16_⟩
             have n17_ : Aside0 (w.heap.size ≤ gb362) := ⟨h17_⟩
             have n18_ : Aside0 (gb327 ≠ gb362) := ⟨h18_⟩
             have n19_ : Aside0 (gb362 ≠ gb327) := ⟨h19_⟩
             have n20_ : Aside0 (gb338 ≠ gb362) := ⟨h20_⟩
             have n21_ : Aside0 (gb362 ≠ gb338) := ⟨h21_⟩
             have n22_ : Aside0 (gb349 ≠ gb362) := ⟨h22_⟩
             have n23_ : Aside0 (gb362 ≠ gb349) := ⟨h23_⟩
             have n24_ : Aside0 (Below w.heap.size w w59) := ⟨h24_⟩
             clear HO_328000
             clear HO_328001
             clear HO_328002
             clear HO_339000
             clear HO_339001
             clear HO_339002
             clear HO_350000
             clear HO_350001
             clear HO_350002
             clear BK327
             clear BK338
             clear BK349
             clear HB
             clear h0_ h1_ h2_ h3_ h4_ h5_ h6_ h7_ h8_ h9_ h10_ h11_ h12_ h13_ h14_ h15_ h16_ h17_ h18_ h19_ h20_ h21_ h22_ h23_ h24_
             have HO354 := n0_
             have HO357 := n1_
             have HO360 := n2_
             have HO_328000 := n3_
             have HO_328001 := n4_
             have HO_328002 := n5_
             have HO_339000 := n6_
             have HO_339001 := n7_
             have HO_339002 := n8_
             have HO_350000 := n9_
             have HO_350001 := n10_
             have HO_350002 := n11_
             have BK327 := n12_
             have BK338 := n13_
             have BK349 := n14_
             have BK362 := n15_
             have GW362 := n16_
             have GE362 := n17_
             have NB327_362 := n18_
             have NB362_327 := n19_
             have NB338_362 := n20_
             have NB362_338 := n21_
             have NB349_362 := n22_
             have NB362_349 := n23_
             have HB := n24_
             clear n0_ n1_ n2_ n3_ n4_ n5_ n6_ n7_ n8_ n9_ n10_ n11_ n12_ n13_ n14_ n15_ n16_ n17_ n18_ n19_ n20_ n21_ n22_ n23_ n24_
             have hHeld : w59.cell? ⟨gb338, 0, none⟩ = some (.slice Ao15 t328.length co15) ∧ w59.cell? ⟨gb338, 1, none⟩ = some (.slice Ao18 t331.length co18) ∧ w59.cell? ⟨gb338, 2, none⟩ = some (.slice Ao19 t334.length co19) ∧ w59.cell? ⟨gb327, 0, none⟩ = some (.slice Ao9 t316.length co9) ∧ w59.cell? ⟨gb327, 1, none⟩ = some (.slice Ao11 t319.length co11) ∧ w59.cell? ⟨gb327, 2, none⟩ = some (.slice (some ad351) t322.length co12) ∧ w59.cell? (ad351.add ((ji46)).toNat) = some (.int .i64 (rd t322 (ji46))) := hS_
             obtain ⟨Ao60, co60, eo60⟩ := Kd.R_slice HO354.out
             (first | subst eo60 | (injection eo60 with f1_ f2_ f3_; have f4_ := f1_.symm; have f5_ := f3_.symm; clear f1_ f2_ f3_; subst f4_; subst f5_))
             obtain ⟨Ao62, co62, eo62⟩ := Kd.R_slice HO357.out
             (first | subst eo62 | (injection eo62 with f1_ f2_ f3_; have f4_ := f1_.symm; have f5_ := f3_.symm; clear f1_ f2_ f3_; subst f4_; subst f5_))
             obtain ⟨Ao64, co64, eo64⟩ := Kd.R_slice HO360.out
             (first | subst eo64 | (injection eo64 with f1_ f2_ f3_; have f4_ := f1_.symm; have f5_ := f3_.symm; clear f1_ f2_ f3_; subst f4_; subst f5_))
             refine norm_ (a' := ?_) ?_ ?_
             rotate_left
             ·simp only [putAll, Act.put, lA, lZ, lS]
              rfl
             refine one_ (i := 13) (N := none) laws_FnSigsSet.q18 rfl rfl (one_of HT_.out (by kernel_rfl)) (by decide) (fun K hK => ?_)
             have hs61 : w59.cell? ⟨gb362, 0, none⟩ = some (.slice none 0 0) := (bC BK362.out 0).trans rfl
             have hfs61 := bF BK362.out 0
             have hns61_0 := NB327_362.out
             have hns61_1 := NB338_362.out
             have hns61_2 := NB349_362.out
             have hms61_0 := NB362_327.out
             have hms61_1 := NB362_338.out
             have hms61_2 := NB362_349.out
             have hs63 : w59.cell? ⟨gb362, 1, none⟩ = some (.slice none 0 0) := (bC BK362.out 1).trans rfl
             have hfs63 := bF BK362.out 1
             have hns63_0 := NB327_362.out
             have hns63_1 := NB338_362.out
             have hns63_2 := NB349_362.out
             have hms63_0 := NB362_327.out
             have hms63_1 := NB362_338.out
             have hms63_2 := NB362_349.out
             have hs65 : w59.cell? ⟨gb362, 2, none⟩ = some (.slice none 0 0) := (bC BK362.out 2).trans rfl
             have hfs65 := bF BK362.out 2
             have hns65_0 := NB327_362.out
             have hns65_1 := NB338_362.out
             have hns65_2 := NB349_362.out
             have hms65_0 := NB362_327.out
             have hms65_1 := NB362_338.out
             have hms65_2 := NB362_349.out
             refine skip_ (w1 := ?_) (by rfl) rfl ?_ ?_
             rotate_left
             ·go_simp
              rfl
             refine hK.out _ _ ⟨((cell_far (p := ⟨gb362, _, none⟩) NB338_362.out _).trans (((cell_far (p := ⟨gb362, _, none⟩) NB338_362.out _).trans (((cell_far (p := ⟨gb362, _, none⟩) NB338_362.out _).trans (hHeld.1)))))), ((cell_far (p := ⟨gb362, _, none⟩) NB338_362.out _).trans (((cell_far (p := ⟨gb362, _, none⟩) NB338_362.out _).trans (((cell_far (p := ⟨gb362, _, none⟩) NB338_362.out _).trans (hHeld.2.1)))))), ((cell_far (p := ⟨gb362, _, none⟩) NB338_362.out _).trans (((cell_far (p := ⟨gb362, _, none⟩) NB338_362.out _).trans (((cell_far (p := ⟨gb362, _, none⟩) NB338_362.out _).trans (hHeld.2.2.1)))))), ((cell_far (p := ⟨gb362, _, none⟩) NB327_362.out _).trans (((cell_far (p := ⟨gb362, _, none⟩) NB327_362.out _).trans (((cell_far (p := ⟨gb362, _, none⟩) NB327_362.out _).trans (hHeld.2.2.2.1)))))), ((cell_far (p := ⟨gb362, _, none⟩) NB327_362.out _).trans (((cell_far (p := ⟨gb362, _, none⟩) NB327_362.out _).trans (((cell_far (p := ⟨gb362, _, none⟩) NB327_362.out _).trans (hHeld.2.2.2.2.1)))))), ((cell_far (p := ⟨gb362, _, none⟩) NB327_362.out _).trans (((cell_far (p := ⟨gb362, _, none⟩) NB327_362.out _).trans (((cell_far (p := ⟨gb362, _, none⟩) NB327_362.out _).trans (hHeld.2.2.2.2.2.1)))))), ((cell_far (p := ⟨gb362, _, none⟩) (by first | exact Kd.own_blk (Kd.R_ne HO_328002.out BK362.out (by decide)) | (rw [add_block]; exact Kd.own_blk (Kd.R_ne HO_328002.out BK362.out (by decide))) | (show (Addr.add _ _).block ≠ _; rw [add_block]; exact Kd.own_blk (Kd.R_ne HO_328002.out BK362.out (by decide))) | (dsimp only; exact Kd.own_blk (Kd.R_ne HO_328002.out BK362.out (by decide)))) _).trans (((cell_far (p := ⟨gb362, _, none⟩) (by first | exact Kd.own_blk (Kd.R_ne HO_328002.out BK362.out (by decide)) | (rw [add_block]; exact Kd.own_blk (Kd.R_ne HO_328002.out BK362.out (by decide))) | (show (Addr.add _ _).block ≠ _; rw [add_block]; exact Kd.own_blk (Kd.R_ne HO_328002.out BK362.out (by decide))) | (dsimp only; exact Kd.own_blk (Kd.R_ne HO_328002.out BK362.out (by decide)))) _).trans (((cell_far (p := ⟨gb362, _, none⟩) (by first | exact Kd.own_blk (Kd.R_ne HO_328002.out BK362.out (by decide)) | (rw [add_block]; exact Kd.own_blk (Kd.R_ne HO_328002.out BK362.out (by decide))) | (show (Addr.add _ _).block ≠ _; rw [add_block]; exact Kd.own_blk (Kd.R_ne HO_328002.out BK362.out (by decide))) | (dsimp only; exact Kd.own_blk (Kd.R_ne HO_328002.out BK362.out (by decide)))) _).trans (hHeld.2.2.2.2.2.2))))))⟩ (fun hHeld => ?_)
             clear hK K
             refine pure_ (i := 14) (N := some 12) (v := ?_) (a' := ?_) laws_FnSigsSet.q19 rfl rfl (any_of HT_.out (by kernel_rfl)) (fun _ _ _ h => h) (Or.inl ⟨by rfl, ?_⟩) ?_ ?_
             rotate_left
             ·intro w'
              go_simp
              with_reducible rfl
             rotate_left
             ·simp only [Act.put, lA, lZ, lS, i64_w, i32_w]
              rfl
             refine done_ (done_of HT_.out (by kernel_rfl)) ?_
             have hnb66 := NB338_327.out
             have hnc66 := NB327_338.out
             have hnb67 := NB338_349.out
             have hnc67 := NB349_338.out
             have hnb68 := NB338_362.out
             have hnc68 := NB362_338.out
             have hcz69_0 : w59.cell? ⟨gb338, 0, none⟩ = some (.slice Ao15 t328.length co15) := (bC BK338.out 0).trans rfl
             have hcz69_1 : w59.cell? ⟨gb338, 1, none⟩ = some (.slice Ao18 t331.length co18) := (bC BK338.out 1).trans rfl
             have hcz69_2 : w59.cell? ⟨gb338, 2, none⟩ = some (.slice Ao19 t334.length co19) := (bC BK338.out 2).trans rfl
             have hfz69_0 := bF BK338.out 0
             have hfz69_1 := bF BK338.out 1
             have hfz69_2 := bF BK338.out 2
             try go_wp2_with (first | ((with_reducible refine gate_callee (f := 16) rfl ?_); refine goesL_ (some 64) rfl rfl Try.func16 (by kernel_rfl) rfl #[.agg #[.slice Ao15 t328.length co15, .slice Ao18 t331.length co18, .slice Ao19 t334.length co19]] rfl (by (try simp only [lM, lC, lN]); first | done | rfl | (simp only [lD, lT]; rfl)) ?_; (with_reducible refine (impl_SigsOk.calls kj42 _ _ t328 _ _ t331 _ _ t334 true _ ?side1 ?side2 ?side3 ?side4 ?side5 ?side6 A50.out).mono ?_); (case side1 => refine (Kd.Q_reads' (e := 4) (base := w.heap.size) (ok := fun k_ => (some k_ ≠ (.slice Ao60 t352.length co60 : Value).ownBlock ∧ (some k_ ≠ (.slice Ao62 t355.length co62 : Value).ownBlock ∧ (some k_ ≠ (.slice Ao9 t316.length co9 : Value).ownBlock ∧ (some k_ ≠ (.slice Ao11 t319.length co11 : Value).ownBlock ∧ (some k_ ≠ (.slice Ao18 t331.length co18 : Value).ownBlock ∧ (some k_ ≠ (.slice Ao23 t339.length co23 : Value).ownBlock ∧ some k_ ≠ (.slice Ao27 t342.length co27 : Value).ownBlock))))))) (n := t328.length) (c := co15) ?_).2.2; exact (by (with_reducible repeat (first | apply Kd.Q_alloc | apply Kd.Q_drewN | apply Kd.Q_drew)); exact (Kd.Q_mono (Kd.Q_far (p := ⟨gb362, 2, none⟩) (Kd.Q_far (p := ⟨gb362, 1, none⟩) (Kd.Q_far (p := ⟨gb362, 0, none⟩) (Kd.Q_types HO_339000.out BK362.out (by decide)) (fun _ hk => hk.2) (.slice Ao60 t352.length co60)) (fun _ hk => hk.2) (.slice Ao62 t355.length co62)) (fun _ hk => hk.2) (.slice Ao64 t358.length co64)) (fun _ h_ => h_.1)))); (case side2 => exact (Kd.Q_reads' HO_339000.out).2.1); (case side3 => refine (Kd.R_reads' (e := 4) (base := w.heap.size) (ok := fun k_ => (some k_ ≠ (.slice Ao60 t352.length co60 : Value).ownBlock ∧ (some k_ ≠ (.slice Ao62 t355.length co62 : Value).ownBlock ∧ (some k_ ≠ (.slice Ao9 t316.length co9 : Value).ownBlock ∧ (some k_ ≠ (.slice Ao11 t319.length co11 : Value).ownBlock ∧ (some k_ ≠ (.slice Ao15 t328.length co15 : Value).ownBlock ∧ (some k_ ≠ (.slice Ao23 t339.length co23 : Value).ownBlock ∧ some k_ ≠ (.slice Ao27 t342.length co27 : Value).ownBlock))))))) (n := t331.length) (c := co18) ?_).2.2; exact (by (with_reducible repeat (first | apply rA | apply rN | apply rD)); exact (rM (rF (p := ⟨gb362, 2, none⟩) (rF (p := ⟨gb362, 1, none⟩) (rF (p := ⟨gb362, 0, none⟩) (rT HO_339001.out BK362.out (by decide)) (fun _ hk => hk.2) (.slice Ao60 t352.length co60)) (fun _ hk => hk.2) (.slice Ao62 t355.length co62)) (fun _ hk => hk.2) (.slice Ao64 t358.length co64)) (fun _ h_ => h_.1)))); (case side4 => exact (Kd.R_reads' HO_339001.out).2.1); (case side5 => refine (Kd.R_reads' (e := 3) (base := w.heap.size) (ok := fun k_ => (some k_ ≠ (.slice Ao64 t358.length co64 : Value).ownBlock ∧ (some k_ ≠ (.slice (some ad351) t322.length co12 : Value).ownBlock ∧ some k_ ≠ (.slice Ao28 t345.length co28 : Value).ownBlock))) (n := t334.length) (c := co19) ?_).2.2; exact (by (with_reducible repeat (first | apply rA | apply rN | apply rD)); exact (rM (rF (p := ⟨gb362, 2, none⟩) (rF (p := ⟨gb362, 1, none⟩) (rF (p := ⟨gb362, 0, none⟩) (rT HO_339002.out BK362.out (by decide)) (fun _ hk => hk.2) (.slice Ao60 t352.length co60)) (fun _ hk => hk.2) (.slice Ao62 t355.length co62)) (fun _ hk => hk.2) (.slice Ao64 t358.length co64)) (fun _ h_ => h_.1)))); (case side6 => exact (Kd.R_reads' HO_339002.out).2.1); rintro e w70 ⟨rfl, hb⟩; refine ⟨_, rfl, ?_⟩; have n0_ := Am (Kd.Q_below (by (with_reducible repeat (first | apply Kd.Q_alloc | apply Kd.Q_drewN | apply Kd.Q_drew)); exact (Kd.Q_mono (Kd.Q_far (p := ⟨gb362, 2, none⟩) (Kd.Q_far (p := ⟨gb362, 1, none⟩) (Kd.Q_far (p := ⟨gb362, 0, none⟩) (Kd.Q_types HO_328000.out BK362.out (by decide)) (fun _ hk => hk.2) (.slice Ao60 t352.length co60)) (fun _ hk => hk.2) (.slice Ao62 t355.length co62)) (fun _ hk => hk.2) (.slice Ao64 t358.length co64)) (fun _ h_ => h_.1))) hb); have n1_ := Am (rB (by (with_reducible repeat (first | apply rA | apply rN | apply rD)); exact (rM (rF (p := ⟨gb362, 2, none⟩) (rF (p := ⟨gb362, 1, none⟩) (rF (p := ⟨gb362, 0, none⟩) (rT HO_328001.out BK362.out (by decide)) (fun _ hk => hk.2) (.slice Ao60 t352.length co60)) (fun _ hk => hk.2) (.slice Ao62 t355.length co62)) (fun _ hk => hk.2) (.slice Ao64 t358.length co64)) (fun _ h_ => h_.1))) hb); have n2_ := Am (rB (by (with_reducible repeat (first | apply rA | apply rN | apply rD)); exact (rM (rF (p := ⟨gb362, 2, none⟩) (rF (p := ⟨gb362, 1, none⟩) (rF (p := ⟨gb362, 0, none⟩) (rT HO_328002.out BK362.out (by decide)) (fun _ hk => hk.2) (.slice Ao60 t352.length co60)) (fun _ hk => hk.2) (.slice Ao62 t355.length co62)) (fun _ hk => hk.2) (.slice Ao64 t358.length co64)) (fun _ h_ => h_.1))) hb); have n3_ := Am (Kd.Q_below (by (with_reducible repeat (first | apply Kd.Q_alloc | apply Kd.Q_drewN | apply Kd.Q_drew)); exact (Kd.Q_mono (Kd.Q_far (p := ⟨gb362, 2, none⟩) (Kd.Q_far (p := ⟨gb362, 1, none⟩) (Kd.Q_far (p := ⟨gb362, 0, none⟩) (Kd.Q_types HO_339000.out BK362.out (by decide)) (fun _ hk => hk.2) (.slice Ao60 t352.length co60)) (fun _ hk => hk.2) (.slice Ao62 t355.length co62)) (fun _ hk => hk.2) (.slice Ao64 t358.length co64)) (fun _ h_ => h_.1))) hb); have n4_ := Am (rB (by (with_reducible repeat (first | apply rA | apply rN | apply rD)); exact (rM (rF (p := ⟨gb362, 2, none⟩) (rF (p := ⟨gb362, 1, none⟩) (rF (p := ⟨gb362, 0, none⟩) (rT HO_339001.out BK362.out (by decide)) (fun _ hk => hk.2) (.slice Ao60 t352.length co60)) (fun _ hk => hk.2) (.slice Ao62 t355.length co62)) (fun _ hk => hk.2) (.slice Ao64 t358.length co64)) (fun _ h_ => h_.1))) hb); have n5_ := Am (rB (by (with_reducible repeat (first | apply rA | apply rN | apply rD)); exact (rM (rF (p := ⟨gb362, 2, none⟩) (rF (p := ⟨gb362, 1, none⟩) (rF (p := ⟨gb362, 0, none⟩) (rT HO_339002.out BK362.out (by decide)) (fun _ hk => hk.2) (.slice Ao60 t352.length co60)) (fun _ hk => hk.2) (.slice Ao62 t355.length co62)) (fun _ hk => hk.2) (.slice Ao64 t358.length co64)) (fun _ h_ => h_.1))) hb); have n6_ := Am (Kd.Q_below (by (with_reducible repeat (first | apply Kd.Q_alloc | apply Kd.Q_drewN | apply Kd.Q_drew)); exact (Kd.Q_mono (Kd.Q_far (p := ⟨gb362, 2, none⟩) (Kd.Q_far (p := ⟨gb362, 1, none⟩) (Kd.Q_far (p := ⟨gb362, 0, none⟩) (Kd.Q_types HO_350000.out BK362.out (by decide)) (fun _ hk => hk.2) (.slice Ao60 t352.length co60)) (fun _ hk => hk.2) (.slice Ao62 t355.length co62)) (fun _ hk => hk.2) (.slice Ao64 t358.length co64)) (fun _ h_ => h_.1))) hb); have n7_ := Am (rB (by (with_reducible repeat (first | apply rA | apply rN | apply rD)); exact (rM (rF (p := ⟨gb362, 2, none⟩) (rF (p := ⟨gb362, 1, none⟩) (rF (p := ⟨gb362, 0, none⟩) (rT HO_350001.out BK362.out (by decide)) (fun _ hk => hk.2) (.slice Ao60 t352.length co60)) (fun _ hk => hk.2) (.slice Ao62 t355.length co62)) (fun _ hk => hk.2) (.slice Ao64 t358.length co64)) (fun _ h_ => h_.1))) hb); have n8_ := Am (rB (by (with_reducible repeat (first | apply rA | apply rN | apply rD)); exact (rM (rF (p := ⟨gb362, 2, none⟩) (rF (p := ⟨gb362, 1, none⟩) (rF (p := ⟨gb362, 0, none⟩) (rT HO_350002.out BK362.out (by decide)) (fun _ hk => hk.2) (.slice Ao60 t352.length co60)) (fun _ hk => hk.2) (.slice Ao62 t355.length co62)) (fun _ hk => hk.2) (.slice Ao64 t358.length co64)) (fun _ h_ => h_.1))) hb); have n9_ := Am (rB (by (with_reducible repeat (first | apply rA | apply rN | apply rD)); exact (rM (rF (p := ⟨gb362, 2, none⟩) (rF (p := ⟨gb362, 1, none⟩) (rF (p := ⟨gb362, 0, none⟩) (rT HO354.out BK362.out (by decide)) (fun _ hk => hk.2) (.slice Ao60 t352.length co60)) (fun _ hk => hk.2) (.slice Ao62 t355.length co62)) (fun _ hk => hk.2) (.slice Ao64 t358.length co64)) (fun _ h_ => h_.1))) hb); have n10_ := Am (rB (by (with_reducible repeat (first | apply rA | apply rN | apply rD)); exact (rM (rF (p := ⟨gb362, 2, none⟩) (rF (p := ⟨gb362, 1, none⟩) (rF (p := ⟨gb362, 0, none⟩) (rT HO357.out BK362.out (by decide)) (fun _ hk => hk.2) (.slice Ao60 t352.length co60)) (fun _ hk => hk.2) (.slice Ao62 t355.length co62)) (fun _ hk => hk.2) (.slice Ao64 t358.length co64)) (fun _ h_ => h_.1))) hb); have n11_ := Am (rB (by (with_reducible repeat (first | apply rA | apply rN | apply rD)); exact (rM (rF (p := ⟨gb362, 2, none⟩) (rF (p := ⟨gb362, 1, none⟩) (rF (p := ⟨gb362, 0, none⟩) (rT HO360.out BK362.out (by decide)) (fun _ hk => hk.2) (.slice Ao60 t352.length co60)) (fun _ hk => hk.2) (.slice Ao62 t355.length co62)) (fun _ hk => hk.2) (.slice Ao64 t358.length co64)) (fun _ h_ => h_.1))) hb); have n12_ := Am (bB (g := gb327) (o := .cells #[.slice Ao9 t316.length co9, .slice Ao11 t319.length co11, .slice (some ad351) t322.length co12] 26 (0, 0)) (by (with_reducible repeat (first | refine bN ?_ _ | refine bD ?_ | refine bA ?_ _)); refine blk_far ?_ NB327_362.out _; (with_reducible repeat (first | refine bN ?_ _ | refine bD ?_ | refine bA ?_ _)); refine blk_far ?_ NB327_362.out _; (with_reducible repeat (first | refine bN ?_ _ | refine bD ?_ | refine bA ?_ _)); refine blk_far ?_ NB327_362.out _; (with_reducible repeat (first | refine bN ?_ _ | refine bD ?_ | refine bA ?_ _)); exact BK327.out) hb); have n13_ := Am (bB (g := gb338) (o := .cells #[.slice Ao15 t328.length co15, .slice Ao18 t331.length co18, .slice Ao19 t334.length co19] 26 (0, 0)) (by (with_reducible repeat (first | refine bN ?_ _ | refine bD ?_ | refine bA ?_ _)); refine blk_far ?_ NB338_362.out _; (with_reducible repeat (first | refine bN ?_ _ | refine bD ?_ | refine bA ?_ _)); refine blk_far ?_ NB338_362.out _; (with_reducible repeat (first | refine bN ?_ _ | refine bD ?_ | refine bA ?_ _)); refine blk_far ?_ NB338_362.out _; (with_reducible repeat (first | refine bN ?_ _ | refine bD ?_ | refine bA ?_ _)); exact BK338.out) hb); have n14_ := Am (bB (g := gb349) (o := .cells #[.slice Ao23 t339.length co23, .slice Ao27 t342.length co27, .slice Ao28 t345.length co28] 26 (0, 0)) (by (with_reducible repeat (first | refine bN ?_ _ | refine bD ?_ | refine bA ?_ _)); refine blk_far ?_ NB349_362.out _; (with_reducible repeat (first | refine bN ?_ _ | refine bD ?_ | refine bA ?_ _)); refine blk_far ?_ NB349_362.out _; (with_reducible repeat (first | refine bN ?_ _ | refine bD ?_ | refine bA ?_ _)); refine blk_far ?_ NB349_362.out _; (with_reducible repeat (first | refine bN ?_ _ | refine bD ?_ | refine bA ?_ _)); exact BK349.out) hb); have n15_ := Am (bB (g := gb362) (o := .cells #[.slice Ao60 t352.length co60, .slice Ao62 t355.length co62, .slice Ao64 t358.length co64] 26 (0, 0)) (by (with_reducible repeat (first | refine bN ?_ _ | refine bD ?_ | refine bA ?_ _)); refine blk_put (cs := #[.slice Ao60 t352.length co60, .slice Ao62 t355.length co62, .slice none 0 0]) ?_ 2 _ rfl; (with_reducible repeat (first | refine bN ?_ _ | refine bD ?_ | refine bA ?_ _)); refine blk_put (cs := #[.slice Ao60 t352.length co60, .slice none 0 0, .slice none 0 0]) ?_ 1 _ rfl; (with_reducible repeat (first | refine bN ?_ _ | refine bD ?_ | refine bA ?_ _)); refine blk_put (cs := #[.slice none 0 0, .slice none 0 0, .slice none 0 0]) ?_ 0 _ rfl; (with_reducible repeat (first | refine bN ?_ _ | refine bD ?_ | refine bA ?_ _)); exact BK362.out) hb); have n16_ := Am (bP (by repeat (first | (with_reducible first | exact HB.out | apply oA | apply pN | apply o1 | refine bS ?_ GE327.out | refine bS ?_ GE338.out | refine bS ?_ GE349.out | refine bS ?_ GE362.out) | exact HB.out)) hb); clear HO_328000; clear HO_328001; clear HO_328002; clear HO_339000; clear HO_339001; clear HO_339002; clear HO_350000; clear HO_350001; clear HO_350002; clear HO354; clear HO357; clear HO360; clear BK327; clear BK338; clear BK349; clear BK362; clear HB; have HO_328000 := n0_; have HO_328001 := n1_; have HO_328002 := n2_; have HO_339000 := n3_; have HO_339001 := n4_; have HO_339002 := n5_; have HO_350000 := n6_; have HO_350001 := n7_; have HO_350002 := n8_; have HO354 := n9_; have HO357 := n10_; have HO360 := n11_; have BK327 := n12_; have BK338 := n13_; have BK349 := n14_; have BK362 := n15_; have HB := n16_; clear n0_ n1_ n2_ n3_ n4_ n5_ n6_ n7_ n8_ n9_ n10_ n11_ n12_ n13_ n14_ n15_ n16_; (try clear hb); (try clear hb2); (try clear hk); (try clear hi); have hcz71_0 : w70.cell? ⟨gb338, 0, none⟩ = some (.slice Ao15 t328.length co15) := (bC BK338.out 0).trans rfl; have hcz71_1 : w70.cell? ⟨gb338, 1, none⟩ = some (.slice Ao18 t331.length co18) := (bC BK338.out 1).trans rfl; have hcz71_2 : w70.cell? ⟨gb338, 2, none⟩ = some (.slice Ao19 t334.length co19) := (bC BK338.out 2).trans rfl; have hfz71_0 := bF BK338.out 0; have hfz71_1 := bF BK338.out 1; have hfz71_2 := bF BK338.out 2; have p364 : 0 ≤ ((ji46) : Int) := of_decide_eq_true (by first | (with_reducible assumption) | assumption); have q364 : (ji46) < (t334.length : Int) := of_decide_eq_true (by first | (with_reducible assumption) | assumption); obtain ⟨ad364, e364, hx364_0⟩ := Kd.at_int (Kd.R_reads' HO_339002.out).2.2 (ji46) p364 q364; cases e364; replace p364 := eq_true p364; replace q364 := eq_true q364; have hnb72 := NB362_327.out; have hnc72 := NB327_362.out; have hnb73 := NB362_349.out; have hnc73 := NB349_362.out; have hcz74_0 : w70.cell? ⟨gb362, 0, none⟩ = some (.slice Ao60 t352.length co60) := (bC BK362.out 0).trans rfl; have hcz74_1 : w70.cell? ⟨gb362, 1, none⟩ = some (.slice Ao62 t355.length co62) := (bC BK362.out 1).trans rfl; have hcz74_2 : w70.cell? ⟨gb362, 2, none⟩ = some (.slice Ao64 t358.length co64) := (bC BK362.out 2).trans rfl; have hfz74_0 := bF BK362.out 0; have hfz74_1 := bF BK362.out 1; have hfz74_2 := bF BK362.out 2; have hnb75 := NB327_349.out; have hnc75 := NB349_327.out; have hcz76_0 : w70.cell? ⟨gb327, 0, none⟩ = some (.slice Ao9 t316.length co9) := (bC BK327.out 0).trans rfl; have hcz76_1 : w70.cell? ⟨gb327, 1, none⟩ = some (.slice Ao11 t319.length co11) := (bC BK327.out 1).trans rfl; have hcz76_2 : w70.cell? ⟨gb327, 2, none⟩ = some (.slice (some ad351) t322.length co12) := (bC BK327.out 2).trans rfl; have hfz76_0 := bF BK327.out 0; have hfz76_1 := bF BK327.out 1; have hfz76_2 := bF BK327.out 2) | (go_at_call 14; (with_reducible refine (laws_qdSigs.calls kj42 _ _ t352 _ _ t355 _ _ t358 _ _ t316 _ _ t319 _ _ t322 t365 _ ?side1 ?side2 ?side3 ?side4 ?side5 ?side6 ?side7 ?side8 ?side9 ?side10 ?side11 ?side12 A55.out).mono ?_); (case side1 => repeat (first | exact (Kd.R_reads' HO354.out).2.2 | (with_reducible refine cA ?_ _) | (with_reducible refine cN ?_ _) | (with_reducible refine cD ?_))); (case side2 => exact (Kd.R_reads' HO354.out).2.1); (case side3 => repeat (first | exact (Kd.R_reads' HO357.out).2.2 | (with_reducible refine cA ?_ _) | (with_reducible refine cN ?_ _) | (with_reducible refine cD ?_))); (case side4 => exact (Kd.R_reads' HO357.out).2.1); (case side5 => repeat (first | exact (Kd.R_reads' HO360.out).2.2 | (with_reducible refine cA ?_ _) | (with_reducible refine cN ?_ _) | (with_reducible refine cD ?_))); (case side6 => exact (Kd.R_reads' HO360.out).2.1); (case side7 => repeat (first | exact (Kd.Q_reads' HO_328000.out).2.2 | (with_reducible refine cA ?_ _) | (with_reducible refine cN ?_ _) | (with_reducible refine cD ?_))); (case side8 => exact (Kd.Q_reads' HO_328000.out).2.1); (case side9 => repeat (first | exact (Kd.R_reads' HO_328001.out).2.2 | (with_reducible refine cA ?_ _) | (with_reducible refine cN ?_ _) | (with_reducible refine cD ?_))); (case side10 => exact (Kd.R_reads' HO_328001.out).2.1); (case side11 => repeat (first | exact (Kd.R_reads' HO_328002.out).2.2 | (with_reducible refine cA ?_ _) | (with_reducible refine cN ?_ _) | (with_reducible refine cD ?_))); (case side12 => exact (Kd.R_reads' HO_328002.out).2.1); rintro e w77 ⟨rfl, hb⟩; have n0_ := Am (Kd.Q_below (by (with_reducible repeat (first | apply Kd.Q_alloc | apply Kd.Q_drewN | apply Kd.Q_drew)); exact HO_328000.out) hb); have n1_ := Am (rB (by (with_reducible repeat (first | apply rA | apply rN | apply rD)); exact HO_328001.out) hb); have n2_ := Am (rB (by (with_reducible repeat (first | apply rA | apply rN | apply rD)); exact HO_328002.out) hb); have n3_ := Am (Kd.Q_below (by (with_reducible repeat (first | apply Kd.Q_alloc | apply Kd.Q_drewN | apply Kd.Q_drew)); exact HO_339000.out) hb); have n4_ := Am (rB (by (with_reducible repeat (first | apply rA | apply rN | apply rD)); exact HO_339001.out) hb); have n5_ := Am (rB (by (with_reducible repeat (first | apply rA | apply rN | apply rD)); exact HO_339002.out) hb); have n6_ := Am (Kd.Q_below (by (with_reducible repeat (first | apply Kd.Q_alloc | apply Kd.Q_drewN | apply Kd.Q_drew)); exact HO_350000.out) hb); have n7_ := Am (rB (by (with_reducible repeat (first | apply rA | apply rN | apply rD)); exact HO_350001.out) hb); have n8_ := Am (rB (by (with_reducible repeat (first | apply rA | apply rN | apply rD)); exact HO_350002.out) hb); have n9_ := Am (rB (by (with_reducible repeat (first | apply rA | apply rN | apply rD)); exact HO354.out) hb); have n10_ := Am (rB (by (with_reducible repeat (first | apply rA | apply rN | apply rD)); exact HO357.out) hb); have n11_ := Am (rB (by (with_reducible repeat (first | apply rA | apply rN | apply rD)); exact HO360.out) hb); have n12_ := Am (bB (g := gb327) (o := .cells #[.slice Ao9 t316.length co9, .slice Ao11 t319.length co11, .slice (some ad351) t322.length co12] 26 (0, 0)) (by (with_reducible repeat (first | refine bN ?_ _ | refine bD ?_ | refine bA ?_ _)); exact BK327.out) hb); have n13_ := Am (bB (g := gb338) (o := .cells #[.slice Ao15 t328.length co15, .slice Ao18 t331.length co18, .slice (some ad364) t334.length co19] 26 (0, 0)) (by (with_reducible repeat (first | refine bN ?_ _ | refine bD ?_ | refine bA ?_ _)); exact BK338.out) hb); have n14_ := Am (bB (g := gb349) (o := .cells #[.slice Ao23 t339.length co23, .slice Ao27 t342.length co27, .slice Ao28 t345.length co28] 26 (0, 0)) (by (with_reducible repeat (first | refine bN ?_ _ | refine bD ?_ | refine bA ?_ _)); exact BK349.out) hb); have n15_ := Am (bB (g := gb362) (o := .cells #[.slice Ao60 t352.length co60, .slice Ao62 t355.length co62, .slice Ao64 t358.length co64] 26 (0, 0)) (by (with_reducible repeat (first | refine bN ?_ _ | refine bD ?_ | refine bA ?_ _)); exact BK362.out) hb); have n16_ := Am (bP (by repeat (first | (with_reducible first | exact HB.out | apply oA | apply pN | apply o1 | refine bS ?_ GE327.out | refine bS ?_ GE338.out | refine bS ?_ GE349.out | refine bS ?_ GE362.out) | exact HB.out)) hb); clear HO_328000; clear HO_328001; clear HO_328002; clear HO_339000; clear HO_339001; clear HO_339002; clear HO_350000; clear HO_350001; clear HO_350002; clear HO354; clear HO357; clear HO360; clear BK327; clear BK338; clear BK349; clear BK362; clear HB; have HO_328000 := n0_; have HO_328001 := n1_; have HO_328002 := n2_; have HO_339000 := n3_; have HO_339001 := n4_; have HO_339002 := n5_; have HO_350000 := n6_; have HO_350001 := n7_; have HO_350002 := n8_; have HO354 := n9_; have HO357 := n10_; have HO360 := n11_; have BK327 := n12_; have BK338 := n13_; have BK349 := n14_; have BK362 := n15_; have HB := n16_; clear n0_ n1_ n2_ n3_ n4_ n5_ n6_ n7_ n8_ n9_ n10_ n11_ n12_ n13_ n14_ n15_ n16_; (try clear hb); (try clear hb2); (try clear hk); (try clear hi)))
             go_ret
             exact ⟨by first | rfl | (simp [errW_none, errW_some] <;> rfl) | (simp only [← hji46]; first | rfl | (simp [errW_none, errW_some] <;> rfl)) | (simp [*, errW_none, errW_some] <;> rfl), by repeat (first | (with_reducible first | exact HB.out | apply oA | apply pN | apply o1 | refine bS ?_ GE327.out | refine bS ?_ GE338.out | refine bS ?_ GE349.out | refine bS ?_ GE362.out) | exact HB.out)⟩
            ·replace c54 := Bool.eq_false_iff.mpr c54
             subst c54
             have H1 : (some false) = some r := by rw [if_neg (show ¬ (false = true) by decide)] at H; exact H
             clear H
             have H := H1
             clear H1
             exact absurd ((Option.some.inj H).trans hT_.out) (by decide)
           ·rw [if_neg c53] at H
            have c53b0 : ((rd t334 (ji46)) == t326) = false := beq_eq_false_iff_ne.mpr c53
            have c53b1 : ((rd t334 (ji46)) != t326) = true := bne_iff_ne.mpr c53
            exact absurd ((Option.some.inj H).trans hT_.out) (by decide)
          ·rw [if_neg c52] at H
           exact absurd H (by simp)
         ·replace c51 := Bool.eq_false_iff.mpr c51
          subst c51
          have H1 : (some false) = some r := by rw [if_neg (show ¬ (false = true) by decide)] at H; exact H
          clear H
          have H := H1
          clear H1
          exact absurd ((Option.some.inj H).trans hT_.out) (by decide)
        ·rw [if_neg c48] at H
         exact absurd H (by simp)
       ·rw [if_neg c47] at H
        exact absurd H (by simp)

/-- THE ONE PURE STATEMENT of laws_FnSigsSet: yours. -/
def laws_FnSigsSet.Pure : Prop := ∀ (l0 : List Int), l0.length ≤ maxLen → l0.length * 1 ≤ 140737488351232 → (∀ x ∈ l0, (Lit.int .u8 x).wf = true) → ∃ k, laws_FnSigsSet.f k l0 = some true
theorem laws_FnSigsSet.walk (P : laws_FnSigsSet.Pure) (a0 : Option Addr) (len0 cap0 : Nat) (z0 : List Int) (w : World) (w0 : (a0 = none ∧ len0 = 0 ∧ cap0 = 0 ∧ z0 = []) ∨ ∃ x, a0 = some x ∧ len0 ≤ cap0 ∧ cap0 ≤ maxLen ∧ z0.length = cap0 ∧ (∀ i, i < z0.length → w.cell? (x.add i) = some (.int .u8 (z0.getD i 0))) ∧ ∀ n ∈ z0, (Lit.int .u8 n).wf = true) (y0 : len0 * 1 ≤ 140737488351232) :
  Calls Try.prog 6 #[.slice a0 len0 cap0] w fun e w' => e = .returned (.bool true) ∧ Below w.heap.size w w' := by
 obtain ⟨l0, rfl, hr0, hm0, hw0, hc0⟩ := ReadsInt.ofRowC w0
 obtain ⟨k, h⟩ := P l0 hm0 y0 hw0
 refine (laws_FnSigsSet.calls k _ _ l0 true w (Kd.C_of_reads (d := (0 : Int)) (h1 := fun _ => rfl) hr0) hc0 h ⟨rfl⟩).mono ?_
 rintro e w' ⟨rfl, hd⟩
 exact ⟨rfl, hd⟩

end Go.Proofs.Ytiifanjjohophaa.PFnSigsSet
