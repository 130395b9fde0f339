/- Proved here, without a condition beyond those that each theorem states: what the Go functions named below do is what the plain functions of the same names say. Written by xprint.py, a program of this session. -/
import Derived.Test.YtiifanjjohophaaPFnSigsBlockx0
import Derived.Test.YtiifanjjohophaaPFnSigsBlockx1
import Derived.Test.YtiifanjjohophaaPFnSigsBlockx2
import Derived.Test.YtiifanjjohophaaPFnSigsBlockx6
import Derived.Test.YtiifanjjohophaaPFnSigsBlockx7
import Derived.Test.YtiifanjjohophaaPFnSigsBlockx10
namespace Go.Proofs.Ytiifanjjohophaa.PFnSigsBlock
open Go.RowKit Go.Proofs.YtiifanjjohophaaW.PrintWords Go.Proofs.YtiifanjjohophaaW.PrintLast Go.Proofs.YtiifanjjohophaaW.PrintMore
attribute [local go_sem] max2_int min2_int max_two min_two max_three min_three max_four min_four   -- for this text's walks alone
set_option linter.unusedVariables false
set_option linter.unusedSimpArgs false

attribute [local go_sem ↓] isSome_setCell_
/-! ### laws_FnSigsBlock: function 7 -/
mutual
def laws_FnSigsBlock.j0 : Nat → List Bool → Bool → Bool → List Bool → List Bool → List Int → List Bool → List Bool → List Int → Option (Bool)
 | 0, _, _, _, _, _, _, _, _, _ => none
 | k + 1, x4, x6, x9, x294000, x294001, x294002, x305000, x305001, x305002 => if x9 = true then (laws_FnSigsBlock.j1 k x4 x9 (!x6) x294000 x294001 x294002 x305000 x305001 x305002) else (laws_FnSigsBlock.j1 k x4 x9 true x294000 x294001 x294002 x305000 x305001 x305002)
def laws_FnSigsBlock.j1 : Nat → List Bool → Bool → Bool → List Bool → List Bool → List Int → List Bool → List Bool → List Int → Option (Bool)
 | 0, _, _, _, _, _, _, _, _, _ => none
 | k + 1, x4, x9, x43, x294000, x294001, x294002, x305000, x305001, x305002 => if x43 = true then (some x9) else ((impl_SigsOk.f k x305000 x305001 x305002).bind fun t317 => (if t317 = true then (if 0 < (x305001.length : Int) then (if rdOf false x305001 0 = true then (some false) else (if 1 < (x305001.length : Int) then (if rdOf false x305001 1 = true then (some false) else (if 2 ≤ (x305001.length : Int) then (if 2 ≤ (x4.length : Int) then ((laws_qdBools.f k (x305001.drop 2) (x4.drop 2)).bind fun t328 => (if t328 = true then ((laws_qdBools.f k x305000 x294000).bind fun t329 => (some t329)) else (some false))) else (none)) else (none))) else (none))) else (none)) else (some false)))
end
def laws_FnSigsBlock.f (k : Nat) (l0 : List Int) : Option (Bool) := if (l0.length : Int) > 1048576 then (some true) else ((spec_DrawSigsBlock.f k l0).bind fun bt281 => ((impl_SigsBlock.f k bt281.1 bt281.2.1 bt281.2.2.1 bt281.2.2.2).bind fun bt294 => ((spec_SigsBlock.f k bt281.1 bt281.2.1 bt281.2.2.1 bt281.2.2.2).bind fun bt305 => ((laws_qdSigs.f k bt294.1 bt294.2.1 bt294.2.2.1 bt305.1 bt305.2.1 bt305.2.2.1).bind fun t316 => (if t316 = true then (laws_FnSigsBlock.j0 k bt281.2.2.2 bt294.2.2.2 (bt294.2.2.2 == bt305.2.2.2) bt281.1 bt281.2.1 bt281.2.2.1 bt294.1 bt294.2.1 bt294.2.2.1) else (laws_FnSigsBlock.j0 k bt281.2.2.2 bt294.2.2.2 false bt281.1 bt281.2.1 bt281.2.2.1 bt294.1 bt294.2.1 bt294.2.2.1))))))
theorem laws_FnSigsBlock.mono_l : ∀ k, (∀ y0 y1 y2 y3 y4 y5 y6 y7 y8, LeO (laws_FnSigsBlock.j0 k y0 y1 y2 y3 y4 y5 y6 y7 y8) (laws_FnSigsBlock.j0 (k + 1) y0 y1 y2 y3 y4 y5 y6 y7 y8)) ∧ (∀ y0 y1 y2 y3 y4 y5 y6 y7 y8, LeO (laws_FnSigsBlock.j1 k y0 y1 y2 y3 y4 y5 y6 y7 y8) (laws_FnSigsBlock.j1 (k + 1) y0 y1 y2 y3 y4 y5 y6 y7 y8))
 | 0 => ⟨fun _ _ _ _ _ _ _ _ _ r h => by simp [laws_FnSigsBlock.j0] at h, fun _ _ _ _ _ _ _ _ _ r h => by simp [laws_FnSigsBlock.j1] at h⟩
 | k + 1 => by
  obtain ⟨ih0, ih1⟩ := laws_FnSigsBlock.mono_l k
  refine ⟨?_, ?_⟩
  ·intro y0 y1 y2 y3 y4 y5 y6 y7 y8
   unfold laws_FnSigsBlock.j0
   repeat' first
   | (with_reducible exact ih0 _ _ _ _ _ _ _ _ _)
   | (with_reducible exact ih1 _ _ _ _ _ _ _ _ _)
   | (with_reducible exact impl_SigsBlock.mono _ _ _ _ _)
   | (with_reducible exact impl_SigsOk.mono _ _ _ _)
   | (with_reducible exact laws_qdBools.mono _ _ _)
   | (with_reducible exact laws_qdSigs.mono _ _ _ _ _ _ _)
   | (with_reducible exact spec_DrawSigsBlock.mono _ _)
   | (with_reducible exact spec_SigsBlock.mono _ _ _ _ _)
   | (with_reducible exact LeO.refl _)
   | (with_reducible exact LeO.none _)
   | (with_reducible refine LeO.ite ?_ ?_)
   | (with_reducible refine LeO.bind ?_ (fun _ => ?_))
   | exact ih0 _ _ _ _ _ _ _ _ _
   | exact ih1 _ _ _ _ _ _ _ _ _
   | exact impl_SigsBlock.mono _ _ _ _ _
   | exact impl_SigsOk.mono _ _ _ _
   | exact laws_qdBools.mono _ _ _
   | exact laws_qdSigs.mono _ _ _ _ _ _ _
   | exact spec_DrawSigsBlock.mono _ _
   | exact spec_SigsBlock.mono _ _ _ _ _
   | exact LeO.none _
   | refine LeO.ite ?_ ?_
   | refine LeO.bind ?_ (fun _ => ?_)
  ·intro y0 y1 y2 y3 y4 y5 y6 y7 y8
   unfold laws_FnSigsBlock.j1
   repeat' first
   | (with_reducible exact ih0 _ _ _ _ _ _ _ _ _)
   | (with_reducible exact ih1 _ _ _ _ _ _ _ _ _)
   | (with_reducible exact impl_SigsBlock.mono _ _ _ _ _)
   | (with_reducible exact impl_SigsOk.mono _ _ _ _)
   | (with_reducible exact laws_qdBools.mono _ _ _)
   | (with_reducible exact laws_qdSigs.mono _ _ _ _ _ _ _)
   | (with_reducible exact spec_DrawSigsBlock.mono _ _)
   | (with_reducible exact spec_SigsBlock.mono _ _ _ _ _)
   | (with_reducible exact LeO.refl _)
   | (with_reducible exact LeO.none _)
   | (with_reducible refine LeO.ite ?_ ?_)
   | (with_reducible refine LeO.bind ?_ (fun _ => ?_))
   | exact ih0 _ _ _ _ _ _ _ _ _
   | exact ih1 _ _ _ _ _ _ _ _ _
   | exact impl_SigsBlock.mono _ _ _ _ _
   | exact impl_SigsOk.mono _ _ _ _
   | exact laws_qdBools.mono _ _ _
   | exact laws_qdSigs.mono _ _ _ _ _ _ _
   | exact spec_DrawSigsBlock.mono _ _
   | exact spec_SigsBlock.mono _ _ _ _ _
   | exact LeO.none _
   | refine LeO.ite ?_ ?_
   | refine LeO.bind ?_ (fun _ => ?_)
theorem laws_FnSigsBlock.mono : ∀ a0 k, LeO (laws_FnSigsBlock.f k a0) (laws_FnSigsBlock.f (k + 1) a0) := by
 intro a0 k
 obtain ⟨ih0, ih1⟩ := laws_FnSigsBlock.mono_l k
 unfold laws_FnSigsBlock.f
 repeat' first
   | (with_reducible exact ih0 _ _ _ _ _ _ _ _ _)
   | (with_reducible exact ih1 _ _ _ _ _ _ _ _ _)
   | (with_reducible exact impl_SigsBlock.mono _ _ _ _ _)
   | (with_reducible exact impl_SigsOk.mono _ _ _ _)
   | (with_reducible exact laws_qdBools.mono _ _ _)
   | (with_reducible exact laws_qdSigs.mono _ _ _ _ _ _ _)
   | (with_reducible exact spec_DrawSigsBlock.mono _ _)
   | (with_reducible exact spec_SigsBlock.mono _ _ _ _ _)
   | (with_reducible exact LeO.refl _)
   | (with_reducible exact LeO.none _)
   | (with_reducible refine LeO.ite ?_ ?_)
   | (with_reducible refine LeO.bind ?_ (fun _ => ?_))
   | exact ih0 _ _ _ _ _ _ _ _ _
   | exact ih1 _ _ _ _ _ _ _ _ _
   | exact impl_SigsBlock.mono _ _ _ _ _
   | exact impl_SigsOk.mono _ _ _ _
   | exact laws_qdBools.mono _ _ _
   | exact laws_qdSigs.mono _ _ _ _ _ _ _
   | exact spec_DrawSigsBlock.mono _ _
   | exact spec_SigsBlock.mono _ _ _ _ _
   | exact LeO.none _
   | refine LeO.ite ?_ ?_
   | refine LeO.bind ?_ (fun _ => ?_)
def laws_FnSigsBlock.T9 : Bool × List (List Nat × List Nat) := (true, [([], []), ([0], [0]), ([1, 1], [1]), ([2], [2]), ([3, 2], [2, 3]), ([4, 2], [2, 4]), ([5, 2], [2, 5]), ([6, 2], [2, 6]), ([2, 7], [2, 7]), ([8, 2], [8]), ([9], [9]), ([10, 9], [9, 10]), ([11, 9], [9, 11]), ([12, 9], [9, 12]), ([13, 9], [9, 13]), ([9, 14], [9, 14]), ([15, 9], [15]), ([16], [16]), ([17, 16], [16, 17]), ([18, 16], [16, 18]), ([16], [16]), ([20, 16], [16, 20]), ([19, 21, 16, 16], [16, 19, 21]), ([16, 22], [16, 22]), ([23, 22], [23]), ([24], [24]), ([25, 24], [24, 25]), ([24], [24]), ([27, 24], [24, 27]), ([26, 28, 24, 24], [24, 26, 28]), ([24, 29], [24, 29]), ([30, 29, 0, 1, 2, 3, 4, 5, 6, 7, 8, 9, 10, 11, 12, 13, 14, 15, 16, 17, 18, 19, 20, 21, 22, 23, 24, 25, 26, 27, 28, 29, 30], [30])])
def laws_FnSigsBlock.B9 : List Nat := [0, 1, 3, 7, 15, 31, 63, 127, 255, 511, 1023, 2047, 4095, 8191, 16383, 32767, 65535, 131071, 262143, 524287, 131071, 1179647, 4194303, 8388607, 16777215, 33554431, 67108863, 33554431, 167772159, 536870911, 1073741823, 2147483647]
theorem laws_FnSigsBlock.tab9 : rtab .any (opsOf Try.f7 9) = laws_FnSigsBlock.T9 := by kernel_rfl
theorem laws_FnSigsBlock.bits9 : waitsOk laws_FnSigsBlock.T9.2 laws_FnSigsBlock.B9 = true := by kernel_rfl
abbrev laws_FnSigsBlock.q0 : Array Bool := #[false, false, false, false, false, false, false, false, false, false, false, false, false, false, false, false, false, false, false, false, false, false, false, false, false, false, false, false, false, false, false, false]
abbrev laws_FnSigsBlock.q1 : Array Bool := #[true, false, false, false, false, false, false, false, false, false, false, false, false, false, false, false, false, false, false, false, false, false, false, false, false, false, false, false, false, false, false, false]
abbrev laws_FnSigsBlock.q2 : Array Bool := #[true, true, false, false, false, false, false, false, false, false, false, false, false, false, false, false, false, false, false, false, false, false, false, false, false, false, false, false, false, false, false, false]
abbrev laws_FnSigsBlock.q3 : Array Bool := #[true, true, true, false, false, false, false, false, false, false, false, false, false, false, false, false, false, false, false, false, false, false, false, false, false, false, false, false, false, false, false, false]
abbrev laws_FnSigsBlock.q4 : Array Bool := #[true, true, true, true, false, false, false, false, false, false, false, false, false, false, false, false, false, false, false, false, false, false, false, false, false, false, false, false, false, false, false, false]
abbrev laws_FnSigsBlock.q5 : Array Bool := #[true, true, true, true, true, false, false, false, false, false, false, false, false, false, false, false, false, false, false, false, false, false, false, false, false, false, false, false, false, false, false, false]
abbrev laws_FnSigsBlock.q6 : Array Bool := #[true, true, true, true, true, true, false, false, false, false, false, false, false, false, false, false, false, false, false, false, false, false, false, false, false, false, false, false, false, false, false, false]
abbrev laws_FnSigsBlock.q7 : Array Bool := #[true, true, true, true, true, true, true, false, false, false, false, false, false, false, false, false, false, false, false, false, false, false, false, false, false, false, false, false, false, false, false, false]
abbrev laws_FnSigsBlock.q8 : Array Bool := #[true, true, true, true, true, true, true, true, false, false, false, false, false, false, false, false, false, false, false, false, false, false, false, false, false, false, false, false, false, false, false, false]
abbrev laws_FnSigsBlock.q9 : Array Bool := #[true, true, true, true, true, true, true, true, true, false, false, false, false, false, false, false, false, false, false, false, false, false, false, false, false, false, false, false, false, false, false, false]
abbrev laws_FnSigsBlock.q10 : Array Bool := #[true, true, true, true, true, true, true, true, true, true, false, false, false, false, false, false, false, false, false, false, false, false, false, false, false, false, false, false, false, false, false, false]
abbrev laws_FnSigsBlock.q11 : Array Bool := #[true, true, true, true, true, true, true, true, true, true, true, false, false, false, false, false, false, false, false, false, false, false, false, false, false, false, false, false, false, false, false, false]
abbrev laws_FnSigsBlock.q12 : Array Bool := #[true, true, true, true, true, true, true, true, true, true, true, true, false, false, false, false, false, false, false, false, false, false, false, false, false, false, false, false, false, false, false, false]
abbrev laws_FnSigsBlock.q13 : Array Bool := #[true, true, true, true, true, true, true, true, true, true, true, true, true, false, false, false, false, false, false, false, false, false, false, false, false, false, false, false, false, false, false, false]
abbrev laws_FnSigsBlock.q14 : Array Bool := #[true, true, true, true, true, true, true, true, true, true, true, true, true, true, false, false, false, false, false, false, false, false, false, false, false, false, false, false, false, false, false, false]
abbrev laws_FnSigsBlock.q15 : Array Bool := #[true, true, true, true, true, true, true, true, true, true, true, true, true, true, true, false, false, false, false, false, false, false, false, false, false, false, false, false, false, false, false, false]
abbrev laws_FnSigsBlock.q16 : Array Bool := #[true, true, true, true, true, true, true, true, true, true, true, true, true, true, true, true, false, false, false, false, false, false, false, false, false, false, false, false, false, false, false, false]
abbrev laws_FnSigsBlock.q17 : Array Bool := #[true, true, true, true, true, true, true, true, true, true, true, true, true, true, true, true, true, false, false, false, false, false, false, false, false, false, false, false, false, false, false, false]
abbrev laws_FnSigsBlock.q18 : Array Bool := #[true, true, true, true, true, true, true, true, true, true, true, true, true, true, true, true, true, true, false, false, false, false, false, false, false, false, false, false, false, false, false, false]
abbrev laws_FnSigsBlock.q19 : Array Bool := #[true, true, true, true, true, true, true, true, true, true, true, true, true, true, true, true, true, true, false, false, true, false, false, false, false, false, false, false, false, false, false, false]
abbrev laws_FnSigsBlock.q20 : Array Bool := #[true, true, true, true, true, true, true, true, true, true, true, true, true, true, true, true, true, true, false, false, true, true, false, false, false, false, false, false, false, false, false, false]
abbrev laws_FnSigsBlock.q21 : Array Bool := #[true, true, true, true, true, true, true, true, true, true, true, true, true, true, true, true, true, true, true, false, true, true, false, false, false, false, false, false, false, false, false, false]
abbrev laws_FnSigsBlock.q22 : Array Bool := #[true, true, true, true, true, true, true, true, true, true, true, true, true, true, true, true, true, true, true, true, true, true, false, false, false, false, false, false, false, false, false, false]
abbrev laws_FnSigsBlock.q23 : Array Bool := #[true, true, true, true, true, true, true, true, true, true, true, true, true, true, true, true, true, true, true, true, true, true, true, false, false, false, false, false, false, false, false, false]
abbrev laws_FnSigsBlock.q24 : Array Bool := #[true, true, true, true, true, true, true, true, true, true, true, true, true, true, true, true, true, true, true, true, true, true, true, true, false, false, false, false, false, false, false, false]
abbrev laws_FnSigsBlock.q25 : Array Bool := #[true, true, true, true, true, true, true, true, true, true, true, true, true, true, true, true, true, true, true, true, true, true, true, true, true, false, false, false, false, false, false, false]
abbrev laws_FnSigsBlock.q26 : Array Bool := #[true, true, true, true, true, true, true, true, true, true, true, true, true, true, true, true, true, true, true, true, true, true, true, true, true, true, false, false, false, false, false, false]
abbrev laws_FnSigsBlock.q27 : Array Bool := #[true, true, true, true, true, true, true, true, true, true, true, true, true, true, true, true, true, true, true, true, true, true, true, true, true, true, false, true, false, false, false, false]
abbrev laws_FnSigsBlock.q28 : Array Bool := #[true, true, true, true, true, true, true, true, true, true, true, true, true, true, true, true, true, true, true, true, true, true, true, true, true, true, true, true, false, false, false, false]
abbrev laws_FnSigsBlock.q29 : Array Bool := #[true, true, true, true, true, true, true, true, true, true, true, true, true, true, true, true, true, true, true, true, true, true, true, true, true, true, true, true, true, false, false, false]
abbrev laws_FnSigsBlock.q30 : Array Bool := #[true, true, true, true, true, true, true, true, true, true, true, true, true, true, true, true, true, true, true, true, true, true, true, true, true, true, true, true, true, true, false, false]
abbrev laws_FnSigsBlock.q31 : Array Bool := #[true, true, true, true, true, true, true, true, true, true, true, true, true, true, true, true, true, true, true, true, true, true, true, true, true, true, true, true, true, true, true, false]
abbrev laws_FnSigsBlock.q32 : Array Bool := #[true, true, true, true, true, true, true, true, true, true, true, true, true, true, true, true, true, true, true, true, true, true, true, true, true, true, true, true, true, true, true, true]
set_option maxHeartbeats 2000000 in
set_option maxRecDepth 100000 in
theorem laws_FnSigsBlock.calls (k : Nat) (A0 : Option Addr) (c0 : Nat) (l0 : List Int) (r : Bool) (w : World) (hr0 : Kd.C (Kd.int .u8) w A0 l0.length l0) (hc0 : l0.length ≤ c0) (h : laws_FnSigsBlock.f k l0 = some r) (hT_ : Aside0 (r = true)) :
  Calls Try.prog 7 #[.slice A0 l0.length c0] w fun e w' => e = .returned (.bool r) ∧ Below w.heap.size w w' := by
 have hu26 := Try.underlying26
 have HR0 := Am hr0
 have HC0 := Am hc0
 clear hr0 hc0
 have HB := Am (Below.refl w.heap.size w)
 have H : (if (l0.length : Int) > 1048576 then (some true) else ((spec_DrawSigsBlock.f k l0).bind fun bt281 => ((impl_SigsBlock.f k bt281.1 bt281.2.1 bt281.2.2.1 bt281.2.2.2).bind fun bt294 => ((spec_SigsBlock.f k bt281.1 bt281.2.1 bt281.2.2.1 bt281.2.2.2).bind fun bt305 => ((laws_qdSigs.f k bt294.1 bt294.2.1 bt294.2.2.1 bt305.1 bt305.2.1 bt305.2.2.1).bind fun t316 => (if t316 = true then (laws_FnSigsBlock.j0 k bt281.2.2.2 bt294.2.2.2 (bt294.2.2.2 == bt305.2.2.2) bt281.1 bt281.2.1 bt281.2.2.1 bt294.1 bt294.2.1 bt294.2.2.1) else (laws_FnSigsBlock.j0 k bt281.2.2.2 bt294.2.2.2 false bt281.1 bt281.2.1 bt281.2.2.1 bt294.1 bt294.2.1 bt294.2.2.1))))))) = some r := h
 clear h
 by_cases c2 : (l0.length : Int) > 1048576
 ·rw [if_pos c2] at H
  have c2b0 : decide (1048576 < (l0.length : Int)) = true := decide_eq_true c2
  have c2b1 : decide (1048576 < l0.length) = true := decide_eq_true (by omega)
  clear c2
  obtain rfl := Option.some.inj H
  go_enter Try.func7, Try.ntmps7
  go_wp2
  go_ret
  exact ⟨by first | rfl | (simp [errW_none, errW_some] <;> rfl) | (simp [*, errW_none, errW_some] <;> rfl), by repeat (first | (with_reducible first | exact HB.out | apply oA | apply pN | apply o1) | exact HB.out)⟩
 ·rw [if_neg c2] at H
  have c2b0 : decide (1048576 < (l0.length : Int)) = false := decide_eq_false c2
  have c2b1 : decide (1048576 < l0.length) = false := decide_eq_false (by omega)
  clear c2
  replace H := Option.bind_eq_some_iff.mp H
  obtain ⟨⟨t281, t284, t287, t290⟩, A30, H⟩ := H
  replace H : ((impl_SigsBlock.f k t281 t284 t287 t290).bind fun bt294 => ((spec_SigsBlock.f k t281 t284 t287 t290).bind fun bt305 => ((laws_qdSigs.f k bt294.1 bt294.2.1 bt294.2.2.1 bt305.1 bt305.2.1 bt305.2.2.1).bind fun t316 => (if t316 = true then (laws_FnSigsBlock.j0 k t290 bt294.2.2.2 (bt294.2.2.2 == bt305.2.2.2) t281 t284 t287 bt294.1 bt294.2.1 bt294.2.2.1) else (laws_FnSigsBlock.j0 k t290 bt294.2.2.2 false t281 t284 t287 bt294.1 bt294.2.1 bt294.2.2.1))))) = some r := H
  have A3 := Am A30
  clear A30
  replace H := Option.bind_eq_some_iff.mp H
  obtain ⟨⟨t294, t297, t300, t303⟩, A40, H⟩ := H
  replace H : ((spec_SigsBlock.f k t281 t284 t287 t290).bind fun bt305 => ((laws_qdSigs.f k t294 t297 t300 bt305.1 bt305.2.1 bt305.2.2.1).bind fun t316 => (if t316 = true then (laws_FnSigsBlock.j0 k t290 t303 (t303 == bt305.2.2.2) t281 t284 t287 t294 t297 t300) else (laws_FnSigsBlock.j0 k t290 t303 false t281 t284 t287 t294 t297 t300)))) = some r := H
  have A4 := Am A40
  clear A40
  replace H := Option.bind_eq_some_iff.mp H
  obtain ⟨⟨t305, t308, t311, t314⟩, A50, H⟩ := H
  replace H : ((laws_qdSigs.f k t294 t297 t300 t305 t308 t311).bind fun t316 => (if t316 = true then (laws_FnSigsBlock.j0 k t290 t303 (t303 == t314) t281 t284 t287 t294 t297 t300) else (laws_FnSigsBlock.j0 k t290 t303 false t281 t284 t287 t294 t297 t300))) = some r := H
  have A5 := Am A50
  clear A50
  have HC6 := Am H
  clear H
  go_enter Try.func7, Try.ntmps7
  go_upto_region 6 with (first | ((with_reducible refine gate_callee (f := 27) rfl ?_); refine goesL_ (some 15) rfl rfl Try.func27 (by kernel_rfl) rfl #[.slice A0 l0.length c0] rfl (by (try simp only [lM, lC, lN]); first | done | rfl | (simp only [lD, lT]; rfl)) ?_; (with_reducible refine (spec_DrawSigsBlock.calls k _ _ l0 t281 t284 t287 t290 _ ?side1 ?side2 A3.out).mono ?_); (case side1 => repeat (first | exact HR0.out | (with_reducible refine cA ?_ _) | (with_reducible refine cN ?_ _) | (with_reducible refine cD ?_))); (case side2 => exact HC0.out); rintro e w7 ⟨v282, v285, v288, v291, rfl, ho0, ho1, ho2, ho3, hb⟩; refine ⟨_, rfl, ?_⟩; have n0_ := Am (Kd.Q_lower ho0 (bZ (by repeat (first | (with_reducible first | exact HB.out | apply oA | apply pN | apply o1) | exact HB.out)))); have n1_ := Am (Kd.R_lower ho1 (bZ (by repeat (first | (with_reducible first | exact HB.out | apply oA | apply pN | apply o1) | exact HB.out)))); have n2_ := Am (Kd.R_lower ho2 (bZ (by repeat (first | (with_reducible first | exact HB.out | apply oA | apply pN | apply o1) | exact HB.out)))); have n3_ := Am (Kd.R_lower ho3 (bZ (by repeat (first | (with_reducible first | exact HB.out | apply oA | apply pN | apply o1) | exact HB.out)))); have n4_ := Am (bP (by repeat (first | (with_reducible first | exact HB.out | apply oA | apply pN | apply o1) | exact HB.out)) hb); clear HB; have HO283 := n0_; have HO286 := n1_; have HO289 := n2_; have HO292 := n3_; have HB := n4_; clear n0_ n1_ n2_ n3_ n4_; (try clear hb); (try clear hb2); (try clear hk); (try clear hi); (try clear ho0); (try clear ho1); (try clear ho2); (try clear ho3)) | ((with_reducible refine gate_dst (N := 3) rfl ?_); refine box_event ?hg (N := 3) ?hd (cs := #[.slice none 0 0, .slice none 0 0, .slice none 0 0]) (t := 26) ?hr ?_; (case hd => rfl); (case hg => rfl); (case hr => first | (go_simp; done) | (go_simp; rfl)); intro gb293 hg w8 hbox hb; have n0_ := Am (Kd.Q_below (by (with_reducible repeat (first | apply Kd.Q_alloc | apply Kd.Q_drewN | apply Kd.Q_drew)); exact HO283.out) hb); have n1_ := Am (rB (by (with_reducible repeat (first | apply rA | apply rN | apply rD)); exact HO286.out) hb); have n2_ := Am (rB (by (with_reducible repeat (first | apply rA | apply rN | apply rD)); exact HO289.out) hb); have n3_ := Am (rB (by (with_reducible repeat (first | apply rA | apply rN | apply rD)); exact HO292.out) hb); have n4_ := Am (bP (by repeat (first | (with_reducible first | exact HB.out | apply oA | apply pN | apply o1) | exact HB.out)) hb); have n5_ := Am (hbox); have n6_ := Am ((by rw [hg]; exact (bZ (by repeat (first | (with_reducible first | exact HB.out | apply oA | apply pN | apply o1) | exact HB.out))) : w.heap.size ≤ gb293)); have n7_ := Am ((by rw [hg]; exact (bZ (by repeat (first | (with_reducible first | exact HB.out | apply oA | apply pN | apply o1) | exact HB.out))) : w.heap.size ≤ gb293)); clear HO283; clear HO286; clear HO289; clear HO292; clear HB; have HO283 := n0_; have HO286 := n1_; have HO289 := n2_; have HO292 := n3_; have HB := n4_; have BK293 := n5_; have GW293 := n6_; have GE293 := n7_; clear n0_ n1_ n2_ n3_ n4_ n5_ n6_ n7_; clear hb hbox hg; obtain ⟨Ao9, co9, eo9, _⟩ := Kd.Q_slice HO283.out; subst eo9; have hcz10_0 : w8.cell? ⟨gb293, 0, none⟩ = some (.slice none 0 0) := (bC BK293.out 0).trans rfl; have hcz10_1 : w8.cell? ⟨gb293, 1, none⟩ = some (.slice none 0 0) := (bC BK293.out 1).trans rfl; have hcz10_2 : w8.cell? ⟨gb293, 2, none⟩ = some (.slice none 0 0) := (bC BK293.out 2).trans rfl; have hfz10_0 := bF BK293.out 0; have hfz10_1 := bF BK293.out 1; have hfz10_2 := bF BK293.out 2; obtain ⟨Ao11, co11, eo11⟩ := Kd.R_slice HO286.out; subst eo11; obtain ⟨Ao12, co12, eo12⟩ := Kd.R_slice HO289.out; subst eo12; obtain ⟨Ao13, co13, eo13⟩ := Kd.R_slice HO292.out; subst eo13) | ((with_reducible refine gate_callee (f := 28) rfl ?_); refine goesL_ (some 21) rfl rfl Try.func28 (by kernel_rfl) rfl #[.agg #[.slice Ao9 t281.length co9, .slice Ao11 t284.length co11, .slice Ao12 t287.length co12], .slice Ao13 t290.length co13] rfl (by (try simp only [lM, lC, lN]); first | done | rfl | (simp only [lD, lT]; rfl)) ?_; (with_reducible refine (impl_SigsBlock.calls k _ _ t281 _ _ t284 _ _ t287 _ _ t290 t294 t297 t300 t303 _ ?side1 ?side2 ?side3 ?side4 ?side5 ?side6 ?side7 ?side8 A4.out).mono ?_); (case side1 => refine (Kd.Q_reads' (e := 4) (base := w.heap.size) (ok := fun k_ => (some k_ ≠ (.slice Ao11 t284.length co11 : Value).ownBlock ∧ some k_ ≠ (.slice Ao13 t290.length co13 : Value).ownBlock)) (n := t281.length) (c := co9) ?_).2.2; exact (by (with_reducible repeat (first | apply Kd.Q_alloc | apply Kd.Q_drewN | apply Kd.Q_drew)); exact (Kd.Q_mono (Kd.Q_far (p := ⟨gb293, 2, none⟩) (Kd.Q_far (p := ⟨gb293, 1, none⟩) (Kd.Q_far (p := ⟨gb293, 0, none⟩) (Kd.Q_types HO283.out BK293.out (by decide)) (fun _ hk => hk.2) (.slice Ao9 t281.length co9)) (fun _ hk => hk.2) (.slice Ao11 t284.length co11)) (fun _ hk => hk.2) (.slice Ao12 t287.length co12)) (fun _ h_ => h_.1)))); (case side2 => exact (Kd.Q_reads' HO283.out).2.1); (case side3 => refine (Kd.R_reads' (e := 4) (base := w.heap.size) (ok := fun k_ => (some k_ ≠ (.slice Ao9 t281.length co9 : Value).ownBlock ∧ some k_ ≠ (.slice Ao13 t290.length co13 : Value).ownBlock)) (n := t284.length) (c := co11) ?_).2.2; exact (by (with_reducible repeat (first | apply rA | apply rN | apply rD)); exact (rM (rF (p := ⟨gb293, 2, none⟩) (rF (p := ⟨gb293, 1, none⟩) (rF (p := ⟨gb293, 0, none⟩) (rT HO286.out BK293.out (by decide)) (fun _ hk => hk.2) (.slice Ao9 t281.length co9)) (fun _ hk => hk.2) (.slice Ao11 t284.length co11)) (fun _ hk => hk.2) (.slice Ao12 t287.length co12)) (fun _ h_ => h_.1)))); (case side4 => exact (Kd.R_reads' HO286.out).2.1); (case side5 => refine (Kd.R_reads' (e := 3) (base := w.heap.size) (ok := fun k_ => True) (n := t287.length) (c := co12) ?_).2.2; exact (by (with_reducible repeat (first | apply rA | apply rN | apply rD)); exact (rM (rF (p := ⟨gb293, 2, none⟩) (rF (p := ⟨gb293, 1, none⟩) (rF (p := ⟨gb293, 0, none⟩) (rT HO289.out BK293.out (by decide)) (fun _ hk => hk.2) (.slice Ao9 t281.length co9)) (fun _ hk => hk.2) (.slice Ao11 t284.length co11)) (fun _ hk => hk.2) (.slice Ao12 t287.length co12)) (fun _ h_ => h_.1)))); (case side6 => exact (Kd.R_reads' HO289.out).2.1); (case side7 => refine (Kd.R_reads' (e := 4) (base := w.heap.size) (ok := fun k_ => (some k_ ≠ (.slice Ao9 t281.length co9 : Value).ownBlock ∧ some k_ ≠ (.slice Ao11 t284.length co11 : Value).ownBlock)) (n := t290.length) (c := co13) ?_).2.2; exact (by (with_reducible repeat (first | apply rA | apply rN | apply rD)); exact (rM (rF (p := ⟨gb293, 2, none⟩) (rF (p := ⟨gb293, 1, none⟩) (rF (p := ⟨gb293, 0, none⟩) (rT HO292.out BK293.out (by decide)) (fun _ hk => hk.2) (.slice Ao9 t281.length co9)) (fun _ hk => hk.2) (.slice Ao11 t284.length co11)) (fun _ hk => hk.2) (.slice Ao12 t287.length co12)) (fun _ h_ => h_.1)))); (case side8 => exact (Kd.R_reads' HO292.out).2.1); rintro e w14 ⟨v295, v298, v301, rfl, ho0, ho1, ho2, hb⟩; refine ⟨_, rfl, ?_⟩; have n0_ := Am (Kd.Q_mono (Kd.Q_told (Kd.Q_told (Kd.Q_old (by (with_reducible repeat (first | apply Kd.Q_alloc | apply Kd.Q_drewN | apply Kd.Q_drew)); exact (Kd.Q_mono (Kd.Q_far (p := ⟨gb293, 2, none⟩) (Kd.Q_far (p := ⟨gb293, 1, none⟩) (Kd.Q_far (p := ⟨gb293, 0, none⟩) (Kd.Q_types HO283.out BK293.out (by decide)) (fun _ hk => hk.2) (.slice Ao9 t281.length co9)) (fun _ hk => hk.2) (.slice Ao11 t284.length co11)) (fun _ hk => hk.2) (.slice Ao12 t287.length co12)) (fun _ h_ => h_.1))) hb) (Kd.R_base ho0)) (Kd.R_base ho1)) (fun _ h_ => h_.1)); have n1_ := Am (rM (Kd.R_told (Kd.R_told (Kd.R_old (by (with_reducible repeat (first | apply rA | apply rN | apply rD)); exact (rM (rF (p := ⟨gb293, 2, none⟩) (rF (p := ⟨gb293, 1, none⟩) (rF (p := ⟨gb293, 0, none⟩) (rT HO286.out BK293.out (by decide)) (fun _ hk => hk.2) (.slice Ao9 t281.length co9)) (fun _ hk => hk.2) (.slice Ao11 t284.length co11)) (fun _ hk => hk.2) (.slice Ao12 t287.length co12)) (fun _ h_ => h_.1))) hb) (Kd.R_base ho0)) (Kd.R_base ho1)) (fun _ h_ => h_.1)); have n2_ := Am (Kd.R_elder' (by (with_reducible repeat (first | apply rA | apply rN | apply rD)); exact (rM (rF (p := ⟨gb293, 2, none⟩) (rF (p := ⟨gb293, 1, none⟩) (rF (p := ⟨gb293, 0, none⟩) (rT HO289.out BK293.out (by decide)) (fun _ hk => hk.2) (.slice Ao9 t281.length co9)) (fun _ hk => hk.2) (.slice Ao11 t284.length co11)) (fun _ hk => hk.2) (.slice Ao12 t287.length co12)) (fun _ h_ => h_.1))) (Kd.R_base ho2) hb); have n3_ := Am (rM (Kd.R_told (Kd.R_told (Kd.R_old (by (with_reducible repeat (first | apply rA | apply rN | apply rD)); exact (rM (rF (p := ⟨gb293, 2, none⟩) (rF (p := ⟨gb293, 1, none⟩) (rF (p := ⟨gb293, 0, none⟩) (rT HO292.out BK293.out (by decide)) (fun _ hk => hk.2) (.slice Ao9 t281.length co9)) (fun _ hk => hk.2) (.slice Ao11 t284.length co11)) (fun _ hk => hk.2) (.slice Ao12 t287.length co12)) (fun _ h_ => h_.1))) hb) (Kd.R_base ho0)) (Kd.R_base ho1)) (fun _ h_ => h_.1)); have n4_ := Am (Kd.R_lower (Kd.R_new' (Kd.R_new' (Kd.R_new' ho0 (Kd.Q_lt (by (with_reducible repeat (first | apply Kd.Q_alloc | apply Kd.Q_drewN | apply Kd.Q_drew)); exact (Kd.Q_mono (Kd.Q_far (p := ⟨gb293, 2, none⟩) (Kd.Q_far (p := ⟨gb293, 1, none⟩) (Kd.Q_far (p := ⟨gb293, 0, none⟩) (Kd.Q_types HO283.out BK293.out (by decide)) (fun _ hk => hk.2) (.slice Ao9 t281.length co9)) (fun _ hk => hk.2) (.slice Ao11 t284.length co11)) (fun _ hk => hk.2) (.slice Ao12 t287.length co12)) (fun _ h_ => h_.1))))) (Kd.R_lt (by (with_reducible repeat (first | apply rA | apply rN | apply rD)); exact (rM (rF (p := ⟨gb293, 2, none⟩) (rF (p := ⟨gb293, 1, none⟩) (rF (p := ⟨gb293, 0, none⟩) (rT HO286.out BK293.out (by decide)) (fun _ hk => hk.2) (.slice Ao9 t281.length co9)) (fun _ hk => hk.2) (.slice Ao11 t284.length co11)) (fun _ hk => hk.2) (.slice Ao12 t287.length co12)) (fun _ h_ => h_.1))))) (Kd.R_lt (by (with_reducible repeat (first | apply rA | apply rN | apply rD)); exact (rM (rF (p := ⟨gb293, 2, none⟩) (rF (p := ⟨gb293, 1, none⟩) (rF (p := ⟨gb293, 0, none⟩) (rT HO292.out BK293.out (by decide)) (fun _ hk => hk.2) (.slice Ao9 t281.length co9)) (fun _ hk => hk.2) (.slice Ao11 t284.length co11)) (fun _ hk => hk.2) (.slice Ao12 t287.length co12)) (fun _ h_ => h_.1))))) (bZ (by repeat (first | (with_reducible first | exact HB.out | apply oA | apply pN | apply o1 | refine bS ?_ GE293.out) | exact HB.out)))); have n5_ := Am (Kd.R_lower (Kd.R_new' (Kd.R_new' (Kd.R_new' ho1 (Kd.Q_lt (by (with_reducible repeat (first | apply Kd.Q_alloc | apply Kd.Q_drewN | apply Kd.Q_drew)); exact (Kd.Q_mono (Kd.Q_far (p := ⟨gb293, 2, none⟩) (Kd.Q_far (p := ⟨gb293, 1, none⟩) (Kd.Q_far (p := ⟨gb293, 0, none⟩) (Kd.Q_types HO283.out BK293.out (by decide)) (fun _ hk => hk.2) (.slice Ao9 t281.length co9)) (fun _ hk => hk.2) (.slice Ao11 t284.length co11)) (fun _ hk => hk.2) (.slice Ao12 t287.length co12)) (fun _ h_ => h_.1))))) (Kd.R_lt (by (with_reducible repeat (first | apply rA | apply rN | apply rD)); exact (rM (rF (p := ⟨gb293, 2, none⟩) (rF (p := ⟨gb293, 1, none⟩) (rF (p := ⟨gb293, 0, none⟩) (rT HO286.out BK293.out (by decide)) (fun _ hk => hk.2) (.slice Ao9 t281.length co9)) (fun _ hk => hk.2) (.slice Ao11 t284.length co11)) (fun _ hk => hk.2) (.slice Ao12 t287.length co12)) (fun _ h_ => h_.1))))) (Kd.R_lt (by (with_reducible repeat (first | apply rA | apply rN | apply rD)); exact (rM (rF (p := ⟨gb293, 2, none⟩) (rF (p := ⟨gb293, 1, none⟩) (rF (p := ⟨gb293, 0, none⟩) (rT HO292.out BK293.out (by decide)) (fun _ hk => hk.2) (.slice Ao9 t281.length co9)) (fun _ hk => hk.2) (.slice Ao11 t284.length co11)) (fun _ hk => hk.2) (.slice Ao12 t287.length co12)) (fun _ h_ => h_.1))))) (bZ (by repeat (first | (with_reducible first | exact HB.out | apply oA | apply pN | apply o1 | refine bS ?_ GE293.out) | exact HB.out)))); have n6_ := Am (Kd.R_lower (Kd.R_new' ho2 (Kd.R_lt (by (with_reducible repeat (first | apply rA | apply rN | apply rD)); exact (rM (rF (p := ⟨gb293, 2, none⟩) (rF (p := ⟨gb293, 1, none⟩) (rF (p := ⟨gb293, 0, none⟩) (rT HO289.out BK293.out (by decide)) (fun _ hk => hk.2) (.slice Ao9 t281.length co9)) (fun _ hk => hk.2) (.slice Ao11 t284.length co11)) (fun _ hk => hk.2) (.slice Ao12 t287.length co12)) (fun _ h_ => h_.1))))) (bZ (by repeat (first | (with_reducible first | exact HB.out | apply oA | apply pN | apply o1 | refine bS ?_ GE293.out) | exact HB.out)))); have n7_ := Am (bB (g := gb293) (o := .cells #[.slice Ao9 t281.length co9, .slice Ao11 t284.length co11, .slice Ao12 t287.length co12] 26 (0, 0)) (by (with_reducible repeat (first | refine bN ?_ _ | refine bD ?_ | refine bA ?_ _)); refine blk_put (cs := #[.slice Ao9 t281.length co9, .slice Ao11 t284.length co11, .slice none 0 0]) ?_ 2 _ rfl; (with_reducible repeat (first | refine bN ?_ _ | refine bD ?_ | refine bA ?_ _)); refine blk_put (cs := #[.slice Ao9 t281.length co9, .slice none 0 0, .slice none 0 0]) ?_ 1 _ rfl; (with_reducible repeat (first | refine bN ?_ _ | refine bD ?_ | refine bA ?_ _)); refine blk_put (cs := #[.slice none 0 0, .slice none 0 0, .slice none 0 0]) ?_ 0 _ rfl; (with_reducible repeat (first | refine bN ?_ _ | refine bD ?_ | refine bA ?_ _)); exact BK293.out) hb); have n8_ := Am (bP (by repeat (first | (with_reducible first | exact HB.out | apply oA | apply pN | apply o1 | refine bS ?_ GE293.out) | exact HB.out)) hb); clear HO283; clear HO286; clear HO289; clear HO292; clear BK293; clear HB; have HO283 := n0_; have HO286 := n1_; have HO289 := n2_; have HO292 := n3_; have HO296 := n4_; have HO299 := n5_; have HO302 := n6_; have BK293 := n7_; have HB := n8_; clear n0_ n1_ n2_ n3_ n4_ n5_ n6_ n7_ n8_; (try clear hb); (try clear hb2); (try clear hk); (try clear hi); (try clear ho0); (try clear ho1); (try clear ho2)) | ((with_reducible refine gate_dst (N := 5) rfl ?_); refine box_event ?hg (N := 5) ?hd (cs := #[.slice none 0 0, .slice none 0 0, .slice none 0 0]) (t := 26) ?hr ?_; (case hd => rfl); (case hg => rfl); (case hr => first | (go_simp; done) | (go_simp; rfl)); intro gb304 hg w15 hbox hb; have n0_ := Am (Kd.Q_below (by (with_reducible repeat (first | apply Kd.Q_alloc | apply Kd.Q_drewN | apply Kd.Q_drew)); exact HO283.out) hb); have n1_ := Am (rB (by (with_reducible repeat (first | apply rA | apply rN | apply rD)); exact HO286.out) hb); have n2_ := Am (rB (by (with_reducible repeat (first | apply rA | apply rN | apply rD)); exact HO289.out) hb); have n3_ := Am (rB (by (with_reducible repeat (first | apply rA | apply rN | apply rD)); exact HO292.out) hb); have n4_ := Am (rB (by (with_reducible repeat (first | apply rA | apply rN | apply rD)); exact HO296.out) hb); have n5_ := Am (rB (by (with_reducible repeat (first | apply rA | apply rN | apply rD)); exact HO299.out) hb); have n6_ := Am (rB (by (with_reducible repeat (first | apply rA | apply rN | apply rD)); exact HO302.out) hb); have n7_ := Am (bB (g := gb293) (o := .cells #[.slice Ao9 t281.length co9, .slice Ao11 t284.length co11, .slice Ao12 t287.length co12] 26 (0, 0)) (by (with_reducible repeat (first | refine bN ?_ _ | refine bD ?_ | refine bA ?_ _)); exact BK293.out) hb); have n8_ := Am (bP (by repeat (first | (with_reducible first | exact HB.out | apply oA | apply pN | apply o1 | refine bS ?_ GE293.out) | exact HB.out)) hb); have n9_ := Am (hbox); have n10_ := Am ((by rw [hg]; exact (bZ (by repeat (first | (with_reducible first | exact HB.out | apply oA | apply pN | apply o1 | refine bS ?_ GE293.out) | exact HB.out))) : w.heap.size ≤ gb304)); have n11_ := Am ((by rw [hg]; exact (bZ (by repeat (first | (with_reducible first | exact HB.out | apply oA | apply pN | apply o1 | refine bS ?_ GE293.out) | exact HB.out))) : w.heap.size ≤ gb304)); have n12_ := Am ((by rw [hg]; exact Nat.ne_of_lt (blk_lt (g := gb293) (o := .cells #[.slice Ao9 t281.length co9, .slice Ao11 t284.length co11, .slice Ao12 t287.length co12] 26 (0, 0)) (by (with_reducible repeat (first | refine bN ?_ _ | refine bD ?_ | refine bA ?_ _)); exact BK293.out)) : gb293 ≠ gb304)); have n13_ := Am ((by rw [hg]; exact Nat.ne_of_gt (blk_lt (g := gb293) (o := .cells #[.slice Ao9 t281.length co9, .slice Ao11 t284.length co11, .slice Ao12 t287.length co12] 26 (0, 0)) (by (with_reducible repeat (first | refine bN ?_ _ | refine bD ?_ | refine bA ?_ _)); exact BK293.out)) : gb304 ≠ gb293)); clear HO283; clear HO286; clear HO289; clear HO292; clear HO296; clear HO299; clear HO302; clear BK293; clear HB; have HO283 := n0_; have HO286 := n1_; have HO289 := n2_; have HO292 := n3_; have HO296 := n4_; have HO299 := n5_; have HO302 := n6_; have BK293 := n7_; have HB := n8_; have BK304 := n9_; have GW304 := n10_; have GE304 := n11_; have NB293_304 := n12_; have NB304_293 := n13_; clear n0_ n1_ n2_ n3_ n4_ n5_ n6_ n7_ n8_ n9_ n10_ n11_ n12_ n13_; clear hb hbox hg; obtain ⟨Ao16, co16, eo16⟩ := Kd.R_slice HO296.out; subst eo16; have hnb17 := NB304_293.out; have hnc17 := NB293_304.out; have hcz18_0 : w15.cell? ⟨gb304, 0, none⟩ = some (.slice none 0 0) := (bC BK304.out 0).trans rfl; have hcz18_1 : w15.cell? ⟨gb304, 1, none⟩ = some (.slice none 0 0) := (bC BK304.out 1).trans rfl; have hcz18_2 : w15.cell? ⟨gb304, 2, none⟩ = some (.slice none 0 0) := (bC BK304.out 2).trans rfl; have hfz18_0 := bF BK304.out 0; have hfz18_1 := bF BK304.out 1; have hfz18_2 := bF BK304.out 2; obtain ⟨Ao19, co19, eo19⟩ := Kd.R_slice HO299.out; subst eo19; obtain ⟨Ao20, co20, eo20⟩ := Kd.R_slice HO302.out; subst eo20; have hcz21_0 : w15.cell? ⟨gb293, 0, none⟩ = some (.slice Ao9 t281.length co9) := (bC BK293.out 0).trans rfl; have hcz21_1 : w15.cell? ⟨gb293, 1, none⟩ = some (.slice Ao11 t284.length co11) := (bC BK293.out 1).trans rfl; have hcz21_2 : w15.cell? ⟨gb293, 2, none⟩ = some (.slice Ao12 t287.length co12) := (bC BK293.out 2).trans rfl; have hfz21_0 := bF BK293.out 0; have hfz21_1 := bF BK293.out 1; have hfz21_2 := bF BK293.out 2) | ((with_reducible refine gate_callee (f := 29) rfl ?_); refine goesL_ (some 27) rfl rfl Try.func29 (by kernel_rfl) rfl #[.agg #[.slice Ao9 t281.length co9, .slice Ao11 t284.length co11, .slice Ao12 t287.length co12], .slice Ao13 t290.length co13] rfl (by (try simp only [lM, lC, lN]); first | done | rfl | (simp only [lD, lT]; rfl)) ?_; (with_reducible refine (spec_SigsBlock.calls k _ _ t281 _ _ t284 _ _ t287 _ _ t290 t305 t308 t311 t314 _ ?side1 ?side2 ?side3 ?side4 ?side5 ?side6 ?side7 ?side8 A5.out).mono ?_); (case side1 => refine (Kd.Q_reads' (e := 4) (base := w.heap.size) (ok := fun k_ => (((some k_ ≠ (.slice Ao11 t284.length co11 : Value).ownBlock ∧ some k_ ≠ (.slice Ao13 t290.length co13 : Value).ownBlock) ∧ some k_ ≠ (.slice Ao16 t294.length co16 : Value).ownBlock) ∧ some k_ ≠ (.slice Ao19 t297.length co19 : Value).ownBlock)) (n := t281.length) (c := co9) ?_).2.2; exact (by (with_reducible repeat (first | apply Kd.Q_alloc | apply Kd.Q_drewN | apply Kd.Q_drew)); exact (Kd.Q_mono (Kd.Q_far (p := ⟨gb304, 2, none⟩) (Kd.Q_far (p := ⟨gb304, 1, none⟩) (Kd.Q_far (p := ⟨gb304, 0, none⟩) (Kd.Q_types HO283.out BK304.out (by decide)) (fun _ hk => hk.2) (.slice Ao16 t294.length co16)) (fun _ hk => hk.2) (.slice Ao19 t297.length co19)) (fun _ hk => hk.2) (.slice Ao20 t300.length co20)) (fun _ h_ => h_.1)))); (case side2 => exact (Kd.Q_reads' HO283.out).2.1); (case side3 => refine (Kd.R_reads' (e := 4) (base := w.heap.size) (ok := fun k_ => (((some k_ ≠ (.slice Ao9 t281.length co9 : Value).ownBlock ∧ some k_ ≠ (.slice Ao13 t290.length co13 : Value).ownBlock) ∧ some k_ ≠ (.slice Ao16 t294.length co16 : Value).ownBlock) ∧ some k_ ≠ (.slice Ao19 t297.length co19 : Value).ownBlock)) (n := t284.length) (c := co11) ?_).2.2; exact (by (with_reducible repeat (first | apply rA | apply rN | apply rD)); exact (rM (rF (p := ⟨gb304, 2, none⟩) (rF (p := ⟨gb304, 1, none⟩) (rF (p := ⟨gb304, 0, none⟩) (rT HO286.out BK304.out (by decide)) (fun _ hk => hk.2) (.slice Ao16 t294.length co16)) (fun _ hk => hk.2) (.slice Ao19 t297.length co19)) (fun _ hk => hk.2) (.slice Ao20 t300.length co20)) (fun _ h_ => h_.1)))); (case side4 => exact (Kd.R_reads' HO286.out).2.1); (case side5 => refine (Kd.R_reads' (e := 3) (base := w.heap.size) (ok := fun k_ => (True ∧ some k_ ≠ (.slice Ao20 t300.length co20 : Value).ownBlock)) (n := t287.length) (c := co12) ?_).2.2; exact (by (with_reducible repeat (first | apply rA | apply rN | apply rD)); exact (rM (rF (p := ⟨gb304, 2, none⟩) (rF (p := ⟨gb304, 1, none⟩) (rF (p := ⟨gb304, 0, none⟩) (rT HO289.out BK304.out (by decide)) (fun _ hk => hk.2) (.slice Ao16 t294.length co16)) (fun _ hk => hk.2) (.slice Ao19 t297.length co19)) (fun _ hk => hk.2) (.slice Ao20 t300.length co20)) (fun _ h_ => h_.1)))); (case side6 => exact (Kd.R_reads' HO289.out).2.1); (case side7 => refine (Kd.R_reads' (e := 4) (base := w.heap.size) (ok := fun k_ => (((some k_ ≠ (.slice Ao9 t281.length co9 : Value).ownBlock ∧ some k_ ≠ (.slice Ao11 t284.length co11 : Value).ownBlock) ∧ some k_ ≠ (.slice Ao16 t294.length co16 : Value).ownBlock) ∧ some k_ ≠ (.slice Ao19 t297.length co19 : Value).ownBlock)) (n := t290.length) (c := co13) ?_).2.2; exact (by (with_reducible repeat (first | apply rA | apply rN | apply rD)); exact (rM (rF (p := ⟨gb304, 2, none⟩) (rF (p := ⟨gb304, 1, none⟩) (rF (p := ⟨gb304, 0, none⟩) (rT HO292.out BK304.out (by decide)) (fun _ hk => hk.2) (.slice Ao16 t294.length co16)) (fun _ hk => hk.2) (.slice Ao19 t297.length co19)) (fun _ hk => hk.2) (.slice Ao20 t300.length co20)) (fun _ h_ => h_.1)))); (case side8 => exact (Kd.R_reads' HO292.out).2.1); rintro e w22 ⟨v306, v309, v312, rfl, ho0, ho1, ho2, hb⟩; refine ⟨_, rfl, ?_⟩; have n0_ := Am (Kd.Q_mono (Kd.Q_told (Kd.Q_told (Kd.Q_old (by (with_reducible repeat (first | apply Kd.Q_alloc | apply Kd.Q_drewN | apply Kd.Q_drew)); exact (Kd.Q_mono (Kd.Q_far (p := ⟨gb304, 2, none⟩) (Kd.Q_far (p := ⟨gb304, 1, none⟩) (Kd.Q_far (p := ⟨gb304, 0, none⟩) (Kd.Q_types HO283.out BK304.out (by decide)) (fun _ hk => hk.2) (.slice Ao16 t294.length co16)) (fun _ hk => hk.2) (.slice Ao19 t297.length co19)) (fun _ hk => hk.2) (.slice Ao20 t300.length co20)) (fun _ h_ => h_.1))) hb) (Kd.R_base ho0)) (Kd.R_base ho1)) (fun _ h_ => h_.1)); have n1_ := Am (rM (Kd.R_told (Kd.R_told (Kd.R_old (by (with_reducible repeat (first | apply rA | apply rN | apply rD)); exact (rM (rF (p := ⟨gb304, 2, none⟩) (rF (p := ⟨gb304, 1, none⟩) (rF (p := ⟨gb304, 0, none⟩) (rT HO286.out BK304.out (by decide)) (fun _ hk => hk.2) (.slice Ao16 t294.length co16)) (fun _ hk => hk.2) (.slice Ao19 t297.length co19)) (fun _ hk => hk.2) (.slice Ao20 t300.length co20)) (fun _ h_ => h_.1))) hb) (Kd.R_base ho0)) (Kd.R_base ho1)) (fun _ h_ => h_.1)); have n2_ := Am (Kd.R_elder' (by (with_reducible repeat (first | apply rA | apply rN | apply rD)); exact (rM (rF (p := ⟨gb304, 2, none⟩) (rF (p := ⟨gb304, 1, none⟩) (rF (p := ⟨gb304, 0, none⟩) (rT HO289.out BK304.out (by decide)) (fun _ hk => hk.2) (.slice Ao16 t294.length co16)) (fun _ hk => hk.2) (.slice Ao19 t297.length co19)) (fun _ hk => hk.2) (.slice Ao20 t300.length co20)) (fun _ h_ => h_.1))) (Kd.R_base ho2) hb); have n3_ := Am (rM (Kd.R_told (Kd.R_told (Kd.R_old (by (with_reducible repeat (first | apply rA | apply rN | apply rD)); exact (rM (rF (p := ⟨gb304, 2, none⟩) (rF (p := ⟨gb304, 1, none⟩) (rF (p := ⟨gb304, 0, none⟩) (rT HO292.out BK304.out (by decide)) (fun _ hk => hk.2) (.slice Ao16 t294.length co16)) (fun _ hk => hk.2) (.slice Ao19 t297.length co19)) (fun _ hk => hk.2) (.slice Ao20 t300.length co20)) (fun _ h_ => h_.1))) hb) (Kd.R_base ho0)) (Kd.R_base ho1)) (fun _ h_ => h_.1)); have n4_ := Am (rM (Kd.R_told (Kd.R_told (Kd.R_old (by (with_reducible repeat (first | apply rA | apply rN | apply rD)); exact (rM (rF (p := ⟨gb304, 2, none⟩) (rF (p := ⟨gb304, 1, none⟩) (rF (p := ⟨gb304, 0, none⟩) (rT HO296.out BK304.out (by decide)) (fun _ hk => hk.2) (.slice Ao16 t294.length co16)) (fun _ hk => hk.2) (.slice Ao19 t297.length co19)) (fun _ hk => hk.2) (.slice Ao20 t300.length co20)) (fun _ h_ => h_.1))) hb) (Kd.R_base ho0)) (Kd.R_base ho1)) (fun _ h_ => h_.1)); have n5_ := Am (rM (Kd.R_told (Kd.R_told (Kd.R_old (by (with_reducible repeat (first | apply rA | apply rN | apply rD)); exact (rM (rF (p := ⟨gb304, 2, none⟩) (rF (p := ⟨gb304, 1, none⟩) (rF (p := ⟨gb304, 0, none⟩) (rT HO299.out BK304.out (by decide)) (fun _ hk => hk.2) (.slice Ao16 t294.length co16)) (fun _ hk => hk.2) (.slice Ao19 t297.length co19)) (fun _ hk => hk.2) (.slice Ao20 t300.length co20)) (fun _ h_ => h_.1))) hb) (Kd.R_base ho0)) (Kd.R_base ho1)) (fun _ h_ => h_.1)); have n6_ := Am (Kd.R_elder' (by (with_reducible repeat (first | apply rA | apply rN | apply rD)); exact (rM (rF (p := ⟨gb304, 2, none⟩) (rF (p := ⟨gb304, 1, none⟩) (rF (p := ⟨gb304, 0, none⟩) (rT HO302.out BK304.out (by decide)) (fun _ hk => hk.2) (.slice Ao16 t294.length co16)) (fun _ hk => hk.2) (.slice Ao19 t297.length co19)) (fun _ hk => hk.2) (.slice Ao20 t300.length co20)) (fun _ h_ => h_.1))) (Kd.R_base ho2) hb); have n7_ := Am (Kd.R_lower (Kd.R_new' (Kd.R_new' (Kd.R_new' (Kd.R_new' (Kd.R_new' ho0 (Kd.Q_lt (by (with_reducible repeat (first | apply Kd.Q_alloc | apply Kd.Q_drewN | apply Kd.Q_drew)); exact (Kd.Q_mono (Kd.Q_far (p := ⟨gb304, 2, none⟩) (Kd.Q_far (p := ⟨gb304, 1, none⟩) (Kd.Q_far (p := ⟨gb304, 0, none⟩) (Kd.Q_types HO283.out BK304.out (by decide)) (fun _ hk => hk.2) (.slice Ao16 t294.length co16)) (fun _ hk => hk.2) (.slice Ao19 t297.length co19)) (fun _ hk => hk.2) (.slice Ao20 t300.length co20)) (fun _ h_ => h_.1))))) (Kd.R_lt (by (with_reducible repeat (first | apply rA | apply rN | apply rD)); exact (rM (rF (p := ⟨gb304, 2, none⟩) (rF (p := ⟨gb304, 1, none⟩) (rF (p := ⟨gb304, 0, none⟩) (rT HO286.out BK304.out (by decide)) (fun _ hk => hk.2) (.slice Ao16 t294.length co16)) (fun _ hk => hk.2) (.slice Ao19 t297.length co19)) (fun _ hk => hk.2) (.slice Ao20 t300.length co20)) (fun _ h_ => h_.1))))) (Kd.R_lt (by (with_reducible repeat (first | apply rA | apply rN | apply rD)); exact (rM (rF (p := ⟨gb304, 2, none⟩) (rF (p := ⟨gb304, 1, none⟩) (rF (p := ⟨gb304, 0, none⟩) (rT HO292.out BK304.out (by decide)) (fun _ hk => hk.2) (.slice Ao16 t294.length co16)) (fun _ hk => hk.2) (.slice Ao19 t297.length co19)) (fun _ hk => hk.2) (.slice Ao20 t300.length co20)) (fun _ h_ => h_.1))))) (Kd.R_lt (by (with_reducible repeat (first | apply rA | apply rN | apply rD)); exact (rM (rF (p := ⟨gb304, 2, none⟩) (rF (p := ⟨gb304, 1, none⟩) (rF (p := ⟨gb304, 0, none⟩) (rT HO296.out BK304.out (by decide)) (fun _ hk => hk.2) (.slice Ao16 t294.length co16)) (fun _ hk => hk.2) (.slice Ao19 t297.length co19)) (fun _ hk => hk.2) (.slice Ao20 t300.length co20)) (fun _ h_ => h_.1))))) (Kd.R_lt (by (with_reducible repeat (first | apply rA | apply rN | apply rD)); exact (rM (rF (p := ⟨gb304, 2, none⟩) (rF (p := ⟨gb304, 1, none⟩) (rF (p := ⟨gb304, 0, none⟩) (rT HO299.out BK304.out (by decide)) (fun _ hk => hk.2) (.slice Ao16 t294.length co16)) (fun _ hk => hk.2) (.slice Ao19 t297.length co19)) (fun _ hk => hk.2) (.slice Ao20 t300.length co20)) (fun _ h_ => h_.1))))) (bZ (by repeat (first | (with_reducible first | exact HB.out | apply oA | apply pN | apply o1 | refine bS ?_ GE293.out | refine bS ?_ GE304.out) | exact HB.out)))); have n8_ := Am (Kd.R_lower (Kd.R_new' (Kd.R_new' (Kd.R_new' (Kd.R_new' (Kd.R_new' ho1 (Kd.Q_lt (by (with_reducible repeat (first | apply Kd.Q_alloc | apply Kd.Q_drewN | apply Kd.Q_drew)); exact (Kd.Q_mono (Kd.Q_far (p := ⟨gb304, 2, none⟩) (Kd.Q_far (p := ⟨gb304, 1, none⟩) (Kd.Q_far (p := ⟨gb304, 0, none⟩) (Kd.Q_types HO283.out BK304.out (by decide)) (fun _ hk => hk.2) (.slice Ao16 t294.length co16)) (fun _ hk => hk.2) (.slice Ao19 t297.length co19)) (fun _ hk => hk.2) (.slice Ao20 t300.length co20)) (fun _ h_ => h_.1))))) (Kd.R_lt (by (with_reducible repeat (first | apply rA | apply rN | apply rD)); exact (rM (rF (p := ⟨gb304, 2, none⟩) (rF (p := ⟨gb304, 1, none⟩) (rF (p := ⟨gb304, 0, none⟩) (rT HO286.out BK304.out (by decide)) (fun _ hk => hk.2) (.slice Ao16 t294.length co16)) (fun _ hk => hk.2) (.slice Ao19 t297.length co19)) (fun _ hk => hk.2) (.slice Ao20 t300.length co20)) (fun _ h_ => h_.1))))) (Kd.R_lt (by (with_reducible repeat (first | apply rA | apply rN | apply rD)); exact (rM (rF (p := ⟨gb304, 2, none⟩) (rF (p := ⟨gb304, 1, none⟩) (rF (p := ⟨gb304, 0, none⟩) (rT HO292.out BK304.out (by decide)) (fun _ hk => hk.2) (.slice Ao16 t294.length co16)) (fun _ hk => hk.2) (.slice Ao19 t297.length co19)) (fun _ hk => hk.2) (.slice Ao20 t300.length co20)) (fun _ h_ => h_.1))))) (Kd.R_lt (by (with_reducible repeat (first | apply rA | apply rN | apply rD)); exact (rM (rF (p := ⟨gb304, 2, none⟩) (rF (p := ⟨gb304, 1, none⟩) (rF (p := ⟨gb304, 0, none⟩) (rT HO296.out BK304.out (by decide)) (fun _ hk => hk.2) (.slice Ao16 t294.length co16)) (fun _ hk => hk.2) (.slice Ao19 t297.length co19)) (fun _ hk => hk.2) (.slice Ao20 t300.length co20)) (fun _ h_ => h_.1))))) (Kd.R_lt (by (with_reducible repeat (first | apply rA | apply rN | apply rD)); exact (rM (rF (p := ⟨gb304, 2, none⟩) (rF (p := ⟨gb304, 1, none⟩) (rF (p := ⟨gb304, 0, none⟩) (rT HO299.out BK304.out (by decide)) (fun _ hk => hk.2) (.slice Ao16 t294.length co16)) (fun _ hk => hk.2) (.slice Ao19 t297.length co19)) (fun _ hk => hk.2) (.slice Ao20 t300.length co20)) (fun _ h_ => h_.1))))) (bZ (by repeat (first | (with_reducible first | exact HB.out | apply oA | apply pN | apply o1 | refine bS ?_ GE293.out | refine bS ?_ GE304.out) | exact HB.out)))); have n9_ := Am (Kd.R_lower (Kd.R_new' (Kd.R_new' ho2 (Kd.R_lt (by (with_reducible repeat (first | apply rA | apply rN | apply rD)); exact (rM (rF (p := ⟨gb304, 2, none⟩) (rF (p := ⟨gb304, 1, none⟩) (rF (p := ⟨gb304, 0, none⟩) (rT HO289.out BK304.out (by decide)) (fun _ hk => hk.2) (.slice Ao16 t294.length co16)) (fun _ hk => hk.2) (.slice Ao19 t297.length co19)) (fun _ hk => hk.2) (.slice Ao20 t300.length co20)) (fun _ h_ => h_.1))))) (Kd.R_lt (by (with_reducible repeat (first | apply rA | apply rN | apply rD)); exact (rM (rF (p := ⟨gb304, 2, none⟩) (rF (p := ⟨gb304, 1, none⟩) (rF (p := ⟨gb304, 0, none⟩) (rT HO302.out BK304.out (by decide)) (fun _ hk => hk.2) (.slice Ao16 t294.length co16)) (fun _ hk => hk.2) (.slice Ao19 t297.length co19)) (fun _ hk => hk.2) (.slice Ao20 t300.length co20)) (fun _ h_ => h_.1))))) (bZ (by repeat (first | (with_reducible first | exact HB.out | apply oA | apply pN | apply o1 | refine bS ?_ GE293.out | refine bS ?_ GE304.out) | exact HB.out)))); have n10_ := Am (bB (g := gb293) (o := .cells #[.slice Ao9 t281.length co9, .slice Ao11 t284.length co11, .slice Ao12 t287.length co12] 26 (0, 0)) (by (with_reducible repeat (first | refine bN ?_ _ | refine bD ?_ | refine bA ?_ _)); refine blk_far ?_ NB293_304.out _; (with_reducible repeat (first | refine bN ?_ _ | refine bD ?_ | refine bA ?_ _)); refine blk_far ?_ NB293_304.out _; (with_reducible repeat (first | refine bN ?_ _ | refine bD ?_ | refine bA ?_ _)); refine blk_far ?_ NB293_304.out _; (with_reducible repeat (first | refine bN ?_ _ | refine bD ?_ | refine bA ?_ _)); exact BK293.out) hb); have n11_ := Am (bB (g := gb304) (o := .cells #[.slice Ao16 t294.length co16, .slice Ao19 t297.length co19, .slice Ao20 t300.length co20] 26 (0, 0)) (by (with_reducible repeat (first | refine bN ?_ _ | refine bD ?_ | refine bA ?_ _)); refine blk_put (cs := #[.slice Ao16 t294.length co16, .slice Ao19 t297.length co19, .slice none 0 0]) ?_ 2 _ rfl; (with_reducible repeat (first | refine bN ?_ _ | refine bD ?_ | refine bA ?_ _)); refine blk_put (cs := #[.slice Ao16 t294.length co16, .slice none 0 0, .slice none 0 0]) ?_ 1 _ rfl; (with_reducible repeat (first | refine bN ?_ _ | refine bD ?_ | refine bA ?_ _)); refine blk_put (cs := #[.slice none 0 0, .slice none 0 0, .slice none 0 0]) ?_ 0 _ rfl; (with_reducible repeat (first | refine bN ?_ _ | refine bD ?_ | refine bA ?_ _)); exact BK304.out) hb); have n12_ := Am (bP (by repeat (first | (with_reducible first | exact HB.out | apply oA | apply pN | apply o1 | refine bS ?_ GE293.out | refine bS ?_ GE304.out) | exact HB.out)) hb); clear HO283; clear HO286; clear HO289; clear HO292; clear HO296; clear HO299; clear HO302; clear BK293; clear BK304; clear HB; have HO283 := n0_; have HO286 := n1_; have HO289 := n2_; have HO292 := n3_; have HO296 := n4_; have HO299 := n5_; have HO302 := n6_; have HO307 := n7_; have HO310 := n8_; have HO313 := n9_; have BK293 := n10_; have BK304 := n11_; have HB := n12_; clear n0_ n1_ n2_ n3_ n4_ n5_ n6_ n7_ n8_ n9_ n10_ n11_ n12_; (try clear hb); (try clear hb2); (try clear hk); (try clear hi); (try clear ho0); (try clear ho1); (try clear ho2)) | ((with_reducible refine gate_dst (N := 7) rfl ?_); refine box_event ?hg (N := 7) ?hd (cs := #[.slice none 0 0, .slice none 0 0, .slice none 0 0]) (t := 26) ?hr ?_; (case hd => rfl); (case hg => rfl); (case hr => first | (go_simp; done) | (go_simp; rfl)); intro gb315 hg w23 hbox hb; have n0_ := Am (Kd.Q_below (by (with_reducible repeat (first | apply Kd.Q_alloc | apply Kd.Q_drewN | apply Kd.Q_drew)); exact HO283.out) hb); have n1_ := Am (rB (by (with_reducible repeat (first | apply rA | apply rN | apply rD)); exact HO286.out) hb); have n2_ := Am (rB (by (with_reducible repeat (first | apply rA | apply rN | apply rD)); exact HO289.out) hb); have n3_ := Am (rB (by (with_reducible repeat (first | apply rA | apply rN | apply rD)); exact HO292.out) hb); have n4_ := Am (rB (by (with_reducible repeat (first | apply rA | apply rN | apply rD)); exact HO296.out) hb); have n5_ := Am (rB (by (with_reducible repeat (first | apply rA | apply rN | apply rD)); exact HO299.out) hb); have n6_ := Am (rB (by (with_reducible repeat (first | apply rA | apply rN | apply rD)); exact HO302.out) hb); have n7_ := Am (rB (by (with_reducible repeat (first | apply rA | apply rN | apply rD)); exact HO307.out) hb); have n8_ := Am (rB (by (with_reducible repeat (first | apply rA | apply rN | apply rD)); exact HO310.out) hb); have n9_ := Am (rB (by (with_reducible repeat (first | apply rA | apply rN | apply rD)); exact HO313.out) hb); have n10_ := Am (bB (g := gb293) (o := .cells #[.slice Ao9 t281.length co9, .slice Ao11 t284.length co11, .slice Ao12 t287.length co12] 26 (0, 0)) (by (with_reducible repeat (first | refine bN ?_ _ | refine bD ?_ | refine bA ?_ _)); exact BK293.out) hb); have n11_ := Am (bB (g := gb304) (o := .cells #[.slice Ao16 t294.length co16, .slice Ao19 t297.length co19, .slice Ao20 t300.length co20] 26 (0, 0)) (by (with_reducible repeat (first | refine bN ?_ _ | refine bD ?_ | refine bA ?_ _)); exact BK304.out) hb); have n12_ := Am (bP (by repeat (first | (with_reducible first | exact HB.out | apply oA | apply pN | apply o1 | refine bS ?_ GE293.out | refine bS ?_ GE304.out) | exact HB.out)) hb); have n13_ := Am (hbox); have n14_ := Am ((by rw [hg]; exact (bZ (by repeat (first | (with_reducible first | exact HB.out | apply oA | apply pN | apply o1 | refine bS ?_ GE293.out | refine bS ?_ GE304.out) | exact HB.out))) : w.heap.size ≤ gb315)); have n15_ := Am ((by rw [hg]; exact (bZ (by repeat (first | (with_reducible first | exact HB.out | apply oA | apply pN | apply o1 | refine bS ?_ GE293.out | refine bS ?_ GE304.out) | exact HB.out))) : w.heap.size ≤ gb315)); have n16_ := Am ((by rw [hg]; exact Nat.ne_of_lt (blk_lt (g := gb293) (o := .cells #[.slice Ao9 t281.length co9, .slice Ao11 t284.length co11, .slice Ao12 t287.length co12] 26 (0, 0)) (by (with_reducible repeat (first | refine bN ?_ _ | refine bD ?_ | refine bA ?_ _)); exact BK293.out)) : gb293 ≠ gb315)); have n17_ := Am ((by rw [hg]; exact Nat.ne_of_gt (blk_lt (g := gb293) (o := .cells #[.slice Ao9 t281.length co9, .slice Ao11 t284.length co11, .slice Ao12 t287.length co12] 26 (0, 0)) (by (with_reducible repeat (first | refine bN ?_ _ | refine bD ?_ | refine bA ?_ _)); exact BK293.out)) : gb315 ≠ gb293)); have n18_ := Am ((by rw [hg]; exact Nat.ne_of_lt (blk_lt (g := gb304) (o := .cells #[.slice Ao16 t294.length co16, .slice Ao19 t297.length co19, .slice Ao20 t300.length co20] 26 (0, 0)) (by (with_reducible repeat (first | refine bN ?_ _ | refine bD ?_ | refine bA ?_ _)); exact BK304.out)) : gb304 ≠ gb315)); have n19_ := Am ((by rw [hg]; exact Nat.ne_of_gt (blk_lt (g := gb304) (o := .cells #[.slice Ao16 t294.length co16, .slice Ao19 t297.length co19, .slice Ao20 t300.length co20] 26 (0, 0)) (by (with_reducible repeat (first | refine bN ?_ _ | refine bD ?_ | refine bA ?_ _)); exact BK304.out)) : gb315 ≠ gb304)); clear HO283; clear HO286; clear HO289; clear HO292; clear HO296; clear HO299; clear HO302; clear HO307; clear HO310; clear HO313; clear BK293; clear BK304; clear HB; have HO283 := n0_; have HO286 := n1_; have HO289 := n2_; have HO292 := n3_; have HO296 := n4_; have HO299 := n5_; have HO302 := n6_; have HO307 := n7_; have HO310 := n8_; have HO313 := n9_; have BK293 := n10_; have BK304 := n11_; have HB := n12_; have BK315 := n13_; have GW315 := n14_; have GE315 := n15_; have NB293_315 := n16_; have NB315_293 := n17_; have NB304_315 := n18_; have NB315_304 := n19_; clear n0_ n1_ n2_ n3_ n4_ n5_ n6_ n7_ n8_ n9_ n10_ n11_ n12_ n13_ n14_ n15_ n16_ n17_ n18_ n19_; clear hb hbox hg; obtain ⟨Ao24, co24, eo24⟩ := Kd.R_slice HO307.out; subst eo24; have hnb25 := NB315_293.out; have hnc25 := NB293_315.out; have hnb26 := NB315_304.out; have hnc26 := NB304_315.out; have hcz27_0 : w23.cell? ⟨gb315, 0, none⟩ = some (.slice none 0 0) := (bC BK315.out 0).trans rfl; have hcz27_1 : w23.cell? ⟨gb315, 1, none⟩ = some (.slice none 0 0) := (bC BK315.out 1).trans rfl; have hcz27_2 : w23.cell? ⟨gb315, 2, none⟩ = some (.slice none 0 0) := (bC BK315.out 2).trans rfl; have hfz27_0 := bF BK315.out 0; have hfz27_1 := bF BK315.out 1; have hfz27_2 := bF BK315.out 2; obtain ⟨Ao28, co28, eo28⟩ := Kd.R_slice HO310.out; subst eo28; obtain ⟨Ao29, co29, eo29⟩ := Kd.R_slice HO313.out; subst eo29))
  (try simp only [Act.put, lA, lZ, lS])
  go_cut [9] (fun v9 wc => ∃ (kq : Nat) (x9_5 : Bool), v9 = .bool x9_5 ∧ Aside0 (laws_FnSigsBlock.j0 kq t290 t303 x9_5 t281 t284 t287 t294 t297 t300 = some r) ∧ Aside0 (kq ≤ k) ∧ Aside0 (Kd.R Kd.bool 4 wc w.heap.size (fun k_ => some k_ ≠ ((.slice Ao9 t281.length co9) : Value).ownBlock ∧ some k_ ≠ ((.slice Ao11 t284.length co11) : Value).ownBlock ∧ some k_ ≠ ((.slice Ao16 t294.length co16) : Value).ownBlock ∧ some k_ ≠ ((.slice Ao19 t297.length co19) : Value).ownBlock ∧ some k_ ≠ ((.slice Ao24 t305.length co24) : Value).ownBlock ∧ some k_ ≠ ((.slice Ao28 t308.length co28) : Value).ownBlock) (.slice Ao13 t290.length co13) t290) ∧ Aside0 (Kd.Q Kd.bool 4 wc w.heap.size (fun k_ => some k_ ≠ ((.slice Ao13 t290.length co13) : Value).ownBlock ∧ some k_ ≠ ((.slice Ao11 t284.length co11) : Value).ownBlock ∧ some k_ ≠ ((.slice Ao16 t294.length co16) : Value).ownBlock ∧ some k_ ≠ ((.slice Ao19 t297.length co19) : Value).ownBlock ∧ some k_ ≠ ((.slice Ao24 t305.length co24) : Value).ownBlock ∧ some k_ ≠ ((.slice Ao28 t308.length co28) : Value).ownBlock) (.slice Ao9 t281.length co9) t281) ∧ Aside0 (Kd.R Kd.bool 4 wc w.heap.size (fun k_ => some k_ ≠ ((.slice Ao13 t290.length co13) : Value).ownBlock ∧ some k_ ≠ ((.slice Ao9 t281.length co9) : Value).ownBlock ∧ some k_ ≠ ((.slice Ao16 t294.length co16) : Value).ownBlock ∧ some k_ ≠ ((.slice Ao19 t297.length co19) : Value).ownBlock ∧ some k_ ≠ ((.slice Ao24 t305.length co24) : Value).ownBlock ∧ some k_ ≠ ((.slice Ao28 t308.length co28) : Value).ownBlock) (.slice Ao11 t284.length co11) t284) ∧ Aside0 (Kd.R (Kd.int .i64) 3 wc w.heap.size (fun k_ => some k_ ≠ ((.slice Ao20 t300.length co20) : Value).ownBlock ∧ some k_ ≠ ((.slice Ao29 t311.length co29) : Value).ownBlock) (.slice Ao12 t287.length co12) t287) ∧ Aside0 (Kd.Q Kd.bool 4 wc w.heap.size (fun k_ => some k_ ≠ ((.slice Ao13 t290.length co13) : Value).ownBlock ∧ some k_ ≠ ((.slice Ao9 t281.length co9) : Value).ownBlock ∧ some k_ ≠ ((.slice Ao11 t284.length co11) : Value).ownBlock ∧ some k_ ≠ ((.slice Ao19 t297.length co19) : Value).ownBlock ∧ some k_ ≠ ((.slice Ao24 t305.length co24) : Value).ownBlock ∧ some k_ ≠ ((.slice Ao28 t308.length co28) : Value).ownBlock) (.slice Ao16 t294.length co16) t294) ∧ Aside0 (Kd.R Kd.bool 4 wc w.heap.size (fun k_ => some k_ ≠ ((.slice Ao13 t290.length co13) : Value).ownBlock ∧ some k_ ≠ ((.slice Ao9 t281.length co9) : Value).ownBlock ∧ some k_ ≠ ((.slice Ao11 t284.length co11) : Value).ownBlock ∧ some k_ ≠ ((.slice Ao16 t294.length co16) : Value).ownBlock ∧ some k_ ≠ ((.slice Ao24 t305.length co24) : Value).ownBlock ∧ some k_ ≠ ((.slice Ao28 t308.length co28) : Value).ownBlock) (.slice Ao19 t297.length co19) t297) ∧ Aside0 (Kd.R (Kd.int .i64) 3 wc w.heap.size (fun k_ => some k_ ≠ ((.slice Ao12 t287.length co12) : Value).ownBlock ∧ some k_ ≠ ((.slice Ao29 t311.length co29) : Value).ownBlock) (.slice Ao20 t300.length co20) t300) ∧ Aside0 (Kd.Q Kd.bool 4 wc w.heap.size (fun k_ => some k_ ≠ ((.slice Ao13 t290.length co13) : Value).ownBlock ∧ some k_ ≠ ((.slice Ao9 t281.length co9) : Value).ownBlock ∧ some k_ ≠ ((.slice Ao11 t284.length co11) : Value).ownBlock ∧ some k_ ≠ ((.slice Ao16 t294.length co16) : Value).ownBlock ∧ some k_ ≠ ((.slice Ao19 t297.length co19) : Value).ownBlock ∧ some k_ ≠ ((.slice Ao28 t308.length co28) : Value).ownBlock) (.slice Ao24 t305.length co24) t305) ∧ Aside0 (Kd.R Kd.bool 4 wc w.heap.size (fun k_ => some k_ ≠ ((.slice Ao13 t290.length co13) : Value).ownBlock ∧ some k_ ≠ ((.slice Ao9 t281.length co9) : Value).ownBlock ∧ some k_ ≠ ((.slice Ao11 t284.length co11) : Value).ownBlock ∧ some k_ ≠ ((.slice Ao16 t294.length co16) : Value).ownBlock ∧ some k_ ≠ ((.slice Ao19 t297.length co19) : Value).ownBlock ∧ some k_ ≠ ((.slice Ao24 t305.length co24) : Value).ownBlock) (.slice Ao28 t308.length co28) t308) ∧ Aside0 (Kd.R (Kd.int .i64) 3 wc w.heap.size (fun k_ => some k_ ≠ ((.slice Ao12 t287.length co12) : Value).ownBlock ∧ some k_ ≠ ((.slice Ao20 t300.length co20) : Value).ownBlock) (.slice Ao29 t311.length co29) t311) ∧ Aside0 (wc.heap[gb293]? = some (.cells #[(.slice Ao9 t281.length co9), (.slice Ao11 t284.length co11), (.slice Ao12 t287.length co12)] 26 (0, 0))) ∧ Aside0 (wc.heap[gb304]? = some (.cells #[(.slice Ao16 t294.length co16), (.slice Ao19 t297.length co19), (.slice Ao20 t300.length co20)] 26 (0, 0))) ∧ Aside0 (wc.heap[gb315]? = some (.cells #[(.slice Ao24 t305.length co24), (.slice Ao28 t308.length co28), (.slice Ao29 t311.length co29)] 26 (0, 0))) ∧ Aside0 (Below w.heap.size w wc))
  case first =>
   have H := HC6.out
   clear HC6
   replace H := Option.bind_eq_some_iff.mp H
   obtain ⟨t316, A300, H⟩ := H
   replace H : (if t316 = true then (laws_FnSigsBlock.j0 k t290 t303 (t303 == t314) t281 t284 t287 t294 t297 t300) else (laws_FnSigsBlock.j0 k t290 t303 false t281 t284 t287 t294 t297 t300)) = some r := H
   have A30 := Am A300
   clear A300
   by_cases c31 : t316 = true
   ·subst c31
    have H1 : (laws_FnSigsBlock.j0 k t290 t303 (t303 == t314) t281 t284 t287 t294 t297 t300) = some r := by rw [if_pos rfl] at H; exact H
    clear H
    have H := H1
    clear H1
    have H' := Am H
    clear H
    have hnb32 := NB304_293.out
    have hnc32 := NB293_304.out
    have hnb33 := NB304_315.out
    have hnc33 := NB315_304.out
    have hcz34_0 : w23.cell? ⟨gb304, 0, none⟩ = some (.slice Ao16 t294.length co16) := (bC BK304.out 0).trans rfl
    have hcz34_1 : w23.cell? ⟨gb304, 1, none⟩ = some (.slice Ao19 t297.length co19) := (bC BK304.out 1).trans rfl
    have hcz34_2 : w23.cell? ⟨gb304, 2, none⟩ = some (.slice Ao20 t300.length co20) := (bC BK304.out 2).trans rfl
    have hfz34_0 := bF BK304.out 0
    have hfz34_1 := bF BK304.out 1
    have hfz34_2 := bF BK304.out 2
    have hnb35 := NB315_293.out
    have hnc35 := NB293_315.out
    have hcz36_0 : w23.cell? ⟨gb315, 0, none⟩ = some (.slice none 0 0) := (bC BK315.out 0).trans rfl
    have hcz36_1 : w23.cell? ⟨gb315, 1, none⟩ = some (.slice none 0 0) := (bC BK315.out 1).trans rfl
    have hcz36_2 : w23.cell? ⟨gb315, 2, none⟩ = some (.slice none 0 0) := (bC BK315.out 2).trans rfl
    have hfz36_0 := bF BK315.out 0
    have hfz36_1 := bF BK315.out 1
    have hfz36_2 := bF BK315.out 2
    go_wp2_with (first | ((with_reducible refine gate_callee (f := 14) rfl ?_); refine goesL_ (some 32) rfl rfl Try.func14 (by kernel_rfl) rfl #[.agg #[.slice Ao16 t294.length co16, .slice Ao19 t297.length co19, .slice Ao20 t300.length co20], .agg #[.slice Ao24 t305.length co24, .slice Ao28 t308.length co28, .slice Ao29 t311.length co29]] rfl (by (try simp only [lM, lC, lN]); first | done | rfl | (simp only [lD, lT]; rfl)) ?_; (with_reducible refine (laws_qdSigs.calls k _ _ t294 _ _ t297 _ _ t300 _ _ t305 _ _ t308 _ _ t311 true _ ?side1 ?side2 ?side3 ?side4 ?side5 ?side6 ?side7 ?side8 ?side9 ?side10 ?side11 ?side12 A30.out).mono ?_); (case side1 => refine (Kd.R_reads' (e := 4) (base := w.heap.size) (ok := fun k_ => (((((some k_ ≠ (.slice Ao19 t297.length co19 : Value).ownBlock ∧ some k_ ≠ (.slice Ao9 t281.length co9 : Value).ownBlock) ∧ some k_ ≠ (.slice Ao11 t284.length co11 : Value).ownBlock) ∧ some k_ ≠ (.slice Ao13 t290.length co13 : Value).ownBlock) ∧ some k_ ≠ (.slice Ao24 t305.length co24 : Value).ownBlock) ∧ some k_ ≠ (.slice Ao28 t308.length co28 : Value).ownBlock)) (n := t294.length) (c := co16) ?_).2.2; exact (by (with_reducible repeat (first | apply rA | apply rN | apply rD)); exact (rM (rF (p := ⟨gb315, 2, none⟩) (rF (p := ⟨gb315, 1, none⟩) (rF (p := ⟨gb315, 0, none⟩) (rT HO296.out BK315.out (by decide)) (fun _ hk => hk.2) (.slice Ao24 t305.length co24)) (fun _ hk => hk.2) (.slice Ao28 t308.length co28)) (fun _ hk => hk.2) (.slice Ao29 t311.length co29)) (fun _ h_ => h_.1)))); (case side2 => exact (Kd.R_reads' HO296.out).2.1); (case side3 => refine (Kd.R_reads' (e := 4) (base := w.heap.size) (ok := fun k_ => (((((some k_ ≠ (.slice Ao16 t294.length co16 : Value).ownBlock ∧ some k_ ≠ (.slice Ao9 t281.length co9 : Value).ownBlock) ∧ some k_ ≠ (.slice Ao11 t284.length co11 : Value).ownBlock) ∧ some k_ ≠ (.slice Ao13 t290.length co13 : Value).ownBlock) ∧ some k_ ≠ (.slice Ao24 t305.length co24 : Value).ownBlock) ∧ some k_ ≠ (.slice Ao28 t308.length co28 : Value).ownBlock)) (n := t297.length) (c := co19) ?_).2.2; exact (by (with_reducible repeat (first | apply rA | apply rN | apply rD)); exact (rM (rF (p := ⟨gb315, 2, none⟩) (rF (p := ⟨gb315, 1, none⟩) (rF (p := ⟨gb315, 0, none⟩) (rT HO299.out BK315.out (by decide)) (fun _ hk => hk.2) (.slice Ao24 t305.length co24)) (fun _ hk => hk.2) (.slice Ao28 t308.length co28)) (fun _ hk => hk.2) (.slice Ao29 t311.length co29)) (fun _ h_ => h_.1)))); (case side4 => exact (Kd.R_reads' HO299.out).2.1); (case side5 => refine (Kd.R_reads' (e := 3) (base := w.heap.size) (ok := fun k_ => ((True ∧ some k_ ≠ (.slice Ao12 t287.length co12 : Value).ownBlock) ∧ some k_ ≠ (.slice Ao29 t311.length co29 : Value).ownBlock)) (n := t300.length) (c := co20) ?_).2.2; exact (by (with_reducible repeat (first | apply rA | apply rN | apply rD)); exact (rM (rF (p := ⟨gb315, 2, none⟩) (rF (p := ⟨gb315, 1, none⟩) (rF (p := ⟨gb315, 0, none⟩) (rT HO302.out BK315.out (by decide)) (fun _ hk => hk.2) (.slice Ao24 t305.length co24)) (fun _ hk => hk.2) (.slice Ao28 t308.length co28)) (fun _ hk => hk.2) (.slice Ao29 t311.length co29)) (fun _ h_ => h_.1)))); (case side6 => exact (Kd.R_reads' HO302.out).2.1); (case side7 => refine (Kd.R_reads' (e := 4) (base := w.heap.size) (ok := fun k_ => (((((some k_ ≠ (.slice Ao28 t308.length co28 : Value).ownBlock ∧ some k_ ≠ (.slice Ao9 t281.length co9 : Value).ownBlock) ∧ some k_ ≠ (.slice Ao11 t284.length co11 : Value).ownBlock) ∧ some k_ ≠ (.slice Ao13 t290.length co13 : Value).ownBlock) ∧ some k_ ≠ (.slice Ao16 t294.length co16 : Value).ownBlock) ∧ some k_ ≠ (.slice Ao19 t297.length co19 : Value).ownBlock)) (n := t305.length) (c := co24) ?_).2.2; exact (by (with_reducible repeat (first | apply rA | apply rN | apply rD)); exact (rM (rF (p := ⟨gb315, 2, none⟩) (rF (p := ⟨gb315, 1, none⟩) (rF (p := ⟨gb315, 0, none⟩) (rT HO307.out BK315.out (by decide)) (fun _ hk => hk.2) (.slice Ao24 t305.length co24)) (fun _ hk => hk.2) (.slice Ao28 t308.length co28)) (fun _ hk => hk.2) (.slice Ao29 t311.length co29)) (fun _ h_ => h_.1)))); (case side8 => exact (Kd.R_reads' HO307.out).2.1); (case side9 => refine (Kd.R_reads' (e := 4) (base := w.heap.size) (ok := fun k_ => (((((some k_ ≠ (.slice Ao24 t305.length co24 : Value).ownBlock ∧ some k_ ≠ (.slice Ao9 t281.length co9 : Value).ownBlock) ∧ some k_ ≠ (.slice Ao11 t284.length co11 : Value).ownBlock) ∧ some k_ ≠ (.slice Ao13 t290.length co13 : Value).ownBlock) ∧ some k_ ≠ (.slice Ao16 t294.length co16 : Value).ownBlock) ∧ some k_ ≠ (.slice Ao19 t297.length co19 : Value).ownBlock)) (n := t308.length) (c := co28) ?_).2.2; exact (by (with_reducible repeat (first | apply rA | apply rN | apply rD)); exact (rM (rF (p := ⟨gb315, 2, none⟩) (rF (p := ⟨gb315, 1, none⟩) (rF (p := ⟨gb315, 0, none⟩) (rT HO310.out BK315.out (by decide)) (fun _ hk => hk.2) (.slice Ao24 t305.length co24)) (fun _ hk => hk.2) (.slice Ao28 t308.length co28)) (fun _ hk => hk.2) (.slice Ao29 t311.length co29)) (fun _ h_ => h_.1)))); (case side10 => exact (Kd.R_reads' HO310.out).2.1); (case side11 => refine (Kd.R_reads' (e := 3) (base := w.heap.size) (ok := fun k_ => ((True ∧ some k_ ≠ (.slice Ao12 t287.length co12 : Value).ownBlock) ∧ some k_ ≠ (.slice Ao20 t300.length co20 : Value).ownBlock)) (n := t311.length) (c := co29) ?_).2.2; exact (by (with_reducible repeat (first | apply rA | apply rN | apply rD)); exact (rM (rF (p := ⟨gb315, 2, none⟩) (rF (p := ⟨gb315, 1, none⟩) (rF (p := ⟨gb315, 0, none⟩) (rT HO313.out BK315.out (by decide)) (fun _ hk => hk.2) (.slice Ao24 t305.length co24)) (fun _ hk => hk.2) (.slice Ao28 t308.length co28)) (fun _ hk => hk.2) (.slice Ao29 t311.length co29)) (fun _ h_ => h_.1)))); (case side12 => exact (Kd.R_reads' HO313.out).2.1); rintro e w37 ⟨rfl, hb⟩; refine ⟨_, rfl, ?_⟩; have n0_ := Am (Kd.Q_below (by (with_reducible repeat (first | apply Kd.Q_alloc | apply Kd.Q_drewN | apply Kd.Q_drew)); exact (Kd.Q_mono (Kd.Q_far (p := ⟨gb315, 2, none⟩) (Kd.Q_far (p := ⟨gb315, 1, none⟩) (Kd.Q_far (p := ⟨gb315, 0, none⟩) (Kd.Q_types HO283.out BK315.out (by decide)) (fun _ hk => hk.2) (.slice Ao24 t305.length co24)) (fun _ hk => hk.2) (.slice Ao28 t308.length co28)) (fun _ hk => hk.2) (.slice Ao29 t311.length co29)) (fun _ h_ => h_.1))) hb); have n1_ := Am (rB (by (with_reducible repeat (first | apply rA | apply rN | apply rD)); exact (rM (rF (p := ⟨gb315, 2, none⟩) (rF (p := ⟨gb315, 1, none⟩) (rF (p := ⟨gb315, 0, none⟩) (rT HO286.out BK315.out (by decide)) (fun _ hk => hk.2) (.slice Ao24 t305.length co24)) (fun _ hk => hk.2) (.slice Ao28 t308.length co28)) (fun _ hk => hk.2) (.slice Ao29 t311.length co29)) (fun _ h_ => h_.1))) hb); have n2_ := Am (rB (by (with_reducible repeat (first | apply rA | apply rN | apply rD)); exact (rM (rF (p := ⟨gb315, 2, none⟩) (rF (p := ⟨gb315, 1, none⟩) (rF (p := ⟨gb315, 0, none⟩) (rT HO289.out BK315.out (by decide)) (fun _ hk => hk.2) (.slice Ao24 t305.length co24)) (fun _ hk => hk.2) (.slice Ao28 t308.length co28)) (fun _ hk => hk.2) (.slice Ao29 t311.length co29)) (fun _ h_ => h_.1))) hb); have n3_ := Am (rB (by (with_reducible repeat (first | apply rA | apply rN | apply rD)); exact (rM (rF (p := ⟨gb315, 2, none⟩) (rF (p := ⟨gb315, 1, none⟩) (rF (p := ⟨gb315, 0, none⟩) (rT HO292.out BK315.out (by decide)) (fun _ hk => hk.2) (.slice Ao24 t305.length co24)) (fun _ hk => hk.2) (.slice Ao28 t308.length co28)) (fun _ hk => hk.2) (.slice Ao29 t311.length co29)) (fun _ h_ => h_.1))) hb); have n4_ := Am (rB (by (with_reducible repeat (first | apply rA | apply rN | apply rD)); exact (rM (rF (p := ⟨gb315, 2, none⟩) (rF (p := ⟨gb315, 1, none⟩) (rF (p := ⟨gb315, 0, none⟩) (rT HO296.out BK315.out (by decide)) (fun _ hk => hk.2) (.slice Ao24 t305.length co24)) (fun _ hk => hk.2) (.slice Ao28 t308.length co28)) (fun _ hk => hk.2) (.slice Ao29 t311.length co29)) (fun _ h_ => h_.1))) hb); have n5_ := Am (rB (by (with_reducible repeat (first | apply rA | apply rN | apply rD)); exact (rM (rF (p := ⟨gb315, 2, none⟩) (rF (p := ⟨gb315, 1, none⟩) (rF (p := ⟨gb315, 0, none⟩) (rT HO299.out BK315.out (by decide)) (fun _ hk => hk.2) (.slice Ao24 t305.length co24)) (fun _ hk => hk.2) (.slice Ao28 t308.length co28)) (fun _ hk => hk.2) (.slice Ao29 t311.length co29)) (fun _ h_ => h_.1))) hb); have n6_ := Am (rB (by (with_reducible repeat (first | apply rA | apply rN | apply rD)); exact (rM (rF (p := ⟨gb315, 2, none⟩) (rF (p := ⟨gb315, 1, none⟩) (rF (p := ⟨gb315, 0, none⟩) (rT HO302.out BK315.out (by decide)) (fun _ hk => hk.2) (.slice Ao24 t305.length co24)) (fun _ hk => hk.2) (.slice Ao28 t308.length co28)) (fun _ hk => hk.2) (.slice Ao29 t311.length co29)) (fun _ h_ => h_.1))) hb); have n7_ := Am (rB (by (with_reducible repeat (first | apply rA | apply rN | apply rD)); exact (rM (rF (p := ⟨gb315, 2, none⟩) (rF (p := ⟨gb315, 1, none⟩) (rF (p := ⟨gb315, 0, none⟩) (rT HO307.out BK315.out (by decide)) (fun _ hk => hk.2) (.slice Ao24 t305.length co24)) (fun _ hk => hk.2) (.slice Ao28 t308.length co28)) (fun _ hk => hk.2) (.slice Ao29 t311.length co29)) (fun _ h_ => h_.1))) hb); have n8_ := Am (rB (by (with_reducible repeat (first | apply rA | apply rN | apply rD)); exact (rM (rF (p := ⟨gb315, 2, none⟩) (rF (p := ⟨gb315, 1, none⟩) (rF (p := ⟨gb315, 0, none⟩) (rT HO310.out BK315.out (by decide)) (fun _ hk => hk.2) (.slice Ao24 t305.length co24)) (fun _ hk => hk.2) (.slice Ao28 t308.length co28)) (fun _ hk => hk.2) (.slice Ao29 t311.length co29)) (fun _ h_ => h_.1))) hb); have n9_ := Am (rB (by (with_reducible repeat (first | apply rA | apply rN | apply rD)); exact (rM (rF (p := ⟨gb315, 2, none⟩) (rF (p := ⟨gb315, 1, none⟩) (rF (p := ⟨gb315, 0, none⟩) (rT HO313.out BK315.out (by decide)) (fun _ hk => hk.2) (.slice Ao24 t305.length co24)) (fun _ hk => hk.2) (.slice Ao28 t308.length co28)) (fun _ hk => hk.2) (.slice Ao29 t311.length co29)) (fun _ h_ => h_.1))) hb); have n10_ := Am (bB (g := gb293) (o := .cells #[.slice Ao9 t281.length co9, .slice Ao11 t284.length co11, .slice Ao12 t287.length co12] 26 (0, 0)) (by (with_reducible repeat (first | refine bN ?_ _ | refine bD ?_ | refine bA ?_ _)); refine blk_far ?_ NB293_315.out _; (with_reducible repeat (first | refine bN ?_ _ | refine bD ?_ | refine bA ?_ _)); refine blk_far ?_ NB293_315.out _; (with_reducible repeat (first | refine bN ?_ _ | refine bD ?_ | refine bA ?_ _)); refine blk_far ?_ NB293_315.out _; (with_reducible repeat (first | refine bN ?_ _ | refine bD ?_ | refine bA ?_ _)); exact BK293.out) hb); have n11_ := Am (bB (g := gb304) (o := .cells #[.slice Ao16 t294.length co16, .slice Ao19 t297.length co19, .slice Ao20 t300.length co20] 26 (0, 0)) (by (with_reducible repeat (first | refine bN ?_ _ | refine bD ?_ | refine bA ?_ _)); refine blk_far ?_ NB304_315.out _; (with_reducible repeat (first | refine bN ?_ _ | refine bD ?_ | refine bA ?_ _)); refine blk_far ?_ NB304_315.out _; (with_reducible repeat (first | refine bN ?_ _ | refine bD ?_ | refine bA ?_ _)); refine blk_far ?_ NB304_315.out _; (with_reducible repeat (first | refine bN ?_ _ | refine bD ?_ | refine bA ?_ _)); exact BK304.out) hb); have n12_ := Am (bB (g := gb315) (o := .cells #[.slice Ao24 t305.length co24, .slice Ao28 t308.length co28, .slice Ao29 t311.length co29] 26 (0, 0)) (by (with_reducible repeat (first | refine bN ?_ _ | refine bD ?_ | refine bA ?_ _)); refine blk_put (cs := #[.slice Ao24 t305.length co24, .slice Ao28 t308.length co28, .slice none 0 0]) ?_ 2 _ rfl; (with_reducible repeat (first | refine bN ?_ _ | refine bD ?_ | refine bA ?_ _)); refine blk_put (cs := #[.slice Ao24 t305.length co24, .slice none 0 0, .slice none 0 0]) ?_ 1 _ rfl; (with_reducible repeat (first | refine bN ?_ _ | refine bD ?_ | refine bA ?_ _)); refine blk_put (cs := #[.slice none 0 0, .slice none 0 0, .slice none 0 0]) ?_ 0 _ rfl; (with_reducible repeat (first | refine bN ?_ _ | refine bD ?_ | refine bA ?_ _)); exact BK315.out) hb); have n13_ := Am (bP (by repeat (first | (with_reducible first | exact HB.out | apply oA | apply pN | apply o1 | refine bS ?_ GE293.out | refine bS ?_ GE304.out | refine bS ?_ GE315.out) | exact HB.out)) hb); clear HO283; clear HO286; clear HO289; clear HO292; clear HO296; clear HO299; clear HO302; clear HO307; clear HO310; clear HO313; clear BK293; clear BK304; clear BK315; clear HB; have HO283 := n0_; have HO286 := n1_; have HO289 := n2_; have HO292 := n3_; have HO296 := n4_; have HO299 := n5_; have HO302 := n6_; have HO307 := n7_; have HO310 := n8_; have HO313 := n9_; have BK293 := n10_; have BK304 := n11_; have BK315 := n12_; have HB := n13_; clear n0_ n1_ n2_ n3_ n4_ n5_ n6_ n7_ n8_ n9_ n10_ n11_ n12_ n13_; (try clear hb); (try clear hb2); (try clear hk); (try clear hi)))
    go_meet
    case rel => exact ⟨_, ((t303 == t314)), (by first | rfl | (simp; done) | (simp [*]; done)), H', ⟨by first | omega | exact Nat.le_refl _⟩, ⟨by (with_reducible repeat (first | apply rA | apply rN | apply rD)); exact rM HO292.out (fun _ hk => ⟨hk.1.1.1.1.1, ⟨hk.1.1.1.1.2, ⟨hk.1.1.1.2, ⟨hk.1.1.2, ⟨hk.1.2, hk.2⟩⟩⟩⟩⟩)⟩, ⟨by (with_reducible repeat (first | apply Kd.Q_alloc | apply Kd.Q_drewN | apply Kd.Q_drew)); exact Kd.Q_mono HO283.out (fun _ hk => ⟨hk.1.1.1.1.2, ⟨hk.1.1.1.1.1, ⟨hk.1.1.1.2, ⟨hk.1.1.2, ⟨hk.1.2, hk.2⟩⟩⟩⟩⟩)⟩, ⟨by (with_reducible repeat (first | apply rA | apply rN | apply rD)); exact rM HO286.out (fun _ hk => ⟨hk.1.1.1.1.2, ⟨hk.1.1.1.1.1, ⟨hk.1.1.1.2, ⟨hk.1.1.2, ⟨hk.1.2, hk.2⟩⟩⟩⟩⟩)⟩, ⟨by (with_reducible repeat (first | apply rA | apply rN | apply rD)); exact rM HO289.out (fun _ hk => ⟨hk.1.2, hk.2⟩)⟩, ⟨Kd.Q_of_R (by (with_reducible repeat (first | apply rA | apply rN | apply rD)); exact rM HO296.out (fun _ hk => ⟨hk.1.1.2, ⟨hk.1.1.1.1.2, ⟨hk.1.1.1.2, ⟨hk.1.1.1.1.1, ⟨hk.1.2, hk.2⟩⟩⟩⟩⟩))⟩, ⟨by (with_reducible repeat (first | apply rA | apply rN | apply rD)); exact rM HO299.out (fun _ hk => ⟨hk.1.1.2, ⟨hk.1.1.1.1.2, ⟨hk.1.1.1.2, ⟨hk.1.1.1.1.1, ⟨hk.1.2, hk.2⟩⟩⟩⟩⟩)⟩, ⟨by (with_reducible repeat (first | apply rA | apply rN | apply rD)); exact rM HO302.out (fun _ hk => ⟨hk.1.2, hk.2⟩)⟩, ⟨Kd.Q_of_R (by (with_reducible repeat (first | apply rA | apply rN | apply rD)); exact rM HO307.out (fun _ hk => ⟨hk.1.1.2, ⟨hk.1.1.1.1.2, ⟨hk.1.1.1.2, ⟨hk.1.2, ⟨hk.2, hk.1.1.1.1.1⟩⟩⟩⟩⟩))⟩, ⟨by (with_reducible repeat (first | apply rA | apply rN | apply rD)); exact rM HO310.out (fun _ hk => ⟨hk.1.1.2, ⟨hk.1.1.1.1.2, ⟨hk.1.1.1.2, ⟨hk.1.2, ⟨hk.2, hk.1.1.1.1.1⟩⟩⟩⟩⟩)⟩, ⟨by (with_reducible repeat (first | apply rA | apply rN | apply rD)); exact rM HO313.out (fun _ hk => ⟨hk.1.2, hk.2⟩)⟩, ⟨by (with_reducible repeat (first | refine bN ?_ _ | refine bD ?_ | refine bA ?_ _)); exact BK293.out⟩, ⟨by (with_reducible repeat (first | refine bN ?_ _ | refine bD ?_ | refine bA ?_ _)); exact BK304.out⟩, ⟨by (with_reducible repeat (first | refine bN ?_ _ | refine bD ?_ | refine bA ?_ _)); exact BK315.out⟩, ⟨by repeat (first | (with_reducible first | exact HB.out | apply oA | apply pN | apply o1 | refine bS ?_ GE293.out | refine bS ?_ GE304.out | refine bS ?_ GE315.out) | exact HB.out)⟩⟩
   ·replace c31 := Bool.eq_false_iff.mpr c31
    subst c31
    have H1 : (laws_FnSigsBlock.j0 k t290 t303 false t281 t284 t287 t294 t297 t300) = some r := by rw [if_neg (show ¬ (false = true) by decide)] at H; exact H
    clear H
    have H := H1
    clear H1
    have H' := Am H
    clear H
    have hnb38 := NB304_293.out
    have hnc38 := NB293_304.out
    have hnb39 := NB304_315.out
    have hnc39 := NB315_304.out
    have hcz40_0 : w23.cell? ⟨gb304, 0, none⟩ = some (.slice Ao16 t294.length co16) := (bC BK304.out 0).trans rfl
    have hcz40_1 : w23.cell? ⟨gb304, 1, none⟩ = some (.slice Ao19 t297.length co19) := (bC BK304.out 1).trans rfl
    have hcz40_2 : w23.cell? ⟨gb304, 2, none⟩ = some (.slice Ao20 t300.length co20) := (bC BK304.out 2).trans rfl
    have hfz40_0 := bF BK304.out 0
    have hfz40_1 := bF BK304.out 1
    have hfz40_2 := bF BK304.out 2
    have hnb41 := NB315_293.out
    have hnc41 := NB293_315.out
    have hcz42_0 : w23.cell? ⟨gb315, 0, none⟩ = some (.slice none 0 0) := (bC BK315.out 0).trans rfl
    have hcz42_1 : w23.cell? ⟨gb315, 1, none⟩ = some (.slice none 0 0) := (bC BK315.out 1).trans rfl
    have hcz42_2 : w23.cell? ⟨gb315, 2, none⟩ = some (.slice none 0 0) := (bC BK315.out 2).trans rfl
    have hfz42_0 := bF BK315.out 0
    have hfz42_1 := bF BK315.out 1
    have hfz42_2 := bF BK315.out 2
    go_wp2_with (first | ((with_reducible refine gate_callee (f := 14) rfl ?_); refine goesL_ (some 32) rfl rfl Try.func14 (by kernel_rfl) rfl #[.agg #[.slice Ao16 t294.length co16, .slice Ao19 t297.length co19, .slice Ao20 t300.length co20], .agg #[.slice Ao24 t305.length co24, .slice Ao28 t308.length co28, .slice Ao29 t311.length co29]] rfl (by (try simp only [lM, lC, lN]); first | done | rfl | (simp only [lD, lT]; rfl)) ?_; (with_reducible refine (laws_qdSigs.calls k _ _ t294 _ _ t297 _ _ t300 _ _ t305 _ _ t308 _ _ t311 false _ ?side1 ?side2 ?side3 ?side4 ?side5 ?side6 ?side7 ?side8 ?side9 ?side10 ?side11 ?side12 A30.out).mono ?_); (case side1 => refine (Kd.R_reads' (e := 4) (base := w.heap.size) (ok := fun k_ => (((((some k_ ≠ (.slice Ao19 t297.length co19 : Value).ownBlock ∧ some k_ ≠ (.slice Ao9 t281.length co9 : Value).ownBlock) ∧ some k_ ≠ (.slice Ao11 t284.length co11 : Value).ownBlock) ∧ some k_ ≠ (.slice Ao13 t290.length co13 : Value).ownBlock) ∧ some k_ ≠ (.slice Ao24 t305.length co24 : Value).ownBlock) ∧ some k_ ≠ (.slice Ao28 t308.length co28 : Value).ownBlock)) (n := t294.length) (c := co16) ?_).2.2; exact (by (with_reducible repeat (first | apply rA | apply rN | apply rD)); exact (rM (rF (p := ⟨gb315, 2, none⟩) (rF (p := ⟨gb315, 1, none⟩) (rF (p := ⟨gb315, 0, none⟩) (rT HO296.out BK315.out (by decide)) (fun _ hk => hk.2) (.slice Ao24 t305.length co24)) (fun _ hk => hk.2) (.slice Ao28 t308.length co28)) (fun _ hk => hk.2) (.slice Ao29 t311.length co29)) (fun _ h_ => h_.1)))); (case side2 => exact (Kd.R_reads' HO296.out).2.1); (case side3 => refine (Kd.R_reads' (e := 4) (base := w.heap.size) (ok := fun k_ => (((((some k_ ≠ (.slice Ao16 t294.length co16 : Value).ownBlock ∧ some k_ ≠ (.slice Ao9 t281.length co9 : Value).ownBlock) ∧ some k_ ≠ (.slice Ao11 t284.length co11 : Value).ownBlock) ∧ some k_ ≠ (.slice Ao13 t290.length co13 : Value).ownBlock) ∧ some k_ ≠ (.slice Ao24 t305.length co24 : Value).ownBlock) ∧ some k_ ≠ (.slice Ao28 t308.length co28 : Value).ownBlock)) (n := t297.length) (c := co19) ?_).2.2; exact (by (with_reducible repeat (first | apply rA | apply rN | apply rD)); exact (rM (rF (p := ⟨gb315, 2, none⟩) (rF (p := ⟨gb315, 1, none⟩) (rF (p := ⟨gb315, 0, none⟩) (rT HO299.out BK315.out (by decide)) (fun _ hk => hk.2) (.slice Ao24 t305.length co24)) (fun _ hk => hk.2) (.slice Ao28 t308.length co28)) (fun _ hk => hk.2) (.slice Ao29 t311.length co29)) (fun _ h_ => h_.1)))); (case side4 => exact (Kd.R_reads' HO299.out).2.1); (case side5 => refine (Kd.R_reads' (e := 3) (base := w.heap.size) (ok := fun k_ => ((True ∧ some k_ ≠ (.slice Ao12 t287.length co12 : Value).ownBlock) ∧ some k_ ≠ (.slice Ao29 t311.length co29 : Value).ownBlock)) (n := t300.length) (c := co20) ?_).2.2; exact (by (with_reducible repeat (first | apply rA | apply rN | apply rD)); exact (rM (rF (p := ⟨gb315, 2, none⟩) (rF (p := ⟨gb315, 1, none⟩) (rF (p := ⟨gb315, 0, none⟩) (rT HO302.out BK315.out (by decide)) (fun _ hk => hk.2) (.slice Ao24 t305.length co24)) (fun _ hk => hk.2) (.slice Ao28 t308.length co28)) (fun _ hk => hk.2) (.slice Ao29 t311.length co29)) (fun _ h_ => h_.1)))); (case side6 => exact (Kd.R_reads' HO302.out).2.1); (case side7 => refine (Kd.R_reads' (e := 4) (base := w.heap.size) (ok := fun k_ => (((((some k_ ≠ (.slice Ao28 t308.length co28 : Value).ownBlock ∧ some k_ ≠ (.slice Ao9 t281.length co9 : Value).ownBlock) ∧ some k_ ≠ (.slice Ao11 t284.length co11 : Value).ownBlock) ∧ some k_ ≠ (.slice Ao13 t290.length co13 : Value).ownBlock) ∧ some k_ ≠ (.slice Ao16 t294.length co16 : Value).ownBlock) ∧ some k_ ≠ (.slice Ao19 t297.length co19 : Value).ownBlock)) (n := t305.length) (c := co24) ?_).2.2; exact (by (with_reducible repeat (first | apply rA | apply rN | apply rD)); exact (rM (rF (p := ⟨gb315, 2, none⟩) (rF (p := ⟨gb315, 1, none⟩) (rF (p := ⟨gb315, 0, none⟩) (rT HO307.out BK315.out (by decide)) (fun _ hk => hk.2) (.slice Ao24 t305.length co24)) (fun _ hk => hk.2) (.slice Ao28 t308.length co28)) (fun _ hk => hk.2) (.slice Ao29 t311.length co29)) (fun _ h_ => h_.1)))); (case side8 => exact (Kd.R_reads' HO307.out).2.1); (case side9 => refine (Kd.R_reads' (e := 4) (base := w.heap.size) (ok := fun k_ => (((((some k_ ≠ (.slice Ao24 t305.length co24 : Value).ownBlock ∧ some k_ ≠ (.slice Ao9 t281.length co9 : Value).ownBlock) ∧ some k_ ≠ (.slice Ao11 t284.length co11 : Value).ownBlock) ∧ some k_ ≠ (.slice Ao13 t290.length co13 : Value).ownBlock) ∧ some k_ ≠ (.slice Ao16 t294.length co16 : Value).ownBlock) ∧ some k_ ≠ (.slice Ao19 t297.length co19 : Value).ownBlock)) (n := t308.length) (c := co28) ?_).2.2; exact (by (with_reducible repeat (first | apply rA | apply rN | apply rD)); exact (rM (rF (p := ⟨gb315, 2, none⟩) (rF (p := ⟨gb315, 1, none⟩) (rF (p := ⟨gb315, 0, none⟩) (rT HO310.out BK315.out (by decide)) (fun _ hk => hk.2) (.slice Ao24 t305.length co24)) (fun _ hk => hk.2) (.slice Ao28 t308.length co28)) (fun _ hk => hk.2) (.slice Ao29 t311.length co29)) (fun _ h_ => h_.1)))); (case side10 => exact (Kd.R_reads' HO310.out).2.1); (case side11 => refine (Kd.R_reads' (e := 3) (base := w.heap.size) (ok := fun k_ => ((True ∧ some k_ ≠ (.slice Ao12 t287.length co12 : Value).ownBlock) ∧ some k_ ≠ (.slice Ao20 t300.length co20 : Value).ownBlock)) (n := t311.length) (c := co29) ?_).2.2; exact (by (with_reducible repeat (first | apply rA | apply rN | apply rD)); exact (rM (rF (p := ⟨gb315, 2, none⟩) (rF (p := ⟨gb315, 1, none⟩) (rF (p := ⟨gb315, 0, none⟩) (rT HO313.out BK315.out (by decide)) (fun _ hk => hk.2) (.slice Ao24 t305.length co24)) (fun _ hk => hk.2) (.slice Ao28 t308.length co28)) (fun _ hk => hk.2) (.slice Ao29 t311.length co29)) (fun _ h_ => h_.1)))); (case side12 => exact (Kd.R_reads' HO313.out).2.1); rintro e w43 ⟨rfl, hb⟩; refine ⟨_, rfl, ?_⟩; have n0_ := Am (Kd.Q_below (by (with_reducible repeat (first | apply Kd.Q_alloc | apply Kd.Q_drewN | apply Kd.Q_drew)); exact (Kd.Q_mono (Kd.Q_far (p := ⟨gb315, 2, none⟩) (Kd.Q_far (p := ⟨gb315, 1, none⟩) (Kd.Q_far (p := ⟨gb315, 0, none⟩) (Kd.Q_types HO283.out BK315.out (by decide)) (fun _ hk => hk.2) (.slice Ao24 t305.length co24)) (fun _ hk => hk.2) (.slice Ao28 t308.length co28)) (fun _ hk => hk.2) (.slice Ao29 t311.length co29)) (fun _ h_ => h_.1))) hb); have n1_ := Am (rB (by (with_reducible repeat (first | apply rA | apply rN | apply rD)); exact (rM (rF (p := ⟨gb315, 2, none⟩) (rF (p := ⟨gb315, 1, none⟩) (rF (p := ⟨gb315, 0, none⟩) (rT HO286.out BK315.out (by decide)) (fun _ hk => hk.2) (.slice Ao24 t305.length co24)) (fun _ hk => hk.2) (.slice Ao28 t308.length co28)) (fun _ hk => hk.2) (.slice Ao29 t311.length co29)) (fun _ h_ => h_.1))) hb); have n2_ := Am (rB (by (with_reducible repeat (first | apply rA | apply rN | apply rD)); exact (rM (rF (p := ⟨gb315, 2, none⟩) (rF (p := ⟨gb315, 1, none⟩) (rF (p := ⟨gb315, 0, none⟩) (rT HO289.out BK315.out (by decide)) (fun _ hk => hk.2) (.slice Ao24 t305.length co24)) (fun _ hk => hk.2) (.slice Ao28 t308.length co28)) (fun _ hk => hk.2) (.slice Ao29 t311.length co29)) (fun _ h_ => h_.1))) hb); have n3_ := Am (rB (by (with_reducible repeat (first | apply rA | apply rN | apply rD)); exact (rM (rF (p := ⟨gb315, 2, none⟩) (rF (p := ⟨gb315, 1, none⟩) (rF (p := ⟨gb315, 0, none⟩) (rT HO292.out BK315.out (by decide)) (fun _ hk => hk.2) (.slice Ao24 t305.length co24)) (fun _ hk => hk.2) (.slice Ao28 t308.length co28)) (fun _ hk => hk.2) (.slice Ao29 t311.length co29)) (fun _ h_ => h_.1))) hb); have n4_ := Am (rB (by (with_reducible repeat (first | apply rA | apply rN | apply rD)); exact (rM (rF (p := ⟨gb315, 2, none⟩) (rF (p := ⟨gb315, 1, none⟩) (rF (p := ⟨gb315, 0, none⟩) (rT HO296.out BK315.out (by decide)) (fun _ hk => hk.2) (.slice Ao24 t305.length co24)) (fun _ hk => hk.2) (.slice Ao28 t308.length co28)) (fun _ hk => hk.2) (.slice Ao29 t311.length co29)) (fun _ h_ => h_.1))) hb); have n5_ := Am (rB (by (with_reducible repeat (first | apply rA | apply rN | apply rD)); exact (rM (rF (p := ⟨gb315, 2, none⟩) (rF (p := ⟨gb315, 1, none⟩) (rF (p := ⟨gb315, 0, none⟩) (rT HO299.out BK315.out (by decide)) (fun _ hk => hk.2) (.slice Ao24 t305.length co24)) (fun _ hk => hk.2) (.slice Ao28 t308.length co28)) (fun _ hk => hk.2) (.slice Ao29 t311.length co29)) (fun _ h_ => h_.1))) hb); have n6_ := Am (rB (by (with_reducible repeat (first | apply rA | apply rN | apply rD)); exact (rM (rF (p := ⟨gb315, 2, none⟩) (rF (p := ⟨gb315, 1, none⟩) (rF (p := ⟨gb315, 0, none⟩) (rT HO302.out BK315.out (by decide)) (fun _ hk => hk.2) (.slice Ao24 t305.length co24)) (fun _ hk => hk.2) (.slice Ao28 t308.length co28)) (fun _ hk => hk.2) (.slice Ao29 t311.length co29)) (fun _ h_ => h_.1))) hb); have n7_ := Am (rB (by (with_reducible repeat (first | apply rA | apply rN | apply rD)); exact (rM (rF (p := ⟨gb315, 2, none⟩) (rF (p := ⟨gb315, 1, none⟩) (rF (p := ⟨gb315, 0, none⟩) (rT HO307.out BK315.out (by decide)) (fun _ hk => hk.2) (.slice Ao24 t305.length co24)) (fun _ hk => hk.2) (.slice Ao28 t308.length co28)) (fun _ hk => hk.2) (.slice Ao29 t311.length co29)) (fun _ h_ => h_.1))) hb); have n8_ := Am (rB (by (with_reducible repeat (first | apply rA | apply rN | apply rD)); exact (rM (rF (p := ⟨gb315, 2, none⟩) (rF (p := ⟨gb315, 1, none⟩) (rF (p := ⟨gb315, 0, none⟩) (rT HO310.out BK315.out (by decide)) (fun _ hk => hk.2) (.slice Ao24 t305.length co24)) (fun _ hk => hk.2) (.slice Ao28 t308.length co28)) (fun _ hk => hk.2) (.slice Ao29 t311.length co29)) (fun _ h_ => h_.1))) hb); have n9_ := Am (rB (by (with_reducible repeat (first | apply rA | apply rN | apply rD)); exact (rM (rF (p := ⟨gb315, 2, none⟩) (rF (p := ⟨gb315, 1, none⟩) (rF (p := ⟨gb315, 0, none⟩) (rT HO313.out BK315.out (by decide)) (fun _ hk => hk.2) (.slice Ao24 t305.length co24)) (fun _ hk => hk.2) (.slice Ao28 t308.length co28)) (fun _ hk => hk.2) (.slice Ao29 t311.length co29)) (fun _ h_ => h_.1))) hb); have n10_ := Am (bB (g := gb293) (o := .cells #[.slice Ao9 t281.length co9, .slice Ao11 t284.length co11, .slice Ao12 t287.length co12] 26 (0, 0)) (by (with_reducible repeat (first | refine bN ?_ _ | refine bD ?_ | refine bA ?_ _)); refine blk_far ?_ NB293_315.out _; (with_reducible repeat (first | refine bN ?_ _ | refine bD ?_ | refine bA ?_ _)); refine blk_far ?_ NB293_315.out _; (with_reducible repeat (first | refine bN ?_ _ | refine bD ?_ | refine bA ?_ _)); refine blk_far ?_ NB293_315.out _; (with_reducible repeat (first | refine bN ?_ _ | refine bD ?_ | refine bA ?_ _)); exact BK293.out) hb); have n11_ := Am (bB (g := gb304) (o := .cells #[.slice Ao16 t294.length co16, .slice Ao19 t297.length co19, .slice Ao20 t300.length co20] 26 (0, 0)) (by (with_reducible repeat (first | refine bN ?_ _ | refine bD ?_ | refine bA ?_ _)); refine blk_far ?_ NB304_315.out _; (with_reducible repeat (first | refine bN ?_ _ | refine bD ?_ | refine bA ?_ _)); refine blk_far ?_ NB304_315.out _; (with_reducible repeat (first | refine bN ?_ _ | refine bD ?_ | refine bA ?_ _)); refine blk_far ?_ NB304_315.out _; (with_reducible repeat (first | refine bN ?_ _ | refine bD ?_ | refine bA ?_ _)); exact BK304.out) hb); have n12_ := Am (bB (g := gb315) (o := .cells #[.slice Ao24 t305.length co24, .slice Ao28 t308.length co28, .slice Ao29 t311.length co29] 26 (0, 0)) (by (with_reducible repeat (first | refine bN ?_ _ | refine bD ?_ | refine bA ?_ _)); refine blk_put (cs := #[.slice Ao24 t305.length co24, .slice Ao28 t308.length co28, .slice none 0 0]) ?_ 2 _ rfl; (with_reducible repeat (first | refine bN ?_ _ | refine bD ?_ | refine bA ?_ _)); refine blk_put (cs := #[.slice Ao24 t305.length co24, .slice none 0 0, .slice none 0 0]) ?_ 1 _ rfl; (with_reducible repeat (first | refine bN ?_ _ | refine bD ?_ | refine bA ?_ _)); refine blk_put (cs := #[.slice none 0 0, .slice none 0 0, .slice none 0 0]) ?_ 0 _ rfl; (with_reducible repeat (first | refine bN ?_ _ | refine bD ?_ | refine bA ?_ _)); exact BK315.out) hb); have n13_ := Am (bP (by repeat (first | (with_reducible first | exact HB.out | apply oA | apply pN | apply o1 | refine bS ?_ GE293.out | refine bS ?_ GE304.out | refine bS ?_ GE315.out) | exact HB.out)) hb); clear HO283; clear HO286; clear HO289; clear HO292; clear HO296; clear HO299; clear HO302; clear HO307; clear HO310; clear HO313; clear BK293; clear BK304; clear BK315; clear HB; have HO283 := n0_; have HO286 := n1_; have HO289 := n2_; have HO292 := n3_; have HO296 := n4_; have HO299 := n5_; have HO302 := n6_; have HO307 := n7_; have HO310 := n8_; have HO313 := n9_; have BK293 := n10_; have BK304 := n11_; have BK315 := n12_; have HB := n13_; clear n0_ n1_ n2_ n3_ n4_ n5_ n6_ n7_ n8_ n9_ n10_ n11_ n12_ n13_; (try clear hb); (try clear hb2); (try clear hk); (try clear hi)))
    go_meet
    case rel => exact ⟨_, (false), (by first | rfl | (simp; done) | (simp [*]; done)), H', ⟨by first | omega | exact Nat.le_refl _⟩, ⟨by (with_reducible repeat (first | apply rA | apply rN | apply rD)); exact rM HO292.out (fun _ hk => ⟨hk.1.1.1.1.1, ⟨hk.1.1.1.1.2, ⟨hk.1.1.1.2, ⟨hk.1.1.2, ⟨hk.1.2, hk.2⟩⟩⟩⟩⟩)⟩, ⟨by (with_reducible repeat (first | apply Kd.Q_alloc | apply Kd.Q_drewN | apply Kd.Q_drew)); exact Kd.Q_mono HO283.out (fun _ hk => ⟨hk.1.1.1.1.2, ⟨hk.1.1.1.1.1, ⟨hk.1.1.1.2, ⟨hk.1.1.2, ⟨hk.1.2, hk.2⟩⟩⟩⟩⟩)⟩, ⟨by (with_reducible repeat (first | apply rA | apply rN | apply rD)); exact rM HO286.out (fun _ hk => ⟨hk.1.1.1.1.2, ⟨hk.1.1.1.1.1, ⟨hk.1.1.1.2, ⟨hk.1.1.2, ⟨hk.1.2, hk.2⟩⟩⟩⟩⟩)⟩, ⟨by (with_reducible repeat (first | apply rA | apply rN | apply rD)); exact rM HO289.out (fun _ hk => ⟨hk.1.2, hk.2⟩)⟩, ⟨Kd.Q_of_R (by (with_reducible repeat (first | apply rA | apply rN | apply rD)); exact rM HO296.out (fun _ hk => ⟨hk.1.1.2, ⟨hk.1.1.1.1.2, ⟨hk.1.1.1.2, ⟨hk.1.1.1.1.1, ⟨hk.1.2, hk.2⟩⟩⟩⟩⟩))⟩, ⟨by (with_reducible repeat (first | apply rA | apply rN | apply rD)); exact rM HO299.out (fun _ hk => ⟨hk.1.1.2, ⟨hk.1.1.1.1.2, ⟨hk.1.1.1.2, ⟨hk.1.1.1.1.1, ⟨hk.1.2, hk.2⟩⟩⟩⟩⟩)⟩, ⟨by (with_reducible repeat (first | apply rA | apply rN | apply rD)); exact rM HO302.out (fun _ hk => ⟨hk.1.2, hk.2⟩)⟩, ⟨Kd.Q_of_R (by (with_reducible repeat (first | apply rA | apply rN | apply rD)); exact rM HO307.out (fun _ hk => ⟨hk.1.1.2, ⟨hk.1.1.1.1.2, ⟨hk.1.1.1.2, ⟨hk.1.2, ⟨hk.2, hk.1.1.1.1.1⟩⟩⟩⟩⟩))⟩, ⟨by (with_reducible repeat (first | apply rA | apply rN | apply rD)); exact rM HO310.out (fun _ hk => ⟨hk.1.1.2, ⟨hk.1.1.1.1.2, ⟨hk.1.1.1.2, ⟨hk.1.2, ⟨hk.2, hk.1.1.1.1.1⟩⟩⟩⟩⟩)⟩, ⟨by (with_reducible repeat (first | apply rA | apply rN | apply rD)); exact rM HO313.out (fun _ hk => ⟨hk.1.2, hk.2⟩)⟩, ⟨by (with_reducible repeat (first | refine bN ?_ _ | refine bD ?_ | refine bA ?_ _)); exact BK293.out⟩, ⟨by (with_reducible repeat (first | refine bN ?_ _ | refine bD ?_ | refine bA ?_ _)); exact BK304.out⟩, ⟨by (with_reducible repeat (first | refine bN ?_ _ | refine bD ?_ | refine bA ?_ _)); exact BK315.out⟩, ⟨by repeat (first | (with_reducible first | exact HB.out | apply oA | apply pN | apply o1 | refine bS ?_ GE293.out | refine bS ?_ GE304.out | refine bS ?_ GE315.out) | exact HB.out)⟩⟩
  case rest =>
   clear HC6
   try clear c1
   try clear c2
   try clear c2b0
   try clear c2b1
   try clear p2
   try clear c3
   try clear c4
   try clear c7
   try clear c14
   try clear c17
   try clear c25
   try clear c26
   try clear c27
   try clear c28
   try clear c29
   try clear c31
   try clear c32
   try clear c33
   try clear c35
   try clear c38
   try clear c39
   try clear c41
   try clear hcz10_0
   try clear hcz10_1
   try clear hcz10_2
   try clear hcz18_0
   try clear hcz18_1
   try clear hcz18_2
   try clear hcz21_0
   try clear hcz21_1
   try clear hcz21_2
   try clear hcz27_0
   try clear hcz27_1
   try clear hcz27_2
   try clear hcz34_0
   try clear hcz34_1
   try clear hcz34_2
   try clear hcz36_0
   try clear hcz36_1
   try clear hcz36_2
   try clear hcz40_0
   try clear hcz40_1
   try clear hcz40_2
   try clear hcz42_0
   try clear hcz42_1
   try clear hcz42_2
   try clear hfz10_0
   try clear hfz10_1
   try clear hfz10_2
   try clear hfz18_0
   try clear hfz18_1
   try clear hfz18_2
   try clear hfz21_0
   try clear hfz21_1
   try clear hfz21_2
   try clear hfz27_0
   try clear hfz27_1
   try clear hfz27_2
   try clear hfz34_0
   try clear hfz34_1
   try clear hfz34_2
   try clear hfz36_0
   try clear hfz36_1
   try clear hfz36_2
   try clear hfz40_0
   try clear hfz40_1
   try clear hfz40_2
   try clear hfz42_0
   try clear hfz42_1
   try clear hfz42_2
   obtain ⟨kq, x9_5, rfl, HA, HJ5, HO_4, HO_294000, HO_294001, HO_294002, HO_305000, HO_305001, HO_305002, HO_316000, HO_316001, HO_316002, BK293, BK304, BK315, HB⟩ := hcut
   cases kq with
   | zero => exact absurd HA.out (by simp [laws_FnSigsBlock.j0])
   | succ kj5 =>
    have H := HA.out
    clear HA
    simp only [laws_FnSigsBlock.j0] at H
    have HC44 := Am H
    clear H
    go_upto_region 7 with (fail)
    go_cut [43] (fun v43 wc => ∃ (kq : Nat) (x43_43 : Bool), v43 = .bool x43_43 ∧ Aside0 (laws_FnSigsBlock.j1 kq t290 x9_5 x43_43 t281 t284 t287 t294 t297 t300 = some r) ∧ Aside0 (kq ≤ kj5) ∧ Aside0 (Kd.R Kd.bool 4 wc w.heap.size (fun k_ => some k_ ≠ ((.slice Ao9 t281.length co9) : Value).ownBlock ∧ some k_ ≠ ((.slice Ao11 t284.length co11) : Value).ownBlock ∧ some k_ ≠ ((.slice Ao16 t294.length co16) : Value).ownBlock ∧ some k_ ≠ ((.slice Ao19 t297.length co19) : Value).ownBlock ∧ some k_ ≠ ((.slice Ao24 t305.length co24) : Value).ownBlock ∧ some k_ ≠ ((.slice Ao28 t308.length co28) : Value).ownBlock) (.slice Ao13 t290.length co13) t290) ∧ Aside0 (Kd.Q Kd.bool 4 wc w.heap.size (fun k_ => some k_ ≠ ((.slice Ao13 t290.length co13) : Value).ownBlock ∧ some k_ ≠ ((.slice Ao11 t284.length co11) : Value).ownBlock ∧ some k_ ≠ ((.slice Ao16 t294.length co16) : Value).ownBlock ∧ some k_ ≠ ((.slice Ao19 t297.length co19) : Value).ownBlock ∧ some k_ ≠ ((.slice Ao24 t305.length co24) : Value).ownBlock ∧ some k_ ≠ ((.slice Ao28 t308.length co28) : Value).ownBlock) (.slice Ao9 t281.length co9) t281) ∧ Aside0 (Kd.R Kd.bool 4 wc w.heap.size (fun k_ => some k_ ≠ ((.slice Ao13 t290.length co13) : Value).ownBlock ∧ some k_ ≠ ((.slice Ao9 t281.length co9) : Value).ownBlock ∧ some k_ ≠ ((.slice Ao16 t294.length co16) : Value).ownBlock ∧ some k_ ≠ ((.slice Ao19 t297.length co19) : Value).ownBlock ∧ some k_ ≠ ((.slice Ao24 t305.length co24) : Value).ownBlock ∧ some k_ ≠ ((.slice Ao28 t308.length co28) : Value).ownBlock) (.slice Ao11 t284.length co11) t284) ∧ Aside0 (Kd.R (Kd.int .i64) 3 wc w.heap.size (fun k_ => some k_ ≠ ((.slice Ao20 t300.length co20) : Value).ownBlock ∧ some k_ ≠ ((.slice Ao29 t311.length co29) : Value).ownBlock) (.slice Ao12 t287.length co12) t287) ∧ Aside0 (Kd.Q Kd.bool 4 wc w.heap.size (fun k_ => some k_ ≠ ((.slice Ao13 t290.length co13) : Value).ownBlock ∧ some k_ ≠ ((.slice Ao9 t281.length co9) : Value).ownBlock ∧ some k_ ≠ ((.slice Ao11 t284.length co11) : Value).ownBlock ∧ some k_ ≠ ((.slice Ao19 t297.length co19) : Value).ownBlock ∧ some k_ ≠ ((.slice Ao24 t305.length co24) : Value).ownBlock ∧ some k_ ≠ ((.slice Ao28 t308.length co28) : Value).ownBlock) (.slice Ao16 t294.length co16) t294) ∧ Aside0 (Kd.R Kd.bool 4 wc w.heap.size (fun k_ => some k_ ≠ ((.slice Ao13 t290.length co13) : Value).ownBlock ∧ some k_ ≠ ((.slice Ao9 t281.length co9) : Value).ownBlock ∧ some k_ ≠ ((.slice Ao11 t284.length co11) : Value).ownBlock ∧ some k_ ≠ ((.slice Ao16 t294.length co16) : Value).ownBlock ∧ some k_ ≠ ((.slice Ao24 t305.length co24) : Value).ownBlock ∧ some k_ ≠ ((.slice Ao28 t308.length co28) : Value).ownBlock) (.slice Ao19 t297.length co19) t297) ∧ Aside0 (Kd.R (Kd.int .i64) 3 wc w.heap.size (fun k_ => some k_ ≠ ((.slice Ao12 t287.length co12) : Value).ownBlock ∧ some k_ ≠ ((.slice Ao29 t311.length co29) : Value).ownBlock) (.slice Ao20 t300.length co20) t300) ∧ Aside0 (Kd.Q Kd.bool 4 wc w.heap.size (fun k_ => some k_ ≠ ((.slice Ao13 t290.length co13) : Value).ownBlock ∧ some k_ ≠ ((.slice Ao9 t281.length co9) : Value).ownBlock ∧ some k_ ≠ ((.slice Ao11 t284.length co11) : Value).ownBlock ∧ some k_ ≠ ((.slice Ao16 t294.length co16) : Value).ownBlock ∧ some k_ ≠ ((.slice Ao19 t297.length co19) : Value).ownBlock ∧ some k_ ≠ ((.slice Ao28 t308.length co28) : Value).ownBlock) (.slice Ao24 t305.length co24) t305) ∧ Aside0 (Kd.R Kd.bool 4 wc w.heap.size (fun k_ => some k_ ≠ ((.slice Ao13 t290.length co13) : Value).ownBlock ∧ some k_ ≠ ((.slice Ao9 t281.length co9) : Value).ownBlock ∧ some k_ ≠ ((.slice Ao11 t284.length co11) : Value).ownBlock ∧ some k_ ≠ ((.slice Ao16 t294.length co16) : Value).ownBlock ∧ some k_ ≠ ((.slice Ao19 t297.length co19) : Value).ownBlock ∧ some k_ ≠ ((.slice Ao24 t305.length co24) : Value).ownBlock) (.slice Ao28 t308.length co28) t308) ∧ Aside0 (Kd.R (Kd.int .i64) 3 wc w.heap.size (fun k_ => some k_ ≠ ((.slice Ao12 t287.length co12) : Value).ownBlock ∧ some k_ ≠ ((.slice Ao20 t300.length co20) : Value).ownBlock) (.slice Ao29 t311.length co29) t311) ∧ Aside0 (wc.heap[gb293]? = some (.cells #[(.slice Ao9 t281.length co9), (.slice Ao11 t284.length co11), (.slice Ao12 t287.length co12)] 26 (0, 0))) ∧ Aside0 (wc.heap[gb304]? = some (.cells #[(.slice Ao16 t294.length co16), (.slice Ao19 t297.length co19), (.slice Ao20 t300.length co20)] 26 (0, 0))) ∧ Aside0 (wc.heap[gb315]? = some (.cells #[(.slice Ao24 t305.length co24), (.slice Ao28 t308.length co28), (.slice Ao29 t311.length co29)] 26 (0, 0))) ∧ Aside0 (Below w.heap.size w wc))
    case first =>
     have H := HC44.out
     clear HC44
     by_cases c45 : x9_5 = true
     ·subst c45
      have H1 : (laws_FnSigsBlock.j1 kj5 t290 true (!t303) t281 t284 t287 t294 t297 t300) = some r := by rw [if_pos rfl] at H; exact H
      clear H
      have H := H1
      clear H1
      have H' := Am H
      clear H
      go_wp2
      go_meet
      case rel => exact ⟨_, (!t303), (by first | rfl | (simp; done) | (simp [*]; done)), H', ⟨by have := HJ5.out; first | omega | exact Nat.le_refl _⟩, ⟨by (with_reducible repeat (first | apply rA | apply rN | apply rD)); exact HO_4.out⟩, ⟨by (with_reducible repeat (first | apply Kd.Q_alloc | apply Kd.Q_drewN | apply Kd.Q_drew)); exact HO_294000.out⟩, ⟨by (with_reducible repeat (first | apply rA | apply rN | apply rD)); exact HO_294001.out⟩, ⟨by (with_reducible repeat (first | apply rA | apply rN | apply rD)); exact HO_294002.out⟩, ⟨by (with_reducible repeat (first | apply Kd.Q_alloc | apply Kd.Q_drewN | apply Kd.Q_drew)); exact HO_305000.out⟩, ⟨by (with_reducible repeat (first | apply rA | apply rN | apply rD)); exact HO_305001.out⟩, ⟨by (with_reducible repeat (first | apply rA | apply rN | apply rD)); exact HO_305002.out⟩, ⟨by (with_reducible repeat (first | apply Kd.Q_alloc | apply Kd.Q_drewN | apply Kd.Q_drew)); exact HO_316000.out⟩, ⟨by (with_reducible repeat (first | apply rA | apply rN | apply rD)); exact HO_316001.out⟩, ⟨by (with_reducible repeat (first | apply rA | apply rN | apply rD)); exact HO_316002.out⟩, ⟨by (with_reducible repeat (first | refine bN ?_ _ | refine bD ?_ | refine bA ?_ _)); exact BK293.out⟩, ⟨by (with_reducible repeat (first | refine bN ?_ _ | refine bD ?_ | refine bA ?_ _)); exact BK304.out⟩, ⟨by (with_reducible repeat (first | refine bN ?_ _ | refine bD ?_ | refine bA ?_ _)); exact BK315.out⟩, ⟨by repeat (first | (with_reducible first | exact HB.out | apply oA | apply pN | apply o1 | refine bS ?_ GE293.out | refine bS ?_ GE304.out | refine bS ?_ GE315.out) | exact HB.out)⟩⟩
     ·replace c45 := Bool.eq_false_iff.mpr c45
      subst c45
      have H1 : (laws_FnSigsBlock.j1 kj5 t290 false true t281 t284 t287 t294 t297 t300) = some r := by rw [if_neg (show ¬ (false = true) by decide)] at H; exact H
      clear H
      have H := H1
      clear H1
      have H' := Am H
      clear H
      go_wp2
      go_meet
      case rel => exact ⟨_, (true), (by first | rfl | (simp; done) | (simp [*]; done)), H', ⟨by have := HJ5.out; first | omega | exact Nat.le_refl _⟩, ⟨by (with_reducible repeat (first | apply rA | apply rN | apply rD)); exact HO_4.out⟩, ⟨by (with_reducible repeat (first | apply Kd.Q_alloc | apply Kd.Q_drewN | apply Kd.Q_drew)); exact HO_294000.out⟩, ⟨by (with_reducible repeat (first | apply rA | apply rN | apply rD)); exact HO_294001.out⟩, ⟨by (with_reducible repeat (first | apply rA | apply rN | apply rD)); exact HO_294002.out⟩, ⟨by (with_reducible repeat (first | apply Kd.Q_alloc | apply Kd.Q_drewN | apply Kd.Q_drew)); exact HO_305000.out⟩, ⟨by (with_reducible repeat (first | apply rA | apply rN | apply rD)); exact HO_305001.out⟩, ⟨by (with_reducible repeat (first | apply rA | apply rN | apply rD)); exact HO_305002.out⟩, ⟨by (with_reducible repeat (first | apply Kd.Q_alloc | apply Kd.Q_drewN | apply Kd.Q_drew)); exact HO_316000.out⟩, ⟨by (with_reducible repeat (first | apply rA | apply rN | apply rD)); exact HO_316001.out⟩, ⟨by (with_reducible repeat (first | apply rA | apply rN | apply rD)); exact HO_316002.out⟩, ⟨by (with_reducible repeat (first | refine bN ?_ _ | refine bD ?_ | refine bA ?_ _)); exact BK293.out⟩, ⟨by (with_reducible repeat (first | refine bN ?_ _ | refine bD ?_ | refine bA ?_ _)); exact BK304.out⟩, ⟨by (with_reducible repeat (first | refine bN ?_ _ | refine bD ?_ | refine bA ?_ _)); exact BK315.out⟩, ⟨by repeat (first | (with_reducible first | exact HB.out | apply oA | apply pN | apply o1 | refine bS ?_ GE293.out | refine bS ?_ GE304.out | refine bS ?_ GE315.out) | exact HB.out)⟩⟩
    case rest =>
     clear HC44
     try clear c1
     try clear c2
     try clear c2b0
     try clear c2b1
     try clear p2
     try clear c3
     try clear c4
     try clear c7
     try clear c14
     try clear c17
     try clear c25
     try clear c26
     try clear c27
     try clear c28
     try clear c29
     try clear c31
     try clear c32
     try clear c33
     try clear c35
     try clear c38
     try clear c39
     try clear c41
     try clear c45
     try clear hcz10_0
     try clear hcz10_1
     try clear hcz10_2
     try clear hcz18_0
     try clear hcz18_1
     try clear hcz18_2
     try clear hcz21_0
     try clear hcz21_1
     try clear hcz21_2
     try clear hcz27_0
     try clear hcz27_1
     try clear hcz27_2
     try clear hcz34_0
     try clear hcz34_1
     try clear hcz34_2
     try clear hcz36_0
     try clear hcz36_1
     try clear hcz36_2
     try clear hcz40_0
     try clear hcz40_1
     try clear hcz40_2
     try clear hcz42_0
     try clear hcz42_1
     try clear hcz42_2
     try clear hfz10_0
     try clear hfz10_1
     try clear hfz10_2
     try clear hfz18_0
     try clear hfz18_1
     try clear hfz18_2
     try clear hfz21_0
     try clear hfz21_1
     try clear hfz21_2
     try clear hfz27_0
     try clear hfz27_1
     try clear hfz27_2
     try clear hfz34_0
     try clear hfz34_1
     try clear hfz34_2
     try clear hfz36_0
     try clear hfz36_1
     try clear hfz36_2
     try clear hfz40_0
     try clear hfz40_1
     try clear hfz40_2
     try clear hfz42_0
     try clear hfz42_1
     try clear hfz42_2
     try clear p2
     obtain ⟨kq, x43_43, rfl, HA, HJ43, HO_4, HO_294000, HO_294001, HO_294002, HO_305000, HO_305001, HO_305002, HO_316000, HO_316001, HO_316002, BK293, BK304, BK315, HB⟩ := hcut
     cases kq with
     | zero => exact absurd HA.out (by simp [laws_FnSigsBlock.j1])
     | succ kj43 =>
      have H := HA.out
      clear HA
      simp only [laws_FnSigsBlock.j1] at H
      by_cases c46 : x43_43 = true
      ·subst c46
       have H1 : (some x9_5) = some r := by rw [if_pos rfl] at H; exact H
       clear H
       have H := H1
       clear H1
       obtain rfl := Option.some.inj H
       go_wp2
       go_ret
       exact ⟨by first | rfl | (simp [errW_none, errW_some] <;> rfl) | (simp [*, errW_none, errW_some] <;> rfl), by repeat (first | (with_reducible first | exact HB.out | apply oA | apply pN | apply o1 | refine bS ?_ GE293.out | refine bS ?_ GE304.out | refine bS ?_ GE315.out) | exact HB.out)⟩
      ·replace c46 := Bool.eq_false_iff.mpr c46
       subst c46
       have H1 : ((impl_SigsOk.f kj43 t294 t297 t300).bind fun t317 => (if t317 = true then (if 0 < (t297.length : Int) then (if rdOf false t297 0 = true then (some false) else (if 1 < (t297.length : Int) then (if rdOf false t297 1 = true then (some false) else (if 2 ≤ (t297.length : Int) then (if 2 ≤ (t290.length : Int) then ((laws_qdBools.f kj43 (t297.drop 2) (t290.drop 2)).bind fun t328 => (if t328 = true then ((laws_qdBools.f kj43 t294 t281).bind fun t329 => (some t329)) else (some false))) else (none)) else (none))) else (none))) else (none)) else (some false))) = some r := by rw [if_neg (show ¬ (false = true) by decide)] at H; exact H
       clear H
       have H := H1
       clear H1
       replace H := Option.bind_eq_some_iff.mp H
       obtain ⟨t317, A470, H⟩ := H
       replace H : (if t317 = true then (if 0 < (t297.length : Int) then (if rdOf false t297 0 = true then (some false) else (if 1 < (t297.length : Int) then (if rdOf false t297 1 = true then (some false) else (if 2 ≤ (t297.length : Int) then (if 2 ≤ (t290.length : Int) then ((laws_qdBools.f kj43 (t297.drop 2) (t290.drop 2)).bind fun t328 => (if t328 = true then ((laws_qdBools.f kj43 t294 t281).bind fun t329 => (some t329)) else (some false))) else (none)) else (none))) else (none))) else (none)) else (some false)) = some r := H
       have A47 := Am A470
       clear A470
       by_cases c48 : t317 = true
       ·subst c48
        have H1 : (if 0 < (t297.length : Int) then (if rdOf false t297 0 = true then (some false) else (if 1 < (t297.length : Int) then (if rdOf false t297 1 = true then (some false) else (if 2 ≤ (t297.length : Int) then (if 2 ≤ (t290.length : Int) then ((laws_qdBools.f kj43 (t297.drop 2) (t290.drop 2)).bind fun t328 => (if t328 = true then ((laws_qdBools.f kj43 t294 t281).bind fun t329 => (some t329)) else (some false))) else (none)) else (none))) else (none))) else (none)) = some r := by rw [if_pos rfl] at H; exact H
        clear H
        have H := H1
        clear H1
        by_cases c49 : 0 < (t297.length : Int)
        ·rw [if_pos c49] at H
         have c49b0 : decide (0 < (t297.length : Int)) = true := decide_eq_true c49
         have c49b1 : decide (0 < t297.length) = true := decide_eq_true (by omega)
         clear c49
         obtain ⟨bq50, hbq50⟩ : ∃ b_ : Bool, b_ = (rdOf false t297 0) := ⟨_, rfl⟩
         replace H : (if bq50 = true then (some false) else (if 1 < (t297.length : Int) then (if rdOf false t297 1 = true then (some false) else (if 2 ≤ (t297.length : Int) then (if 2 ≤ (t290.length : Int) then ((laws_qdBools.f kj43 (t297.drop 2) (t290.drop 2)).bind fun t328 => (if t328 = true then ((laws_qdBools.f kj43 t294 t281).bind fun t329 => (some t329)) else (some false))) else (none)) else (none))) else (none))) = some r := by rw [← hbq50] at H; exact H
         have Nbq50 := Am hbq50
         clear hbq50
         by_cases c51 : bq50 = true
         ·subst c51
          have H1 : (some false) = some r := by rw [if_pos rfl] at H; exact H
          clear H
          have H := H1
          clear H1
          exact absurd ((Option.some.inj H).trans hT_.out) (by decide)
         ·replace c51 := Bool.eq_false_iff.mpr c51
          subst c51
          have H1 : (if 1 < (t297.length : Int) then (if rdOf false t297 1 = true then (some false) else (if 2 ≤ (t297.length : Int) then (if 2 ≤ (t290.length : Int) then ((laws_qdBools.f kj43 (t297.drop 2) (t290.drop 2)).bind fun t328 => (if t328 = true then ((laws_qdBools.f kj43 t294 t281).bind fun t329 => (some t329)) else (some false))) else (none)) else (none))) else (none)) = some r := by rw [if_neg (show ¬ (false = true) by decide)] at H; exact H
          clear H
          have H := H1
          clear H1
          by_cases c52 : 1 < (t297.length : Int)
          ·rw [if_pos c52] at H
           have c52b0 : decide (1 < (t297.length : Int)) = true := decide_eq_true c52
           have c52b1 : decide (1 < t297.length) = true := decide_eq_true (by omega)
           clear c52
           obtain ⟨bq53, hbq53⟩ : ∃ b_ : Bool, b_ = (rdOf false t297 1) := ⟨_, rfl⟩
           replace H : (if bq53 = true then (some false) else (if 2 ≤ (t297.length : Int) then (if 2 ≤ (t290.length : Int) then ((laws_qdBools.f kj43 (t297.drop 2) (t290.drop 2)).bind fun t328 => (if t328 = true then ((laws_qdBools.f kj43 t294 t281).bind fun t329 => (some t329)) else (some false))) else (none)) else (none))) = some r := by rw [← hbq53] at H; exact H
           have Nbq53 := Am hbq53
           clear hbq53
           by_cases c54 : bq53 = true
           ·subst c54
            have H1 : (some false) = some r := by rw [if_pos rfl] at H; exact H
            clear H
            have H := H1
            clear H1
            exact absurd ((Option.some.inj H).trans hT_.out) (by decide)
           ·replace c54 := Bool.eq_false_iff.mpr c54
            subst c54
            have H1 : (if 2 ≤ (t297.length : Int) then (if 2 ≤ (t290.length : Int) then ((laws_qdBools.f kj43 (t297.drop 2) (t290.drop 2)).bind fun t328 => (if t328 = true then ((laws_qdBools.f kj43 t294 t281).bind fun t329 => (some t329)) else (some false))) else (none)) else (none)) = some r := by rw [if_neg (show ¬ (false = true) by decide)] at H; exact H
            clear H
            have H := H1
            clear H1
            by_cases c55 : 2 ≤ (t297.length : Int)
            ·rw [if_pos c55] at H
             have c55b0 := eq_true c55
             have c55b1 : decide (2 ≤ (t297.length : Int)) = true := decide_eq_true c55
             clear c55
             obtain ⟨y320, hy320⟩ : ∃ y_ : List Bool, y_ = (t297.drop 2) := ⟨_, rfl⟩
             replace H : (if 2 ≤ (t290.length : Int) then ((laws_qdBools.f kj43 y320 (t290.drop 2)).bind fun t328 => (if t328 = true then ((laws_qdBools.f kj43 t294 t281).bind fun t329 => (some t329)) else (some false))) else (none)) = some r := by first | (rw [hy320]; with_reducible exact H) | (have H2_ := (Option.bind_some _ _).symm.trans H; rw [hy320]; with_reducible exact H2_) | (have H2_ := (Option.bind_some _ _).symm.trans H; with_reducible exact H2_) | with_reducible exact H | (rw [hy320]; exact H) | exact H
             have Ny320 := Am hy320
             clear hy320
             by_cases c56 : 2 ≤ (t290.length : Int)
             ·rw [if_pos c56] at H
              have c56b0 := eq_true c56
              have c56b1 : decide (2 ≤ (t290.length : Int)) = true := decide_eq_true c56
              clear c56
              obtain ⟨y324, hy324⟩ : ∃ y_ : List Bool, y_ = (t290.drop 2) := ⟨_, rfl⟩
              replace H : ((laws_qdBools.f kj43 y320 y324).bind fun t328 => (if t328 = true then ((laws_qdBools.f kj43 t294 t281).bind fun t329 => (some t329)) else (some false))) = some r := by first | (rw [hy324]; with_reducible exact H) | (have H2_ := (Option.bind_some _ _).symm.trans H; rw [hy324]; with_reducible exact H2_) | (have H2_ := (Option.bind_some _ _).symm.trans H; with_reducible exact H2_) | with_reducible exact H | (rw [hy324]; exact H) | exact H
              have Ny324 := Am hy324
              clear hy324
              replace H := Option.bind_eq_some_iff.mp H
              obtain ⟨t328, A570, H⟩ := H
              replace H : (if t328 = true then ((laws_qdBools.f kj43 t294 t281).bind fun t329 => (some t329)) else (some false)) = some r := H
              have A57 := Am A570
              clear A570
              by_cases c58 : t328 = true
              ·subst c58
               have H1 : ((laws_qdBools.f kj43 t294 t281).bind fun t329 => (some t329)) = some r := by rw [if_pos rfl] at H; exact H
               clear H
               have H := H1
               clear H1
               replace H := Option.bind_eq_some_iff.mp H
               obtain ⟨t329, A590, H⟩ := H
               replace H : (some t329) = some r := H
               have A59 := Am A590
               clear A590
               obtain rfl := Option.some.inj H
               try go_wp2
               have n0_ := Am (rD HO_4.out)
               have n1_ := Am (Kd.Q_drew HO_294000.out)
               have n2_ := Am (rD HO_294001.out)
               have n3_ := Am (rD HO_294002.out)
               have n4_ := Am (Kd.Q_drew HO_305000.out)
               have n5_ := Am (rD HO_305001.out)
               have n6_ := Am (rD HO_305002.out)
               have n7_ := Am (Kd.Q_drew HO_316000.out)
               have n8_ := Am (rD HO_316001.out)
               have n9_ := Am (rD HO_316002.out)
               have n10_ := Am (bD BK293.out)
               have n11_ := Am (bD BK304.out)
               have n12_ := Am (bD BK315.out)
               have n13_ := Am (o1 HB.out)
               clear HO_4
               clear HO_294000
               clear HO_294001
               clear HO_294002
               clear HO_305000
               clear HO_305001
               clear HO_305002
               clear HO_316000
               clear HO_316001
               clear HO_316002
               clear BK293
               clear BK304
               clear BK315
               clear HB
               have HO_4 := n0_
               have HO_294000 := n1_
               have HO_294001 := n2_
               have HO_294002 := n3_
               have HO_305000 := n4_
               have HO_305001 := n5_
               have HO_305002 := n6_
               have HO_316000 := n7_
               have HO_316001 := n8_
               have HO_316002 := n9_
               have BK293 := n10_
               have BK304 := n11_
               have BK315 := n12_
               have HB := n13_
               clear n0_ n1_ n2_ n3_ n4_ n5_ n6_ n7_ n8_ n9_ n10_ n11_ n12_ n13_
               have p318 : 0 ≤ (0 : Int) := (by omega)
               have q318 : 0 < (t297.length : Int) := of_decide_eq_true (by first | (with_reducible assumption) | assumption)
               obtain ⟨ad318, e318, hx318_0⟩ := Kd.at_bool (Kd.R_reads' HO_305001.out).2.2 0 p318 q318
               (try rw [← Nbq50.out] at hx318_0)
               (try rw [← Nbq53.out] at hx318_0)
               cases e318
               have qi318 : (0 < t297.length) = True := eq_true (by omega)
               (try rw [show ((0 : Int)).toNat = 0 from rfl] at hx318_0)
               (try rw [Addr.add_zero'] at hx318_0)
               replace p318 := eq_true p318
               replace q318 := eq_true q318
               have p319 : 0 ≤ (1 : Int) := (by omega)
               have q319 : 1 < (t297.length : Int) := of_decide_eq_true (by first | (with_reducible assumption) | assumption)
               obtain ⟨ad319, e319, hx319_0⟩ := Kd.at_bool (Kd.R_reads' HO_305001.out).2.2 1 p319 q319
               (try rw [← Nbq50.out] at hx319_0)
               (try rw [← Nbq53.out] at hx319_0)
               obtain rfl : ad318 = ad319 := (by injection e319)
               (try simp only [show (1 : Int).toNat = 1 from rfl, Nat.reduceMul, Nat.reduceEqDiff, Go.Addr.add, ↓reduceIte] at hx319_0)
               have qi319 : (1 < t297.length) = True := eq_true (by omega)
               (try rw [show ((1 : Int)).toNat = 1 from rfl] at hx319_0)
               replace p319 := eq_true p319
               replace q319 := eq_true q319
               refine start_ (n := 32) (S := fun w' => w'.cell? ⟨gb304, 0, none⟩ = some (.slice Ao16 t294.length co16) ∧ w'.cell? ⟨gb304, 1, none⟩ = some (.slice (some ad318) t297.length co19) ∧ w'.cell? ⟨gb304, 2, none⟩ = some (.slice Ao20 t300.length co20) ∧ w'.cell? ⟨gb293, 0, none⟩ = some (.slice Ao9 t281.length co9) ∧ w'.cell? ⟨gb293, 1, none⟩ = some (.slice Ao11 t284.length co11) ∧ w'.cell? ⟨gb293, 2, none⟩ = some (.slice Ao12 t287.length co12) ∧ w'.cell? ad318 = some (.bool false) ∧ w'.cell? ⟨ad318.block, ad318.off + 1, none⟩ = some (.bool false)) (ds := []) laws_FnSigsBlock.q0 (by kernel_rfl) rfl rfl ⟨(bC BK304.out 0).trans rfl, (bC BK304.out 1).trans rfl, (bC BK304.out 2).trans rfl, (bC BK293.out 0).trans rfl, (bC BK293.out 1).trans rfl, (bC BK293.out 2).trans rfl, hx318_0, hx319_0⟩ (fun hHeld => ?_); refine with_tabW laws_FnSigsBlock.tab9 laws_FnSigsBlock.bits9 (fun HT_ HW_ => ?_)
               generalize wc.drew = w60 at HO_4 HO_294000 HO_294001 HO_294002 HO_305000 HO_305001 HO_305002 HO_316000 HO_316001 HO_316002 BK293 BK304 BK315 HB hx318_0 hx319_0 hHeld ⊢
               refine take_ (i := 0) (N := some 45) (v := ?_) (a' := ?_) laws_FnSigsBlock.q1 rfl rfl (take_ofW HT_.out HW_.out (by kernel_rfl)) (fun _ _ _ h => h) (Or.inl ⟨by rfl, ?_⟩) hHeld ?_ ?_
               rotate_left
               ·rintro w' ⟨s0, s1, s2, s3, s4, s5, s6, s7⟩
                go_simp
                with_reducible rfl
               rotate_left
               ·simp only [Act.put, lA, lZ, lS, i64_w, i32_w]
                rfl
               refine one_ (i := 1) (N := some 46) laws_FnSigsBlock.q2 rfl rfl (one_of HT_.out (by kernel_rfl)) (by decide) (fun K hK => ?_)
               refine goes_ Try.func16 (by kernel_rfl) rfl #[.agg #[.slice Ao16 t294.length co16, .slice (some ad318) t297.length co19, .slice Ao20 t300.length co20]] (by rfl) rfl rfl (by (try simp only [lM, lC, lN]); first | done | rfl | (simp only [lD, lT]; rfl)) ?_
               with_reducible refine (impl_SigsOk.calls kj43 _ _ t294 _ _ t297 _ _ t300 true _ ?side1 ?side2 ?side3 ?side4 ?side5 ?side6 A47.out).mono ?_
               (case side1 => repeat (first | exact (Kd.Q_reads' HO_305000.out).2.2 | (with_reducible refine cA ?_ _) | (with_reducible refine cN ?_ _) | (with_reducible refine cD ?_)))
               (case side2 => exact (Kd.Q_reads' HO_305000.out).2.1)
               (case side3 => repeat (first | exact (Kd.R_reads' HO_305001.out).2.2 | (with_reducible refine cA ?_ _) | (with_reducible refine cN ?_ _) | (with_reducible refine cD ?_)))
               (case side4 => exact (Kd.R_reads' HO_305001.out).2.1)
               (case side5 => repeat (first | exact (Kd.R_reads' HO_305002.out).2.2 | (with_reducible refine cA ?_ _) | (with_reducible refine cN ?_ _) | (with_reducible refine cD ?_)))
               (case side6 => exact (Kd.R_reads' HO_305002.out).2.1)
               rintro e w61 ⟨rfl, hb⟩
               have HS6_ := (hb.cell (World.block_lt_of_cell? _ _ (hHeld.2.2.2.2.2.2.1))).trans (hHeld.2.2.2.2.2.2.1)
               have HS7_ := (hb.cell (World.block_lt_of_cell? _ _ (hHeld.2.2.2.2.2.2.2))).trans (hHeld.2.2.2.2.2.2.2)
               refine ⟨_, rfl, ?_⟩
               have n0_ := Am (rB (by (with_reducible repeat (first | apply rA | apply rN | apply rD)); exact HO_4.out) hb)
               have n1_ := Am (Kd.Q_below (by (with_reducible repeat (first | apply Kd.Q_alloc | apply Kd.Q_drewN | apply Kd.Q_drew)); exact HO_294000.out) hb)
               have n2_ := Am (rB (by (with_reducible repeat (first | apply rA | apply rN | apply rD)); exact HO_294001.out) hb)
               have n3_ := Am (rB (by (with_reducible repeat (first | apply rA | apply rN | apply rD)); exact HO_294002.out) hb)
               have n4_ := Am (Kd.Q_below (by (with_reducible repeat (first | apply Kd.Q_alloc | apply Kd.Q_drewN | apply Kd.Q_drew)); exact HO_305000.out) hb)
               have n5_ := Am (rB (by (with_reducible repeat (first | apply rA | apply rN | apply rD)); exact HO_305001.out) hb)
               have n6_ := Am (rB (by (with_reducible repeat (first | apply rA | apply rN | apply rD)); exact HO_305002.out) hb)
               have n7_ := Am (Kd.Q_below (by (with_reducible repeat (first | apply Kd.Q_alloc | apply Kd.Q_drewN | apply Kd.Q_drew)); exact HO_316000.out) hb)
               have n8_ := Am (rB (by (with_reducible repeat (first | apply rA | apply rN | apply rD)); exact HO_316001.out) hb)
               have n9_ := Am (rB (by (with_reducible repeat (first | apply rA | apply rN | apply rD)); exact HO_316002.out) hb)
               have n10_ := Am (bB (g := gb293) (o := .cells #[.slice Ao9 t281.length co9, .slice Ao11 t284.length co11, .slice Ao12 t287.length co12] 26 (0, 0)) (by (with_reducible repeat (first | refine bN ?_ _ | refine bD ?_ | refine bA ?_ _)); exact BK293.out) hb)
               have n11_ := Am (bB (g := gb304) (o := .cells #[.slice Ao16 t294.length co16, .slice (some ad318) t297.length co19, .slice Ao20 t300.length co20] 26 (0, 0)) (by (with_reducible repeat (first | refine bN ?_ _ | refine bD ?_ | refine bA ?_ _)); exact BK304.out) hb)
               have n12_ := Am (bB (g := gb315) (o := .cells #[.slice Ao24 t305.length co24, .slice Ao28 t308.length co28, .slice Ao29 t311.length co29] 26 (0, 0)) (by (with_reducible repeat (first | refine bN ?_ _ | refine bD ?_ | refine bA ?_ _)); exact BK315.out) hb)
               have n13_ := Am (bP (by repeat (first | (with_reducible first | exact HB.out | apply oA | apply pN | apply o1 | refine bS ?_ GE293.out | refine bS ?_ GE304.out | refine bS ?_ GE315.out) | exact HB.out)) hb)
               clear HO_4
               clear HO_294000
               clear HO_294001
               clear HO_294002
               clear HO_305000
               clear HO_305001
               clear HO_305002
               clear HO_316000
               clear HO_316001
               clear HO_316002
               clear BK293
               clear BK304
               clear BK315
               clear HB
               have HO_4 := n0_
               have HO_294000 := n1_
               have HO_294001 := n2_
               have HO_294002 := n3_
               have HO_305000 := n4_
               have HO_305001 := n5_
               have HO_305002 := n6_
               have HO_316000 := n7_
               have HO_316001 := n8_
               have HO_316002 := n9_
               have BK293 := n10_
               have BK304 := n11_
               have BK315 := n12_
               have HB := n13_
               clear n0_ n1_ n2_ n3_ n4_ n5_ n6_ n7_ n8_ n9_ n10_ n11_ n12_ n13_
               (try clear hb)
               (try clear hb2)
               (try clear hk)
               (try clear hi)
               have q62 : (2 : Int) ≤ ((t297.length : Int) : Int) := of_decide_eq_true (by first | (with_reducible assumption) | assumption)
               obtain ⟨i062, hi062, _, hsz62, _⟩ := info_parts info4
               have hroom62 : t297.length ≤ co19 := (Kd.R_reads' HO_305001.out).2.1
               have hC62 : Kd.C Kd.bool _ (some ad318) t297.length t297 := (Kd.R_reads' HO_305001.out).2.2
               have hcut62 := cut_from (P := Try.prog) 23 4 .i64 Try.underlying23 hi062 1 hsz62 (some ad318) t297.length co19 2 (by omega) q62
               have hr62 := Kd.C_drop (m := (2 : Int).toNat) (c := co19) hC62 (by omega) hroom62
               obtain ⟨A62, hA62⟩ : ∃ A1, A1 = (if co19 = (2 : Int).toNat then (some ad318) else ((some ad318) : Option Addr).map (·.add ((2 : Int).toNat * 1))) := ⟨_, rfl⟩
               obtain ⟨c62, hc62⟩ : ∃ c1, c1 = co19 - (2 : Int).toNat := ⟨_, rfl⟩
               have hy62 : y320.length = t297.length - (2 : Int).toNat := (by rw [Ny320.out, lD] <;> omega)
               rw [show (t297).drop (2 : Int).toNat = y320 from Ny320.out.symm] at hr62
               replace hr62 : Kd.C Kd.bool _ A62 y320.length y320 := (by rw [hA62]; exact hr62)
               rw [← hy62, ← hA62, ← hc62] at hcut62
               have HR323 := Am hr62
               have HC323 := Am (show y320.length ≤ c62 from by rw [hy62, hc62]; exact Nat.sub_le_sub_right hroom62 _)
               clear hr62 hC62 hroom62 hi062 hsz62 hc62
               have KY62 := Am hy62
               have KA62 := Am hA62
               clear hy62 hA62
               have KL62 := Am (show 2 ≤ t297.length from by omega)
               replace q62 := eq_true q62
               have q63 : (2 : Int) ≤ ((t290.length : Int) : Int) := of_decide_eq_true (by first | (with_reducible assumption) | assumption)
               obtain ⟨i063, hi063, _, hsz63, _⟩ := info_parts info4
               have hroom63 : t290.length ≤ co13 := (Kd.R_reads' HO_4.out).2.1
               have hC63 : Kd.C Kd.bool _ Ao13 t290.length t290 := (Kd.R_reads' HO_4.out).2.2
               have hcut63 := cut_from (P := Try.prog) 23 4 .i64 Try.underlying23 hi063 1 hsz63 Ao13 t290.length co13 2 (by omega) q63
               have hr63 := Kd.C_drop (m := (2 : Int).toNat) (c := co13) hC63 (by omega) hroom63
               obtain ⟨A63, hA63⟩ : ∃ A1, A1 = (if co13 = (2 : Int).toNat then Ao13 else (Ao13 : Option Addr).map (·.add ((2 : Int).toNat * 1))) := ⟨_, rfl⟩
               obtain ⟨c63, hc63⟩ : ∃ c1, c1 = co13 - (2 : Int).toNat := ⟨_, rfl⟩
               have hy63 : y324.length = t290.length - (2 : Int).toNat := (by rw [Ny324.out, lD] <;> omega)
               rw [show (t290).drop (2 : Int).toNat = y324 from Ny324.out.symm] at hr63
               replace hr63 : Kd.C Kd.bool _ A63 y324.length y324 := (by rw [hA63]; exact hr63)
               rw [← hy63, ← hA63, ← hc63] at hcut63
               have HR327 := Am hr63
               have HC327 := Am (show y324.length ≤ c63 from by rw [hy63, hc63]; exact Nat.sub_le_sub_right hroom63 _)
               clear hr63 hC63 hroom63 hi063 hsz63 hc63
               have KY63 := Am hy63
               have KA63 := Am hA63
               clear hy63 hA63
               have KL63 := Am (show 2 ≤ t290.length from by omega)
               replace q63 := eq_true q63
               refine hK.out _ _ ⟨(bC BK304.out 0).trans rfl, (bC BK304.out 1).trans rfl, (bC BK304.out 2).trans rfl, (bC BK293.out 0).trans rfl, (bC BK293.out 1).trans rfl, (bC BK293.out 2).trans rfl, HS6_, HS7_⟩ (fun hHeld => ?_)
               clear hK K
               refine norm_ (a' := ?_) ?_ ?_
               rotate_left
               ·show Act.put _ (some 46) _ = _
                simp only [Act.put, lA, lZ, lS, i64_w, i32_w]
                rfl
               refine pure_ (i := 2) (N := some 47) (v := ?_) (a' := ?_) laws_FnSigsBlock.q3 rfl rfl (any_of HT_.out (by kernel_rfl)) (fun _ _ _ h => h) (Or.inl ⟨by rfl, ?_⟩) ?_ ?_
               rotate_left
               ·intro w'
                go_simp
                with_reducible rfl
               rotate_left
               ·simp only [Act.put, lA, lZ, lS, i64_w, i32_w]
                rfl
               refine pure_ (i := 3) (N := some 48) (v := ?_) (a' := ?_) laws_FnSigsBlock.q4 rfl rfl (any_of HT_.out (by kernel_rfl)) (fun _ _ _ h => h) (Or.inl ⟨by rfl, ?_⟩) ?_ ?_
               rotate_left
               ·intro w'
                go_simp
                with_reducible rfl
               rotate_left
               ·simp only [Act.put, lA, lZ, lS, i64_w, i32_w]
                rfl
               refine take_ (i := 4) (N := some 49) (v := ?_) (a' := ?_) laws_FnSigsBlock.q5 rfl rfl (take_ofW HT_.out HW_.out (by kernel_rfl)) (fun _ _ _ h => h) (Or.inl ⟨by rfl, ?_⟩) hHeld ?_ ?_
               rotate_left
               ·rintro w' ⟨s0, s1, s2, s3, s4, s5, s6, s7⟩
                go_simp
                with_reducible rfl
               rotate_left
               ·simp only [Act.put, lA, lZ, lS, i64_w, i32_w]
                rfl
               refine pure_ (i := 5) (N := some 50) (v := ?_) (a' := ?_) laws_FnSigsBlock.q6 rfl rfl (any_of HT_.out (by kernel_rfl)) (fun _ _ _ h => h) (Or.inl ⟨by rfl, ?_⟩) ?_ ?_
               rotate_left
               ·intro w'
                go_simp
                with_reducible rfl
               rotate_left
               ·simp only [Act.put, lA, lZ, lS, i64_w, i32_w]
                rfl
               refine take_ (i := 6) (N := some 51) (v := ?_) (a' := ?_) laws_FnSigsBlock.q7 rfl rfl (take_ofW HT_.out HW_.out (by kernel_rfl)) (fun _ _ _ h => h) (Or.inl ⟨by rfl, ?_⟩) hHeld ?_ ?_
               rotate_left
               ·rintro w' ⟨s0, s1, s2, s3, s4, s5, s6, s7⟩
                go_simp
                with_reducible rfl
               rotate_left
               ·simp only [Act.put, lA, lZ, lS, i64_w, i32_w]
                rfl
               refine pure_ (i := 7) (N := some 52) (v := ?_) (a' := ?_) laws_FnSigsBlock.q8 rfl rfl (any_of HT_.out (by kernel_rfl)) (fun _ _ _ h => h) (Or.inl ⟨by rfl, ?_⟩) ?_ ?_
               rotate_left
               ·intro w'
                go_simp
                with_reducible rfl
               rotate_left
               ·simp only [Act.put, lA, lZ, lS, i64_w, i32_w]
                rfl
               refine pure_ (i := 8) (N := some 53) (v := ?_) (a' := ?_) laws_FnSigsBlock.q9 rfl rfl (any_of HT_.out (by kernel_rfl)) (fun _ _ _ h => h) (Or.inl ⟨by rfl, ?_⟩) ?_ ?_
               rotate_left
               ·intro w'
                go_simp
                with_reducible rfl
               rotate_left
               ·simp only [Act.put, lA, lZ, lS, i64_w, i32_w]
                rfl
               refine pure_ (i := 9) (N := some 54) (v := ?_) (a' := ?_) laws_FnSigsBlock.q10 rfl rfl (any_of HT_.out (by kernel_rfl)) (fun _ _ _ h => h) (Or.inl ⟨by rfl, ?_⟩) ?_ ?_
               rotate_left
               ·intro w'
                go_simp
                with_reducible rfl
               rotate_left
               ·simp only [Act.put, lA, lZ, lS, i64_w, i32_w]
                rfl
               refine pure_ (i := 10) (N := some 55) (v := ?_) (a' := ?_) laws_FnSigsBlock.q11 rfl rfl (any_of HT_.out (by kernel_rfl)) (fun _ _ _ h => h) (Or.inl ⟨by rfl, ?_⟩) ?_ ?_
               rotate_left
               ·intro w'
                go_simp
                with_reducible rfl
               rotate_left
               ·simp only [Act.put, lA, lZ, lS, i64_w, i32_w]
                rfl
               refine take_ (i := 11) (N := some 56) (v := ?_) (a' := ?_) laws_FnSigsBlock.q12 rfl rfl (take_ofW HT_.out HW_.out (by kernel_rfl)) (fun _ _ _ h => h) (Or.inl ⟨by rfl, ?_⟩) hHeld ?_ ?_
               rotate_left
               ·rintro w' ⟨s0, s1, s2, s3, s4, s5, s6, s7⟩
                go_simp
                with_reducible rfl
               rotate_left
               ·simp only [Act.put, lA, lZ, lS, i64_w, i32_w]
                rfl
               refine pure_ (i := 12) (N := some 57) (v := ?_) (a' := ?_) laws_FnSigsBlock.q13 rfl rfl (any_of HT_.out (by kernel_rfl)) (fun _ _ _ h => h) (Or.inl ⟨by rfl, ?_⟩) ?_ ?_
               rotate_left
               ·intro w'
                go_simp
                with_reducible rfl
               rotate_left
               ·simp only [Act.put, lA, lZ, lS, i64_w, i32_w]
                rfl
               refine take_ (i := 13) (N := some 58) (v := ?_) (a' := ?_) laws_FnSigsBlock.q14 rfl rfl (take_ofW HT_.out HW_.out (by kernel_rfl)) (fun _ _ _ h => h) (Or.inl ⟨by rfl, ?_⟩) hHeld ?_ ?_
               rotate_left
               ·rintro w' ⟨s0, s1, s2, s3, s4, s5, s6, s7⟩
                go_simp
                with_reducible rfl
               rotate_left
               ·simp only [Act.put, lA, lZ, lS, i64_w, i32_w]
                rfl
               refine pure_ (i := 14) (N := some 59) (v := ?_) (a' := ?_) laws_FnSigsBlock.q15 rfl rfl (any_of HT_.out (by kernel_rfl)) (fun _ _ _ h => h) (Or.inl ⟨by rfl, ?_⟩) ?_ ?_
               rotate_left
               ·intro w'
                go_simp
                with_reducible rfl
               rotate_left
               ·simp only [Act.put, lA, lZ, lS, i64_w, i32_w]
                rfl
               refine pure_ (i := 15) (N := some 60) (v := ?_) (a' := ?_) laws_FnSigsBlock.q16 rfl rfl (any_of HT_.out (by kernel_rfl)) (fun _ _ _ h => h) (Or.inl ⟨by rfl, ?_⟩) ?_ ?_
               rotate_left
               ·intro w'
                go_simp
                with_reducible rfl
               rotate_left
               ·simp only [Act.put, lA, lZ, lS, i64_w, i32_w]
                rfl
               refine pure_ (i := 16) (N := some 61) (v := ?_) (a' := ?_) laws_FnSigsBlock.q17 rfl rfl (any_of HT_.out (by kernel_rfl)) (fun _ _ _ h => h) (Or.inl ⟨by rfl, ?_⟩) ?_ ?_
               rotate_left
               ·intro w'
                go_simp
                with_reducible rfl
               rotate_left
               ·simp only [Act.put, lA, lZ, lS, i64_w, i32_w]
                rfl
               refine pure_ (i := 17) (N := some 62) (v := ?_) (a' := ?_) laws_FnSigsBlock.q18 rfl rfl (any_of HT_.out (by kernel_rfl)) (fun _ _ _ h => h) (Or.inl ⟨by rfl, ?_⟩) ?_ ?_
               rotate_left
               ·intro w'
                go_simp
                with_reducible rfl
               rotate_left
               ·simp only [Act.put, lA, lZ, lS, i64_w, i32_w]
                rfl
               refine pure_ (i := 20) (N := some 65) (v := ?_) (a' := ?_) laws_FnSigsBlock.q19 rfl rfl (any_of HT_.out (by kernel_rfl)) (fun _ _ _ h => h) (Or.inl ⟨by rfl, ?_⟩) ?_ ?_
               rotate_left
               ·intro w'
                go_simp
                with_reducible rfl
               rotate_left
               ·simp only [Act.put, lA, lZ, lS, i64_w, i32_w]
                rfl
               refine pure_ (i := 21) (N := some 66) (v := ?_) (a' := ?_) laws_FnSigsBlock.q20 rfl rfl (any_of HT_.out (by kernel_rfl)) (fun _ _ _ h => h) (Or.inl ⟨by rfl, ?_⟩) ?_ ?_
               rotate_left
               ·intro w'
                go_simp
                with_reducible rfl
               rotate_left
               ·simp only [Act.put, lA, lZ, lS, i64_w, i32_w]
                rfl
               refine take_ (i := 18) (N := some 63) (v := ?_) (a' := ?_) laws_FnSigsBlock.q21 rfl rfl (take_ofW HT_.out HW_.out (by kernel_rfl)) (fun _ _ _ h => h) (Or.inl ⟨by rfl, ?_⟩) hHeld ?_ ?_
               rotate_left
               ·rintro w' ⟨s0, s1, s2, s3, s4, s5, s6, s7⟩
                go_simp
                with_reducible rfl
               rotate_left
               ·simp only [Act.put, lA, lZ, lS, i64_w, i32_w]
                rfl
               refine pure_ (i := 19) (N := some 64) (v := ?_) (a' := ?_) laws_FnSigsBlock.q22 rfl rfl (any_of HT_.out (by kernel_rfl)) (fun _ _ _ h => h) (Or.inl ⟨by rfl, ?_⟩) ?_ ?_
               rotate_left
               ·intro w'
                go_simp
                with_reducible rfl
               rotate_left
               ·simp only [Act.put, lA, lZ, lS, i64_w, i32_w]
                rfl
               refine one_ (i := 22) (N := some 67) laws_FnSigsBlock.q23 rfl rfl (one_of HT_.out (by kernel_rfl)) (by decide) (fun K hK => ?_)
               refine goes_ Try.func22 (by kernel_rfl) rfl #[.slice A62 y320.length c62, .slice A63 y324.length c63] (by rfl) rfl rfl (by (try simp only [lM, lC, lN]); first | done | rfl | (simp only [lD, lT]; rfl)) ?_
               with_reducible refine (laws_qdBools.calls kj43 _ _ y320 _ _ y324 true _ ?side1 ?side2 ?side3 ?side4 A57.out).mono ?_
               (case side1 => repeat (first | exact (by repeat (first | (with_reducible exact HR323.out) | (with_reducible refine cA ?_ _) | (with_reducible refine cN ?_ _) | (with_reducible refine cD ?_) | exact HR323.out)) | (with_reducible refine cA ?_ _) | (with_reducible refine cN ?_ _) | (with_reducible refine cD ?_)))
               (case side2 => exact HC323.out)
               (case side3 => repeat (first | exact (by repeat (first | (with_reducible exact HR327.out) | (with_reducible refine cA ?_ _) | (with_reducible refine cN ?_ _) | (with_reducible refine cD ?_) | exact HR327.out)) | (with_reducible refine cA ?_ _) | (with_reducible refine cN ?_ _) | (with_reducible refine cD ?_)))
               (case side4 => exact HC327.out)
               rintro e w' ⟨rfl, ⟨nd, rfl⟩⟩
               refine ⟨_, rfl, ?_⟩
               refine hK.out _ _ ⟨(bC BK304.out 0).trans rfl, (bC BK304.out 1).trans rfl, (bC BK304.out 2).trans rfl, (bC BK293.out 0).trans rfl, (bC BK293.out 1).trans rfl, (bC BK293.out 2).trans rfl, hHeld.2.2.2.2.2.2.1, hHeld.2.2.2.2.2.2.2⟩ (fun hHeld => ?_)
               clear hK K
               refine norm_ (a' := ?_) ?_ ?_
               rotate_left
               ·show Act.put _ (some 67) _ = _
                simp only [Act.put, lA, lZ, lS, i64_w, i32_w]
                rfl
               refine pure_ (i := 23) (N := some 68) (v := ?_) (a' := ?_) laws_FnSigsBlock.q24 rfl rfl (any_of HT_.out (by kernel_rfl)) (fun _ _ _ h => h) (Or.inl ⟨by rfl, ?_⟩) ?_ ?_
               rotate_left
               ·intro w'
                go_simp
                with_reducible rfl
               rotate_left
               ·simp only [Act.put, lA, lZ, lS, i64_w, i32_w]
                rfl
               refine pure_ (i := 24) (N := some 69) (v := ?_) (a' := ?_) laws_FnSigsBlock.q25 rfl rfl (any_of HT_.out (by kernel_rfl)) (fun _ _ _ h => h) (Or.inl ⟨by rfl, ?_⟩) ?_ ?_
               rotate_left
               ·intro w'
                go_simp
                with_reducible rfl
               rotate_left
               ·simp only [Act.put, lA, lZ, lS, i64_w, i32_w]
                rfl
               refine pure_ (i := 25) (N := some 70) (v := ?_) (a' := ?_) laws_FnSigsBlock.q26 rfl rfl (any_of HT_.out (by kernel_rfl)) (fun _ _ _ h => h) (Or.inl ⟨by rfl, ?_⟩) ?_ ?_
               rotate_left
               ·intro w'
                go_simp
                with_reducible rfl
               rotate_left
               ·simp only [Act.put, lA, lZ, lS, i64_w, i32_w]
                rfl
               refine pure_ (i := 27) (N := some 72) (v := ?_) (a' := ?_) laws_FnSigsBlock.q27 rfl rfl (any_of HT_.out (by kernel_rfl)) (fun _ _ _ h => h) (Or.inl ⟨by rfl, ?_⟩) ?_ ?_
               rotate_left
               ·intro w'
                go_simp
                with_reducible rfl
               rotate_left
               ·simp only [Act.put, lA, lZ, lS, i64_w, i32_w]
                rfl
               refine take_ (i := 26) (N := some 71) (v := ?_) (a' := ?_) laws_FnSigsBlock.q28 rfl rfl (take_ofW HT_.out HW_.out (by kernel_rfl)) (fun _ _ _ h => h) (Or.inl ⟨by rfl, ?_⟩) hHeld ?_ ?_
               rotate_left
               ·rintro w' ⟨s0, s1, s2, s3, s4, s5, s6, s7⟩
                go_simp
                with_reducible rfl
               rotate_left
               ·simp only [Act.put, lA, lZ, lS, i64_w, i32_w]
                rfl
               refine take_ (i := 28) (N := some 73) (v := ?_) (a' := ?_) laws_FnSigsBlock.q29 rfl rfl (take_ofW HT_.out HW_.out (by kernel_rfl)) (fun _ _ _ h => h) (Or.inl ⟨by rfl, ?_⟩) hHeld ?_ ?_
               rotate_left
               ·rintro w' ⟨s0, s1, s2, s3, s4, s5, s6, s7⟩
                go_simp
                with_reducible rfl
               rotate_left
               ·simp only [Act.put, lA, lZ, lS, i64_w, i32_w]
                rfl
               refine one_ (i := 29) (N := some 74) laws_FnSigsBlock.q30 rfl rfl (one_of HT_.out (by kernel_rfl)) (by decide) (fun K hK => ?_)
               refine goes_ Try.func22 (by kernel_rfl) rfl #[.slice Ao16 t294.length co16, .slice Ao9 t281.length co9] (by rfl) rfl rfl (by (try simp only [lM, lC, lN]); first | done | rfl | (simp only [lD, lT]; rfl)) ?_
               with_reducible refine (laws_qdBools.calls kj43 _ _ t294 _ _ t281 t329 _ ?side1 ?side2 ?side3 ?side4 A59.out).mono ?_
               (case side1 => repeat (first | exact (Kd.Q_reads' HO_305000.out).2.2 | (with_reducible refine cA ?_ _) | (with_reducible refine cN ?_ _) | (with_reducible refine cD ?_)))
               (case side2 => exact (Kd.Q_reads' HO_305000.out).2.1)
               (case side3 => repeat (first | exact (Kd.Q_reads' HO_294000.out).2.2 | (with_reducible refine cA ?_ _) | (with_reducible refine cN ?_ _) | (with_reducible refine cD ?_)))
               (case side4 => exact (Kd.Q_reads' HO_294000.out).2.1)
               rintro e w' ⟨rfl, ⟨nd, rfl⟩⟩
               refine ⟨_, rfl, ?_⟩
               refine hK.out _ _ ⟨(bC BK304.out 0).trans rfl, (bC BK304.out 1).trans rfl, (bC BK304.out 2).trans rfl, (bC BK293.out 0).trans rfl, (bC BK293.out 1).trans rfl, (bC BK293.out 2).trans rfl, hHeld.2.2.2.2.2.2.1, hHeld.2.2.2.2.2.2.2⟩ (fun hHeld => ?_)
               clear hK K
               refine norm_ (a' := ?_) ?_ ?_
               rotate_left
               ·show Act.put _ (some 74) _ = _
                simp only [Act.put, lA, lZ, lS, i64_w, i32_w]
                rfl
               refine pure_ (i := 30) (N := some 75) (v := ?_) (a' := ?_) laws_FnSigsBlock.q31 rfl rfl (any_of HT_.out (by kernel_rfl)) (fun _ _ _ h => h) (Or.inl ⟨by rfl, ?_⟩) ?_ ?_
               rotate_left
               ·intro w'
                go_simp
                with_reducible rfl
               rotate_left
               ·simp only [Act.put, lA, lZ, lS, i64_w, i32_w]
                rfl
               refine pure_ (i := 31) (N := some 2) (v := ?_) (a' := ?_) laws_FnSigsBlock.q32 rfl rfl (any_of HT_.out (by kernel_rfl)) (fun _ _ _ h => h) (Or.inl ⟨by rfl, ?_⟩) ?_ ?_
               rotate_left
               ·intro w'
                go_simp
                with_reducible rfl
               rotate_left
               ·simp only [Act.put, lA, lZ, lS, i64_w, i32_w]
                rfl
               refine done_ (done_of HT_.out (by kernel_rfl)) ?_
               try go_wp2
               go_ret
               exact ⟨by first | rfl | (simp [errW_none, errW_some] <;> rfl) | (simp [*, errW_none, errW_some] <;> rfl), by repeat (first | (with_reducible first | exact HB.out | apply oA | apply pN | apply o1 | refine bS ?_ GE293.out | refine bS ?_ GE304.out | refine bS ?_ GE315.out) | exact HB.out)⟩
              ·replace c58 := Bool.eq_false_iff.mpr c58
               subst c58
               have H1 : (some false) = some r := by rw [if_neg (show ¬ (false = true) by decide)] at H; exact H
               clear H
               have H := H1
               clear H1
               exact absurd ((Option.some.inj H).trans hT_.out) (by decide)
             ·rw [if_neg c56] at H
              exact absurd H (by simp)
            ·rw [if_neg c55] at H
             exact absurd H (by simp)
          ·rw [if_neg c52] at H
           exact absurd H (by simp)
        ·rw [if_neg c49] at H
         exact absurd H (by simp)
       ·replace c48 := Bool.eq_false_iff.mpr c48
        subst c48
        have H1 : (some false) = some r := by rw [if_neg (show ¬ (false = true) by decide)] at H; exact H
        clear H
        have H := H1
        clear H1
        exact absurd ((Option.some.inj H).trans hT_.out) (by decide)

/-- THE ONE PURE STATEMENT of laws_FnSigsBlock: yours. -/
def laws_FnSigsBlock.Pure : Prop := ∀ (l0 : List Int), l0.length ≤ maxLen → l0.length * 1 ≤ 140737488351232 → (∀ x ∈ l0, (Lit.int .u8 x).wf = true) → ∃ k, laws_FnSigsBlock.f k l0 = some true
theorem laws_FnSigsBlock.walk (P : laws_FnSigsBlock.Pure) (a0 : Option Addr) (len0 cap0 : Nat) (z0 : List Int) (w : World) (w0 : (a0 = none ∧ len0 = 0 ∧ cap0 = 0 ∧ z0 = []) ∨ ∃ x, a0 = some x ∧ len0 ≤ cap0 ∧ cap0 ≤ maxLen ∧ z0.length = cap0 ∧ (∀ i, i < z0.length → w.cell? (x.add i) = some (.int .u8 (z0.getD i 0))) ∧ ∀ n ∈ z0, (Lit.int .u8 n).wf = true) (y0 : len0 * 1 ≤ 140737488351232) :
  Calls Try.prog 7 #[.slice a0 len0 cap0] w fun e w' => e = .returned (.bool true) ∧ Below w.heap.size w w' := by
 obtain ⟨l0, rfl, hr0, hm0, hw0, hc0⟩ := ReadsInt.ofRowC w0
 obtain ⟨k, h⟩ := P l0 hm0 y0 hw0
 refine (laws_FnSigsBlock.calls k _ _ l0 true w (Kd.C_of_reads (d := (0 : Int)) (h1 := fun _ => rfl) hr0) hc0 h ⟨rfl⟩).mono ?_
 rintro e w' ⟨rfl, hd⟩
 exact ⟨rfl, hd⟩

end Go.Proofs.Ytiifanjjohophaa.PFnSigsBlock
