/- Proved here, without a condition beyond those that each theorem states: what the Go functions named below do is what the plain functions of the same names say. Written by xprint.py, a program of this session. -/
import Derived.Test.YtpdfkbggaihfpaaPFnLockWordx0
import Derived.Test.YtpdfkbggaihfpaaPFnLockWordx2
import Derived.Test.YtpdfkbggaihfpaaPFnLockWordx3
import Derived.Test.YtpdfkbggaihfpaaPFnLockWordx4
import Derived.Test.YtpdfkbggaihfpaaPFnLockWordx5
import Derived.Test.YtpdfkbggaihfpaaPFnLockWordx10
namespace Go.Proofs.Ytpdfkbggaihfpaa.PFnLockWord
open Go.RowKit Go.Proofs.YtpdfkbggaihfpaaW.PrintWords Go.Proofs.YtpdfkbggaihfpaaW.PrintLast Go.Proofs.YtpdfkbggaihfpaaW.PrintMore
attribute [local go_sem] max2_int min2_int max_two min_two max_three min_three max_four min_four   -- for this text's walks alone
set_option linter.unusedVariables false
set_option linter.unusedSimpArgs false

attribute [local go_sem ↓] isSome_setCell_
/-! ### laws_FnLockWord: function 8 -/
mutual
def laws_FnLockWord.j0 : Nat → List Int → List Int → Bool → Option (Bool)
|0, _, _, _ => none
|k + 1, x0, x1, x25 => if x25 = true then (some true) else ((spec_DrawLockNew.f k x0).bind fun bt240 => ((impl_LockNew.f k bt240.1 bt240.2).bind fun bt242 => ((spec_LockNew.f k bt240.1 bt240.2).bind fun bt251 => (if (bt242.2.2.2 != bt251.2.2.2) = true then (laws_FnLockWord.j1 k x1 bt240.1 bt242.2.2.2 bt251.2.2.2 true bt242.1 bt242.2.1 bt242.2.2.1 bt251.1 bt251.2.1 bt251.2.2.1) else ((laws_qdLock.f k bt242.1 bt242.2.1 bt242.2.2.1 bt251.1 bt251.2.1 bt251.2.2.1).bind fun t260 => (if t260 = true then (laws_FnLockWord.j1 k x1 bt240.1 bt242.2.2.2 bt251.2.2.2 (!bt242.2.2.2) bt242.1 bt242.2.1 bt242.2.2.1 bt251.1 bt251.2.1 bt251.2.2.1) else (laws_FnLockWord.j1 k x1 bt240.1 bt242.2.2.2 bt251.2.2.2 true bt242.1 bt242.2.1 bt242.2.2.1 bt251.1 bt251.2.1 bt251.2.2.1)))))))
def laws_FnLockWord.j1 : Nat → List Int → Int → Bool → Bool → Bool → Int → List (S57) → List Int → Int → List (S57) → List Int → Option (Bool)
|0, _, _, _, _, _, _, _, _, _, _, _ => none
|k + 1, x1, x5, x8, x10, x55, x251000, x251001, x251002, x260000, x260001, x260002 => if x55 = true then (if (x8 == x10) = true then ((laws_qdLock.f k x251000 x251001 x251002 x260000 x260001 x260002).bind fun t261 => (some t261)) else (some false)) else (laws_FnLockWord.l0 k x1 x5 0 x251000 x251001 x251002)
def laws_FnLockWord.l0 : Nat → List Int → Int → Int → Int → List (S57) → List Int → Option (Bool)
|0, _, _, _, _, _, _ => none
|k + 1, x1, x5, x11, x251000, x251001, x251002 => if x11 < (x1.length : Int) then (laws_FnLockWord.j3 k x1 x5 x11 (decide (x11 < 200)) x251000 x251001 x251002) else (laws_FnLockWord.j3 k x1 x5 x11 false x251000 x251001 x251002)
def laws_FnLockWord.j3 : Nat → List Int → Int → Int → Bool → Int → List (S57) → List Int → Option (Bool)
|0, _, _, _, _, _, _, _ => none
|k + 1, x1, x5, x11, x71, x251000, x251001, x251002 => if x71 = true then (if 0 ≤ x11 then (if x11 < (x1.length : Int) then (if x5 = 0 then (none) else ((impl_LockStep.f k x251000 x251001 x251002 (Int.tmod (wrap64 (rd x1 x11)) x5)).bind fun bt263 => (if bt263.2.2.2 = true then (laws_FnLockWord.j4 k x1 x5 x11 bt263.1 bt263.2.1 bt263.2.2.1) else (laws_FnLockWord.j4 k x1 x5 x11 x251000 x251001 x251002)))) else (none)) else (none)) else (some true)
def laws_FnLockWord.j4 : Nat → List Int → Int → Int → Int → List (S57) → List Int → Option (Bool)
|0, _, _, _, _, _, _ => none
|k + 1, x1, x5, x11, x251000, x251001, x251002 => laws_FnLockWord.l1 k x1 x5 x11 false false 0 x251000 x251001 x251002
def laws_FnLockWord.l1 : Nat → List Int → Int → Int → Bool → Bool → Int → Int → List (S57) → List Int → Option (Bool)
|0, _, _, _, _, _, _, _, _, _ => none
|k + 1, x1, x5, x11, x14, x15, x16, x251000, x251001, x251002 => if x16 < (x251001.length : Int) then (if 0 ≤ x16 then (if x14 = true then (if x15 = true then (laws_FnLockWord.l1 k x1 x5 x11 true true (wrap64 (x16 + 1)) x251000 x251001 x251002) else (if ((rd_T57 x251001 x16).f0) = 5 then (laws_FnLockWord.l1 k x1 x5 x11 true true (wrap64 (x16 + 1)) x251000 x251001 x251002) else (if ((rd_T57 x251001 x16).f0) = 6 then (laws_FnLockWord.l1 k x1 x5 x11 true true (wrap64 (x16 + 1)) x251000 x251001 x251002) else (if ((rd_T57 x251001 x16).f0) = 3 then (if ((rd_T57 x251001 x16).f3 = true) then (if ((rd_T57 x251001 x16).f0) = 1 then (laws_FnLockWord.l1 k x1 x5 x11 true true (wrap64 (x16 + 1)) x251000 x251001 x251002) else (laws_FnLockWord.l1 k x1 x5 x11 true (((rd_T57 x251001 x16).f0) == 2) (wrap64 (x16 + 1)) x251000 x251001 x251002)) else (laws_FnLockWord.l1 k x1 x5 x11 true true (wrap64 (x16 + 1)) x251000 x251001 x251002)) else (if ((rd_T57 x251001 x16).f0) = 1 then (laws_FnLockWord.l1 k x1 x5 x11 true true (wrap64 (x16 + 1)) x251000 x251001 x251002) else (laws_FnLockWord.l1 k x1 x5 x11 true (((rd_T57 x251001 x16).f0) == 2) (wrap64 (x16 + 1)) x251000 x251001 x251002)))))) else (if ((rd_T57 x251001 x16).f0) = 4 then (if x15 = true then (laws_FnLockWord.l1 k x1 x5 x11 true true (wrap64 (x16 + 1)) x251000 x251001 x251002) else (if ((rd_T57 x251001 x16).f0) = 5 then (laws_FnLockWord.l1 k x1 x5 x11 true true (wrap64 (x16 + 1)) x251000 x251001 x251002) else (if ((rd_T57 x251001 x16).f0) = 6 then (laws_FnLockWord.l1 k x1 x5 x11 true true (wrap64 (x16 + 1)) x251000 x251001 x251002) else (if ((rd_T57 x251001 x16).f0) = 3 then (if ((rd_T57 x251001 x16).f3 = true) then (if ((rd_T57 x251001 x16).f0) = 1 then (laws_FnLockWord.l1 k x1 x5 x11 true true (wrap64 (x16 + 1)) x251000 x251001 x251002) else (laws_FnLockWord.l1 k x1 x5 x11 true (((rd_T57 x251001 x16).f0) == 2) (wrap64 (x16 + 1)) x251000 x251001 x251002)) else (laws_FnLockWord.l1 k x1 x5 x11 true true (wrap64 (x16 + 1)) x251000 x251001 x251002)) else (if ((rd_T57 x251001 x16).f0) = 1 then (laws_FnLockWord.l1 k x1 x5 x11 true true (wrap64 (x16 + 1)) x251000 x251001 x251002) else (laws_FnLockWord.l1 k x1 x5 x11 true (((rd_T57 x251001 x16).f0) == 2) (wrap64 (x16 + 1)) x251000 x251001 x251002)))))) else (if x15 = true then (laws_FnLockWord.l1 k x1 x5 x11 (((rd_T57 x251001 x16).f0) == 5) true (wrap64 (x16 + 1)) x251000 x251001 x251002) else (if ((rd_T57 x251001 x16).f0) = 5 then (laws_FnLockWord.l1 k x1 x5 x11 (((rd_T57 x251001 x16).f0) == 5) true (wrap64 (x16 + 1)) x251000 x251001 x251002) else (if ((rd_T57 x251001 x16).f0) = 6 then (laws_FnLockWord.l1 k x1 x5 x11 (((rd_T57 x251001 x16).f0) == 5) true (wrap64 (x16 + 1)) x251000 x251001 x251002) else (if ((rd_T57 x251001 x16).f0) = 3 then (if ((rd_T57 x251001 x16).f3 = true) then (if ((rd_T57 x251001 x16).f0) = 1 then (laws_FnLockWord.l1 k x1 x5 x11 (((rd_T57 x251001 x16).f0) == 5) true (wrap64 (x16 + 1)) x251000 x251001 x251002) else (laws_FnLockWord.l1 k x1 x5 x11 (((rd_T57 x251001 x16).f0) == 5) (((rd_T57 x251001 x16).f0) == 2) (wrap64 (x16 + 1)) x251000 x251001 x251002)) else (laws_FnLockWord.l1 k x1 x5 x11 (((rd_T57 x251001 x16).f0) == 5) true (wrap64 (x16 + 1)) x251000 x251001 x251002)) else (if ((rd_T57 x251001 x16).f0) = 1 then (laws_FnLockWord.l1 k x1 x5 x11 (((rd_T57 x251001 x16).f0) == 5) true (wrap64 (x16 + 1)) x251000 x251001 x251002) else (laws_FnLockWord.l1 k x1 x5 x11 (((rd_T57 x251001 x16).f0) == 5) (((rd_T57 x251001 x16).f0) == 2) (wrap64 (x16 + 1)) x251000 x251001 x251002)))))))) else (none)) else (if ((x251000 == 0) == x14) = true then (some false) else (if (x251002.length : Int) > 0 then (if x251000 = 2 then (laws_FnLockWord.l0 k x1 x5 (wrap64 (x11 + 1)) x251000 x251001 x251002) else (if x15 = true then (laws_FnLockWord.l0 k x1 x5 (wrap64 (x11 + 1)) x251000 x251001 x251002) else (some false))) else (laws_FnLockWord.l0 k x1 x5 (wrap64 (x11 + 1)) x251000 x251001 x251002)))
end
def laws_FnLockWord.f (k : Nat) (l0 : List Int) (l1 : List Int) : Option (Bool) := if (l0.length : Int) > 1048576 then (laws_FnLockWord.j0 k l0 l1 true) else (laws_FnLockWord.j0 k l0 l1 (decide ((l1.length : Int) > 1048576)))
theorem laws_FnLockWord.mono_l : ∀ k, (∀ y0 y1 y2, LeO (laws_FnLockWord.j0 k y0 y1 y2) (laws_FnLockWord.j0 (k + 1) y0 y1 y2)) ∧ (∀ y0 y1 y2 y3 y4 y5 y6 y7 y8 y9 y10, LeO (laws_FnLockWord.j1 k y0 y1 y2 y3 y4 y5 y6 y7 y8 y9 y10) (laws_FnLockWord.j1 (k + 1) y0 y1 y2 y3 y4 y5 y6 y7 y8 y9 y10)) ∧ (∀ y0 y1 y2 y3 y4 y5, LeO (laws_FnLockWord.l0 k y0 y1 y2 y3 y4 y5) (laws_FnLockWord.l0 (k + 1) y0 y1 y2 y3 y4 y5)) ∧ (∀ y0 y1 y2 y3 y4 y5 y6, LeO (laws_FnLockWord.j3 k y0 y1 y2 y3 y4 y5 y6) (laws_FnLockWord.j3 (k + 1) y0 y1 y2 y3 y4 y5 y6)) ∧ (∀ y0 y1 y2 y3 y4 y5, LeO (laws_FnLockWord.j4 k y0 y1 y2 y3 y4 y5) (laws_FnLockWord.j4 (k + 1) y0 y1 y2 y3 y4 y5)) ∧ (∀ y0 y1 y2 y3 y4 y5 y6 y7 y8, LeO (laws_FnLockWord.l1 k y0 y1 y2 y3 y4 y5 y6 y7 y8) (laws_FnLockWord.l1 (k + 1) y0 y1 y2 y3 y4 y5 y6 y7 y8))
|0 => ⟨fun _ _ _ r h => by simp [laws_FnLockWord.j0] at h, fun _ _ _ _ _ _ _ _ _ _ _ r h => by simp [laws_FnLockWord.j1] at h, fun _ _ _ _ _ _ r h => by simp [laws_FnLockWord.l0] at h, fun _ _ _ _ _ _ _ r h => by simp [laws_FnLockWord.j3] at h, fun _ _ _ _ _ _ r h => by simp [laws_FnLockWord.j4] at h, fun _ _ _ _ _ _ _ _ _ r h => by simp [laws_FnLockWord.l1] at h⟩
|k + 1 => by
  obtain ⟨ih0, ih1, ih2, ih3, ih4, ih5⟩ := laws_FnLockWord.mono_l k
  refine ⟨?_, ?_, ?_, ?_, ?_, ?_⟩
  ·intro y0 y1 y2
   unfold laws_FnLockWord.j0
   repeat' first
  |(with_reducible exact ih0 _ _ _)
  |(with_reducible exact ih1 _ _ _ _ _ _ _ _ _ _ _)
  |(with_reducible exact ih2 _ _ _ _ _ _)
  |(with_reducible exact ih3 _ _ _ _ _ _ _)
  |(with_reducible exact ih4 _ _ _ _ _ _)
  |(with_reducible exact ih5 _ _ _ _ _ _ _ _ _)
  |(with_reducible exact impl_LockNew.mono _ _ _)
  |(with_reducible exact impl_LockStep.mono _ _ _ _ _)
  |(with_reducible exact laws_qdLock.mono _ _ _ _ _ _ _)
  |(with_reducible exact spec_DrawLockNew.mono _ _)
  |(with_reducible exact spec_LockNew.mono _ _ _)
  |(with_reducible exact LeO.refl _)
  |(with_reducible exact LeO.none _)
  |(with_reducible refine LeO.ite ?_ ?_)
  |(with_reducible refine LeO.bind ?_ (fun _ => ?_))
  |exact ih0 _ _ _
  |exact ih1 _ _ _ _ _ _ _ _ _ _ _
  |exact ih2 _ _ _ _ _ _
  |exact ih3 _ _ _ _ _ _ _
  |exact ih4 _ _ _ _ _ _
  |exact ih5 _ _ _ _ _ _ _ _ _
  |exact impl_LockNew.mono _ _ _
  |exact impl_LockStep.mono _ _ _ _ _
  |exact laws_qdLock.mono _ _ _ _ _ _ _
  |exact spec_DrawLockNew.mono _ _
  |exact spec_LockNew.mono _ _ _
  |exact LeO.none _
  |refine LeO.ite ?_ ?_
  |refine LeO.bind ?_ (fun _ => ?_)
  ·intro y0 y1 y2 y3 y4 y5 y6 y7 y8 y9 y10
   unfold laws_FnLockWord.j1
   repeat' first
  |(with_reducible exact ih0 _ _ _)
  |(with_reducible exact ih1 _ _ _ _ _ _ _ _ _ _ _)
  |(with_reducible exact ih2 _ _ _ _ _ _)
  |(with_reducible exact ih3 _ _ _ _ _ _ _)
  |(with_reducible exact ih4 _ _ _ _ _ _)
  |(with_reducible exact ih5 _ _ _ _ _ _ _ _ _)
  |(with_reducible exact impl_LockNew.mono _ _ _)
  |(with_reducible exact impl_LockStep.mono _ _ _ _ _)
  |(with_reducible exact laws_qdLock.mono _ _ _ _ _ _ _)
  |(with_reducible exact spec_DrawLockNew.mono _ _)
  |(with_reducible exact spec_LockNew.mono _ _ _)
  |(with_reducible exact LeO.refl _)
  |(with_reducible exact LeO.none _)
  |(with_reducible refine LeO.ite ?_ ?_)
  |(with_reducible refine LeO.bind ?_ (fun _ => ?_))
  |exact ih0 _ _ _
  |exact ih1 _ _ _ _ _ _ _ _ _ _ _
  |exact ih2 _ _ _ _ _ _
  |exact ih3 _ _ _ _ _ _ _
  |exact ih4 _ _ _ _ _ _
  |exact ih5 _ _ _ _ _ _ _ _ _
  |exact impl_LockNew.mono _ _ _
  |exact impl_LockStep.mono _ _ _ _ _
  |exact laws_qdLock.mono _ _ _ _ _ _ _
  |exact spec_DrawLockNew.mono _ _
  |exact spec_LockNew.mono _ _ _
  |exact LeO.none _
  |refine LeO.ite ?_ ?_
  |refine LeO.bind ?_ (fun _ => ?_)
  ·intro y0 y1 y2 y3 y4 y5
   unfold laws_FnLockWord.l0
   repeat' first
  |(with_reducible exact ih0 _ _ _)
  |(with_reducible exact ih1 _ _ _ _ _ _ _ _ _ _ _)
  |(with_reducible exact ih2 _ _ _ _ _ _)
  |(with_reducible exact ih3 _ _ _ _ _ _ _)
  |(with_reducible exact ih4 _ _ _ _ _ _)
  |(with_reducible exact ih5 _ _ _ _ _ _ _ _ _)
  |(with_reducible exact impl_LockNew.mono _ _ _)
  |(with_reducible exact impl_LockStep.mono _ _ _ _ _)
  |(with_reducible exact laws_qdLock.mono _ _ _ _ _ _ _)
  |(with_reducible exact spec_DrawLockNew.mono _ _)
  |(with_reducible exact spec_LockNew.mono _ _ _)
  |(with_reducible exact LeO.refl _)
  |(with_reducible exact LeO.none _)
  |(with_reducible refine LeO.ite ?_ ?_)
  |(with_reducible refine LeO.bind ?_ (fun _ => ?_))
  |exact ih0 _ _ _
  |exact ih1 _ _ _ _ _ _ _ _ _ _ _
  |exact ih2 _ _ _ _ _ _
  |exact ih3 _ _ _ _ _ _ _
  |exact ih4 _ _ _ _ _ _
  |exact ih5 _ _ _ _ _ _ _ _ _
  |exact impl_LockNew.mono _ _ _
  |exact impl_LockStep.mono _ _ _ _ _
  |exact laws_qdLock.mono _ _ _ _ _ _ _
  |exact spec_DrawLockNew.mono _ _
  |exact spec_LockNew.mono _ _ _
  |exact LeO.none _
  |refine LeO.ite ?_ ?_
  |refine LeO.bind ?_ (fun _ => ?_)
  ·intro y0 y1 y2 y3 y4 y5 y6
   unfold laws_FnLockWord.j3
   repeat' first
  |(with_reducible exact ih0 _ _ _)
  |(with_reducible exact ih1 _ _ _ _ _ _ _ _ _ _ _)
  |(with_reducible exact ih2 _ _ _ _ _ _)
  |(with_reducible exact ih3 _ _ _ _ _ _ _)
  |(with_reducible exact ih4 _ _ _ _ _ _)
  |(with_reducible exact ih5 _ _ _ _ _ _ _ _ _)
  |(with_reducible exact impl_LockNew.mono _ _ _)
  |(with_reducible exact impl_LockStep.mono _ _ _ _ _)
  |(with_reducible exact laws_qdLock.mono _ _ _ _ _ _ _)
  |(with_reducible exact spec_DrawLockNew.mono _ _)
  |(with_reducible exact spec_LockNew.mono _ _ _)
  |(with_reducible exact LeO.refl _)
  |(with_reducible exact LeO.none _)
  |(with_reducible refine LeO.ite ?_ ?_)
  |(with_reducible refine LeO.bind ?_ (fun _ => ?_))
  |exact ih0 _ _ _
  |exact ih1 _ _ _ _ _ _ _ _ _ _ _
  |exact ih2 _ _ _ _ _ _
  |exact ih3 _ _ _ _ _ _ _
  |exact ih4 _ _ _ _ _ _
  |exact ih5 _ _ _ _ _ _ _ _ _
  |exact impl_LockNew.mono _ _ _
  |exact impl_LockStep.mono _ _ _ _ _
  |exact laws_qdLock.mono _ _ _ _ _ _ _
  |exact spec_DrawLockNew.mono _ _
  |exact spec_LockNew.mono _ _ _
  |exact LeO.none _
  |refine LeO.ite ?_ ?_
  |refine LeO.bind ?_ (fun _ => ?_)
  ·intro y0 y1 y2 y3 y4 y5
   unfold laws_FnLockWord.j4
   repeat' first
  |(with_reducible exact ih0 _ _ _)
  |(with_reducible exact ih1 _ _ _ _ _ _ _ _ _ _ _)
  |(with_reducible exact ih2 _ _ _ _ _ _)
  |(with_reducible exact ih3 _ _ _ _ _ _ _)
  |(with_reducible exact ih4 _ _ _ _ _ _)
  |(with_reducible exact ih5 _ _ _ _ _ _ _ _ _)
  |(with_reducible exact impl_LockNew.mono _ _ _)
  |(with_reducible exact impl_LockStep.mono _ _ _ _ _)
  |(with_reducible exact laws_qdLock.mono _ _ _ _ _ _ _)
  |(with_reducible exact spec_DrawLockNew.mono _ _)
  |(with_reducible exact spec_LockNew.mono _ _ _)
  |(with_reducible exact LeO.refl _)
  |(with_reducible exact LeO.none _)
  |(with_reducible refine LeO.ite ?_ ?_)
  |(with_reducible refine LeO.bind ?_ (fun _ => ?_))
  |exact ih0 _ _ _
  |exact ih1 _ _ _ _ _ _ _ _ _ _ _
  |exact ih2 _ _ _ _ _ _
  |exact ih3 _ _ _ _ _ _ _
  |exact ih4 _ _ _ _ _ _
  |exact ih5 _ _ _ _ _ _ _ _ _
  |exact impl_LockNew.mono _ _ _
  |exact impl_LockStep.mono _ _ _ _ _
  |exact laws_qdLock.mono _ _ _ _ _ _ _
  |exact spec_DrawLockNew.mono _ _
  |exact spec_LockNew.mono _ _ _
  |exact LeO.none _
  |refine LeO.ite ?_ ?_
  |refine LeO.bind ?_ (fun _ => ?_)
  ·intro y0 y1 y2 y3 y4 y5 y6 y7 y8
   unfold laws_FnLockWord.l1
   repeat' first
  |(with_reducible exact ih0 _ _ _)
  |(with_reducible exact ih1 _ _ _ _ _ _ _ _ _ _ _)
  |(with_reducible exact ih2 _ _ _ _ _ _)
  |(with_reducible exact ih3 _ _ _ _ _ _ _)
  |(with_reducible exact ih4 _ _ _ _ _ _)
  |(with_reducible exact ih5 _ _ _ _ _ _ _ _ _)
  |(with_reducible exact impl_LockNew.mono _ _ _)
  |(with_reducible exact impl_LockStep.mono _ _ _ _ _)
  |(with_reducible exact laws_qdLock.mono _ _ _ _ _ _ _)
  |(with_reducible exact spec_DrawLockNew.mono _ _)
  |(with_reducible exact spec_LockNew.mono _ _ _)
  |(with_reducible exact LeO.refl _)
  |(with_reducible exact LeO.none _)
  |(with_reducible refine LeO.ite ?_ ?_)
  |(with_reducible refine LeO.bind ?_ (fun _ => ?_))
  |exact ih0 _ _ _
  |exact ih1 _ _ _ _ _ _ _ _ _ _ _
  |exact ih2 _ _ _ _ _ _
  |exact ih3 _ _ _ _ _ _ _
  |exact ih4 _ _ _ _ _ _
  |exact ih5 _ _ _ _ _ _ _ _ _
  |exact impl_LockNew.mono _ _ _
  |exact impl_LockStep.mono _ _ _ _ _
  |exact laws_qdLock.mono _ _ _ _ _ _ _
  |exact spec_DrawLockNew.mono _ _
  |exact spec_LockNew.mono _ _ _
  |exact LeO.none _
  |refine LeO.ite ?_ ?_
  |refine LeO.bind ?_ (fun _ => ?_)
theorem laws_FnLockWord.mono : ∀ a0 a1 k, LeO (laws_FnLockWord.f k a0 a1) (laws_FnLockWord.f (k + 1) a0 a1) := by
 intro a0 a1 k
 obtain ⟨ih0, ih1, ih2, ih3, ih4, ih5⟩ := laws_FnLockWord.mono_l k
 unfold laws_FnLockWord.f
 repeat' first
  |(with_reducible exact ih0 _ _ _)
  |(with_reducible exact ih1 _ _ _ _ _ _ _ _ _ _ _)
  |(with_reducible exact ih2 _ _ _ _ _ _)
  |(with_reducible exact ih3 _ _ _ _ _ _ _)
  |(with_reducible exact ih4 _ _ _ _ _ _)
  |(with_reducible exact ih5 _ _ _ _ _ _ _ _ _)
  |(with_reducible exact impl_LockNew.mono _ _ _)
  |(with_reducible exact impl_LockStep.mono _ _ _ _ _)
  |(with_reducible exact laws_qdLock.mono _ _ _ _ _ _ _)
  |(with_reducible exact spec_DrawLockNew.mono _ _)
  |(with_reducible exact spec_LockNew.mono _ _ _)
  |(with_reducible exact LeO.refl _)
  |(with_reducible exact LeO.none _)
  |(with_reducible refine LeO.ite ?_ ?_)
  |(with_reducible refine LeO.bind ?_ (fun _ => ?_))
  |exact ih0 _ _ _
  |exact ih1 _ _ _ _ _ _ _ _ _ _ _
  |exact ih2 _ _ _ _ _ _
  |exact ih3 _ _ _ _ _ _ _
  |exact ih4 _ _ _ _ _ _
  |exact ih5 _ _ _ _ _ _ _ _ _
  |exact impl_LockNew.mono _ _ _
  |exact impl_LockStep.mono _ _ _ _ _
  |exact laws_qdLock.mono _ _ _ _ _ _ _
  |exact spec_DrawLockNew.mono _ _
  |exact spec_LockNew.mono _ _ _
  |exact LeO.none _
  |refine LeO.ite ?_ ?_
  |refine LeO.bind ?_ (fun _ => ?_)
def laws_FnLockWord.T11 : Bool × List (List Nat × List Nat) := (true, [([], []), ([], []), ([], []), ([1, 2], [1, 2]), ([3], [3]), ([4], [4]), ([], []), ([5, 6], [5, 6]), ([0, 7], [0, 7]), ([8], [8]), ([9], [9]), ([9], [9]), ([], []), ([12, 10, 8, 0, 1, 2, 3, 4, 5, 6, 7, 8, 9, 10, 12], [10, 12]), ([11, 13, 0, 1, 2, 3, 4, 5, 6, 7, 8, 9, 10, 11, 12, 13], [11])])
def laws_FnLockWord.B11 : List Nat := [0, 0, 0, 6, 14, 30, 0, 126, 255, 511, 1023, 1023, 0, 6143, 16383]
theorem laws_FnLockWord.tab11 : rtab .any (opsOf Try.f8 11) = laws_FnLockWord.T11 := by kernel_rfl
theorem laws_FnLockWord.bits11 : waitsOk laws_FnLockWord.T11.2 laws_FnLockWord.B11 = true := by kernel_rfl
abbrev z8q0 : Array Bool := bQ 15 0
abbrev z8q1 : Array Bool := bQ 15 2
abbrev z8q2 : Array Bool := bQ 15 6
abbrev z8q3 : Array Bool := bQ 15 14
abbrev z8q4 : Array Bool := bQ 15 78
abbrev z8q5 : Array Bool := bQ 15 79
abbrev z8q6 : Array Bool := bQ 15 95
abbrev z8q7 : Array Bool := bQ 15 127
abbrev z8q8 : Array Bool := bQ 15 255
abbrev z8q9 : Array Bool := bQ 15 8191
abbrev z8q10 : Array Bool := bQ 15 511
abbrev z8q11 : Array Bool := bQ 15 4351
abbrev z8q12 : Array Bool := bQ 15 1023
abbrev z8q13 : Array Bool := bQ 15 2047
abbrev z8q14 : Array Bool := bQ 15 4095
abbrev z8q15 : Array Bool := bQ 15 4607
abbrev z8q16 : Array Bool := bQ 15 5119
abbrev z8q17 : Array Bool := bQ 15 6143
abbrev z8q18 : Array Bool := bQ 15 16383
abbrev z8q19 : Array Bool := bQ 15 32767
end Go.Proofs.Ytpdfkbggaihfpaa.PFnLockWord
