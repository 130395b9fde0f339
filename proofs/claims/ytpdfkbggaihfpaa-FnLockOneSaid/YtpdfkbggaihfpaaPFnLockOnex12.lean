/- Proved here, without a condition beyond those that each theorem states: what the Go functions named below do is what the plain functions of the same names say. Written by xprint.py, a program of this session. -/
import Derived.Test.YtpdfkbggaihfpaaPFnLockOnex0
import Derived.Test.YtpdfkbggaihfpaaPFnLockOnex2
import Derived.Test.YtpdfkbggaihfpaaPFnLockOnex3
import Derived.Test.YtpdfkbggaihfpaaPFnLockOnex4
import Derived.Test.YtpdfkbggaihfpaaPFnLockOnex5
import Derived.Test.YtpdfkbggaihfpaaPFnLockOnex10
import Derived.Test.YtpdfkbggaihfpaaPFnLockOnex11
namespace Go.Proofs.Ytpdfkbggaihfpaa.PFnLockOne
open Go.RowKit Go.Proofs.YtpdfkbggaihfpaaW.PrintWords Go.Proofs.YtpdfkbggaihfpaaW.PrintLast Go.Proofs.YtpdfkbggaihfpaaW.PrintMore
attribute [local go_sem] max2_int min2_int max_two min_two max_three min_three max_four min_four   -- for this text's walks alone
set_option linter.unusedVariables false
set_option linter.unusedSimpArgs false

attribute [local go_sem ↓] isSome_setCell_
/-! ### laws_FnLockOne: function 11 -/
mutual
def laws_FnLockOne.j0 : Nat → List Int → List Int → Bool → Option (Bool)
|0, _, _, _ => none
|k + 1, x0, x1, x21 => if x21 = true then (some true) else ((spec_DrawLockNew.f k x0).bind fun bt247 => ((impl_LockNew.f k bt247.1 bt247.2).bind fun bt249 => ((spec_LockNew.f k bt247.1 bt247.2).bind fun bt258 => (if (bt249.2.2.2 != bt258.2.2.2) = true then (laws_FnLockOne.j1 k x1 bt247.1 bt249.2.2.2 bt258.2.2.2 true bt249.1 bt249.2.1 bt249.2.2.1 bt258.1 bt258.2.1 bt258.2.2.1) else ((laws_qdLock.f k bt249.1 bt249.2.1 bt249.2.2.1 bt258.1 bt258.2.1 bt258.2.2.1).bind fun t267 => (if t267 = true then (laws_FnLockOne.j1 k x1 bt247.1 bt249.2.2.2 bt258.2.2.2 (!bt249.2.2.2) bt249.1 bt249.2.1 bt249.2.2.1 bt258.1 bt258.2.1 bt258.2.2.1) else (laws_FnLockOne.j1 k x1 bt247.1 bt249.2.2.2 bt258.2.2.2 true bt249.1 bt249.2.1 bt249.2.2.1 bt258.1 bt258.2.1 bt258.2.2.1)))))))
def laws_FnLockOne.j1 : Nat → List Int → Int → Bool → Bool → Bool → Int → List (S57) → List Int → Int → List (S57) → List Int → Option (Bool)
|0, _, _, _, _, _, _, _, _, _, _, _ => none
|k + 1, x1, x5, x8, x10, x51, x258000, x258001, x258002, x267000, x267001, x267002 => if x51 = true then (if (x8 == x10) = true then ((laws_qdLock.f k x258000 x258001 x258002 x267000 x267001 x267002).bind fun t268 => (some t268)) else (some false)) else (laws_FnLockOne.l0 k x1 x5 0 x258000 x258001 x258002)
def laws_FnLockOne.l0 : Nat → List Int → Int → Int → Int → List (S57) → List Int → Option (Bool)
|0, _, _, _, _, _, _ => none
|k + 1, x1, x5, x11, x258000, x258001, x258002 => if x11 < (x1.length : Int) then (laws_FnLockOne.j3 k x1 x5 x11 (decide (x11 < 200)) x258000 x258001 x258002) else (laws_FnLockOne.j3 k x1 x5 x11 false x258000 x258001 x258002)
def laws_FnLockOne.j3 : Nat → List Int → Int → Int → Bool → Int → List (S57) → List Int → Option (Bool)
|0, _, _, _, _, _, _, _ => none
|k + 1, x1, x5, x11, x67, x258000, x258001, x258002 => if x67 = true then (if 0 ≤ x11 then (if x11 < (x1.length : Int) then (if x5 = 0 then (none) else ((impl_LockStep.f k x258000 x258001 x258002 (Int.tmod (wrap64 (rd x1 x11)) x5)).bind fun bt270 => (if bt270.2.2.2 = true then (laws_FnLockOne.j4 k x1 x5 x11 bt270.1 bt270.2.1 bt270.2.2.1) else (laws_FnLockOne.j4 k x1 x5 x11 x258000 x258001 x258002)))) else (none)) else (none)) else (some true)
def laws_FnLockOne.j4 : Nat → List Int → Int → Int → Int → List (S57) → List Int → Option (Bool)
|0, _, _, _, _, _, _ => none
|k + 1, x1, x5, x11, x258000, x258001, x258002 => (impl_LockIn.f k x258000 x258001 x258002).bind fun t279 => (if t279 > 1 then (some false) else ((impl_LockStuck.f k x258000 x258001 x258002).bind fun t280 => (if t280 = true then (some false) else (laws_FnLockOne.l0 k x1 x5 (wrap64 (x11 + 1)) x258000 x258001 x258002))))
end
def laws_FnLockOne.f (k : Nat) (l0 : List Int) (l1 : List Int) : Option (Bool) := if (l0.length : Int) > 1048576 then (laws_FnLockOne.j0 k l0 l1 true) else (laws_FnLockOne.j0 k l0 l1 (decide ((l1.length : Int) > 1048576)))
theorem laws_FnLockOne.mono_l : ∀ k, (∀ y0 y1 y2, LeO (laws_FnLockOne.j0 k y0 y1 y2) (laws_FnLockOne.j0 (k + 1) y0 y1 y2)) ∧ (∀ y0 y1 y2 y3 y4 y5 y6 y7 y8 y9 y10, LeO (laws_FnLockOne.j1 k y0 y1 y2 y3 y4 y5 y6 y7 y8 y9 y10) (laws_FnLockOne.j1 (k + 1) y0 y1 y2 y3 y4 y5 y6 y7 y8 y9 y10)) ∧ (∀ y0 y1 y2 y3 y4 y5, LeO (laws_FnLockOne.l0 k y0 y1 y2 y3 y4 y5) (laws_FnLockOne.l0 (k + 1) y0 y1 y2 y3 y4 y5)) ∧ (∀ y0 y1 y2 y3 y4 y5 y6, LeO (laws_FnLockOne.j3 k y0 y1 y2 y3 y4 y5 y6) (laws_FnLockOne.j3 (k + 1) y0 y1 y2 y3 y4 y5 y6)) ∧ (∀ y0 y1 y2 y3 y4 y5, LeO (laws_FnLockOne.j4 k y0 y1 y2 y3 y4 y5) (laws_FnLockOne.j4 (k + 1) y0 y1 y2 y3 y4 y5))
|0 => ⟨fun _ _ _ r h => by simp [laws_FnLockOne.j0] at h, fun _ _ _ _ _ _ _ _ _ _ _ r h => by simp [laws_FnLockOne.j1] at h, fun _ _ _ _ _ _ r h => by simp [laws_FnLockOne.l0] at h, fun _ _ _ _ _ _ _ r h => by simp [laws_FnLockOne.j3] at h, fun _ _ _ _ _ _ r h => by simp [laws_FnLockOne.j4] at h⟩
|k + 1 => by
  obtain ⟨ih0, ih1, ih2, ih3, ih4⟩ := laws_FnLockOne.mono_l k
  refine ⟨?_, ?_, ?_, ?_, ?_⟩
  ·intro y0 y1 y2
   unfold laws_FnLockOne.j0
   repeat' first
  |(with_reducible exact ih0 _ _ _)
  |(with_reducible exact ih1 _ _ _ _ _ _ _ _ _ _ _)
  |(with_reducible exact ih2 _ _ _ _ _ _)
  |(with_reducible exact ih3 _ _ _ _ _ _ _)
  |(with_reducible exact ih4 _ _ _ _ _ _)
  |(with_reducible exact impl_LockIn.mono _ _ _ _)
  |(with_reducible exact impl_LockNew.mono _ _ _)
  |(with_reducible exact impl_LockStep.mono _ _ _ _ _)
  |(with_reducible exact impl_LockStuck.mono _ _ _ _)
  |(with_reducible exact laws_qdLock.mono _ _ _ _ _ _ _)
  |(with_reducible exact spec_DrawLockNew.mono _ _)
  |(with_reducible exact spec_LockNew.mono _ _ _)
  |(with_reducible exact LeO.refl _)
  |(with_reducible exact LeO.none _)
  |(with_reducible refine LeO.ite ?_ ?_)
  |(with_reducible refine LeO.bind ?_ (fun _ => ?_))
  |exact ih0 _ _ _
  |exact ih1 _ _ _ _ _ _ _ _ _ _ _
  |exact ih2 _ _ _ _ _ _
  |exact ih3 _ _ _ _ _ _ _
  |exact ih4 _ _ _ _ _ _
  |exact impl_LockIn.mono _ _ _ _
  |exact impl_LockNew.mono _ _ _
  |exact impl_LockStep.mono _ _ _ _ _
  |exact impl_LockStuck.mono _ _ _ _
  |exact laws_qdLock.mono _ _ _ _ _ _ _
  |exact spec_DrawLockNew.mono _ _
  |exact spec_LockNew.mono _ _ _
  |exact LeO.none _
  |refine LeO.ite ?_ ?_
  |refine LeO.bind ?_ (fun _ => ?_)
  ·intro y0 y1 y2 y3 y4 y5 y6 y7 y8 y9 y10
   unfold laws_FnLockOne.j1
   repeat' first
  |(with_reducible exact ih0 _ _ _)
  |(with_reducible exact ih1 _ _ _ _ _ _ _ _ _ _ _)
  |(with_reducible exact ih2 _ _ _ _ _ _)
  |(with_reducible exact ih3 _ _ _ _ _ _ _)
  |(with_reducible exact ih4 _ _ _ _ _ _)
  |(with_reducible exact impl_LockIn.mono _ _ _ _)
  |(with_reducible exact impl_LockNew.mono _ _ _)
  |(with_reducible exact impl_LockStep.mono _ _ _ _ _)
  |(with_reducible exact impl_LockStuck.mono _ _ _ _)
  |(with_reducible exact laws_qdLock.mono _ _ _ _ _ _ _)
  |(with_reducible exact spec_DrawLockNew.mono _ _)
  |(with_reducible exact spec_LockNew.mono _ _ _)
  |(with_reducible exact LeO.refl _)
  |(with_reducible exact LeO.none _)
  |(with_reducible refine LeO.ite ?_ ?_)
  |(with_reducible refine LeO.bind ?_ (fun _ => ?_))
  |exact ih0 _ _ _
  |exact ih1 _ _ _ _ _ _ _ _ _ _ _
  |exact ih2 _ _ _ _ _ _
  |exact ih3 _ _ _ _ _ _ _
  |exact ih4 _ _ _ _ _ _
  |exact impl_LockIn.mono _ _ _ _
  |exact impl_LockNew.mono _ _ _
  |exact impl_LockStep.mono _ _ _ _ _
  |exact impl_LockStuck.mono _ _ _ _
  |exact laws_qdLock.mono _ _ _ _ _ _ _
  |exact spec_DrawLockNew.mono _ _
  |exact spec_LockNew.mono _ _ _
  |exact LeO.none _
  |refine LeO.ite ?_ ?_
  |refine LeO.bind ?_ (fun _ => ?_)
  ·intro y0 y1 y2 y3 y4 y5
   unfold laws_FnLockOne.l0
   repeat' first
  |(with_reducible exact ih0 _ _ _)
  |(with_reducible exact ih1 _ _ _ _ _ _ _ _ _ _ _)
  |(with_reducible exact ih2 _ _ _ _ _ _)
  |(with_reducible exact ih3 _ _ _ _ _ _ _)
  |(with_reducible exact ih4 _ _ _ _ _ _)
  |(with_reducible exact impl_LockIn.mono _ _ _ _)
  |(with_reducible exact impl_LockNew.mono _ _ _)
  |(with_reducible exact impl_LockStep.mono _ _ _ _ _)
  |(with_reducible exact impl_LockStuck.mono _ _ _ _)
  |(with_reducible exact laws_qdLock.mono _ _ _ _ _ _ _)
  |(with_reducible exact spec_DrawLockNew.mono _ _)
  |(with_reducible exact spec_LockNew.mono _ _ _)
  |(with_reducible exact LeO.refl _)
  |(with_reducible exact LeO.none _)
  |(with_reducible refine LeO.ite ?_ ?_)
  |(with_reducible refine LeO.bind ?_ (fun _ => ?_))
  |exact ih0 _ _ _
  |exact ih1 _ _ _ _ _ _ _ _ _ _ _
  |exact ih2 _ _ _ _ _ _
  |exact ih3 _ _ _ _ _ _ _
  |exact ih4 _ _ _ _ _ _
  |exact impl_LockIn.mono _ _ _ _
  |exact impl_LockNew.mono _ _ _
  |exact impl_LockStep.mono _ _ _ _ _
  |exact impl_LockStuck.mono _ _ _ _
  |exact laws_qdLock.mono _ _ _ _ _ _ _
  |exact spec_DrawLockNew.mono _ _
  |exact spec_LockNew.mono _ _ _
  |exact LeO.none _
  |refine LeO.ite ?_ ?_
  |refine LeO.bind ?_ (fun _ => ?_)
  ·intro y0 y1 y2 y3 y4 y5 y6
   unfold laws_FnLockOne.j3
   repeat' first
  |(with_reducible exact ih0 _ _ _)
  |(with_reducible exact ih1 _ _ _ _ _ _ _ _ _ _ _)
  |(with_reducible exact ih2 _ _ _ _ _ _)
  |(with_reducible exact ih3 _ _ _ _ _ _ _)
  |(with_reducible exact ih4 _ _ _ _ _ _)
  |(with_reducible exact impl_LockIn.mono _ _ _ _)
  |(with_reducible exact impl_LockNew.mono _ _ _)
  |(with_reducible exact impl_LockStep.mono _ _ _ _ _)
  |(with_reducible exact impl_LockStuck.mono _ _ _ _)
  |(with_reducible exact laws_qdLock.mono _ _ _ _ _ _ _)
  |(with_reducible exact spec_DrawLockNew.mono _ _)
  |(with_reducible exact spec_LockNew.mono _ _ _)
  |(with_reducible exact LeO.refl _)
  |(with_reducible exact LeO.none _)
  |(with_reducible refine LeO.ite ?_ ?_)
  |(with_reducible refine LeO.bind ?_ (fun _ => ?_))
  |exact ih0 _ _ _
  |exact ih1 _ _ _ _ _ _ _ _ _ _ _
  |exact ih2 _ _ _ _ _ _
  |exact ih3 _ _ _ _ _ _ _
  |exact ih4 _ _ _ _ _ _
  |exact impl_LockIn.mono _ _ _ _
  |exact impl_LockNew.mono _ _ _
  |exact impl_LockStep.mono _ _ _ _ _
  |exact impl_LockStuck.mono _ _ _ _
  |exact laws_qdLock.mono _ _ _ _ _ _ _
  |exact spec_DrawLockNew.mono _ _
  |exact spec_LockNew.mono _ _ _
  |exact LeO.none _
  |refine LeO.ite ?_ ?_
  |refine LeO.bind ?_ (fun _ => ?_)
  ·intro y0 y1 y2 y3 y4 y5
   unfold laws_FnLockOne.j4
   repeat' first
  |(with_reducible exact ih0 _ _ _)
  |(with_reducible exact ih1 _ _ _ _ _ _ _ _ _ _ _)
  |(with_reducible exact ih2 _ _ _ _ _ _)
  |(with_reducible exact ih3 _ _ _ _ _ _ _)
  |(with_reducible exact ih4 _ _ _ _ _ _)
  |(with_reducible exact impl_LockIn.mono _ _ _ _)
  |(with_reducible exact impl_LockNew.mono _ _ _)
  |(with_reducible exact impl_LockStep.mono _ _ _ _ _)
  |(with_reducible exact impl_LockStuck.mono _ _ _ _)
  |(with_reducible exact laws_qdLock.mono _ _ _ _ _ _ _)
  |(with_reducible exact spec_DrawLockNew.mono _ _)
  |(with_reducible exact spec_LockNew.mono _ _ _)
  |(with_reducible exact LeO.refl _)
  |(with_reducible exact LeO.none _)
  |(with_reducible refine LeO.ite ?_ ?_)
  |(with_reducible refine LeO.bind ?_ (fun _ => ?_))
  |exact ih0 _ _ _
  |exact ih1 _ _ _ _ _ _ _ _ _ _ _
  |exact ih2 _ _ _ _ _ _
  |exact ih3 _ _ _ _ _ _ _
  |exact ih4 _ _ _ _ _ _
  |exact impl_LockIn.mono _ _ _ _
  |exact impl_LockNew.mono _ _ _
  |exact impl_LockStep.mono _ _ _ _ _
  |exact impl_LockStuck.mono _ _ _ _
  |exact laws_qdLock.mono _ _ _ _ _ _ _
  |exact spec_DrawLockNew.mono _ _
  |exact spec_LockNew.mono _ _ _
  |exact LeO.none _
  |refine LeO.ite ?_ ?_
  |refine LeO.bind ?_ (fun _ => ?_)
theorem laws_FnLockOne.mono : ∀ a0 a1 k, LeO (laws_FnLockOne.f k a0 a1) (laws_FnLockOne.f (k + 1) a0 a1) := by
 intro a0 a1 k
 obtain ⟨ih0, ih1, ih2, ih3, ih4⟩ := laws_FnLockOne.mono_l k
 unfold laws_FnLockOne.f
 repeat' first
  |(with_reducible exact ih0 _ _ _)
  |(with_reducible exact ih1 _ _ _ _ _ _ _ _ _ _ _)
  |(with_reducible exact ih2 _ _ _ _ _ _)
  |(with_reducible exact ih3 _ _ _ _ _ _ _)
  |(with_reducible exact ih4 _ _ _ _ _ _)
  |(with_reducible exact impl_LockIn.mono _ _ _ _)
  |(with_reducible exact impl_LockNew.mono _ _ _)
  |(with_reducible exact impl_LockStep.mono _ _ _ _ _)
  |(with_reducible exact impl_LockStuck.mono _ _ _ _)
  |(with_reducible exact laws_qdLock.mono _ _ _ _ _ _ _)
  |(with_reducible exact spec_DrawLockNew.mono _ _)
  |(with_reducible exact spec_LockNew.mono _ _ _)
  |(with_reducible exact LeO.refl _)
  |(with_reducible exact LeO.none _)
  |(with_reducible refine LeO.ite ?_ ?_)
  |(with_reducible refine LeO.bind ?_ (fun _ => ?_))
  |exact ih0 _ _ _
  |exact ih1 _ _ _ _ _ _ _ _ _ _ _
  |exact ih2 _ _ _ _ _ _
  |exact ih3 _ _ _ _ _ _ _
  |exact ih4 _ _ _ _ _ _
  |exact impl_LockIn.mono _ _ _ _
  |exact impl_LockNew.mono _ _ _
  |exact impl_LockStep.mono _ _ _ _ _
  |exact impl_LockStuck.mono _ _ _ _
  |exact laws_qdLock.mono _ _ _ _ _ _ _
  |exact spec_DrawLockNew.mono _ _
  |exact spec_LockNew.mono _ _ _
  |exact LeO.none _
  |refine LeO.ite ?_ ?_
  |refine LeO.bind ?_ (fun _ => ?_)
def laws_FnLockOne.T11 : Bool × List (List Nat × List Nat) := (true, [([], []), ([], []), ([], []), ([1, 2], [1, 2]), ([3], [3]), ([4], [4]), ([], []), ([5, 6], [5, 6]), ([0, 7], [0, 7]), ([8], [8]), ([9], [9]), ([9], [9]), ([], []), ([12, 10, 8, 0, 1, 2, 3, 4, 5, 6, 7, 8, 9, 10, 12], [10, 12]), ([11, 13, 0, 1, 2, 3, 4, 5, 6, 7, 8, 9, 10, 11, 12, 13], [11])])
def laws_FnLockOne.B11 : List Nat := [0, 0, 0, 6, 14, 30, 0, 126, 255, 511, 1023, 1023, 0, 6143, 16383]
theorem laws_FnLockOne.tab11 : rtab .any (opsOf Try.f11 11) = laws_FnLockOne.T11 := by kernel_rfl
theorem laws_FnLockOne.bits11 : waitsOk laws_FnLockOne.T11.2 laws_FnLockOne.B11 = true := by kernel_rfl
abbrev z11q0 : Array Bool := bQ 15 0
abbrev z11q1 : Array Bool := bQ 15 2
abbrev z11q2 : Array Bool := bQ 15 6
abbrev z11q3 : Array Bool := bQ 15 14
abbrev z11q4 : Array Bool := bQ 15 78
abbrev z11q5 : Array Bool := bQ 15 79
abbrev z11q6 : Array Bool := bQ 15 95
abbrev z11q7 : Array Bool := bQ 15 127
abbrev z11q8 : Array Bool := bQ 15 255
abbrev z11q9 : Array Bool := bQ 15 8191
abbrev z11q10 : Array Bool := bQ 15 511
abbrev z11q11 : Array Bool := bQ 15 4351
abbrev z11q12 : Array Bool := bQ 15 1023
abbrev z11q13 : Array Bool := bQ 15 2047
abbrev z11q14 : Array Bool := bQ 15 4095
abbrev z11q15 : Array Bool := bQ 15 4607
abbrev z11q16 : Array Bool := bQ 15 5119
abbrev z11q17 : Array Bool := bQ 15 6143
abbrev z11q18 : Array Bool := bQ 15 16383
abbrev z11q19 : Array Bool := bQ 15 32767
set_option maxHeartbeats 2000000 in
set_option maxRecDepth 100000 in
theorem laws_FnLockOne.calls (k:Nat) (A0:Option Addr) (c0:Nat) (l0:List Int) (A1:Option Addr) (c1:Nat) (l1:List Int) (r:Bool) (w:World) (hr0:Kd.C (Kd.int .u8) w A0 l0.length l0) (hc0:l0.length≤c0) (hr1:Kd.C (Kd.int .u8) w A1 l1.length l1) (hc1:l1.length≤c1) (h:laws_FnLockOne.f k l0 l1=some r) (hT_:Aside0 (r=true)) :
  Calls Try.prog 11 #[.slice A0 l0.length c0,.slice A1 l1.length c1] w fun e w'=>e=.returned (.bool r)∧Below w.heap.size w w':=by
 have hu51:=Try.underlying51
 have HR0:=Am hr0
 have HC0:=Am hc0
 clear hr0 hc0
 have HR1:=Am hr1
 have HC1:=Am hc1
 clear hr1 hc1
 have HB:=Am (bJ w.heap.size w)
 have H:(if (l0.length:Int) > 1048576 then (laws_FnLockOne.j0 k l0 l1 true) else (laws_FnLockOne.j0 k l0 l1 (decide ((l1.length:Int) > 1048576))))=some r:=h
 clear h
 have HC3:=Am H
 clear H
 go_enter Try.func11,Try.ntmps11
 go_upto_region 1 with (fail)
 go_cut [21] (fun v21 wc=>∃ (kq:Nat) (x21_2:Bool),v21=.bool x21_2∧Aside0 (laws_FnLockOne.j0 kq l0 l1 x21_2=some r)∧Aside0 (kq≤k)∧Aside0 (Below w.heap.size w wc))
 case first =>
  have H:=HC3.out
  clear HC3
  by_cases c4:(l0.length:Int) > 1048576
  ·rw [if_pos c4] at H
   have c4b0:decide (1048576<(l0.length:Int))=true:=dT c4
   have c4b1:decide (1048576<l0.length)=true:=dT (by omega)
   clear c4
   (first|rw [c4b0]|(simp only [i64_w,i32_w];rw [c4b0])|skip)
   have H':=Am H
   clear H
   go_wp2
   go_meet
   case rel=>exact ⟨_,(true),(by first|rfl|(simp;done)|(simp [*];done)),H',⟨by first|omega|exact nR _⟩,⟨by repeat (first|(with_reducible first|exact HB.out|apply oA|apply pN|apply o1)|exact HB.out)⟩⟩
  rw [if_neg c4] at H
  have c4b0:decide (1048576<(l0.length:Int))=false:=dF c4
  have c4b1:decide (1048576<l0.length)=false:=dF (by omega)
  clear c4
  (first|rw [c4b0]|(simp only [i64_w,i32_w];rw [c4b0])|skip)
  have H':=Am H
  clear H
  go_wp2
  go_meet
  case rel=>exact ⟨_,(decide ((l1.length:Int) > 1048576)),(by first|rfl|(simp;done)|(simp [*];done)),H',⟨by first|omega|exact nR _⟩,⟨by repeat (first|(with_reducible first|exact HB.out|apply oA|apply pN|apply o1)|exact HB.out)⟩⟩
 case rest =>
  clear HC3
  try clear c1
  try clear p2
  try clear c4
  try clear c4b0
  try clear c4b1
  obtain ⟨kq,x21_2,rfl,HA,Dc,HB⟩:=hcut
  cases kq with
 |zero=>exact absurd HA.out (by simp [laws_FnLockOne.j0])
 |succ kj2 =>
   have H:=HA.out
   clear HA
   simp only [laws_FnLockOne.j0] at H
   by_cases c5:x21_2=true
   ·subst c5
    have H1:(some true)=some r:=by rw [if_pos rfl] at H;exact H
    clear H
    have H:=H1
    clear H1
    obtain rfl:=oJ H
    go_wp2
    go_ret
    exact ⟨by first|rfl|(simp [errW_none,errW_some] <;> rfl)|(simp [*,errW_none,errW_some] <;> rfl),by repeat (first|(with_reducible first|exact HB.out|apply oA|apply pN|apply o1)|exact HB.out)⟩
   replace c5:=Bool.eq_false_iff.mpr c5
   subst c5
   have H1:((spec_DrawLockNew.f kj2 l0).bind fun bt247=>((impl_LockNew.f kj2 bt247.1 bt247.2).bind fun bt249=>((spec_LockNew.f kj2 bt247.1 bt247.2).bind fun bt258=>(if (bt249.2.2.2 != bt258.2.2.2)=true then (laws_FnLockOne.j1 kj2 l1 bt247.1 bt249.2.2.2 bt258.2.2.2 true bt249.1 bt249.2.1 bt249.2.2.1 bt258.1 bt258.2.1 bt258.2.2.1) else ((laws_qdLock.f kj2 bt249.1 bt249.2.1 bt249.2.2.1 bt258.1 bt258.2.1 bt258.2.2.1).bind fun t267=>(if t267=true then (laws_FnLockOne.j1 kj2 l1 bt247.1 bt249.2.2.2 bt258.2.2.2 (!bt249.2.2.2) bt249.1 bt249.2.1 bt249.2.2.1 bt258.1 bt258.2.1 bt258.2.2.1) else (laws_FnLockOne.j1 kj2 l1 bt247.1 bt249.2.2.2 bt258.2.2.2 true bt249.1 bt249.2.1 bt249.2.2.1 bt258.1 bt258.2.1 bt258.2.2.1)))))))=some r:=by rw [if_neg (show ¬ (false=true) by decide)] at H;exact H
   clear H
   have H:=H1
   clear H1
   replace H:=oC H
   obtain ⟨⟨t247,t248⟩,A60,H⟩:=H
   replace H:((impl_LockNew.f kj2 t247 t248).bind fun bt249=>((spec_LockNew.f kj2 t247 t248).bind fun bt258=>(if (bt249.2.2.2 != bt258.2.2.2)=true then (laws_FnLockOne.j1 kj2 l1 t247 bt249.2.2.2 bt258.2.2.2 true bt249.1 bt249.2.1 bt249.2.2.1 bt258.1 bt258.2.1 bt258.2.2.1) else ((laws_qdLock.f kj2 bt249.1 bt249.2.1 bt249.2.2.1 bt258.1 bt258.2.1 bt258.2.2.1).bind fun t267=>(if t267=true then (laws_FnLockOne.j1 kj2 l1 t247 bt249.2.2.2 bt258.2.2.2 (!bt249.2.2.2) bt249.1 bt249.2.1 bt249.2.2.1 bt258.1 bt258.2.1 bt258.2.2.1) else (laws_FnLockOne.j1 kj2 l1 t247 bt249.2.2.2 bt258.2.2.2 true bt249.1 bt249.2.1 bt249.2.2.1 bt258.1 bt258.2.1 bt258.2.2.1))))))=some r:=H
   have A6:=Am A60
   clear A60
   replace H:=oC H
   obtain ⟨⟨t249,t250,t253,t256⟩,A70,H⟩:=H
   replace H:((spec_LockNew.f kj2 t247 t248).bind fun bt258=>(if (t256 != bt258.2.2.2)=true then (laws_FnLockOne.j1 kj2 l1 t247 t256 bt258.2.2.2 true t249 t250 t253 bt258.1 bt258.2.1 bt258.2.2.1) else ((laws_qdLock.f kj2 t249 t250 t253 bt258.1 bt258.2.1 bt258.2.2.1).bind fun t267=>(if t267=true then (laws_FnLockOne.j1 kj2 l1 t247 t256 bt258.2.2.2 (!t256) t249 t250 t253 bt258.1 bt258.2.1 bt258.2.2.1) else (laws_FnLockOne.j1 kj2 l1 t247 t256 bt258.2.2.2 true t249 t250 t253 bt258.1 bt258.2.1 bt258.2.2.1)))))=some r:=H
   have A7:=Am A70
   clear A70
   replace H:=oC H
   obtain ⟨⟨t258,t259,t262,t265⟩,A80,H⟩:=H
   replace H:(if (t256 != t265)=true then (laws_FnLockOne.j1 kj2 l1 t247 t256 t265 true t249 t250 t253 t258 t259 t262) else ((laws_qdLock.f kj2 t249 t250 t253 t258 t259 t262).bind fun t267=>(if t267=true then (laws_FnLockOne.j1 kj2 l1 t247 t256 t265 (!t256) t249 t250 t253 t258 t259 t262) else (laws_FnLockOne.j1 kj2 l1 t247 t256 t265 true t249 t250 t253 t258 t259 t262))))=some r:=H
   have A8:=Am A80
   clear A80
   have HC9:=Am H
   clear H
   go_upto_region 6 with (first|((with_reducible refine gC (f:=32) rfl ?_);refine goesL_ (some 24) rfl rfl Try.func32 (by kernel_rfl) rfl #[.slice A0 l0.length c0] rfl (by (try simp only [lM,lC,lN]);first|done|rfl|(simp only [lD,lT];rfl)) ?_;(with_reducible refine (spec_DrawLockNew.calls kj2 _ _ l0 t247 t248 _ ?side1 ?side2 A6.out).mono ?_);(case side1=>exact cL (cB HR0.out HB.out));(case side2=>exact HC0.out);rintro e w10 ⟨rfl,hb⟩;refine ⟨_,rfl,?_⟩;have n0_:=Am (bP (by repeat (first|(with_reducible first|exact HB.out|apply oA|apply pN|apply o1)|exact HB.out)) hb);clear HB;revert n0_;intro HB;(try clear hb);(try clear hb2);(try clear hk);(try clear hi))|((with_reducible refine gC (f:=33) rfl ?_);refine goesL_ (some 30) rfl rfl Try.func33 (by kernel_rfl) rfl #[.int .i64 t247,.int .i64 t248] rfl (by (try simp only [lM,lC,lN]);first|done|rfl|(simp only [lD,lT];rfl)) ?_;(with_reducible refine (impl_LockNew.calls kj2 t247 t248 t249 t250 t253 t256 _ A7.out).mono ?_);rintro e w11 ⟨v251,v254,rfl,ho0,ho1,hb⟩;refine ⟨_,rfl,?_⟩;have n0_:=Am (rW ho0 (bZ (by repeat (first|(with_reducible first|exact HB.out|apply oA|apply pN|apply o1)|exact HB.out))));have n1_:=Am (rW ho1 (bZ (by repeat (first|(with_reducible first|exact HB.out|apply oA|apply pN|apply o1)|exact HB.out))));have n2_:=Am (bP (by repeat (first|(with_reducible first|exact HB.out|apply oA|apply pN|apply o1)|exact HB.out)) hb);clear HB;revert n0_ n1_ n2_;intro Bn Bo HB;(try clear hb);(try clear hb2);(try clear hk);(try clear hi);(try clear ho0);(try clear ho1))|((with_reducible refine gD (N:=7) rfl ?_);(try (refine gate_guard (by rfl) ?_;dsimp only));refine bI ?hg (N:=7) ?hd (cs:=#[.int .i64 0,.slice none 0 0,.slice none 0 0]) (t:=51) ?hr ?_;(case hd=>rfl);(case hg=>rfl);(case hr=>first|(go_simp;done)|(go_simp;rfl));intro Bd hg w12 hbox hb;have n0_:=Am (rB (rL Bn.out) hb);have n1_:=Am (rB (rL Bo.out) hb);have n2_:=Am (bP (by repeat (first|(with_reducible first|exact HB.out|apply oA|apply pN|apply o1)|exact HB.out)) hb);have n3_:=Am (hbox);have n4_:=Am ((by rw [hg];exact (bZ (by repeat (first|(with_reducible first|exact HB.out|apply oA|apply pN|apply o1)|exact HB.out))):w.heap.size≤Bd));have n5_:=Am ((by rw [hg];exact (bZ (by repeat (first|(with_reducible first|exact HB.out|apply oA|apply pN|apply o1)|exact HB.out))):w.heap.size≤Bd));clear Bn Bo HB;revert n0_ n1_ n2_ n3_ n4_ n5_;intro Bn Bo HB Ba DQ Bl;clear hb hbox hg;have BC:=cz0 Ba.out;have BD:=cz1 Ba.out;have BE:=cz2 Ba.out;have BF:=bF Ba.out 0;have BG:=bF Ba.out 1;have BH:=bF Ba.out 2;obtain ⟨Ao14,co14,eo14⟩:=rC Bn.out;subst eo14;obtain ⟨Ao15,co15,eo15⟩:=rC Bo.out;subst eo15)|((with_reducible refine gC (f:=34) rfl ?_);refine goesL_ (some 36) rfl rfl Try.func34 (by kernel_rfl) rfl #[.int .i64 t247,.int .i64 t248] rfl (by (try simp only [lM,lC,lN]);first|done|rfl|(simp only [lD,lT];rfl)) ?_;(with_reducible refine (spec_LockNew.calls kj2 t247 t248 t258 t259 t262 t265 _ A8.out).mono ?_);rintro e w16 ⟨v260,v263,rfl,ho0,ho1,hb⟩;refine ⟨_,rfl,?_⟩;have n0_:=Am (rX (by (with_reducible repeat (first|apply rA|apply rN|apply rD));exact (rM (rF (p:=⟨Bd,2,none⟩) (rF (p:=⟨Bd,1,none⟩) (rF (p:=⟨Bd,0,none⟩) (rT Bn.out Ba.out (by decide)) (fun _ hk=>hk.2) (.int .i64 t249)) (fun _ hk=>hk.2) (.slice Ao14 t250.length co14)) (fun _ hk=>hk.2) (.slice Ao15 t253.length co15)) (fun _ h_=>h_.1))) (rZ ho0) hb);have n1_:=Am (rX (by (with_reducible repeat (first|apply rA|apply rN|apply rD));exact (rM (rF (p:=⟨Bd,2,none⟩) (rF (p:=⟨Bd,1,none⟩) (rF (p:=⟨Bd,0,none⟩) (rT Bo.out Ba.out (by decide)) (fun _ hk=>hk.2) (.int .i64 t249)) (fun _ hk=>hk.2) (.slice Ao14 t250.length co14)) (fun _ hk=>hk.2) (.slice Ao15 t253.length co15)) (fun _ h_=>h_.1))) (rZ ho1) hb);have n2_:=Am (rW (rQ ho0 (rI (by (with_reducible repeat (first|apply rA|apply rN|apply rD));exact (rM (rF (p:=⟨Bd,2,none⟩) (rF (p:=⟨Bd,1,none⟩) (rF (p:=⟨Bd,0,none⟩) (rT Bn.out Ba.out (by decide)) (fun _ hk=>hk.2) (.int .i64 t249)) (fun _ hk=>hk.2) (.slice Ao14 t250.length co14)) (fun _ hk=>hk.2) (.slice Ao15 t253.length co15)) (fun _ h_=>h_.1))))) (bZ (by repeat (first|(with_reducible first|exact HB.out|apply oA|apply pN|apply o1|refine bS ?_ Bl.out)|exact HB.out))));have n3_:=Am (rW (rQ ho1 (rI (by (with_reducible repeat (first|apply rA|apply rN|apply rD));exact (rM (rF (p:=⟨Bd,2,none⟩) (rF (p:=⟨Bd,1,none⟩) (rF (p:=⟨Bd,0,none⟩) (rT Bo.out Ba.out (by decide)) (fun _ hk=>hk.2) (.int .i64 t249)) (fun _ hk=>hk.2) (.slice Ao14 t250.length co14)) (fun _ hk=>hk.2) (.slice Ao15 t253.length co15)) (fun _ h_=>h_.1))))) (bZ (by repeat (first|(with_reducible first|exact HB.out|apply oA|apply pN|apply o1|refine bS ?_ Bl.out)|exact HB.out))));have n4_:=Am (bB (g:=Bd) (o:=.cells #[.int .i64 t249,.slice Ao14 t250.length co14,.slice Ao15 t253.length co15] 51 (0,0)) (by (with_reducible repeat (first|refine bN ?_ _|refine bD ?_|refine bA ?_ _));refine bT (cs:=#[.int .i64 t249,.slice Ao14 t250.length co14,.slice none 0 0]) ?_ 2 _ rfl;(with_reducible repeat (first|refine bN ?_ _|refine bD ?_|refine bA ?_ _));refine bT (cs:=#[.int .i64 t249,.slice none 0 0,.slice none 0 0]) ?_ 1 _ rfl;(with_reducible repeat (first|refine bN ?_ _|refine bD ?_|refine bA ?_ _));refine bT (cs:=#[.int .i64 0,.slice none 0 0,.slice none 0 0]) ?_ 0 _ rfl;(with_reducible repeat (first|refine bN ?_ _|refine bD ?_|refine bA ?_ _));exact Ba.out) hb);have n5_:=Am (bP (by repeat (first|(with_reducible first|exact HB.out|apply oA|apply pN|apply o1|refine bS ?_ Bl.out)|exact HB.out)) hb);clear Bn Bo Ba HB;revert n0_ n1_ n2_ n3_ n4_ n5_;intro Bn Bo Br Bs Ba HB;(try clear hb);(try clear hb2);(try clear hk);(try clear hi);(try clear ho0);(try clear ho1))|((with_reducible refine gD (N:=9) rfl ?_);(try (refine gate_guard (by rfl) ?_;dsimp only));refine bI ?hg (N:=9) ?hd (cs:=#[.int .i64 0,.slice none 0 0,.slice none 0 0]) (t:=51) ?hr ?_;(case hd=>rfl);(case hg=>rfl);(case hr=>first|(go_simp;done)|(go_simp;rfl));intro Bb hg w17 hbox hb;have n0_:=Am (rB (rL Bn.out) hb);have n1_:=Am (rB (rL Bo.out) hb);have n2_:=Am (rB (rL Br.out) hb);have n3_:=Am (rB (rL Bs.out) hb);have n4_:=Am (bX Ba.out hb);have n5_:=Am (bP (by repeat (first|(with_reducible first|exact HB.out|apply oA|apply pN|apply o1|refine bS ?_ Bl.out)|exact HB.out)) hb);have n6_:=Am (hbox);have n7_:=Am ((by rw [hg];exact (bZ (by repeat (first|(with_reducible first|exact HB.out|apply oA|apply pN|apply o1|refine bS ?_ Bl.out)|exact HB.out))):w.heap.size≤Bb));have n8_:=Am ((by rw [hg];exact (bZ (by repeat (first|(with_reducible first|exact HB.out|apply oA|apply pN|apply o1|refine bS ?_ Bl.out)|exact HB.out))):w.heap.size≤Bb));have n9_:=Am ((nL Ba.out hg));have n10_:=Am ((nG Ba.out hg));clear Bn Bo Br Bs Ba HB;revert n0_ n1_ n2_ n3_ n4_ n5_ n6_ n7_ n8_ n9_ n10_;intro Bn Bo Br Bs Ba HB Bc DR Bm Bt Bx;clear hb hbox hg;have DS:=Bx.out;have DT:=Bt.out;have BI:=cz0 Bc.out;have BJ:=cz1 Bc.out;have BK:=cz2 Bc.out;have BL:=bF Bc.out 0;have BM:=bF Bc.out 1;have BN:=bF Bc.out 2;obtain ⟨Ao20,co20,eo20⟩:=rC Br.out;subst eo20;obtain ⟨Ao21,co21,eo21⟩:=rC Bs.out;subst eo21))
   (try simp only [Act.put,lA,lZ,lS])
   go_cut [51] (fun v51 wc=>∃ (kq:Nat) (x51_8:Bool),v51=.bool x51_8∧Aside0 (laws_FnLockOne.j1 kq l1 t247 t256 t265 x51_8 t249 t250 t253 t258 t259 t262=some r)∧Aside0 (kq≤kj2)∧Aside0 (Kd.R k57 57 wc w.heap.size (fun k_=>some k_≠((.slice Ao20 t259.length co20):Value).ownBlock) (.slice Ao14 t250.length co14) t250)∧Aside0 (Kd.Q (Kd.int .i64) 3 wc w.heap.size (fun k_=>some k_≠((.slice Ao21 t262.length co21):Value).ownBlock) (.slice Ao15 t253.length co15) t253)∧Aside0 (Kd.R k57 57 wc w.heap.size (fun k_=>some k_≠((.slice Ao14 t250.length co14):Value).ownBlock) (.slice Ao20 t259.length co20) t259)∧Aside0 (Kd.Q (Kd.int .i64) 3 wc w.heap.size (fun k_=>some k_≠((.slice Ao15 t253.length co15):Value).ownBlock) (.slice Ao21 t262.length co21) t262)∧Aside0 (wc.heap[Bd]?=some (.cells #[.int .i64 t249,(.slice Ao14 t250.length co14),(.slice Ao15 t253.length co15)] 51 (0,0)))∧Aside0 (wc.heap[Bb]?=some (.cells #[.int .i64 t258,(.slice Ao20 t259.length co20),(.slice Ao21 t262.length co21)] 51 (0,0)))∧Aside0 (Below w.heap.size w wc))
   case first =>
    have H:=HC9.out
    clear HC9
    by_cases c22:(t256 != t265)=true
    ·rw [if_pos c22] at H
     have c22b0:(t256 != t265)=true:=c22
     (try (have c22b1:decide (t256=t265)=false:=by simpa using c22))
     (try (have c22b2:(t256 == t265)=false:=by simpa using c22))
     (try (have c22b3:¬ (t256=t265):=by simpa using c22))
     clear c22
     (first|rw [c22b0]|(simp only [i64_w,i32_w];rw [c22b0])|skip)
     have H':=Am H
     clear H
     go_wp2
     go_meet
     case rel=>exact ⟨_,(true),(by first|rfl|(simp;done)|(simp [*];done)),H',⟨by have:=Dc.out;first|omega|exact nR _⟩,⟨by (with_reducible repeat (first|apply rA|apply rN|apply rD));exact rM (rF (p:=⟨Bb,2,none⟩) (rF (p:=⟨Bb,1,none⟩) (rF (p:=⟨Bb,0,none⟩) (rT Bn.out Bc.out (by decide)) (fun _ hk=>hk.2) (.int .i64 t258)) (fun _ hk=>hk.2) (.slice Ao20 t259.length co20)) (fun _ hk=>hk.2) (.slice Ao21 t262.length co21)) (fun _ hk=>hk.1.2)⟩,⟨Kd.Q_of_R (by (with_reducible repeat (first|apply rA|apply rN|apply rD));exact rM (rF (p:=⟨Bb,2,none⟩) (rF (p:=⟨Bb,1,none⟩) (rF (p:=⟨Bb,0,none⟩) (rT Bo.out Bc.out (by decide)) (fun _ hk=>hk.2) (.int .i64 t258)) (fun _ hk=>hk.2) (.slice Ao20 t259.length co20)) (fun _ hk=>hk.2) (.slice Ao21 t262.length co21)) (fun _ hk=>hk.1.2))⟩,⟨by (with_reducible repeat (first|apply rA|apply rN|apply rD));exact rM (rF (p:=⟨Bb,2,none⟩) (rF (p:=⟨Bb,1,none⟩) (rF (p:=⟨Bb,0,none⟩) (rT Br.out Bc.out (by decide)) (fun _ hk=>hk.2) (.int .i64 t258)) (fun _ hk=>hk.2) (.slice Ao20 t259.length co20)) (fun _ hk=>hk.2) (.slice Ao21 t262.length co21)) (fun _ hk=>hk.1.2)⟩,⟨Kd.Q_of_R (by (with_reducible repeat (first|apply rA|apply rN|apply rD));exact rM (rF (p:=⟨Bb,2,none⟩) (rF (p:=⟨Bb,1,none⟩) (rF (p:=⟨Bb,0,none⟩) (rT Bs.out Bc.out (by decide)) (fun _ hk=>hk.2) (.int .i64 t258)) (fun _ hk=>hk.2) (.slice Ao20 t259.length co20)) (fun _ hk=>hk.2) (.slice Ao21 t262.length co21)) (fun _ hk=>hk.1.2))⟩,⟨by (with_reducible repeat (first|refine bN ?_ _|refine bD ?_|refine bA ?_ _|refine bE ?_ Bt.out _));exact Ba.out⟩,⟨by (with_reducible repeat (first|refine bN ?_ _|refine bD ?_|refine bA ?_ _));refine bT (cs:=#[.int .i64 t258,.slice Ao20 t259.length co20,.slice none 0 0]) ?_ 2 _ rfl;(with_reducible repeat (first|refine bN ?_ _|refine bD ?_|refine bA ?_ _));refine bT (cs:=#[.int .i64 t258,.slice none 0 0,.slice none 0 0]) ?_ 1 _ rfl;(with_reducible repeat (first|refine bN ?_ _|refine bD ?_|refine bA ?_ _));refine bT (cs:=#[.int .i64 0,.slice none 0 0,.slice none 0 0]) ?_ 0 _ rfl;(with_reducible repeat (first|refine bN ?_ _|refine bD ?_|refine bA ?_ _));exact Bc.out⟩,⟨by repeat (first|(with_reducible first|exact HB.out|apply oA|apply pN|apply o1|refine bS ?_ Bl.out|refine bS ?_ Bm.out)|exact HB.out)⟩⟩
    rw [if_neg c22] at H
    have c22b0:(t256 != t265)=false:=by simpa using c22
    (try (have c22b1:decide (t256=t265)=true:=by simpa using c22))
    (try (have c22b2:(t256 == t265)=true:=by simpa using c22))
    clear c22
    (first|rw [c22b0]|(simp only [i64_w,i32_w];rw [c22b0])|skip)
    replace H:=oC H
    obtain ⟨t267,A230,H⟩:=H
    replace H:(if t267=true then (laws_FnLockOne.j1 kj2 l1 t247 t256 t265 (!t256) t249 t250 t253 t258 t259 t262) else (laws_FnLockOne.j1 kj2 l1 t247 t256 t265 true t249 t250 t253 t258 t259 t262))=some r:=H
    have A23:=Am A230
    clear A230
    by_cases c24:t267=true
    ·subst c24
     have H1:(laws_FnLockOne.j1 kj2 l1 t247 t256 t265 (!t256) t249 t250 t253 t258 t259 t262)=some r:=by rw [if_pos rfl] at H;exact H
     clear H
     have H:=H1
     clear H1
     have H':=Am H
     clear H
     have DU:=Bt.out
     have DV:=Bx.out
     have BO:=cz0 Ba.out
     have BP:=cz1 Ba.out
     have BQ:=cz2 Ba.out
     have BR:=bF Ba.out 0
     have BS:=bF Ba.out 1
     have BT:=bF Ba.out 2
     have BU:=cz0 Bc.out
     have BV:=cz1 Bc.out
     have BW:=cz2 Bc.out
     have BX:=bF Bc.out 0
     have BY:=bF Bc.out 1
     have BZ:=bF Bc.out 2
     go_wp2_with (first|(go_at_call 35;(with_reducible refine (laws_qdLock.calls kj2 t249 _ _ t250 _ _ t253 t258 _ _ t259 _ _ t262 true _ ?side1 ?side2 ?side3 ?side4 ?side5 ?side6 ?side7 ?side8 A23.out).mono ?_);(case side1=>refine (rR (e:=57) (base:=w.heap.size) (ok:=fun k_=>(True∧some k_≠(.slice Ao20 t259.length co20:Value).ownBlock)) (n:=t250.length) (c:=co14) ?_).2.2;exact (by (with_reducible repeat (first|apply rA|apply rN|apply rD));exact (rM (rF (p:=⟨Bb,2,none⟩) (rF (p:=⟨Bb,1,none⟩) (rF (p:=⟨Bb,0,none⟩) (rT Bn.out Bc.out (by decide)) (fun _ hk=>hk.2) (.int .i64 t258)) (fun _ hk=>hk.2) (.slice Ao20 t259.length co20)) (fun _ hk=>hk.2) (.slice Ao21 t262.length co21)) (fun _ h_=>h_.1))));(case side2=>exact (rR Bn.out).2.1);(case side3=>refine (rR (e:=3) (base:=w.heap.size) (ok:=fun k_=>(True∧some k_≠(.slice Ao21 t262.length co21:Value).ownBlock)) (n:=t253.length) (c:=co15) ?_).2.2;exact (by (with_reducible repeat (first|apply rA|apply rN|apply rD));exact (rM (rF (p:=⟨Bb,2,none⟩) (rF (p:=⟨Bb,1,none⟩) (rF (p:=⟨Bb,0,none⟩) (rT Bo.out Bc.out (by decide)) (fun _ hk=>hk.2) (.int .i64 t258)) (fun _ hk=>hk.2) (.slice Ao20 t259.length co20)) (fun _ hk=>hk.2) (.slice Ao21 t262.length co21)) (fun _ h_=>h_.1))));(case side4=>exact (rR Bo.out).2.1);(case side5=>refine (rR (e:=57) (base:=w.heap.size) (ok:=fun k_=>(True∧some k_≠(.slice Ao14 t250.length co14:Value).ownBlock)) (n:=t259.length) (c:=co20) ?_).2.2;exact (by (with_reducible repeat (first|apply rA|apply rN|apply rD));exact (rM (rF (p:=⟨Bb,2,none⟩) (rF (p:=⟨Bb,1,none⟩) (rF (p:=⟨Bb,0,none⟩) (rT Br.out Bc.out (by decide)) (fun _ hk=>hk.2) (.int .i64 t258)) (fun _ hk=>hk.2) (.slice Ao20 t259.length co20)) (fun _ hk=>hk.2) (.slice Ao21 t262.length co21)) (fun _ h_=>h_.1))));(case side6=>exact (rR Br.out).2.1);(case side7=>refine (rR (e:=3) (base:=w.heap.size) (ok:=fun k_=>(True∧some k_≠(.slice Ao15 t253.length co15:Value).ownBlock)) (n:=t262.length) (c:=co21) ?_).2.2;exact (by (with_reducible repeat (first|apply rA|apply rN|apply rD));exact (rM (rF (p:=⟨Bb,2,none⟩) (rF (p:=⟨Bb,1,none⟩) (rF (p:=⟨Bb,0,none⟩) (rT Bs.out Bc.out (by decide)) (fun _ hk=>hk.2) (.int .i64 t258)) (fun _ hk=>hk.2) (.slice Ao20 t259.length co20)) (fun _ hk=>hk.2) (.slice Ao21 t262.length co21)) (fun _ h_=>h_.1))));(case side8=>exact (rR Bs.out).2.1);rintro e w28 ⟨rfl,hb⟩;have n0_:=Am (rB (by (with_reducible repeat (first|apply rA|apply rN|apply rD));exact (rM (rF (p:=⟨Bb,2,none⟩) (rF (p:=⟨Bb,1,none⟩) (rF (p:=⟨Bb,0,none⟩) (rT Bn.out Bc.out (by decide)) (fun _ hk=>hk.2) (.int .i64 t258)) (fun _ hk=>hk.2) (.slice Ao20 t259.length co20)) (fun _ hk=>hk.2) (.slice Ao21 t262.length co21)) (fun _ h_=>h_.1))) hb);have n1_:=Am (rB (by (with_reducible repeat (first|apply rA|apply rN|apply rD));exact (rM (rF (p:=⟨Bb,2,none⟩) (rF (p:=⟨Bb,1,none⟩) (rF (p:=⟨Bb,0,none⟩) (rT Bo.out Bc.out (by decide)) (fun _ hk=>hk.2) (.int .i64 t258)) (fun _ hk=>hk.2) (.slice Ao20 t259.length co20)) (fun _ hk=>hk.2) (.slice Ao21 t262.length co21)) (fun _ h_=>h_.1))) hb);have n2_:=Am (rB (by (with_reducible repeat (first|apply rA|apply rN|apply rD));exact (rM (rF (p:=⟨Bb,2,none⟩) (rF (p:=⟨Bb,1,none⟩) (rF (p:=⟨Bb,0,none⟩) (rT Br.out Bc.out (by decide)) (fun _ hk=>hk.2) (.int .i64 t258)) (fun _ hk=>hk.2) (.slice Ao20 t259.length co20)) (fun _ hk=>hk.2) (.slice Ao21 t262.length co21)) (fun _ h_=>h_.1))) hb);have n3_:=Am (rB (by (with_reducible repeat (first|apply rA|apply rN|apply rD));exact (rM (rF (p:=⟨Bb,2,none⟩) (rF (p:=⟨Bb,1,none⟩) (rF (p:=⟨Bb,0,none⟩) (rT Bs.out Bc.out (by decide)) (fun _ hk=>hk.2) (.int .i64 t258)) (fun _ hk=>hk.2) (.slice Ao20 t259.length co20)) (fun _ hk=>hk.2) (.slice Ao21 t262.length co21)) (fun _ h_=>h_.1))) hb);have n4_:=Am (bB (g:=Bd) (o:=.cells #[.int .i64 t249,.slice Ao14 t250.length co14,.slice Ao15 t253.length co15] 51 (0,0)) (by (with_reducible repeat (first|refine bN ?_ _|refine bD ?_|refine bA ?_ _|refine bE ?_ Bt.out _));exact Ba.out) hb);have n5_:=Am (bB (g:=Bb) (o:=.cells #[.int .i64 t258,.slice Ao20 t259.length co20,.slice Ao21 t262.length co21] 51 (0,0)) (by (with_reducible repeat (first|refine bN ?_ _|refine bD ?_|refine bA ?_ _));refine bT (cs:=#[.int .i64 t258,.slice Ao20 t259.length co20,.slice none 0 0]) ?_ 2 _ rfl;(with_reducible repeat (first|refine bN ?_ _|refine bD ?_|refine bA ?_ _));refine bT (cs:=#[.int .i64 t258,.slice none 0 0,.slice none 0 0]) ?_ 1 _ rfl;(with_reducible repeat (first|refine bN ?_ _|refine bD ?_|refine bA ?_ _));refine bT (cs:=#[.int .i64 0,.slice none 0 0,.slice none 0 0]) ?_ 0 _ rfl;(with_reducible repeat (first|refine bN ?_ _|refine bD ?_|refine bA ?_ _));exact Bc.out) hb);have n6_:=Am (bP (by repeat (first|(with_reducible first|exact HB.out|apply oA|apply pN|apply o1|refine bS ?_ Bl.out|refine bS ?_ Bm.out)|exact HB.out)) hb);clear Bn Bo Br Bs Ba Bc HB;revert n0_ n1_ n2_ n3_ n4_ n5_ n6_;intro Bn Bo Br Bs Ba Bc HB;(try clear hb);(try clear hb2);(try clear hk);(try clear hi)))
     go_meet
     case rel=>exact ⟨_,(!t256),(by first|rfl|(simp;done)|(simp [*];done)),H',⟨by have:=Dc.out;first|omega|exact nR _⟩,⟨by (with_reducible repeat (first|apply rA|apply rN|apply rD));exact rM Bn.out (fun _ hk=>hk.2)⟩,⟨Kd.Q_of_R (by (with_reducible repeat (first|apply rA|apply rN|apply rD));exact rM Bo.out (fun _ hk=>hk.2))⟩,⟨by (with_reducible repeat (first|apply rA|apply rN|apply rD));exact rM Br.out (fun _ hk=>hk.2)⟩,⟨Kd.Q_of_R (by (with_reducible repeat (first|apply rA|apply rN|apply rD));exact rM Bs.out (fun _ hk=>hk.2))⟩,⟨by (with_reducible repeat (first|refine bN ?_ _|refine bD ?_|refine bA ?_ _));exact Ba.out⟩,⟨by (with_reducible repeat (first|refine bN ?_ _|refine bD ?_|refine bA ?_ _));exact Bc.out⟩,⟨by repeat (first|(with_reducible first|exact HB.out|apply oA|apply pN|apply o1|refine bS ?_ Bl.out|refine bS ?_ Bm.out)|exact HB.out)⟩⟩
    replace c24:=Bool.eq_false_iff.mpr c24
    subst c24
    have H1:(laws_FnLockOne.j1 kj2 l1 t247 t256 t265 true t249 t250 t253 t258 t259 t262)=some r:=by rw [if_neg (show ¬ (false=true) by decide)] at H;exact H
    clear H
    have H:=H1
    clear H1
    have H':=Am H
    clear H
    have DW:=Bt.out
    have DX:=Bx.out
    have B0:=cz0 Ba.out
    have B1:=cz1 Ba.out
    have B2:=cz2 Ba.out
    have B3:=bF Ba.out 0
    have B4:=bF Ba.out 1
    have B5:=bF Ba.out 2
    have B6:=cz0 Bc.out
    have B7:=cz1 Bc.out
    have B8:=cz2 Bc.out
    have B9:=bF Bc.out 0
    have Da:=bF Bc.out 1
    have Db:=bF Bc.out 2
    go_wp2_with (first|(go_at_call 35;(with_reducible refine (laws_qdLock.calls kj2 t249 _ _ t250 _ _ t253 t258 _ _ t259 _ _ t262 false _ ?side1 ?side2 ?side3 ?side4 ?side5 ?side6 ?side7 ?side8 A23.out).mono ?_);(case side1=>refine (rR (e:=57) (base:=w.heap.size) (ok:=fun k_=>(True∧some k_≠(.slice Ao20 t259.length co20:Value).ownBlock)) (n:=t250.length) (c:=co14) ?_).2.2;exact (by (with_reducible repeat (first|apply rA|apply rN|apply rD));exact (rM (rF (p:=⟨Bb,2,none⟩) (rF (p:=⟨Bb,1,none⟩) (rF (p:=⟨Bb,0,none⟩) (rT Bn.out Bc.out (by decide)) (fun _ hk=>hk.2) (.int .i64 t258)) (fun _ hk=>hk.2) (.slice Ao20 t259.length co20)) (fun _ hk=>hk.2) (.slice Ao21 t262.length co21)) (fun _ h_=>h_.1))));(case side2=>exact (rR Bn.out).2.1);(case side3=>refine (rR (e:=3) (base:=w.heap.size) (ok:=fun k_=>(True∧some k_≠(.slice Ao21 t262.length co21:Value).ownBlock)) (n:=t253.length) (c:=co15) ?_).2.2;exact (by (with_reducible repeat (first|apply rA|apply rN|apply rD));exact (rM (rF (p:=⟨Bb,2,none⟩) (rF (p:=⟨Bb,1,none⟩) (rF (p:=⟨Bb,0,none⟩) (rT Bo.out Bc.out (by decide)) (fun _ hk=>hk.2) (.int .i64 t258)) (fun _ hk=>hk.2) (.slice Ao20 t259.length co20)) (fun _ hk=>hk.2) (.slice Ao21 t262.length co21)) (fun _ h_=>h_.1))));(case side4=>exact (rR Bo.out).2.1);(case side5=>refine (rR (e:=57) (base:=w.heap.size) (ok:=fun k_=>(True∧some k_≠(.slice Ao14 t250.length co14:Value).ownBlock)) (n:=t259.length) (c:=co20) ?_).2.2;exact (by (with_reducible repeat (first|apply rA|apply rN|apply rD));exact (rM (rF (p:=⟨Bb,2,none⟩) (rF (p:=⟨Bb,1,none⟩) (rF (p:=⟨Bb,0,none⟩) (rT Br.out Bc.out (by decide)) (fun _ hk=>hk.2) (.int .i64 t258)) (fun _ hk=>hk.2) (.slice Ao20 t259.length co20)) (fun _ hk=>hk.2) (.slice Ao21 t262.length co21)) (fun _ h_=>h_.1))));(case side6=>exact (rR Br.out).2.1);(case side7=>refine (rR (e:=3) (base:=w.heap.size) (ok:=fun k_=>(True∧some k_≠(.slice Ao15 t253.length co15:Value).ownBlock)) (n:=t262.length) (c:=co21) ?_).2.2;exact (by (with_reducible repeat (first|apply rA|apply rN|apply rD));exact (rM (rF (p:=⟨Bb,2,none⟩) (rF (p:=⟨Bb,1,none⟩) (rF (p:=⟨Bb,0,none⟩) (rT Bs.out Bc.out (by decide)) (fun _ hk=>hk.2) (.int .i64 t258)) (fun _ hk=>hk.2) (.slice Ao20 t259.length co20)) (fun _ hk=>hk.2) (.slice Ao21 t262.length co21)) (fun _ h_=>h_.1))));(case side8=>exact (rR Bs.out).2.1);rintro e w32 ⟨rfl,hb⟩;have n0_:=Am (rB (by (with_reducible repeat (first|apply rA|apply rN|apply rD));exact (rM (rF (p:=⟨Bb,2,none⟩) (rF (p:=⟨Bb,1,none⟩) (rF (p:=⟨Bb,0,none⟩) (rT Bn.out Bc.out (by decide)) (fun _ hk=>hk.2) (.int .i64 t258)) (fun _ hk=>hk.2) (.slice Ao20 t259.length co20)) (fun _ hk=>hk.2) (.slice Ao21 t262.length co21)) (fun _ h_=>h_.1))) hb);have n1_:=Am (rB (by (with_reducible repeat (first|apply rA|apply rN|apply rD));exact (rM (rF (p:=⟨Bb,2,none⟩) (rF (p:=⟨Bb,1,none⟩) (rF (p:=⟨Bb,0,none⟩) (rT Bo.out Bc.out (by decide)) (fun _ hk=>hk.2) (.int .i64 t258)) (fun _ hk=>hk.2) (.slice Ao20 t259.length co20)) (fun _ hk=>hk.2) (.slice Ao21 t262.length co21)) (fun _ h_=>h_.1))) hb);have n2_:=Am (rB (by (with_reducible repeat (first|apply rA|apply rN|apply rD));exact (rM (rF (p:=⟨Bb,2,none⟩) (rF (p:=⟨Bb,1,none⟩) (rF (p:=⟨Bb,0,none⟩) (rT Br.out Bc.out (by decide)) (fun _ hk=>hk.2) (.int .i64 t258)) (fun _ hk=>hk.2) (.slice Ao20 t259.length co20)) (fun _ hk=>hk.2) (.slice Ao21 t262.length co21)) (fun _ h_=>h_.1))) hb);have n3_:=Am (rB (by (with_reducible repeat (first|apply rA|apply rN|apply rD));exact (rM (rF (p:=⟨Bb,2,none⟩) (rF (p:=⟨Bb,1,none⟩) (rF (p:=⟨Bb,0,none⟩) (rT Bs.out Bc.out (by decide)) (fun _ hk=>hk.2) (.int .i64 t258)) (fun _ hk=>hk.2) (.slice Ao20 t259.length co20)) (fun _ hk=>hk.2) (.slice Ao21 t262.length co21)) (fun _ h_=>h_.1))) hb);have n4_:=Am (bB (g:=Bd) (o:=.cells #[.int .i64 t249,.slice Ao14 t250.length co14,.slice Ao15 t253.length co15] 51 (0,0)) (by (with_reducible repeat (first|refine bN ?_ _|refine bD ?_|refine bA ?_ _|refine bE ?_ Bt.out _));exact Ba.out) hb);have n5_:=Am (bB (g:=Bb) (o:=.cells #[.int .i64 t258,.slice Ao20 t259.length co20,.slice Ao21 t262.length co21] 51 (0,0)) (by (with_reducible repeat (first|refine bN ?_ _|refine bD ?_|refine bA ?_ _));refine bT (cs:=#[.int .i64 t258,.slice Ao20 t259.length co20,.slice none 0 0]) ?_ 2 _ rfl;(with_reducible repeat (first|refine bN ?_ _|refine bD ?_|refine bA ?_ _));refine bT (cs:=#[.int .i64 t258,.slice none 0 0,.slice none 0 0]) ?_ 1 _ rfl;(with_reducible repeat (first|refine bN ?_ _|refine bD ?_|refine bA ?_ _));refine bT (cs:=#[.int .i64 0,.slice none 0 0,.slice none 0 0]) ?_ 0 _ rfl;(with_reducible repeat (first|refine bN ?_ _|refine bD ?_|refine bA ?_ _));exact Bc.out) hb);have n6_:=Am (bP (by repeat (first|(with_reducible first|exact HB.out|apply oA|apply pN|apply o1|refine bS ?_ Bl.out|refine bS ?_ Bm.out)|exact HB.out)) hb);clear Bn Bo Br Bs Ba Bc HB;revert n0_ n1_ n2_ n3_ n4_ n5_ n6_;intro Bn Bo Br Bs Ba Bc HB;(try clear hb);(try clear hb2);(try clear hk);(try clear hi)))
    go_meet
    case rel=>exact ⟨_,(true),(by first|rfl|(simp;done)|(simp [*];done)),H',⟨by have:=Dc.out;first|omega|exact nR _⟩,⟨by (with_reducible repeat (first|apply rA|apply rN|apply rD));exact rM Bn.out (fun _ hk=>hk.2)⟩,⟨Kd.Q_of_R (by (with_reducible repeat (first|apply rA|apply rN|apply rD));exact rM Bo.out (fun _ hk=>hk.2))⟩,⟨by (with_reducible repeat (first|apply rA|apply rN|apply rD));exact rM Br.out (fun _ hk=>hk.2)⟩,⟨Kd.Q_of_R (by (with_reducible repeat (first|apply rA|apply rN|apply rD));exact rM Bs.out (fun _ hk=>hk.2))⟩,⟨by (with_reducible repeat (first|refine bN ?_ _|refine bD ?_|refine bA ?_ _));exact Ba.out⟩,⟨by (with_reducible repeat (first|refine bN ?_ _|refine bD ?_|refine bA ?_ _));exact Bc.out⟩,⟨by repeat (first|(with_reducible first|exact HB.out|apply oA|apply pN|apply o1|refine bS ?_ Bl.out|refine bS ?_ Bm.out)|exact HB.out)⟩⟩
   case rest =>
    clear HC9
    try clear c1
    try clear c2
    try clear p2
    try clear c3
    try clear c4
    try clear c4b0
    try clear c4b1
    try clear c5
    try clear c11
    try clear c18
    try clear c22
    try clear c22b0
    try clear c22b1
    try clear c22b2
    try clear c24
    try clear c25
    try clear c29
    try clear c32
    try clear BC
    try clear BD
    try clear BE
    try clear BI
    try clear BJ
    try clear BK
    try clear BO
    try clear BP
    try clear BQ
    try clear BU
    try clear BV
    try clear BW
    try clear B0
    try clear B1
    try clear B2
    try clear B6
    try clear B7
    try clear B8
    try clear BF
    try clear BG
    try clear BH
    try clear BL
    try clear BM
    try clear BN
    try clear BR
    try clear BS
    try clear BT
    try clear BX
    try clear BY
    try clear BZ
    try clear B3
    try clear B4
    try clear B5
    try clear B9
    try clear Da
    try clear Db
    try clear p2
    obtain ⟨kq,x51_8,rfl,HA,Dp,Be,Bf,Bh,Bi,Ba,Bc,HB⟩:=hcut
    cases kq with
   |zero=>exact absurd HA.out (by simp [laws_FnLockOne.j1])
   |succ kj8 =>
     have H:=HA.out
     clear HA
     simp only [laws_FnLockOne.j1] at H
     by_cases c33:x51_8=true
     ·subst c33
      have H1:(if (t256 == t265)=true then ((laws_qdLock.f kj8 t249 t250 t253 t258 t259 t262).bind fun t268=>(some t268)) else (some false))=some r:=by rw [if_pos rfl] at H;exact H
      clear H
      have H:=H1
      clear H1
      by_cases c34:(t256 == t265)=true
      rotate_left
      ·rw [if_neg c34] at H
       have c34b0:(t256 == t265)=false:=by simpa using c34
       (try (have c34b1:decide (t256=t265)=false:=by simpa using c34))
       (try (have c34b2:(t256 == t265)=false:=by simpa using c34))
       (try (have c34b3:¬ (t256=t265):=by simpa using c34))
       clear c34
       exact absurd ((oJ H).trans hT_.out) (by decide)
      rw [if_pos c34] at H
      have c34b0:(t256 == t265)=true:=c34
      (try (have c34b1:decide (t256=t265)=true:=by simpa using c34))
      (try (have c34b2:(t256 == t265)=true:=by simpa using c34))
      clear c34
      replace H:=oC H
      obtain ⟨t268,A350,H⟩:=H
      replace H:(some t268)=some r:=H
      have A35:=Am A350
      clear A350
      obtain rfl:=oJ H
      have DY:=Bt.out
      have DZ:=Bx.out
      have Dd:=cz0 Ba.out
      have De:=cz1 Ba.out
      have Df:=cz2 Ba.out
      have Dg:=bF Ba.out 0
      have Dh:=bF Ba.out 1
      have Di:=bF Ba.out 2
      have Dj:=cz0 Bc.out
      have Dk:=cz1 Bc.out
      have Dl:=cz2 Bc.out
      have Dm:=bF Bc.out 0
      have Dn:=bF Bc.out 1
      have Do:=bF Bc.out 2
      go_wp2_with (first|(go_at_call 35;(with_reducible refine (laws_qdLock.calls kj8 t249 _ _ t250 _ _ t253 t258 _ _ t259 _ _ t262 t268 _ ?side1 ?side2 ?side3 ?side4 ?side5 ?side6 ?side7 ?side8 A35.out).mono ?_);(case side1=>exact cL (rR Be.out).2.2);(case side2=>exact (rR Be.out).2.1);(case side3=>exact cL (qR Bf.out).2.2);(case side4=>exact (qR Bf.out).2.1);(case side5=>exact cL (rR Bh.out).2.2);(case side6=>exact (rR Bh.out).2.1);(case side7=>exact cL (qR Bi.out).2.2);(case side8=>exact (qR Bi.out).2.1);rintro e w39 ⟨rfl,hb⟩;have n0_:=Am (rB (rL Be.out) hb);have n1_:=Am (Kd.Q_below (qL Bf.out) hb);have n2_:=Am (rB (rL Bh.out) hb);have n3_:=Am (Kd.Q_below (qL Bi.out) hb);have n4_:=Am (bX Ba.out hb);have n5_:=Am (bX Bc.out hb);have n6_:=Am (bP (by repeat (first|(with_reducible first|exact HB.out|apply oA|apply pN|apply o1|refine bS ?_ Bl.out|refine bS ?_ Bm.out)|exact HB.out)) hb);clear Be Bf Bh Bi Ba Bc HB;revert n0_ n1_ n2_ n3_ n4_ n5_ n6_;intro Be Bf Bh Bi Ba Bc HB;(try clear hb);(try clear hb2);(try clear hk);(try clear hi)))
      go_ret
      exact ⟨by first|rfl|(simp [errW_none,errW_some] <;> rfl)|(simp [*,errW_none,errW_some] <;> rfl),by repeat (first|(with_reducible first|exact HB.out|apply oA|apply pN|apply o1|refine bS ?_ Bl.out|refine bS ?_ Bm.out)|exact HB.out)⟩
     replace c33:=Bool.eq_false_iff.mpr c33
     subst c33
     have H1:(laws_FnLockOne.l0 kj8 l1 t247 0 t249 t250 t253)=some r:=by rw [if_neg (show ¬ (false=true) by decide)] at H;exact H
     clear H
     have H:=H1
     clear H1
     have H':=Am H
     clear H
     go_wp2
     go_loopg [11] kj8 (fun kq v11 w'=>∃ (x11_3:Int) (x258000_3:Int) (x258001_3:List (S57)) (x258002_3:List Int) (u258001:Value) (u258002:Value),v11=.int .i64 x11_3∧Aside0 (laws_FnLockOne.l0 kq l1 t247 x11_3 x258000_3 x258001_3 x258002_3=some r)∧Aside0 (kq≤kj8)∧Aside0 (Kd.R k57 57 w' w.heap.size (fun k_=>some k_≠((.slice Ao20 t259.length co20):Value).ownBlock) u258001 x258001_3)∧Aside0 (Kd.Q (Kd.int .i64) 3 w' w.heap.size (fun k_=>some k_≠((.slice Ao21 t262.length co21):Value).ownBlock) u258002 x258002_3)∧Aside0 (Kd.R k57 57 w' w.heap.size (fun k_=>some k_≠(u258001:Value).ownBlock) (.slice Ao20 t259.length co20) t259)∧Aside0 (Kd.Q (Kd.int .i64) 3 w' w.heap.size (fun k_=>some k_≠(u258002:Value).ownBlock) (.slice Ao21 t262.length co21) t262)∧Aside0 (w'.heap[Bd]?=some (.cells #[.int .i64 x258000_3,u258001,u258002] 51 (0,0)))∧Aside0 (w'.heap[Bb]?=some (.cells #[.int .i64 t258,(.slice Ao20 t259.length co20),(.slice Ao21 t262.length co21)] 51 (0,0)))∧Aside0 (Below w.heap.size w w'))
     case atStart=>exact ⟨(0),(t249),(t250),(t253),(.slice Ao14 t250.length co14),(.slice Ao15 t253.length co15),(by first|rfl|(simp;done)|(simp [*];done)),H',⟨nR _⟩,⟨by (with_reducible repeat (first|apply rA|apply rN|apply rD));exact Be.out⟩,⟨by (with_reducible repeat (first|apply Kd.Q_alloc|apply Kd.Q_drewN|apply Kd.Q_drew));exact Bf.out⟩,⟨by (with_reducible repeat (first|apply rA|apply rN|apply rD));exact Bh.out⟩,⟨by (with_reducible repeat (first|apply Kd.Q_alloc|apply Kd.Q_drewN|apply Kd.Q_drew));exact Bi.out⟩,⟨by (with_reducible repeat (first|refine bN ?_ _|refine bD ?_|refine bA ?_ _));exact Ba.out⟩,⟨by (with_reducible repeat (first|refine bN ?_ _|refine bD ?_|refine bA ?_ _));exact Bc.out⟩,⟨by repeat (first|(with_reducible first|exact HB.out|apply oA|apply pN|apply o1|refine bS ?_ Bl.out|refine bS ?_ Bm.out)|exact HB.out)⟩⟩
     case round =>
      clear H'
      try clear c1
      try clear c2
      try clear p2
      try clear c3
      try clear c4
      try clear c4b0
      try clear c4b1
      try clear c5
      try clear c11
      try clear c18
      try clear c22
      try clear c22b0
      try clear c22b1
      try clear c22b2
      try clear c24
      try clear c25
      try clear c29
      try clear c32
      try clear c33
      try clear c34
      try clear c34b0
      try clear c34b1
      try clear c34b2
      try clear c36
      try clear BC
      try clear BD
      try clear BE
      try clear BI
      try clear BJ
      try clear BK
      try clear BO
      try clear BP
      try clear BQ
      try clear BU
      try clear BV
      try clear BW
      try clear B0
      try clear B1
      try clear B2
      try clear B6
      try clear B7
      try clear B8
      try clear Dd
      try clear De
      try clear Df
      try clear Dj
      try clear Dk
      try clear Dl
      try clear BF
      try clear BG
      try clear BH
      try clear BL
      try clear BM
      try clear BN
      try clear BR
      try clear BS
      try clear BT
      try clear BX
      try clear BY
      try clear BZ
      try clear B3
      try clear B4
      try clear B5
      try clear B9
      try clear Da
      try clear Db
      try clear Dg
      try clear Dh
      try clear Di
      try clear Dm
      try clear Dn
      try clear Do
      try clear p2
      obtain ⟨x11_3,x258000_3,x258001_3,x258002_3,u258001,u258002,rfl,HA,HK3,Be,Bf,Bh,Bi,Ba,Bc,HB⟩:=hrel
      cases gk with
     |zero=>exact absurd HA.out (by simp [laws_FnLockOne.l0])
     |succ k3 =>
       have H:=HA.out
       clear HA
       simp only [laws_FnLockOne.l0] at H
       have HC40:=Am H
       clear H
       go_upto_region 9 with (fail)
       go_cut [67] (fun v67 wc=>∃ (kq:Nat) (x67_39:Bool),v67=.bool x67_39∧Aside0 (laws_FnLockOne.j3 kq l1 t247 x11_3 x67_39 x258000_3 x258001_3 x258002_3=some r)∧Aside0 (kq≤k3)∧Aside0 (Kd.R k57 57 wc w.heap.size (fun k_=>some k_≠((.slice Ao20 t259.length co20):Value).ownBlock) u258001 x258001_3)∧Aside0 (Kd.Q (Kd.int .i64) 3 wc w.heap.size (fun k_=>some k_≠((.slice Ao21 t262.length co21):Value).ownBlock) u258002 x258002_3)∧Aside0 (Kd.R k57 57 wc w.heap.size (fun k_=>some k_≠(u258001:Value).ownBlock) (.slice Ao20 t259.length co20) t259)∧Aside0 (Kd.Q (Kd.int .i64) 3 wc w.heap.size (fun k_=>some k_≠(u258002:Value).ownBlock) (.slice Ao21 t262.length co21) t262)∧Aside0 (wc.heap[Bd]?=some (.cells #[.int .i64 x258000_3,u258001,u258002] 51 (0,0)))∧Aside0 (wc.heap[Bb]?=some (.cells #[.int .i64 t258,(.slice Ao20 t259.length co20),(.slice Ao21 t262.length co21)] 51 (0,0)))∧Aside0 (Below w.heap.size w wc))
       case first =>
        have H:=HC40.out
        clear HC40
        by_cases c41:x11_3<(l1.length:Int)
        rotate_left
        ·rw [if_neg c41] at H
         have c41b0:decide (x11_3<(l1.length:Int))=false:=dF c41
         clear c41
         (first|rw [c41b0]|(simp only [i64_w,i32_w];rw [c41b0])|skip)
         have H':=Am H
         clear H
         go_wp2
         go_meet
         case rel=>exact ⟨_,(false),(by first|rfl|(simp;done)|(simp [*];done)),H',⟨by have:=Dc.out;have:=Dp.out;have:=HK3.out;first|omega|exact nR _⟩,⟨by (with_reducible repeat (first|apply rA|apply rN|apply rD));exact Be.out⟩,⟨by (with_reducible repeat (first|apply Kd.Q_alloc|apply Kd.Q_drewN|apply Kd.Q_drew));exact Bf.out⟩,⟨by (with_reducible repeat (first|apply rA|apply rN|apply rD));exact Bh.out⟩,⟨by (with_reducible repeat (first|apply Kd.Q_alloc|apply Kd.Q_drewN|apply Kd.Q_drew));exact Bi.out⟩,⟨by (with_reducible repeat (first|refine bN ?_ _|refine bD ?_|refine bA ?_ _));exact Ba.out⟩,⟨by (with_reducible repeat (first|refine bN ?_ _|refine bD ?_|refine bA ?_ _));exact Bc.out⟩,⟨by repeat (first|(with_reducible first|exact HB.out|apply oA|apply pN|apply o1|refine bS ?_ Bl.out|refine bS ?_ Bm.out)|exact HB.out)⟩⟩
        rw [if_pos c41] at H
        have c41b0:decide (x11_3<(l1.length:Int))=true:=dT c41
        clear c41
        (first|rw [c41b0]|(simp only [i64_w,i32_w];rw [c41b0])|skip)
        have H':=Am H
        clear H
        go_wp2
        go_meet
        case rel=>exact ⟨_,(decide (x11_3<200)),(by first|rfl|(simp;done)|(simp [*];done)),H',⟨by have:=Dc.out;have:=Dp.out;have:=HK3.out;first|omega|exact nR _⟩,⟨by (with_reducible repeat (first|apply rA|apply rN|apply rD));exact Be.out⟩,⟨by (with_reducible repeat (first|apply Kd.Q_alloc|apply Kd.Q_drewN|apply Kd.Q_drew));exact Bf.out⟩,⟨by (with_reducible repeat (first|apply rA|apply rN|apply rD));exact Bh.out⟩,⟨by (with_reducible repeat (first|apply Kd.Q_alloc|apply Kd.Q_drewN|apply Kd.Q_drew));exact Bi.out⟩,⟨by (with_reducible repeat (first|refine bN ?_ _|refine bD ?_|refine bA ?_ _));exact Ba.out⟩,⟨by (with_reducible repeat (first|refine bN ?_ _|refine bD ?_|refine bA ?_ _));exact Bc.out⟩,⟨by repeat (first|(with_reducible first|exact HB.out|apply oA|apply pN|apply o1|refine bS ?_ Bl.out|refine bS ?_ Bm.out)|exact HB.out)⟩⟩
       case rest =>
        clear HC40
        try clear c1
        try clear c2
        try clear p2
        try clear c3
        try clear c4
        try clear c4b0
        try clear c4b1
        try clear c5
        try clear c11
        try clear c18
        try clear c22
        try clear c22b0
        try clear c22b1
        try clear c22b2
        try clear c24
        try clear c25
        try clear c29
        try clear c32
        try clear c33
        try clear c34
        try clear c34b0
        try clear c34b1
        try clear c34b2
        try clear c36
        try clear c41
        try clear c41b0
        try clear BC
        try clear BD
        try clear BE
        try clear BI
        try clear BJ
        try clear BK
        try clear BO
        try clear BP
        try clear BQ
        try clear BU
        try clear BV
        try clear BW
        try clear B0
        try clear B1
        try clear B2
        try clear B6
        try clear B7
        try clear B8
        try clear Dd
        try clear De
        try clear Df
        try clear Dj
        try clear Dk
        try clear Dl
        try clear BF
        try clear BG
        try clear BH
        try clear BL
        try clear BM
        try clear BN
        try clear BR
        try clear BS
        try clear BT
        try clear BX
        try clear BY
        try clear BZ
        try clear B3
        try clear B4
        try clear B5
        try clear B9
        try clear Da
        try clear Db
        try clear Dg
        try clear Dh
        try clear Di
        try clear Dm
        try clear Dn
        try clear Do
        try clear p2
        obtain ⟨kq,x67_39,rfl,HA,Dq,Be,Bf,Bh,Bi,Ba,Bc,HB⟩:=hcut
        cases kq with
       |zero=>exact absurd HA.out (by simp [laws_FnLockOne.j3])
       |succ kj39 =>
         have H:=HA.out
         clear HA
         simp only [laws_FnLockOne.j3] at H
         by_cases c42:x67_39=true
         rotate_left
         ·replace c42:=Bool.eq_false_iff.mpr c42
          subst c42
          have H1:(some true)=some r:=by rw [if_neg (show ¬ (false=true) by decide)] at H;exact H
          clear H
          have H:=H1
          clear H1
          obtain rfl:=oJ H
          go_wp2
          go_ret
          exact ⟨by first|rfl|(simp [errW_none,errW_some] <;> rfl)|(simp [*,errW_none,errW_some] <;> rfl),by repeat (first|(with_reducible first|exact HB.out|apply oA|apply pN|apply o1|refine bS ?_ Bl.out|refine bS ?_ Bm.out)|exact HB.out)⟩

         subst c42
         have H1:(if 0≤x11_3 then (if x11_3<(l1.length:Int) then (if t247=0 then (none) else ((impl_LockStep.f kj39 x258000_3 x258001_3 x258002_3 (Int.tmod (wrap64 (rd l1 x11_3)) t247)).bind fun bt270=>(if bt270.2.2.2=true then (laws_FnLockOne.j4 kj39 l1 t247 x11_3 bt270.1 bt270.2.1 bt270.2.2.1) else (laws_FnLockOne.j4 kj39 l1 t247 x11_3 x258000_3 x258001_3 x258002_3)))) else (none)) else (none))=some r:=by rw [if_pos rfl] at H;exact H
         clear H
         have H:=H1
         clear H1
         by_cases c43:0≤x11_3
         rotate_left
         ·rw [if_neg c43] at H
          exact absurd H (by simp)
         rw [if_pos c43] at H
         have c43b0:decide (0≤x11_3)=true:=dT c43
         clear c43
         by_cases c44:x11_3<(l1.length:Int)
         rotate_left
         ·rw [if_neg c44] at H
          exact absurd H (by simp)
         rw [if_pos c44] at H
         have c44b0:decide (x11_3<(l1.length:Int))=true:=dT c44
         clear c44
         by_cases c45:t247=0
         ·rw [if_pos c45] at H
          exact absurd H (by simp)
         rw [if_neg c45] at H
         have c45b0:(t247 == 0)=false:=beq_eq_false_iff_ne.mpr c45
         have c45b1:(t247 != 0)=true:=bne_iff_ne.mpr c45
         replace H:=oC H
         obtain ⟨⟨t270,t271,t274,t277⟩,A460,H⟩:=H
         replace H:(if t277=true then (laws_FnLockOne.j4 kj39 l1 t247 x11_3 t270 t271 t274) else (laws_FnLockOne.j4 kj39 l1 t247 x11_3 x258000_3 x258001_3 x258002_3))=some r:=H
         have A46:=Am A460
         clear A460
         have HC47:=Am H
         clear H
         obtain ⟨Ao48,co48,eo48⟩:=rC Be.out
         subst eo48
         obtain ⟨Ao49,co49,eo49,_⟩:=Kd.Q_slice Bf.out
         subst eo49
         try go_wp2
         have n0_:=Am (rD Be.out)
         have n1_:=Am (Kd.Q_drew Bf.out)
         have n2_:=Am (rD Bh.out)
         have n3_:=Am (Kd.Q_drew Bi.out)
         have n4_:=Am (bD Ba.out)
         have n5_:=Am (bD Bc.out)
         have n6_:=Am (o1 HB.out)
         clear Be
         clear Bf
         clear Bh
         clear Bi
         clear Ba
         clear Bc
         clear HB
         have Be:=n0_
         have Bf:=n1_
         have Bh:=n2_
         have Bi:=n3_
         have Ba:=n4_
         have Bc:=n5_
         have HB:=n6_
         clear n0_ n1_ n2_ n3_ n4_ n5_ n6_
         have p269:0≤(x11_3:Int):=oE (by first|(with_reducible assumption)|assumption)
         have q269:x11_3<(l1.length:Int):=oE (by first|(with_reducible assumption)|assumption)
         obtain ⟨ad269,e269,hx269_0⟩:=Kd.at_int HR1.out x11_3 p269 q269
         have hw269_0:=hx269_0
         cases e269
         replace hx269_0:=(bW HB hx269_0:)
         replace p269:=eq_true p269
         replace q269:=eq_true q269
         refine start_ (n:=15) (S:=fun w'=>w'.cell? ⟨Bd,0,none⟩=some (.int .i64 x258000_3)∧w'.cell? ⟨Bd,1,none⟩=some (.slice Ao48 x258001_3.length co48)∧w'.cell? ⟨Bd,2,none⟩=some (.slice Ao49 x258002_3.length co49)∧w'.cell? (ad269.add (x11_3).toNat)=some (.int .u8 (rd l1 x11_3))) (ds:=[]) z11q0 (by kernel_rfl) rfl rfl ⟨(bC Ba.out 0).trans rfl,(bC Ba.out 1).trans rfl,(bC Ba.out 2).trans rfl,(bW HB hw269_0:)⟩ (fun hHeld=>?_);refine with_st laws_FnLockOne.tab11 laws_FnLockOne.bits11 (fun _ _ _ _ _ h=>h) (fun HT_=>?_)
         generalize wc.drew=w50 at Be Bf Bh Bi Ba Bc HB hx269_0 hHeld ⊢
         refine pS 1 72 z11q1 HT_ rfl rfl (by kernel_rfl) (by rfl) (by intro w';go_simp;with_reducible rfl) (by simp only [Act.put,lA,lZ,lS,iw,jw];rfl) ?_
         refine pS 2 73 z11q2 HT_ rfl rfl (by kernel_rfl) (by rfl) (by intro w';go_simp;with_reducible rfl) (by simp only [Act.put,lA,lZ,lS,iw,jw];rfl) ?_
         refine pS 3 74 z11q3 HT_ rfl rfl (by kernel_rfl) (by rfl) (by intro w';go_simp;with_reducible rfl) (by simp only [Act.put,lA,lZ,lS,iw,jw];rfl) ?_
         refine pS 6 77 z11q4 HT_ rfl rfl (by kernel_rfl) (by rfl) (by intro w';go_simp;with_reducible rfl) (by simp only [Act.put,lA,lZ,lS,iw,jw];rfl) ?_
         refine tS 0 71 z11q5 HT_ hHeld rfl rfl (by kernel_rfl) (by rfl) (by rintro w' ⟨s0,s1,s2,s3⟩;go_simp;with_reducible rfl) (by simp only [Act.put,lA,lZ,lS,iw,jw];rfl) ?_
         refine tS 4 75 z11q6 HT_ hHeld rfl rfl (by kernel_rfl) (by rfl) (by rintro w' ⟨s0,s1,s2,s3⟩;go_simp;with_reducible rfl) (by simp only [Act.put,lA,lZ,lS,iw,jw];rfl) ?_
         refine pS 5 76 z11q7 HT_ rfl rfl (by kernel_rfl) (by rfl) (by intro w';go_simp;with_reducible rfl) (by simp only [Act.put,lA,lZ,lS,iw,jw];rfl) ?_
         refine pS 7 78 z11q8 HT_ rfl rfl (by kernel_rfl) (by rfl) (by intro w';go_simp;with_reducible rfl) (by simp only [Act.put,lA,lZ,lS,iw,jw];rfl) ?_
         refine join_ (σ:=Value × Value × Nat) 2 z11q9 (fun s_=>[(79,.tuple #[.agg #[.int .i64 t270,s_.1,s_.2.1],.bool t277]),(12,.pointer (some ⟨s_.2.2,0,none⟩)),(70,.tuple #[.agg #[.int .i64 t270,s_.1,s_.2.1],.bool t277]),(80,.agg #[.int .i64 t270,s_.1,s_.2.1]),(81,.bool t277)]) (fun s_ w'=>(w'.cell? ⟨Bd,0,none⟩=some (.int .i64 x258000_3)∧w'.cell? ⟨Bd,1,none⟩=some (.slice Ao48 x258001_3.length co48)∧w'.cell? ⟨Bd,2,none⟩=some (.slice Ao49 x258002_3.length co49)∧w'.cell? (ad269.add (x11_3).toNat)=some (.int .u8 (rd l1 x11_3)))∧(Kd.R k57 57 w' w.heap.size (fun k_=>some k_≠(.slice Ao48 x258001_3.length co48:Value).ownBlock∧some k_≠(.slice Ao20 t259.length co20:Value).ownBlock) s_.1 t271)∧(Kd.Q (Kd.int .i64) 3 w' w.heap.size (fun k_=>some k_≠(.slice Ao49 x258002_3.length co49:Value).ownBlock∧some k_≠(.slice Ao21 t262.length co21:Value).ownBlock) s_.2.1 t274)∧(Kd.R k57 57 w' w.heap.size (fun k_=>some k_≠(s_.1:Value).ownBlock∧some k_≠(.slice Ao20 t259.length co20:Value).ownBlock) (.slice Ao48 x258001_3.length co48) x258001_3)∧(Kd.Q (Kd.int .i64) 3 w' w.heap.size (fun k_=>some k_≠(s_.2.1:Value).ownBlock∧some k_≠(.slice Ao21 t262.length co21:Value).ownBlock) (.slice Ao49 x258002_3.length co49) x258002_3)∧(Kd.R k57 57 w' w.heap.size (fun k_=>some k_≠(s_.1:Value).ownBlock∧some k_≠(.slice Ao48 x258001_3.length co48:Value).ownBlock) (.slice Ao20 t259.length co20) t259)∧(Kd.Q (Kd.int .i64) 3 w' w.heap.size (fun k_=>some k_≠(s_.2.1:Value).ownBlock∧some k_≠(.slice Ao49 x258002_3.length co49:Value).ownBlock) (.slice Ao21 t262.length co21) t262)∧(w'.heap[Bd]?=some (.cells #[.int .i64 x258000_3,.slice Ao48 x258001_3.length co48,.slice Ao49 x258002_3.length co49] 51 (0,0)))∧(w'.heap[Bb]?=some (.cells #[.int .i64 t258,.slice Ao20 t259.length co20,.slice Ao21 t262.length co21] 51 (0,0)))∧(w'.heap[s_.2.2]?=some (.cells #[.int .i64 0,.slice none 0 0,.slice none 0 0] 51 (0,0)))∧(w.heap.size≤s_.2.2)∧(w.heap.size≤s_.2.2)∧(Bd≠s_.2.2)∧(s_.2.2≠Bd)∧(Bb≠s_.2.2)∧(s_.2.2≠Bb)∧(Below w.heap.size w w')) ?_ ?_
         rotate_left
         ·intro hCont
          refine two_ (i:=8) (j:=12) (Ni:=some 79) (Nj:=some 12) z11q10 z11q11 rfl rfl rfl rfl (two_of HT_.out (by kernel_rfl)) (by decide) (by decide) (fun K hK=>?_) (fun K hK=>?_)
          ·skip
           refine goes_ Try.func36 (by kernel_rfl) rfl #[.agg #[.int .i64 x258000_3,.slice Ao48 x258001_3.length co48,.slice Ao49 x258002_3.length co49],.int .i64 (Int.tmod (wrap64 (rd l1 x11_3)) t247)] (by rfl) rfl rfl (by (try simp only [lM,lC,lN]);first|done|rfl|(simp only [lD,lT];rfl)) ?_
           with_reducible refine (impl_LockStep.calls kj39 x258000_3 _ _ x258001_3 _ _ x258002_3 (Int.tmod (wrap64 (rd l1 x11_3)) t247) t270 t271 t274 t277 _ ?side1 ?side2 ?side3 ?side4 A46.out).mono ?_
           (case side1=>exact cL (rR Be.out).2.2)
           (case side2=>exact (rR Be.out).2.1)
           (case side3=>exact cL (qR Bf.out).2.2)
           (case side4=>exact (qR Bf.out).2.1)
           rintro e w51 ⟨v272,v275,rfl,ho0,ho1,hb⟩
           refine ⟨_,rfl,?_⟩
           have n0_:=Am (rX (rL Be.out) (rZ ho0) hb)
           have n1_:=Am (Kd.Q_elder' (qL Bf.out) (Kd.Q_base ho1) hb)
           have n2_:=Am (rX (rL Bh.out) (rZ ho0) hb)
           have n3_:=Am (Kd.Q_elder' (qL Bi.out) (Kd.Q_base ho1) hb)
           have n4_:=Am (rW (rQ (rQ ho0 (rI (rL Be.out))) (rI (rL Bh.out))) (bZ (by repeat (first|(with_reducible first|exact HB.out|apply oA|apply pN|apply o1|refine bS ?_ Bl.out|refine bS ?_ Bm.out)|exact HB.out))))
           have n5_:=Am (Kd.Q_lower (Kd.Q_new' (Kd.Q_new' ho1 (qI (qL Bf.out))) (qI (qL Bi.out))) (bZ (by repeat (first|(with_reducible first|exact HB.out|apply oA|apply pN|apply o1|refine bS ?_ Bl.out|refine bS ?_ Bm.out)|exact HB.out))))
           have n6_:=Am (bX Ba.out hb)
           have n7_:=Am (bX Bc.out hb)
           have n8_:=Am (bP (by repeat (first|(with_reducible first|exact HB.out|apply oA|apply pN|apply o1|refine bS ?_ Bl.out|refine bS ?_ Bm.out)|exact HB.out)) hb)
           clear Be
           clear Bf
           clear Bh
           clear Bi
           clear Ba
           clear Bc
           clear HB
           have Be:=n0_
           have Bf:=n1_
           have Bh:=n2_
           have Bi:=n3_
           have BA:=n4_
           have BB:=n5_
           have Ba:=n6_
           have Bc:=n7_
           have HB:=n8_
           clear n0_ n1_ n2_ n3_ n4_ n5_ n6_ n7_ n8_
           (try clear hb)
           (try clear hb2)
           (try clear hk)
           (try clear hi)
           (try clear ho0)
           (try clear ho1)
           refine hK.out _ _ ⟨(bC Ba.out 0).trans rfl,(bC Ba.out 1).trans rfl,(bC Ba.out 2).trans rfl,(bW HB hw269_0:)⟩ (fun hHeld=>?_)
           clear hK K
           refine norm_ (by show Act.put _ (some 79) _=_;simp only [Act.put,lA,lZ,lS,iw,jw];rfl) ?_
           refine pS 9 70 z11q12 HT_ rfl rfl (by kernel_rfl) (by rfl) (by intro w';go_simp;with_reducible rfl) (by simp only [Act.put,lA,lZ,lS,iw,jw];rfl) ?_
           refine pS 10 80 z11q13 HT_ rfl rfl (by kernel_rfl) (by rfl) (by intro w';go_simp;with_reducible rfl) (by simp only [Act.put,lA,lZ,lS,iw,jw];rfl) ?_
           refine pS 11 81 z11q14 HT_ rfl rfl (by kernel_rfl) (by rfl) (by intro w';go_simp;with_reducible rfl) (by simp only [Act.put,lA,lZ,lS,iw,jw];rfl) ?_
           refine oS 12 12 z11q9 HT_ rfl rfl (by kernel_rfl) (by decide) (fun K hK=>?_)
           refine box_step ?hg (N:=12) ?hd (cs:=#[.int .i64 0,.slice none 0 0,.slice none 0 0]) (t:=51) ?hr ?_;(case hd=>rfl);(case hg=>rfl);(case hr=>first|(go_simp;done)|(go_simp;rfl))
           intro Bg hg w52 hbox hb
           have n0_:=Am (rB (rL Be.out) hb)
           have n1_:=Am (Kd.Q_below (qL Bf.out) hb)
           have n2_:=Am (rB (rL Bh.out) hb)
           have n3_:=Am (Kd.Q_below (qL Bi.out) hb)
           have n4_:=Am (rB (rL BA.out) hb)
           have n5_:=Am (Kd.Q_below (qL BB.out) hb)
           have n6_:=Am (bX Ba.out hb)
           have n7_:=Am (bX Bc.out hb)
           have n8_:=Am (bP (by repeat (first|(with_reducible first|exact HB.out|apply oA|apply pN|apply o1|refine bS ?_ Bl.out|refine bS ?_ Bm.out)|exact HB.out)) hb)
           have n9_:=Am (hbox)
           have n10_:=Am ((by rw [hg];exact (bZ (by repeat (first|(with_reducible first|exact HB.out|apply oA|apply pN|apply o1|refine bS ?_ Bl.out|refine bS ?_ Bm.out)|exact HB.out))):w.heap.size≤Bg))
           have n11_:=Am ((by rw [hg];exact (bZ (by repeat (first|(with_reducible first|exact HB.out|apply oA|apply pN|apply o1|refine bS ?_ Bl.out|refine bS ?_ Bm.out)|exact HB.out))):w.heap.size≤Bg))
           have n12_:=Am ((nL Ba.out hg))
           have n13_:=Am ((nG Ba.out hg))
           have n14_:=Am ((nL Bc.out hg))
           have n15_:=Am ((nG Bc.out hg))
           clear Be
           clear Bf
           clear Bh
           clear Bi
           clear BA
           clear BB
           clear Ba
           clear Bc
           clear HB
           have Be:=n0_
           have Bf:=n1_
           have Bh:=n2_
           have Bi:=n3_
           have BA:=n4_
           have BB:=n5_
           have Ba:=n6_
           have Bc:=n7_
           have HB:=n8_
           have Bj:=n9_
           have Bu:=n10_
           have Bw:=n11_
           have Bk:=n12_
           have Bp:=n13_
           have Bq:=n14_
           have Bv:=n15_
           clear n0_ n1_ n2_ n3_ n4_ n5_ n6_ n7_ n8_ n9_ n10_ n11_ n12_ n13_ n14_ n15_
           clear hb hbox hg
           refine hK.out _ _ ⟨(bC Ba.out 0).trans rfl,(bC Ba.out 1).trans rfl,(bC Ba.out 2).trans rfl,(bW HB hw269_0:)⟩ (fun hHeld=>?_)
           clear hK K
           refine norm_ (by show Act.put _ (some 12) _=_;simp only [Act.put,lA,lZ,lS,iw,jw];rfl) ?_
           exact norm_ (by simp only [putAll,Act.put,lA,lZ,lS]) (hCont (v272,v275,Bg) _ ⟨hHeld,(by (with_reducible repeat (first|apply rA|apply rN|apply rD));exact rM BA.out (fun _ hk=>⟨hk.1.2,hk.2⟩)),(by (with_reducible repeat (first|apply Kd.Q_alloc|apply Kd.Q_drewN|apply Kd.Q_drew));exact qM BB.out (fun _ hk=>⟨hk.1.2,hk.2⟩)),(by (with_reducible repeat (first|apply rA|apply rN|apply rD));exact rM Be.out (fun _ hk=>⟨hk.2,hk.1⟩)),(by (with_reducible repeat (first|apply Kd.Q_alloc|apply Kd.Q_drewN|apply Kd.Q_drew));exact qM Bf.out (fun _ hk=>⟨hk.2,hk.1⟩)),(by (with_reducible repeat (first|apply rA|apply rN|apply rD));exact rM Bh.out (fun _ hk=>⟨hk.2,hk.1⟩)),(by (with_reducible repeat (first|apply Kd.Q_alloc|apply Kd.Q_drewN|apply Kd.Q_drew));exact qM Bi.out (fun _ hk=>⟨hk.2,hk.1⟩)),(bL Ba.out),(bL Bc.out),(bL Bj.out),Bu.out,Bw.out,Bk.out,Bp.out,Bq.out,Bv.out,(by repeat (first|(with_reducible first|exact HB.out|apply oA|apply pN|apply o1|refine bS ?_ Bl.out|refine bS ?_ Bm.out|refine bS ?_ Bw.out)|exact HB.out))⟩)
          ·skip
           refine box_step ?hg (N:=12) ?hd (cs:=#[.int .i64 0,.slice none 0 0,.slice none 0 0]) (t:=51) ?hr ?_;(case hd=>rfl);(case hg=>rfl);(case hr=>first|(go_simp;done)|(go_simp;rfl))
           intro Bg hg w51 hbox hb
           have n0_:=Am (rB (rL Be.out) hb)
           have n1_:=Am (Kd.Q_below (qL Bf.out) hb)
           have n2_:=Am (rB (rL Bh.out) hb)
           have n3_:=Am (Kd.Q_below (qL Bi.out) hb)
           have n4_:=Am (bX Ba.out hb)
           have n5_:=Am (bX Bc.out hb)
           have n6_:=Am (bP (by repeat (first|(with_reducible first|exact HB.out|apply oA|apply pN|apply o1|refine bS ?_ Bl.out|refine bS ?_ Bm.out)|exact HB.out)) hb)
           have n7_:=Am (hbox)
           have n8_:=Am ((by rw [hg];exact (bZ (by repeat (first|(with_reducible first|exact HB.out|apply oA|apply pN|apply o1|refine bS ?_ Bl.out|refine bS ?_ Bm.out)|exact HB.out))):w.heap.size≤Bg))
           have n9_:=Am ((by rw [hg];exact (bZ (by repeat (first|(with_reducible first|exact HB.out|apply oA|apply pN|apply o1|refine bS ?_ Bl.out|refine bS ?_ Bm.out)|exact HB.out))):w.heap.size≤Bg))
           have n10_:=Am ((nL Ba.out hg))
           have n11_:=Am ((nG Ba.out hg))
           have n12_:=Am ((nL Bc.out hg))
           have n13_:=Am ((nG Bc.out hg))
           clear Be
           clear Bf
           clear Bh
           clear Bi
           clear Ba
           clear Bc
           clear HB
           have Be:=n0_
           have Bf:=n1_
           have Bh:=n2_
           have Bi:=n3_
           have Ba:=n4_
           have Bc:=n5_
           have HB:=n6_
           have Bj:=n7_
           have Bu:=n8_
           have Bw:=n9_
           have Bk:=n10_
           have Bp:=n11_
           have Bq:=n12_
           have Bv:=n13_
           clear n0_ n1_ n2_ n3_ n4_ n5_ n6_ n7_ n8_ n9_ n10_ n11_ n12_ n13_
           clear hb hbox hg
           refine hK.out _ _ ⟨(bC Ba.out 0).trans rfl,(bC Ba.out 1).trans rfl,(bC Ba.out 2).trans rfl,(bW HB hw269_0:)⟩ (fun hHeld=>?_)
           clear hK K
           refine norm_ (by show Act.put _ (some 12) _=_;simp only [Act.put,lA,lZ,lS,iw,jw];rfl) ?_
           refine oS 8 79 z11q15 HT_ rfl rfl (by kernel_rfl) (by decide) (fun K hK=>?_)
           refine goes_ Try.func36 (by kernel_rfl) rfl #[.agg #[.int .i64 x258000_3,.slice Ao48 x258001_3.length co48,.slice Ao49 x258002_3.length co49],.int .i64 (Int.tmod (wrap64 (rd l1 x11_3)) t247)] (by rfl) rfl rfl (by (try simp only [lM,lC,lN]);first|done|rfl|(simp only [lD,lT];rfl)) ?_
           with_reducible refine (impl_LockStep.calls kj39 x258000_3 _ _ x258001_3 _ _ x258002_3 (Int.tmod (wrap64 (rd l1 x11_3)) t247) t270 t271 t274 t277 _ ?side1 ?side2 ?side3 ?side4 A46.out).mono ?_
           (case side1=>exact cL (rR Be.out).2.2)
           (case side2=>exact (rR Be.out).2.1)
           (case side3=>exact cL (qR Bf.out).2.2)
           (case side4=>exact (qR Bf.out).2.1)
           rintro e w52 ⟨v272,v275,rfl,ho0,ho1,hb⟩
           refine ⟨_,rfl,?_⟩
           have n0_:=Am (rX (rL Be.out) (rZ ho0) hb)
           have n1_:=Am (Kd.Q_elder' (qL Bf.out) (Kd.Q_base ho1) hb)
           have n2_:=Am (rX (rL Bh.out) (rZ ho0) hb)
           have n3_:=Am (Kd.Q_elder' (qL Bi.out) (Kd.Q_base ho1) hb)
           have n4_:=Am (rW (rQ (rQ ho0 (rI (rL Be.out))) (rI (rL Bh.out))) (bZ (by repeat (first|(with_reducible first|exact HB.out|apply oA|apply pN|apply o1|refine bS ?_ Bl.out|refine bS ?_ Bm.out|refine bS ?_ Bw.out)|exact HB.out))))
           have n5_:=Am (Kd.Q_lower (Kd.Q_new' (Kd.Q_new' ho1 (qI (qL Bf.out))) (qI (qL Bi.out))) (bZ (by repeat (first|(with_reducible first|exact HB.out|apply oA|apply pN|apply o1|refine bS ?_ Bl.out|refine bS ?_ Bm.out|refine bS ?_ Bw.out)|exact HB.out))))
           have n6_:=Am (bX Ba.out hb)
           have n7_:=Am (bX Bc.out hb)
           have n8_:=Am (bX Bj.out hb)
           have n9_:=Am (bP (by repeat (first|(with_reducible first|exact HB.out|apply oA|apply pN|apply o1|refine bS ?_ Bl.out|refine bS ?_ Bm.out|refine bS ?_ Bw.out)|exact HB.out)) hb)
           clear Be
           clear Bf
           clear Bh
           clear Bi
           clear Ba
           clear Bc
           clear Bj
           clear HB
           have Be:=n0_
           have Bf:=n1_
           have Bh:=n2_
           have Bi:=n3_
           have BA:=n4_
           have BB:=n5_
           have Ba:=n6_
           have Bc:=n7_
           have Bj:=n8_
           have HB:=n9_
           clear n0_ n1_ n2_ n3_ n4_ n5_ n6_ n7_ n8_ n9_
           (try clear hb)
           (try clear hb2)
           (try clear hk)
           (try clear hi)
           (try clear ho0)
           (try clear ho1)
           refine hK.out _ _ ⟨(bC Ba.out 0).trans rfl,(bC Ba.out 1).trans rfl,(bC Ba.out 2).trans rfl,(bW HB hw269_0:)⟩ (fun hHeld=>?_)
           clear hK K
           refine norm_ (by show Act.put _ (some 79) _=_;simp only [Act.put,lA,lZ,lS,iw,jw];rfl) ?_
           refine pS 9 70 z11q16 HT_ rfl rfl (by kernel_rfl) (by rfl) (by intro w';go_simp;with_reducible rfl) (by simp only [Act.put,lA,lZ,lS,iw,jw];rfl) ?_
           refine pS 10 80 z11q17 HT_ rfl rfl (by kernel_rfl) (by rfl) (by intro w';go_simp;with_reducible rfl) (by simp only [Act.put,lA,lZ,lS,iw,jw];rfl) ?_
           refine pS 11 81 z11q9 HT_ rfl rfl (by kernel_rfl) (by rfl) (by intro w';go_simp;with_reducible rfl) (by simp only [Act.put,lA,lZ,lS,iw,jw];rfl) ?_
           exact norm_ (by simp only [putAll,Act.put,lA,lZ,lS]) (hCont (v272,v275,Bg) _ ⟨hHeld,(by (with_reducible repeat (first|apply rA|apply rN|apply rD));exact rM BA.out (fun _ hk=>⟨hk.1.2,hk.2⟩)),(by (with_reducible repeat (first|apply Kd.Q_alloc|apply Kd.Q_drewN|apply Kd.Q_drew));exact qM BB.out (fun _ hk=>⟨hk.1.2,hk.2⟩)),(by (with_reducible repeat (first|apply rA|apply rN|apply rD));exact rM Be.out (fun _ hk=>⟨hk.2,hk.1⟩)),(by (with_reducible repeat (first|apply Kd.Q_alloc|apply Kd.Q_drewN|apply Kd.Q_drew));exact qM Bf.out (fun _ hk=>⟨hk.2,hk.1⟩)),(by (with_reducible repeat (first|apply rA|apply rN|apply rD));exact rM Bh.out (fun _ hk=>⟨hk.2,hk.1⟩)),(by (with_reducible repeat (first|apply Kd.Q_alloc|apply Kd.Q_drewN|apply Kd.Q_drew));exact qM Bi.out (fun _ hk=>⟨hk.2,hk.1⟩)),(bL Ba.out),(bL Bc.out),(bL Bj.out),Bu.out,Bw.out,Bk.out,Bp.out,Bq.out,Bv.out,(by repeat (first|(with_reducible first|exact HB.out|apply oA|apply pN|apply o1|refine bS ?_ Bl.out|refine bS ?_ Bm.out|refine bS ?_ Bw.out)|exact HB.out))⟩)
         rintro ⟨v272,v275,Bg⟩ w53 ⟨hS_,h0_,h1_,h2_,h3_,h4_,h5_,h6_,h7_,h8_,h9_,h10_,h11_,h12_,h13_,h14_,h15_⟩
         have n0_:Aside0 (Kd.R k57 57 w53 w.heap.size (fun k_=>some k_≠(.slice Ao48 x258001_3.length co48:Value).ownBlock∧some k_≠(.slice Ao20 t259.length co20:Value).ownBlock) v272 t271):=⟨h0_⟩
         have n1_:Aside0 (Kd.Q (Kd.int .i64) 3 w53 w.heap.size (fun k_=>some k_≠(.slice Ao49 x258002_3.length co49:Value).ownBlock∧some k_≠(.slice Ao21 t262.length co21:Value).ownBlock) v275 t274):=⟨h1_⟩
         have n2_:Aside0 (Kd.R k57 57 w53 w.heap.size (fun k_=>some k_≠(v272:Value).ownBlock∧some k_≠(.slice Ao20 t259.length co20:Value).ownBlock) (.slice Ao48 x258001_3.length co48) x258001_3):=⟨h2_⟩
         have n3_:Aside0 (Kd.Q (Kd.int .i64) 3 w53 w.heap.size (fun k_=>some k_≠(v275:Value).ownBlock∧some k_≠(.slice Ao21 t262.length co21:Value).ownBlock) (.slice Ao49 x258002_3.length co49) x258002_3):=⟨h3_⟩
         have n4_:Aside0 (Kd.R k57 57 w53 w.heap.size (fun k_=>some k_≠(v272:Value).ownBlock∧some k_≠(.slice Ao48 x258001_3.length co48:Value).ownBlock) (.slice Ao20 t259.length co20) t259):=⟨h4_⟩
         have n5_:Aside0 (Kd.Q (Kd.int .i64) 3 w53 w.heap.size (fun k_=>some k_≠(v275:Value).ownBlock∧some k_≠(.slice Ao49 x258002_3.length co49:Value).ownBlock) (.slice Ao21 t262.length co21) t262):=⟨h5_⟩
         have n6_:Aside0 (w53.heap[Bd]?=some (.cells #[.int .i64 x258000_3,.slice Ao48 x258001_3.length co48,.slice Ao49 x258002_3.length co49] 51 (0,0))):=⟨h6_⟩
         have n7_:Aside0 (w53.heap[Bb]?=some (.cells #[.int .i64 t258,.slice Ao20 t259.length co20,.slice Ao21 t262.length co21] 51 (0,0))):=⟨h7_⟩
         have n8_:Aside0 (w53.heap[Bg]?=some (.cells #[.int .i64 0,.slice none 0 0,.slice none 0 0] 51 (0,0))):=⟨h8_⟩
         have n9_:Aside0 (w.heap.size≤Bg):=⟨h9_⟩
         have n10_:Aside0 (w.heap.size≤Bg):=⟨h10_⟩
         have n11_:Aside0 (Bd≠Bg):=⟨h11_⟩
         have n12_:Aside0 (Bg≠Bd):=⟨h12_⟩
         have n13_:Aside0 (Bb≠Bg):=⟨h13_⟩
         have n14_:Aside0 (Bg≠Bb):=⟨h14_⟩
         have n15_:Aside0 (Below w.heap.size w w53):=⟨h15_⟩
         clear Be
         clear Bf
         clear Bh
         clear Bi
         clear Ba
         clear Bc
         clear HB
         clear h0_ h1_ h2_ h3_ h4_ h5_ h6_ h7_ h8_ h9_ h10_ h11_ h12_ h13_ h14_ h15_
         have BA:=n0_
         have BB:=n1_
         have Be:=n2_
         have Bf:=n3_
         have Bh:=n4_
         have Bi:=n5_
         have Ba:=n6_
         have Bc:=n7_
         have Bj:=n8_
         have Bu:=n9_
         have Bw:=n10_
         have Bk:=n11_
         have Bp:=n12_
         have Bq:=n13_
         have Bv:=n14_
         have HB:=n15_
         clear n0_ n1_ n2_ n3_ n4_ n5_ n6_ n7_ n8_ n9_ n10_ n11_ n12_ n13_ n14_ n15_
         have hHeld:w53.cell? ⟨Bd,0,none⟩=some (.int .i64 x258000_3)∧w53.cell? ⟨Bd,1,none⟩=some (.slice Ao48 x258001_3.length co48)∧w53.cell? ⟨Bd,2,none⟩=some (.slice Ao49 x258002_3.length co49)∧w53.cell? (ad269.add (x11_3).toNat)=some (.int .u8 (rd l1 x11_3)):=hS_
         obtain ⟨Ao55,co55,eo55⟩:=rC BA.out
         (first|subst eo55|(injection eo55 with f1_ f2_ f3_;have f4_:=f1_.symm;have f5_:=f3_.symm;clear f1_ f2_ f3_;subst f4_;subst f5_))
         obtain ⟨Ao57,co57,eo57,_⟩:=Kd.Q_slice BB.out
         (first|subst eo57|(injection eo57 with f1_ f2_ f3_;have f4_:=f1_.symm;have f5_:=f3_.symm;clear f1_ f2_ f3_;subst f4_;subst f5_))
         refine norm_ (by simp only [putAll,Act.put,lA,lZ,lS];rfl) ?_
         refine oU 13 none z11q18 HT_ rfl rfl (by kernel_rfl) (by decide) (fun K hK=>?_)
         have hs54:=cz0 Bj.out
         have hfs54:=bF Bj.out 0
         have hns54_0:=Bk.out
         have hns54_1:=Bq.out
         have hms54_0:=Bp.out
         have hms54_1:=Bv.out
         have hs56:=cz1 Bj.out
         have hfs56:=bF Bj.out 1
         have hns56_0:=Bk.out
         have hns56_1:=Bq.out
         have hms56_0:=Bp.out
         have hms56_1:=Bv.out
         have hs58:=cz2 Bj.out
         have hfs58:=bF Bj.out 2
         have hns58_0:=Bk.out
         have hns58_1:=Bq.out
         have hms58_0:=Bp.out
         have hms58_1:=Bv.out
         refine skip_ (w1:=?_) (by rfl) rfl ?_ ?_
         rotate_left;(go_simp;rfl)
         refine hK.out _ _ ⟨((cF (p:=⟨Bg,_,none⟩) Bk.out _).trans (((cF (p:=⟨Bg,_,none⟩) Bk.out _).trans (((cF (p:=⟨Bg,_,none⟩) Bk.out _).trans (hHeld.1)))))),((cF (p:=⟨Bg,_,none⟩) Bk.out _).trans (((cF (p:=⟨Bg,_,none⟩) Bk.out _).trans (((cF (p:=⟨Bg,_,none⟩) Bk.out _).trans (hHeld.2.1)))))),((cF (p:=⟨Bg,_,none⟩) Bk.out _).trans (((cF (p:=⟨Bg,_,none⟩) Bk.out _).trans (((cF (p:=⟨Bg,_,none⟩) Bk.out _).trans (hHeld.2.2.1)))))),((cF (p:=⟨Bg,_,none⟩) (by first|exact nI (Nat.lt_of_lt_of_le (by have:=World.block_lt_of_cell? _ _ hw269_0;first|rwa [aB] at this|exact this) Bu.out)|(rw [aB];exact nI (Nat.lt_of_lt_of_le (by have:=World.block_lt_of_cell? _ _ hw269_0;first|rwa [aB] at this|exact this) Bu.out))|(show (Addr.add _ _).block≠_;rw [aB];exact nI (Nat.lt_of_lt_of_le (by have:=World.block_lt_of_cell? _ _ hw269_0;first|rwa [aB] at this|exact this) Bu.out))|(dsimp only;exact nI (Nat.lt_of_lt_of_le (by have:=World.block_lt_of_cell? _ _ hw269_0;first|rwa [aB] at this|exact this) Bu.out))) _).trans (((cF (p:=⟨Bg,_,none⟩) (by first|exact nI (Nat.lt_of_lt_of_le (by have:=World.block_lt_of_cell? _ _ hw269_0;first|rwa [aB] at this|exact this) Bu.out)|(rw [aB];exact nI (Nat.lt_of_lt_of_le (by have:=World.block_lt_of_cell? _ _ hw269_0;first|rwa [aB] at this|exact this) Bu.out))|(show (Addr.add _ _).block≠_;rw [aB];exact nI (Nat.lt_of_lt_of_le (by have:=World.block_lt_of_cell? _ _ hw269_0;first|rwa [aB] at this|exact this) Bu.out))|(dsimp only;exact nI (Nat.lt_of_lt_of_le (by have:=World.block_lt_of_cell? _ _ hw269_0;first|rwa [aB] at this|exact this) Bu.out))) _).trans (((cF (p:=⟨Bg,_,none⟩) (by first|exact nI (Nat.lt_of_lt_of_le (by have:=World.block_lt_of_cell? _ _ hw269_0;first|rwa [aB] at this|exact this) Bu.out)|(rw [aB];exact nI (Nat.lt_of_lt_of_le (by have:=World.block_lt_of_cell? _ _ hw269_0;first|rwa [aB] at this|exact this) Bu.out))|(show (Addr.add _ _).block≠_;rw [aB];exact nI (Nat.lt_of_lt_of_le (by have:=World.block_lt_of_cell? _ _ hw269_0;first|rwa [aB] at this|exact this) Bu.out))|(dsimp only;exact nI (Nat.lt_of_lt_of_le (by have:=World.block_lt_of_cell? _ _ hw269_0;first|rwa [aB] at this|exact this) Bu.out))) _).trans (hHeld.2.2.2))))))⟩ (fun hHeld=>?_)
         clear hK K
         refine pS 14 13 z11q19 HT_ rfl rfl (by kernel_rfl) (by rfl) (by intro w';go_simp;with_reducible rfl) (by simp only [Act.put,lA,lZ,lS,iw,jw];rfl) ?_
         refine done_ (done_of HT_.out (by kernel_rfl)) ?_
         go_upto_if 82 with (fail)
         go_cut [] (fun wc=>∃ (kq:Nat) (x258000_46:Int) (x258001_46:List (S57)) (x258002_46:List Int) (u258001:Value) (u258002:Value),Aside0 (laws_FnLockOne.j4 kq l1 t247 x11_3 x258000_46 x258001_46 x258002_46=some r)∧Aside0 (kq≤kj39)∧Aside0 (Kd.R k57 57 wc w.heap.size (fun k_=>some k_≠((.slice Ao20 t259.length co20):Value).ownBlock) u258001 x258001_46)∧Aside0 (Kd.Q (Kd.int .i64) 3 wc w.heap.size (fun k_=>some k_≠((.slice Ao21 t262.length co21):Value).ownBlock) u258002 x258002_46)∧Aside0 (Kd.R k57 57 wc w.heap.size (fun k_=>some k_≠(u258001:Value).ownBlock∧some k_≠((.slice Ao55 t271.length co55):Value).ownBlock) (.slice Ao20 t259.length co20) t259)∧Aside0 (Kd.Q (Kd.int .i64) 3 wc w.heap.size (fun k_=>some k_≠(u258002:Value).ownBlock∧some k_≠((.slice Ao57 t274.length co57):Value).ownBlock) (.slice Ao21 t262.length co21) t262)∧Aside0 (Kd.R k57 57 wc w.heap.size (fun k_=>some k_≠((.slice Ao20 t259.length co20):Value).ownBlock) (.slice Ao55 t271.length co55) t271)∧Aside0 (Kd.Q (Kd.int .i64) 3 wc w.heap.size (fun k_=>some k_≠((.slice Ao21 t262.length co21):Value).ownBlock) (.slice Ao57 t274.length co57) t274)∧Aside0 (wc.heap[Bd]?=some (.cells #[.int .i64 x258000_46,u258001,u258002] 51 (0,0)))∧Aside0 (wc.heap[Bb]?=some (.cells #[.int .i64 t258,(.slice Ao20 t259.length co20),(.slice Ao21 t262.length co21)] 51 (0,0)))∧Aside0 (wc.heap[Bg]?=some (.cells #[.int .i64 t270,(.slice Ao55 t271.length co55),(.slice Ao57 t274.length co57)] 51 (0,0)))∧Aside0 (Below w.heap.size w wc))
         case first =>
          have H:=HC47.out
          clear HC47
          by_cases c59:t277=true
          rotate_left
          ·replace c59:=Bool.eq_false_iff.mpr c59
           subst c59
           have H1:(laws_FnLockOne.j4 kj39 l1 t247 x11_3 x258000_3 x258001_3 x258002_3)=some r:=by rw [if_neg (show ¬ (false=true) by decide)] at H;exact H
           clear H
           have H:=H1
           clear H1
           have H':=Am H
           clear H
           go_wp2
           go_meet
           case rel=>exact ⟨_,(x258000_3),(x258001_3),(x258002_3),(.slice Ao48 x258001_3.length co48),(.slice Ao49 x258002_3.length co49),H',⟨by have:=Dc.out;have:=Dp.out;have:=HK3.out;have:=Dq.out;first|omega|exact nR _⟩,⟨by (with_reducible repeat (first|apply rA|apply rN|apply rD));exact rM (rF (p:=⟨Bg,2,none⟩) (rF (p:=⟨Bg,1,none⟩) (rF (p:=⟨Bg,0,none⟩) (rT Be.out Bj.out (by decide)) (fun _ hk=>hk.2) (.int .i64 t270)) (fun _ hk=>hk.2) (.slice Ao55 t271.length co55)) (fun _ hk=>hk.2) (.slice Ao57 t274.length co57)) (fun _ hk=>hk.1.2)⟩,⟨by (with_reducible repeat (first|apply Kd.Q_alloc|apply Kd.Q_drewN|apply Kd.Q_drew));exact qM (Kd.Q_far (p:=⟨Bg,2,none⟩) (Kd.Q_far (p:=⟨Bg,1,none⟩) (Kd.Q_far (p:=⟨Bg,0,none⟩) (Kd.Q_types Bf.out Bj.out (by decide)) (fun _ hk=>hk.2) (.int .i64 t270)) (fun _ hk=>hk.2) (.slice Ao55 t271.length co55)) (fun _ hk=>hk.2) (.slice Ao57 t274.length co57)) (fun _ hk=>hk.1.2)⟩,⟨by (with_reducible repeat (first|apply rA|apply rN|apply rD));exact rM (rF (p:=⟨Bg,2,none⟩) (rF (p:=⟨Bg,1,none⟩) (rF (p:=⟨Bg,0,none⟩) (rT Bh.out Bj.out (by decide)) (fun _ hk=>hk.2) (.int .i64 t270)) (fun _ hk=>hk.2) (.slice Ao55 t271.length co55)) (fun _ hk=>hk.2) (.slice Ao57 t274.length co57)) (fun _ hk=>⟨hk.1.2,hk.1.1⟩)⟩,⟨by (with_reducible repeat (first|apply Kd.Q_alloc|apply Kd.Q_drewN|apply Kd.Q_drew));exact qM (Kd.Q_far (p:=⟨Bg,2,none⟩) (Kd.Q_far (p:=⟨Bg,1,none⟩) (Kd.Q_far (p:=⟨Bg,0,none⟩) (Kd.Q_types Bi.out Bj.out (by decide)) (fun _ hk=>hk.2) (.int .i64 t270)) (fun _ hk=>hk.2) (.slice Ao55 t271.length co55)) (fun _ hk=>hk.2) (.slice Ao57 t274.length co57)) (fun _ hk=>⟨hk.1.2,hk.1.1⟩)⟩,⟨by (with_reducible repeat (first|apply rA|apply rN|apply rD));exact rM (rF (p:=⟨Bg,2,none⟩) (rF (p:=⟨Bg,1,none⟩) (rF (p:=⟨Bg,0,none⟩) (rT BA.out Bj.out (by decide)) (fun _ hk=>hk.2) (.int .i64 t270)) (fun _ hk=>hk.2) (.slice Ao55 t271.length co55)) (fun _ hk=>hk.2) (.slice Ao57 t274.length co57)) (fun _ hk=>hk.1.2)⟩,⟨by (with_reducible repeat (first|apply Kd.Q_alloc|apply Kd.Q_drewN|apply Kd.Q_drew));exact qM (Kd.Q_far (p:=⟨Bg,2,none⟩) (Kd.Q_far (p:=⟨Bg,1,none⟩) (Kd.Q_far (p:=⟨Bg,0,none⟩) (Kd.Q_types BB.out Bj.out (by decide)) (fun _ hk=>hk.2) (.int .i64 t270)) (fun _ hk=>hk.2) (.slice Ao55 t271.length co55)) (fun _ hk=>hk.2) (.slice Ao57 t274.length co57)) (fun _ hk=>hk.1.2)⟩,⟨by (with_reducible repeat (first|refine bN ?_ _|refine bD ?_|refine bA ?_ _|refine bE ?_ Bk.out _));exact Ba.out⟩,⟨by (with_reducible repeat (first|refine bN ?_ _|refine bD ?_|refine bA ?_ _|refine bE ?_ Bq.out _));exact Bc.out⟩,⟨by (with_reducible repeat (first|refine bN ?_ _|refine bD ?_|refine bA ?_ _));refine bT (cs:=#[.int .i64 t270,.slice Ao55 t271.length co55,.slice none 0 0]) ?_ 2 _ rfl;(with_reducible repeat (first|refine bN ?_ _|refine bD ?_|refine bA ?_ _));refine bT (cs:=#[.int .i64 t270,.slice none 0 0,.slice none 0 0]) ?_ 1 _ rfl;(with_reducible repeat (first|refine bN ?_ _|refine bD ?_|refine bA ?_ _));refine bT (cs:=#[.int .i64 0,.slice none 0 0,.slice none 0 0]) ?_ 0 _ rfl;(with_reducible repeat (first|refine bN ?_ _|refine bD ?_|refine bA ?_ _));exact Bj.out⟩,⟨by repeat (first|(with_reducible first|exact HB.out|apply oA|apply pN|apply o1|refine bS ?_ Bl.out|refine bS ?_ Bm.out|refine bS ?_ Bw.out)|exact HB.out)⟩⟩
          subst c59
          have H1:(laws_FnLockOne.j4 kj39 l1 t247 x11_3 t270 t271 t274)=some r:=by rw [if_pos rfl] at H;exact H
          clear H
          have H:=H1
          clear H1
          have H':=Am H
          clear H
          have D0:=Bp.out
          have D1:=Bk.out
          have D2:=Bv.out
          have D3:=Bq.out
          have Dr:=cz0 Bj.out
          have Ds:=cz1 Bj.out
          have Dt:=cz2 Bj.out
          have Du:=bF Bj.out 0
          have Dv:=bF Bj.out 1
          have Dw:=bF Bj.out 2
          have D4:=Bt.out
          have D5:=Bx.out
          have Dx:=cz0 Ba.out
          have Dy:=cz1 Ba.out
          have Dz:=cz2 Ba.out
          have DA:=bF Ba.out 0
          have DB:=bF Ba.out 1
          have DC:=bF Ba.out 2
          go_wp2
          go_meet
          case rel=>exact ⟨_,(t270),(t271),(t274),(.slice Ao55 t271.length co55),(.slice Ao57 t274.length co57),H',⟨by have:=Dc.out;have:=Dp.out;have:=HK3.out;have:=Dq.out;first|omega|exact nR _⟩,⟨by (with_reducible repeat (first|apply rA|apply rN|apply rD));exact rM (rF (p:=⟨Bd,2,none⟩) (rF (p:=⟨Bd,1,none⟩) (rF (p:=⟨Bd,0,none⟩) (rF (p:=⟨Bg,2,none⟩) (rF (p:=⟨Bg,1,none⟩) (rF (p:=⟨Bg,0,none⟩) (rT (rT BA.out Bj.out (by decide)) Ba.out (by decide)) (fun _ hk=>hk.1.2) (.int .i64 t270)) (fun _ hk=>hk.1.2) (.slice Ao55 t271.length co55)) (fun _ hk=>hk.1.2) (.slice Ao57 t274.length co57)) (fun _ hk=>hk.2) (.int .i64 t270)) (fun _ hk=>hk.2) (.slice Ao55 t271.length co55)) (fun _ hk=>hk.2) (.slice Ao57 t274.length co57)) (fun _ hk=>hk.1.1.2)⟩,⟨by (with_reducible repeat (first|apply Kd.Q_alloc|apply Kd.Q_drewN|apply Kd.Q_drew));exact qM (Kd.Q_far (p:=⟨Bd,2,none⟩) (Kd.Q_far (p:=⟨Bd,1,none⟩) (Kd.Q_far (p:=⟨Bd,0,none⟩) (Kd.Q_far (p:=⟨Bg,2,none⟩) (Kd.Q_far (p:=⟨Bg,1,none⟩) (Kd.Q_far (p:=⟨Bg,0,none⟩) (Kd.Q_types (Kd.Q_types BB.out Bj.out (by decide)) Ba.out (by decide)) (fun _ hk=>hk.1.2) (.int .i64 t270)) (fun _ hk=>hk.1.2) (.slice Ao55 t271.length co55)) (fun _ hk=>hk.1.2) (.slice Ao57 t274.length co57)) (fun _ hk=>hk.2) (.int .i64 t270)) (fun _ hk=>hk.2) (.slice Ao55 t271.length co55)) (fun _ hk=>hk.2) (.slice Ao57 t274.length co57)) (fun _ hk=>hk.1.1.2)⟩,⟨by (with_reducible repeat (first|apply rA|apply rN|apply rD));exact rM (rF (p:=⟨Bd,2,none⟩) (rF (p:=⟨Bd,1,none⟩) (rF (p:=⟨Bd,0,none⟩) (rF (p:=⟨Bg,2,none⟩) (rF (p:=⟨Bg,1,none⟩) (rF (p:=⟨Bg,0,none⟩) (rT (rT Bh.out Bj.out (by decide)) Ba.out (by decide)) (fun _ hk=>hk.1.2) (.int .i64 t270)) (fun _ hk=>hk.1.2) (.slice Ao55 t271.length co55)) (fun _ hk=>hk.1.2) (.slice Ao57 t274.length co57)) (fun _ hk=>hk.2) (.int .i64 t270)) (fun _ hk=>hk.2) (.slice Ao55 t271.length co55)) (fun _ hk=>hk.2) (.slice Ao57 t274.length co57)) (fun _ hk=>⟨hk.1.1.1,hk.1.1.1⟩)⟩,⟨by (with_reducible repeat (first|apply Kd.Q_alloc|apply Kd.Q_drewN|apply Kd.Q_drew));exact qM (Kd.Q_far (p:=⟨Bd,2,none⟩) (Kd.Q_far (p:=⟨Bd,1,none⟩) (Kd.Q_far (p:=⟨Bd,0,none⟩) (Kd.Q_far (p:=⟨Bg,2,none⟩) (Kd.Q_far (p:=⟨Bg,1,none⟩) (Kd.Q_far (p:=⟨Bg,0,none⟩) (Kd.Q_types (Kd.Q_types Bi.out Bj.out (by decide)) Ba.out (by decide)) (fun _ hk=>hk.1.2) (.int .i64 t270)) (fun _ hk=>hk.1.2) (.slice Ao55 t271.length co55)) (fun _ hk=>hk.1.2) (.slice Ao57 t274.length co57)) (fun _ hk=>hk.2) (.int .i64 t270)) (fun _ hk=>hk.2) (.slice Ao55 t271.length co55)) (fun _ hk=>hk.2) (.slice Ao57 t274.length co57)) (fun _ hk=>⟨hk.1.1.1,hk.1.1.1⟩)⟩,⟨by (with_reducible repeat (first|apply rA|apply rN|apply rD));exact rM (rF (p:=⟨Bd,2,none⟩) (rF (p:=⟨Bd,1,none⟩) (rF (p:=⟨Bd,0,none⟩) (rF (p:=⟨Bg,2,none⟩) (rF (p:=⟨Bg,1,none⟩) (rF (p:=⟨Bg,0,none⟩) (rT (rT BA.out Bj.out (by decide)) Ba.out (by decide)) (fun _ hk=>hk.1.2) (.int .i64 t270)) (fun _ hk=>hk.1.2) (.slice Ao55 t271.length co55)) (fun _ hk=>hk.1.2) (.slice Ao57 t274.length co57)) (fun _ hk=>hk.2) (.int .i64 t270)) (fun _ hk=>hk.2) (.slice Ao55 t271.length co55)) (fun _ hk=>hk.2) (.slice Ao57 t274.length co57)) (fun _ hk=>hk.1.1.2)⟩,⟨by (with_reducible repeat (first|apply Kd.Q_alloc|apply Kd.Q_drewN|apply Kd.Q_drew));exact qM (Kd.Q_far (p:=⟨Bd,2,none⟩) (Kd.Q_far (p:=⟨Bd,1,none⟩) (Kd.Q_far (p:=⟨Bd,0,none⟩) (Kd.Q_far (p:=⟨Bg,2,none⟩) (Kd.Q_far (p:=⟨Bg,1,none⟩) (Kd.Q_far (p:=⟨Bg,0,none⟩) (Kd.Q_types (Kd.Q_types BB.out Bj.out (by decide)) Ba.out (by decide)) (fun _ hk=>hk.1.2) (.int .i64 t270)) (fun _ hk=>hk.1.2) (.slice Ao55 t271.length co55)) (fun _ hk=>hk.1.2) (.slice Ao57 t274.length co57)) (fun _ hk=>hk.2) (.int .i64 t270)) (fun _ hk=>hk.2) (.slice Ao55 t271.length co55)) (fun _ hk=>hk.2) (.slice Ao57 t274.length co57)) (fun _ hk=>hk.1.1.2)⟩,⟨by (with_reducible repeat (first|refine bN ?_ _|refine bD ?_|refine bA ?_ _));refine bT (cs:=#[.int .i64 t270,.slice Ao55 t271.length co55,.slice Ao49 x258002_3.length co49]) ?_ 2 _ rfl;(with_reducible repeat (first|refine bN ?_ _|refine bD ?_|refine bA ?_ _));refine bT (cs:=#[.int .i64 t270,.slice Ao48 x258001_3.length co48,.slice Ao49 x258002_3.length co49]) ?_ 1 _ rfl;(with_reducible repeat (first|refine bN ?_ _|refine bD ?_|refine bA ?_ _));refine bT (cs:=#[.int .i64 x258000_3,.slice Ao48 x258001_3.length co48,.slice Ao49 x258002_3.length co49]) ?_ 0 _ rfl;(with_reducible repeat (first|refine bN ?_ _|refine bD ?_|refine bA ?_ _|refine bE ?_ Bk.out _));exact Ba.out⟩,⟨by (with_reducible repeat (first|refine bN ?_ _|refine bD ?_|refine bA ?_ _|refine bE ?_ Bx.out _|refine bE ?_ Bq.out _));exact Bc.out⟩,⟨by (with_reducible repeat (first|refine bN ?_ _|refine bD ?_|refine bA ?_ _|refine bE ?_ Bp.out _));refine bT (cs:=#[.int .i64 t270,.slice Ao55 t271.length co55,.slice none 0 0]) ?_ 2 _ rfl;(with_reducible repeat (first|refine bN ?_ _|refine bD ?_|refine bA ?_ _));refine bT (cs:=#[.int .i64 t270,.slice none 0 0,.slice none 0 0]) ?_ 1 _ rfl;(with_reducible repeat (first|refine bN ?_ _|refine bD ?_|refine bA ?_ _));refine bT (cs:=#[.int .i64 0,.slice none 0 0,.slice none 0 0]) ?_ 0 _ rfl;(with_reducible repeat (first|refine bN ?_ _|refine bD ?_|refine bA ?_ _));exact Bj.out⟩,⟨by repeat (first|(with_reducible first|exact HB.out|apply oA|apply pN|apply o1|refine bS ?_ Bl.out|refine bS ?_ Bm.out|refine bS ?_ Bw.out)|exact HB.out)⟩⟩
         case rest =>
          clear HC47
          try clear c1
          try clear c2
          try clear p2
          try clear q2
          try clear hx2
          try clear c3
          try clear c4
          try clear c4b0
          try clear c4b1
          try clear c5
          try clear c6
          try clear p6
          try clear c11
          try clear c18
          try clear c22
          try clear c22b0
          try clear c22b1
          try clear c22b2
          try clear c24
          try clear c25
          try clear p26
          try clear q26
          try clear hx26
          try clear c29
          try clear c32
          try clear c33
          try clear c34
          try clear c34b0
          try clear c34b1
          try clear c34b2
          try clear c36
          try clear c41
          try clear c41b0
          try clear c42
          try clear c43
          try clear c43b0
          try clear c44
          try clear c44b0
          try clear c45
          try clear c45b0
          try clear c45b1
          try clear c59
          try clear c60
          try clear c61
          try clear c63
          try clear p64
          try clear BC
          try clear BD
          try clear BE
          try clear BI
          try clear BJ
          try clear BK
          try clear BO
          try clear BP
          try clear BQ
          try clear BU
          try clear BV
          try clear BW
          try clear B0
          try clear B1
          try clear B2
          try clear B6
          try clear B7
          try clear B8
          try clear Dd
          try clear De
          try clear Df
          try clear Dj
          try clear Dk
          try clear Dl
          try clear Dr
          try clear Ds
          try clear Dt
          try clear Dx
          try clear Dy
          try clear Dz
          try clear BF
          try clear BG
          try clear BH
          try clear BL
          try clear BM
          try clear BN
          try clear BR
          try clear BS
          try clear BT
          try clear BX
          try clear BY
          try clear BZ
          try clear B3
          try clear B4
          try clear B5
          try clear B9
          try clear Da
          try clear Db
          try clear Dg
          try clear Dh
          try clear Di
          try clear Dm
          try clear Dn
          try clear Do
          try clear Du
          try clear Dv
          try clear Dw
          try clear DA
          try clear DB
          try clear DC
          try clear hx269_0
          try clear p2
          try clear p269
          try clear q269
          obtain ⟨kq,x258000_46,x258001_46,x258002_46,u258001,u258002,HA,DD,Be,Bf,Bh,Bi,By,Bz,Ba,Bc,Bj,HB⟩:=hcut
          cases kq with
         |zero=>exact absurd HA.out (by simp [laws_FnLockOne.j4])
         |succ kj46 =>
           have H:=HA.out
           clear HA
           simp only [laws_FnLockOne.j4] at H
           replace H:=oC H
           obtain ⟨t279,A650,H⟩:=H
           replace H:(if t279 > 1 then (some false) else ((impl_LockStuck.f kj46 x258000_46 x258001_46 x258002_46).bind fun t280=>(if t280=true then (some false) else (laws_FnLockOne.l0 kj46 l1 t247 (wrap64 (x11_3 + 1)) x258000_46 x258001_46 x258002_46))))=some r:=H
           have A65:=Am A650
           clear A650
           by_cases c66:t279 > 1
           ·rw [if_pos c66] at H
            have c66b0:decide (1<t279)=true:=dT c66
            clear c66
            exact absurd ((oJ H).trans hT_.out) (by decide)
           rw [if_neg c66] at H
           have c66b0:decide (1<t279)=false:=dF c66
           clear c66
           replace H:=oC H
           obtain ⟨t280,A670,H⟩:=H
           replace H:(if t280=true then (some false) else (laws_FnLockOne.l0 kj46 l1 t247 (wrap64 (x11_3 + 1)) x258000_46 x258001_46 x258002_46))=some r:=H
           have A67:=Am A670
           clear A670
           by_cases c68:t280=true
           ·subst c68
            have H1:(some false)=some r:=by rw [if_pos rfl] at H;exact H
            clear H
            have H:=H1
            clear H1
            exact absurd ((oJ H).trans hT_.out) (by decide)
           replace c68:=Bool.eq_false_iff.mpr c68
           subst c68
           have H1:(laws_FnLockOne.l0 kj46 l1 t247 (wrap64 (x11_3 + 1)) x258000_46 x258001_46 x258002_46)=some r:=by rw [if_neg (show ¬ (false=true) by decide)] at H;exact H
           clear H
           have H:=H1
           clear H1
           have H':=Am H
           clear H
           have D6:=Bt.out
           have D7:=Bx.out
           have D8:=Bk.out
           have D9:=Bp.out
           have DE:=cz0 Ba.out
           have DF:=cz1 Ba.out
           have DG:=cz2 Ba.out
           have DH:=bF Ba.out 0
           have DI:=bF Ba.out 1
           have DJ:=bF Ba.out 2
           obtain ⟨Ao72,co72,eo72⟩:=rC Be.out
           subst eo72
           obtain ⟨Ao73,co73,eo73,_⟩:=Kd.Q_slice Bf.out
           subst eo73
           go_wp2_with (first|((with_reducible refine gC (f:=38) rfl ?_);refine goesL_ (some 85) rfl rfl Try.func38 (by kernel_rfl) rfl #[.agg #[.int .i64 x258000_46,.slice Ao72 x258001_46.length co72,.slice Ao73 x258002_46.length co73]] rfl (by (try simp only [lM,lC,lN]);first|done|rfl|(simp only [lD,lT];rfl)) ?_;(with_reducible refine (impl_LockIn.calls kj46 x258000_46 _ _ x258001_46 _ _ x258002_46 t279 _ ?side1 ?side2 ?side3 ?side4 A65.out).mono ?_);(case side1=>exact cL (rR Be.out).2.2);(case side2=>exact (rR Be.out).2.1);(case side3=>exact cL (qR Bf.out).2.2);(case side4=>exact (qR Bf.out).2.1);rintro e w74 ⟨rfl,hb⟩;refine ⟨_,rfl,?_⟩;have n0_:=Am (rB (rL Be.out) hb);have n1_:=Am (Kd.Q_below (qL Bf.out) hb);have n2_:=Am (rB (rL Bh.out) hb);have n3_:=Am (Kd.Q_below (qL Bi.out) hb);have n4_:=Am (rB (rL By.out) hb);have n5_:=Am (Kd.Q_below (qL Bz.out) hb);have n6_:=Am (bX Ba.out hb);have n7_:=Am (bX Bc.out hb);have n8_:=Am (bX Bj.out hb);have n9_:=Am (bP (by repeat (first|(with_reducible first|exact HB.out|apply oA|apply pN|apply o1|refine bS ?_ Bl.out|refine bS ?_ Bm.out|refine bS ?_ Bw.out)|exact HB.out)) hb);clear Be Bf Bh Bi By Bz Ba Bc Bj HB;revert n0_ n1_ n2_ n3_ n4_ n5_ n6_ n7_ n8_ n9_;intro Be Bf Bh Bi By Bz Ba Bc Bj HB;(try clear hb);(try clear hb2);(try clear hk);(try clear hi);have DK:=cz0 Ba.out;have DL:=cz1 Ba.out;have DM:=cz2 Ba.out;have DN:=bF Ba.out 0;have DO:=bF Ba.out 1;have DP:=bF Ba.out 2)|(go_at_call 39;(with_reducible refine (impl_LockStuck.calls kj46 x258000_46 _ _ x258001_46 _ _ x258002_46 false _ ?side1 ?side2 ?side3 ?side4 A67.out).mono ?_);(case side1=>exact cL (rR Be.out).2.2);(case side2=>exact (rR Be.out).2.1);(case side3=>exact cL (qR Bf.out).2.2);(case side4=>exact (qR Bf.out).2.1);rintro e w76 ⟨rfl,hb⟩;have n0_:=Am (rB (rL Be.out) hb);have n1_:=Am (Kd.Q_below (qL Bf.out) hb);have n2_:=Am (rB (rL Bh.out) hb);have n3_:=Am (Kd.Q_below (qL Bi.out) hb);have n4_:=Am (rB (rL By.out) hb);have n5_:=Am (Kd.Q_below (qL Bz.out) hb);have n6_:=Am (bX Ba.out hb);have n7_:=Am (bX Bc.out hb);have n8_:=Am (bX Bj.out hb);have n9_:=Am (bP (by repeat (first|(with_reducible first|exact HB.out|apply oA|apply pN|apply o1|refine bS ?_ Bl.out|refine bS ?_ Bm.out|refine bS ?_ Bw.out)|exact HB.out)) hb);clear Be Bf Bh Bi By Bz Ba Bc Bj HB;revert n0_ n1_ n2_ n3_ n4_ n5_ n6_ n7_ n8_ n9_;intro Be Bf Bh Bi By Bz Ba Bc Bj HB;(try clear hb);(try clear hb2);(try clear hk);(try clear hi)))
           go_roundg kj46
           case measure=>have:=Dc.out;have:=Dp.out;have:=HK3.out;have:=Dq.out;have:=DD.out;omega
           case rel=>exact ⟨(wrap64 (x11_3 + 1)),(x258000_46),(x258001_46),(x258002_46),(.slice Ao72 x258001_46.length co72),(.slice Ao73 x258002_46.length co73),(by first|rfl|(simp;done)|(simp [*];done)),H',⟨by have:=Dc.out;have:=Dp.out;have:=HK3.out;have:=Dq.out;have:=DD.out;omega⟩,⟨by (with_reducible repeat (first|apply rA|apply rN|apply rD));exact Be.out⟩,⟨by (with_reducible repeat (first|apply Kd.Q_alloc|apply Kd.Q_drewN|apply Kd.Q_drew));exact Bf.out⟩,⟨by (with_reducible repeat (first|apply rA|apply rN|apply rD));exact rM Bh.out (fun _ hk=>hk.1)⟩,⟨by (with_reducible repeat (first|apply Kd.Q_alloc|apply Kd.Q_drewN|apply Kd.Q_drew));exact qM Bi.out (fun _ hk=>hk.1)⟩,⟨by (with_reducible repeat (first|refine bN ?_ _|refine bD ?_|refine bA ?_ _));exact Ba.out⟩,⟨by (with_reducible repeat (first|refine bN ?_ _|refine bD ?_|refine bA ?_ _));exact Bc.out⟩,⟨by repeat (first|(with_reducible first|exact HB.out|apply oA|apply pN|apply o1|refine bS ?_ Bl.out|refine bS ?_ Bm.out|refine bS ?_ Bw.out)|exact HB.out)⟩⟩
/-- THE ONE PURE STATEMENT of laws_FnLockOne: yours. -/
def laws_FnLockOne.Pure:Prop:=∀ (l0:List Int) (l1:List Int),l0.length≤maxLen → l0.length * 1≤140737488351232 → (∀ x ∈ l0,(Lit.int .u8 x).wf=true) → l1.length≤maxLen → l1.length * 1≤140737488351232 → (∀ x ∈ l1,(Lit.int .u8 x).wf=true) → ∃ k,laws_FnLockOne.f k l0 l1=some true
theorem laws_FnLockOne.walk (P:laws_FnLockOne.Pure) (a0:Option Addr) (len0 cap0:Nat) (z0:List Int) (a1:Option Addr) (len1 cap1:Nat) (z1:List Int) (w:World) (w0:(a0=none∧len0=0∧cap0=0∧z0=[])∨∃ x,a0=some x∧len0≤cap0∧cap0≤maxLen∧z0.length=cap0∧(∀ i,i<z0.length → w.cell? (x.add i)=some (.int .u8 (z0.getD i 0)))∧∀ n ∈ z0,(Lit.int .u8 n).wf=true) (y0:len0 * 1≤140737488351232) (w1:(a1=none∧len1=0∧cap1=0∧z1=[])∨∃ x,a1=some x∧len1≤cap1∧cap1≤maxLen∧z1.length=cap1∧(∀ i,i<z1.length → w.cell? (x.add i)=some (.int .u8 (z1.getD i 0)))∧∀ n ∈ z1,(Lit.int .u8 n).wf=true) (y1:len1 * 1≤140737488351232) :
  Calls Try.prog 11 #[.slice a0 len0 cap0,.slice a1 len1 cap1] w fun e w'=>e=.returned (.bool true)∧Below w.heap.size w w':=by
 obtain ⟨l0,rfl,hr0,hm0,hw0,hc0⟩:=ReadsInt.ofRowC w0
 obtain ⟨l1,rfl,hr1,hm1,hw1,hc1⟩:=ReadsInt.ofRowC w1
 obtain ⟨k,h⟩:=P l0 l1 hm0 y0 hw0 hm1 y1 hw1
 refine (laws_FnLockOne.calls k _ _ l0 _ _ l1 true w (Kd.C_of_reads (d:=(0:Int)) (h1:=fun _=>rfl) hr0) hc0 (Kd.C_of_reads (d:=(0:Int)) (h1:=fun _=>rfl) hr1) hc1 h ⟨rfl⟩).mono ?_
 rintro e w' ⟨rfl,hd⟩
 exact ⟨rfl,hd⟩

end Go.Proofs.Ytpdfkbggaihfpaa.PFnLockOne
