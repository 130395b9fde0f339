/- Proved here, without a condition beyond those that each theorem states: what the Go functions named below do is what the plain functions of the same names say. Written by xprint.py, a program of this session. -/
import Derived.Test.YtpdfkbggaihfpaaPFnLockEndsx0
import Derived.Test.YtpdfkbggaihfpaaPFnLockEndsx2
import Derived.Test.YtpdfkbggaihfpaaPFnLockEndsx3
import Derived.Test.YtpdfkbggaihfpaaPFnLockEndsx4
import Derived.Test.YtpdfkbggaihfpaaPFnLockEndsx5
import Derived.Test.YtpdfkbggaihfpaaPFnLockEndsx10
namespace Go.Proofs.Ytpdfkbggaihfpaa.PFnLockEnds
open Go.RowKit Go.Proofs.YtpdfkbggaihfpaaW.PrintWords Go.Proofs.YtpdfkbggaihfpaaW.PrintLast Go.Proofs.YtpdfkbggaihfpaaW.PrintMore
attribute [local go_sem] max2_int min2_int max_two min_two max_three min_three max_four min_four   -- for this text's walks alone
set_option linter.unusedVariables false
set_option linter.unusedSimpArgs false

attribute [local go_sem ↓] isSome_setCell_
/-! ### laws_FnLockEnds: function 9 -/
mutual
def laws_FnLockEnds.j0 : Nat → List Int → List Int → Bool → Option (Bool)
|0, _, _, _ => none
|k + 1, x0, x1, x24 => if x24 = true then (some true) else ((spec_DrawLockNew.f k x0).bind fun bt242 => ((impl_LockNew.f k bt242.1 bt242.2).bind fun bt244 => ((spec_LockNew.f k bt242.1 bt242.2).bind fun bt253 => (if (bt244.2.2.2 != bt253.2.2.2) = true then (laws_FnLockEnds.j1 k x1 bt242.1 bt244.2.2.2 bt253.2.2.2 true bt244.1 bt244.2.1 bt244.2.2.1 bt253.1 bt253.2.1 bt253.2.2.1) else ((laws_qdLock.f k bt244.1 bt244.2.1 bt244.2.2.1 bt253.1 bt253.2.1 bt253.2.2.1).bind fun t262 => (if t262 = true then (laws_FnLockEnds.j1 k x1 bt242.1 bt244.2.2.2 bt253.2.2.2 (!bt244.2.2.2) bt244.1 bt244.2.1 bt244.2.2.1 bt253.1 bt253.2.1 bt253.2.2.1) else (laws_FnLockEnds.j1 k x1 bt242.1 bt244.2.2.2 bt253.2.2.2 true bt244.1 bt244.2.1 bt244.2.2.1 bt253.1 bt253.2.1 bt253.2.2.1)))))))
def laws_FnLockEnds.j1 : Nat → List Int → Int → Bool → Bool → Bool → Int → List (S57) → List Int → Int → List (S57) → List Int → Option (Bool)
|0, _, _, _, _, _, _, _, _, _, _, _ => none
|k + 1, x1, x5, x8, x10, x54, x253000, x253001, x253002, x262000, x262001, x262002 => if x54 = true then (if (x8 == x10) = true then ((laws_qdLock.f k x253000 x253001 x253002 x262000 x262001 x262002).bind fun t263 => (some t263)) else (some false)) else (laws_FnLockEnds.l0 k x1 x5 (([] : List Int)) 0 x253000 x253001 x253002)
def laws_FnLockEnds.j3 : Nat → Int → List Int → Int → List (S57) → List Int → Option (Bool)
|0, _, _, _, _, _ => none
|k + 1, x5, x11, x253000, x253001, x253002 => laws_FnLockEnds.l1 k x5 x11 0 x253000 x253001 x253002
def laws_FnLockEnds.l1 : Nat → Int → List Int → Int → Int → List (S57) → List Int → Option (Bool)
|0, _, _, _, _, _, _ => none
|k + 1, x5, x11, x13, x253000, x253001, x253002 => if x13 < (wrap64 (200 * x5)) then (if x5 = 0 then (none) else (if x11.length < 17592186044416 then (laws_FnLockEnds.l1 k x5 (x11 ++ [Int.tmod x13 x5]) (wrap64 (x13 + 1)) x253000 x253001 x253002) else (none))) else ((impl_LockRun.f k x253000 x253001 x253002 x11).bind fun bt274 => (laws_FnLockEnds.l2 k bt274.2.2.2 0 bt274.1 bt274.2.1 bt274.2.2.1))
def laws_FnLockEnds.l2 : Nat → Int → Int → Int → List (S57) → List Int → Option (Bool)
|0, _, _, _, _, _ => none
|k + 1, x15, x16, x283000, x283001, x283002 => if x16 < (x283001.length : Int) then (if 0 ≤ x16 then (if ((rd_T57 x283001 x16).f2) > 0 then (some false) else (if ((rd_T57 x283001 x16).f0) > 0 then (some false) else (laws_FnLockEnds.l2 k x15 (wrap64 (x16 + 1)) x283000 x283001 x283002))) else (none)) else (if x15 ≥ 0 then (if x283000 = 0 then (some ((x283002.length : Int) == 0)) else (some false)) else (some false))
def laws_FnLockEnds.l0 : Nat → List Int → Int → List Int → Int → Int → List (S57) → List Int → Option (Bool)
|0, _, _, _, _, _, _, _ => none
|k + 1, x1, x5, x11, x12, x253000, x253001, x253002 => if x12 < (x1.length : Int) then (if x12 < 200 then (if 0 ≤ x12 then (if x5 = 0 then (none) else (if x11.length < 17592186044416 then (laws_FnLockEnds.l0 k x1 x5 (x11 ++ [Int.tmod (wrap64 (rd x1 x12)) x5]) (wrap64 (x12 + 1)) x253000 x253001 x253002) else (none))) else (none)) else (laws_FnLockEnds.j3 k x5 x11 x253000 x253001 x253002)) else (laws_FnLockEnds.j3 k x5 x11 x253000 x253001 x253002)
end
def laws_FnLockEnds.f (k : Nat) (l0 : List Int) (l1 : List Int) : Option (Bool) := if (l0.length : Int) > 1048576 then (laws_FnLockEnds.j0 k l0 l1 true) else (laws_FnLockEnds.j0 k l0 l1 (decide ((l1.length : Int) > 1048576)))
theorem laws_FnLockEnds.mono_l : ∀ k, (∀ y0 y1 y2, LeO (laws_FnLockEnds.j0 k y0 y1 y2) (laws_FnLockEnds.j0 (k + 1) y0 y1 y2)) ∧ (∀ y0 y1 y2 y3 y4 y5 y6 y7 y8 y9 y10, LeO (laws_FnLockEnds.j1 k y0 y1 y2 y3 y4 y5 y6 y7 y8 y9 y10) (laws_FnLockEnds.j1 (k + 1) y0 y1 y2 y3 y4 y5 y6 y7 y8 y9 y10)) ∧ (∀ y0 y1 y2 y3 y4, LeO (laws_FnLockEnds.j3 k y0 y1 y2 y3 y4) (laws_FnLockEnds.j3 (k + 1) y0 y1 y2 y3 y4)) ∧ (∀ y0 y1 y2 y3 y4 y5, LeO (laws_FnLockEnds.l1 k y0 y1 y2 y3 y4 y5) (laws_FnLockEnds.l1 (k + 1) y0 y1 y2 y3 y4 y5)) ∧ (∀ y0 y1 y2 y3 y4, LeO (laws_FnLockEnds.l2 k y0 y1 y2 y3 y4) (laws_FnLockEnds.l2 (k + 1) y0 y1 y2 y3 y4)) ∧ (∀ y0 y1 y2 y3 y4 y5 y6, LeO (laws_FnLockEnds.l0 k y0 y1 y2 y3 y4 y5 y6) (laws_FnLockEnds.l0 (k + 1) y0 y1 y2 y3 y4 y5 y6))
|0 => ⟨fun _ _ _ r h => by simp [laws_FnLockEnds.j0] at h, fun _ _ _ _ _ _ _ _ _ _ _ r h => by simp [laws_FnLockEnds.j1] at h, fun _ _ _ _ _ r h => by simp [laws_FnLockEnds.j3] at h, fun _ _ _ _ _ _ r h => by simp [laws_FnLockEnds.l1] at h, fun _ _ _ _ _ r h => by simp [laws_FnLockEnds.l2] at h, fun _ _ _ _ _ _ _ r h => by simp [laws_FnLockEnds.l0] at h⟩
|k + 1 => by
  obtain ⟨ih0, ih1, ih2, ih3, ih4, ih5⟩ := laws_FnLockEnds.mono_l k
  refine ⟨?_, ?_, ?_, ?_, ?_, ?_⟩
  ·intro y0 y1 y2
   unfold laws_FnLockEnds.j0
   repeat' first
  |(with_reducible exact ih0 _ _ _)
  |(with_reducible exact ih1 _ _ _ _ _ _ _ _ _ _ _)
  |(with_reducible exact ih2 _ _ _ _ _)
  |(with_reducible exact ih3 _ _ _ _ _ _)
  |(with_reducible exact ih4 _ _ _ _ _)
  |(with_reducible exact ih5 _ _ _ _ _ _ _)
  |(with_reducible exact impl_LockNew.mono _ _ _)
  |(with_reducible exact impl_LockRun.mono _ _ _ _ _)
  |(with_reducible exact laws_qdLock.mono _ _ _ _ _ _ _)
  |(with_reducible exact spec_DrawLockNew.mono _ _)
  |(with_reducible exact spec_LockNew.mono _ _ _)
  |(with_reducible exact LeO.refl _)
  |(with_reducible exact LeO.none _)
  |(with_reducible refine LeO.ite ?_ ?_)
  |(with_reducible refine LeO.bind ?_ (fun _ => ?_))
  |exact ih0 _ _ _
  |exact ih1 _ _ _ _ _ _ _ _ _ _ _
  |exact ih2 _ _ _ _ _
  |exact ih3 _ _ _ _ _ _
  |exact ih4 _ _ _ _ _
  |exact ih5 _ _ _ _ _ _ _
  |exact impl_LockNew.mono _ _ _
  |exact impl_LockRun.mono _ _ _ _ _
  |exact laws_qdLock.mono _ _ _ _ _ _ _
  |exact spec_DrawLockNew.mono _ _
  |exact spec_LockNew.mono _ _ _
  |exact LeO.none _
  |refine LeO.ite ?_ ?_
  |refine LeO.bind ?_ (fun _ => ?_)
  ·intro y0 y1 y2 y3 y4 y5 y6 y7 y8 y9 y10
   unfold laws_FnLockEnds.j1
   repeat' first
  |(with_reducible exact ih0 _ _ _)
  |(with_reducible exact ih1 _ _ _ _ _ _ _ _ _ _ _)
  |(with_reducible exact ih2 _ _ _ _ _)
  |(with_reducible exact ih3 _ _ _ _ _ _)
  |(with_reducible exact ih4 _ _ _ _ _)
  |(with_reducible exact ih5 _ _ _ _ _ _ _)
  |(with_reducible exact impl_LockNew.mono _ _ _)
  |(with_reducible exact impl_LockRun.mono _ _ _ _ _)
  |(with_reducible exact laws_qdLock.mono _ _ _ _ _ _ _)
  |(with_reducible exact spec_DrawLockNew.mono _ _)
  |(with_reducible exact spec_LockNew.mono _ _ _)
  |(with_reducible exact LeO.refl _)
  |(with_reducible exact LeO.none _)
  |(with_reducible refine LeO.ite ?_ ?_)
  |(with_reducible refine LeO.bind ?_ (fun _ => ?_))
  |exact ih0 _ _ _
  |exact ih1 _ _ _ _ _ _ _ _ _ _ _
  |exact ih2 _ _ _ _ _
  |exact ih3 _ _ _ _ _ _
  |exact ih4 _ _ _ _ _
  |exact ih5 _ _ _ _ _ _ _
  |exact impl_LockNew.mono _ _ _
  |exact impl_LockRun.mono _ _ _ _ _
  |exact laws_qdLock.mono _ _ _ _ _ _ _
  |exact spec_DrawLockNew.mono _ _
  |exact spec_LockNew.mono _ _ _
  |exact LeO.none _
  |refine LeO.ite ?_ ?_
  |refine LeO.bind ?_ (fun _ => ?_)
  ·intro y0 y1 y2 y3 y4
   unfold laws_FnLockEnds.j3
   repeat' first
  |(with_reducible exact ih0 _ _ _)
  |(with_reducible exact ih1 _ _ _ _ _ _ _ _ _ _ _)
  |(with_reducible exact ih2 _ _ _ _ _)
  |(with_reducible exact ih3 _ _ _ _ _ _)
  |(with_reducible exact ih4 _ _ _ _ _)
  |(with_reducible exact ih5 _ _ _ _ _ _ _)
  |(with_reducible exact impl_LockNew.mono _ _ _)
  |(with_reducible exact impl_LockRun.mono _ _ _ _ _)
  |(with_reducible exact laws_qdLock.mono _ _ _ _ _ _ _)
  |(with_reducible exact spec_DrawLockNew.mono _ _)
  |(with_reducible exact spec_LockNew.mono _ _ _)
  |(with_reducible exact LeO.refl _)
  |(with_reducible exact LeO.none _)
  |(with_reducible refine LeO.ite ?_ ?_)
  |(with_reducible refine LeO.bind ?_ (fun _ => ?_))
  |exact ih0 _ _ _
  |exact ih1 _ _ _ _ _ _ _ _ _ _ _
  |exact ih2 _ _ _ _ _
  |exact ih3 _ _ _ _ _ _
  |exact ih4 _ _ _ _ _
  |exact ih5 _ _ _ _ _ _ _
  |exact impl_LockNew.mono _ _ _
  |exact impl_LockRun.mono _ _ _ _ _
  |exact laws_qdLock.mono _ _ _ _ _ _ _
  |exact spec_DrawLockNew.mono _ _
  |exact spec_LockNew.mono _ _ _
  |exact LeO.none _
  |refine LeO.ite ?_ ?_
  |refine LeO.bind ?_ (fun _ => ?_)
  ·intro y0 y1 y2 y3 y4 y5
   unfold laws_FnLockEnds.l1
   repeat' first
  |(with_reducible exact ih0 _ _ _)
  |(with_reducible exact ih1 _ _ _ _ _ _ _ _ _ _ _)
  |(with_reducible exact ih2 _ _ _ _ _)
  |(with_reducible exact ih3 _ _ _ _ _ _)
  |(with_reducible exact ih4 _ _ _ _ _)
  |(with_reducible exact ih5 _ _ _ _ _ _ _)
  |(with_reducible exact impl_LockNew.mono _ _ _)
  |(with_reducible exact impl_LockRun.mono _ _ _ _ _)
  |(with_reducible exact laws_qdLock.mono _ _ _ _ _ _ _)
  |(with_reducible exact spec_DrawLockNew.mono _ _)
  |(with_reducible exact spec_LockNew.mono _ _ _)
  |(with_reducible exact LeO.refl _)
  |(with_reducible exact LeO.none _)
  |(with_reducible refine LeO.ite ?_ ?_)
  |(with_reducible refine LeO.bind ?_ (fun _ => ?_))
  |exact ih0 _ _ _
  |exact ih1 _ _ _ _ _ _ _ _ _ _ _
  |exact ih2 _ _ _ _ _
  |exact ih3 _ _ _ _ _ _
  |exact ih4 _ _ _ _ _
  |exact ih5 _ _ _ _ _ _ _
  |exact impl_LockNew.mono _ _ _
  |exact impl_LockRun.mono _ _ _ _ _
  |exact laws_qdLock.mono _ _ _ _ _ _ _
  |exact spec_DrawLockNew.mono _ _
  |exact spec_LockNew.mono _ _ _
  |exact LeO.none _
  |refine LeO.ite ?_ ?_
  |refine LeO.bind ?_ (fun _ => ?_)
  ·intro y0 y1 y2 y3 y4
   unfold laws_FnLockEnds.l2
   repeat' first
  |(with_reducible exact ih0 _ _ _)
  |(with_reducible exact ih1 _ _ _ _ _ _ _ _ _ _ _)
  |(with_reducible exact ih2 _ _ _ _ _)
  |(with_reducible exact ih3 _ _ _ _ _ _)
  |(with_reducible exact ih4 _ _ _ _ _)
  |(with_reducible exact ih5 _ _ _ _ _ _ _)
  |(with_reducible exact impl_LockNew.mono _ _ _)
  |(with_reducible exact impl_LockRun.mono _ _ _ _ _)
  |(with_reducible exact laws_qdLock.mono _ _ _ _ _ _ _)
  |(with_reducible exact spec_DrawLockNew.mono _ _)
  |(with_reducible exact spec_LockNew.mono _ _ _)
  |(with_reducible exact LeO.refl _)
  |(with_reducible exact LeO.none _)
  |(with_reducible refine LeO.ite ?_ ?_)
  |(with_reducible refine LeO.bind ?_ (fun _ => ?_))
  |exact ih0 _ _ _
  |exact ih1 _ _ _ _ _ _ _ _ _ _ _
  |exact ih2 _ _ _ _ _
  |exact ih3 _ _ _ _ _ _
  |exact ih4 _ _ _ _ _
  |exact ih5 _ _ _ _ _ _ _
  |exact impl_LockNew.mono _ _ _
  |exact impl_LockRun.mono _ _ _ _ _
  |exact laws_qdLock.mono _ _ _ _ _ _ _
  |exact spec_DrawLockNew.mono _ _
  |exact spec_LockNew.mono _ _ _
  |exact LeO.none _
  |refine LeO.ite ?_ ?_
  |refine LeO.bind ?_ (fun _ => ?_)
  ·intro y0 y1 y2 y3 y4 y5 y6
   unfold laws_FnLockEnds.l0
   repeat' first
  |(with_reducible exact ih0 _ _ _)
  |(with_reducible exact ih1 _ _ _ _ _ _ _ _ _ _ _)
  |(with_reducible exact ih2 _ _ _ _ _)
  |(with_reducible exact ih3 _ _ _ _ _ _)
  |(with_reducible exact ih4 _ _ _ _ _)
  |(with_reducible exact ih5 _ _ _ _ _ _ _)
  |(with_reducible exact impl_LockNew.mono _ _ _)
  |(with_reducible exact impl_LockRun.mono _ _ _ _ _)
  |(with_reducible exact laws_qdLock.mono _ _ _ _ _ _ _)
  |(with_reducible exact spec_DrawLockNew.mono _ _)
  |(with_reducible exact spec_LockNew.mono _ _ _)
  |(with_reducible exact LeO.refl _)
  |(with_reducible exact LeO.none _)
  |(with_reducible refine LeO.ite ?_ ?_)
  |(with_reducible refine LeO.bind ?_ (fun _ => ?_))
  |exact ih0 _ _ _
  |exact ih1 _ _ _ _ _ _ _ _ _ _ _
  |exact ih2 _ _ _ _ _
  |exact ih3 _ _ _ _ _ _
  |exact ih4 _ _ _ _ _
  |exact ih5 _ _ _ _ _ _ _
  |exact impl_LockNew.mono _ _ _
  |exact impl_LockRun.mono _ _ _ _ _
  |exact laws_qdLock.mono _ _ _ _ _ _ _
  |exact spec_DrawLockNew.mono _ _
  |exact spec_LockNew.mono _ _ _
  |exact LeO.none _
  |refine LeO.ite ?_ ?_
  |refine LeO.bind ?_ (fun _ => ?_)
theorem laws_FnLockEnds.mono : ∀ a0 a1 k, LeO (laws_FnLockEnds.f k a0 a1) (laws_FnLockEnds.f (k + 1) a0 a1) := by
 intro a0 a1 k
 obtain ⟨ih0, ih1, ih2, ih3, ih4, ih5⟩ := laws_FnLockEnds.mono_l k
 unfold laws_FnLockEnds.f
 repeat' first
  |(with_reducible exact ih0 _ _ _)
  |(with_reducible exact ih1 _ _ _ _ _ _ _ _ _ _ _)
  |(with_reducible exact ih2 _ _ _ _ _)
  |(with_reducible exact ih3 _ _ _ _ _ _)
  |(with_reducible exact ih4 _ _ _ _ _)
  |(with_reducible exact ih5 _ _ _ _ _ _ _)
  |(with_reducible exact impl_LockNew.mono _ _ _)
  |(with_reducible exact impl_LockRun.mono _ _ _ _ _)
  |(with_reducible exact laws_qdLock.mono _ _ _ _ _ _ _)
  |(with_reducible exact spec_DrawLockNew.mono _ _)
  |(with_reducible exact spec_LockNew.mono _ _ _)
  |(with_reducible exact LeO.refl _)
  |(with_reducible exact LeO.none _)
  |(with_reducible refine LeO.ite ?_ ?_)
  |(with_reducible refine LeO.bind ?_ (fun _ => ?_))
  |exact ih0 _ _ _
  |exact ih1 _ _ _ _ _ _ _ _ _ _ _
  |exact ih2 _ _ _ _ _
  |exact ih3 _ _ _ _ _ _
  |exact ih4 _ _ _ _ _
  |exact ih5 _ _ _ _ _ _ _
  |exact impl_LockNew.mono _ _ _
  |exact impl_LockRun.mono _ _ _ _ _
  |exact laws_qdLock.mono _ _ _ _ _ _ _
  |exact spec_DrawLockNew.mono _ _
  |exact spec_LockNew.mono _ _ _
  |exact LeO.none _
  |refine LeO.ite ?_ ?_
  |refine LeO.bind ?_ (fun _ => ?_)
set_option maxHeartbeats 2000000 in
set_option maxRecDepth 100000 in
theorem laws_FnLockEnds.calls (k:Nat) (A0:Option Addr) (c0:Nat) (l0:List Int) (A1:Option Addr) (c1:Nat) (l1:List Int) (r:Bool) (w:World) (hr0:Kd.C (Kd.int .u8) w A0 l0.length l0) (hc0:l0.length≤c0) (hr1:Kd.C (Kd.int .u8) w A1 l1.length l1) (hc1:l1.length≤c1) (h:laws_FnLockEnds.f k l0 l1=some r) (hT_:Aside0 (r=true)) :
  Calls Try.prog 9 #[.slice A0 l0.length c0,.slice A1 l1.length c1] w fun e w'=>e=.returned (.bool r)∧Below w.heap.size w w':=by
 have hu51:=Try.underlying51
 have HR0:=Am hr0
 have HC0:=Am hc0
 clear hr0 hc0
 have HR1:=Am hr1
 have HC1:=Am hc1
 clear hr1 hc1
 have HB:=Am (bJ w.heap.size w)
 have H:(if (l0.length:Int) > 1048576 then (laws_FnLockEnds.j0 k l0 l1 true) else (laws_FnLockEnds.j0 k l0 l1 (decide ((l1.length:Int) > 1048576))))=some r:=h
 clear h
 have HC3:=Am H
 clear H
 go_enter Try.func9,Try.ntmps9
 go_upto_region 1 with (fail)
 go_cut [24] (fun v24 wc=>∃ (kq:Nat) (x24_2:Bool),v24=.bool x24_2∧Aside0 (laws_FnLockEnds.j0 kq l0 l1 x24_2=some r)∧Aside0 (kq≤k)∧Aside0 (Below w.heap.size w wc))
 case first =>
  have H:=HC3.out
  clear HC3
  by_cases c4:(l0.length:Int) > 1048576
  ·rw [if_pos c4] at H
   have c4b0:decide (1048576<(l0.length:Int))=true:=dT c4
   have c4b1:decide (1048576<l0.length)=true:=dT (by omega)
   clear c4
   (first|rw [c4b0]|(simp only [i64_w,i32_w];rw [c4b0])|skip)
   have H':=Am H
   clear H
   go_wp2
   go_meet
   case rel=>exact ⟨_,(true),(by first|rfl|(simp;done)|(simp [*];done)),H',⟨by first|omega|exact nR _⟩,⟨by repeat (first|(with_reducible first|exact HB.out|apply oA|apply pN|apply o1)|exact HB.out)⟩⟩
  rw [if_neg c4] at H
  have c4b0:decide (1048576<(l0.length:Int))=false:=dF c4
  have c4b1:decide (1048576<l0.length)=false:=dF (by omega)
  clear c4
  (first|rw [c4b0]|(simp only [i64_w,i32_w];rw [c4b0])|skip)
  have H':=Am H
  clear H
  go_wp2
  go_meet
  case rel=>exact ⟨_,(decide ((l1.length:Int) > 1048576)),(by first|rfl|(simp;done)|(simp [*];done)),H',⟨by first|omega|exact nR _⟩,⟨by repeat (first|(with_reducible first|exact HB.out|apply oA|apply pN|apply o1)|exact HB.out)⟩⟩
 case rest =>
  clear HC3
  try clear c1
  try clear p2
  try clear c4
  try clear c4b0
  try clear c4b1
  obtain ⟨kq,x24_2,rfl,HA,B5,HB⟩:=hcut
  cases kq with
 |zero=>exact absurd HA.out (by simp [laws_FnLockEnds.j0])
 |succ kj2 =>
   have H:=HA.out
   clear HA
   simp only [laws_FnLockEnds.j0] at H
   by_cases c5:x24_2=true
   ·subst c5
    have H1:(some true)=some r:=by rw [if_pos rfl] at H;exact H
    clear H
    have H:=H1
    clear H1
    obtain rfl:=oJ H
    go_wp2
    go_ret
    exact ⟨by first|rfl|(simp [errW_none,errW_some] <;> rfl)|(simp [*,errW_none,errW_some] <;> rfl),by repeat (first|(with_reducible first|exact HB.out|apply oA|apply pN|apply o1)|exact HB.out)⟩
   replace c5:=Bool.eq_false_iff.mpr c5
   subst c5
   have H1:((spec_DrawLockNew.f kj2 l0).bind fun bt242=>((impl_LockNew.f kj2 bt242.1 bt242.2).bind fun bt244=>((spec_LockNew.f kj2 bt242.1 bt242.2).bind fun bt253=>(if (bt244.2.2.2 != bt253.2.2.2)=true then (laws_FnLockEnds.j1 kj2 l1 bt242.1 bt244.2.2.2 bt253.2.2.2 true bt244.1 bt244.2.1 bt244.2.2.1 bt253.1 bt253.2.1 bt253.2.2.1) else ((laws_qdLock.f kj2 bt244.1 bt244.2.1 bt244.2.2.1 bt253.1 bt253.2.1 bt253.2.2.1).bind fun t262=>(if t262=true then (laws_FnLockEnds.j1 kj2 l1 bt242.1 bt244.2.2.2 bt253.2.2.2 (!bt244.2.2.2) bt244.1 bt244.2.1 bt244.2.2.1 bt253.1 bt253.2.1 bt253.2.2.1) else (laws_FnLockEnds.j1 kj2 l1 bt242.1 bt244.2.2.2 bt253.2.2.2 true bt244.1 bt244.2.1 bt244.2.2.1 bt253.1 bt253.2.1 bt253.2.2.1)))))))=some r:=by rw [if_neg (show ¬ (false=true) by decide)] at H;exact H
   clear H
   have H:=H1
   clear H1
   replace H:=oC H
   obtain ⟨⟨t242,t243⟩,A60,H⟩:=H
   replace H:((impl_LockNew.f kj2 t242 t243).bind fun bt244=>((spec_LockNew.f kj2 t242 t243).bind fun bt253=>(if (bt244.2.2.2 != bt253.2.2.2)=true then (laws_FnLockEnds.j1 kj2 l1 t242 bt244.2.2.2 bt253.2.2.2 true bt244.1 bt244.2.1 bt244.2.2.1 bt253.1 bt253.2.1 bt253.2.2.1) else ((laws_qdLock.f kj2 bt244.1 bt244.2.1 bt244.2.2.1 bt253.1 bt253.2.1 bt253.2.2.1).bind fun t262=>(if t262=true then (laws_FnLockEnds.j1 kj2 l1 t242 bt244.2.2.2 bt253.2.2.2 (!bt244.2.2.2) bt244.1 bt244.2.1 bt244.2.2.1 bt253.1 bt253.2.1 bt253.2.2.1) else (laws_FnLockEnds.j1 kj2 l1 t242 bt244.2.2.2 bt253.2.2.2 true bt244.1 bt244.2.1 bt244.2.2.1 bt253.1 bt253.2.1 bt253.2.2.1))))))=some r:=H
   have A6:=Am A60
   clear A60
   replace H:=oC H
   obtain ⟨⟨t244,t245,t248,t251⟩,A70,H⟩:=H
   replace H:((spec_LockNew.f kj2 t242 t243).bind fun bt253=>(if (t251 != bt253.2.2.2)=true then (laws_FnLockEnds.j1 kj2 l1 t242 t251 bt253.2.2.2 true t244 t245 t248 bt253.1 bt253.2.1 bt253.2.2.1) else ((laws_qdLock.f kj2 t244 t245 t248 bt253.1 bt253.2.1 bt253.2.2.1).bind fun t262=>(if t262=true then (laws_FnLockEnds.j1 kj2 l1 t242 t251 bt253.2.2.2 (!t251) t244 t245 t248 bt253.1 bt253.2.1 bt253.2.2.1) else (laws_FnLockEnds.j1 kj2 l1 t242 t251 bt253.2.2.2 true t244 t245 t248 bt253.1 bt253.2.1 bt253.2.2.1)))))=some r:=H
   have A7:=Am A70
   clear A70
   replace H:=oC H
   obtain ⟨⟨t253,t254,t257,t260⟩,A80,H⟩:=H
   replace H:(if (t251 != t260)=true then (laws_FnLockEnds.j1 kj2 l1 t242 t251 t260 true t244 t245 t248 t253 t254 t257) else ((laws_qdLock.f kj2 t244 t245 t248 t253 t254 t257).bind fun t262=>(if t262=true then (laws_FnLockEnds.j1 kj2 l1 t242 t251 t260 (!t251) t244 t245 t248 t253 t254 t257) else (laws_FnLockEnds.j1 kj2 l1 t242 t251 t260 true t244 t245 t248 t253 t254 t257))))=some r:=H
   have A8:=Am A80
   clear A80
   have HC9:=Am H
   clear H
   go_upto_region 6 with (first|((with_reducible refine gC (f:=32) rfl ?_);refine goesL_ (some 27) rfl rfl Try.func32 (by kernel_rfl) rfl #[.slice A0 l0.length c0] rfl (by (try simp only [lM,lC,lN]);first|done|rfl|(simp only [lD,lT];rfl)) ?_;(with_reducible refine (spec_DrawLockNew.calls kj2 _ _ l0 t242 t243 _ ?side1 ?side2 A6.out).mono ?_);(case side1=>exact cL (cB HR0.out HB.out));(case side2=>exact HC0.out);rintro e w10 ⟨rfl,hb⟩;refine ⟨_,rfl,?_⟩;have n0_:=Am (bP (by repeat (first|(with_reducible first|exact HB.out|apply oA|apply pN|apply o1)|exact HB.out)) hb);clear HB;revert n0_;intro HB;(try clear hb);(try clear hb2);(try clear hk);(try clear hi))|((with_reducible refine gC (f:=33) rfl ?_);refine goesL_ (some 33) rfl rfl Try.func33 (by kernel_rfl) rfl #[.int .i64 t242,.int .i64 t243] rfl (by (try simp only [lM,lC,lN]);first|done|rfl|(simp only [lD,lT];rfl)) ?_;(with_reducible refine (impl_LockNew.calls kj2 t242 t243 t244 t245 t248 t251 _ A7.out).mono ?_);rintro e w11 ⟨v246,v249,rfl,ho0,ho1,hb⟩;refine ⟨_,rfl,?_⟩;have n0_:=Am (rW ho0 (bZ (by repeat (first|(with_reducible first|exact HB.out|apply oA|apply pN|apply o1)|exact HB.out))));have n1_:=Am (rW ho1 (bZ (by repeat (first|(with_reducible first|exact HB.out|apply oA|apply pN|apply o1)|exact HB.out))));have n2_:=Am (bP (by repeat (first|(with_reducible first|exact HB.out|apply oA|apply pN|apply o1)|exact HB.out)) hb);clear HB;revert n0_ n1_ n2_;intro Bn Bo HB;(try clear hb);(try clear hb2);(try clear hk);(try clear hi);(try clear ho0);(try clear ho1))|((with_reducible refine gD (N:=7) rfl ?_);(try (refine gate_guard (by rfl) ?_;dsimp only));refine bI ?hg (N:=7) ?hd (cs:=#[.int .i64 0,.slice none 0 0,.slice none 0 0]) (t:=51) ?hr ?_;(case hd=>rfl);(case hg=>rfl);(case hr=>first|(go_simp;done)|(go_simp;rfl));intro Bh hg w12 hbox hb;have n0_:=Am (rB (rL Bn.out) hb);have n1_:=Am (rB (rL Bo.out) hb);have n2_:=Am (bP (by repeat (first|(with_reducible first|exact HB.out|apply oA|apply pN|apply o1)|exact HB.out)) hb);have n3_:=Am (hbox);have n4_:=Am ((by rw [hg];exact (bZ (by repeat (first|(with_reducible first|exact HB.out|apply oA|apply pN|apply o1)|exact HB.out))):w.heap.size≤Bh));have n5_:=Am ((by rw [hg];exact (bZ (by repeat (first|(with_reducible first|exact HB.out|apply oA|apply pN|apply o1)|exact HB.out))):w.heap.size≤Bh));clear Bn Bo HB;revert n0_ n1_ n2_ n3_ n4_ n5_;intro Bn Bo HB Bc DS Bi;clear hb hbox hg;have Bv:=cz0 Bc.out;have Bw:=cz1 Bc.out;have Bx:=cz2 Bc.out;have By:=bF Bc.out 0;have Bz:=bF Bc.out 1;have BA:=bF Bc.out 2;obtain ⟨Ao14,co14,eo14⟩:=rC Bn.out;subst eo14;obtain ⟨Ao15,co15,eo15⟩:=rC Bo.out;subst eo15)|((with_reducible refine gC (f:=34) rfl ?_);refine goesL_ (some 39) rfl rfl Try.func34 (by kernel_rfl) rfl #[.int .i64 t242,.int .i64 t243] rfl (by (try simp only [lM,lC,lN]);first|done|rfl|(simp only [lD,lT];rfl)) ?_;(with_reducible refine (spec_LockNew.calls kj2 t242 t243 t253 t254 t257 t260 _ A8.out).mono ?_);rintro e w16 ⟨v255,v258,rfl,ho0,ho1,hb⟩;refine ⟨_,rfl,?_⟩;have n0_:=Am (rX (by (with_reducible repeat (first|apply rA|apply rN|apply rD));exact (rM (rF (p:=⟨Bh,2,none⟩) (rF (p:=⟨Bh,1,none⟩) (rF (p:=⟨Bh,0,none⟩) (rT Bn.out Bc.out (by decide)) (fun _ hk=>hk.2) (.int .i64 t244)) (fun _ hk=>hk.2) (.slice Ao14 t245.length co14)) (fun _ hk=>hk.2) (.slice Ao15 t248.length co15)) (fun _ h_=>h_.1))) (rZ ho0) hb);have n1_:=Am (rX (by (with_reducible repeat (first|apply rA|apply rN|apply rD));exact (rM (rF (p:=⟨Bh,2,none⟩) (rF (p:=⟨Bh,1,none⟩) (rF (p:=⟨Bh,0,none⟩) (rT Bo.out Bc.out (by decide)) (fun _ hk=>hk.2) (.int .i64 t244)) (fun _ hk=>hk.2) (.slice Ao14 t245.length co14)) (fun _ hk=>hk.2) (.slice Ao15 t248.length co15)) (fun _ h_=>h_.1))) (rZ ho1) hb);have n2_:=Am (rW (rQ ho0 (rI (by (with_reducible repeat (first|apply rA|apply rN|apply rD));exact (rM (rF (p:=⟨Bh,2,none⟩) (rF (p:=⟨Bh,1,none⟩) (rF (p:=⟨Bh,0,none⟩) (rT Bn.out Bc.out (by decide)) (fun _ hk=>hk.2) (.int .i64 t244)) (fun _ hk=>hk.2) (.slice Ao14 t245.length co14)) (fun _ hk=>hk.2) (.slice Ao15 t248.length co15)) (fun _ h_=>h_.1))))) (bZ (by repeat (first|(with_reducible first|exact HB.out|apply oA|apply pN|apply o1|refine bS ?_ Bi.out)|exact HB.out))));have n3_:=Am (rW (rQ ho1 (rI (by (with_reducible repeat (first|apply rA|apply rN|apply rD));exact (rM (rF (p:=⟨Bh,2,none⟩) (rF (p:=⟨Bh,1,none⟩) (rF (p:=⟨Bh,0,none⟩) (rT Bo.out Bc.out (by decide)) (fun _ hk=>hk.2) (.int .i64 t244)) (fun _ hk=>hk.2) (.slice Ao14 t245.length co14)) (fun _ hk=>hk.2) (.slice Ao15 t248.length co15)) (fun _ h_=>h_.1))))) (bZ (by repeat (first|(with_reducible first|exact HB.out|apply oA|apply pN|apply o1|refine bS ?_ Bi.out)|exact HB.out))));have n4_:=Am (bB (g:=Bh) (o:=.cells #[.int .i64 t244,.slice Ao14 t245.length co14,.slice Ao15 t248.length co15] 51 (0,0)) (by (with_reducible repeat (first|refine bN ?_ _|refine bD ?_|refine bA ?_ _));refine bT (cs:=#[.int .i64 t244,.slice Ao14 t245.length co14,.slice none 0 0]) ?_ 2 _ rfl;(with_reducible repeat (first|refine bN ?_ _|refine bD ?_|refine bA ?_ _));refine bT (cs:=#[.int .i64 t244,.slice none 0 0,.slice none 0 0]) ?_ 1 _ rfl;(with_reducible repeat (first|refine bN ?_ _|refine bD ?_|refine bA ?_ _));refine bT (cs:=#[.int .i64 0,.slice none 0 0,.slice none 0 0]) ?_ 0 _ rfl;(with_reducible repeat (first|refine bN ?_ _|refine bD ?_|refine bA ?_ _));exact Bc.out) hb);have n5_:=Am (bP (by repeat (first|(with_reducible first|exact HB.out|apply oA|apply pN|apply o1|refine bS ?_ Bi.out)|exact HB.out)) hb);clear Bn Bo Bc HB;revert n0_ n1_ n2_ n3_ n4_ n5_;intro Bn Bo Bp Bq Bc HB;(try clear hb);(try clear hb2);(try clear hk);(try clear hi);(try clear ho0);(try clear ho1))|((with_reducible refine gD (N:=9) rfl ?_);(try (refine gate_guard (by rfl) ?_;dsimp only));refine bI ?hg (N:=9) ?hd (cs:=#[.int .i64 0,.slice none 0 0,.slice none 0 0]) (t:=51) ?hr ?_;(case hd=>rfl);(case hg=>rfl);(case hr=>first|(go_simp;done)|(go_simp;rfl));intro Ba hg w17 hbox hb;have n0_:=Am (rB (rL Bn.out) hb);have n1_:=Am (rB (rL Bo.out) hb);have n2_:=Am (rB (rL Bp.out) hb);have n3_:=Am (rB (rL Bq.out) hb);have n4_:=Am (bX Bc.out hb);have n5_:=Am (bP (by repeat (first|(with_reducible first|exact HB.out|apply oA|apply pN|apply o1|refine bS ?_ Bi.out)|exact HB.out)) hb);have n6_:=Am (hbox);have n7_:=Am ((by rw [hg];exact (bZ (by repeat (first|(with_reducible first|exact HB.out|apply oA|apply pN|apply o1|refine bS ?_ Bi.out)|exact HB.out))):w.heap.size≤Ba));have n8_:=Am ((by rw [hg];exact (bZ (by repeat (first|(with_reducible first|exact HB.out|apply oA|apply pN|apply o1|refine bS ?_ Bi.out)|exact HB.out))):w.heap.size≤Ba));have n9_:=Am ((nL Bc.out hg));have n10_:=Am ((nG Bc.out hg));clear Bn Bo Bp Bq Bc HB;revert n0_ n1_ n2_ n3_ n4_ n5_ n6_ n7_ n8_ n9_ n10_;intro Bn Bo Bp Bq Bc HB Bb DT Bk Br Bs;clear hb hbox hg;have DU:=Bs.out;have DV:=Br.out;have BB:=cz0 Bb.out;have BC:=cz1 Bb.out;have BD:=cz2 Bb.out;have BE:=bF Bb.out 0;have BF:=bF Bb.out 1;have BG:=bF Bb.out 2;obtain ⟨Ao20,co20,eo20⟩:=rC Bp.out;subst eo20;obtain ⟨Ao21,co21,eo21⟩:=rC Bq.out;subst eo21))
   (try simp only [Act.put,lA,lZ,lS])
   go_cut [54] (fun v54 wc=>∃ (kq:Nat) (x54_8:Bool),v54=.bool x54_8∧Aside0 (laws_FnLockEnds.j1 kq l1 t242 t251 t260 x54_8 t244 t245 t248 t253 t254 t257=some r)∧Aside0 (kq≤kj2)∧Aside0 (Kd.R k57 57 wc w.heap.size (fun k_=>some k_≠((.slice Ao20 t254.length co20):Value).ownBlock) (.slice Ao14 t245.length co14) t245)∧Aside0 (Kd.Q (Kd.int .i64) 3 wc w.heap.size (fun k_=>some k_≠((.slice Ao21 t257.length co21):Value).ownBlock) (.slice Ao15 t248.length co15) t248)∧Aside0 (Kd.R k57 57 wc w.heap.size (fun k_=>some k_≠((.slice Ao14 t245.length co14):Value).ownBlock) (.slice Ao20 t254.length co20) t254)∧Aside0 (Kd.Q (Kd.int .i64) 3 wc w.heap.size (fun k_=>some k_≠((.slice Ao15 t248.length co15):Value).ownBlock) (.slice Ao21 t257.length co21) t257)∧Aside0 (wc.heap[Bh]?=some (.cells #[.int .i64 t244,(.slice Ao14 t245.length co14),(.slice Ao15 t248.length co15)] 51 (0,0)))∧Aside0 (wc.heap[Ba]?=some (.cells #[.int .i64 t253,(.slice Ao20 t254.length co20),(.slice Ao21 t257.length co21)] 51 (0,0)))∧Aside0 (Below w.heap.size w wc))
   case first =>
    have H:=HC9.out
    clear HC9
    by_cases c22:(t251 != t260)=true
    ·rw [if_pos c22] at H
     have c22b0:(t251 != t260)=true:=c22
     (try (have c22b1:decide (t251=t260)=false:=by simpa using c22))
     (try (have c22b2:(t251 == t260)=false:=by simpa using c22))
     (try (have c22b3:¬ (t251=t260):=by simpa using c22))
     clear c22
     (first|rw [c22b0]|(simp only [i64_w,i32_w];rw [c22b0])|skip)
     have H':=Am H
     clear H
     go_wp2
     go_meet
     case rel=>exact ⟨_,(true),(by first|rfl|(simp;done)|(simp [*];done)),H',⟨by have:=B5.out;first|omega|exact nR _⟩,⟨by (with_reducible repeat (first|apply rA|apply rN|apply rD));exact rM (rF (p:=⟨Ba,2,none⟩) (rF (p:=⟨Ba,1,none⟩) (rF (p:=⟨Ba,0,none⟩) (rT Bn.out Bb.out (by decide)) (fun _ hk=>hk.2) (.int .i64 t253)) (fun _ hk=>hk.2) (.slice Ao20 t254.length co20)) (fun _ hk=>hk.2) (.slice Ao21 t257.length co21)) (fun _ hk=>hk.1.2)⟩,⟨Kd.Q_of_R (by (with_reducible repeat (first|apply rA|apply rN|apply rD));exact rM (rF (p:=⟨Ba,2,none⟩) (rF (p:=⟨Ba,1,none⟩) (rF (p:=⟨Ba,0,none⟩) (rT Bo.out Bb.out (by decide)) (fun _ hk=>hk.2) (.int .i64 t253)) (fun _ hk=>hk.2) (.slice Ao20 t254.length co20)) (fun _ hk=>hk.2) (.slice Ao21 t257.length co21)) (fun _ hk=>hk.1.2))⟩,⟨by (with_reducible repeat (first|apply rA|apply rN|apply rD));exact rM (rF (p:=⟨Ba,2,none⟩) (rF (p:=⟨Ba,1,none⟩) (rF (p:=⟨Ba,0,none⟩) (rT Bp.out Bb.out (by decide)) (fun _ hk=>hk.2) (.int .i64 t253)) (fun _ hk=>hk.2) (.slice Ao20 t254.length co20)) (fun _ hk=>hk.2) (.slice Ao21 t257.length co21)) (fun _ hk=>hk.1.2)⟩,⟨Kd.Q_of_R (by (with_reducible repeat (first|apply rA|apply rN|apply rD));exact rM (rF (p:=⟨Ba,2,none⟩) (rF (p:=⟨Ba,1,none⟩) (rF (p:=⟨Ba,0,none⟩) (rT Bq.out Bb.out (by decide)) (fun _ hk=>hk.2) (.int .i64 t253)) (fun _ hk=>hk.2) (.slice Ao20 t254.length co20)) (fun _ hk=>hk.2) (.slice Ao21 t257.length co21)) (fun _ hk=>hk.1.2))⟩,⟨by (with_reducible repeat (first|refine bN ?_ _|refine bD ?_|refine bA ?_ _|refine bE ?_ Br.out _));exact Bc.out⟩,⟨by (with_reducible repeat (first|refine bN ?_ _|refine bD ?_|refine bA ?_ _));refine bT (cs:=#[.int .i64 t253,.slice Ao20 t254.length co20,.slice none 0 0]) ?_ 2 _ rfl;(with_reducible repeat (first|refine bN ?_ _|refine bD ?_|refine bA ?_ _));refine bT (cs:=#[.int .i64 t253,.slice none 0 0,.slice none 0 0]) ?_ 1 _ rfl;(with_reducible repeat (first|refine bN ?_ _|refine bD ?_|refine bA ?_ _));refine bT (cs:=#[.int .i64 0,.slice none 0 0,.slice none 0 0]) ?_ 0 _ rfl;(with_reducible repeat (first|refine bN ?_ _|refine bD ?_|refine bA ?_ _));exact Bb.out⟩,⟨by repeat (first|(with_reducible first|exact HB.out|apply oA|apply pN|apply o1|refine bS ?_ Bi.out|refine bS ?_ Bk.out)|exact HB.out)⟩⟩
    rw [if_neg c22] at H
    have c22b0:(t251 != t260)=false:=by simpa using c22
    (try (have c22b1:decide (t251=t260)=true:=by simpa using c22))
    (try (have c22b2:(t251 == t260)=true:=by simpa using c22))
    clear c22
    (first|rw [c22b0]|(simp only [i64_w,i32_w];rw [c22b0])|skip)
    replace H:=oC H
    obtain ⟨t262,A230,H⟩:=H
    replace H:(if t262=true then (laws_FnLockEnds.j1 kj2 l1 t242 t251 t260 (!t251) t244 t245 t248 t253 t254 t257) else (laws_FnLockEnds.j1 kj2 l1 t242 t251 t260 true t244 t245 t248 t253 t254 t257))=some r:=H
    have A23:=Am A230
    clear A230
    by_cases c24:t262=true
    ·subst c24
     have H1:(laws_FnLockEnds.j1 kj2 l1 t242 t251 t260 (!t251) t244 t245 t248 t253 t254 t257)=some r:=by rw [if_pos rfl] at H;exact H
     clear H
     have H:=H1
     clear H1
     have H':=Am H
     clear H
     have DW:=Br.out
     have DX:=Bs.out
     have BH:=cz0 Bc.out
     have BI:=cz1 Bc.out
     have BJ:=cz2 Bc.out
     have BK:=bF Bc.out 0
     have BL:=bF Bc.out 1
     have BM:=bF Bc.out 2
     have BN:=cz0 Bb.out
     have BO:=cz1 Bb.out
     have BP:=cz2 Bb.out
     have BQ:=bF Bb.out 0
     have BR:=bF Bb.out 1
     have BS:=bF Bb.out 2
     go_wp2_with (first|(go_at_call 35;(with_reducible refine (laws_qdLock.calls kj2 t244 _ _ t245 _ _ t248 t253 _ _ t254 _ _ t257 true _ ?side1 ?side2 ?side3 ?side4 ?side5 ?side6 ?side7 ?side8 A23.out).mono ?_);(case side1=>refine (rR (e:=57) (base:=w.heap.size) (ok:=fun k_=>(True∧some k_≠(.slice Ao20 t254.length co20:Value).ownBlock)) (n:=t245.length) (c:=co14) ?_).2.2;exact (by (with_reducible repeat (first|apply rA|apply rN|apply rD));exact (rM (rF (p:=⟨Ba,2,none⟩) (rF (p:=⟨Ba,1,none⟩) (rF (p:=⟨Ba,0,none⟩) (rT Bn.out Bb.out (by decide)) (fun _ hk=>hk.2) (.int .i64 t253)) (fun _ hk=>hk.2) (.slice Ao20 t254.length co20)) (fun _ hk=>hk.2) (.slice Ao21 t257.length co21)) (fun _ h_=>h_.1))));(case side2=>exact (rR Bn.out).2.1);(case side3=>refine (rR (e:=3) (base:=w.heap.size) (ok:=fun k_=>(True∧some k_≠(.slice Ao21 t257.length co21:Value).ownBlock)) (n:=t248.length) (c:=co15) ?_).2.2;exact (by (with_reducible repeat (first|apply rA|apply rN|apply rD));exact (rM (rF (p:=⟨Ba,2,none⟩) (rF (p:=⟨Ba,1,none⟩) (rF (p:=⟨Ba,0,none⟩) (rT Bo.out Bb.out (by decide)) (fun _ hk=>hk.2) (.int .i64 t253)) (fun _ hk=>hk.2) (.slice Ao20 t254.length co20)) (fun _ hk=>hk.2) (.slice Ao21 t257.length co21)) (fun _ h_=>h_.1))));(case side4=>exact (rR Bo.out).2.1);(case side5=>refine (rR (e:=57) (base:=w.heap.size) (ok:=fun k_=>(True∧some k_≠(.slice Ao14 t245.length co14:Value).ownBlock)) (n:=t254.length) (c:=co20) ?_).2.2;exact (by (with_reducible repeat (first|apply rA|apply rN|apply rD));exact (rM (rF (p:=⟨Ba,2,none⟩) (rF (p:=⟨Ba,1,none⟩) (rF (p:=⟨Ba,0,none⟩) (rT Bp.out Bb.out (by decide)) (fun _ hk=>hk.2) (.int .i64 t253)) (fun _ hk=>hk.2) (.slice Ao20 t254.length co20)) (fun _ hk=>hk.2) (.slice Ao21 t257.length co21)) (fun _ h_=>h_.1))));(case side6=>exact (rR Bp.out).2.1);(case side7=>refine (rR (e:=3) (base:=w.heap.size) (ok:=fun k_=>(True∧some k_≠(.slice Ao15 t248.length co15:Value).ownBlock)) (n:=t257.length) (c:=co21) ?_).2.2;exact (by (with_reducible repeat (first|apply rA|apply rN|apply rD));exact (rM (rF (p:=⟨Ba,2,none⟩) (rF (p:=⟨Ba,1,none⟩) (rF (p:=⟨Ba,0,none⟩) (rT Bq.out Bb.out (by decide)) (fun _ hk=>hk.2) (.int .i64 t253)) (fun _ hk=>hk.2) (.slice Ao20 t254.length co20)) (fun _ hk=>hk.2) (.slice Ao21 t257.length co21)) (fun _ h_=>h_.1))));(case side8=>exact (rR Bq.out).2.1);rintro e w28 ⟨rfl,hb⟩;have n0_:=Am (rB (by (with_reducible repeat (first|apply rA|apply rN|apply rD));exact (rM (rF (p:=⟨Ba,2,none⟩) (rF (p:=⟨Ba,1,none⟩) (rF (p:=⟨Ba,0,none⟩) (rT Bn.out Bb.out (by decide)) (fun _ hk=>hk.2) (.int .i64 t253)) (fun _ hk=>hk.2) (.slice Ao20 t254.length co20)) (fun _ hk=>hk.2) (.slice Ao21 t257.length co21)) (fun _ h_=>h_.1))) hb);have n1_:=Am (rB (by (with_reducible repeat (first|apply rA|apply rN|apply rD));exact (rM (rF (p:=⟨Ba,2,none⟩) (rF (p:=⟨Ba,1,none⟩) (rF (p:=⟨Ba,0,none⟩) (rT Bo.out Bb.out (by decide)) (fun _ hk=>hk.2) (.int .i64 t253)) (fun _ hk=>hk.2) (.slice Ao20 t254.length co20)) (fun _ hk=>hk.2) (.slice Ao21 t257.length co21)) (fun _ h_=>h_.1))) hb);have n2_:=Am (rB (by (with_reducible repeat (first|apply rA|apply rN|apply rD));exact (rM (rF (p:=⟨Ba,2,none⟩) (rF (p:=⟨Ba,1,none⟩) (rF (p:=⟨Ba,0,none⟩) (rT Bp.out Bb.out (by decide)) (fun _ hk=>hk.2) (.int .i64 t253)) (fun _ hk=>hk.2) (.slice Ao20 t254.length co20)) (fun _ hk=>hk.2) (.slice Ao21 t257.length co21)) (fun _ h_=>h_.1))) hb);have n3_:=Am (rB (by (with_reducible repeat (first|apply rA|apply rN|apply rD));exact (rM (rF (p:=⟨Ba,2,none⟩) (rF (p:=⟨Ba,1,none⟩) (rF (p:=⟨Ba,0,none⟩) (rT Bq.out Bb.out (by decide)) (fun _ hk=>hk.2) (.int .i64 t253)) (fun _ hk=>hk.2) (.slice Ao20 t254.length co20)) (fun _ hk=>hk.2) (.slice Ao21 t257.length co21)) (fun _ h_=>h_.1))) hb);have n4_:=Am (bB (g:=Bh) (o:=.cells #[.int .i64 t244,.slice Ao14 t245.length co14,.slice Ao15 t248.length co15] 51 (0,0)) (by (with_reducible repeat (first|refine bN ?_ _|refine bD ?_|refine bA ?_ _|refine bE ?_ Br.out _));exact Bc.out) hb);have n5_:=Am (bB (g:=Ba) (o:=.cells #[.int .i64 t253,.slice Ao20 t254.length co20,.slice Ao21 t257.length co21] 51 (0,0)) (by (with_reducible repeat (first|refine bN ?_ _|refine bD ?_|refine bA ?_ _));refine bT (cs:=#[.int .i64 t253,.slice Ao20 t254.length co20,.slice none 0 0]) ?_ 2 _ rfl;(with_reducible repeat (first|refine bN ?_ _|refine bD ?_|refine bA ?_ _));refine bT (cs:=#[.int .i64 t253,.slice none 0 0,.slice none 0 0]) ?_ 1 _ rfl;(with_reducible repeat (first|refine bN ?_ _|refine bD ?_|refine bA ?_ _));refine bT (cs:=#[.int .i64 0,.slice none 0 0,.slice none 0 0]) ?_ 0 _ rfl;(with_reducible repeat (first|refine bN ?_ _|refine bD ?_|refine bA ?_ _));exact Bb.out) hb);have n6_:=Am (bP (by repeat (first|(with_reducible first|exact HB.out|apply oA|apply pN|apply o1|refine bS ?_ Bi.out|refine bS ?_ Bk.out)|exact HB.out)) hb);clear Bn Bo Bp Bq Bc Bb HB;revert n0_ n1_ n2_ n3_ n4_ n5_ n6_;intro Bn Bo Bp Bq Bc Bb HB;(try clear hb);(try clear hb2);(try clear hk);(try clear hi)))
     go_meet
     case rel=>exact ⟨_,(!t251),(by first|rfl|(simp;done)|(simp [*];done)),H',⟨by have:=B5.out;first|omega|exact nR _⟩,⟨by (with_reducible repeat (first|apply rA|apply rN|apply rD));exact rM Bn.out (fun _ hk=>hk.2)⟩,⟨Kd.Q_of_R (by (with_reducible repeat (first|apply rA|apply rN|apply rD));exact rM Bo.out (fun _ hk=>hk.2))⟩,⟨by (with_reducible repeat (first|apply rA|apply rN|apply rD));exact rM Bp.out (fun _ hk=>hk.2)⟩,⟨Kd.Q_of_R (by (with_reducible repeat (first|apply rA|apply rN|apply rD));exact rM Bq.out (fun _ hk=>hk.2))⟩,⟨by (with_reducible repeat (first|refine bN ?_ _|refine bD ?_|refine bA ?_ _));exact Bc.out⟩,⟨by (with_reducible repeat (first|refine bN ?_ _|refine bD ?_|refine bA ?_ _));exact Bb.out⟩,⟨by repeat (first|(with_reducible first|exact HB.out|apply oA|apply pN|apply o1|refine bS ?_ Bi.out|refine bS ?_ Bk.out)|exact HB.out)⟩⟩
    replace c24:=Bool.eq_false_iff.mpr c24
    subst c24
    have H1:(laws_FnLockEnds.j1 kj2 l1 t242 t251 t260 true t244 t245 t248 t253 t254 t257)=some r:=by rw [if_neg (show ¬ (false=true) by decide)] at H;exact H
    clear H
    have H:=H1
    clear H1
    have H':=Am H
    clear H
    have DY:=Br.out
    have DZ:=Bs.out
    have BT:=cz0 Bc.out
    have BU:=cz1 Bc.out
    have BV:=cz2 Bc.out
    have BW:=bF Bc.out 0
    have BX:=bF Bc.out 1
    have BY:=bF Bc.out 2
    have BZ:=cz0 Bb.out
    have B0:=cz1 Bb.out
    have B1:=cz2 Bb.out
    have B2:=bF Bb.out 0
    have B3:=bF Bb.out 1
    have B4:=bF Bb.out 2
    go_wp2_with (first|(go_at_call 35;(with_reducible refine (laws_qdLock.calls kj2 t244 _ _ t245 _ _ t248 t253 _ _ t254 _ _ t257 false _ ?side1 ?side2 ?side3 ?side4 ?side5 ?side6 ?side7 ?side8 A23.out).mono ?_);(case side1=>refine (rR (e:=57) (base:=w.heap.size) (ok:=fun k_=>(True∧some k_≠(.slice Ao20 t254.length co20:Value).ownBlock)) (n:=t245.length) (c:=co14) ?_).2.2;exact (by (with_reducible repeat (first|apply rA|apply rN|apply rD));exact (rM (rF (p:=⟨Ba,2,none⟩) (rF (p:=⟨Ba,1,none⟩) (rF (p:=⟨Ba,0,none⟩) (rT Bn.out Bb.out (by decide)) (fun _ hk=>hk.2) (.int .i64 t253)) (fun _ hk=>hk.2) (.slice Ao20 t254.length co20)) (fun _ hk=>hk.2) (.slice Ao21 t257.length co21)) (fun _ h_=>h_.1))));(case side2=>exact (rR Bn.out).2.1);(case side3=>refine (rR (e:=3) (base:=w.heap.size) (ok:=fun k_=>(True∧some k_≠(.slice Ao21 t257.length co21:Value).ownBlock)) (n:=t248.length) (c:=co15) ?_).2.2;exact (by (with_reducible repeat (first|apply rA|apply rN|apply rD));exact (rM (rF (p:=⟨Ba,2,none⟩) (rF (p:=⟨Ba,1,none⟩) (rF (p:=⟨Ba,0,none⟩) (rT Bo.out Bb.out (by decide)) (fun _ hk=>hk.2) (.int .i64 t253)) (fun _ hk=>hk.2) (.slice Ao20 t254.length co20)) (fun _ hk=>hk.2) (.slice Ao21 t257.length co21)) (fun _ h_=>h_.1))));(case side4=>exact (rR Bo.out).2.1);(case side5=>refine (rR (e:=57) (base:=w.heap.size) (ok:=fun k_=>(True∧some k_≠(.slice Ao14 t245.length co14:Value).ownBlock)) (n:=t254.length) (c:=co20) ?_).2.2;exact (by (with_reducible repeat (first|apply rA|apply rN|apply rD));exact (rM (rF (p:=⟨Ba,2,none⟩) (rF (p:=⟨Ba,1,none⟩) (rF (p:=⟨Ba,0,none⟩) (rT Bp.out Bb.out (by decide)) (fun _ hk=>hk.2) (.int .i64 t253)) (fun _ hk=>hk.2) (.slice Ao20 t254.length co20)) (fun _ hk=>hk.2) (.slice Ao21 t257.length co21)) (fun _ h_=>h_.1))));(case side6=>exact (rR Bp.out).2.1);(case side7=>refine (rR (e:=3) (base:=w.heap.size) (ok:=fun k_=>(True∧some k_≠(.slice Ao15 t248.length co15:Value).ownBlock)) (n:=t257.length) (c:=co21) ?_).2.2;exact (by (with_reducible repeat (first|apply rA|apply rN|apply rD));exact (rM (rF (p:=⟨Ba,2,none⟩) (rF (p:=⟨Ba,1,none⟩) (rF (p:=⟨Ba,0,none⟩) (rT Bq.out Bb.out (by decide)) (fun _ hk=>hk.2) (.int .i64 t253)) (fun _ hk=>hk.2) (.slice Ao20 t254.length co20)) (fun _ hk=>hk.2) (.slice Ao21 t257.length co21)) (fun _ h_=>h_.1))));(case side8=>exact (rR Bq.out).2.1);rintro e w32 ⟨rfl,hb⟩;have n0_:=Am (rB (by (with_reducible repeat (first|apply rA|apply rN|apply rD));exact (rM (rF (p:=⟨Ba,2,none⟩) (rF (p:=⟨Ba,1,none⟩) (rF (p:=⟨Ba,0,none⟩) (rT Bn.out Bb.out (by decide)) (fun _ hk=>hk.2) (.int .i64 t253)) (fun _ hk=>hk.2) (.slice Ao20 t254.length co20)) (fun _ hk=>hk.2) (.slice Ao21 t257.length co21)) (fun _ h_=>h_.1))) hb);have n1_:=Am (rB (by (with_reducible repeat (first|apply rA|apply rN|apply rD));exact (rM (rF (p:=⟨Ba,2,none⟩) (rF (p:=⟨Ba,1,none⟩) (rF (p:=⟨Ba,0,none⟩) (rT Bo.out Bb.out (by decide)) (fun _ hk=>hk.2) (.int .i64 t253)) (fun _ hk=>hk.2) (.slice Ao20 t254.length co20)) (fun _ hk=>hk.2) (.slice Ao21 t257.length co21)) (fun _ h_=>h_.1))) hb);have n2_:=Am (rB (by (with_reducible repeat (first|apply rA|apply rN|apply rD));exact (rM (rF (p:=⟨Ba,2,none⟩) (rF (p:=⟨Ba,1,none⟩) (rF (p:=⟨Ba,0,none⟩) (rT Bp.out Bb.out (by decide)) (fun _ hk=>hk.2) (.int .i64 t253)) (fun _ hk=>hk.2) (.slice Ao20 t254.length co20)) (fun _ hk=>hk.2) (.slice Ao21 t257.length co21)) (fun _ h_=>h_.1))) hb);have n3_:=Am (rB (by (with_reducible repeat (first|apply rA|apply rN|apply rD));exact (rM (rF (p:=⟨Ba,2,none⟩) (rF (p:=⟨Ba,1,none⟩) (rF (p:=⟨Ba,0,none⟩) (rT Bq.out Bb.out (by decide)) (fun _ hk=>hk.2) (.int .i64 t253)) (fun _ hk=>hk.2) (.slice Ao20 t254.length co20)) (fun _ hk=>hk.2) (.slice Ao21 t257.length co21)) (fun _ h_=>h_.1))) hb);have n4_:=Am (bB (g:=Bh) (o:=.cells #[.int .i64 t244,.slice Ao14 t245.length co14,.slice Ao15 t248.length co15] 51 (0,0)) (by (with_reducible repeat (first|refine bN ?_ _|refine bD ?_|refine bA ?_ _|refine bE ?_ Br.out _));exact Bc.out) hb);have n5_:=Am (bB (g:=Ba) (o:=.cells #[.int .i64 t253,.slice Ao20 t254.length co20,.slice Ao21 t257.length co21] 51 (0,0)) (by (with_reducible repeat (first|refine bN ?_ _|refine bD ?_|refine bA ?_ _));refine bT (cs:=#[.int .i64 t253,.slice Ao20 t254.length co20,.slice none 0 0]) ?_ 2 _ rfl;(with_reducible repeat (first|refine bN ?_ _|refine bD ?_|refine bA ?_ _));refine bT (cs:=#[.int .i64 t253,.slice none 0 0,.slice none 0 0]) ?_ 1 _ rfl;(with_reducible repeat (first|refine bN ?_ _|refine bD ?_|refine bA ?_ _));refine bT (cs:=#[.int .i64 0,.slice none 0 0,.slice none 0 0]) ?_ 0 _ rfl;(with_reducible repeat (first|refine bN ?_ _|refine bD ?_|refine bA ?_ _));exact Bb.out) hb);have n6_:=Am (bP (by repeat (first|(with_reducible first|exact HB.out|apply oA|apply pN|apply o1|refine bS ?_ Bi.out|refine bS ?_ Bk.out)|exact HB.out)) hb);clear Bn Bo Bp Bq Bc Bb HB;revert n0_ n1_ n2_ n3_ n4_ n5_ n6_;intro Bn Bo Bp Bq Bc Bb HB;(try clear hb);(try clear hb2);(try clear hk);(try clear hi)))
    go_meet
    case rel=>exact ⟨_,(true),(by first|rfl|(simp;done)|(simp [*];done)),H',⟨by have:=B5.out;first|omega|exact nR _⟩,⟨by (with_reducible repeat (first|apply rA|apply rN|apply rD));exact rM Bn.out (fun _ hk=>hk.2)⟩,⟨Kd.Q_of_R (by (with_reducible repeat (first|apply rA|apply rN|apply rD));exact rM Bo.out (fun _ hk=>hk.2))⟩,⟨by (with_reducible repeat (first|apply rA|apply rN|apply rD));exact rM Bp.out (fun _ hk=>hk.2)⟩,⟨Kd.Q_of_R (by (with_reducible repeat (first|apply rA|apply rN|apply rD));exact rM Bq.out (fun _ hk=>hk.2))⟩,⟨by (with_reducible repeat (first|refine bN ?_ _|refine bD ?_|refine bA ?_ _));exact Bc.out⟩,⟨by (with_reducible repeat (first|refine bN ?_ _|refine bD ?_|refine bA ?_ _));exact Bb.out⟩,⟨by repeat (first|(with_reducible first|exact HB.out|apply oA|apply pN|apply o1|refine bS ?_ Bi.out|refine bS ?_ Bk.out)|exact HB.out)⟩⟩
   case rest =>
    clear HC9
    try clear c1
    try clear c2
    try clear p2
    try clear c3
    try clear c4
    try clear c4b0
    try clear c4b1
    try clear c5
    try clear c9
    try clear c18
    try clear c22
    try clear c22b0
    try clear c22b1
    try clear c22b2
    try clear c24
    try clear c25
    try clear c29
    try clear c32
    try clear Bv
    try clear Bw
    try clear Bx
    try clear BB
    try clear BC
    try clear BD
    try clear BH
    try clear BI
    try clear BJ
    try clear BN
    try clear BO
    try clear BP
    try clear BT
    try clear BU
    try clear BV
    try clear BZ
    try clear B0
    try clear B1
    try clear By
    try clear Bz
    try clear BA
    try clear BE
    try clear BF
    try clear BG
    try clear BK
    try clear BL
    try clear BM
    try clear BQ
    try clear BR
    try clear BS
    try clear BW
    try clear BX
    try clear BY
    try clear B2
    try clear B3
    try clear B4
    try clear p2
    obtain ⟨kq,x54_8,rfl,HA,Dn,Bf,Bd,Bg,Be,Bc,Bb,HB⟩:=hcut
    cases kq with
   |zero=>exact absurd HA.out (by simp [laws_FnLockEnds.j1])
   |succ kj8 =>
     have H:=HA.out
     clear HA
     simp only [laws_FnLockEnds.j1] at H
     by_cases c33:x54_8=true
     ·subst c33
      have H1:(if (t251 == t260)=true then ((laws_qdLock.f kj8 t244 t245 t248 t253 t254 t257).bind fun t263=>(some t263)) else (some false))=some r:=by rw [if_pos rfl] at H;exact H
      clear H
      have H:=H1
      clear H1
      by_cases c34:(t251 == t260)=true
      rotate_left
      ·rw [if_neg c34] at H
       have c34b0:(t251 == t260)=false:=by simpa using c34
       (try (have c34b1:decide (t251=t260)=false:=by simpa using c34))
       (try (have c34b2:(t251 == t260)=false:=by simpa using c34))
       (try (have c34b3:¬ (t251=t260):=by simpa using c34))
       clear c34
       exact absurd ((oJ H).trans hT_.out) (by decide)
      rw [if_pos c34] at H
      have c34b0:(t251 == t260)=true:=c34
      (try (have c34b1:decide (t251=t260)=true:=by simpa using c34))
      (try (have c34b2:(t251 == t260)=true:=by simpa using c34))
      clear c34
      replace H:=oC H
      obtain ⟨t263,A350,H⟩:=H
      replace H:(some t263)=some r:=H
      have A35:=Am A350
      clear A350
      obtain rfl:=oJ H
      have D0:=Br.out
      have D1:=Bs.out
      have B9:=cz0 Bc.out
      have Da:=cz1 Bc.out
      have Db:=cz2 Bc.out
      have Dc:=bF Bc.out 0
      have Dd:=bF Bc.out 1
      have De:=bF Bc.out 2
      have Df:=cz0 Bb.out
      have Dg:=cz1 Bb.out
      have Dh:=cz2 Bb.out
      have Di:=bF Bb.out 0
      have Dj:=bF Bb.out 1
      have Dk:=bF Bb.out 2
      go_wp2_with (first|(go_at_call 35;(with_reducible refine (laws_qdLock.calls kj8 t244 _ _ t245 _ _ t248 t253 _ _ t254 _ _ t257 t263 _ ?side1 ?side2 ?side3 ?side4 ?side5 ?side6 ?side7 ?side8 A35.out).mono ?_);(case side1=>exact cL (rR Bf.out).2.2);(case side2=>exact (rR Bf.out).2.1);(case side3=>exact cL (qR Bd.out).2.2);(case side4=>exact (qR Bd.out).2.1);(case side5=>exact cL (rR Bg.out).2.2);(case side6=>exact (rR Bg.out).2.1);(case side7=>exact cL (qR Be.out).2.2);(case side8=>exact (qR Be.out).2.1);rintro e w39 ⟨rfl,hb⟩;have n0_:=Am (rB (rL Bf.out) hb);have n1_:=Am (Kd.Q_below (qL Bd.out) hb);have n2_:=Am (rB (rL Bg.out) hb);have n3_:=Am (Kd.Q_below (qL Be.out) hb);have n4_:=Am (bX Bc.out hb);have n5_:=Am (bX Bb.out hb);have n6_:=Am (bP (by repeat (first|(with_reducible first|exact HB.out|apply oA|apply pN|apply o1|refine bS ?_ Bi.out|refine bS ?_ Bk.out)|exact HB.out)) hb);clear Bf Bd Bg Be Bc Bb HB;revert n0_ n1_ n2_ n3_ n4_ n5_ n6_;intro Bf Bd Bg Be Bc Bb HB;(try clear hb);(try clear hb2);(try clear hk);(try clear hi)))
      go_ret
      exact ⟨by first|rfl|(simp [errW_none,errW_some] <;> rfl)|(simp [*,errW_none,errW_some] <;> rfl),by repeat (first|(with_reducible first|exact HB.out|apply oA|apply pN|apply o1|refine bS ?_ Bi.out|refine bS ?_ Bk.out)|exact HB.out)⟩
     replace c33:=Bool.eq_false_iff.mpr c33
     subst c33
     have H1:(laws_FnLockEnds.l0 kj8 l1 t242 (([]:List Int)) 0 t244 t245 t248)=some r:=by rw [if_neg (show ¬ (false=true) by decide)] at H;exact H
     clear H
     have H:=H1
     clear H1
     obtain ⟨y264,hy264⟩:∃ y_:List Int,y_=(([]:List Int)):=⟨_,rfl⟩
     replace H:(laws_FnLockEnds.l0 kj8 l1 t242 y264 0 t244 t245 t248)=some r:=by first|(rw [hy264];with_reducible exact H)|(have H2_:=(Option.bind_some _ _).symm.trans H;rw [hy264];with_reducible exact H2_)|(have H2_:=(Option.bind_some _ _).symm.trans H;with_reducible exact H2_)|with_reducible exact H|(rw [hy264];exact H)|exact H
     have Ny264:=Am hy264
     clear hy264
     have HC40:=Am H
     clear H
     go_upto_block 0 with (first|((with_reducible refine gD (N:=63) rfl ?_);(try (refine gate_guard (by rfl) ?_;dsimp only));refine Kd.R_lit (Kd.int .i64) _ 3 ?hg (N:=63) ?hd (xs:=([]:List Int)) (inner:=[]) (ok:=fun _=>True) (okp:=fun _=>True) ?hr ?hp (fun _ hk=>hk) trivial (bJ _ _) (nR _) (by simp) ?_;(case hd=>rfl);(case hg=>rfl);(case hr=>first|(go_simp;done)|(go_simp;rfl));(case hp=>exact (Reps.none _ _));intro v265 w41 ho42 hb hg_ hnew_;clear hg_ hnew_;(first|rw [← Ny264.out] at ho42|(simp only [Int.reduceToNat] at ho42;rw [← Ny264.out] at ho42));have n0_:=Am (rB (rL Bf.out) hb);have n1_:=Am (Kd.Q_elder' (qL Bd.out) (rZ ho42) hb);have n2_:=Am (rB (rL Bg.out) hb);have n3_:=Am (Kd.Q_elder' (qL Be.out) (rZ ho42) hb);have n4_:=Am (rW (rQ (rQ ho42 (qI (qL Bd.out))) (qI (qL Be.out))) (bZ (by repeat (first|(with_reducible first|exact HB.out|apply oA|apply pN|apply o1|refine bS ?_ Bi.out|refine bS ?_ Bk.out)|exact HB.out))));have n5_:=Am (bX Bc.out hb);have n6_:=Am (bX Bb.out hb);have n7_:=Am (bP (by repeat (first|(with_reducible first|exact HB.out|apply oA|apply pN|apply o1|refine bS ?_ Bi.out|refine bS ?_ Bk.out)|exact HB.out)) hb);clear Bf Bd Bg Be Bc Bb HB;revert n0_ n1_ n2_ n3_ n4_ n5_ n6_ n7_;intro Bf Bd Bg Be DD Bc Bb HB;clear hb ho42))
     (try simp only [Act.put,lA,lZ,lS])
     go_cut [11] (fun v11 wc=>∃ (kq:Nat) (x11_39:List Int),Aside0 (laws_FnLockEnds.j3 kq t242 x11_39 t244 t245 t248=some r)∧Aside0 (kq≤kj8)∧Aside0 (Kd.R (Kd.int .i64) 3 wc w.heap.size (fun k_=>some k_≠((.slice Ao15 t248.length co15):Value).ownBlock∧some k_≠((.slice Ao21 t257.length co21):Value).ownBlock) v11 x11_39)∧Aside0 (Kd.R k57 57 wc w.heap.size (fun k_=>some k_≠((.slice Ao20 t254.length co20):Value).ownBlock) (.slice Ao14 t245.length co14) t245)∧Aside0 (Kd.Q (Kd.int .i64) 3 wc w.heap.size (fun k_=>some k_≠(v11:Value).ownBlock∧some k_≠((.slice Ao21 t257.length co21):Value).ownBlock) (.slice Ao15 t248.length co15) t248)∧Aside0 (Kd.R k57 57 wc w.heap.size (fun k_=>some k_≠((.slice Ao14 t245.length co14):Value).ownBlock) (.slice Ao20 t254.length co20) t254)∧Aside0 (Kd.Q (Kd.int .i64) 3 wc w.heap.size (fun k_=>some k_≠(v11:Value).ownBlock∧some k_≠((.slice Ao15 t248.length co15):Value).ownBlock) (.slice Ao21 t257.length co21) t257)∧Aside0 (wc.heap[Bh]?=some (.cells #[.int .i64 t244,(.slice Ao14 t245.length co14),(.slice Ao15 t248.length co15)] 51 (0,0)))∧Aside0 (wc.heap[Ba]?=some (.cells #[.int .i64 t253,(.slice Ao20 t254.length co20),(.slice Ao21 t257.length co21)] 51 (0,0)))∧Aside0 (Below w.heap.size w wc))
     case first =>
      have H:=HC40.out
      clear HC40
      have H':=Am H
      clear H
      go_wp2
      go_loopg [11,12] kj8 (fun kq v11 v12 w'=>∃ (x11_3:List Int) (x12_3:Int),v12=.int .i64 x12_3∧Aside0 (laws_FnLockEnds.l0 kq l1 t242 x11_3 x12_3 t244 t245 t248=some r)∧Aside0 (kq≤kj8)∧Aside0 (Kd.R (Kd.int .i64) 3 w' w.heap.size (fun k_=>some k_≠((.slice Ao15 t248.length co15):Value).ownBlock∧some k_≠((.slice Ao21 t257.length co21):Value).ownBlock) v11 x11_3)∧Aside0 (Kd.R k57 57 w' w.heap.size (fun k_=>some k_≠((.slice Ao20 t254.length co20):Value).ownBlock) (.slice Ao14 t245.length co14) t245)∧Aside0 (Kd.Q (Kd.int .i64) 3 w' w.heap.size (fun k_=>some k_≠(v11:Value).ownBlock∧some k_≠((.slice Ao21 t257.length co21):Value).ownBlock) (.slice Ao15 t248.length co15) t248)∧Aside0 (Kd.R k57 57 w' w.heap.size (fun k_=>some k_≠((.slice Ao14 t245.length co14):Value).ownBlock) (.slice Ao20 t254.length co20) t254)∧Aside0 (Kd.Q (Kd.int .i64) 3 w' w.heap.size (fun k_=>some k_≠(v11:Value).ownBlock∧some k_≠((.slice Ao15 t248.length co15):Value).ownBlock) (.slice Ao21 t257.length co21) t257)∧Aside0 (w'.heap[Bh]?=some (.cells #[.int .i64 t244,(.slice Ao14 t245.length co14),(.slice Ao15 t248.length co15)] 51 (0,0)))∧Aside0 (w'.heap[Ba]?=some (.cells #[.int .i64 t253,(.slice Ao20 t254.length co20),(.slice Ao21 t257.length co21)] 51 (0,0)))∧Aside0 (Below w.heap.size w w'))
      case atStart=>exact ⟨(y264),(0),(by first|rfl|(simp;done)|(simp [*];done)),H',⟨nR _⟩,⟨by (with_reducible repeat (first|apply rA|apply rN|apply rD));exact rM DD.out (fun _ hk=>⟨hk.1.2,hk.2⟩)⟩,⟨by (with_reducible repeat (first|apply rA|apply rN|apply rD));exact Bf.out⟩,⟨by (with_reducible repeat (first|apply Kd.Q_alloc|apply Kd.Q_drewN|apply Kd.Q_drew));exact qM Bd.out (fun _ hk=>⟨hk.2,hk.1⟩)⟩,⟨by (with_reducible repeat (first|apply rA|apply rN|apply rD));exact Bg.out⟩,⟨by (with_reducible repeat (first|apply Kd.Q_alloc|apply Kd.Q_drewN|apply Kd.Q_drew));exact qM Be.out (fun _ hk=>⟨hk.2,hk.1⟩)⟩,⟨by (with_reducible repeat (first|refine bN ?_ _|refine bD ?_|refine bA ?_ _));exact Bc.out⟩,⟨by (with_reducible repeat (first|refine bN ?_ _|refine bD ?_|refine bA ?_ _));exact Bb.out⟩,⟨by repeat (first|(with_reducible first|exact HB.out|apply oA|apply pN|apply o1|refine bS ?_ Bi.out|refine bS ?_ Bk.out)|exact HB.out)⟩⟩
      case round =>
       clear H'
       try clear c1
       try clear c2
       try clear p2
       try clear c3
       try clear c4
       try clear c4b0
       try clear c4b1
       try clear c5
       try clear c9
       try clear c18
       try clear c22
       try clear c22b0
       try clear c22b1
       try clear c22b2
       try clear c24
       try clear c25
       try clear c29
       try clear c32
       try clear c33
       try clear c34
       try clear c34b0
       try clear c34b1
       try clear c34b2
       try clear c36
       try clear Bv
       try clear Bw
       try clear Bx
       try clear BB
       try clear BC
       try clear BD
       try clear BH
       try clear BI
       try clear BJ
       try clear BN
       try clear BO
       try clear BP
       try clear BT
       try clear BU
       try clear BV
       try clear BZ
       try clear B0
       try clear B1
       try clear B9
       try clear Da
       try clear Db
       try clear Df
       try clear Dg
       try clear Dh
       try clear By
       try clear Bz
       try clear BA
       try clear BE
       try clear BF
       try clear BG
       try clear BK
       try clear BL
       try clear BM
       try clear BQ
       try clear BR
       try clear BS
       try clear BW
       try clear BX
       try clear BY
       try clear B2
       try clear B3
       try clear B4
       try clear Dc
       try clear Dd
       try clear De
       try clear Di
       try clear Dj
       try clear Dk
       try clear p2
       obtain ⟨x11_3,x12_3,rfl,HA,HK3,Bl,Bf,Bd,Bg,Be,Bc,Bb,HB⟩:=hrel
       cases gk with
      |zero=>exact absurd HA.out (by simp [laws_FnLockEnds.l0])
      |succ k3 =>
        have H:=HA.out
        clear HA
        simp only [laws_FnLockEnds.l0] at H
        by_cases c43:x12_3<(l1.length:Int)
        rotate_left
        ·rw [if_neg c43] at H
         have c43b0:decide (x12_3<(l1.length:Int))=false:=dF c43
         clear c43
         (first|rw [c43b0]|(simp only [i64_w,i32_w];rw [c43b0])|skip)
         have H':=Am H
         clear H
         go_wp2
         go_meet
         case rel=>exact ⟨_,(x11_3),H',⟨by have:=B5.out;have:=Dn.out;have:=HK3.out;first|omega|exact nR _⟩,⟨by (with_reducible repeat (first|apply rA|apply rN|apply rD));exact Bl.out⟩,⟨by (with_reducible repeat (first|apply rA|apply rN|apply rD));exact Bf.out⟩,⟨by (with_reducible repeat (first|apply Kd.Q_alloc|apply Kd.Q_drewN|apply Kd.Q_drew));exact Bd.out⟩,⟨by (with_reducible repeat (first|apply rA|apply rN|apply rD));exact Bg.out⟩,⟨by (with_reducible repeat (first|apply Kd.Q_alloc|apply Kd.Q_drewN|apply Kd.Q_drew));exact Be.out⟩,⟨by (with_reducible repeat (first|refine bN ?_ _|refine bD ?_|refine bA ?_ _));exact Bc.out⟩,⟨by (with_reducible repeat (first|refine bN ?_ _|refine bD ?_|refine bA ?_ _));exact Bb.out⟩,⟨by repeat (first|(with_reducible first|exact HB.out|apply oA|apply pN|apply o1|refine bS ?_ Bi.out|refine bS ?_ Bk.out)|exact HB.out)⟩⟩
        rw [if_pos c43] at H
        have c43b0:decide (x12_3<(l1.length:Int))=true:=dT c43
        clear c43
        (first|rw [c43b0]|(simp only [i64_w,i32_w];rw [c43b0])|skip)
        by_cases c44:x12_3<200
        rotate_left
        ·rw [if_neg c44] at H
         have c44b0:decide (x12_3<200)=false:=dF c44
         clear c44
         have H':=Am H
         clear H
         go_wp2
         go_meet
         case rel=>exact ⟨_,(x11_3),H',⟨by have:=B5.out;have:=Dn.out;have:=HK3.out;first|omega|exact nR _⟩,⟨by (with_reducible repeat (first|apply rA|apply rN|apply rD));exact Bl.out⟩,⟨by (with_reducible repeat (first|apply rA|apply rN|apply rD));exact Bf.out⟩,⟨by (with_reducible repeat (first|apply Kd.Q_alloc|apply Kd.Q_drewN|apply Kd.Q_drew));exact Bd.out⟩,⟨by (with_reducible repeat (first|apply rA|apply rN|apply rD));exact Bg.out⟩,⟨by (with_reducible repeat (first|apply Kd.Q_alloc|apply Kd.Q_drewN|apply Kd.Q_drew));exact Be.out⟩,⟨by (with_reducible repeat (first|refine bN ?_ _|refine bD ?_|refine bA ?_ _));exact Bc.out⟩,⟨by (with_reducible repeat (first|refine bN ?_ _|refine bD ?_|refine bA ?_ _));exact Bb.out⟩,⟨by repeat (first|(with_reducible first|exact HB.out|apply oA|apply pN|apply o1|refine bS ?_ Bi.out|refine bS ?_ Bk.out)|exact HB.out)⟩⟩
        rw [if_pos c44] at H
        have c44b0:decide (x12_3<200)=true:=dT c44
        clear c44
        by_cases c45:0≤x12_3
        rotate_left
        ·rw [if_neg c45] at H
         exact absurd H (by simp)
        rw [if_pos c45] at H
        have c45b0:decide (0≤x12_3)=true:=dT c45
        clear c45
        by_cases c46:t242=0
        ·rw [if_pos c46] at H
         exact absurd H (by simp)
        rw [if_neg c46] at H
        have c46b0:(t242 == 0)=false:=beq_eq_false_iff_ne.mpr c46
        have c46b1:(t242 != 0)=true:=bne_iff_ne.mpr c46
        by_cases c47:x11_3.length<17592186044416
        rotate_left
        ·rw [if_neg c47] at H
         exact absurd H (by simp)
        rw [if_pos c47] at H
        have LMc47:=Am c47
        clear c47
        obtain ⟨y268,hy268⟩:∃ y_:List Int,y_=(x11_3 ++ [Int.tmod (wrap64 (rd l1 x12_3)) t242]):=⟨_,rfl⟩
        replace H:(laws_FnLockEnds.l0 k3 l1 t242 y268 (wrap64 (x12_3 + 1)) t244 t245 t248)=some r:=by first|(rw [hy268];with_reducible exact H)|(have H2_:=(Option.bind_some _ _).symm.trans H;rw [hy268];with_reducible exact H2_)|(have H2_:=(Option.bind_some _ _).symm.trans H;with_reducible exact H2_)|with_reducible exact H|(rw [hy268];exact H)|exact H
        have Ny268:=Am hy268
        clear hy268
        have H':=Am H
        clear H
        have p267:0≤(x12_3:Int):=oE (by first|(with_reducible assumption)|assumption)
        have q267:x12_3<(l1.length:Int):=oE (by first|(with_reducible assumption)|assumption)
        obtain ⟨ad267,e267,hx267_0⟩:=Kd.at_int HR1.out x12_3 p267 q267
        cases e267
        replace hx267_0:=(bW HB hx267_0:)
        replace p267:=eq_true p267
        replace q267:=eq_true q267
        go_wp2_with (first|((with_reducible refine gate_builtin (b:=.append) (xs:=#[.tmp 74,.tmp 82]) rfl ?_);(try (refine gate_guard (by rfl) ?_;dsimp only));at_builtin;refine Kd.R_append (Kd.int .i64) (w0:=w) w.heap.size rfl (.tmp 74) (.tmp 82) 24 3 (.int .i64 0) 8 rfl Try.underlying24 info3 rfl (by decide) (by omega) u11 x11_3 (Int.tmod (wrap64 (rd l1 x12_3)) t242) [.int .i64 (Int.tmod (wrap64 (rd l1 x12_3)) t242)] (fun k_=>some k_≠(.slice Ao15 t248.length co15:Value).ownBlock∧some k_≠(.slice Ao21 t257.length co21:Value).ownBlock) (fun _=>False) rfl rfl ?aP (fun _ hk=>hk.elim) ?aF ?aO ?aB ?aS ?aL ?_;(case aP=>exact rfl);(case aB=>exact (by repeat (first|(with_reducible first|exact HB.out|apply oA|apply pN|apply o1|refine bS ?_ Bi.out|refine bS ?_ Bk.out)|exact HB.out)));(case aF=>exact (fun k_ hk=>⟨Kd.fresh' (qI (qL Bd.out)) k_ hk,Kd.fresh' (qI (qL Be.out)) k_ hk⟩));(case aO=>exact (rL Bl.out));(case aS=>exact (bZ (by repeat (first|(with_reducible first|exact HB.out|apply oA|apply pN|apply o1|refine bS ?_ Bi.out|refine bS ?_ Bk.out)|exact HB.out))));(case aL=>have:=LMc47.out;omega);intro v269 w48 ho hb hg hat;rw [← Ny268.out] at ho;have n0_:=Am (rO (rL Bf.out) (rY (rL Bl.out)) (by decide) hg);have n1_:=Am (Kd.Q_after (ok:=(fun k_=>some k_≠(.slice Ao21 t257.length co21:Value).ownBlock)) (by (with_reducible repeat (first|apply Kd.Q_alloc|apply Kd.Q_drewN|apply Kd.Q_drew));exact qM Bd.out (fun _ hk=>⟨hk.2,hk.1⟩)) hg hat);have n2_:=Am (rO (rL Bg.out) (rY (rL Bl.out)) (by decide) hg);have n3_:=Am (Kd.Q_after (ok:=(fun k_=>some k_≠(.slice Ao15 t248.length co15:Value).ownBlock)) (by (with_reducible repeat (first|apply Kd.Q_alloc|apply Kd.Q_drewN|apply Kd.Q_drew));exact qM Be.out (fun _ hk=>⟨hk.2,hk.1⟩)) hg hat);have n4_:=Am (bG (g:=Bh) (o:=.cells #[.int .i64 t244,.slice Ao14 t245.length co14,.slice Ao15 t248.length co15] 51 (0,0)) (bL Bc.out) hg (rE Bl.out Bc.out (by decide)));have n5_:=Am (bG (g:=Ba) (o:=.cells #[.int .i64 t253,.slice Ao20 t254.length co20,.slice Ao21 t257.length co21] 51 (0,0)) (bL Bb.out) hg (rE Bl.out Bb.out (by decide)));have n6_:=Am (hb);have n7_:=Am (ho);clear Bf Bd Bg Be Bc Bb HB Bl;revert n0_ n1_ n2_ n3_ n4_ n5_ n6_ n7_;intro Bf Bd Bg Be Bc Bb HB DE;clear ho hb hg hat))
        go_roundg k3
        case measure=>have:=B5.out;have:=Dn.out;have:=HK3.out;omega
        case rel=>exact ⟨(y268),(wrap64 (x12_3 + 1)),(by first|rfl|(simp;done)|(simp [*];done)),H',⟨by have:=B5.out;have:=Dn.out;have:=HK3.out;omega⟩,⟨by (with_reducible repeat (first|apply rA|apply rN|apply rD));exact DE.out⟩,⟨by (with_reducible repeat (first|apply rA|apply rN|apply rD));exact Bf.out⟩,⟨by (with_reducible repeat (first|apply Kd.Q_alloc|apply Kd.Q_drewN|apply Kd.Q_drew));exact qM Bd.out (fun _ hk=>⟨hk.2,hk.1⟩)⟩,⟨by (with_reducible repeat (first|apply rA|apply rN|apply rD));exact Bg.out⟩,⟨by (with_reducible repeat (first|apply Kd.Q_alloc|apply Kd.Q_drewN|apply Kd.Q_drew));exact qM Be.out (fun _ hk=>⟨hk.2,hk.1⟩)⟩,⟨by (with_reducible repeat (first|refine bN ?_ _|refine bD ?_|refine bA ?_ _));exact Bc.out⟩,⟨by (with_reducible repeat (first|refine bN ?_ _|refine bD ?_|refine bA ?_ _));exact Bb.out⟩,⟨by repeat (first|(with_reducible first|exact HB.out|apply oA|apply pN|apply o1|refine bS ?_ Bi.out|refine bS ?_ Bk.out)|exact HB.out)⟩⟩
     case rest =>
      clear HC40
      try clear c1
      try clear c2
      try clear p2
      try clear q2
      try clear hx2
      try clear c3
      try clear c4
      try clear c4b0
      try clear c4b1
      try clear c5
      try clear p6
      try clear c9
      try clear c18
      try clear c22
      try clear c22b0
      try clear c22b1
      try clear c22b2
      try clear c24
      try clear c25
      try clear p26
      try clear q26
      try clear hx26
      try clear c29
      try clear c32
      try clear c33
      try clear c34
      try clear c34b0
      try clear c34b1
      try clear c34b2
      try clear c36
      try clear c43
      try clear c43b0
      try clear c44
      try clear c44b0
      try clear c45
      try clear c45b0
      try clear c46
      try clear c46b0
      try clear c46b1
      try clear c47
      try clear Bv
      try clear Bw
      try clear Bx
      try clear BB
      try clear BC
      try clear BD
      try clear BH
      try clear BI
      try clear BJ
      try clear BN
      try clear BO
      try clear BP
      try clear BT
      try clear BU
      try clear BV
      try clear BZ
      try clear B0
      try clear B1
      try clear B9
      try clear Da
      try clear Db
      try clear Df
      try clear Dg
      try clear Dh
      try clear By
      try clear Bz
      try clear BA
      try clear BE
      try clear BF
      try clear BG
      try clear BK
      try clear BL
      try clear BM
      try clear BQ
      try clear BR
      try clear BS
      try clear BW
      try clear BX
      try clear BY
      try clear B2
      try clear B3
      try clear B4
      try clear Dc
      try clear Dd
      try clear De
      try clear Di
      try clear Dj
      try clear Dk
      try clear hx267_0
      try clear p2
      try clear p267
      try clear q267
      obtain ⟨kq,x11_39,HA,Do,Bl,Bf,Bd,Bg,Be,Bc,Bb,HB⟩:=hcut
      cases kq with
     |zero=>exact absurd HA.out (by simp [laws_FnLockEnds.j3])
     |succ kj39 =>
       have H:=HA.out
       clear HA
       simp only [laws_FnLockEnds.j3] at H
       have H':=Am H
       clear H
       go_wp2
       go_loopg [11,13] kj39 (fun kq v11 v13 w'=>∃ (x11_4:List Int) (x13_4:Int),v13=.int .i64 x13_4∧Aside0 (laws_FnLockEnds.l1 kq t242 x11_4 x13_4 t244 t245 t248=some r)∧Aside0 (kq≤kj39)∧Aside0 (Kd.R (Kd.int .i64) 3 w' w.heap.size (fun k_=>some k_≠((.slice Ao15 t248.length co15):Value).ownBlock∧some k_≠((.slice Ao21 t257.length co21):Value).ownBlock) v11 x11_4)∧Aside0 (Kd.R k57 57 w' w.heap.size (fun k_=>some k_≠((.slice Ao20 t254.length co20):Value).ownBlock) (.slice Ao14 t245.length co14) t245)∧Aside0 (Kd.Q (Kd.int .i64) 3 w' w.heap.size (fun k_=>some k_≠(v11:Value).ownBlock∧some k_≠((.slice Ao21 t257.length co21):Value).ownBlock) (.slice Ao15 t248.length co15) t248)∧Aside0 (Kd.R k57 57 w' w.heap.size (fun k_=>some k_≠((.slice Ao14 t245.length co14):Value).ownBlock) (.slice Ao20 t254.length co20) t254)∧Aside0 (Kd.Q (Kd.int .i64) 3 w' w.heap.size (fun k_=>some k_≠(v11:Value).ownBlock∧some k_≠((.slice Ao15 t248.length co15):Value).ownBlock) (.slice Ao21 t257.length co21) t257)∧Aside0 (w'.heap[Bh]?=some (.cells #[.int .i64 t244,(.slice Ao14 t245.length co14),(.slice Ao15 t248.length co15)] 51 (0,0)))∧Aside0 (w'.heap[Ba]?=some (.cells #[.int .i64 t253,(.slice Ao20 t254.length co20),(.slice Ao21 t257.length co21)] 51 (0,0)))∧Aside0 (Below w.heap.size w w'))
       case atStart=>exact ⟨(x11_39),(0),(by first|rfl|(simp;done)|(simp [*];done)),H',⟨nR _⟩,⟨by (with_reducible repeat (first|apply rA|apply rN|apply rD));exact Bl.out⟩,⟨by (with_reducible repeat (first|apply rA|apply rN|apply rD));exact Bf.out⟩,⟨by (with_reducible repeat (first|apply Kd.Q_alloc|apply Kd.Q_drewN|apply Kd.Q_drew));exact Bd.out⟩,⟨by (with_reducible repeat (first|apply rA|apply rN|apply rD));exact Bg.out⟩,⟨by (with_reducible repeat (first|apply Kd.Q_alloc|apply Kd.Q_drewN|apply Kd.Q_drew));exact Be.out⟩,⟨by (with_reducible repeat (first|refine bN ?_ _|refine bD ?_|refine bA ?_ _));exact Bc.out⟩,⟨by (with_reducible repeat (first|refine bN ?_ _|refine bD ?_|refine bA ?_ _));exact Bb.out⟩,⟨by repeat (first|(with_reducible first|exact HB.out|apply oA|apply pN|apply o1|refine bS ?_ Bi.out|refine bS ?_ Bk.out)|exact HB.out)⟩⟩
       case round =>
        clear H'
        try clear c1
        try clear c2
        try clear p2
        try clear q2
        try clear hx2
        try clear c3
        try clear c4
        try clear c4b0
        try clear c4b1
        try clear c5
        try clear p6
        try clear c9
        try clear c18
        try clear c22
        try clear c22b0
        try clear c22b1
        try clear c22b2
        try clear c24
        try clear c25
        try clear p26
        try clear q26
        try clear hx26
        try clear c29
        try clear c32
        try clear c33
        try clear c34
        try clear c34b0
        try clear c34b1
        try clear c34b2
        try clear c36
        try clear c43
        try clear c43b0
        try clear c44
        try clear c44b0
        try clear c45
        try clear c45b0
        try clear c46
        try clear c46b0
        try clear c46b1
        try clear c47
        try clear Bv
        try clear Bw
        try clear Bx
        try clear BB
        try clear BC
        try clear BD
        try clear BH
        try clear BI
        try clear BJ
        try clear BN
        try clear BO
        try clear BP
        try clear BT
        try clear BU
        try clear BV
        try clear BZ
        try clear B0
        try clear B1
        try clear B9
        try clear Da
        try clear Db
        try clear Df
        try clear Dg
        try clear Dh
        try clear By
        try clear Bz
        try clear BA
        try clear BE
        try clear BF
        try clear BG
        try clear BK
        try clear BL
        try clear BM
        try clear BQ
        try clear BR
        try clear BS
        try clear BW
        try clear BX
        try clear BY
        try clear B2
        try clear B3
        try clear B4
        try clear Dc
        try clear Dd
        try clear De
        try clear Di
        try clear Dj
        try clear Dk
        try clear hx267_0
        try clear p2
        try clear p26
        try clear p267
        try clear p6
        try clear q2
        try clear q26
        try clear q267
        obtain ⟨x11_4,x13_4,rfl,HA,HK4,Bl,Bf,Bd,Bg,Be,Bc,Bb,HB⟩:=hrel
        cases gk with
       |zero=>exact absurd HA.out (by simp [laws_FnLockEnds.l1])
       |succ k4 =>
         have H:=HA.out
         clear HA
         simp only [laws_FnLockEnds.l1] at H
         by_cases c49:x13_4<(wrap64 (200 * t242))
         ·rw [if_pos c49] at H
          have c49b0:decide (x13_4<(wrap64 (200 * t242)))=true:=dT c49
          clear c49
          by_cases c50:t242=0
          ·rw [if_pos c50] at H
           exact absurd H (by simp)
          rw [if_neg c50] at H
          have c50b0:(t242 == 0)=false:=beq_eq_false_iff_ne.mpr c50
          have c50b1:(t242 != 0)=true:=bne_iff_ne.mpr c50
          by_cases c51:x11_4.length<17592186044416
          rotate_left
          ·rw [if_neg c51] at H
           exact absurd H (by simp)
          rw [if_pos c51] at H
          have LMc51:=Am c51
          clear c51
          obtain ⟨y271,hy271⟩:∃ y_:List Int,y_=(x11_4 ++ [Int.tmod x13_4 t242]):=⟨_,rfl⟩
          replace H:(laws_FnLockEnds.l1 k4 t242 y271 (wrap64 (x13_4 + 1)) t244 t245 t248)=some r:=by first|(rw [hy271];with_reducible exact H)|(have H2_:=(Option.bind_some _ _).symm.trans H;rw [hy271];with_reducible exact H2_)|(have H2_:=(Option.bind_some _ _).symm.trans H;with_reducible exact H2_)|with_reducible exact H|(rw [hy271];exact H)|exact H
          have Ny271:=Am hy271
          clear hy271
          have H':=Am H
          clear H
          go_wp2_with (first|((with_reducible refine gate_builtin (b:=.append) (xs:=#[.tmp 90,.tmp 94]) rfl ?_);(try (refine gate_guard (by rfl) ?_;dsimp only));at_builtin;refine Kd.R_append (Kd.int .i64) (w0:=w) w.heap.size rfl (.tmp 90) (.tmp 94) 24 3 (.int .i64 0) 8 rfl Try.underlying24 info3 rfl (by decide) (by omega) u11 x11_4 (Int.tmod x13_4 t242) [.int .i64 (Int.tmod x13_4 t242)] (fun k_=>some k_≠(.slice Ao15 t248.length co15:Value).ownBlock∧some k_≠(.slice Ao21 t257.length co21:Value).ownBlock) (fun _=>False) rfl rfl ?aP (fun _ hk=>hk.elim) ?aF ?aO ?aB ?aS ?aL ?_;(case aP=>exact rfl);(case aB=>exact (by repeat (first|(with_reducible first|exact HB.out|apply oA|apply pN|apply o1|refine bS ?_ Bi.out|refine bS ?_ Bk.out)|exact HB.out)));(case aF=>exact (fun k_ hk=>⟨Kd.fresh' (qI (qL Bd.out)) k_ hk,Kd.fresh' (qI (qL Be.out)) k_ hk⟩));(case aO=>exact (rL Bl.out));(case aS=>exact (bZ (by repeat (first|(with_reducible first|exact HB.out|apply oA|apply pN|apply o1|refine bS ?_ Bi.out|refine bS ?_ Bk.out)|exact HB.out))));(case aL=>have:=LMc51.out;omega);intro v272 w52 ho hb hg hat;rw [← Ny271.out] at ho;have n0_:=Am (rO (rL Bf.out) (rY (rL Bl.out)) (by decide) hg);have n1_:=Am (Kd.Q_after (ok:=(fun k_=>some k_≠(.slice Ao21 t257.length co21:Value).ownBlock)) (by (with_reducible repeat (first|apply Kd.Q_alloc|apply Kd.Q_drewN|apply Kd.Q_drew));exact qM Bd.out (fun _ hk=>⟨hk.2,hk.1⟩)) hg hat);have n2_:=Am (rO (rL Bg.out) (rY (rL Bl.out)) (by decide) hg);have n3_:=Am (Kd.Q_after (ok:=(fun k_=>some k_≠(.slice Ao15 t248.length co15:Value).ownBlock)) (by (with_reducible repeat (first|apply Kd.Q_alloc|apply Kd.Q_drewN|apply Kd.Q_drew));exact qM Be.out (fun _ hk=>⟨hk.2,hk.1⟩)) hg hat);have n4_:=Am (bG (g:=Bh) (o:=.cells #[.int .i64 t244,.slice Ao14 t245.length co14,.slice Ao15 t248.length co15] 51 (0,0)) (bL Bc.out) hg (rE Bl.out Bc.out (by decide)));have n5_:=Am (bG (g:=Ba) (o:=.cells #[.int .i64 t253,.slice Ao20 t254.length co20,.slice Ao21 t257.length co21] 51 (0,0)) (bL Bb.out) hg (rE Bl.out Bb.out (by decide)));have n6_:=Am (hb);have n7_:=Am (ho);clear Bf Bd Bg Be Bc Bb HB Bl;revert n0_ n1_ n2_ n3_ n4_ n5_ n6_ n7_;intro Bf Bd Bg Be Bc Bb HB DF;clear ho hb hg hat))
          go_roundg k4
          case measure=>have:=B5.out;have:=Dn.out;have:=Do.out;have:=HK4.out;omega
          case rel=>exact ⟨(y271),(wrap64 (x13_4 + 1)),(by first|rfl|(simp;done)|(simp [*];done)),H',⟨by have:=B5.out;have:=Dn.out;have:=Do.out;have:=HK4.out;omega⟩,⟨by (with_reducible repeat (first|apply rA|apply rN|apply rD));exact DF.out⟩,⟨by (with_reducible repeat (first|apply rA|apply rN|apply rD));exact Bf.out⟩,⟨by (with_reducible repeat (first|apply Kd.Q_alloc|apply Kd.Q_drewN|apply Kd.Q_drew));exact qM Bd.out (fun _ hk=>⟨hk.2,hk.1⟩)⟩,⟨by (with_reducible repeat (first|apply rA|apply rN|apply rD));exact Bg.out⟩,⟨by (with_reducible repeat (first|apply Kd.Q_alloc|apply Kd.Q_drewN|apply Kd.Q_drew));exact qM Be.out (fun _ hk=>⟨hk.2,hk.1⟩)⟩,⟨by (with_reducible repeat (first|refine bN ?_ _|refine bD ?_|refine bA ?_ _));exact Bc.out⟩,⟨by (with_reducible repeat (first|refine bN ?_ _|refine bD ?_|refine bA ?_ _));exact Bb.out⟩,⟨by repeat (first|(with_reducible first|exact HB.out|apply oA|apply pN|apply o1|refine bS ?_ Bi.out|refine bS ?_ Bk.out)|exact HB.out)⟩⟩
         rw [if_neg c49] at H
         have c49b0:decide (x13_4<(wrap64 (200 * t242)))=false:=dF c49
         clear c49
         replace H:=oC H
         obtain ⟨⟨t274,t275,t278,t281⟩,A530,H⟩:=H
         replace H:(laws_FnLockEnds.l2 k4 t281 0 t274 t275 t278)=some r:=H
         have A53:=Am A530
         clear A530
         have H':=Am H
         clear H
         have D2:=Br.out
         have D3:=Bs.out
         have Dr:=cz0 Bc.out
         have Ds:=cz1 Bc.out
         have Dt:=cz2 Bc.out
         have Du:=bF Bc.out 0
         have Dv:=bF Bc.out 1
         have Dw:=bF Bc.out 2
         obtain ⟨Ao56,co56,eo56⟩:=rC Bl.out
         subst eo56
         go_wp2_with (first|((with_reducible refine gC (f:=37) rfl ?_);refine goesL_ (some 99) rfl rfl Try.func37 (by kernel_rfl) rfl #[.agg #[.int .i64 t244,.slice Ao14 t245.length co14,.slice Ao15 t248.length co15],.slice Ao56 x11_4.length co56] rfl (by (try simp only [lM,lC,lN]);first|done|rfl|(simp only [lD,lT];rfl)) ?_;(with_reducible refine (impl_LockRun.calls k4 t244 _ _ t245 _ _ t248 _ _ x11_4 t274 t275 t278 t281 _ ?side1 ?side2 ?side3 ?side4 ?side5 ?side6 A53.out).mono ?_);(case side1=>exact cL (rR Bf.out).2.2);(case side2=>exact (rR Bf.out).2.1);(case side3=>exact cL (qR Bd.out).2.2);(case side4=>exact (qR Bd.out).2.1);(case side5=>exact cL (rR Bl.out).2.2);(case side6=>exact (rR Bl.out).2.1);rintro e w57 ⟨v276,v279,rfl,ho0,ho1,hb⟩;refine ⟨_,rfl,?_⟩;have n0_:=Am (rX (rL Bl.out) (Kd.Q_base ho1) hb);have n1_:=Am (rX (rL Bf.out) (rZ ho0) hb);have n2_:=Am (Kd.Q_elder' (qL Bd.out) (Kd.Q_base ho1) hb);have n3_:=Am (rX (rL Bg.out) (rZ ho0) hb);have n4_:=Am (Kd.Q_elder' (qL Be.out) (Kd.Q_base ho1) hb);have n5_:=Am (rW (rQ (rQ ho0 (rI (rL Bf.out))) (rI (rL Bg.out))) (bZ (by repeat (first|(with_reducible first|exact HB.out|apply oA|apply pN|apply o1|refine bS ?_ Bi.out|refine bS ?_ Bk.out)|exact HB.out))));have n6_:=Am (Kd.Q_lower (Kd.Q_new' (Kd.Q_new' (Kd.Q_new' ho1 (rI (rL Bl.out))) (qI (qL Bd.out))) (qI (qL Be.out))) (bZ (by repeat (first|(with_reducible first|exact HB.out|apply oA|apply pN|apply o1|refine bS ?_ Bi.out|refine bS ?_ Bk.out)|exact HB.out))));have n7_:=Am (bX Bc.out hb);have n8_:=Am (bX Bb.out hb);have n9_:=Am (bP (by repeat (first|(with_reducible first|exact HB.out|apply oA|apply pN|apply o1|refine bS ?_ Bi.out|refine bS ?_ Bk.out)|exact HB.out)) hb);clear Bl Bf Bd Bg Be Bc Bb HB;revert n0_ n1_ n2_ n3_ n4_ n5_ n6_ n7_ n8_ n9_;intro Bl Bf Bd Bg Be Dl Dm Bc Bb HB;(try clear hb);(try clear hb2);(try clear hk);(try clear hi);(try clear ho0);(try clear ho1))|((with_reducible refine gD (N:=14) rfl ?_);(try (refine gate_guard (by rfl) ?_;dsimp only));refine bI ?hg (N:=14) ?hd (cs:=#[.int .i64 0,.slice none 0 0,.slice none 0 0]) (t:=51) ?hr ?_;(case hd=>rfl);(case hg=>rfl);(case hr=>first|(go_simp;done)|(go_simp;rfl));intro Bj hg w58 hbox hb;have n0_:=Am (rB (rL Bl.out) hb);have n1_:=Am (rB (rL Bf.out) hb);have n2_:=Am (Kd.Q_below (qL Bd.out) hb);have n3_:=Am (rB (rL Bg.out) hb);have n4_:=Am (Kd.Q_below (qL Be.out) hb);have n5_:=Am (rB (rL Dl.out) hb);have n6_:=Am (Kd.Q_below (qL Dm.out) hb);have n7_:=Am (bX Bc.out hb);have n8_:=Am (bX Bb.out hb);have n9_:=Am (bP (by repeat (first|(with_reducible first|exact HB.out|apply oA|apply pN|apply o1|refine bS ?_ Bi.out|refine bS ?_ Bk.out)|exact HB.out)) hb);have n10_:=Am (hbox);have n11_:=Am ((by rw [hg];exact (bZ (by repeat (first|(with_reducible first|exact HB.out|apply oA|apply pN|apply o1|refine bS ?_ Bi.out|refine bS ?_ Bk.out)|exact HB.out))):w.heap.size≤Bj));have n12_:=Am ((by rw [hg];exact (bZ (by repeat (first|(with_reducible first|exact HB.out|apply oA|apply pN|apply o1|refine bS ?_ Bi.out|refine bS ?_ Bk.out)|exact HB.out))):w.heap.size≤Bj));have n13_:=Am ((nL Bc.out hg));have n14_:=Am ((nG Bc.out hg));have n15_:=Am ((nL Bb.out hg));have n16_:=Am ((nG Bb.out hg));clear Bl Bf Bd Bg Be Dl Dm Bc Bb HB;revert n0_ n1_ n2_ n3_ n4_ n5_ n6_ n7_ n8_ n9_ n10_ n11_ n12_ n13_ n14_ n15_ n16_;intro Bl Bf Bd Bg Be Dl Dm Bc Bb HB Bm D4 Dp Bt B6 Bu B7;clear hb hbox hg;have D5:=B6.out;have D6:=Bt.out;have D7:=B7.out;have D8:=Bu.out;have Dx:=cz0 Bm.out;have Dy:=cz1 Bm.out;have Dz:=cz2 Bm.out;have DA:=bF Bm.out 0;have DB:=bF Bm.out 1;have DC:=bF Bm.out 2;obtain ⟨Ao62,co62,eo62⟩:=rC Dl.out;subst eo62;obtain ⟨Ao63,co63,eo63,_⟩:=Kd.Q_slice Dm.out;subst eo63))
         go_loopg [16] k4 (fun kq v16 w'=>∃ (x16_5:Int),v16=.int .i64 x16_5∧Aside0 (laws_FnLockEnds.l2 kq t281 x16_5 t274 t275 t278=some r)∧Aside0 (kq≤k4)∧Aside0 (Kd.R k57 57 w' w.heap.size (fun k_=>some k_≠((.slice Ao20 t254.length co20):Value).ownBlock∧some k_≠((.slice Ao62 t275.length co62):Value).ownBlock) (.slice Ao14 t245.length co14) t245)∧Aside0 (Kd.Q (Kd.int .i64) 3 w' w.heap.size (fun k_=>some k_≠((.slice Ao21 t257.length co21):Value).ownBlock∧some k_≠((.slice Ao63 t278.length co63):Value).ownBlock) (.slice Ao15 t248.length co15) t248)∧Aside0 (Kd.R k57 57 w' w.heap.size (fun k_=>some k_≠((.slice Ao14 t245.length co14):Value).ownBlock∧some k_≠((.slice Ao62 t275.length co62):Value).ownBlock) (.slice Ao20 t254.length co20) t254)∧Aside0 (Kd.Q (Kd.int .i64) 3 w' w.heap.size (fun k_=>some k_≠((.slice Ao15 t248.length co15):Value).ownBlock∧some k_≠((.slice Ao63 t278.length co63):Value).ownBlock) (.slice Ao21 t257.length co21) t257)∧Aside0 (Kd.R k57 57 w' w.heap.size (fun k_=>some k_≠((.slice Ao14 t245.length co14):Value).ownBlock∧some k_≠((.slice Ao20 t254.length co20):Value).ownBlock) (.slice Ao62 t275.length co62) t275)∧Aside0 (Kd.Q (Kd.int .i64) 3 w' w.heap.size (fun k_=>some k_≠((.slice Ao15 t248.length co15):Value).ownBlock∧some k_≠((.slice Ao21 t257.length co21):Value).ownBlock) (.slice Ao63 t278.length co63) t278)∧Aside0 (w'.heap[Bh]?=some (.cells #[.int .i64 t244,(.slice Ao14 t245.length co14),(.slice Ao15 t248.length co15)] 51 (0,0)))∧Aside0 (w'.heap[Ba]?=some (.cells #[.int .i64 t253,(.slice Ao20 t254.length co20),(.slice Ao21 t257.length co21)] 51 (0,0)))∧Aside0 (w'.heap[Bj]?=some (.cells #[.int .i64 t274,(.slice Ao62 t275.length co62),(.slice Ao63 t278.length co63)] 51 (0,0)))∧Aside0 (Below w.heap.size w w'))
         case atStart=>exact ⟨(0),(by first|rfl|(simp;done)|(simp [*];done)),H',⟨nR _⟩,⟨by (with_reducible repeat (first|apply rA|apply rN|apply rD));exact rM (rF (p:=⟨Bj,2,none⟩) (rF (p:=⟨Bj,1,none⟩) (rF (p:=⟨Bj,0,none⟩) (rT Bf.out Bm.out (by decide)) (fun _ hk=>hk.2) (.int .i64 t274)) (fun _ hk=>hk.2) (.slice Ao62 t275.length co62)) (fun _ hk=>hk.2) (.slice Ao63 t278.length co63)) (fun _ hk=>⟨hk.1.1,hk.1.2⟩)⟩,⟨by (with_reducible repeat (first|apply Kd.Q_alloc|apply Kd.Q_drewN|apply Kd.Q_drew));exact qM (Kd.Q_far (p:=⟨Bj,2,none⟩) (Kd.Q_far (p:=⟨Bj,1,none⟩) (Kd.Q_far (p:=⟨Bj,0,none⟩) (Kd.Q_types Bd.out Bm.out (by decide)) (fun _ hk=>hk.2) (.int .i64 t274)) (fun _ hk=>hk.2) (.slice Ao62 t275.length co62)) (fun _ hk=>hk.2) (.slice Ao63 t278.length co63)) (fun _ hk=>⟨hk.1.1.2,hk.1.2⟩)⟩,⟨by (with_reducible repeat (first|apply rA|apply rN|apply rD));exact rM (rF (p:=⟨Bj,2,none⟩) (rF (p:=⟨Bj,1,none⟩) (rF (p:=⟨Bj,0,none⟩) (rT Bg.out Bm.out (by decide)) (fun _ hk=>hk.2) (.int .i64 t274)) (fun _ hk=>hk.2) (.slice Ao62 t275.length co62)) (fun _ hk=>hk.2) (.slice Ao63 t278.length co63)) (fun _ hk=>⟨hk.1.1,hk.1.2⟩)⟩,⟨by (with_reducible repeat (first|apply Kd.Q_alloc|apply Kd.Q_drewN|apply Kd.Q_drew));exact qM (Kd.Q_far (p:=⟨Bj,2,none⟩) (Kd.Q_far (p:=⟨Bj,1,none⟩) (Kd.Q_far (p:=⟨Bj,0,none⟩) (Kd.Q_types Be.out Bm.out (by decide)) (fun _ hk=>hk.2) (.int .i64 t274)) (fun _ hk=>hk.2) (.slice Ao62 t275.length co62)) (fun _ hk=>hk.2) (.slice Ao63 t278.length co63)) (fun _ hk=>⟨hk.1.1.2,hk.1.2⟩)⟩,⟨by (with_reducible repeat (first|apply rA|apply rN|apply rD));exact rM (rF (p:=⟨Bj,2,none⟩) (rF (p:=⟨Bj,1,none⟩) (rF (p:=⟨Bj,0,none⟩) (rT Dl.out Bm.out (by decide)) (fun _ hk=>hk.2) (.int .i64 t274)) (fun _ hk=>hk.2) (.slice Ao62 t275.length co62)) (fun _ hk=>hk.2) (.slice Ao63 t278.length co63)) (fun _ hk=>⟨hk.1.1.2,hk.1.2⟩)⟩,⟨by (with_reducible repeat (first|apply Kd.Q_alloc|apply Kd.Q_drewN|apply Kd.Q_drew));exact qM (Kd.Q_far (p:=⟨Bj,2,none⟩) (Kd.Q_far (p:=⟨Bj,1,none⟩) (Kd.Q_far (p:=⟨Bj,0,none⟩) (Kd.Q_types Dm.out Bm.out (by decide)) (fun _ hk=>hk.2) (.int .i64 t274)) (fun _ hk=>hk.2) (.slice Ao62 t275.length co62)) (fun _ hk=>hk.2) (.slice Ao63 t278.length co63)) (fun _ hk=>⟨hk.1.1.2,hk.1.2⟩)⟩,⟨by (with_reducible repeat (first|refine bN ?_ _|refine bD ?_|refine bA ?_ _|refine bE ?_ Bt.out _));exact Bc.out⟩,⟨by (with_reducible repeat (first|refine bN ?_ _|refine bD ?_|refine bA ?_ _|refine bE ?_ Bu.out _));exact Bb.out⟩,⟨by (with_reducible repeat (first|refine bN ?_ _|refine bD ?_|refine bA ?_ _));refine bT (cs:=#[.int .i64 t274,.slice Ao62 t275.length co62,.slice none 0 0]) ?_ 2 _ rfl;(with_reducible repeat (first|refine bN ?_ _|refine bD ?_|refine bA ?_ _));refine bT (cs:=#[.int .i64 t274,.slice none 0 0,.slice none 0 0]) ?_ 1 _ rfl;(with_reducible repeat (first|refine bN ?_ _|refine bD ?_|refine bA ?_ _));refine bT (cs:=#[.int .i64 0,.slice none 0 0,.slice none 0 0]) ?_ 0 _ rfl;(with_reducible repeat (first|refine bN ?_ _|refine bD ?_|refine bA ?_ _));exact Bm.out⟩,⟨by repeat (first|(with_reducible first|exact HB.out|apply oA|apply pN|apply o1|refine bS ?_ Bi.out|refine bS ?_ Bk.out|refine bS ?_ Dp.out)|exact HB.out)⟩⟩
         case round =>
          clear H'
          try clear c1
          try clear c2
          try clear p2
          try clear q2
          try clear hx2
          try clear c3
          try clear c4
          try clear c4b0
          try clear c4b1
          try clear c5
          try clear c6
          try clear p6
          try clear c9
          try clear c18
          try clear c22
          try clear c22b0
          try clear c22b1
          try clear c22b2
          try clear c24
          try clear c25
          try clear p26
          try clear q26
          try clear hx26
          try clear c29
          try clear c32
          try clear c33
          try clear c34
          try clear c34b0
          try clear c34b1
          try clear c34b2
          try clear c36
          try clear c37
          try clear c43
          try clear c43b0
          try clear c44
          try clear c44b0
          try clear c45
          try clear c45b0
          try clear c46
          try clear c46b0
          try clear c46b1
          try clear c47
          try clear c49
          try clear c49b0
          try clear c50
          try clear c50b0
          try clear c50b1
          try clear c51
          try clear c54
          try clear c59
          try clear c60
          try clear Bv
          try clear Bw
          try clear Bx
          try clear BB
          try clear BC
          try clear BD
          try clear BH
          try clear BI
          try clear BJ
          try clear BN
          try clear BO
          try clear BP
          try clear BT
          try clear BU
          try clear BV
          try clear BZ
          try clear B0
          try clear B1
          try clear B9
          try clear Da
          try clear Db
          try clear Df
          try clear Dg
          try clear Dh
          try clear Dr
          try clear Ds
          try clear Dt
          try clear Dx
          try clear Dy
          try clear Dz
          try clear By
          try clear Bz
          try clear BA
          try clear BE
          try clear BF
          try clear BG
          try clear BK
          try clear BL
          try clear BM
          try clear BQ
          try clear BR
          try clear BS
          try clear BW
          try clear BX
          try clear BY
          try clear B2
          try clear B3
          try clear B4
          try clear Dc
          try clear Dd
          try clear De
          try clear Di
          try clear Dj
          try clear Dk
          try clear Du
          try clear Dv
          try clear Dw
          try clear DA
          try clear DB
          try clear DC
          try clear hx267_0
          try clear p2
          try clear p26
          try clear p267
          try clear p6
          try clear q2
          try clear q26
          try clear q267
          obtain ⟨x16_5,rfl,HA,HK5,Bf,Bd,Bg,Be,B8,Dq,Bc,Bb,Bm,HB⟩:=hrel
          cases gk with
         |zero=>exact absurd HA.out (by simp [laws_FnLockEnds.l2])
         |succ k5 =>
           have H:=HA.out
           clear HA
           simp only [laws_FnLockEnds.l2] at H
           by_cases c64:x16_5<(t275.length:Int)
           rotate_left
           ·rw [if_neg c64] at H
            have c64b0:decide (x16_5<(t275.length:Int))=false:=dF c64
            clear c64
            by_cases c71:t281 ≥ 0
            rotate_left
            ·rw [if_neg c71] at H
             have c71b0:decide (0≤t281)=false:=dF c71
             clear c71
             exact absurd ((oJ H).trans hT_.out) (by decide)

            rw [if_pos c71] at H
            have c71b0:decide (0≤t281)=true:=dT c71
            clear c71
            by_cases c72:t274=0
            rotate_left
            ·rw [if_neg c72] at H
             have c72b0:(t274 == 0)=false:=beq_eq_false_iff_ne.mpr c72
             have c72b1:(t274 != 0)=true:=bne_iff_ne.mpr c72
             exact absurd ((oJ H).trans hT_.out) (by decide)
            rw [if_pos c72] at H
            have c72b0:(t274 == 0)=true:=beq_iff_eq.mpr c72
            have c72b1:(t274 != 0)=false:=bne_eq_false_iff_eq.mpr c72
            clear c72
            obtain rfl:=oJ H
            have Fd:=B6.out
            have Fe:=Bt.out
            have Ff:=B7.out
            have Fg:=Bu.out
            have DM:=cz0 Bm.out
            have DN:=cz1 Bm.out
            have DO:=cz2 Bm.out
            have DP:=bF Bm.out 0
            have DQ:=bF Bm.out 1
            have DR:=bF Bm.out 2
            go_wp2
            go_ret
            exact ⟨by first|rfl|(simp [errW_none,errW_some] <;> rfl)|(simp [*,errW_none,errW_some] <;> rfl),by repeat (first|(with_reducible first|exact HB.out|apply oA|apply pN|apply o1|refine bS ?_ Bi.out|refine bS ?_ Bk.out|refine bS ?_ Dp.out)|exact HB.out)⟩
           rw [if_pos c64] at H
           have c64b0:decide (x16_5<(t275.length:Int))=true:=dT c64
           clear c64
           by_cases c65:0≤x16_5
           rotate_left
           ·rw [if_neg c65] at H
            exact absurd H (by simp)
           rw [if_pos c65] at H
           have c65b0:decide (0≤x16_5)=true:=dT c65
           clear c65
           by_cases c66:((rd_T57 t275 x16_5).f2) > 0
           ·rw [if_pos c66] at H
            have c66b0:decide (0<((rd_T57 t275 x16_5).f2))=true:=dT c66
            clear c66
            exact absurd ((oJ H).trans hT_.out) (by decide)
           rw [if_neg c66] at H
           have c66b0:decide (0<((rd_T57 t275 x16_5).f2))=false:=dF c66
           clear c66
           by_cases c67:((rd_T57 t275 x16_5).f0) > 0
           ·rw [if_pos c67] at H
            have c67b0:decide (0<((rd_T57 t275 x16_5).f0))=true:=dT c67
            clear c67
            exact absurd ((oJ H).trans hT_.out) (by decide)
           rw [if_neg c67] at H
           have c67b0:decide (0<((rd_T57 t275 x16_5).f0))=false:=dF c67
           clear c67
           have H':=Am H
           clear H
           have D9:=B6.out
           have Fa:=Bt.out
           have Fb:=B7.out
           have Fc:=Bu.out
           have DG:=cz0 Bm.out
           have DH:=cz1 Bm.out
           have DI:=cz2 Bm.out
           have DJ:=bF Bm.out 0
           have DK:=bF Bm.out 1
           have DL:=bF Bm.out 2
           have p283:0≤(x16_5:Int):=oE (by first|(with_reducible assumption)|assumption)
           have q283:x16_5<(t275.length:Int):=oE (by first|(with_reducible assumption)|assumption)
           obtain ⟨ad283,e283,hx283_0,hx283_1,hx283_2,hx283_3⟩:=at_T57 (rR B8.out).2.2 x16_5 p283 q283
           cases e283
           replace p283:=eq_true p283
           replace q283:=eq_true q283
           have p284:0≤(x16_5:Int):=oE (by first|(with_reducible assumption)|assumption)
           have q284:x16_5<(t275.length:Int):=oE (by first|(with_reducible assumption)|assumption)
           obtain ⟨ad284,e284,hx284_0,hx284_1,hx284_2,hx284_3⟩:=at_T57 (rR B8.out).2.2 x16_5 p284 q284
           obtain rfl:ad283=ad284:=(by injection e284)
           replace p284:=eq_true p284
           replace q284:=eq_true q284
           go_wp2
           go_roundg k5
           case measure=>have:=B5.out;have:=Dn.out;have:=Do.out;have:=HK4.out;have:=HK5.out;omega
           case rel=>exact ⟨(wrap64 (x16_5 + 1)),(by first|rfl|(simp;done)|(simp [*];done)),H',⟨by have:=B5.out;have:=Dn.out;have:=Do.out;have:=HK4.out;have:=HK5.out;omega⟩,⟨by (with_reducible repeat (first|apply rA|apply rN|apply rD));exact Bf.out⟩,⟨by (with_reducible repeat (first|apply Kd.Q_alloc|apply Kd.Q_drewN|apply Kd.Q_drew));exact Bd.out⟩,⟨by (with_reducible repeat (first|apply rA|apply rN|apply rD));exact Bg.out⟩,⟨by (with_reducible repeat (first|apply Kd.Q_alloc|apply Kd.Q_drewN|apply Kd.Q_drew));exact Be.out⟩,⟨by (with_reducible repeat (first|apply rA|apply rN|apply rD));exact B8.out⟩,⟨by (with_reducible repeat (first|apply Kd.Q_alloc|apply Kd.Q_drewN|apply Kd.Q_drew));exact Dq.out⟩,⟨by (with_reducible repeat (first|refine bN ?_ _|refine bD ?_|refine bA ?_ _));exact Bc.out⟩,⟨by (with_reducible repeat (first|refine bN ?_ _|refine bD ?_|refine bA ?_ _));exact Bb.out⟩,⟨by (with_reducible repeat (first|refine bN ?_ _|refine bD ?_|refine bA ?_ _));exact Bm.out⟩,⟨by repeat (first|(with_reducible first|exact HB.out|apply oA|apply pN|apply o1|refine bS ?_ Bi.out|refine bS ?_ Bk.out|refine bS ?_ Dp.out)|exact HB.out)⟩⟩
/-- THE ONE PURE STATEMENT of laws_FnLockEnds: yours. -/
def laws_FnLockEnds.Pure:Prop:=∀ (l0:List Int) (l1:List Int),l0.length≤maxLen → l0.length * 1≤140737488351232 → (∀ x ∈ l0,(Lit.int .u8 x).wf=true) → l1.length≤maxLen → l1.length * 1≤140737488351232 → (∀ x ∈ l1,(Lit.int .u8 x).wf=true) → ∃ k,laws_FnLockEnds.f k l0 l1=some true
theorem laws_FnLockEnds.walk (P:laws_FnLockEnds.Pure) (a0:Option Addr) (len0 cap0:Nat) (z0:List Int) (a1:Option Addr) (len1 cap1:Nat) (z1:List Int) (w:World) (w0:(a0=none∧len0=0∧cap0=0∧z0=[])∨∃ x,a0=some x∧len0≤cap0∧cap0≤maxLen∧z0.length=cap0∧(∀ i,i<z0.length → w.cell? (x.add i)=some (.int .u8 (z0.getD i 0)))∧∀ n ∈ z0,(Lit.int .u8 n).wf=true) (y0:len0 * 1≤140737488351232) (w1:(a1=none∧len1=0∧cap1=0∧z1=[])∨∃ x,a1=some x∧len1≤cap1∧cap1≤maxLen∧z1.length=cap1∧(∀ i,i<z1.length → w.cell? (x.add i)=some (.int .u8 (z1.getD i 0)))∧∀ n ∈ z1,(Lit.int .u8 n).wf=true) (y1:len1 * 1≤140737488351232) :
  Calls Try.prog 9 #[.slice a0 len0 cap0,.slice a1 len1 cap1] w fun e w'=>e=.returned (.bool true)∧Below w.heap.size w w':=by
 obtain ⟨l0,rfl,hr0,hm0,hw0,hc0⟩:=ReadsInt.ofRowC w0
 obtain ⟨l1,rfl,hr1,hm1,hw1,hc1⟩:=ReadsInt.ofRowC w1
 obtain ⟨k,h⟩:=P l0 l1 hm0 y0 hw0 hm1 y1 hw1
 refine (laws_FnLockEnds.calls k _ _ l0 _ _ l1 true w (Kd.C_of_reads (d:=(0:Int)) (h1:=fun _=>rfl) hr0) hc0 (Kd.C_of_reads (d:=(0:Int)) (h1:=fun _=>rfl) hr1) hc1 h ⟨rfl⟩).mono ?_
 rintro e w' ⟨rfl,hd⟩
 exact ⟨rfl,hd⟩

end Go.Proofs.Ytpdfkbggaihfpaa.PFnLockEnds
