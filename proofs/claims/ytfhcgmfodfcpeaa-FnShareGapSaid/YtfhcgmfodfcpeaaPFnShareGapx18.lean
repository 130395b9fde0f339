/- Proved here, without a condition beyond those that each theorem states: what the Go functions named below do is what the plain functions of the same names say. Written by xprint.py, a program of this session. -/
import Derived.Test.YtfhcgmfodfcpeaaPFnShareGapx0
import Derived.Test.YtfhcgmfodfcpeaaPFnShareGapx2
import Derived.Test.YtfhcgmfodfcpeaaPFnShareGapx6
import Derived.Test.YtfhcgmfodfcpeaaPFnShareGapx13
import Derived.Test.YtfhcgmfodfcpeaaPFnShareGapx16
import Derived.Test.YtfhcgmfodfcpeaaPFnShareGapx17
namespace Go.Proofs.Ytfhcgmfodfcpeaa.PFnShareGap
open Go.RowKit Go.Proofs.YtfhcgmfodfcpeaaW.PrintWords Go.Proofs.YtfhcgmfodfcpeaaW.PrintLast Go.Proofs.YtfhcgmfodfcpeaaW.PrintMore
attribute [local go_sem] max2_int min2_int max_two min_two max_three min_three max_four min_four   -- for this text's walks alone
set_option linter.unusedVariables false
set_option linter.unusedSimpArgs false

attribute [local go_sem ↓] isSome_setCell_
/-! ### laws_FnShareGap: function 10 -/
mutual
def laws_FnShareGap.j0 : Nat → List Int → Bool → List Int → Bool → Bool → List (S40) → Int → List (S40) → Int → List (S40) → Int → Option (Bool)
|0, _, _, _, _, _, _, _, _, _, _, _ => none
|k + 1, x6, x7, x9, x10, x55, x339000, x339001, x348000, x348001, x357000, x357001 => if x55 = true then (if (x7 == x10) = true then ((laws_qdInts.f k x6 x9).bind fun t359 => (if t359 = true then ((laws_qdQueue.f k x348000 x348001 x357000 x357001).bind fun t360 => (some t360)) else (some false))) else (some false)) else (laws_FnShareGap.l0 k 0 x339000 x339001 x348000 x348001)
def laws_FnShareGap.l0 : Nat → Int → List (S40) → Int → List (S40) → Int → Option (Bool)
|0, _, _, _, _, _ => none
|k + 1, x11, x339000, x339001, x348000, x348001 => if x11 < (x339000.length : Int) then (laws_FnShareGap.l1 k x11 0 x339000 x339001 x348000 x348001) else (some true)
def laws_FnShareGap.l1 : Nat → Int → Int → List (S40) → Int → List (S40) → Int → Option (Bool)
|0, _, _, _, _, _, _ => none
|k + 1, x11, x12, x339000, x339001, x348000, x348001 => if x12 < (x339000.length : Int) then (if 0 ≤ x11 then (if x11 < (x339000.length : Int) then (if ((rd_T40 x339000 x11).f3 = true) then (if 0 ≤ x12 then (laws_FnShareGap.j3 k x11 x12 (!((rd_T40 x339000 x12).f3)) x339000 x339001 x348000 x348001) else (none)) else (laws_FnShareGap.j3 k x11 x12 true x339000 x339001 x348000 x348001)) else (none)) else (none)) else (laws_FnShareGap.l0 k (wrap64 (x11 + 1)) x339000 x339001 x348000 x348001)
def laws_FnShareGap.j3 : Nat → Int → Int → Bool → List (S40) → Int → List (S40) → Int → Option (Bool)
|0, _, _, _, _, _, _, _ => none
|k + 1, x11, x12, x98, x339000, x339001, x348000, x348001 => if x98 = true then (laws_FnShareGap.l1 k x11 (wrap64 (x12 + 1)) x339000 x339001 x348000 x348001) else (if 0 ≤ x11 then (if x11 < (x339000.length : Int) then (if 0 ≤ x12 then (if x12 < (x339000.length : Int) then (if x11 < (x348000.length : Int) then (if x12 < (x348000.length : Int) then (if ((rd_T40 x339000 x11).f1) = 0 then (none) else (if (wrap64 (((rd_T40 x348000 x11).f2) - ((rd_T40 x348000 x12).f2))) > (mx (wrap64 (((rd_T40 x339000 x11).f2) - ((rd_T40 x339000 x12).f2))) (wrap64 (Int.tdiv (60 : Int) ((rd_T40 x339000 x11).f1)))) then (some false) else (laws_FnShareGap.l1 k x11 (wrap64 (x12 + 1)) x339000 x339001 x348000 x348001))) else (none)) else (none)) else (none)) else (none)) else (none)) else (none))
end
def laws_FnShareGap.f (k : Nat) (l0 : List Int) : Option (Bool) := if (l0.length : Int) > 1048576 then (some true) else ((spec_DrawQueueRun.f k l0).bind fun bt333 => ((impl_QueueRun.f k bt333.1 bt333.2.1 bt333.2.2).bind fun bt339 => ((spec_QueueRun.f k bt333.1 bt333.2.1 bt333.2.2).bind fun bt348 => (if (bt339.2.2.2 != bt348.2.2.2) = true then (laws_FnShareGap.j0 k bt339.2.2.1 bt339.2.2.2 bt348.2.2.1 bt348.2.2.2 true bt333.1 bt333.2.1 bt339.1 bt339.2.1 bt348.1 bt348.2.1) else ((laws_qdInts.f k bt339.2.2.1 bt348.2.2.1).bind fun t357 => (if t357 = true then ((laws_qdQueue.f k bt339.1 bt339.2.1 bt348.1 bt348.2.1).bind fun t358 => (if t358 = true then (laws_FnShareGap.j0 k bt339.2.2.1 bt339.2.2.2 bt348.2.2.1 bt348.2.2.2 (!bt339.2.2.2) bt333.1 bt333.2.1 bt339.1 bt339.2.1 bt348.1 bt348.2.1) else (laws_FnShareGap.j0 k bt339.2.2.1 bt339.2.2.2 bt348.2.2.1 bt348.2.2.2 true bt333.1 bt333.2.1 bt339.1 bt339.2.1 bt348.1 bt348.2.1))) else (laws_FnShareGap.j0 k bt339.2.2.1 bt339.2.2.2 bt348.2.2.1 bt348.2.2.2 true bt333.1 bt333.2.1 bt339.1 bt339.2.1 bt348.1 bt348.2.1)))))))
theorem laws_FnShareGap.mono_l : ∀ k, (∀ y0 y1 y2 y3 y4 y5 y6 y7 y8 y9 y10, LeO (laws_FnShareGap.j0 k y0 y1 y2 y3 y4 y5 y6 y7 y8 y9 y10) (laws_FnShareGap.j0 (k + 1) y0 y1 y2 y3 y4 y5 y6 y7 y8 y9 y10)) ∧ (∀ y0 y1 y2 y3 y4, LeO (laws_FnShareGap.l0 k y0 y1 y2 y3 y4) (laws_FnShareGap.l0 (k + 1) y0 y1 y2 y3 y4)) ∧ (∀ y0 y1 y2 y3 y4 y5, LeO (laws_FnShareGap.l1 k y0 y1 y2 y3 y4 y5) (laws_FnShareGap.l1 (k + 1) y0 y1 y2 y3 y4 y5)) ∧ (∀ y0 y1 y2 y3 y4 y5 y6, LeO (laws_FnShareGap.j3 k y0 y1 y2 y3 y4 y5 y6) (laws_FnShareGap.j3 (k + 1) y0 y1 y2 y3 y4 y5 y6))
|0 => ⟨fun _ _ _ _ _ _ _ _ _ _ _ r h => by simp [laws_FnShareGap.j0] at h, fun _ _ _ _ _ r h => by simp [laws_FnShareGap.l0] at h, fun _ _ _ _ _ _ r h => by simp [laws_FnShareGap.l1] at h, fun _ _ _ _ _ _ _ r h => by simp [laws_FnShareGap.j3] at h⟩
|k + 1 => by
  obtain ⟨ih0, ih1, ih2, ih3⟩ := laws_FnShareGap.mono_l k
  refine ⟨?_, ?_, ?_, ?_⟩
  ·intro y0 y1 y2 y3 y4 y5 y6 y7 y8 y9 y10
   unfold laws_FnShareGap.j0
   repeat' first
  |(with_reducible exact ih0 _ _ _ _ _ _ _ _ _ _ _)
  |(with_reducible exact ih1 _ _ _ _ _)
  |(with_reducible exact ih2 _ _ _ _ _ _)
  |(with_reducible exact ih3 _ _ _ _ _ _ _)
  |(with_reducible exact impl_QueueRun.mono _ _ _ _)
  |(with_reducible exact laws_qdInts.mono _ _ _)
  |(with_reducible exact laws_qdQueue.mono _ _ _ _ _)
  |(with_reducible exact spec_DrawQueueRun.mono _ _)
  |(with_reducible exact spec_QueueRun.mono _ _ _ _)
  |(with_reducible exact LeO.refl _)
  |(with_reducible exact LeO.none _)
  |(with_reducible refine LeO.ite ?_ ?_)
  |(with_reducible refine LeO.bind ?_ (fun _ => ?_))
  |exact ih0 _ _ _ _ _ _ _ _ _ _ _
  |exact ih1 _ _ _ _ _
  |exact ih2 _ _ _ _ _ _
  |exact ih3 _ _ _ _ _ _ _
  |exact impl_QueueRun.mono _ _ _ _
  |exact laws_qdInts.mono _ _ _
  |exact laws_qdQueue.mono _ _ _ _ _
  |exact spec_DrawQueueRun.mono _ _
  |exact spec_QueueRun.mono _ _ _ _
  |exact LeO.none _
  |refine LeO.ite ?_ ?_
  |refine LeO.bind ?_ (fun _ => ?_)
  ·intro y0 y1 y2 y3 y4
   unfold laws_FnShareGap.l0
   repeat' first
  |(with_reducible exact ih0 _ _ _ _ _ _ _ _ _ _ _)
  |(with_reducible exact ih1 _ _ _ _ _)
  |(with_reducible exact ih2 _ _ _ _ _ _)
  |(with_reducible exact ih3 _ _ _ _ _ _ _)
  |(with_reducible exact impl_QueueRun.mono _ _ _ _)
  |(with_reducible exact laws_qdInts.mono _ _ _)
  |(with_reducible exact laws_qdQueue.mono _ _ _ _ _)
  |(with_reducible exact spec_DrawQueueRun.mono _ _)
  |(with_reducible exact spec_QueueRun.mono _ _ _ _)
  |(with_reducible exact LeO.refl _)
  |(with_reducible exact LeO.none _)
  |(with_reducible refine LeO.ite ?_ ?_)
  |(with_reducible refine LeO.bind ?_ (fun _ => ?_))
  |exact ih0 _ _ _ _ _ _ _ _ _ _ _
  |exact ih1 _ _ _ _ _
  |exact ih2 _ _ _ _ _ _
  |exact ih3 _ _ _ _ _ _ _
  |exact impl_QueueRun.mono _ _ _ _
  |exact laws_qdInts.mono _ _ _
  |exact laws_qdQueue.mono _ _ _ _ _
  |exact spec_DrawQueueRun.mono _ _
  |exact spec_QueueRun.mono _ _ _ _
  |exact LeO.none _
  |refine LeO.ite ?_ ?_
  |refine LeO.bind ?_ (fun _ => ?_)
  ·intro y0 y1 y2 y3 y4 y5
   unfold laws_FnShareGap.l1
   repeat' first
  |(with_reducible exact ih0 _ _ _ _ _ _ _ _ _ _ _)
  |(with_reducible exact ih1 _ _ _ _ _)
  |(with_reducible exact ih2 _ _ _ _ _ _)
  |(with_reducible exact ih3 _ _ _ _ _ _ _)
  |(with_reducible exact impl_QueueRun.mono _ _ _ _)
  |(with_reducible exact laws_qdInts.mono _ _ _)
  |(with_reducible exact laws_qdQueue.mono _ _ _ _ _)
  |(with_reducible exact spec_DrawQueueRun.mono _ _)
  |(with_reducible exact spec_QueueRun.mono _ _ _ _)
  |(with_reducible exact LeO.refl _)
  |(with_reducible exact LeO.none _)
  |(with_reducible refine LeO.ite ?_ ?_)
  |(with_reducible refine LeO.bind ?_ (fun _ => ?_))
  |exact ih0 _ _ _ _ _ _ _ _ _ _ _
  |exact ih1 _ _ _ _ _
  |exact ih2 _ _ _ _ _ _
  |exact ih3 _ _ _ _ _ _ _
  |exact impl_QueueRun.mono _ _ _ _
  |exact laws_qdInts.mono _ _ _
  |exact laws_qdQueue.mono _ _ _ _ _
  |exact spec_DrawQueueRun.mono _ _
  |exact spec_QueueRun.mono _ _ _ _
  |exact LeO.none _
  |refine LeO.ite ?_ ?_
  |refine LeO.bind ?_ (fun _ => ?_)
  ·intro y0 y1 y2 y3 y4 y5 y6
   unfold laws_FnShareGap.j3
   repeat' first
  |(with_reducible exact ih0 _ _ _ _ _ _ _ _ _ _ _)
  |(with_reducible exact ih1 _ _ _ _ _)
  |(with_reducible exact ih2 _ _ _ _ _ _)
  |(with_reducible exact ih3 _ _ _ _ _ _ _)
  |(with_reducible exact impl_QueueRun.mono _ _ _ _)
  |(with_reducible exact laws_qdInts.mono _ _ _)
  |(with_reducible exact laws_qdQueue.mono _ _ _ _ _)
  |(with_reducible exact spec_DrawQueueRun.mono _ _)
  |(with_reducible exact spec_QueueRun.mono _ _ _ _)
  |(with_reducible exact LeO.refl _)
  |(with_reducible exact LeO.none _)
  |(with_reducible refine LeO.ite ?_ ?_)
  |(with_reducible refine LeO.bind ?_ (fun _ => ?_))
  |exact ih0 _ _ _ _ _ _ _ _ _ _ _
  |exact ih1 _ _ _ _ _
  |exact ih2 _ _ _ _ _ _
  |exact ih3 _ _ _ _ _ _ _
  |exact impl_QueueRun.mono _ _ _ _
  |exact laws_qdInts.mono _ _ _
  |exact laws_qdQueue.mono _ _ _ _ _
  |exact spec_DrawQueueRun.mono _ _
  |exact spec_QueueRun.mono _ _ _ _
  |exact LeO.none _
  |refine LeO.ite ?_ ?_
  |refine LeO.bind ?_ (fun _ => ?_)
theorem laws_FnShareGap.mono : ∀ a0 k, LeO (laws_FnShareGap.f k a0) (laws_FnShareGap.f (k + 1) a0) := by
 intro a0 k
 obtain ⟨ih0, ih1, ih2, ih3⟩ := laws_FnShareGap.mono_l k
 unfold laws_FnShareGap.f
 repeat' first
  |(with_reducible exact ih0 _ _ _ _ _ _ _ _ _ _ _)
  |(with_reducible exact ih1 _ _ _ _ _)
  |(with_reducible exact ih2 _ _ _ _ _ _)
  |(with_reducible exact ih3 _ _ _ _ _ _ _)
  |(with_reducible exact impl_QueueRun.mono _ _ _ _)
  |(with_reducible exact laws_qdInts.mono _ _ _)
  |(with_reducible exact laws_qdQueue.mono _ _ _ _ _)
  |(with_reducible exact spec_DrawQueueRun.mono _ _)
  |(with_reducible exact spec_QueueRun.mono _ _ _ _)
  |(with_reducible exact LeO.refl _)
  |(with_reducible exact LeO.none _)
  |(with_reducible refine LeO.ite ?_ ?_)
  |(with_reducible refine LeO.bind ?_ (fun _ => ?_))
  |exact ih0 _ _ _ _ _ _ _ _ _ _ _
  |exact ih1 _ _ _ _ _
  |exact ih2 _ _ _ _ _ _
  |exact ih3 _ _ _ _ _ _ _
  |exact impl_QueueRun.mono _ _ _ _
  |exact laws_qdInts.mono _ _ _
  |exact laws_qdQueue.mono _ _ _ _ _
  |exact spec_DrawQueueRun.mono _ _
  |exact spec_QueueRun.mono _ _ _ _
  |exact LeO.none _
  |refine LeO.ite ?_ ?_
  |refine LeO.bind ?_ (fun _ => ?_)
set_option maxHeartbeats 2000000 in
set_option maxRecDepth 100000 in
theorem laws_FnShareGap.calls (k:Nat) (A0:Option Addr) (c0:Nat) (l0:List Int) (r:Bool) (w:World) (hr0:Kd.C (Kd.int .u8) w A0 l0.length l0) (hc0:l0.length≤c0) (h:laws_FnShareGap.f k l0=some r) (hT_:Aside0 (r=true)) :
  Calls Try.prog 10 #[.slice A0 l0.length c0] w fun e w'=>e=.returned (.bool r)∧Below w.heap.size w w':=by
 have hu25:=Try.underlying25
 have HR0:=Am hr0
 have HC0:=Am hc0
 clear hr0 hc0
 have HB:=Am (Below.refl w.heap.size w)
 have H:(if (l0.length:Int) > 1048576 then (some true) else ((spec_DrawQueueRun.f k l0).bind fun bt333=>((impl_QueueRun.f k bt333.1 bt333.2.1 bt333.2.2).bind fun bt339=>((spec_QueueRun.f k bt333.1 bt333.2.1 bt333.2.2).bind fun bt348=>(if (bt339.2.2.2 != bt348.2.2.2)=true then (laws_FnShareGap.j0 k bt339.2.2.1 bt339.2.2.2 bt348.2.2.1 bt348.2.2.2 true bt333.1 bt333.2.1 bt339.1 bt339.2.1 bt348.1 bt348.2.1) else ((laws_qdInts.f k bt339.2.2.1 bt348.2.2.1).bind fun t357=>(if t357=true then ((laws_qdQueue.f k bt339.1 bt339.2.1 bt348.1 bt348.2.1).bind fun t358=>(if t358=true then (laws_FnShareGap.j0 k bt339.2.2.1 bt339.2.2.2 bt348.2.2.1 bt348.2.2.2 (!bt339.2.2.2) bt333.1 bt333.2.1 bt339.1 bt339.2.1 bt348.1 bt348.2.1) else (laws_FnShareGap.j0 k bt339.2.2.1 bt339.2.2.2 bt348.2.2.1 bt348.2.2.2 true bt333.1 bt333.2.1 bt339.1 bt339.2.1 bt348.1 bt348.2.1))) else (laws_FnShareGap.j0 k bt339.2.2.1 bt339.2.2.2 bt348.2.2.1 bt348.2.2.2 true bt333.1 bt333.2.1 bt339.1 bt339.2.1 bt348.1 bt348.2.1))))))))=some r:=h
 clear h
 by_cases c2:(l0.length:Int) > 1048576
 ·rw [if_pos c2] at H
  have c2b0:decide (1048576<(l0.length:Int))=true:=decide_eq_true c2
  have c2b1:decide (1048576<l0.length)=true:=decide_eq_true (by omega)
  clear c2
  obtain rfl:=Option.some.inj H
  go_enter Try.func10,Try.ntmps10
  go_wp2
  repeat (go_quiet (fail);try go_wp2)
  go_ret
  exact ⟨by first|rfl|(simp [errW_none,errW_some] <;> rfl)|(simp [*,errW_none,errW_some] <;> rfl),by repeat (first|(with_reducible first|exact HB.out|apply oA|apply pN|apply o1)|exact HB.out)⟩
 rw [if_neg c2] at H
 have c2b0:decide (1048576<(l0.length:Int))=false:=decide_eq_false c2
 have c2b1:decide (1048576<l0.length)=false:=decide_eq_false (by omega)
 clear c2
 replace H:=oC H
 obtain ⟨⟨t333,t336,t337⟩,A30,H⟩:=H
 replace H:((impl_QueueRun.f k t333 t336 t337).bind fun bt339=>((spec_QueueRun.f k t333 t336 t337).bind fun bt348=>(if (bt339.2.2.2 != bt348.2.2.2)=true then (laws_FnShareGap.j0 k bt339.2.2.1 bt339.2.2.2 bt348.2.2.1 bt348.2.2.2 true t333 t336 bt339.1 bt339.2.1 bt348.1 bt348.2.1) else ((laws_qdInts.f k bt339.2.2.1 bt348.2.2.1).bind fun t357=>(if t357=true then ((laws_qdQueue.f k bt339.1 bt339.2.1 bt348.1 bt348.2.1).bind fun t358=>(if t358=true then (laws_FnShareGap.j0 k bt339.2.2.1 bt339.2.2.2 bt348.2.2.1 bt348.2.2.2 (!bt339.2.2.2) t333 t336 bt339.1 bt339.2.1 bt348.1 bt348.2.1) else (laws_FnShareGap.j0 k bt339.2.2.1 bt339.2.2.2 bt348.2.2.1 bt348.2.2.2 true t333 t336 bt339.1 bt339.2.1 bt348.1 bt348.2.1))) else (laws_FnShareGap.j0 k bt339.2.2.1 bt339.2.2.2 bt348.2.2.1 bt348.2.2.2 true t333 t336 bt339.1 bt339.2.1 bt348.1 bt348.2.1))))))=some r:=H
 have A3:=Am A30
 clear A30
 replace H:=oC H
 obtain ⟨⟨t339,t342,t343,t346⟩,A40,H⟩:=H
 replace H:((spec_QueueRun.f k t333 t336 t337).bind fun bt348=>(if (t346 != bt348.2.2.2)=true then (laws_FnShareGap.j0 k t343 t346 bt348.2.2.1 bt348.2.2.2 true t333 t336 t339 t342 bt348.1 bt348.2.1) else ((laws_qdInts.f k t343 bt348.2.2.1).bind fun t357=>(if t357=true then ((laws_qdQueue.f k t339 t342 bt348.1 bt348.2.1).bind fun t358=>(if t358=true then (laws_FnShareGap.j0 k t343 t346 bt348.2.2.1 bt348.2.2.2 (!t346) t333 t336 t339 t342 bt348.1 bt348.2.1) else (laws_FnShareGap.j0 k t343 t346 bt348.2.2.1 bt348.2.2.2 true t333 t336 t339 t342 bt348.1 bt348.2.1))) else (laws_FnShareGap.j0 k t343 t346 bt348.2.2.1 bt348.2.2.2 true t333 t336 t339 t342 bt348.1 bt348.2.1)))))=some r:=H
 have A4:=Am A40
 clear A40
 replace H:=oC H
 obtain ⟨⟨t348,t351,t352,t355⟩,A50,H⟩:=H
 replace H:(if (t346 != t355)=true then (laws_FnShareGap.j0 k t343 t346 t352 t355 true t333 t336 t339 t342 t348 t351) else ((laws_qdInts.f k t343 t352).bind fun t357=>(if t357=true then ((laws_qdQueue.f k t339 t342 t348 t351).bind fun t358=>(if t358=true then (laws_FnShareGap.j0 k t343 t346 t352 t355 (!t346) t333 t336 t339 t342 t348 t351) else (laws_FnShareGap.j0 k t343 t346 t352 t355 true t333 t336 t339 t342 t348 t351))) else (laws_FnShareGap.j0 k t343 t346 t352 t355 true t333 t336 t339 t342 t348 t351))))=some r:=H
 have A5:=Am A50
 clear A50
 have HC6:=Am H
 clear H
 go_enter Try.func10,Try.ntmps10
 go_upto_region 6 with (first|(go_at_call 30;(with_reducible refine (spec_DrawQueueRun.calls k _ _ l0 t333 t336 t337 _ ?side1 ?side2 A3.out).mono ?_);(case side1=>repeat (first|exact HR0.out|(with_reducible refine cA ?_ _)|(with_reducible refine cN ?_ _)|(with_reducible refine cD ?_)));(case side2=>exact HC0.out);rintro e w7 ⟨v334,rfl,ho0,hb⟩;have n0_:=Am (Kd.R_lower ho0 (bZ (by repeat (first|(with_reducible first|exact HB.out|apply oA|apply pN|apply o1)|exact HB.out))));have n1_:=Am (bP (by repeat (first|(with_reducible first|exact HB.out|apply oA|apply pN|apply o1)|exact HB.out)) hb);clear HB;revert n0_ n1_;intro Bg HB;(try clear hb);(try clear hb2);(try clear hk);(try clear hi);(try clear ho0))|((with_reducible refine gate_dst (N:=3) rfl ?_);refine box_event ?hg (N:=3) ?hd (cs:=#[.slice none 0 0,.int .i64 0]) (t:=25) ?hr ?_;(case hd=>rfl);(case hg=>rfl);(case hr=>first|(go_simp;done)|(go_simp;rfl));intro Bf hg w8 hbox hb;have n0_:=Am (rB (rL Bg.out) hb);have n1_:=Am (bP (by repeat (first|(with_reducible first|exact HB.out|apply oA|apply pN|apply o1)|exact HB.out)) hb);have n2_:=Am (hbox);have n3_:=Am ((by rw [hg];exact (bZ (by repeat (first|(with_reducible first|exact HB.out|apply oA|apply pN|apply o1)|exact HB.out))):w.heap.size≤Bf));have n4_:=Am ((by rw [hg];exact (bZ (by repeat (first|(with_reducible first|exact HB.out|apply oA|apply pN|apply o1)|exact HB.out))):w.heap.size≤Bf));clear Bg HB;revert n0_ n1_ n2_ n3_ n4_;intro Bg HB Bc Dj Bj;clear hb hbox hg;obtain ⟨Ao9,co9,eo9⟩:=Kd.R_slice Bg.out;subst eo9;have Bz:w8.cell? ⟨Bf,0,none⟩=some (.slice none 0 0):=(bC Bc.out 0).trans rfl;have BA:w8.cell? ⟨Bf,1,none⟩=some (.int .i64 0):=(bC Bc.out 1).trans rfl;have BB:=bF Bc.out 0;have BC:=bF Bc.out 1)|(go_at_call 19;(with_reducible refine (impl_QueueRun.calls k _ _ t333 t336 t337 t339 t342 t343 t346 _ ?side1 ?side2 A4.out).mono ?_);(case side1=>refine (Kd.R_reads' (e:=40) (base:=w.heap.size) (ok:=fun k_=>True) (n:=t333.length) (c:=co9) ?_).2.2;exact (by (with_reducible repeat (first|apply rA|apply rN|apply rD));exact (rM (rF (p:=⟨Bf,1,none⟩) (rF (p:=⟨Bf,0,none⟩) (rT Bg.out Bc.out (by decide)) (fun _ hk=>hk.2) (.slice Ao9 t333.length co9)) (fun _ hk=>hk.2) (.int .i64 t336)) (fun _ h_=>h_.1))));(case side2=>exact (Kd.R_reads' Bg.out).2.1);rintro e w11 ⟨v340,v344,rfl,ho0,ho1,hb⟩;have n0_:=Am (Kd.R_elder' (by (with_reducible repeat (first|apply rA|apply rN|apply rD));exact (rM (rF (p:=⟨Bf,1,none⟩) (rF (p:=⟨Bf,0,none⟩) (rT Bg.out Bc.out (by decide)) (fun _ hk=>hk.2) (.slice Ao9 t333.length co9)) (fun _ hk=>hk.2) (.int .i64 t336)) (fun _ h_=>h_.1))) (Kd.R_base ho0) hb);have n1_:=Am (Kd.R_lower (Kd.R_new' ho0 (Kd.R_lt (by (with_reducible repeat (first|apply rA|apply rN|apply rD));exact (rM (rF (p:=⟨Bf,1,none⟩) (rF (p:=⟨Bf,0,none⟩) (rT Bg.out Bc.out (by decide)) (fun _ hk=>hk.2) (.slice Ao9 t333.length co9)) (fun _ hk=>hk.2) (.int .i64 t336)) (fun _ h_=>h_.1))))) (bZ (by repeat (first|(with_reducible first|exact HB.out|apply oA|apply pN|apply o1|refine bS ?_ Bj.out)|exact HB.out))));have n2_:=Am (Kd.R_lower ho1 (bZ (by repeat (first|(with_reducible first|exact HB.out|apply oA|apply pN|apply o1|refine bS ?_ Bj.out)|exact HB.out))));have n3_:=Am (bB (g:=Bf) (o:=.cells #[.slice Ao9 t333.length co9,.int .i64 t336] 25 (0,0)) (by (with_reducible repeat (first|refine bN ?_ _|refine bD ?_|refine bA ?_ _));refine blk_put (cs:=#[.slice Ao9 t333.length co9,.int .i64 0]) ?_ 1 _ rfl;(with_reducible repeat (first|refine bN ?_ _|refine bD ?_|refine bA ?_ _));refine blk_put (cs:=#[.slice none 0 0,.int .i64 0]) ?_ 0 _ rfl;(with_reducible repeat (first|refine bN ?_ _|refine bD ?_|refine bA ?_ _));exact Bc.out) hb);have n4_:=Am (bP (by repeat (first|(with_reducible first|exact HB.out|apply oA|apply pN|apply o1|refine bS ?_ Bj.out)|exact HB.out)) hb);clear Bg Bc HB;revert n0_ n1_ n2_ n3_ n4_;intro Bg Bi Bh Bc HB;(try clear hb);(try clear hb2);(try clear hk);(try clear hi);(try clear ho0);(try clear ho1))|((with_reducible refine gate_dst (N:=5) rfl ?_);refine box_event ?hg (N:=5) ?hd (cs:=#[.slice none 0 0,.int .i64 0]) (t:=25) ?hr ?_;(case hd=>rfl);(case hg=>rfl);(case hr=>first|(go_simp;done)|(go_simp;rfl));intro Be hg w12 hbox hb;have n0_:=Am (rB (rL Bg.out) hb);have n1_:=Am (rB (rL Bi.out) hb);have n2_:=Am (rB (rL Bh.out) hb);have n3_:=Am (bB (g:=Bf) (o:=.cells #[.slice Ao9 t333.length co9,.int .i64 t336] 25 (0,0)) (bL Bc.out) hb);have n4_:=Am (bP (by repeat (first|(with_reducible first|exact HB.out|apply oA|apply pN|apply o1|refine bS ?_ Bj.out)|exact HB.out)) hb);have n5_:=Am (hbox);have n6_:=Am ((by rw [hg];exact (bZ (by repeat (first|(with_reducible first|exact HB.out|apply oA|apply pN|apply o1|refine bS ?_ Bj.out)|exact HB.out))):w.heap.size≤Be));have n7_:=Am ((by rw [hg];exact (bZ (by repeat (first|(with_reducible first|exact HB.out|apply oA|apply pN|apply o1|refine bS ?_ Bj.out)|exact HB.out))):w.heap.size≤Be));have n8_:=Am ((by rw [hg];exact Nat.ne_of_lt (blk_lt (g:=Bf) (o:=.cells #[.slice Ao9 t333.length co9,.int .i64 t336] 25 (0,0)) (bL Bc.out)):Bf≠Be));have n9_:=Am ((by rw [hg];exact Nat.ne_of_gt (blk_lt (g:=Bf) (o:=.cells #[.slice Ao9 t333.length co9,.int .i64 t336] 25 (0,0)) (bL Bc.out)):Be≠Bf));clear Bg Bi Bh Bc HB;revert n0_ n1_ n2_ n3_ n4_ n5_ n6_ n7_ n8_ n9_;intro Bg Bi Bh Bc HB Bd Dk Bs Bq Bt;clear hb hbox hg;obtain ⟨Ao13,co13,eo13⟩:=Kd.R_slice Bi.out;subst eo13;have Dl:=Bt.out;have Dm:=Bq.out;have BD:w12.cell? ⟨Be,0,none⟩=some (.slice none 0 0):=(bC Bd.out 0).trans rfl;have BE:w12.cell? ⟨Be,1,none⟩=some (.int .i64 0):=(bC Bd.out 1).trans rfl;have BF:=bF Bd.out 0;have BG:=bF Bd.out 1;have BH:w12.cell? ⟨Bf,0,none⟩=some (.slice Ao9 t333.length co9):=(bC Bc.out 0).trans rfl;have BI:w12.cell? ⟨Bf,1,none⟩=some (.int .i64 t336):=(bC Bc.out 1).trans rfl;have BJ:=bF Bc.out 0;have BK:=bF Bc.out 1)|(go_at_call 31;(with_reducible refine (spec_QueueRun.calls k _ _ t333 t336 t337 t348 t351 t352 t355 _ ?side1 ?side2 A5.out).mono ?_);(case side1=>refine (Kd.R_reads' (e:=40) (base:=w.heap.size) (ok:=fun k_=>(True∧some k_≠(.slice Ao13 t339.length co13:Value).ownBlock)) (n:=t333.length) (c:=co9) ?_).2.2;exact (by (with_reducible repeat (first|apply rA|apply rN|apply rD));exact (rM (rF (p:=⟨Be,1,none⟩) (rF (p:=⟨Be,0,none⟩) (rT Bg.out Bd.out (by decide)) (fun _ hk=>hk.2) (.slice Ao13 t339.length co13)) (fun _ hk=>hk.2) (.int .i64 t342)) (fun _ h_=>h_.1))));(case side2=>exact (Kd.R_reads' Bg.out).2.1);rintro e w17 ⟨v349,v353,rfl,ho0,ho1,hb⟩;have n0_:=Am (Kd.R_elder' (by (with_reducible repeat (first|apply rA|apply rN|apply rD));exact (rM (rF (p:=⟨Be,1,none⟩) (rF (p:=⟨Be,0,none⟩) (rT Bg.out Bd.out (by decide)) (fun _ hk=>hk.2) (.slice Ao13 t339.length co13)) (fun _ hk=>hk.2) (.int .i64 t342)) (fun _ h_=>h_.1))) (Kd.R_base ho0) hb);have n1_:=Am (Kd.R_elder' (by (with_reducible repeat (first|apply rA|apply rN|apply rD));exact (rM (rF (p:=⟨Be,1,none⟩) (rF (p:=⟨Be,0,none⟩) (rT Bi.out Bd.out (by decide)) (fun _ hk=>hk.2) (.slice Ao13 t339.length co13)) (fun _ hk=>hk.2) (.int .i64 t342)) (fun _ h_=>h_.1))) (Kd.R_base ho0) hb);have n2_:=Am (Kd.R_elder' (by (with_reducible repeat (first|apply rA|apply rN|apply rD));exact (rM (rF (p:=⟨Be,1,none⟩) (rF (p:=⟨Be,0,none⟩) (rT Bh.out Bd.out (by decide)) (fun _ hk=>hk.2) (.slice Ao13 t339.length co13)) (fun _ hk=>hk.2) (.int .i64 t342)) (fun _ h_=>h_.1))) (Kd.R_base ho1) hb);have n3_:=Am (Kd.R_lower (Kd.R_new' (Kd.R_new' ho0 (Kd.R_lt (by (with_reducible repeat (first|apply rA|apply rN|apply rD));exact (rM (rF (p:=⟨Be,1,none⟩) (rF (p:=⟨Be,0,none⟩) (rT Bg.out Bd.out (by decide)) (fun _ hk=>hk.2) (.slice Ao13 t339.length co13)) (fun _ hk=>hk.2) (.int .i64 t342)) (fun _ h_=>h_.1))))) (Kd.R_lt (by (with_reducible repeat (first|apply rA|apply rN|apply rD));exact (rM (rF (p:=⟨Be,1,none⟩) (rF (p:=⟨Be,0,none⟩) (rT Bi.out Bd.out (by decide)) (fun _ hk=>hk.2) (.slice Ao13 t339.length co13)) (fun _ hk=>hk.2) (.int .i64 t342)) (fun _ h_=>h_.1))))) (bZ (by repeat (first|(with_reducible first|exact HB.out|apply oA|apply pN|apply o1|refine bS ?_ Bj.out|refine bS ?_ Bs.out)|exact HB.out))));have n4_:=Am (Kd.R_lower (Kd.R_new' ho1 (Kd.R_lt (by (with_reducible repeat (first|apply rA|apply rN|apply rD));exact (rM (rF (p:=⟨Be,1,none⟩) (rF (p:=⟨Be,0,none⟩) (rT Bh.out Bd.out (by decide)) (fun _ hk=>hk.2) (.slice Ao13 t339.length co13)) (fun _ hk=>hk.2) (.int .i64 t342)) (fun _ h_=>h_.1))))) (bZ (by repeat (first|(with_reducible first|exact HB.out|apply oA|apply pN|apply o1|refine bS ?_ Bj.out|refine bS ?_ Bs.out)|exact HB.out))));have n5_:=Am (bB (g:=Bf) (o:=.cells #[.slice Ao9 t333.length co9,.int .i64 t336] 25 (0,0)) (by (with_reducible repeat (first|refine bN ?_ _|refine bD ?_|refine bA ?_ _|refine blk_far ?_ Bq.out _));exact Bc.out) hb);have n6_:=Am (bB (g:=Be) (o:=.cells #[.slice Ao13 t339.length co13,.int .i64 t342] 25 (0,0)) (by (with_reducible repeat (first|refine bN ?_ _|refine bD ?_|refine bA ?_ _));refine blk_put (cs:=#[.slice Ao13 t339.length co13,.int .i64 0]) ?_ 1 _ rfl;(with_reducible repeat (first|refine bN ?_ _|refine bD ?_|refine bA ?_ _));refine blk_put (cs:=#[.slice none 0 0,.int .i64 0]) ?_ 0 _ rfl;(with_reducible repeat (first|refine bN ?_ _|refine bD ?_|refine bA ?_ _));exact Bd.out) hb);have n7_:=Am (bP (by repeat (first|(with_reducible first|exact HB.out|apply oA|apply pN|apply o1|refine bS ?_ Bj.out|refine bS ?_ Bs.out)|exact HB.out)) hb);clear Bg Bi Bh Bc Bd HB;revert n0_ n1_ n2_ n3_ n4_ n5_ n6_ n7_;intro Bg Bi Bh Bn Bk Bc Bd HB;(try clear hb);(try clear hb2);(try clear hk);(try clear hi);(try clear ho0);(try clear ho1))|((with_reducible refine gate_dst (N:=8) rfl ?_);refine box_event ?hg (N:=8) ?hd (cs:=#[.slice none 0 0,.int .i64 0]) (t:=25) ?hr ?_;(case hd=>rfl);(case hg=>rfl);(case hr=>first|(go_simp;done)|(go_simp;rfl));intro Ba hg w18 hbox hb;have n0_:=Am (rB (rL Bg.out) hb);have n1_:=Am (rB (rL Bi.out) hb);have n2_:=Am (rB (rL Bh.out) hb);have n3_:=Am (rB (rL Bn.out) hb);have n4_:=Am (rB (rL Bk.out) hb);have n5_:=Am (bB (g:=Bf) (o:=.cells #[.slice Ao9 t333.length co9,.int .i64 t336] 25 (0,0)) (bL Bc.out) hb);have n6_:=Am (bB (g:=Be) (o:=.cells #[.slice Ao13 t339.length co13,.int .i64 t342] 25 (0,0)) (bL Bd.out) hb);have n7_:=Am (bP (by repeat (first|(with_reducible first|exact HB.out|apply oA|apply pN|apply o1|refine bS ?_ Bj.out|refine bS ?_ Bs.out)|exact HB.out)) hb);have n8_:=Am (hbox);have n9_:=Am ((by rw [hg];exact (bZ (by repeat (first|(with_reducible first|exact HB.out|apply oA|apply pN|apply o1|refine bS ?_ Bj.out|refine bS ?_ Bs.out)|exact HB.out))):w.heap.size≤Ba));have n10_:=Am ((by rw [hg];exact (bZ (by repeat (first|(with_reducible first|exact HB.out|apply oA|apply pN|apply o1|refine bS ?_ Bj.out|refine bS ?_ Bs.out)|exact HB.out))):w.heap.size≤Ba));have n11_:=Am ((by rw [hg];exact Nat.ne_of_lt (blk_lt (g:=Bf) (o:=.cells #[.slice Ao9 t333.length co9,.int .i64 t336] 25 (0,0)) (bL Bc.out)):Bf≠Ba));have n12_:=Am ((by rw [hg];exact Nat.ne_of_gt (blk_lt (g:=Bf) (o:=.cells #[.slice Ao9 t333.length co9,.int .i64 t336] 25 (0,0)) (bL Bc.out)):Ba≠Bf));have n13_:=Am ((by rw [hg];exact Nat.ne_of_lt (blk_lt (g:=Be) (o:=.cells #[.slice Ao13 t339.length co13,.int .i64 t342] 25 (0,0)) (bL Bd.out)):Be≠Ba));have n14_:=Am ((by rw [hg];exact Nat.ne_of_gt (blk_lt (g:=Be) (o:=.cells #[.slice Ao13 t339.length co13,.int .i64 t342] 25 (0,0)) (bL Bd.out)):Ba≠Be));clear Bg Bi Bh Bn Bk Bc Bd HB;revert n0_ n1_ n2_ n3_ n4_ n5_ n6_ n7_ n8_ n9_ n10_ n11_ n12_ n13_ n14_;intro Bg Bi Bh Bn Bk Bc Bd HB Bb Dn Bw Bl Bu Br Bv;clear hb hbox hg;obtain ⟨Ao19,co19,eo19⟩:=Kd.R_slice Bn.out;subst eo19;have Do:=Bu.out;have Dp:=Bl.out;have Dq:=Bv.out;have Dr:=Br.out;have BL:w18.cell? ⟨Ba,0,none⟩=some (.slice none 0 0):=(bC Bb.out 0).trans rfl;have BM:w18.cell? ⟨Ba,1,none⟩=some (.int .i64 0):=(bC Bb.out 1).trans rfl;have BN:=bF Bb.out 0;have BO:=bF Bb.out 1))
 repeat (go_quiet (first|(go_at_call 30;(with_reducible refine (spec_DrawQueueRun.calls k _ _ l0 t333 t336 t337 _ ?side1 ?side2 A3.out).mono ?_);(case side1=>repeat (first|exact HR0.out|(with_reducible refine cA ?_ _)|(with_reducible refine cN ?_ _)|(with_reducible refine cD ?_)));(case side2=>exact HC0.out);rintro e w7 ⟨v334,rfl,ho0,hb⟩;have n0_:=Am (Kd.R_lower ho0 (bZ (by repeat (first|(with_reducible first|exact HB.out|apply oA|apply pN|apply o1)|exact HB.out))));have n1_:=Am (bP (by repeat (first|(with_reducible first|exact HB.out|apply oA|apply pN|apply o1)|exact HB.out)) hb);clear HB;revert n0_ n1_;intro Bg HB;(try clear hb);(try clear hb2);(try clear hk);(try clear hi);(try clear ho0))|((with_reducible refine gate_dst (N:=3) rfl ?_);refine box_event ?hg (N:=3) ?hd (cs:=#[.slice none 0 0,.int .i64 0]) (t:=25) ?hr ?_;(case hd=>rfl);(case hg=>rfl);(case hr=>first|(go_simp;done)|(go_simp;rfl));intro Bf hg w8 hbox hb;have n0_:=Am (rB (rL Bg.out) hb);have n1_:=Am (bP (by repeat (first|(with_reducible first|exact HB.out|apply oA|apply pN|apply o1)|exact HB.out)) hb);have n2_:=Am (hbox);have n3_:=Am ((by rw [hg];exact (bZ (by repeat (first|(with_reducible first|exact HB.out|apply oA|apply pN|apply o1)|exact HB.out))):w.heap.size≤Bf));have n4_:=Am ((by rw [hg];exact (bZ (by repeat (first|(with_reducible first|exact HB.out|apply oA|apply pN|apply o1)|exact HB.out))):w.heap.size≤Bf));clear Bg HB;revert n0_ n1_ n2_ n3_ n4_;intro Bg HB Bc Dj Bj;clear hb hbox hg;obtain ⟨Ao9,co9,eo9⟩:=Kd.R_slice Bg.out;subst eo9;have Bz:w8.cell? ⟨Bf,0,none⟩=some (.slice none 0 0):=(bC Bc.out 0).trans rfl;have BA:w8.cell? ⟨Bf,1,none⟩=some (.int .i64 0):=(bC Bc.out 1).trans rfl;have BB:=bF Bc.out 0;have BC:=bF Bc.out 1)|(go_at_call 19;(with_reducible refine (impl_QueueRun.calls k _ _ t333 t336 t337 t339 t342 t343 t346 _ ?side1 ?side2 A4.out).mono ?_);(case side1=>refine (Kd.R_reads' (e:=40) (base:=w.heap.size) (ok:=fun k_=>True) (n:=t333.length) (c:=co9) ?_).2.2;exact (by (with_reducible repeat (first|apply rA|apply rN|apply rD));exact (rM (rF (p:=⟨Bf,1,none⟩) (rF (p:=⟨Bf,0,none⟩) (rT Bg.out Bc.out (by decide)) (fun _ hk=>hk.2) (.slice Ao9 t333.length co9)) (fun _ hk=>hk.2) (.int .i64 t336)) (fun _ h_=>h_.1))));(case side2=>exact (Kd.R_reads' Bg.out).2.1);rintro e w11 ⟨v340,v344,rfl,ho0,ho1,hb⟩;have n0_:=Am (Kd.R_elder' (by (with_reducible repeat (first|apply rA|apply rN|apply rD));exact (rM (rF (p:=⟨Bf,1,none⟩) (rF (p:=⟨Bf,0,none⟩) (rT Bg.out Bc.out (by decide)) (fun _ hk=>hk.2) (.slice Ao9 t333.length co9)) (fun _ hk=>hk.2) (.int .i64 t336)) (fun _ h_=>h_.1))) (Kd.R_base ho0) hb);have n1_:=Am (Kd.R_lower (Kd.R_new' ho0 (Kd.R_lt (by (with_reducible repeat (first|apply rA|apply rN|apply rD));exact (rM (rF (p:=⟨Bf,1,none⟩) (rF (p:=⟨Bf,0,none⟩) (rT Bg.out Bc.out (by decide)) (fun _ hk=>hk.2) (.slice Ao9 t333.length co9)) (fun _ hk=>hk.2) (.int .i64 t336)) (fun _ h_=>h_.1))))) (bZ (by repeat (first|(with_reducible first|exact HB.out|apply oA|apply pN|apply o1|refine bS ?_ Bj.out)|exact HB.out))));have n2_:=Am (Kd.R_lower ho1 (bZ (by repeat (first|(with_reducible first|exact HB.out|apply oA|apply pN|apply o1|refine bS ?_ Bj.out)|exact HB.out))));have n3_:=Am (bB (g:=Bf) (o:=.cells #[.slice Ao9 t333.length co9,.int .i64 t336] 25 (0,0)) (by (with_reducible repeat (first|refine bN ?_ _|refine bD ?_|refine bA ?_ _));refine blk_put (cs:=#[.slice Ao9 t333.length co9,.int .i64 0]) ?_ 1 _ rfl;(with_reducible repeat (first|refine bN ?_ _|refine bD ?_|refine bA ?_ _));refine blk_put (cs:=#[.slice none 0 0,.int .i64 0]) ?_ 0 _ rfl;(with_reducible repeat (first|refine bN ?_ _|refine bD ?_|refine bA ?_ _));exact Bc.out) hb);have n4_:=Am (bP (by repeat (first|(with_reducible first|exact HB.out|apply oA|apply pN|apply o1|refine bS ?_ Bj.out)|exact HB.out)) hb);clear Bg Bc HB;revert n0_ n1_ n2_ n3_ n4_;intro Bg Bi Bh Bc HB;(try clear hb);(try clear hb2);(try clear hk);(try clear hi);(try clear ho0);(try clear ho1))|((with_reducible refine gate_dst (N:=5) rfl ?_);refine box_event ?hg (N:=5) ?hd (cs:=#[.slice none 0 0,.int .i64 0]) (t:=25) ?hr ?_;(case hd=>rfl);(case hg=>rfl);(case hr=>first|(go_simp;done)|(go_simp;rfl));intro Be hg w12 hbox hb;have n0_:=Am (rB (rL Bg.out) hb);have n1_:=Am (rB (rL Bi.out) hb);have n2_:=Am (rB (rL Bh.out) hb);have n3_:=Am (bB (g:=Bf) (o:=.cells #[.slice Ao9 t333.length co9,.int .i64 t336] 25 (0,0)) (bL Bc.out) hb);have n4_:=Am (bP (by repeat (first|(with_reducible first|exact HB.out|apply oA|apply pN|apply o1|refine bS ?_ Bj.out)|exact HB.out)) hb);have n5_:=Am (hbox);have n6_:=Am ((by rw [hg];exact (bZ (by repeat (first|(with_reducible first|exact HB.out|apply oA|apply pN|apply o1|refine bS ?_ Bj.out)|exact HB.out))):w.heap.size≤Be));have n7_:=Am ((by rw [hg];exact (bZ (by repeat (first|(with_reducible first|exact HB.out|apply oA|apply pN|apply o1|refine bS ?_ Bj.out)|exact HB.out))):w.heap.size≤Be));have n8_:=Am ((by rw [hg];exact Nat.ne_of_lt (blk_lt (g:=Bf) (o:=.cells #[.slice Ao9 t333.length co9,.int .i64 t336] 25 (0,0)) (bL Bc.out)):Bf≠Be));have n9_:=Am ((by rw [hg];exact Nat.ne_of_gt (blk_lt (g:=Bf) (o:=.cells #[.slice Ao9 t333.length co9,.int .i64 t336] 25 (0,0)) (bL Bc.out)):Be≠Bf));clear Bg Bi Bh Bc HB;revert n0_ n1_ n2_ n3_ n4_ n5_ n6_ n7_ n8_ n9_;intro Bg Bi Bh Bc HB Bd Dk Bs Bq Bt;clear hb hbox hg;obtain ⟨Ao13,co13,eo13⟩:=Kd.R_slice Bi.out;subst eo13;have Dl:=Bt.out;have Dm:=Bq.out;have BD:w12.cell? ⟨Be,0,none⟩=some (.slice none 0 0):=(bC Bd.out 0).trans rfl;have BE:w12.cell? ⟨Be,1,none⟩=some (.int .i64 0):=(bC Bd.out 1).trans rfl;have BF:=bF Bd.out 0;have BG:=bF Bd.out 1;have BH:w12.cell? ⟨Bf,0,none⟩=some (.slice Ao9 t333.length co9):=(bC Bc.out 0).trans rfl;have BI:w12.cell? ⟨Bf,1,none⟩=some (.int .i64 t336):=(bC Bc.out 1).trans rfl;have BJ:=bF Bc.out 0;have BK:=bF Bc.out 1)|(go_at_call 31;(with_reducible refine (spec_QueueRun.calls k _ _ t333 t336 t337 t348 t351 t352 t355 _ ?side1 ?side2 A5.out).mono ?_);(case side1=>refine (Kd.R_reads' (e:=40) (base:=w.heap.size) (ok:=fun k_=>(True∧some k_≠(.slice Ao13 t339.length co13:Value).ownBlock)) (n:=t333.length) (c:=co9) ?_).2.2;exact (by (with_reducible repeat (first|apply rA|apply rN|apply rD));exact (rM (rF (p:=⟨Be,1,none⟩) (rF (p:=⟨Be,0,none⟩) (rT Bg.out Bd.out (by decide)) (fun _ hk=>hk.2) (.slice Ao13 t339.length co13)) (fun _ hk=>hk.2) (.int .i64 t342)) (fun _ h_=>h_.1))));(case side2=>exact (Kd.R_reads' Bg.out).2.1);rintro e w17 ⟨v349,v353,rfl,ho0,ho1,hb⟩;have n0_:=Am (Kd.R_elder' (by (with_reducible repeat (first|apply rA|apply rN|apply rD));exact (rM (rF (p:=⟨Be,1,none⟩) (rF (p:=⟨Be,0,none⟩) (rT Bg.out Bd.out (by decide)) (fun _ hk=>hk.2) (.slice Ao13 t339.length co13)) (fun _ hk=>hk.2) (.int .i64 t342)) (fun _ h_=>h_.1))) (Kd.R_base ho0) hb);have n1_:=Am (Kd.R_elder' (by (with_reducible repeat (first|apply rA|apply rN|apply rD));exact (rM (rF (p:=⟨Be,1,none⟩) (rF (p:=⟨Be,0,none⟩) (rT Bi.out Bd.out (by decide)) (fun _ hk=>hk.2) (.slice Ao13 t339.length co13)) (fun _ hk=>hk.2) (.int .i64 t342)) (fun _ h_=>h_.1))) (Kd.R_base ho0) hb);have n2_:=Am (Kd.R_elder' (by (with_reducible repeat (first|apply rA|apply rN|apply rD));exact (rM (rF (p:=⟨Be,1,none⟩) (rF (p:=⟨Be,0,none⟩) (rT Bh.out Bd.out (by decide)) (fun _ hk=>hk.2) (.slice Ao13 t339.length co13)) (fun _ hk=>hk.2) (.int .i64 t342)) (fun _ h_=>h_.1))) (Kd.R_base ho1) hb);have n3_:=Am (Kd.R_lower (Kd.R_new' (Kd.R_new' ho0 (Kd.R_lt (by (with_reducible repeat (first|apply rA|apply rN|apply rD));exact (rM (rF (p:=⟨Be,1,none⟩) (rF (p:=⟨Be,0,none⟩) (rT Bg.out Bd.out (by decide)) (fun _ hk=>hk.2) (.slice Ao13 t339.length co13)) (fun _ hk=>hk.2) (.int .i64 t342)) (fun _ h_=>h_.1))))) (Kd.R_lt (by (with_reducible repeat (first|apply rA|apply rN|apply rD));exact (rM (rF (p:=⟨Be,1,none⟩) (rF (p:=⟨Be,0,none⟩) (rT Bi.out Bd.out (by decide)) (fun _ hk=>hk.2) (.slice Ao13 t339.length co13)) (fun _ hk=>hk.2) (.int .i64 t342)) (fun _ h_=>h_.1))))) (bZ (by repeat (first|(with_reducible first|exact HB.out|apply oA|apply pN|apply o1|refine bS ?_ Bj.out|refine bS ?_ Bs.out)|exact HB.out))));have n4_:=Am (Kd.R_lower (Kd.R_new' ho1 (Kd.R_lt (by (with_reducible repeat (first|apply rA|apply rN|apply rD));exact (rM (rF (p:=⟨Be,1,none⟩) (rF (p:=⟨Be,0,none⟩) (rT Bh.out Bd.out (by decide)) (fun _ hk=>hk.2) (.slice Ao13 t339.length co13)) (fun _ hk=>hk.2) (.int .i64 t342)) (fun _ h_=>h_.1))))) (bZ (by repeat (first|(with_reducible first|exact HB.out|apply oA|apply pN|apply o1|refine bS ?_ Bj.out|refine bS ?_ Bs.out)|exact HB.out))));have n5_:=Am (bB (g:=Bf) (o:=.cells #[.slice Ao9 t333.length co9,.int .i64 t336] 25 (0,0)) (by (with_reducible repeat (first|refine bN ?_ _|refine bD ?_|refine bA ?_ _|refine blk_far ?_ Bq.out _));exact Bc.out) hb);have n6_:=Am (bB (g:=Be) (o:=.cells #[.slice Ao13 t339.length co13,.int .i64 t342] 25 (0,0)) (by (with_reducible repeat (first|refine bN ?_ _|refine bD ?_|refine bA ?_ _));refine blk_put (cs:=#[.slice Ao13 t339.length co13,.int .i64 0]) ?_ 1 _ rfl;(with_reducible repeat (first|refine bN ?_ _|refine bD ?_|refine bA ?_ _));refine blk_put (cs:=#[.slice none 0 0,.int .i64 0]) ?_ 0 _ rfl;(with_reducible repeat (first|refine bN ?_ _|refine bD ?_|refine bA ?_ _));exact Bd.out) hb);have n7_:=Am (bP (by repeat (first|(with_reducible first|exact HB.out|apply oA|apply pN|apply o1|refine bS ?_ Bj.out|refine bS ?_ Bs.out)|exact HB.out)) hb);clear Bg Bi Bh Bc Bd HB;revert n0_ n1_ n2_ n3_ n4_ n5_ n6_ n7_;intro Bg Bi Bh Bn Bk Bc Bd HB;(try clear hb);(try clear hb2);(try clear hk);(try clear hi);(try clear ho0);(try clear ho1))|((with_reducible refine gate_dst (N:=8) rfl ?_);refine box_event ?hg (N:=8) ?hd (cs:=#[.slice none 0 0,.int .i64 0]) (t:=25) ?hr ?_;(case hd=>rfl);(case hg=>rfl);(case hr=>first|(go_simp;done)|(go_simp;rfl));intro Ba hg w18 hbox hb;have n0_:=Am (rB (rL Bg.out) hb);have n1_:=Am (rB (rL Bi.out) hb);have n2_:=Am (rB (rL Bh.out) hb);have n3_:=Am (rB (rL Bn.out) hb);have n4_:=Am (rB (rL Bk.out) hb);have n5_:=Am (bB (g:=Bf) (o:=.cells #[.slice Ao9 t333.length co9,.int .i64 t336] 25 (0,0)) (bL Bc.out) hb);have n6_:=Am (bB (g:=Be) (o:=.cells #[.slice Ao13 t339.length co13,.int .i64 t342] 25 (0,0)) (bL Bd.out) hb);have n7_:=Am (bP (by repeat (first|(with_reducible first|exact HB.out|apply oA|apply pN|apply o1|refine bS ?_ Bj.out|refine bS ?_ Bs.out)|exact HB.out)) hb);have n8_:=Am (hbox);have n9_:=Am ((by rw [hg];exact (bZ (by repeat (first|(with_reducible first|exact HB.out|apply oA|apply pN|apply o1|refine bS ?_ Bj.out|refine bS ?_ Bs.out)|exact HB.out))):w.heap.size≤Ba));have n10_:=Am ((by rw [hg];exact (bZ (by repeat (first|(with_reducible first|exact HB.out|apply oA|apply pN|apply o1|refine bS ?_ Bj.out|refine bS ?_ Bs.out)|exact HB.out))):w.heap.size≤Ba));have n11_:=Am ((by rw [hg];exact Nat.ne_of_lt (blk_lt (g:=Bf) (o:=.cells #[.slice Ao9 t333.length co9,.int .i64 t336] 25 (0,0)) (bL Bc.out)):Bf≠Ba));have n12_:=Am ((by rw [hg];exact Nat.ne_of_gt (blk_lt (g:=Bf) (o:=.cells #[.slice Ao9 t333.length co9,.int .i64 t336] 25 (0,0)) (bL Bc.out)):Ba≠Bf));have n13_:=Am ((by rw [hg];exact Nat.ne_of_lt (blk_lt (g:=Be) (o:=.cells #[.slice Ao13 t339.length co13,.int .i64 t342] 25 (0,0)) (bL Bd.out)):Be≠Ba));have n14_:=Am ((by rw [hg];exact Nat.ne_of_gt (blk_lt (g:=Be) (o:=.cells #[.slice Ao13 t339.length co13,.int .i64 t342] 25 (0,0)) (bL Bd.out)):Ba≠Be));clear Bg Bi Bh Bn Bk Bc Bd HB;revert n0_ n1_ n2_ n3_ n4_ n5_ n6_ n7_ n8_ n9_ n10_ n11_ n12_ n13_ n14_;intro Bg Bi Bh Bn Bk Bc Bd HB Bb Dn Bw Bl Bu Br Bv;clear hb hbox hg;obtain ⟨Ao19,co19,eo19⟩:=Kd.R_slice Bn.out;subst eo19;have Do:=Bu.out;have Dp:=Bl.out;have Dq:=Bv.out;have Dr:=Br.out;have BL:w18.cell? ⟨Ba,0,none⟩=some (.slice none 0 0):=(bC Bb.out 0).trans rfl;have BM:w18.cell? ⟨Ba,1,none⟩=some (.int .i64 0):=(bC Bb.out 1).trans rfl;have BN:=bF Bb.out 0;have BO:=bF Bb.out 1));go_upto_region 6 with (first|(go_at_call 30;(with_reducible refine (spec_DrawQueueRun.calls k _ _ l0 t333 t336 t337 _ ?side1 ?side2 A3.out).mono ?_);(case side1=>repeat (first|exact HR0.out|(with_reducible refine cA ?_ _)|(with_reducible refine cN ?_ _)|(with_reducible refine cD ?_)));(case side2=>exact HC0.out);rintro e w7 ⟨v334,rfl,ho0,hb⟩;have n0_:=Am (Kd.R_lower ho0 (bZ (by repeat (first|(with_reducible first|exact HB.out|apply oA|apply pN|apply o1)|exact HB.out))));have n1_:=Am (bP (by repeat (first|(with_reducible first|exact HB.out|apply oA|apply pN|apply o1)|exact HB.out)) hb);clear HB;revert n0_ n1_;intro Bg HB;(try clear hb);(try clear hb2);(try clear hk);(try clear hi);(try clear ho0))|((with_reducible refine gate_dst (N:=3) rfl ?_);refine box_event ?hg (N:=3) ?hd (cs:=#[.slice none 0 0,.int .i64 0]) (t:=25) ?hr ?_;(case hd=>rfl);(case hg=>rfl);(case hr=>first|(go_simp;done)|(go_simp;rfl));intro Bf hg w8 hbox hb;have n0_:=Am (rB (rL Bg.out) hb);have n1_:=Am (bP (by repeat (first|(with_reducible first|exact HB.out|apply oA|apply pN|apply o1)|exact HB.out)) hb);have n2_:=Am (hbox);have n3_:=Am ((by rw [hg];exact (bZ (by repeat (first|(with_reducible first|exact HB.out|apply oA|apply pN|apply o1)|exact HB.out))):w.heap.size≤Bf));have n4_:=Am ((by rw [hg];exact (bZ (by repeat (first|(with_reducible first|exact HB.out|apply oA|apply pN|apply o1)|exact HB.out))):w.heap.size≤Bf));clear Bg HB;revert n0_ n1_ n2_ n3_ n4_;intro Bg HB Bc Dj Bj;clear hb hbox hg;obtain ⟨Ao9,co9,eo9⟩:=Kd.R_slice Bg.out;subst eo9;have Bz:w8.cell? ⟨Bf,0,none⟩=some (.slice none 0 0):=(bC Bc.out 0).trans rfl;have BA:w8.cell? ⟨Bf,1,none⟩=some (.int .i64 0):=(bC Bc.out 1).trans rfl;have BB:=bF Bc.out 0;have BC:=bF Bc.out 1)|(go_at_call 19;(with_reducible refine (impl_QueueRun.calls k _ _ t333 t336 t337 t339 t342 t343 t346 _ ?side1 ?side2 A4.out).mono ?_);(case side1=>refine (Kd.R_reads' (e:=40) (base:=w.heap.size) (ok:=fun k_=>True) (n:=t333.length) (c:=co9) ?_).2.2;exact (by (with_reducible repeat (first|apply rA|apply rN|apply rD));exact (rM (rF (p:=⟨Bf,1,none⟩) (rF (p:=⟨Bf,0,none⟩) (rT Bg.out Bc.out (by decide)) (fun _ hk=>hk.2) (.slice Ao9 t333.length co9)) (fun _ hk=>hk.2) (.int .i64 t336)) (fun _ h_=>h_.1))));(case side2=>exact (Kd.R_reads' Bg.out).2.1);rintro e w11 ⟨v340,v344,rfl,ho0,ho1,hb⟩;have n0_:=Am (Kd.R_elder' (by (with_reducible repeat (first|apply rA|apply rN|apply rD));exact (rM (rF (p:=⟨Bf,1,none⟩) (rF (p:=⟨Bf,0,none⟩) (rT Bg.out Bc.out (by decide)) (fun _ hk=>hk.2) (.slice Ao9 t333.length co9)) (fun _ hk=>hk.2) (.int .i64 t336)) (fun _ h_=>h_.1))) (Kd.R_base ho0) hb);have n1_:=Am (Kd.R_lower (Kd.R_new' ho0 (Kd.R_lt (by (with_reducible repeat (first|apply rA|apply rN|apply rD));exact (rM (rF (p:=⟨Bf,1,none⟩) (rF (p:=⟨Bf,0,none⟩) (rT Bg.out Bc.out (by decide)) (fun _ hk=>hk.2) (.slice Ao9 t333.length co9)) (fun _ hk=>hk.2) (.int .i64 t336)) (fun _ h_=>h_.1))))) (bZ (by repeat (first|(with_reducible first|exact HB.out|apply oA|apply pN|apply o1|refine bS ?_ Bj.out)|exact HB.out))));have n2_:=Am (Kd.R_lower ho1 (bZ (by repeat (first|(with_reducible first|exact HB.out|apply oA|apply pN|apply o1|refine bS ?_ Bj.out)|exact HB.out))));have n3_:=Am (bB (g:=Bf) (o:=.cells #[.slice Ao9 t333.length co9,.int .i64 t336] 25 (0,0)) (by (with_reducible repeat (first|refine bN ?_ _|refine bD ?_|refine bA ?_ _));refine blk_put (cs:=#[.slice Ao9 t333.length co9,.int .i64 0]) ?_ 1 _ rfl;(with_reducible repeat (first|refine bN ?_ _|refine bD ?_|refine bA ?_ _));refine blk_put (cs:=#[.slice none 0 0,.int .i64 0]) ?_ 0 _ rfl;(with_reducible repeat (first|refine bN ?_ _|refine bD ?_|refine bA ?_ _));exact Bc.out) hb);have n4_:=Am (bP (by repeat (first|(with_reducible first|exact HB.out|apply oA|apply pN|apply o1|refine bS ?_ Bj.out)|exact HB.out)) hb);clear Bg Bc HB;revert n0_ n1_ n2_ n3_ n4_;intro Bg Bi Bh Bc HB;(try clear hb);(try clear hb2);(try clear hk);(try clear hi);(try clear ho0);(try clear ho1))|((with_reducible refine gate_dst (N:=5) rfl ?_);refine box_event ?hg (N:=5) ?hd (cs:=#[.slice none 0 0,.int .i64 0]) (t:=25) ?hr ?_;(case hd=>rfl);(case hg=>rfl);(case hr=>first|(go_simp;done)|(go_simp;rfl));intro Be hg w12 hbox hb;have n0_:=Am (rB (rL Bg.out) hb);have n1_:=Am (rB (rL Bi.out) hb);have n2_:=Am (rB (rL Bh.out) hb);have n3_:=Am (bB (g:=Bf) (o:=.cells #[.slice Ao9 t333.length co9,.int .i64 t336] 25 (0,0)) (bL Bc.out) hb);have n4_:=Am (bP (by repeat (first|(with_reducible first|exact HB.out|apply oA|apply pN|apply o1|refine bS ?_ Bj.out)|exact HB.out)) hb);have n5_:=Am (hbox);have n6_:=Am ((by rw [hg];exact (bZ (by repeat (first|(with_reducible first|exact HB.out|apply oA|apply pN|apply o1|refine bS ?_ Bj.out)|exact HB.out))):w.heap.size≤Be));have n7_:=Am ((by rw [hg];exact (bZ (by repeat (first|(with_reducible first|exact HB.out|apply oA|apply pN|apply o1|refine bS ?_ Bj.out)|exact HB.out))):w.heap.size≤Be));have n8_:=Am ((by rw [hg];exact Nat.ne_of_lt (blk_lt (g:=Bf) (o:=.cells #[.slice Ao9 t333.length co9,.int .i64 t336] 25 (0,0)) (bL Bc.out)):Bf≠Be));have n9_:=Am ((by rw [hg];exact Nat.ne_of_gt (blk_lt (g:=Bf) (o:=.cells #[.slice Ao9 t333.length co9,.int .i64 t336] 25 (0,0)) (bL Bc.out)):Be≠Bf));clear Bg Bi Bh Bc HB;revert n0_ n1_ n2_ n3_ n4_ n5_ n6_ n7_ n8_ n9_;intro Bg Bi Bh Bc HB Bd Dk Bs Bq Bt;clear hb hbox hg;obtain ⟨Ao13,co13,eo13⟩:=Kd.R_slice Bi.out;subst eo13;have Dl:=Bt.out;have Dm:=Bq.out;have BD:w12.cell? ⟨Be,0,none⟩=some (.slice none 0 0):=(bC Bd.out 0).trans rfl;have BE:w12.cell? ⟨Be,1,none⟩=some (.int .i64 0):=(bC Bd.out 1).trans rfl;have BF:=bF Bd.out 0;have BG:=bF Bd.out 1;have BH:w12.cell? ⟨Bf,0,none⟩=some (.slice Ao9 t333.length co9):=(bC Bc.out 0).trans rfl;have BI:w12.cell? ⟨Bf,1,none⟩=some (.int .i64 t336):=(bC Bc.out 1).trans rfl;have BJ:=bF Bc.out 0;have BK:=bF Bc.out 1)|(go_at_call 31;(with_reducible refine (spec_QueueRun.calls k _ _ t333 t336 t337 t348 t351 t352 t355 _ ?side1 ?side2 A5.out).mono ?_);(case side1=>refine (Kd.R_reads' (e:=40) (base:=w.heap.size) (ok:=fun k_=>(True∧some k_≠(.slice Ao13 t339.length co13:Value).ownBlock)) (n:=t333.length) (c:=co9) ?_).2.2;exact (by (with_reducible repeat (first|apply rA|apply rN|apply rD));exact (rM (rF (p:=⟨Be,1,none⟩) (rF (p:=⟨Be,0,none⟩) (rT Bg.out Bd.out (by decide)) (fun _ hk=>hk.2) (.slice Ao13 t339.length co13)) (fun _ hk=>hk.2) (.int .i64 t342)) (fun _ h_=>h_.1))));(case side2=>exact (Kd.R_reads' Bg.out).2.1);rintro e w17 ⟨v349,v353,rfl,ho0,ho1,hb⟩;have n0_:=Am (Kd.R_elder' (by (with_reducible repeat (first|apply rA|apply rN|apply rD));exact (rM (rF (p:=⟨Be,1,none⟩) (rF (p:=⟨Be,0,none⟩) (rT Bg.out Bd.out (by decide)) (fun _ hk=>hk.2) (.slice Ao13 t339.length co13)) (fun _ hk=>hk.2) (.int .i64 t342)) (fun _ h_=>h_.1))) (Kd.R_base ho0) hb);have n1_:=Am (Kd.R_elder' (by (with_reducible repeat (first|apply rA|apply rN|apply rD));exact (rM (rF (p:=⟨Be,1,none⟩) (rF (p:=⟨Be,0,none⟩) (rT Bi.out Bd.out (by decide)) (fun _ hk=>hk.2) (.slice Ao13 t339.length co13)) (fun _ hk=>hk.2) (.int .i64 t342)) (fun _ h_=>h_.1))) (Kd.R_base ho0) hb);have n2_:=Am (Kd.R_elder' (by (with_reducible repeat (first|apply rA|apply rN|apply rD));exact (rM (rF (p:=⟨Be,1,none⟩) (rF (p:=⟨Be,0,none⟩) (rT Bh.out Bd.out (by decide)) (fun _ hk=>hk.2) (.slice Ao13 t339.length co13)) (fun _ hk=>hk.2) (.int .i64 t342)) (fun _ h_=>h_.1))) (Kd.R_base ho1) hb);have n3_:=Am (Kd.R_lower (Kd.R_new' (Kd.R_new' ho0 (Kd.R_lt (by (with_reducible repeat (first|apply rA|apply rN|apply rD));exact (rM (rF (p:=⟨Be,1,none⟩) (rF (p:=⟨Be,0,none⟩) (rT Bg.out Bd.out (by decide)) (fun _ hk=>hk.2) (.slice Ao13 t339.length co13)) (fun _ hk=>hk.2) (.int .i64 t342)) (fun _ h_=>h_.1))))) (Kd.R_lt (by (with_reducible repeat (first|apply rA|apply rN|apply rD));exact (rM (rF (p:=⟨Be,1,none⟩) (rF (p:=⟨Be,0,none⟩) (rT Bi.out Bd.out (by decide)) (fun _ hk=>hk.2) (.slice Ao13 t339.length co13)) (fun _ hk=>hk.2) (.int .i64 t342)) (fun _ h_=>h_.1))))) (bZ (by repeat (first|(with_reducible first|exact HB.out|apply oA|apply pN|apply o1|refine bS ?_ Bj.out|refine bS ?_ Bs.out)|exact HB.out))));have n4_:=Am (Kd.R_lower (Kd.R_new' ho1 (Kd.R_lt (by (with_reducible repeat (first|apply rA|apply rN|apply rD));exact (rM (rF (p:=⟨Be,1,none⟩) (rF (p:=⟨Be,0,none⟩) (rT Bh.out Bd.out (by decide)) (fun _ hk=>hk.2) (.slice Ao13 t339.length co13)) (fun _ hk=>hk.2) (.int .i64 t342)) (fun _ h_=>h_.1))))) (bZ (by repeat (first|(with_reducible first|exact HB.out|apply oA|apply pN|apply o1|refine bS ?_ Bj.out|refine bS ?_ Bs.out)|exact HB.out))));have n5_:=Am (bB (g:=Bf) (o:=.cells #[.slice Ao9 t333.length co9,.int .i64 t336] 25 (0,0)) (by (with_reducible repeat (first|refine bN ?_ _|refine bD ?_|refine bA ?_ _|refine blk_far ?_ Bq.out _));exact Bc.out) hb);have n6_:=Am (bB (g:=Be) (o:=.cells #[.slice Ao13 t339.length co13,.int .i64 t342] 25 (0,0)) (by (with_reducible repeat (first|refine bN ?_ _|refine bD ?_|refine bA ?_ _));refine blk_put (cs:=#[.slice Ao13 t339.length co13,.int .i64 0]) ?_ 1 _ rfl;(with_reducible repeat (first|refine bN ?_ _|refine bD ?_|refine bA ?_ _));refine blk_put (cs:=#[.slice none 0 0,.int .i64 0]) ?_ 0 _ rfl;(with_reducible repeat (first|refine bN ?_ _|refine bD ?_|refine bA ?_ _));exact Bd.out) hb);have n7_:=Am (bP (by repeat (first|(with_reducible first|exact HB.out|apply oA|apply pN|apply o1|refine bS ?_ Bj.out|refine bS ?_ Bs.out)|exact HB.out)) hb);clear Bg Bi Bh Bc Bd HB;revert n0_ n1_ n2_ n3_ n4_ n5_ n6_ n7_;intro Bg Bi Bh Bn Bk Bc Bd HB;(try clear hb);(try clear hb2);(try clear hk);(try clear hi);(try clear ho0);(try clear ho1))|((with_reducible refine gate_dst (N:=8) rfl ?_);refine box_event ?hg (N:=8) ?hd (cs:=#[.slice none 0 0,.int .i64 0]) (t:=25) ?hr ?_;(case hd=>rfl);(case hg=>rfl);(case hr=>first|(go_simp;done)|(go_simp;rfl));intro Ba hg w18 hbox hb;have n0_:=Am (rB (rL Bg.out) hb);have n1_:=Am (rB (rL Bi.out) hb);have n2_:=Am (rB (rL Bh.out) hb);have n3_:=Am (rB (rL Bn.out) hb);have n4_:=Am (rB (rL Bk.out) hb);have n5_:=Am (bB (g:=Bf) (o:=.cells #[.slice Ao9 t333.length co9,.int .i64 t336] 25 (0,0)) (bL Bc.out) hb);have n6_:=Am (bB (g:=Be) (o:=.cells #[.slice Ao13 t339.length co13,.int .i64 t342] 25 (0,0)) (bL Bd.out) hb);have n7_:=Am (bP (by repeat (first|(with_reducible first|exact HB.out|apply oA|apply pN|apply o1|refine bS ?_ Bj.out|refine bS ?_ Bs.out)|exact HB.out)) hb);have n8_:=Am (hbox);have n9_:=Am ((by rw [hg];exact (bZ (by repeat (first|(with_reducible first|exact HB.out|apply oA|apply pN|apply o1|refine bS ?_ Bj.out|refine bS ?_ Bs.out)|exact HB.out))):w.heap.size≤Ba));have n10_:=Am ((by rw [hg];exact (bZ (by repeat (first|(with_reducible first|exact HB.out|apply oA|apply pN|apply o1|refine bS ?_ Bj.out|refine bS ?_ Bs.out)|exact HB.out))):w.heap.size≤Ba));have n11_:=Am ((by rw [hg];exact Nat.ne_of_lt (blk_lt (g:=Bf) (o:=.cells #[.slice Ao9 t333.length co9,.int .i64 t336] 25 (0,0)) (bL Bc.out)):Bf≠Ba));have n12_:=Am ((by rw [hg];exact Nat.ne_of_gt (blk_lt (g:=Bf) (o:=.cells #[.slice Ao9 t333.length co9,.int .i64 t336] 25 (0,0)) (bL Bc.out)):Ba≠Bf));have n13_:=Am ((by rw [hg];exact Nat.ne_of_lt (blk_lt (g:=Be) (o:=.cells #[.slice Ao13 t339.length co13,.int .i64 t342] 25 (0,0)) (bL Bd.out)):Be≠Ba));have n14_:=Am ((by rw [hg];exact Nat.ne_of_gt (blk_lt (g:=Be) (o:=.cells #[.slice Ao13 t339.length co13,.int .i64 t342] 25 (0,0)) (bL Bd.out)):Ba≠Be));clear Bg Bi Bh Bn Bk Bc Bd HB;revert n0_ n1_ n2_ n3_ n4_ n5_ n6_ n7_ n8_ n9_ n10_ n11_ n12_ n13_ n14_;intro Bg Bi Bh Bn Bk Bc Bd HB Bb Dn Bw Bl Bu Br Bv;clear hb hbox hg;obtain ⟨Ao19,co19,eo19⟩:=Kd.R_slice Bn.out;subst eo19;have Do:=Bu.out;have Dp:=Bl.out;have Dq:=Bv.out;have Dr:=Br.out;have BL:w18.cell? ⟨Ba,0,none⟩=some (.slice none 0 0):=(bC Bb.out 0).trans rfl;have BM:w18.cell? ⟨Ba,1,none⟩=some (.int .i64 0):=(bC Bb.out 1).trans rfl;have BN:=bF Bb.out 0;have BO:=bF Bb.out 1)))
 (try simp only [Act.put,lA,lZ,lS])
 go_cut [55] (fun v55 wc=>∃ (kq:Nat) (x55_5:Bool),v55=.bool x55_5∧Aside0 (laws_FnShareGap.j0 kq t343 t346 t352 t355 x55_5 t333 t336 t339 t342 t348 t351=some r)∧Aside0 (kq≤k)∧Aside0 (Kd.R (Kd.int .i64) 3 wc w.heap.size (fun k_=>some k_≠(v353:Value).ownBlock) v344 t343)∧Aside0 (Kd.R (Kd.int .i64) 3 wc w.heap.size (fun k_=>some k_≠(v344:Value).ownBlock) v353 t352)∧Aside0 (Kd.R k40 40 wc w.heap.size (fun k_=>some k_≠((.slice Ao13 t339.length co13):Value).ownBlock∧some k_≠((.slice Ao19 t348.length co19):Value).ownBlock) (.slice Ao9 t333.length co9) t333)∧Aside0 (Kd.R k40 40 wc w.heap.size (fun k_=>some k_≠((.slice Ao9 t333.length co9):Value).ownBlock∧some k_≠((.slice Ao19 t348.length co19):Value).ownBlock) (.slice Ao13 t339.length co13) t339)∧Aside0 (Kd.R k40 40 wc w.heap.size (fun k_=>some k_≠((.slice Ao9 t333.length co9):Value).ownBlock∧some k_≠((.slice Ao13 t339.length co13):Value).ownBlock) (.slice Ao19 t348.length co19) t348)∧Aside0 (wc.heap[Bf]?=some (.cells #[(.slice Ao9 t333.length co9),.int .i64 t336] 25 (0,0)))∧Aside0 (wc.heap[Be]?=some (.cells #[(.slice Ao13 t339.length co13),.int .i64 t342] 25 (0,0)))∧Aside0 (wc.heap[Ba]?=some (.cells #[(.slice Ao19 t348.length co19),.int .i64 t351] 25 (0,0)))∧Aside0 (Below w.heap.size w wc))
 case first =>
  have H:=HC6.out
  clear HC6
  by_cases c23:(t346 != t355)=true
  ·rw [if_pos c23] at H
   have c23b0:(t346 != t355)=true:=c23
   (try (have c23b1:decide (t346=t355)=false:=by simpa using c23))
   (try (have c23b2:(t346 == t355)=false:=by simpa using c23))
   (try (have c23b3:¬ (t346=t355):=by simpa using c23))
   clear c23
   (first|rw [c23b0]|(simp only [i64_w,i32_w];rw [c23b0])|skip)
   have H':=Am H
   clear H
   go_wp2
   repeat (go_quiet (fail);try go_wp2)
   go_meet
   case rel=>exact ⟨_,(true),(by first|rfl|(simp;done)|(simp [*];done)),H',⟨by first|omega|exact Nat.le_refl _⟩,⟨by (with_reducible repeat (first|apply rA|apply rN|apply rD));exact rM (rF (p:=⟨Ba,1,none⟩) (rF (p:=⟨Ba,0,none⟩) (rT Bh.out Bb.out (by decide)) (fun _ hk=>hk.2) (.slice Ao19 t348.length co19)) (fun _ hk=>hk.2) (.int .i64 t351)) (fun _ hk=>hk.1.2)⟩,⟨by (with_reducible repeat (first|apply rA|apply rN|apply rD));exact rM (rF (p:=⟨Ba,1,none⟩) (rF (p:=⟨Ba,0,none⟩) (rT Bk.out Bb.out (by decide)) (fun _ hk=>hk.2) (.slice Ao19 t348.length co19)) (fun _ hk=>hk.2) (.int .i64 t351)) (fun _ hk=>hk.1.2)⟩,⟨by (with_reducible repeat (first|apply rA|apply rN|apply rD));exact rM (rF (p:=⟨Ba,1,none⟩) (rF (p:=⟨Ba,0,none⟩) (rT Bg.out Bb.out (by decide)) (fun _ hk=>hk.2) (.slice Ao19 t348.length co19)) (fun _ hk=>hk.2) (.int .i64 t351)) (fun _ hk=>⟨hk.1.1.2,hk.1.2⟩)⟩,⟨by (with_reducible repeat (first|apply rA|apply rN|apply rD));exact rM (rF (p:=⟨Ba,1,none⟩) (rF (p:=⟨Ba,0,none⟩) (rT Bi.out Bb.out (by decide)) (fun _ hk=>hk.2) (.slice Ao19 t348.length co19)) (fun _ hk=>hk.2) (.int .i64 t351)) (fun _ hk=>⟨hk.1.1.2,hk.1.2⟩)⟩,⟨by (with_reducible repeat (first|apply rA|apply rN|apply rD));exact rM (rF (p:=⟨Ba,1,none⟩) (rF (p:=⟨Ba,0,none⟩) (rT Bn.out Bb.out (by decide)) (fun _ hk=>hk.2) (.slice Ao19 t348.length co19)) (fun _ hk=>hk.2) (.int .i64 t351)) (fun _ hk=>⟨hk.1.1.2,hk.1.2⟩)⟩,⟨by (with_reducible repeat (first|refine bN ?_ _|refine bD ?_|refine bA ?_ _|refine blk_far ?_ Bl.out _));exact Bc.out⟩,⟨by (with_reducible repeat (first|refine bN ?_ _|refine bD ?_|refine bA ?_ _|refine blk_far ?_ Br.out _));exact Bd.out⟩,⟨by (with_reducible repeat (first|refine bN ?_ _|refine bD ?_|refine bA ?_ _));refine blk_put (cs:=#[.slice Ao19 t348.length co19,.int .i64 0]) ?_ 1 _ rfl;(with_reducible repeat (first|refine bN ?_ _|refine bD ?_|refine bA ?_ _));refine blk_put (cs:=#[.slice none 0 0,.int .i64 0]) ?_ 0 _ rfl;(with_reducible repeat (first|refine bN ?_ _|refine bD ?_|refine bA ?_ _));exact Bb.out⟩,⟨by repeat (first|(with_reducible first|exact HB.out|apply oA|apply pN|apply o1|refine bS ?_ Bj.out|refine bS ?_ Bs.out|refine bS ?_ Bw.out)|exact HB.out)⟩⟩
  rw [if_neg c23] at H
  have c23b0:(t346 != t355)=false:=by simpa using c23
  (try (have c23b1:decide (t346=t355)=true:=by simpa using c23))
  (try (have c23b2:(t346 == t355)=true:=by simpa using c23))
  clear c23
  (first|rw [c23b0]|(simp only [i64_w,i32_w];rw [c23b0])|skip)
  replace H:=oC H
  obtain ⟨t357,A240,H⟩:=H
  replace H:(if t357=true then ((laws_qdQueue.f k t339 t342 t348 t351).bind fun t358=>(if t358=true then (laws_FnShareGap.j0 k t343 t346 t352 t355 (!t346) t333 t336 t339 t342 t348 t351) else (laws_FnShareGap.j0 k t343 t346 t352 t355 true t333 t336 t339 t342 t348 t351))) else (laws_FnShareGap.j0 k t343 t346 t352 t355 true t333 t336 t339 t342 t348 t351))=some r:=H
  have A24:=Am A240
  clear A240
  by_cases c25:t357=true
  rotate_left
  ·replace c25:=Bool.eq_false_iff.mpr c25
   subst c25
   have H1:(laws_FnShareGap.j0 k t343 t346 t352 t355 true t333 t336 t339 t342 t348 t351)=some r:=by rw [if_neg (show ¬ (false=true) by decide)] at H;exact H
   clear H
   have H:=H1
   clear H1
   have H':=Am H
   clear H
   obtain ⟨Ao44,co44,eo44⟩:=Kd.R_slice Bh.out
   subst eo44
   obtain ⟨Ao45,co45,eo45⟩:=Kd.R_slice Bk.out
   subst eo45
   go_wp2_with (first|(go_at_call 32;(with_reducible refine (laws_qdInts.calls k _ _ t343 _ _ t352 false _ ?side1 ?side2 ?side3 ?side4 A24.out).mono ?_);(case side1=>refine (Kd.R_reads' (e:=3) (base:=w.heap.size) (ok:=fun k_=>(True∧some k_≠(.slice Ao45 t352.length co45:Value).ownBlock)) (n:=t343.length) (c:=co44) ?_).2.2;exact (by (with_reducible repeat (first|apply rA|apply rN|apply rD));exact (rM (rF (p:=⟨Ba,1,none⟩) (rF (p:=⟨Ba,0,none⟩) (rT Bh.out Bb.out (by decide)) (fun _ hk=>hk.2) (.slice Ao19 t348.length co19)) (fun _ hk=>hk.2) (.int .i64 t351)) (fun _ h_=>h_.1))));(case side2=>exact (Kd.R_reads' Bh.out).2.1);(case side3=>refine (Kd.R_reads' (e:=3) (base:=w.heap.size) (ok:=fun k_=>(True∧some k_≠(.slice Ao44 t343.length co44:Value).ownBlock)) (n:=t352.length) (c:=co45) ?_).2.2;exact (by (with_reducible repeat (first|apply rA|apply rN|apply rD));exact (rM (rF (p:=⟨Ba,1,none⟩) (rF (p:=⟨Ba,0,none⟩) (rT Bk.out Bb.out (by decide)) (fun _ hk=>hk.2) (.slice Ao19 t348.length co19)) (fun _ hk=>hk.2) (.int .i64 t351)) (fun _ h_=>h_.1))));(case side4=>exact (Kd.R_reads' Bk.out).2.1);rintro e w' ⟨rfl,⟨nd,rfl⟩⟩;(try first|exact ⟨rfl,_,World.drewN_drewN _ _ _⟩|exact ⟨rfl,_,Eq.trans (World.drewN_drewN _ _ _) (congrArg (World.drewN _) (Nat.add_assoc _ _ _))⟩)))
   repeat (go_quiet (first|(go_at_call 32;(with_reducible refine (laws_qdInts.calls k _ _ t343 _ _ t352 false _ ?side1 ?side2 ?side3 ?side4 A24.out).mono ?_);(case side1=>refine (Kd.R_reads' (e:=3) (base:=w.heap.size) (ok:=fun k_=>(True∧some k_≠(.slice Ao45 t352.length co45:Value).ownBlock)) (n:=t343.length) (c:=co44) ?_).2.2;exact (by (with_reducible repeat (first|apply rA|apply rN|apply rD));exact (rM (rF (p:=⟨Ba,1,none⟩) (rF (p:=⟨Ba,0,none⟩) (rT Bh.out Bb.out (by decide)) (fun _ hk=>hk.2) (.slice Ao19 t348.length co19)) (fun _ hk=>hk.2) (.int .i64 t351)) (fun _ h_=>h_.1))));(case side2=>exact (Kd.R_reads' Bh.out).2.1);(case side3=>refine (Kd.R_reads' (e:=3) (base:=w.heap.size) (ok:=fun k_=>(True∧some k_≠(.slice Ao44 t343.length co44:Value).ownBlock)) (n:=t352.length) (c:=co45) ?_).2.2;exact (by (with_reducible repeat (first|apply rA|apply rN|apply rD));exact (rM (rF (p:=⟨Ba,1,none⟩) (rF (p:=⟨Ba,0,none⟩) (rT Bk.out Bb.out (by decide)) (fun _ hk=>hk.2) (.slice Ao19 t348.length co19)) (fun _ hk=>hk.2) (.int .i64 t351)) (fun _ h_=>h_.1))));(case side4=>exact (Kd.R_reads' Bk.out).2.1);rintro e w' ⟨rfl,⟨nd,rfl⟩⟩;(try first|exact ⟨rfl,_,World.drewN_drewN _ _ _⟩|exact ⟨rfl,_,Eq.trans (World.drewN_drewN _ _ _) (congrArg (World.drewN _) (Nat.add_assoc _ _ _))⟩)));try go_wp2_with (first|(go_at_call 32;(with_reducible refine (laws_qdInts.calls k _ _ t343 _ _ t352 false _ ?side1 ?side2 ?side3 ?side4 A24.out).mono ?_);(case side1=>refine (Kd.R_reads' (e:=3) (base:=w.heap.size) (ok:=fun k_=>(True∧some k_≠(.slice Ao45 t352.length co45:Value).ownBlock)) (n:=t343.length) (c:=co44) ?_).2.2;exact (by (with_reducible repeat (first|apply rA|apply rN|apply rD));exact (rM (rF (p:=⟨Ba,1,none⟩) (rF (p:=⟨Ba,0,none⟩) (rT Bh.out Bb.out (by decide)) (fun _ hk=>hk.2) (.slice Ao19 t348.length co19)) (fun _ hk=>hk.2) (.int .i64 t351)) (fun _ h_=>h_.1))));(case side2=>exact (Kd.R_reads' Bh.out).2.1);(case side3=>refine (Kd.R_reads' (e:=3) (base:=w.heap.size) (ok:=fun k_=>(True∧some k_≠(.slice Ao44 t343.length co44:Value).ownBlock)) (n:=t352.length) (c:=co45) ?_).2.2;exact (by (with_reducible repeat (first|apply rA|apply rN|apply rD));exact (rM (rF (p:=⟨Ba,1,none⟩) (rF (p:=⟨Ba,0,none⟩) (rT Bk.out Bb.out (by decide)) (fun _ hk=>hk.2) (.slice Ao19 t348.length co19)) (fun _ hk=>hk.2) (.int .i64 t351)) (fun _ h_=>h_.1))));(case side4=>exact (Kd.R_reads' Bk.out).2.1);rintro e w' ⟨rfl,⟨nd,rfl⟩⟩;(try first|exact ⟨rfl,_,World.drewN_drewN _ _ _⟩|exact ⟨rfl,_,Eq.trans (World.drewN_drewN _ _ _) (congrArg (World.drewN _) (Nat.add_assoc _ _ _))⟩))))
   go_meet
   case rel=>exact ⟨_,(true),(by first|rfl|(simp;done)|(simp [*];done)),H',⟨by first|omega|exact Nat.le_refl _⟩,⟨by (with_reducible repeat (first|apply rA|apply rN|apply rD));exact rM (rF (p:=⟨Ba,1,none⟩) (rF (p:=⟨Ba,0,none⟩) (rT Bh.out Bb.out (by decide)) (fun _ hk=>hk.2) (.slice Ao19 t348.length co19)) (fun _ hk=>hk.2) (.int .i64 t351)) (fun _ hk=>hk.1.2)⟩,⟨by (with_reducible repeat (first|apply rA|apply rN|apply rD));exact rM (rF (p:=⟨Ba,1,none⟩) (rF (p:=⟨Ba,0,none⟩) (rT Bk.out Bb.out (by decide)) (fun _ hk=>hk.2) (.slice Ao19 t348.length co19)) (fun _ hk=>hk.2) (.int .i64 t351)) (fun _ hk=>hk.1.2)⟩,⟨by (with_reducible repeat (first|apply rA|apply rN|apply rD));exact rM (rF (p:=⟨Ba,1,none⟩) (rF (p:=⟨Ba,0,none⟩) (rT Bg.out Bb.out (by decide)) (fun _ hk=>hk.2) (.slice Ao19 t348.length co19)) (fun _ hk=>hk.2) (.int .i64 t351)) (fun _ hk=>⟨hk.1.1.2,hk.1.2⟩)⟩,⟨by (with_reducible repeat (first|apply rA|apply rN|apply rD));exact rM (rF (p:=⟨Ba,1,none⟩) (rF (p:=⟨Ba,0,none⟩) (rT Bi.out Bb.out (by decide)) (fun _ hk=>hk.2) (.slice Ao19 t348.length co19)) (fun _ hk=>hk.2) (.int .i64 t351)) (fun _ hk=>⟨hk.1.1.2,hk.1.2⟩)⟩,⟨by (with_reducible repeat (first|apply rA|apply rN|apply rD));exact rM (rF (p:=⟨Ba,1,none⟩) (rF (p:=⟨Ba,0,none⟩) (rT Bn.out Bb.out (by decide)) (fun _ hk=>hk.2) (.slice Ao19 t348.length co19)) (fun _ hk=>hk.2) (.int .i64 t351)) (fun _ hk=>⟨hk.1.1.2,hk.1.2⟩)⟩,⟨by (with_reducible repeat (first|refine bN ?_ _|refine bD ?_|refine bA ?_ _|refine blk_far ?_ Bl.out _));exact Bc.out⟩,⟨by (with_reducible repeat (first|refine bN ?_ _|refine bD ?_|refine bA ?_ _|refine blk_far ?_ Br.out _));exact Bd.out⟩,⟨by (with_reducible repeat (first|refine bN ?_ _|refine bD ?_|refine bA ?_ _));refine blk_put (cs:=#[.slice Ao19 t348.length co19,.int .i64 0]) ?_ 1 _ rfl;(with_reducible repeat (first|refine bN ?_ _|refine bD ?_|refine bA ?_ _));refine blk_put (cs:=#[.slice none 0 0,.int .i64 0]) ?_ 0 _ rfl;(with_reducible repeat (first|refine bN ?_ _|refine bD ?_|refine bA ?_ _));exact Bb.out⟩,⟨by repeat (first|(with_reducible first|exact HB.out|apply oA|apply pN|apply o1|refine bS ?_ Bj.out|refine bS ?_ Bs.out|refine bS ?_ Bw.out)|exact HB.out)⟩⟩
  subst c25
  have H1:((laws_qdQueue.f k t339 t342 t348 t351).bind fun t358=>(if t358=true then (laws_FnShareGap.j0 k t343 t346 t352 t355 (!t346) t333 t336 t339 t342 t348 t351) else (laws_FnShareGap.j0 k t343 t346 t352 t355 true t333 t336 t339 t342 t348 t351)))=some r:=by rw [if_pos rfl] at H;exact H
  clear H
  have H:=H1
  clear H1
  replace H:=oC H
  obtain ⟨t358,A260,H⟩:=H
  replace H:(if t358=true then (laws_FnShareGap.j0 k t343 t346 t352 t355 (!t346) t333 t336 t339 t342 t348 t351) else (laws_FnShareGap.j0 k t343 t346 t352 t355 true t333 t336 t339 t342 t348 t351))=some r:=H
  have A26:=Am A260
  clear A260
  by_cases c27:t358=true
  ·subst c27
   have H1:(laws_FnShareGap.j0 k t343 t346 t352 t355 (!t346) t333 t336 t339 t342 t348 t351)=some r:=by rw [if_pos rfl] at H;exact H
   clear H
   have H:=H1
   clear H1
   have H':=Am H
   clear H
   obtain ⟨Ao28,co28,eo28⟩:=Kd.R_slice Bh.out
   subst eo28
   obtain ⟨Ao29,co29,eo29⟩:=Kd.R_slice Bk.out
   subst eo29
   go_wp2_with (first|(go_at_call 32;(with_reducible refine (laws_qdInts.calls k _ _ t343 _ _ t352 true _ ?side1 ?side2 ?side3 ?side4 A24.out).mono ?_);(case side1=>refine (Kd.R_reads' (e:=3) (base:=w.heap.size) (ok:=fun k_=>(True∧some k_≠(.slice Ao29 t352.length co29:Value).ownBlock)) (n:=t343.length) (c:=co28) ?_).2.2;exact (by (with_reducible repeat (first|apply rA|apply rN|apply rD));exact (rM (rF (p:=⟨Ba,1,none⟩) (rF (p:=⟨Ba,0,none⟩) (rT Bh.out Bb.out (by decide)) (fun _ hk=>hk.2) (.slice Ao19 t348.length co19)) (fun _ hk=>hk.2) (.int .i64 t351)) (fun _ h_=>h_.1))));(case side2=>exact (Kd.R_reads' Bh.out).2.1);(case side3=>refine (Kd.R_reads' (e:=3) (base:=w.heap.size) (ok:=fun k_=>(True∧some k_≠(.slice Ao28 t343.length co28:Value).ownBlock)) (n:=t352.length) (c:=co29) ?_).2.2;exact (by (with_reducible repeat (first|apply rA|apply rN|apply rD));exact (rM (rF (p:=⟨Ba,1,none⟩) (rF (p:=⟨Ba,0,none⟩) (rT Bk.out Bb.out (by decide)) (fun _ hk=>hk.2) (.slice Ao19 t348.length co19)) (fun _ hk=>hk.2) (.int .i64 t351)) (fun _ h_=>h_.1))));(case side4=>exact (Kd.R_reads' Bk.out).2.1);rintro e w' ⟨rfl,⟨nd,rfl⟩⟩;(try first|exact ⟨rfl,_,World.drewN_drewN _ _ _⟩|exact ⟨rfl,_,Eq.trans (World.drewN_drewN _ _ _) (congrArg (World.drewN _) (Nat.add_assoc _ _ _))⟩);have Ds:=Bt.out;have Dt:=Bq.out;have Du:=Br.out;have Dv:=Bv.out;have BP:w18.cell? ⟨Be,0,none⟩=some (.slice Ao13 t339.length co13):=(bC Bd.out 0).trans rfl;have BQ:w18.cell? ⟨Be,1,none⟩=some (.int .i64 t342):=(bC Bd.out 1).trans rfl;have BR:=bF Bd.out 0;have BS:=bF Bd.out 1;have Dw:=Bu.out;have Dx:=Bl.out;have BT:w18.cell? ⟨Ba,0,none⟩=some (.slice none 0 0):=(bC Bb.out 0).trans rfl;have BU:w18.cell? ⟨Ba,1,none⟩=some (.int .i64 0):=(bC Bb.out 1).trans rfl;have BV:=bF Bb.out 0;have BW:=bF Bb.out 1)|(go_at_call 15;(with_reducible refine (laws_qdQueue.calls k _ _ t339 t342 _ _ t348 t351 true _ ?side1 ?side2 ?side3 ?side4 A26.out).mono ?_);(case side1=>refine (Kd.R_reads' (e:=40) (base:=w.heap.size) (ok:=fun k_=>((True∧some k_≠(.slice Ao9 t333.length co9:Value).ownBlock)∧some k_≠(.slice Ao19 t348.length co19:Value).ownBlock)) (n:=t339.length) (c:=co13) ?_).2.2;exact (by (with_reducible repeat (first|apply rA|apply rN|apply rD));exact (rM (rF (p:=⟨Ba,1,none⟩) (rF (p:=⟨Ba,0,none⟩) (rT Bi.out Bb.out (by decide)) (fun _ hk=>hk.2) (.slice Ao19 t348.length co19)) (fun _ hk=>hk.2) (.int .i64 t351)) (fun _ h_=>h_.1))));(case side2=>exact (Kd.R_reads' Bi.out).2.1);(case side3=>refine (Kd.R_reads' (e:=40) (base:=w.heap.size) (ok:=fun k_=>((True∧some k_≠(.slice Ao9 t333.length co9:Value).ownBlock)∧some k_≠(.slice Ao13 t339.length co13:Value).ownBlock)) (n:=t348.length) (c:=co19) ?_).2.2;exact (by (with_reducible repeat (first|apply rA|apply rN|apply rD));exact (rM (rF (p:=⟨Ba,1,none⟩) (rF (p:=⟨Ba,0,none⟩) (rT Bn.out Bb.out (by decide)) (fun _ hk=>hk.2) (.slice Ao19 t348.length co19)) (fun _ hk=>hk.2) (.int .i64 t351)) (fun _ h_=>h_.1))));(case side4=>exact (Kd.R_reads' Bn.out).2.1);rintro e w35 ⟨rfl,hb⟩;have n0_:=Am (rB (by (with_reducible repeat (first|apply rA|apply rN|apply rD));exact (rM (rF (p:=⟨Ba,1,none⟩) (rF (p:=⟨Ba,0,none⟩) (rT Bg.out Bb.out (by decide)) (fun _ hk=>hk.2) (.slice Ao19 t348.length co19)) (fun _ hk=>hk.2) (.int .i64 t351)) (fun _ h_=>h_.1))) hb);have n1_:=Am (rB (by (with_reducible repeat (first|apply rA|apply rN|apply rD));exact (rM (rF (p:=⟨Ba,1,none⟩) (rF (p:=⟨Ba,0,none⟩) (rT Bi.out Bb.out (by decide)) (fun _ hk=>hk.2) (.slice Ao19 t348.length co19)) (fun _ hk=>hk.2) (.int .i64 t351)) (fun _ h_=>h_.1))) hb);have n2_:=Am (rB (by (with_reducible repeat (first|apply rA|apply rN|apply rD));exact (rM (rF (p:=⟨Ba,1,none⟩) (rF (p:=⟨Ba,0,none⟩) (rT Bh.out Bb.out (by decide)) (fun _ hk=>hk.2) (.slice Ao19 t348.length co19)) (fun _ hk=>hk.2) (.int .i64 t351)) (fun _ h_=>h_.1))) hb);have n3_:=Am (rB (by (with_reducible repeat (first|apply rA|apply rN|apply rD));exact (rM (rF (p:=⟨Ba,1,none⟩) (rF (p:=⟨Ba,0,none⟩) (rT Bn.out Bb.out (by decide)) (fun _ hk=>hk.2) (.slice Ao19 t348.length co19)) (fun _ hk=>hk.2) (.int .i64 t351)) (fun _ h_=>h_.1))) hb);have n4_:=Am (rB (by (with_reducible repeat (first|apply rA|apply rN|apply rD));exact (rM (rF (p:=⟨Ba,1,none⟩) (rF (p:=⟨Ba,0,none⟩) (rT Bk.out Bb.out (by decide)) (fun _ hk=>hk.2) (.slice Ao19 t348.length co19)) (fun _ hk=>hk.2) (.int .i64 t351)) (fun _ h_=>h_.1))) hb);have n5_:=Am (bB (g:=Bf) (o:=.cells #[.slice Ao9 t333.length co9,.int .i64 t336] 25 (0,0)) (by (with_reducible repeat (first|refine bN ?_ _|refine bD ?_|refine bA ?_ _|refine blk_far ?_ Bl.out _));exact Bc.out) hb);have n6_:=Am (bB (g:=Be) (o:=.cells #[.slice Ao13 t339.length co13,.int .i64 t342] 25 (0,0)) (by (with_reducible repeat (first|refine bN ?_ _|refine bD ?_|refine bA ?_ _|refine blk_far ?_ Br.out _));exact Bd.out) hb);have n7_:=Am (bB (g:=Ba) (o:=.cells #[.slice Ao19 t348.length co19,.int .i64 t351] 25 (0,0)) (by (with_reducible repeat (first|refine bN ?_ _|refine bD ?_|refine bA ?_ _));refine blk_put (cs:=#[.slice Ao19 t348.length co19,.int .i64 0]) ?_ 1 _ rfl;(with_reducible repeat (first|refine bN ?_ _|refine bD ?_|refine bA ?_ _));refine blk_put (cs:=#[.slice none 0 0,.int .i64 0]) ?_ 0 _ rfl;(with_reducible repeat (first|refine bN ?_ _|refine bD ?_|refine bA ?_ _));exact Bb.out) hb);have n8_:=Am (bP (by repeat (first|(with_reducible first|exact HB.out|apply oA|apply pN|apply o1|refine bS ?_ Bj.out|refine bS ?_ Bs.out|refine bS ?_ Bw.out)|exact HB.out)) hb);clear Bg Bi Bh Bn Bk Bc Bd Bb HB;revert n0_ n1_ n2_ n3_ n4_ n5_ n6_ n7_ n8_;intro Bg Bi Bh Bn Bk Bc Bd Bb HB;(try clear hb);(try clear hb2);(try clear hk);(try clear hi)))
   repeat (go_quiet (first|(go_at_call 32;(with_reducible refine (laws_qdInts.calls k _ _ t343 _ _ t352 true _ ?side1 ?side2 ?side3 ?side4 A24.out).mono ?_);(case side1=>refine (Kd.R_reads' (e:=3) (base:=w.heap.size) (ok:=fun k_=>(True∧some k_≠(.slice Ao29 t352.length co29:Value).ownBlock)) (n:=t343.length) (c:=co28) ?_).2.2;exact (by (with_reducible repeat (first|apply rA|apply rN|apply rD));exact (rM (rF (p:=⟨Ba,1,none⟩) (rF (p:=⟨Ba,0,none⟩) (rT Bh.out Bb.out (by decide)) (fun _ hk=>hk.2) (.slice Ao19 t348.length co19)) (fun _ hk=>hk.2) (.int .i64 t351)) (fun _ h_=>h_.1))));(case side2=>exact (Kd.R_reads' Bh.out).2.1);(case side3=>refine (Kd.R_reads' (e:=3) (base:=w.heap.size) (ok:=fun k_=>(True∧some k_≠(.slice Ao28 t343.length co28:Value).ownBlock)) (n:=t352.length) (c:=co29) ?_).2.2;exact (by (with_reducible repeat (first|apply rA|apply rN|apply rD));exact (rM (rF (p:=⟨Ba,1,none⟩) (rF (p:=⟨Ba,0,none⟩) (rT Bk.out Bb.out (by decide)) (fun _ hk=>hk.2) (.slice Ao19 t348.length co19)) (fun _ hk=>hk.2) (.int .i64 t351)) (fun _ h_=>h_.1))));(case side4=>exact (Kd.R_reads' Bk.out).2.1);rintro e w' ⟨rfl,⟨nd,rfl⟩⟩;(try first|exact ⟨rfl,_,World.drewN_drewN _ _ _⟩|exact ⟨rfl,_,Eq.trans (World.drewN_drewN _ _ _) (congrArg (World.drewN _) (Nat.add_assoc _ _ _))⟩);have Ds:=Bt.out;have Dt:=Bq.out;have Du:=Br.out;have Dv:=Bv.out;have BP:w18.cell? ⟨Be,0,none⟩=some (.slice Ao13 t339.length co13):=(bC Bd.out 0).trans rfl;have BQ:w18.cell? ⟨Be,1,none⟩=some (.int .i64 t342):=(bC Bd.out 1).trans rfl;have BR:=bF Bd.out 0;have BS:=bF Bd.out 1;have Dw:=Bu.out;have Dx:=Bl.out;have BT:w18.cell? ⟨Ba,0,none⟩=some (.slice none 0 0):=(bC Bb.out 0).trans rfl;have BU:w18.cell? ⟨Ba,1,none⟩=some (.int .i64 0):=(bC Bb.out 1).trans rfl;have BV:=bF Bb.out 0;have BW:=bF Bb.out 1)|(go_at_call 15;(with_reducible refine (laws_qdQueue.calls k _ _ t339 t342 _ _ t348 t351 true _ ?side1 ?side2 ?side3 ?side4 A26.out).mono ?_);(case side1=>refine (Kd.R_reads' (e:=40) (base:=w.heap.size) (ok:=fun k_=>((True∧some k_≠(.slice Ao9 t333.length co9:Value).ownBlock)∧some k_≠(.slice Ao19 t348.length co19:Value).ownBlock)) (n:=t339.length) (c:=co13) ?_).2.2;exact (by (with_reducible repeat (first|apply rA|apply rN|apply rD));exact (rM (rF (p:=⟨Ba,1,none⟩) (rF (p:=⟨Ba,0,none⟩) (rT Bi.out Bb.out (by decide)) (fun _ hk=>hk.2) (.slice Ao19 t348.length co19)) (fun _ hk=>hk.2) (.int .i64 t351)) (fun _ h_=>h_.1))));(case side2=>exact (Kd.R_reads' Bi.out).2.1);(case side3=>refine (Kd.R_reads' (e:=40) (base:=w.heap.size) (ok:=fun k_=>((True∧some k_≠(.slice Ao9 t333.length co9:Value).ownBlock)∧some k_≠(.slice Ao13 t339.length co13:Value).ownBlock)) (n:=t348.length) (c:=co19) ?_).2.2;exact (by (with_reducible repeat (first|apply rA|apply rN|apply rD));exact (rM (rF (p:=⟨Ba,1,none⟩) (rF (p:=⟨Ba,0,none⟩) (rT Bn.out Bb.out (by decide)) (fun _ hk=>hk.2) (.slice Ao19 t348.length co19)) (fun _ hk=>hk.2) (.int .i64 t351)) (fun _ h_=>h_.1))));(case side4=>exact (Kd.R_reads' Bn.out).2.1);rintro e w35 ⟨rfl,hb⟩;have n0_:=Am (rB (by (with_reducible repeat (first|apply rA|apply rN|apply rD));exact (rM (rF (p:=⟨Ba,1,none⟩) (rF (p:=⟨Ba,0,none⟩) (rT Bg.out Bb.out (by decide)) (fun _ hk=>hk.2) (.slice Ao19 t348.length co19)) (fun _ hk=>hk.2) (.int .i64 t351)) (fun _ h_=>h_.1))) hb);have n1_:=Am (rB (by (with_reducible repeat (first|apply rA|apply rN|apply rD));exact (rM (rF (p:=⟨Ba,1,none⟩) (rF (p:=⟨Ba,0,none⟩) (rT Bi.out Bb.out (by decide)) (fun _ hk=>hk.2) (.slice Ao19 t348.length co19)) (fun _ hk=>hk.2) (.int .i64 t351)) (fun _ h_=>h_.1))) hb);have n2_:=Am (rB (by (with_reducible repeat (first|apply rA|apply rN|apply rD));exact (rM (rF (p:=⟨Ba,1,none⟩) (rF (p:=⟨Ba,0,none⟩) (rT Bh.out Bb.out (by decide)) (fun _ hk=>hk.2) (.slice Ao19 t348.length co19)) (fun _ hk=>hk.2) (.int .i64 t351)) (fun _ h_=>h_.1))) hb);have n3_:=Am (rB (by (with_reducible repeat (first|apply rA|apply rN|apply rD));exact (rM (rF (p:=⟨Ba,1,none⟩) (rF (p:=⟨Ba,0,none⟩) (rT Bn.out Bb.out (by decide)) (fun _ hk=>hk.2) (.slice Ao19 t348.length co19)) (fun _ hk=>hk.2) (.int .i64 t351)) (fun _ h_=>h_.1))) hb);have n4_:=Am (rB (by (with_reducible repeat (first|apply rA|apply rN|apply rD));exact (rM (rF (p:=⟨Ba,1,none⟩) (rF (p:=⟨Ba,0,none⟩) (rT Bk.out Bb.out (by decide)) (fun _ hk=>hk.2) (.slice Ao19 t348.length co19)) (fun _ hk=>hk.2) (.int .i64 t351)) (fun _ h_=>h_.1))) hb);have n5_:=Am (bB (g:=Bf) (o:=.cells #[.slice Ao9 t333.length co9,.int .i64 t336] 25 (0,0)) (by (with_reducible repeat (first|refine bN ?_ _|refine bD ?_|refine bA ?_ _|refine blk_far ?_ Bl.out _));exact Bc.out) hb);have n6_:=Am (bB (g:=Be) (o:=.cells #[.slice Ao13 t339.length co13,.int .i64 t342] 25 (0,0)) (by (with_reducible repeat (first|refine bN ?_ _|refine bD ?_|refine bA ?_ _|refine blk_far ?_ Br.out _));exact Bd.out) hb);have n7_:=Am (bB (g:=Ba) (o:=.cells #[.slice Ao19 t348.length co19,.int .i64 t351] 25 (0,0)) (by (with_reducible repeat (first|refine bN ?_ _|refine bD ?_|refine bA ?_ _));refine blk_put (cs:=#[.slice Ao19 t348.length co19,.int .i64 0]) ?_ 1 _ rfl;(with_reducible repeat (first|refine bN ?_ _|refine bD ?_|refine bA ?_ _));refine blk_put (cs:=#[.slice none 0 0,.int .i64 0]) ?_ 0 _ rfl;(with_reducible repeat (first|refine bN ?_ _|refine bD ?_|refine bA ?_ _));exact Bb.out) hb);have n8_:=Am (bP (by repeat (first|(with_reducible first|exact HB.out|apply oA|apply pN|apply o1|refine bS ?_ Bj.out|refine bS ?_ Bs.out|refine bS ?_ Bw.out)|exact HB.out)) hb);clear Bg Bi Bh Bn Bk Bc Bd Bb HB;revert n0_ n1_ n2_ n3_ n4_ n5_ n6_ n7_ n8_;intro Bg Bi Bh Bn Bk Bc Bd Bb HB;(try clear hb);(try clear hb2);(try clear hk);(try clear hi)));try go_wp2_with (first|(go_at_call 32;(with_reducible refine (laws_qdInts.calls k _ _ t343 _ _ t352 true _ ?side1 ?side2 ?side3 ?side4 A24.out).mono ?_);(case side1=>refine (Kd.R_reads' (e:=3) (base:=w.heap.size) (ok:=fun k_=>(True∧some k_≠(.slice Ao29 t352.length co29:Value).ownBlock)) (n:=t343.length) (c:=co28) ?_).2.2;exact (by (with_reducible repeat (first|apply rA|apply rN|apply rD));exact (rM (rF (p:=⟨Ba,1,none⟩) (rF (p:=⟨Ba,0,none⟩) (rT Bh.out Bb.out (by decide)) (fun _ hk=>hk.2) (.slice Ao19 t348.length co19)) (fun _ hk=>hk.2) (.int .i64 t351)) (fun _ h_=>h_.1))));(case side2=>exact (Kd.R_reads' Bh.out).2.1);(case side3=>refine (Kd.R_reads' (e:=3) (base:=w.heap.size) (ok:=fun k_=>(True∧some k_≠(.slice Ao28 t343.length co28:Value).ownBlock)) (n:=t352.length) (c:=co29) ?_).2.2;exact (by (with_reducible repeat (first|apply rA|apply rN|apply rD));exact (rM (rF (p:=⟨Ba,1,none⟩) (rF (p:=⟨Ba,0,none⟩) (rT Bk.out Bb.out (by decide)) (fun _ hk=>hk.2) (.slice Ao19 t348.length co19)) (fun _ hk=>hk.2) (.int .i64 t351)) (fun _ h_=>h_.1))));(case side4=>exact (Kd.R_reads' Bk.out).2.1);rintro e w' ⟨rfl,⟨nd,rfl⟩⟩;(try first|exact ⟨rfl,_,World.drewN_drewN _ _ _⟩|exact ⟨rfl,_,Eq.trans (World.drewN_drewN _ _ _) (congrArg (World.drewN _) (Nat.add_assoc _ _ _))⟩);have Ds:=Bt.out;have Dt:=Bq.out;have Du:=Br.out;have Dv:=Bv.out;have BP:w18.cell? ⟨Be,0,none⟩=some (.slice Ao13 t339.length co13):=(bC Bd.out 0).trans rfl;have BQ:w18.cell? ⟨Be,1,none⟩=some (.int .i64 t342):=(bC Bd.out 1).trans rfl;have BR:=bF Bd.out 0;have BS:=bF Bd.out 1;have Dw:=Bu.out;have Dx:=Bl.out;have BT:w18.cell? ⟨Ba,0,none⟩=some (.slice none 0 0):=(bC Bb.out 0).trans rfl;have BU:w18.cell? ⟨Ba,1,none⟩=some (.int .i64 0):=(bC Bb.out 1).trans rfl;have BV:=bF Bb.out 0;have BW:=bF Bb.out 1)|(go_at_call 15;(with_reducible refine (laws_qdQueue.calls k _ _ t339 t342 _ _ t348 t351 true _ ?side1 ?side2 ?side3 ?side4 A26.out).mono ?_);(case side1=>refine (Kd.R_reads' (e:=40) (base:=w.heap.size) (ok:=fun k_=>((True∧some k_≠(.slice Ao9 t333.length co9:Value).ownBlock)∧some k_≠(.slice Ao19 t348.length co19:Value).ownBlock)) (n:=t339.length) (c:=co13) ?_).2.2;exact (by (with_reducible repeat (first|apply rA|apply rN|apply rD));exact (rM (rF (p:=⟨Ba,1,none⟩) (rF (p:=⟨Ba,0,none⟩) (rT Bi.out Bb.out (by decide)) (fun _ hk=>hk.2) (.slice Ao19 t348.length co19)) (fun _ hk=>hk.2) (.int .i64 t351)) (fun _ h_=>h_.1))));(case side2=>exact (Kd.R_reads' Bi.out).2.1);(case side3=>refine (Kd.R_reads' (e:=40) (base:=w.heap.size) (ok:=fun k_=>((True∧some k_≠(.slice Ao9 t333.length co9:Value).ownBlock)∧some k_≠(.slice Ao13 t339.length co13:Value).ownBlock)) (n:=t348.length) (c:=co19) ?_).2.2;exact (by (with_reducible repeat (first|apply rA|apply rN|apply rD));exact (rM (rF (p:=⟨Ba,1,none⟩) (rF (p:=⟨Ba,0,none⟩) (rT Bn.out Bb.out (by decide)) (fun _ hk=>hk.2) (.slice Ao19 t348.length co19)) (fun _ hk=>hk.2) (.int .i64 t351)) (fun _ h_=>h_.1))));(case side4=>exact (Kd.R_reads' Bn.out).2.1);rintro e w35 ⟨rfl,hb⟩;have n0_:=Am (rB (by (with_reducible repeat (first|apply rA|apply rN|apply rD));exact (rM (rF (p:=⟨Ba,1,none⟩) (rF (p:=⟨Ba,0,none⟩) (rT Bg.out Bb.out (by decide)) (fun _ hk=>hk.2) (.slice Ao19 t348.length co19)) (fun _ hk=>hk.2) (.int .i64 t351)) (fun _ h_=>h_.1))) hb);have n1_:=Am (rB (by (with_reducible repeat (first|apply rA|apply rN|apply rD));exact (rM (rF (p:=⟨Ba,1,none⟩) (rF (p:=⟨Ba,0,none⟩) (rT Bi.out Bb.out (by decide)) (fun _ hk=>hk.2) (.slice Ao19 t348.length co19)) (fun _ hk=>hk.2) (.int .i64 t351)) (fun _ h_=>h_.1))) hb);have n2_:=Am (rB (by (with_reducible repeat (first|apply rA|apply rN|apply rD));exact (rM (rF (p:=⟨Ba,1,none⟩) (rF (p:=⟨Ba,0,none⟩) (rT Bh.out Bb.out (by decide)) (fun _ hk=>hk.2) (.slice Ao19 t348.length co19)) (fun _ hk=>hk.2) (.int .i64 t351)) (fun _ h_=>h_.1))) hb);have n3_:=Am (rB (by (with_reducible repeat (first|apply rA|apply rN|apply rD));exact (rM (rF (p:=⟨Ba,1,none⟩) (rF (p:=⟨Ba,0,none⟩) (rT Bn.out Bb.out (by decide)) (fun _ hk=>hk.2) (.slice Ao19 t348.length co19)) (fun _ hk=>hk.2) (.int .i64 t351)) (fun _ h_=>h_.1))) hb);have n4_:=Am (rB (by (with_reducible repeat (first|apply rA|apply rN|apply rD));exact (rM (rF (p:=⟨Ba,1,none⟩) (rF (p:=⟨Ba,0,none⟩) (rT Bk.out Bb.out (by decide)) (fun _ hk=>hk.2) (.slice Ao19 t348.length co19)) (fun _ hk=>hk.2) (.int .i64 t351)) (fun _ h_=>h_.1))) hb);have n5_:=Am (bB (g:=Bf) (o:=.cells #[.slice Ao9 t333.length co9,.int .i64 t336] 25 (0,0)) (by (with_reducible repeat (first|refine bN ?_ _|refine bD ?_|refine bA ?_ _|refine blk_far ?_ Bl.out _));exact Bc.out) hb);have n6_:=Am (bB (g:=Be) (o:=.cells #[.slice Ao13 t339.length co13,.int .i64 t342] 25 (0,0)) (by (with_reducible repeat (first|refine bN ?_ _|refine bD ?_|refine bA ?_ _|refine blk_far ?_ Br.out _));exact Bd.out) hb);have n7_:=Am (bB (g:=Ba) (o:=.cells #[.slice Ao19 t348.length co19,.int .i64 t351] 25 (0,0)) (by (with_reducible repeat (first|refine bN ?_ _|refine bD ?_|refine bA ?_ _));refine blk_put (cs:=#[.slice Ao19 t348.length co19,.int .i64 0]) ?_ 1 _ rfl;(with_reducible repeat (first|refine bN ?_ _|refine bD ?_|refine bA ?_ _));refine blk_put (cs:=#[.slice none 0 0,.int .i64 0]) ?_ 0 _ rfl;(with_reducible repeat (first|refine bN ?_ _|refine bD ?_|refine bA ?_ _));exact Bb.out) hb);have n8_:=Am (bP (by repeat (first|(with_reducible first|exact HB.out|apply oA|apply pN|apply o1|refine bS ?_ Bj.out|refine bS ?_ Bs.out|refine bS ?_ Bw.out)|exact HB.out)) hb);clear Bg Bi Bh Bn Bk Bc Bd Bb HB;revert n0_ n1_ n2_ n3_ n4_ n5_ n6_ n7_ n8_;intro Bg Bi Bh Bn Bk Bc Bd Bb HB;(try clear hb);(try clear hb2);(try clear hk);(try clear hi))))
   go_meet
   case rel=>exact ⟨_,(!t346),(by first|rfl|(simp;done)|(simp [*];done)),H',⟨by first|omega|exact Nat.le_refl _⟩,⟨by (with_reducible repeat (first|apply rA|apply rN|apply rD));exact rM Bh.out (fun _ hk=>hk.2)⟩,⟨by (with_reducible repeat (first|apply rA|apply rN|apply rD));exact rM Bk.out (fun _ hk=>hk.2)⟩,⟨by (with_reducible repeat (first|apply rA|apply rN|apply rD));exact rM Bg.out (fun _ hk=>⟨hk.1.2,hk.2⟩)⟩,⟨by (with_reducible repeat (first|apply rA|apply rN|apply rD));exact rM Bi.out (fun _ hk=>⟨hk.1.2,hk.2⟩)⟩,⟨by (with_reducible repeat (first|apply rA|apply rN|apply rD));exact rM Bn.out (fun _ hk=>⟨hk.1.2,hk.2⟩)⟩,⟨by (with_reducible repeat (first|refine bN ?_ _|refine bD ?_|refine bA ?_ _));exact Bc.out⟩,⟨by (with_reducible repeat (first|refine bN ?_ _|refine bD ?_|refine bA ?_ _));exact Bd.out⟩,⟨by (with_reducible repeat (first|refine bN ?_ _|refine bD ?_|refine bA ?_ _));exact Bb.out⟩,⟨by repeat (first|(with_reducible first|exact HB.out|apply oA|apply pN|apply o1|refine bS ?_ Bj.out|refine bS ?_ Bs.out|refine bS ?_ Bw.out)|exact HB.out)⟩⟩
  replace c27:=Bool.eq_false_iff.mpr c27
  subst c27
  have H1:(laws_FnShareGap.j0 k t343 t346 t352 t355 true t333 t336 t339 t342 t348 t351)=some r:=by rw [if_neg (show ¬ (false=true) by decide)] at H;exact H
  clear H
  have H:=H1
  clear H1
  have H':=Am H
  clear H
  obtain ⟨Ao36,co36,eo36⟩:=Kd.R_slice Bh.out
  subst eo36
  obtain ⟨Ao37,co37,eo37⟩:=Kd.R_slice Bk.out
  subst eo37
  go_wp2_with (first|(go_at_call 32;(with_reducible refine (laws_qdInts.calls k _ _ t343 _ _ t352 true _ ?side1 ?side2 ?side3 ?side4 A24.out).mono ?_);(case side1=>refine (Kd.R_reads' (e:=3) (base:=w.heap.size) (ok:=fun k_=>(True∧some k_≠(.slice Ao37 t352.length co37:Value).ownBlock)) (n:=t343.length) (c:=co36) ?_).2.2;exact (by (with_reducible repeat (first|apply rA|apply rN|apply rD));exact (rM (rF (p:=⟨Ba,1,none⟩) (rF (p:=⟨Ba,0,none⟩) (rT Bh.out Bb.out (by decide)) (fun _ hk=>hk.2) (.slice Ao19 t348.length co19)) (fun _ hk=>hk.2) (.int .i64 t351)) (fun _ h_=>h_.1))));(case side2=>exact (Kd.R_reads' Bh.out).2.1);(case side3=>refine (Kd.R_reads' (e:=3) (base:=w.heap.size) (ok:=fun k_=>(True∧some k_≠(.slice Ao36 t343.length co36:Value).ownBlock)) (n:=t352.length) (c:=co37) ?_).2.2;exact (by (with_reducible repeat (first|apply rA|apply rN|apply rD));exact (rM (rF (p:=⟨Ba,1,none⟩) (rF (p:=⟨Ba,0,none⟩) (rT Bk.out Bb.out (by decide)) (fun _ hk=>hk.2) (.slice Ao19 t348.length co19)) (fun _ hk=>hk.2) (.int .i64 t351)) (fun _ h_=>h_.1))));(case side4=>exact (Kd.R_reads' Bk.out).2.1);rintro e w' ⟨rfl,⟨nd,rfl⟩⟩;(try first|exact ⟨rfl,_,World.drewN_drewN _ _ _⟩|exact ⟨rfl,_,Eq.trans (World.drewN_drewN _ _ _) (congrArg (World.drewN _) (Nat.add_assoc _ _ _))⟩);have Dy:=Bt.out;have Dz:=Bq.out;have DA:=Br.out;have DB:=Bv.out;have BX:w18.cell? ⟨Be,0,none⟩=some (.slice Ao13 t339.length co13):=(bC Bd.out 0).trans rfl;have BY:w18.cell? ⟨Be,1,none⟩=some (.int .i64 t342):=(bC Bd.out 1).trans rfl;have BZ:=bF Bd.out 0;have B0:=bF Bd.out 1;have DC:=Bu.out;have DD:=Bl.out;have B1:w18.cell? ⟨Ba,0,none⟩=some (.slice none 0 0):=(bC Bb.out 0).trans rfl;have B2:w18.cell? ⟨Ba,1,none⟩=some (.int .i64 0):=(bC Bb.out 1).trans rfl;have B3:=bF Bb.out 0;have B4:=bF Bb.out 1)|(go_at_call 15;(with_reducible refine (laws_qdQueue.calls k _ _ t339 t342 _ _ t348 t351 false _ ?side1 ?side2 ?side3 ?side4 A26.out).mono ?_);(case side1=>refine (Kd.R_reads' (e:=40) (base:=w.heap.size) (ok:=fun k_=>((True∧some k_≠(.slice Ao9 t333.length co9:Value).ownBlock)∧some k_≠(.slice Ao19 t348.length co19:Value).ownBlock)) (n:=t339.length) (c:=co13) ?_).2.2;exact (by (with_reducible repeat (first|apply rA|apply rN|apply rD));exact (rM (rF (p:=⟨Ba,1,none⟩) (rF (p:=⟨Ba,0,none⟩) (rT Bi.out Bb.out (by decide)) (fun _ hk=>hk.2) (.slice Ao19 t348.length co19)) (fun _ hk=>hk.2) (.int .i64 t351)) (fun _ h_=>h_.1))));(case side2=>exact (Kd.R_reads' Bi.out).2.1);(case side3=>refine (Kd.R_reads' (e:=40) (base:=w.heap.size) (ok:=fun k_=>((True∧some k_≠(.slice Ao9 t333.length co9:Value).ownBlock)∧some k_≠(.slice Ao13 t339.length co13:Value).ownBlock)) (n:=t348.length) (c:=co19) ?_).2.2;exact (by (with_reducible repeat (first|apply rA|apply rN|apply rD));exact (rM (rF (p:=⟨Ba,1,none⟩) (rF (p:=⟨Ba,0,none⟩) (rT Bn.out Bb.out (by decide)) (fun _ hk=>hk.2) (.slice Ao19 t348.length co19)) (fun _ hk=>hk.2) (.int .i64 t351)) (fun _ h_=>h_.1))));(case side4=>exact (Kd.R_reads' Bn.out).2.1);rintro e w43 ⟨rfl,hb⟩;have n0_:=Am (rB (by (with_reducible repeat (first|apply rA|apply rN|apply rD));exact (rM (rF (p:=⟨Ba,1,none⟩) (rF (p:=⟨Ba,0,none⟩) (rT Bg.out Bb.out (by decide)) (fun _ hk=>hk.2) (.slice Ao19 t348.length co19)) (fun _ hk=>hk.2) (.int .i64 t351)) (fun _ h_=>h_.1))) hb);have n1_:=Am (rB (by (with_reducible repeat (first|apply rA|apply rN|apply rD));exact (rM (rF (p:=⟨Ba,1,none⟩) (rF (p:=⟨Ba,0,none⟩) (rT Bi.out Bb.out (by decide)) (fun _ hk=>hk.2) (.slice Ao19 t348.length co19)) (fun _ hk=>hk.2) (.int .i64 t351)) (fun _ h_=>h_.1))) hb);have n2_:=Am (rB (by (with_reducible repeat (first|apply rA|apply rN|apply rD));exact (rM (rF (p:=⟨Ba,1,none⟩) (rF (p:=⟨Ba,0,none⟩) (rT Bh.out Bb.out (by decide)) (fun _ hk=>hk.2) (.slice Ao19 t348.length co19)) (fun _ hk=>hk.2) (.int .i64 t351)) (fun _ h_=>h_.1))) hb);have n3_:=Am (rB (by (with_reducible repeat (first|apply rA|apply rN|apply rD));exact (rM (rF (p:=⟨Ba,1,none⟩) (rF (p:=⟨Ba,0,none⟩) (rT Bn.out Bb.out (by decide)) (fun _ hk=>hk.2) (.slice Ao19 t348.length co19)) (fun _ hk=>hk.2) (.int .i64 t351)) (fun _ h_=>h_.1))) hb);have n4_:=Am (rB (by (with_reducible repeat (first|apply rA|apply rN|apply rD));exact (rM (rF (p:=⟨Ba,1,none⟩) (rF (p:=⟨Ba,0,none⟩) (rT Bk.out Bb.out (by decide)) (fun _ hk=>hk.2) (.slice Ao19 t348.length co19)) (fun _ hk=>hk.2) (.int .i64 t351)) (fun _ h_=>h_.1))) hb);have n5_:=Am (bB (g:=Bf) (o:=.cells #[.slice Ao9 t333.length co9,.int .i64 t336] 25 (0,0)) (by (with_reducible repeat (first|refine bN ?_ _|refine bD ?_|refine bA ?_ _|refine blk_far ?_ Bl.out _));exact Bc.out) hb);have n6_:=Am (bB (g:=Be) (o:=.cells #[.slice Ao13 t339.length co13,.int .i64 t342] 25 (0,0)) (by (with_reducible repeat (first|refine bN ?_ _|refine bD ?_|refine bA ?_ _|refine blk_far ?_ Br.out _));exact Bd.out) hb);have n7_:=Am (bB (g:=Ba) (o:=.cells #[.slice Ao19 t348.length co19,.int .i64 t351] 25 (0,0)) (by (with_reducible repeat (first|refine bN ?_ _|refine bD ?_|refine bA ?_ _));refine blk_put (cs:=#[.slice Ao19 t348.length co19,.int .i64 0]) ?_ 1 _ rfl;(with_reducible repeat (first|refine bN ?_ _|refine bD ?_|refine bA ?_ _));refine blk_put (cs:=#[.slice none 0 0,.int .i64 0]) ?_ 0 _ rfl;(with_reducible repeat (first|refine bN ?_ _|refine bD ?_|refine bA ?_ _));exact Bb.out) hb);have n8_:=Am (bP (by repeat (first|(with_reducible first|exact HB.out|apply oA|apply pN|apply o1|refine bS ?_ Bj.out|refine bS ?_ Bs.out|refine bS ?_ Bw.out)|exact HB.out)) hb);clear Bg Bi Bh Bn Bk Bc Bd Bb HB;revert n0_ n1_ n2_ n3_ n4_ n5_ n6_ n7_ n8_;intro Bg Bi Bh Bn Bk Bc Bd Bb HB;(try clear hb);(try clear hb2);(try clear hk);(try clear hi)))
  repeat (go_quiet (first|(go_at_call 32;(with_reducible refine (laws_qdInts.calls k _ _ t343 _ _ t352 true _ ?side1 ?side2 ?side3 ?side4 A24.out).mono ?_);(case side1=>refine (Kd.R_reads' (e:=3) (base:=w.heap.size) (ok:=fun k_=>(True∧some k_≠(.slice Ao37 t352.length co37:Value).ownBlock)) (n:=t343.length) (c:=co36) ?_).2.2;exact (by (with_reducible repeat (first|apply rA|apply rN|apply rD));exact (rM (rF (p:=⟨Ba,1,none⟩) (rF (p:=⟨Ba,0,none⟩) (rT Bh.out Bb.out (by decide)) (fun _ hk=>hk.2) (.slice Ao19 t348.length co19)) (fun _ hk=>hk.2) (.int .i64 t351)) (fun _ h_=>h_.1))));(case side2=>exact (Kd.R_reads' Bh.out).2.1);(case side3=>refine (Kd.R_reads' (e:=3) (base:=w.heap.size) (ok:=fun k_=>(True∧some k_≠(.slice Ao36 t343.length co36:Value).ownBlock)) (n:=t352.length) (c:=co37) ?_).2.2;exact (by (with_reducible repeat (first|apply rA|apply rN|apply rD));exact (rM (rF (p:=⟨Ba,1,none⟩) (rF (p:=⟨Ba,0,none⟩) (rT Bk.out Bb.out (by decide)) (fun _ hk=>hk.2) (.slice Ao19 t348.length co19)) (fun _ hk=>hk.2) (.int .i64 t351)) (fun _ h_=>h_.1))));(case side4=>exact (Kd.R_reads' Bk.out).2.1);rintro e w' ⟨rfl,⟨nd,rfl⟩⟩;(try first|exact ⟨rfl,_,World.drewN_drewN _ _ _⟩|exact ⟨rfl,_,Eq.trans (World.drewN_drewN _ _ _) (congrArg (World.drewN _) (Nat.add_assoc _ _ _))⟩);have Dy:=Bt.out;have Dz:=Bq.out;have DA:=Br.out;have DB:=Bv.out;have BX:w18.cell? ⟨Be,0,none⟩=some (.slice Ao13 t339.length co13):=(bC Bd.out 0).trans rfl;have BY:w18.cell? ⟨Be,1,none⟩=some (.int .i64 t342):=(bC Bd.out 1).trans rfl;have BZ:=bF Bd.out 0;have B0:=bF Bd.out 1;have DC:=Bu.out;have DD:=Bl.out;have B1:w18.cell? ⟨Ba,0,none⟩=some (.slice none 0 0):=(bC Bb.out 0).trans rfl;have B2:w18.cell? ⟨Ba,1,none⟩=some (.int .i64 0):=(bC Bb.out 1).trans rfl;have B3:=bF Bb.out 0;have B4:=bF Bb.out 1)|(go_at_call 15;(with_reducible refine (laws_qdQueue.calls k _ _ t339 t342 _ _ t348 t351 false _ ?side1 ?side2 ?side3 ?side4 A26.out).mono ?_);(case side1=>refine (Kd.R_reads' (e:=40) (base:=w.heap.size) (ok:=fun k_=>((True∧some k_≠(.slice Ao9 t333.length co9:Value).ownBlock)∧some k_≠(.slice Ao19 t348.length co19:Value).ownBlock)) (n:=t339.length) (c:=co13) ?_).2.2;exact (by (with_reducible repeat (first|apply rA|apply rN|apply rD));exact (rM (rF (p:=⟨Ba,1,none⟩) (rF (p:=⟨Ba,0,none⟩) (rT Bi.out Bb.out (by decide)) (fun _ hk=>hk.2) (.slice Ao19 t348.length co19)) (fun _ hk=>hk.2) (.int .i64 t351)) (fun _ h_=>h_.1))));(case side2=>exact (Kd.R_reads' Bi.out).2.1);(case side3=>refine (Kd.R_reads' (e:=40) (base:=w.heap.size) (ok:=fun k_=>((True∧some k_≠(.slice Ao9 t333.length co9:Value).ownBlock)∧some k_≠(.slice Ao13 t339.length co13:Value).ownBlock)) (n:=t348.length) (c:=co19) ?_).2.2;exact (by (with_reducible repeat (first|apply rA|apply rN|apply rD));exact (rM (rF (p:=⟨Ba,1,none⟩) (rF (p:=⟨Ba,0,none⟩) (rT Bn.out Bb.out (by decide)) (fun _ hk=>hk.2) (.slice Ao19 t348.length co19)) (fun _ hk=>hk.2) (.int .i64 t351)) (fun _ h_=>h_.1))));(case side4=>exact (Kd.R_reads' Bn.out).2.1);rintro e w43 ⟨rfl,hb⟩;have n0_:=Am (rB (by (with_reducible repeat (first|apply rA|apply rN|apply rD));exact (rM (rF (p:=⟨Ba,1,none⟩) (rF (p:=⟨Ba,0,none⟩) (rT Bg.out Bb.out (by decide)) (fun _ hk=>hk.2) (.slice Ao19 t348.length co19)) (fun _ hk=>hk.2) (.int .i64 t351)) (fun _ h_=>h_.1))) hb);have n1_:=Am (rB (by (with_reducible repeat (first|apply rA|apply rN|apply rD));exact (rM (rF (p:=⟨Ba,1,none⟩) (rF (p:=⟨Ba,0,none⟩) (rT Bi.out Bb.out (by decide)) (fun _ hk=>hk.2) (.slice Ao19 t348.length co19)) (fun _ hk=>hk.2) (.int .i64 t351)) (fun _ h_=>h_.1))) hb);have n2_:=Am (rB (by (with_reducible repeat (first|apply rA|apply rN|apply rD));exact (rM (rF (p:=⟨Ba,1,none⟩) (rF (p:=⟨Ba,0,none⟩) (rT Bh.out Bb.out (by decide)) (fun _ hk=>hk.2) (.slice Ao19 t348.length co19)) (fun _ hk=>hk.2) (.int .i64 t351)) (fun _ h_=>h_.1))) hb);have n3_:=Am (rB (by (with_reducible repeat (first|apply rA|apply rN|apply rD));exact (rM (rF (p:=⟨Ba,1,none⟩) (rF (p:=⟨Ba,0,none⟩) (rT Bn.out Bb.out (by decide)) (fun _ hk=>hk.2) (.slice Ao19 t348.length co19)) (fun _ hk=>hk.2) (.int .i64 t351)) (fun _ h_=>h_.1))) hb);have n4_:=Am (rB (by (with_reducible repeat (first|apply rA|apply rN|apply rD));exact (rM (rF (p:=⟨Ba,1,none⟩) (rF (p:=⟨Ba,0,none⟩) (rT Bk.out Bb.out (by decide)) (fun _ hk=>hk.2) (.slice Ao19 t348.length co19)) (fun _ hk=>hk.2) (.int .i64 t351)) (fun _ h_=>h_.1))) hb);have n5_:=Am (bB (g:=Bf) (o:=.cells #[.slice Ao9 t333.length co9,.int .i64 t336] 25 (0,0)) (by (with_reducible repeat (first|refine bN ?_ _|refine bD ?_|refine bA ?_ _|refine blk_far ?_ Bl.out _));exact Bc.out) hb);have n6_:=Am (bB (g:=Be) (o:=.cells #[.slice Ao13 t339.length co13,.int .i64 t342] 25 (0,0)) (by (with_reducible repeat (first|refine bN ?_ _|refine bD ?_|refine bA ?_ _|refine blk_far ?_ Br.out _));exact Bd.out) hb);have n7_:=Am (bB (g:=Ba) (o:=.cells #[.slice Ao19 t348.length co19,.int .i64 t351] 25 (0,0)) (by (with_reducible repeat (first|refine bN ?_ _|refine bD ?_|refine bA ?_ _));refine blk_put (cs:=#[.slice Ao19 t348.length co19,.int .i64 0]) ?_ 1 _ rfl;(with_reducible repeat (first|refine bN ?_ _|refine bD ?_|refine bA ?_ _));refine blk_put (cs:=#[.slice none 0 0,.int .i64 0]) ?_ 0 _ rfl;(with_reducible repeat (first|refine bN ?_ _|refine bD ?_|refine bA ?_ _));exact Bb.out) hb);have n8_:=Am (bP (by repeat (first|(with_reducible first|exact HB.out|apply oA|apply pN|apply o1|refine bS ?_ Bj.out|refine bS ?_ Bs.out|refine bS ?_ Bw.out)|exact HB.out)) hb);clear Bg Bi Bh Bn Bk Bc Bd Bb HB;revert n0_ n1_ n2_ n3_ n4_ n5_ n6_ n7_ n8_;intro Bg Bi Bh Bn Bk Bc Bd Bb HB;(try clear hb);(try clear hb2);(try clear hk);(try clear hi)));try go_wp2_with (first|(go_at_call 32;(with_reducible refine (laws_qdInts.calls k _ _ t343 _ _ t352 true _ ?side1 ?side2 ?side3 ?side4 A24.out).mono ?_);(case side1=>refine (Kd.R_reads' (e:=3) (base:=w.heap.size) (ok:=fun k_=>(True∧some k_≠(.slice Ao37 t352.length co37:Value).ownBlock)) (n:=t343.length) (c:=co36) ?_).2.2;exact (by (with_reducible repeat (first|apply rA|apply rN|apply rD));exact (rM (rF (p:=⟨Ba,1,none⟩) (rF (p:=⟨Ba,0,none⟩) (rT Bh.out Bb.out (by decide)) (fun _ hk=>hk.2) (.slice Ao19 t348.length co19)) (fun _ hk=>hk.2) (.int .i64 t351)) (fun _ h_=>h_.1))));(case side2=>exact (Kd.R_reads' Bh.out).2.1);(case side3=>refine (Kd.R_reads' (e:=3) (base:=w.heap.size) (ok:=fun k_=>(True∧some k_≠(.slice Ao36 t343.length co36:Value).ownBlock)) (n:=t352.length) (c:=co37) ?_).2.2;exact (by (with_reducible repeat (first|apply rA|apply rN|apply rD));exact (rM (rF (p:=⟨Ba,1,none⟩) (rF (p:=⟨Ba,0,none⟩) (rT Bk.out Bb.out (by decide)) (fun _ hk=>hk.2) (.slice Ao19 t348.length co19)) (fun _ hk=>hk.2) (.int .i64 t351)) (fun _ h_=>h_.1))));(case side4=>exact (Kd.R_reads' Bk.out).2.1);rintro e w' ⟨rfl,⟨nd,rfl⟩⟩;(try first|exact ⟨rfl,_,World.drewN_drewN _ _ _⟩|exact ⟨rfl,_,Eq.trans (World.drewN_drewN _ _ _) (congrArg (World.drewN _) (Nat.add_assoc _ _ _))⟩);have Dy:=Bt.out;have Dz:=Bq.out;have DA:=Br.out;have DB:=Bv.out;have BX:w18.cell? ⟨Be,0,none⟩=some (.slice Ao13 t339.length co13):=(bC Bd.out 0).trans rfl;have BY:w18.cell? ⟨Be,1,none⟩=some (.int .i64 t342):=(bC Bd.out 1).trans rfl;have BZ:=bF Bd.out 0;have B0:=bF Bd.out 1;have DC:=Bu.out;have DD:=Bl.out;have B1:w18.cell? ⟨Ba,0,none⟩=some (.slice none 0 0):=(bC Bb.out 0).trans rfl;have B2:w18.cell? ⟨Ba,1,none⟩=some (.int .i64 0):=(bC Bb.out 1).trans rfl;have B3:=bF Bb.out 0;have B4:=bF Bb.out 1)|(go_at_call 15;(with_reducible refine (laws_qdQueue.calls k _ _ t339 t342 _ _ t348 t351 false _ ?side1 ?side2 ?side3 ?side4 A26.out).mono ?_);(case side1=>refine (Kd.R_reads' (e:=40) (base:=w.heap.size) (ok:=fun k_=>((True∧some k_≠(.slice Ao9 t333.length co9:Value).ownBlock)∧some k_≠(.slice Ao19 t348.length co19:Value).ownBlock)) (n:=t339.length) (c:=co13) ?_).2.2;exact (by (with_reducible repeat (first|apply rA|apply rN|apply rD));exact (rM (rF (p:=⟨Ba,1,none⟩) (rF (p:=⟨Ba,0,none⟩) (rT Bi.out Bb.out (by decide)) (fun _ hk=>hk.2) (.slice Ao19 t348.length co19)) (fun _ hk=>hk.2) (.int .i64 t351)) (fun _ h_=>h_.1))));(case side2=>exact (Kd.R_reads' Bi.out).2.1);(case side3=>refine (Kd.R_reads' (e:=40) (base:=w.heap.size) (ok:=fun k_=>((True∧some k_≠(.slice Ao9 t333.length co9:Value).ownBlock)∧some k_≠(.slice Ao13 t339.length co13:Value).ownBlock)) (n:=t348.length) (c:=co19) ?_).2.2;exact (by (with_reducible repeat (first|apply rA|apply rN|apply rD));exact (rM (rF (p:=⟨Ba,1,none⟩) (rF (p:=⟨Ba,0,none⟩) (rT Bn.out Bb.out (by decide)) (fun _ hk=>hk.2) (.slice Ao19 t348.length co19)) (fun _ hk=>hk.2) (.int .i64 t351)) (fun _ h_=>h_.1))));(case side4=>exact (Kd.R_reads' Bn.out).2.1);rintro e w43 ⟨rfl,hb⟩;have n0_:=Am (rB (by (with_reducible repeat (first|apply rA|apply rN|apply rD));exact (rM (rF (p:=⟨Ba,1,none⟩) (rF (p:=⟨Ba,0,none⟩) (rT Bg.out Bb.out (by decide)) (fun _ hk=>hk.2) (.slice Ao19 t348.length co19)) (fun _ hk=>hk.2) (.int .i64 t351)) (fun _ h_=>h_.1))) hb);have n1_:=Am (rB (by (with_reducible repeat (first|apply rA|apply rN|apply rD));exact (rM (rF (p:=⟨Ba,1,none⟩) (rF (p:=⟨Ba,0,none⟩) (rT Bi.out Bb.out (by decide)) (fun _ hk=>hk.2) (.slice Ao19 t348.length co19)) (fun _ hk=>hk.2) (.int .i64 t351)) (fun _ h_=>h_.1))) hb);have n2_:=Am (rB (by (with_reducible repeat (first|apply rA|apply rN|apply rD));exact (rM (rF (p:=⟨Ba,1,none⟩) (rF (p:=⟨Ba,0,none⟩) (rT Bh.out Bb.out (by decide)) (fun _ hk=>hk.2) (.slice Ao19 t348.length co19)) (fun _ hk=>hk.2) (.int .i64 t351)) (fun _ h_=>h_.1))) hb);have n3_:=Am (rB (by (with_reducible repeat (first|apply rA|apply rN|apply rD));exact (rM (rF (p:=⟨Ba,1,none⟩) (rF (p:=⟨Ba,0,none⟩) (rT Bn.out Bb.out (by decide)) (fun _ hk=>hk.2) (.slice Ao19 t348.length co19)) (fun _ hk=>hk.2) (.int .i64 t351)) (fun _ h_=>h_.1))) hb);have n4_:=Am (rB (by (with_reducible repeat (first|apply rA|apply rN|apply rD));exact (rM (rF (p:=⟨Ba,1,none⟩) (rF (p:=⟨Ba,0,none⟩) (rT Bk.out Bb.out (by decide)) (fun _ hk=>hk.2) (.slice Ao19 t348.length co19)) (fun _ hk=>hk.2) (.int .i64 t351)) (fun _ h_=>h_.1))) hb);have n5_:=Am (bB (g:=Bf) (o:=.cells #[.slice Ao9 t333.length co9,.int .i64 t336] 25 (0,0)) (by (with_reducible repeat (first|refine bN ?_ _|refine bD ?_|refine bA ?_ _|refine blk_far ?_ Bl.out _));exact Bc.out) hb);have n6_:=Am (bB (g:=Be) (o:=.cells #[.slice Ao13 t339.length co13,.int .i64 t342] 25 (0,0)) (by (with_reducible repeat (first|refine bN ?_ _|refine bD ?_|refine bA ?_ _|refine blk_far ?_ Br.out _));exact Bd.out) hb);have n7_:=Am (bB (g:=Ba) (o:=.cells #[.slice Ao19 t348.length co19,.int .i64 t351] 25 (0,0)) (by (with_reducible repeat (first|refine bN ?_ _|refine bD ?_|refine bA ?_ _));refine blk_put (cs:=#[.slice Ao19 t348.length co19,.int .i64 0]) ?_ 1 _ rfl;(with_reducible repeat (first|refine bN ?_ _|refine bD ?_|refine bA ?_ _));refine blk_put (cs:=#[.slice none 0 0,.int .i64 0]) ?_ 0 _ rfl;(with_reducible repeat (first|refine bN ?_ _|refine bD ?_|refine bA ?_ _));exact Bb.out) hb);have n8_:=Am (bP (by repeat (first|(with_reducible first|exact HB.out|apply oA|apply pN|apply o1|refine bS ?_ Bj.out|refine bS ?_ Bs.out|refine bS ?_ Bw.out)|exact HB.out)) hb);clear Bg Bi Bh Bn Bk Bc Bd Bb HB;revert n0_ n1_ n2_ n3_ n4_ n5_ n6_ n7_ n8_;intro Bg Bi Bh Bn Bk Bc Bd Bb HB;(try clear hb);(try clear hb2);(try clear hk);(try clear hi))))
  go_meet
  case rel=>exact ⟨_,(true),(by first|rfl|(simp;done)|(simp [*];done)),H',⟨by first|omega|exact Nat.le_refl _⟩,⟨by (with_reducible repeat (first|apply rA|apply rN|apply rD));exact rM Bh.out (fun _ hk=>hk.2)⟩,⟨by (with_reducible repeat (first|apply rA|apply rN|apply rD));exact rM Bk.out (fun _ hk=>hk.2)⟩,⟨by (with_reducible repeat (first|apply rA|apply rN|apply rD));exact rM Bg.out (fun _ hk=>⟨hk.1.2,hk.2⟩)⟩,⟨by (with_reducible repeat (first|apply rA|apply rN|apply rD));exact rM Bi.out (fun _ hk=>⟨hk.1.2,hk.2⟩)⟩,⟨by (with_reducible repeat (first|apply rA|apply rN|apply rD));exact rM Bn.out (fun _ hk=>⟨hk.1.2,hk.2⟩)⟩,⟨by (with_reducible repeat (first|refine bN ?_ _|refine bD ?_|refine bA ?_ _));exact Bc.out⟩,⟨by (with_reducible repeat (first|refine bN ?_ _|refine bD ?_|refine bA ?_ _));exact Bd.out⟩,⟨by (with_reducible repeat (first|refine bN ?_ _|refine bD ?_|refine bA ?_ _));exact Bb.out⟩,⟨by repeat (first|(with_reducible first|exact HB.out|apply oA|apply pN|apply o1|refine bS ?_ Bj.out|refine bS ?_ Bs.out|refine bS ?_ Bw.out)|exact HB.out)⟩⟩
 case rest =>
  clear HC6
  try clear c1
  try clear c2
  try clear c2b0
  try clear c2b1
  try clear p2
  try clear c3
  try clear c4
  try clear c10
  try clear c14
  try clear c20
  try clear c21
  try clear c23
  try clear c23b0
  try clear c23b1
  try clear c23b2
  try clear c25
  try clear c27
  try clear c30
  try clear c31
  try clear c33
  try clear c38
  try clear c39
  try clear c41
  try clear Bz
  try clear BA
  try clear BD
  try clear BE
  try clear BH
  try clear BI
  try clear BL
  try clear BM
  try clear BP
  try clear BQ
  try clear BT
  try clear BU
  try clear BX
  try clear BY
  try clear B1
  try clear B2
  try clear BB
  try clear BC
  try clear BF
  try clear BG
  try clear BJ
  try clear BK
  try clear BN
  try clear BO
  try clear BR
  try clear BS
  try clear BV
  try clear BW
  try clear BZ
  try clear B0
  try clear B3
  try clear B4
  obtain ⟨kq,x55_5,rfl,HA,Dd,Bx,By,Bo,Bm,Bp,Bc,Bd,Bb,HB⟩:=hcut
  cases kq with
 |zero=>exact absurd HA.out (by simp [laws_FnShareGap.j0])
 |succ kj5 =>
   have H:=HA.out
   clear HA
   simp only [laws_FnShareGap.j0] at H
   by_cases c46:x55_5=true
   ·subst c46
    have H1:(if (t346 == t355)=true then ((laws_qdInts.f kj5 t343 t352).bind fun t359=>(if t359=true then ((laws_qdQueue.f kj5 t339 t342 t348 t351).bind fun t360=>(some t360)) else (some false))) else (some false))=some r:=by rw [if_pos rfl] at H;exact H
    clear H
    have H:=H1
    clear H1
    by_cases c47:(t346 == t355)=true
    rotate_left
    ·rw [if_neg c47] at H
     have c47b0:(t346 == t355)=false:=by simpa using c47
     (try (have c47b1:decide (t346=t355)=false:=by simpa using c47))
     (try (have c47b2:(t346 == t355)=false:=by simpa using c47))
     (try (have c47b3:¬ (t346=t355):=by simpa using c47))
     clear c47
     exact absurd ((Option.some.inj H).trans hT_.out) (by decide)
    rw [if_pos c47] at H
    have c47b0:(t346 == t355)=true:=c47
    (try (have c47b1:decide (t346=t355)=true:=by simpa using c47))
    (try (have c47b2:(t346 == t355)=true:=by simpa using c47))
    clear c47
    replace H:=oC H
    obtain ⟨t359,A480,H⟩:=H
    replace H:(if t359=true then ((laws_qdQueue.f kj5 t339 t342 t348 t351).bind fun t360=>(some t360)) else (some false))=some r:=H
    have A48:=Am A480
    clear A480
    by_cases c49:t359=true
    rotate_left
    ·replace c49:=Bool.eq_false_iff.mpr c49
     subst c49
     have H1:(some false)=some r:=by rw [if_neg (show ¬ (false=true) by decide)] at H;exact H
     clear H
     have H:=H1
     clear H1
     exact absurd ((Option.some.inj H).trans hT_.out) (by decide)
    subst c49
    have H1:((laws_qdQueue.f kj5 t339 t342 t348 t351).bind fun t360=>(some t360))=some r:=by rw [if_pos rfl] at H;exact H
    clear H
    have H:=H1
    clear H1
    replace H:=oC H
    obtain ⟨t360,A500,H⟩:=H
    replace H:(some t360)=some r:=H
    have A50:=Am A500
    clear A500
    obtain rfl:=Option.some.inj H
    obtain ⟨Ao51,co51,eo51⟩:=Kd.R_slice Bx.out
    subst eo51
    obtain ⟨Ao52,co52,eo52⟩:=Kd.R_slice By.out
    subst eo52
    go_wp2_with (first|(go_at_call 32;(with_reducible refine (laws_qdInts.calls kj5 _ _ t343 _ _ t352 true _ ?side1 ?side2 ?side3 ?side4 A48.out).mono ?_);(case side1=>repeat (first|exact (Kd.R_reads' Bx.out).2.2|(with_reducible refine cA ?_ _)|(with_reducible refine cN ?_ _)|(with_reducible refine cD ?_)));(case side2=>exact (Kd.R_reads' Bx.out).2.1);(case side3=>repeat (first|exact (Kd.R_reads' By.out).2.2|(with_reducible refine cA ?_ _)|(with_reducible refine cN ?_ _)|(with_reducible refine cD ?_)));(case side4=>exact (Kd.R_reads' By.out).2.1);rintro e w' ⟨rfl,⟨nd,rfl⟩⟩;(try first|exact ⟨rfl,_,World.drewN_drewN _ _ _⟩|exact ⟨rfl,_,Eq.trans (World.drewN_drewN _ _ _) (congrArg (World.drewN _) (Nat.add_assoc _ _ _))⟩);have DE:=Bt.out;have DF:=Bq.out;have DG:=Br.out;have DH:=Bv.out;have B5:wc.cell? ⟨Be,0,none⟩=some (.slice Ao13 t339.length co13):=(bC Bd.out 0).trans rfl;have B6:wc.cell? ⟨Be,1,none⟩=some (.int .i64 t342):=(bC Bd.out 1).trans rfl;have B7:=bF Bd.out 0;have B8:=bF Bd.out 1;have DI:=Bu.out;have DJ:=Bl.out;have B9:wc.cell? ⟨Ba,0,none⟩=some (.slice Ao19 t348.length co19):=(bC Bb.out 0).trans rfl;have Da:wc.cell? ⟨Ba,1,none⟩=some (.int .i64 t351):=(bC Bb.out 1).trans rfl;have Db:=bF Bb.out 0;have Dc:=bF Bb.out 1)|(go_at_call 15;(with_reducible refine (laws_qdQueue.calls kj5 _ _ t339 t342 _ _ t348 t351 t360 _ ?side1 ?side2 ?side3 ?side4 A50.out).mono ?_);(case side1=>repeat (first|exact (Kd.R_reads' Bm.out).2.2|(with_reducible refine cA ?_ _)|(with_reducible refine cN ?_ _)|(with_reducible refine cD ?_)));(case side2=>exact (Kd.R_reads' Bm.out).2.1);(case side3=>repeat (first|exact (Kd.R_reads' Bp.out).2.2|(with_reducible refine cA ?_ _)|(with_reducible refine cN ?_ _)|(with_reducible refine cD ?_)));(case side4=>exact (Kd.R_reads' Bp.out).2.1);rintro e w58 ⟨rfl,hb⟩;have n0_:=Am (rB (rL Bx.out) hb);have n1_:=Am (rB (rL By.out) hb);have n2_:=Am (rB (rL Bo.out) hb);have n3_:=Am (rB (rL Bm.out) hb);have n4_:=Am (rB (rL Bp.out) hb);have n5_:=Am (bB (g:=Bf) (o:=.cells #[.slice Ao9 t333.length co9,.int .i64 t336] 25 (0,0)) (bL Bc.out) hb);have n6_:=Am (bB (g:=Be) (o:=.cells #[.slice Ao13 t339.length co13,.int .i64 t342] 25 (0,0)) (bL Bd.out) hb);have n7_:=Am (bB (g:=Ba) (o:=.cells #[.slice Ao19 t348.length co19,.int .i64 t351] 25 (0,0)) (bL Bb.out) hb);have n8_:=Am (bP (by repeat (first|(with_reducible first|exact HB.out|apply oA|apply pN|apply o1|refine bS ?_ Bj.out|refine bS ?_ Bs.out|refine bS ?_ Bw.out)|exact HB.out)) hb);clear Bx By Bo Bm Bp Bc Bd Bb HB;revert n0_ n1_ n2_ n3_ n4_ n5_ n6_ n7_ n8_;intro Bx By Bo Bm Bp Bc Bd Bb HB;(try clear hb);(try clear hb2);(try clear hk);(try clear hi)))
    repeat (go_quiet (first|(go_at_call 32;(with_reducible refine (laws_qdInts.calls kj5 _ _ t343 _ _ t352 true _ ?side1 ?side2 ?side3 ?side4 A48.out).mono ?_);(case side1=>repeat (first|exact (Kd.R_reads' Bx.out).2.2|(with_reducible refine cA ?_ _)|(with_reducible refine cN ?_ _)|(with_reducible refine cD ?_)));(case side2=>exact (Kd.R_reads' Bx.out).2.1);(case side3=>repeat (first|exact (Kd.R_reads' By.out).2.2|(with_reducible refine cA ?_ _)|(with_reducible refine cN ?_ _)|(with_reducible refine cD ?_)));(case side4=>exact (Kd.R_reads' By.out).2.1);rintro e w' ⟨rfl,⟨nd,rfl⟩⟩;(try first|exact ⟨rfl,_,World.drewN_drewN _ _ _⟩|exact ⟨rfl,_,Eq.trans (World.drewN_drewN _ _ _) (congrArg (World.drewN _) (Nat.add_assoc _ _ _))⟩);have DE:=Bt.out;have DF:=Bq.out;have DG:=Br.out;have DH:=Bv.out;have B5:wc.cell? ⟨Be,0,none⟩=some (.slice Ao13 t339.length co13):=(bC Bd.out 0).trans rfl;have B6:wc.cell? ⟨Be,1,none⟩=some (.int .i64 t342):=(bC Bd.out 1).trans rfl;have B7:=bF Bd.out 0;have B8:=bF Bd.out 1;have DI:=Bu.out;have DJ:=Bl.out;have B9:wc.cell? ⟨Ba,0,none⟩=some (.slice Ao19 t348.length co19):=(bC Bb.out 0).trans rfl;have Da:wc.cell? ⟨Ba,1,none⟩=some (.int .i64 t351):=(bC Bb.out 1).trans rfl;have Db:=bF Bb.out 0;have Dc:=bF Bb.out 1)|(go_at_call 15;(with_reducible refine (laws_qdQueue.calls kj5 _ _ t339 t342 _ _ t348 t351 t360 _ ?side1 ?side2 ?side3 ?side4 A50.out).mono ?_);(case side1=>repeat (first|exact (Kd.R_reads' Bm.out).2.2|(with_reducible refine cA ?_ _)|(with_reducible refine cN ?_ _)|(with_reducible refine cD ?_)));(case side2=>exact (Kd.R_reads' Bm.out).2.1);(case side3=>repeat (first|exact (Kd.R_reads' Bp.out).2.2|(with_reducible refine cA ?_ _)|(with_reducible refine cN ?_ _)|(with_reducible refine cD ?_)));(case side4=>exact (Kd.R_reads' Bp.out).2.1);rintro e w58 ⟨rfl,hb⟩;have n0_:=Am (rB (rL Bx.out) hb);have n1_:=Am (rB (rL By.out) hb);have n2_:=Am (rB (rL Bo.out) hb);have n3_:=Am (rB (rL Bm.out) hb);have n4_:=Am (rB (rL Bp.out) hb);have n5_:=Am (bB (g:=Bf) (o:=.cells #[.slice Ao9 t333.length co9,.int .i64 t336] 25 (0,0)) (bL Bc.out) hb);have n6_:=Am (bB (g:=Be) (o:=.cells #[.slice Ao13 t339.length co13,.int .i64 t342] 25 (0,0)) (bL Bd.out) hb);have n7_:=Am (bB (g:=Ba) (o:=.cells #[.slice Ao19 t348.length co19,.int .i64 t351] 25 (0,0)) (bL Bb.out) hb);have n8_:=Am (bP (by repeat (first|(with_reducible first|exact HB.out|apply oA|apply pN|apply o1|refine bS ?_ Bj.out|refine bS ?_ Bs.out|refine bS ?_ Bw.out)|exact HB.out)) hb);clear Bx By Bo Bm Bp Bc Bd Bb HB;revert n0_ n1_ n2_ n3_ n4_ n5_ n6_ n7_ n8_;intro Bx By Bo Bm Bp Bc Bd Bb HB;(try clear hb);(try clear hb2);(try clear hk);(try clear hi)));try go_wp2_with (first|(go_at_call 32;(with_reducible refine (laws_qdInts.calls kj5 _ _ t343 _ _ t352 true _ ?side1 ?side2 ?side3 ?side4 A48.out).mono ?_);(case side1=>repeat (first|exact (Kd.R_reads' Bx.out).2.2|(with_reducible refine cA ?_ _)|(with_reducible refine cN ?_ _)|(with_reducible refine cD ?_)));(case side2=>exact (Kd.R_reads' Bx.out).2.1);(case side3=>repeat (first|exact (Kd.R_reads' By.out).2.2|(with_reducible refine cA ?_ _)|(with_reducible refine cN ?_ _)|(with_reducible refine cD ?_)));(case side4=>exact (Kd.R_reads' By.out).2.1);rintro e w' ⟨rfl,⟨nd,rfl⟩⟩;(try first|exact ⟨rfl,_,World.drewN_drewN _ _ _⟩|exact ⟨rfl,_,Eq.trans (World.drewN_drewN _ _ _) (congrArg (World.drewN _) (Nat.add_assoc _ _ _))⟩);have DE:=Bt.out;have DF:=Bq.out;have DG:=Br.out;have DH:=Bv.out;have B5:wc.cell? ⟨Be,0,none⟩=some (.slice Ao13 t339.length co13):=(bC Bd.out 0).trans rfl;have B6:wc.cell? ⟨Be,1,none⟩=some (.int .i64 t342):=(bC Bd.out 1).trans rfl;have B7:=bF Bd.out 0;have B8:=bF Bd.out 1;have DI:=Bu.out;have DJ:=Bl.out;have B9:wc.cell? ⟨Ba,0,none⟩=some (.slice Ao19 t348.length co19):=(bC Bb.out 0).trans rfl;have Da:wc.cell? ⟨Ba,1,none⟩=some (.int .i64 t351):=(bC Bb.out 1).trans rfl;have Db:=bF Bb.out 0;have Dc:=bF Bb.out 1)|(go_at_call 15;(with_reducible refine (laws_qdQueue.calls kj5 _ _ t339 t342 _ _ t348 t351 t360 _ ?side1 ?side2 ?side3 ?side4 A50.out).mono ?_);(case side1=>repeat (first|exact (Kd.R_reads' Bm.out).2.2|(with_reducible refine cA ?_ _)|(with_reducible refine cN ?_ _)|(with_reducible refine cD ?_)));(case side2=>exact (Kd.R_reads' Bm.out).2.1);(case side3=>repeat (first|exact (Kd.R_reads' Bp.out).2.2|(with_reducible refine cA ?_ _)|(with_reducible refine cN ?_ _)|(with_reducible refine cD ?_)));(case side4=>exact (Kd.R_reads' Bp.out).2.1);rintro e w58 ⟨rfl,hb⟩;have n0_:=Am (rB (rL Bx.out) hb);have n1_:=Am (rB (rL By.out) hb);have n2_:=Am (rB (rL Bo.out) hb);have n3_:=Am (rB (rL Bm.out) hb);have n4_:=Am (rB (rL Bp.out) hb);have n5_:=Am (bB (g:=Bf) (o:=.cells #[.slice Ao9 t333.length co9,.int .i64 t336] 25 (0,0)) (bL Bc.out) hb);have n6_:=Am (bB (g:=Be) (o:=.cells #[.slice Ao13 t339.length co13,.int .i64 t342] 25 (0,0)) (bL Bd.out) hb);have n7_:=Am (bB (g:=Ba) (o:=.cells #[.slice Ao19 t348.length co19,.int .i64 t351] 25 (0,0)) (bL Bb.out) hb);have n8_:=Am (bP (by repeat (first|(with_reducible first|exact HB.out|apply oA|apply pN|apply o1|refine bS ?_ Bj.out|refine bS ?_ Bs.out|refine bS ?_ Bw.out)|exact HB.out)) hb);clear Bx By Bo Bm Bp Bc Bd Bb HB;revert n0_ n1_ n2_ n3_ n4_ n5_ n6_ n7_ n8_;intro Bx By Bo Bm Bp Bc Bd Bb HB;(try clear hb);(try clear hb2);(try clear hk);(try clear hi))))
    go_ret
    exact ⟨by first|rfl|(simp [errW_none,errW_some] <;> rfl)|(simp [*,errW_none,errW_some] <;> rfl),by repeat (first|(with_reducible first|exact HB.out|apply oA|apply pN|apply o1|refine bS ?_ Bj.out|refine bS ?_ Bs.out|refine bS ?_ Bw.out)|exact HB.out)⟩
   replace c46:=Bool.eq_false_iff.mpr c46
   subst c46
   have H1:(laws_FnShareGap.l0 kj5 0 t333 t336 t339 t342)=some r:=by rw [if_neg (show ¬ (false=true) by decide)] at H;exact H
   clear H
   have H:=H1
   clear H1
   have H':=Am H
   clear H
   go_wp2
   repeat (go_quiet (fail);try go_wp2)
   go_loopg [11] kj5 (fun kq v11 w'=>∃ (x11_2:Int),v11=.int .i64 x11_2∧Aside0 (laws_FnShareGap.l0 kq x11_2 t333 t336 t339 t342=some r)∧Aside0 (kq≤kj5)∧Aside0 (Kd.R k40 40 w' w.heap.size (fun k_=>some k_≠((.slice Ao13 t339.length co13):Value).ownBlock∧some k_≠((.slice Ao19 t348.length co19):Value).ownBlock) (.slice Ao9 t333.length co9) t333)∧Aside0 (Kd.R k40 40 w' w.heap.size (fun k_=>some k_≠((.slice Ao9 t333.length co9):Value).ownBlock∧some k_≠((.slice Ao19 t348.length co19):Value).ownBlock) (.slice Ao13 t339.length co13) t339)∧Aside0 (Kd.R k40 40 w' w.heap.size (fun k_=>some k_≠((.slice Ao9 t333.length co9):Value).ownBlock∧some k_≠((.slice Ao13 t339.length co13):Value).ownBlock) (.slice Ao19 t348.length co19) t348)∧Aside0 (w'.heap[Bf]?=some (.cells #[(.slice Ao9 t333.length co9),.int .i64 t336] 25 (0,0)))∧Aside0 (w'.heap[Be]?=some (.cells #[(.slice Ao13 t339.length co13),.int .i64 t342] 25 (0,0)))∧Aside0 (w'.heap[Ba]?=some (.cells #[(.slice Ao19 t348.length co19),.int .i64 t351] 25 (0,0)))∧Aside0 (Below w.heap.size w w'))
   case atStart=>exact ⟨(0),(by first|rfl|(simp;done)|(simp [*];done)),H',⟨Nat.le_refl _⟩,⟨by (with_reducible repeat (first|apply rA|apply rN|apply rD));exact Bo.out⟩,⟨by (with_reducible repeat (first|apply rA|apply rN|apply rD));exact Bm.out⟩,⟨by (with_reducible repeat (first|apply rA|apply rN|apply rD));exact Bp.out⟩,⟨by (with_reducible repeat (first|refine bN ?_ _|refine bD ?_|refine bA ?_ _));exact Bc.out⟩,⟨by (with_reducible repeat (first|refine bN ?_ _|refine bD ?_|refine bA ?_ _));exact Bd.out⟩,⟨by (with_reducible repeat (first|refine bN ?_ _|refine bD ?_|refine bA ?_ _));exact Bb.out⟩,⟨by repeat (first|(with_reducible first|exact HB.out|apply oA|apply pN|apply o1|refine bS ?_ Bj.out|refine bS ?_ Bs.out|refine bS ?_ Bw.out)|exact HB.out)⟩⟩
   case round =>
    clear H'
    try clear c1
    try clear c2
    try clear c2b0
    try clear c2b1
    try clear p2
    try clear c3
    try clear c4
    try clear c5
    try clear c10
    try clear c14
    try clear c20
    try clear c21
    try clear c23
    try clear c23b0
    try clear c23b1
    try clear c23b2
    try clear c25
    try clear c27
    try clear c30
    try clear c31
    try clear c33
    try clear c38
    try clear c39
    try clear c41
    try clear c46
    try clear c47
    try clear c47b0
    try clear c47b1
    try clear c47b2
    try clear c49
    try clear c53
    try clear c54
    try clear c56
    try clear Bz
    try clear BA
    try clear BD
    try clear BE
    try clear BH
    try clear BI
    try clear BL
    try clear BM
    try clear BP
    try clear BQ
    try clear BT
    try clear BU
    try clear BX
    try clear BY
    try clear B1
    try clear B2
    try clear B5
    try clear B6
    try clear B9
    try clear Da
    try clear BB
    try clear BC
    try clear BF
    try clear BG
    try clear BJ
    try clear BK
    try clear BN
    try clear BO
    try clear BR
    try clear BS
    try clear BV
    try clear BW
    try clear BZ
    try clear B0
    try clear B3
    try clear B4
    try clear B7
    try clear B8
    try clear Db
    try clear Dc
    try clear p2
    obtain ⟨x11_2,rfl,HA,HK2,Bo,Bm,Bp,Bc,Bd,Bb,HB⟩:=hrel
    cases gk with
   |zero=>exact absurd HA.out (by simp [laws_FnShareGap.l0])
   |succ k2 =>
     have H:=HA.out
     clear HA
     simp only [laws_FnShareGap.l0] at H
     by_cases c59:x11_2<(t333.length:Int)
     rotate_left
     ·rw [if_neg c59] at H
      have c59b0:decide (x11_2<(t333.length:Int))=false:=decide_eq_false c59
      clear c59
      obtain rfl:=Option.some.inj H
      have FC:=Bq.out
      have FD:=Bt.out
      have FE:=Bl.out
      have FF:=Bu.out
      have D8:wr.cell? ⟨Bf,0,none⟩=some (.slice Ao9 t333.length co9):=(bC Bc.out 0).trans rfl
      have D9:wr.cell? ⟨Bf,1,none⟩=some (.int .i64 t336):=(bC Bc.out 1).trans rfl
      have Fa:=bF Bc.out 0
      have Fb:=bF Bc.out 1
      go_wp2
      repeat (go_quiet (fail);try go_wp2)
      go_ret
      exact ⟨by first|rfl|(simp [errW_none,errW_some] <;> rfl)|(simp [*,errW_none,errW_some] <;> rfl),by repeat (first|(with_reducible first|exact HB.out|apply oA|apply pN|apply o1|refine bS ?_ Bj.out|refine bS ?_ Bs.out|refine bS ?_ Bw.out)|exact HB.out)⟩

     rw [if_pos c59] at H
     have c59b0:decide (x11_2<(t333.length:Int))=true:=decide_eq_true c59
     clear c59
     have H':=Am H
     clear H
     have Fc:=Bq.out
     have Fd:=Bt.out
     have Fe:=Bl.out
     have Ff:=Bu.out
     have De:wr.cell? ⟨Bf,0,none⟩=some (.slice Ao9 t333.length co9):=(bC Bc.out 0).trans rfl
     have Df:wr.cell? ⟨Bf,1,none⟩=some (.int .i64 t336):=(bC Bc.out 1).trans rfl
     have Dg:=bF Bc.out 0
     have Dh:=bF Bc.out 1
     go_wp2
     repeat (go_quiet (fail);try go_wp2)
     go_loopg [12] k2 (fun kq v12 w'=>∃ (x12_3:Int),v12=.int .i64 x12_3∧Aside0 (laws_FnShareGap.l1 kq x11_2 x12_3 t333 t336 t339 t342=some r)∧Aside0 (kq≤k2)∧Aside0 (Kd.R k40 40 w' w.heap.size (fun k_=>some k_≠((.slice Ao13 t339.length co13):Value).ownBlock∧some k_≠((.slice Ao19 t348.length co19):Value).ownBlock) (.slice Ao9 t333.length co9) t333)∧Aside0 (Kd.R k40 40 w' w.heap.size (fun k_=>some k_≠((.slice Ao9 t333.length co9):Value).ownBlock∧some k_≠((.slice Ao19 t348.length co19):Value).ownBlock) (.slice Ao13 t339.length co13) t339)∧Aside0 (Kd.R k40 40 w' w.heap.size (fun k_=>some k_≠((.slice Ao9 t333.length co9):Value).ownBlock∧some k_≠((.slice Ao13 t339.length co13):Value).ownBlock) (.slice Ao19 t348.length co19) t348)∧Aside0 (w'.heap[Bf]?=some (.cells #[(.slice Ao9 t333.length co9),.int .i64 t336] 25 (0,0)))∧Aside0 (w'.heap[Be]?=some (.cells #[(.slice Ao13 t339.length co13),.int .i64 t342] 25 (0,0)))∧Aside0 (w'.heap[Ba]?=some (.cells #[(.slice Ao19 t348.length co19),.int .i64 t351] 25 (0,0)))∧Aside0 (Below w.heap.size w w'))
     case atStart=>exact ⟨(0),(by first|rfl|(simp;done)|(simp [*];done)),H',⟨Nat.le_refl _⟩,⟨by (with_reducible repeat (first|apply rA|apply rN|apply rD));exact Bo.out⟩,⟨by (with_reducible repeat (first|apply rA|apply rN|apply rD));exact Bm.out⟩,⟨by (with_reducible repeat (first|apply rA|apply rN|apply rD));exact Bp.out⟩,⟨by (with_reducible repeat (first|refine bN ?_ _|refine bD ?_|refine bA ?_ _));exact Bc.out⟩,⟨by (with_reducible repeat (first|refine bN ?_ _|refine bD ?_|refine bA ?_ _));exact Bd.out⟩,⟨by (with_reducible repeat (first|refine bN ?_ _|refine bD ?_|refine bA ?_ _));exact Bb.out⟩,⟨by repeat (first|(with_reducible first|exact HB.out|apply oA|apply pN|apply o1|refine bS ?_ Bj.out|refine bS ?_ Bs.out|refine bS ?_ Bw.out)|exact HB.out)⟩⟩
     case round =>
      clear H'
      try clear c1
      try clear c2
      try clear c2b0
      try clear c2b1
      try clear p2
      try clear c3
      try clear c4
      try clear c5
      try clear c6
      try clear c10
      try clear c14
      try clear c20
      try clear c21
      try clear c23
      try clear c23b0
      try clear c23b1
      try clear c23b2
      try clear c25
      try clear c27
      try clear c30
      try clear c31
      try clear c33
      try clear c38
      try clear c39
      try clear c41
      try clear c46
      try clear c47
      try clear c47b0
      try clear c47b1
      try clear c47b2
      try clear c49
      try clear c53
      try clear c54
      try clear c56
      try clear c59
      try clear c59b0
      try clear c60
      try clear c61
      try clear Bz
      try clear BA
      try clear BD
      try clear BE
      try clear BH
      try clear BI
      try clear BL
      try clear BM
      try clear BP
      try clear BQ
      try clear BT
      try clear BU
      try clear BX
      try clear BY
      try clear B1
      try clear B2
      try clear B5
      try clear B6
      try clear B9
      try clear Da
      try clear De
      try clear Df
      try clear BB
      try clear BC
      try clear BF
      try clear BG
      try clear BJ
      try clear BK
      try clear BN
      try clear BO
      try clear BR
      try clear BS
      try clear BV
      try clear BW
      try clear BZ
      try clear B0
      try clear B3
      try clear B4
      try clear B7
      try clear B8
      try clear Db
      try clear Dc
      try clear Dg
      try clear Dh
      try clear p2
      obtain ⟨x12_3,rfl,HA,HK3,Bo,Bm,Bp,Bc,Bd,Bb,HB⟩:=hrel
      cases gk with
     |zero=>exact absurd HA.out (by simp [laws_FnShareGap.l1])
     |succ k3 =>
       have H:=HA.out
       clear HA
       simp only [laws_FnShareGap.l1] at H
       by_cases c63:x12_3<(t333.length:Int)
       rotate_left
       ·rw [if_neg c63] at H
        have c63b0:decide (x12_3<(t333.length:Int))=false:=decide_eq_false c63
        clear c63
        have H':=Am H
        clear H
        have Fy:=Bq.out
        have Fz:=Bt.out
        have FA:=Bl.out
        have FB:=Bu.out
        have D4:wr.cell? ⟨Bf,0,none⟩=some (.slice Ao9 t333.length co9):=(bC Bc.out 0).trans rfl
        have D5:wr.cell? ⟨Bf,1,none⟩=some (.int .i64 t336):=(bC Bc.out 1).trans rfl
        have D6:=bF Bc.out 0
        have D7:=bF Bc.out 1
        go_wp2
        repeat (go_quiet (fail);try go_wp2)
        go_roundg k3
        case measure=>have:=Dd.out;have:=HK2.out;have:=HK3.out;omega
        case rel=>exact ⟨(wrap64 (x11_2 + 1)),(by first|rfl|(simp;done)|(simp [*];done)),H',⟨by have:=Dd.out;have:=HK2.out;have:=HK3.out;omega⟩,⟨by (with_reducible repeat (first|apply rA|apply rN|apply rD));exact Bo.out⟩,⟨by (with_reducible repeat (first|apply rA|apply rN|apply rD));exact Bm.out⟩,⟨by (with_reducible repeat (first|apply rA|apply rN|apply rD));exact Bp.out⟩,⟨by (with_reducible repeat (first|refine bN ?_ _|refine bD ?_|refine bA ?_ _));exact Bc.out⟩,⟨by (with_reducible repeat (first|refine bN ?_ _|refine bD ?_|refine bA ?_ _));exact Bd.out⟩,⟨by (with_reducible repeat (first|refine bN ?_ _|refine bD ?_|refine bA ?_ _));exact Bb.out⟩,⟨by repeat (first|(with_reducible first|exact HB.out|apply oA|apply pN|apply o1|refine bS ?_ Bj.out|refine bS ?_ Bs.out|refine bS ?_ Bw.out)|exact HB.out)⟩⟩
       rw [if_pos c63] at H
       have c63b0:decide (x12_3<(t333.length:Int))=true:=decide_eq_true c63
       clear c63
       have HC64:=Am H
       clear H
       have Fg:=Bq.out
       have Fh:=Bt.out
       have Fi:=Bl.out
       have Fj:=Bu.out
       have DK:wr.cell? ⟨Bf,0,none⟩=some (.slice Ao9 t333.length co9):=(bC Bc.out 0).trans rfl
       have DL:wr.cell? ⟨Bf,1,none⟩=some (.int .i64 t336):=(bC Bc.out 1).trans rfl
       have DM:=bF Bc.out 0
       have DN:=bF Bc.out 1
       go_upto_region 14 with (fail)
       repeat (go_quiet (fail);go_upto_region 14 with (fail))
       go_cut [98] (fun v98 wc=>∃ (kq:Nat) (x98_63:Bool),v98=.bool x98_63∧Aside0 (laws_FnShareGap.j3 kq x11_2 x12_3 x98_63 t333 t336 t339 t342=some r)∧Aside0 (kq≤k3)∧Aside0 (Kd.R k40 40 wc w.heap.size (fun k_=>some k_≠((.slice Ao13 t339.length co13):Value).ownBlock∧some k_≠((.slice Ao19 t348.length co19):Value).ownBlock) (.slice Ao9 t333.length co9) t333)∧Aside0 (Kd.R k40 40 wc w.heap.size (fun k_=>some k_≠((.slice Ao9 t333.length co9):Value).ownBlock∧some k_≠((.slice Ao19 t348.length co19):Value).ownBlock) (.slice Ao13 t339.length co13) t339)∧Aside0 (Kd.R k40 40 wc w.heap.size (fun k_=>some k_≠((.slice Ao9 t333.length co9):Value).ownBlock∧some k_≠((.slice Ao13 t339.length co13):Value).ownBlock) (.slice Ao19 t348.length co19) t348)∧Aside0 (wc.heap[Bf]?=some (.cells #[(.slice Ao9 t333.length co9),.int .i64 t336] 25 (0,0)))∧Aside0 (wc.heap[Be]?=some (.cells #[(.slice Ao13 t339.length co13),.int .i64 t342] 25 (0,0)))∧Aside0 (wc.heap[Ba]?=some (.cells #[(.slice Ao19 t348.length co19),.int .i64 t351] 25 (0,0)))∧Aside0 (Below w.heap.size w wc))
       case first =>
        have H:=HC64.out
        clear HC64
        by_cases c68:0≤x11_2
        rotate_left
        ·rw [if_neg c68] at H
         exact absurd H (by simp)
        rw [if_pos c68] at H
        have c68b0:decide (0≤x11_2)=true:=decide_eq_true c68
        clear c68
        (first|rw [c68b0]|(simp only [i64_w,i32_w];rw [c68b0])|skip)
        by_cases c69:x11_2<(t333.length:Int)
        rotate_left
        ·rw [if_neg c69] at H
         exact absurd H (by simp)
        rw [if_pos c69] at H
        have c69b0:decide (x11_2<(t333.length:Int))=true:=decide_eq_true c69
        clear c69
        obtain ⟨bq70,hbq70⟩:∃ b_:Bool,b_=((rd_T40 t333 x11_2).f3):=⟨_,rfl⟩
        replace H:(if (bq70=true) then (if 0≤x12_3 then (laws_FnShareGap.j3 k3 x11_2 x12_3 (!((rd_T40 t333 x12_3).f3)) t333 t336 t339 t342) else (none)) else (laws_FnShareGap.j3 k3 x11_2 x12_3 true t333 t336 t339 t342))=some r:=by rw [← hbq70] at H;exact H
        have Nbq70:=Am hbq70
        clear hbq70
        by_cases c71:(bq70=true)
        rotate_left
        ·replace c71:=Bool.eq_false_iff.mpr c71
         subst c71
         have H1:(laws_FnShareGap.j3 k3 x11_2 x12_3 true t333 t336 t339 t342)=some r:=by rw [if_neg (show ¬ (false=true) by decide)] at H;exact H
         clear H
         have H:=H1
         clear H1
         have H':=Am H
         clear H
         have Fo:=Bq.out
         have Fp:=Bt.out
         have Fq:=Bl.out
         have Fr:=Bu.out
         have DS:wr.cell? ⟨Bf,0,none⟩=some (.slice Ao9 t333.length co9):=(bC Bc.out 0).trans rfl
         have DT:wr.cell? ⟨Bf,1,none⟩=some (.int .i64 t336):=(bC Bc.out 1).trans rfl
         have DU:=bF Bc.out 0
         have DV:=bF Bc.out 1
         have p361:0≤(x11_2:Int):=of_decide_eq_true (by first|(with_reducible assumption)|assumption)
         have q361:x11_2<(t333.length:Int):=of_decide_eq_true (by first|(with_reducible assumption)|assumption)
         obtain ⟨ad361,e361,hx361_0,hx361_1,hx361_2,hx361_3⟩:=at_T40 (Kd.R_reads' Bo.out).2.2 x11_2 p361 q361
         (try rw [← Nbq70.out] at hx361_3)
         cases e361
         replace p361:=eq_true p361
         replace q361:=eq_true q361
         go_wp2
         repeat (go_quiet (fail);try go_wp2)
         go_meet
         case rel=>exact ⟨_,(true),(by first|rfl|(simp;done)|(simp [*];done)),H',⟨by have:=Dd.out;have:=HK2.out;have:=HK3.out;first|omega|exact Nat.le_refl _⟩,⟨by (with_reducible repeat (first|apply rA|apply rN|apply rD));exact Bo.out⟩,⟨by (with_reducible repeat (first|apply rA|apply rN|apply rD));exact Bm.out⟩,⟨by (with_reducible repeat (first|apply rA|apply rN|apply rD));exact Bp.out⟩,⟨by (with_reducible repeat (first|refine bN ?_ _|refine bD ?_|refine bA ?_ _));exact Bc.out⟩,⟨by (with_reducible repeat (first|refine bN ?_ _|refine bD ?_|refine bA ?_ _));exact Bd.out⟩,⟨by (with_reducible repeat (first|refine bN ?_ _|refine bD ?_|refine bA ?_ _));exact Bb.out⟩,⟨by repeat (first|(with_reducible first|exact HB.out|apply oA|apply pN|apply o1|refine bS ?_ Bj.out|refine bS ?_ Bs.out|refine bS ?_ Bw.out)|exact HB.out)⟩⟩
        subst c71
        have H1:(if 0≤x12_3 then (laws_FnShareGap.j3 k3 x11_2 x12_3 (!((rd_T40 t333 x12_3).f3)) t333 t336 t339 t342) else (none))=some r:=by rw [if_pos rfl] at H;exact H
        clear H
        have H:=H1
        clear H1
        by_cases c72:0≤x12_3
        rotate_left
        ·rw [if_neg c72] at H
         exact absurd H (by simp)
        rw [if_pos c72] at H
        have c72b0:decide (0≤x12_3)=true:=decide_eq_true c72
        clear c72
        have H':=Am H
        clear H
        have Fk:=Bq.out
        have Fl:=Bt.out
        have Fm:=Bl.out
        have Fn:=Bu.out
        have DO:wr.cell? ⟨Bf,0,none⟩=some (.slice Ao9 t333.length co9):=(bC Bc.out 0).trans rfl
        have DP:wr.cell? ⟨Bf,1,none⟩=some (.int .i64 t336):=(bC Bc.out 1).trans rfl
        have DQ:=bF Bc.out 0
        have DR:=bF Bc.out 1
        have p361:0≤(x11_2:Int):=of_decide_eq_true (by first|(with_reducible assumption)|assumption)
        have q361:x11_2<(t333.length:Int):=of_decide_eq_true (by first|(with_reducible assumption)|assumption)
        obtain ⟨ad361,e361,hx361_0,hx361_1,hx361_2,hx361_3⟩:=at_T40 (Kd.R_reads' Bo.out).2.2 x11_2 p361 q361
        (try rw [← Nbq70.out] at hx361_3)
        cases e361
        replace p361:=eq_true p361
        replace q361:=eq_true q361
        have p362:0≤(x12_3:Int):=of_decide_eq_true (by first|(with_reducible assumption)|assumption)
        have q362:x12_3<(t333.length:Int):=of_decide_eq_true (by first|(with_reducible assumption)|assumption)
        obtain ⟨ad362,e362,hx362_0,hx362_1,hx362_2,hx362_3⟩:=at_T40 (Kd.R_reads' Bo.out).2.2 x12_3 p362 q362
        (try rw [← Nbq70.out] at hx362_3)
        obtain rfl:ad361=ad362:=(by injection e362)
        replace p362:=eq_true p362
        replace q362:=eq_true q362
        go_wp2
        repeat (go_quiet (fail);try go_wp2)
        go_meet
        case rel=>exact ⟨_,(!((rd_T40 t333 x12_3).f3)),(by first|rfl|(simp;done)|(simp [*];done)),H',⟨by have:=Dd.out;have:=HK2.out;have:=HK3.out;first|omega|exact Nat.le_refl _⟩,⟨by (with_reducible repeat (first|apply rA|apply rN|apply rD));exact Bo.out⟩,⟨by (with_reducible repeat (first|apply rA|apply rN|apply rD));exact Bm.out⟩,⟨by (with_reducible repeat (first|apply rA|apply rN|apply rD));exact Bp.out⟩,⟨by (with_reducible repeat (first|refine bN ?_ _|refine bD ?_|refine bA ?_ _));exact Bc.out⟩,⟨by (with_reducible repeat (first|refine bN ?_ _|refine bD ?_|refine bA ?_ _));exact Bd.out⟩,⟨by (with_reducible repeat (first|refine bN ?_ _|refine bD ?_|refine bA ?_ _));exact Bb.out⟩,⟨by repeat (first|(with_reducible first|exact HB.out|apply oA|apply pN|apply o1|refine bS ?_ Bj.out|refine bS ?_ Bs.out|refine bS ?_ Bw.out)|exact HB.out)⟩⟩
       case rest =>
        clear HC64
        try clear c1
        try clear c2
        try clear c2b0
        try clear c2b1
        try clear p2
        try clear c3
        try clear p3
        try clear q3
        try clear hx3
        try clear c4
        try clear c5
        try clear c6
        try clear c7
        try clear q7
        try clear c10
        try clear c14
        try clear c20
        try clear c21
        try clear c23
        try clear c23b0
        try clear c23b1
        try clear c23b2
        try clear c25
        try clear c27
        try clear c30
        try clear c31
        try clear c33
        try clear p36
        try clear q36
        try clear hx36
        try clear c38
        try clear c39
        try clear c41
        try clear c46
        try clear c47
        try clear c47b0
        try clear c47b1
        try clear c47b2
        try clear c49
        try clear c53
        try clear c54
        try clear c56
        try clear c59
        try clear c59b0
        try clear c60
        try clear c61
        try clear c63
        try clear c63b0
        try clear c65
        try clear c66
        try clear c68
        try clear c68b0
        try clear c69
        try clear c69b0
        try clear q70
        try clear c71
        try clear c72
        try clear c72b0
        try clear c73
        try clear c74
        try clear c76
        try clear c77
        try clear Bz
        try clear BA
        try clear BD
        try clear BE
        try clear BH
        try clear BI
        try clear BL
        try clear BM
        try clear BP
        try clear BQ
        try clear BT
        try clear BU
        try clear BX
        try clear BY
        try clear B1
        try clear B2
        try clear B5
        try clear B6
        try clear B9
        try clear Da
        try clear De
        try clear Df
        try clear DK
        try clear DL
        try clear DO
        try clear DP
        try clear DS
        try clear DT
        try clear BB
        try clear BC
        try clear BF
        try clear BG
        try clear BJ
        try clear BK
        try clear BN
        try clear BO
        try clear BR
        try clear BS
        try clear BV
        try clear BW
        try clear BZ
        try clear B0
        try clear B3
        try clear B4
        try clear B7
        try clear B8
        try clear Db
        try clear Dc
        try clear Dg
        try clear Dh
        try clear DM
        try clear DN
        try clear DQ
        try clear DR
        try clear DU
        try clear DV
        try clear hx361_0
        try clear hx361_1
        try clear hx361_2
        try clear hx361_3
        try clear hx362_0
        try clear hx362_1
        try clear hx362_2
        try clear hx362_3
        try clear p2
        try clear p361
        try clear p362
        try clear q361
        try clear q362
        obtain ⟨kq,x98_63,rfl,HA,Di,Bo,Bm,Bp,Bc,Bd,Bb,HB⟩:=hcut
        cases kq with
       |zero=>exact absurd HA.out (by simp [laws_FnShareGap.j3])
       |succ kj63 =>
         have H:=HA.out
         clear HA
         simp only [laws_FnShareGap.j3] at H
         by_cases c79:x98_63=true
         ·subst c79
          have H1:(laws_FnShareGap.l1 kj63 x11_2 (wrap64 (x12_3 + 1)) t333 t336 t339 t342)=some r:=by rw [if_pos rfl] at H;exact H
          clear H
          have H:=H1
          clear H1
          have H':=Am H
          clear H
          go_wp2
          repeat (go_quiet (fail);try go_wp2)
          go_roundg kj63
          case measure=>have:=Dd.out;have:=HK2.out;have:=HK3.out;have:=Di.out;omega
          case rel=>exact ⟨(wrap64 (x12_3 + 1)),(by first|rfl|(simp;done)|(simp [*];done)),H',⟨by have:=Dd.out;have:=HK2.out;have:=HK3.out;have:=Di.out;omega⟩,⟨by (with_reducible repeat (first|apply rA|apply rN|apply rD));exact Bo.out⟩,⟨by (with_reducible repeat (first|apply rA|apply rN|apply rD));exact Bm.out⟩,⟨by (with_reducible repeat (first|apply rA|apply rN|apply rD));exact Bp.out⟩,⟨by (with_reducible repeat (first|refine bN ?_ _|refine bD ?_|refine bA ?_ _));exact Bc.out⟩,⟨by (with_reducible repeat (first|refine bN ?_ _|refine bD ?_|refine bA ?_ _));exact Bd.out⟩,⟨by (with_reducible repeat (first|refine bN ?_ _|refine bD ?_|refine bA ?_ _));exact Bb.out⟩,⟨by repeat (first|(with_reducible first|exact HB.out|apply oA|apply pN|apply o1|refine bS ?_ Bj.out|refine bS ?_ Bs.out|refine bS ?_ Bw.out)|exact HB.out)⟩⟩
         replace c79:=Bool.eq_false_iff.mpr c79
         subst c79
         have H1:(if 0≤x11_2 then (if x11_2<(t333.length:Int) then (if 0≤x12_3 then (if x12_3<(t333.length:Int) then (if x11_2<(t339.length:Int) then (if x12_3<(t339.length:Int) then (if ((rd_T40 t333 x11_2).f1)=0 then (none) else (if (wrap64 (((rd_T40 t339 x11_2).f2) - ((rd_T40 t339 x12_3).f2))) > (mx (wrap64 (((rd_T40 t333 x11_2).f2) - ((rd_T40 t333 x12_3).f2))) (wrap64 (Int.tdiv (60:Int) ((rd_T40 t333 x11_2).f1)))) then (some false) else (laws_FnShareGap.l1 kj63 x11_2 (wrap64 (x12_3 + 1)) t333 t336 t339 t342))) else (none)) else (none)) else (none)) else (none)) else (none)) else (none))=some r:=by rw [if_neg (show ¬ (false=true) by decide)] at H;exact H
         clear H
         have H:=H1
         clear H1
         by_cases c80:0≤x11_2
         rotate_left
         ·rw [if_neg c80] at H
          exact absurd H (by simp)
         rw [if_pos c80] at H
         have c80b0:decide (0≤x11_2)=true:=decide_eq_true c80
         clear c80
         by_cases c81:x11_2<(t333.length:Int)
         rotate_left
         ·rw [if_neg c81] at H
          exact absurd H (by simp)
         rw [if_pos c81] at H
         have c81b0:decide (x11_2<(t333.length:Int))=true:=decide_eq_true c81
         clear c81
         by_cases c82:0≤x12_3
         rotate_left
         ·rw [if_neg c82] at H
          exact absurd H (by simp)
         rw [if_pos c82] at H
         have c82b0:decide (0≤x12_3)=true:=decide_eq_true c82
         clear c82
         by_cases c83:x12_3<(t333.length:Int)
         rotate_left
         ·rw [if_neg c83] at H
          exact absurd H (by simp)
         rw [if_pos c83] at H
         have c83b0:decide (x12_3<(t333.length:Int))=true:=decide_eq_true c83
         clear c83
         by_cases c84:x11_2<(t339.length:Int)
         rotate_left
         ·rw [if_neg c84] at H
          exact absurd H (by simp)
         rw [if_pos c84] at H
         have c84b0:decide (x11_2<(t339.length:Int))=true:=decide_eq_true c84
         clear c84
         by_cases c85:x12_3<(t339.length:Int)
         rotate_left
         ·rw [if_neg c85] at H
          exact absurd H (by simp)
         rw [if_pos c85] at H
         have c85b0:decide (x12_3<(t339.length:Int))=true:=decide_eq_true c85
         clear c85
         by_cases c86:((rd_T40 t333 x11_2).f1)=0
         ·rw [if_pos c86] at H
          exact absurd H (by simp)
         rw [if_neg c86] at H
         have c86b0:(((rd_T40 t333 x11_2).f1) == 0)=false:=beq_eq_false_iff_ne.mpr c86
         have c86b1:(((rd_T40 t333 x11_2).f1) != 0)=true:=bne_iff_ne.mpr c86
         obtain ⟨ji87,hji87⟩:∃ j_:Int,(mx (wrap64 (((rd_T40 t333 x11_2).f2) - ((rd_T40 t333 x12_3).f2))) (wrap64 (Int.tdiv (60:Int) ((rd_T40 t333 x11_2).f1))))=j_:=⟨_,rfl⟩
         replace H:(if (wrap64 (((rd_T40 t339 x11_2).f2) - ((rd_T40 t339 x12_3).f2))) > (ji87) then (some false) else (laws_FnShareGap.l1 kj63 x11_2 (wrap64 (x12_3 + 1)) t333 t336 t339 t342))=some r:=by first|(rw [hji87] at H;exact H)|(simp only [hji87] at H ⊢;exact H)
         have hji87_:(if (wrap64 (((rd_T40 t333 x11_2).f2) - ((rd_T40 t333 x12_3).f2)))<(wrap64 (Int.tdiv (60:Int) ((rd_T40 t333 x11_2).f1))) then (wrap64 (Int.tdiv (60:Int) ((rd_T40 t333 x11_2).f1))) else (wrap64 (((rd_T40 t333 x11_2).f2) - ((rd_T40 t333 x12_3).f2))))=ji87:=hji87
         by_cases c88:(wrap64 (((rd_T40 t339 x11_2).f2) - ((rd_T40 t339 x12_3).f2))) > (ji87)
         ·rw [if_pos c88] at H
          have c88b0:decide ((ji87)<(wrap64 (((rd_T40 t339 x11_2).f2) - ((rd_T40 t339 x12_3).f2))))=true:=decide_eq_true c88
          clear c88
          exact absurd ((Option.some.inj H).trans hT_.out) (by decide)
         rw [if_neg c88] at H
         have c88b0:decide ((ji87)<(wrap64 (((rd_T40 t339 x11_2).f2) - ((rd_T40 t339 x12_3).f2))))=false:=decide_eq_false c88
         clear c88
         have H':=Am H
         clear H
         have Fs:=Bq.out
         have Ft:=Bt.out
         have Fu:=Bl.out
         have Fv:=Bu.out
         have DW:wc.cell? ⟨Bf,0,none⟩=some (.slice Ao9 t333.length co9):=(bC Bc.out 0).trans rfl
         have DX:wc.cell? ⟨Bf,1,none⟩=some (.int .i64 t336):=(bC Bc.out 1).trans rfl
         have DY:=bF Bc.out 0
         have DZ:=bF Bc.out 1
         have p363:0≤(x11_2:Int):=of_decide_eq_true (by first|(with_reducible assumption)|assumption)
         have q363:x11_2<(t333.length:Int):=of_decide_eq_true (by first|(with_reducible assumption)|assumption)
         obtain ⟨ad363,e363,hx363_0,hx363_1,hx363_2,hx363_3⟩:=at_T40 (Kd.R_reads' Bo.out).2.2 x11_2 p363 q363
         cases e363
         replace p363:=eq_true p363
         replace q363:=eq_true q363
         have p364:0≤(x12_3:Int):=of_decide_eq_true (by first|(with_reducible assumption)|assumption)
         have q364:x12_3<(t333.length:Int):=of_decide_eq_true (by first|(with_reducible assumption)|assumption)
         obtain ⟨ad364,e364,hx364_0,hx364_1,hx364_2,hx364_3⟩:=at_T40 (Kd.R_reads' Bo.out).2.2 x12_3 p364 q364
         obtain rfl:ad363=ad364:=(by injection e364)
         replace p364:=eq_true p364
         replace q364:=eq_true q364
         have Fw:=Br.out
         have Fx:=Bv.out
         have D0:wc.cell? ⟨Be,0,none⟩=some (.slice Ao13 t339.length co13):=(bC Bd.out 0).trans rfl
         have D1:wc.cell? ⟨Be,1,none⟩=some (.int .i64 t342):=(bC Bd.out 1).trans rfl
         have D2:=bF Bd.out 0
         have D3:=bF Bd.out 1
         have p365:0≤(x11_2:Int):=of_decide_eq_true (by first|(with_reducible assumption)|assumption)
         have q365:x11_2<(t339.length:Int):=of_decide_eq_true (by first|(with_reducible assumption)|assumption)
         obtain ⟨ad365,e365,hx365_0,hx365_1,hx365_2,hx365_3⟩:=at_T40 (Kd.R_reads' Bm.out).2.2 x11_2 p365 q365
         cases e365
         replace p365:=eq_true p365
         replace q365:=eq_true q365
         have p366:0≤(x12_3:Int):=of_decide_eq_true (by first|(with_reducible assumption)|assumption)
         have q366:x12_3<(t339.length:Int):=of_decide_eq_true (by first|(with_reducible assumption)|assumption)
         obtain ⟨ad366,e366,hx366_0,hx366_1,hx366_2,hx366_3⟩:=at_T40 (Kd.R_reads' Bm.out).2.2 x12_3 p366 q366
         obtain rfl:ad365=ad366:=(by injection e366)
         replace p366:=eq_true p366
         replace q366:=eq_true q366
         have p367:0≤(x11_2:Int):=of_decide_eq_true (by first|(with_reducible assumption)|assumption)
         have q367:x11_2<(t333.length:Int):=of_decide_eq_true (by first|(with_reducible assumption)|assumption)
         obtain ⟨ad367,e367,hx367_0,hx367_1,hx367_2,hx367_3⟩:=at_T40 (Kd.R_reads' Bo.out).2.2 x11_2 p367 q367
         obtain rfl:ad363=ad367:=(by injection e367)
         replace p367:=eq_true p367
         replace q367:=eq_true q367
         go_wp2
         repeat (go_quiet (fail);try go_wp2)
         go_roundg kj63
         case measure=>have:=Dd.out;have:=HK2.out;have:=HK3.out;have:=Di.out;omega
         case rel=>exact ⟨(wrap64 (x12_3 + 1)),(by first|rfl|(simp;done)|(simp [*];done)),H',⟨by have:=Dd.out;have:=HK2.out;have:=HK3.out;have:=Di.out;omega⟩,⟨by (with_reducible repeat (first|apply rA|apply rN|apply rD));exact Bo.out⟩,⟨by (with_reducible repeat (first|apply rA|apply rN|apply rD));exact Bm.out⟩,⟨by (with_reducible repeat (first|apply rA|apply rN|apply rD));exact Bp.out⟩,⟨by (with_reducible repeat (first|refine bN ?_ _|refine bD ?_|refine bA ?_ _));exact Bc.out⟩,⟨by (with_reducible repeat (first|refine bN ?_ _|refine bD ?_|refine bA ?_ _));exact Bd.out⟩,⟨by (with_reducible repeat (first|refine bN ?_ _|refine bD ?_|refine bA ?_ _));exact Bb.out⟩,⟨by repeat (first|(with_reducible first|exact HB.out|apply oA|apply pN|apply o1|refine bS ?_ Bj.out|refine bS ?_ Bs.out|refine bS ?_ Bw.out)|exact HB.out)⟩⟩
/-- THE ONE PURE STATEMENT of laws_FnShareGap: yours. -/
def laws_FnShareGap.Pure:Prop:=∀ (l0:List Int),l0.length≤maxLen → l0.length * 1≤140737488351232 → (∀ x ∈ l0,(Lit.int .u8 x).wf=true) → ∃ k,laws_FnShareGap.f k l0=some true
theorem laws_FnShareGap.walk (P:laws_FnShareGap.Pure) (a0:Option Addr) (len0 cap0:Nat) (z0:List Int) (w:World) (w0:(a0=none∧len0=0∧cap0=0∧z0=[])∨∃ x,a0=some x∧len0≤cap0∧cap0≤maxLen∧z0.length=cap0∧(∀ i,i<z0.length → w.cell? (x.add i)=some (.int .u8 (z0.getD i 0)))∧∀ n ∈ z0,(Lit.int .u8 n).wf=true) (y0:len0 * 1≤140737488351232) :
  Calls Try.prog 10 #[.slice a0 len0 cap0] w fun e w'=>e=.returned (.bool true)∧Below w.heap.size w w':=by
 obtain ⟨l0,rfl,hr0,hm0,hw0,hc0⟩:=ReadsInt.ofRowC w0
 obtain ⟨k,h⟩:=P l0 hm0 y0 hw0
 refine (laws_FnShareGap.calls k _ _ l0 true w (Kd.C_of_reads (d:=(0:Int)) (h1:=fun _=>rfl) hr0) hc0 h ⟨rfl⟩).mono ?_
 rintro e w' ⟨rfl,hd⟩
 exact ⟨rfl,hd⟩

end Go.Proofs.Ytfhcgmfodfcpeaa.PFnShareGap
