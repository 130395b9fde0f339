/- Proved here, without a condition beyond those that each theorem states: what the Go functions named below do is what the plain functions of the same names say. Written by xprint.py, a program of this session. -/
import Derived.Test.YtfhcgmfodfcpeaaPFnShareServedx0
import Derived.Test.YtfhcgmfodfcpeaaPFnShareServedx2
import Derived.Test.YtfhcgmfodfcpeaaPFnShareServedx6
import Derived.Test.YtfhcgmfodfcpeaaPFnShareServedx13
import Derived.Test.YtfhcgmfodfcpeaaPFnShareServedx16
import Derived.Test.YtfhcgmfodfcpeaaPFnShareServedx17
namespace Go.Proofs.Ytfhcgmfodfcpeaa.PFnShareServed
open Go.RowKit Go.Proofs.YtfhcgmfodfcpeaaW.PrintWords Go.Proofs.YtfhcgmfodfcpeaaW.PrintLast Go.Proofs.YtfhcgmfodfcpeaaW.PrintMore
attribute [local go_sem] max2_int min2_int max_two min_two max_three min_three max_four min_four   -- for this text's walks alone
set_option linter.unusedVariables false
set_option linter.unusedSimpArgs false

attribute [local go_sem ↓] isSome_setCell_
/-! ### laws_FnShareServed: function 11 -/
mutual
def laws_FnShareServed.j0 : Nat → List Int → List Int → Bool → Option (Bool)
|0, _, _, _ => none
|k + 1, x0, x1, x23 => if x23 = true then (some true) else ((spec_DrawQueueRun.f k x0).bind fun bt333 => ((impl_QueueRun.f k bt333.1 bt333.2.1 (60 + ((x1.length : Int) % 40))).bind fun bt339 => ((spec_QueueRun.f k bt333.1 bt333.2.1 (60 + ((x1.length : Int) % 40))).bind fun bt348 => (if (bt339.2.2.2 != bt348.2.2.2) = true then (laws_FnShareServed.j1 k bt339.2.2.1 bt339.2.2.2 bt348.2.2.1 bt348.2.2.2 true bt333.1 bt333.2.1 bt339.1 bt339.2.1 bt348.1 bt348.2.1) else ((laws_qdInts.f k bt339.2.2.1 bt348.2.2.1).bind fun t357 => (if t357 = true then ((laws_qdQueue.f k bt339.1 bt339.2.1 bt348.1 bt348.2.1).bind fun t358 => (if t358 = true then (laws_FnShareServed.j1 k bt339.2.2.1 bt339.2.2.2 bt348.2.2.1 bt348.2.2.2 (!bt339.2.2.2) bt333.1 bt333.2.1 bt339.1 bt339.2.1 bt348.1 bt348.2.1) else (laws_FnShareServed.j1 k bt339.2.2.1 bt339.2.2.2 bt348.2.2.1 bt348.2.2.2 true bt333.1 bt333.2.1 bt339.1 bt339.2.1 bt348.1 bt348.2.1))) else (laws_FnShareServed.j1 k bt339.2.2.1 bt339.2.2.2 bt348.2.2.1 bt348.2.2.2 true bt333.1 bt333.2.1 bt339.1 bt339.2.1 bt348.1 bt348.2.1)))))))
def laws_FnShareServed.j1 : Nat → List Int → Bool → List Int → Bool → Bool → List (S40) → Int → List (S40) → Int → List (S40) → Int → Option (Bool)
|0, _, _, _, _, _, _, _, _, _, _, _ => none
|k + 1, x8, x9, x11, x12, x67, x339000, x339001, x348000, x348001, x357000, x357001 => if x67 = true then (if (x9 == x12) = true then ((laws_qdInts.f k x8 x11).bind fun t359 => (if t359 = true then ((laws_qdQueue.f k x348000 x348001 x357000 x357001).bind fun t360 => (some t360)) else (some false))) else (some false)) else (laws_FnShareServed.l0 k x8 0 x339000 x339001)
def laws_FnShareServed.l0 : Nat → List Int → Int → List (S40) → Int → Option (Bool)
|0, _, _, _, _ => none
|k + 1, x8, x13, x339000, x339001 => if x13 < (x339000.length : Int) then (laws_FnShareServed.l1 k x8 x13 false 0 x339000 x339001) else (some true)
def laws_FnShareServed.l1 : Nat → List Int → Int → Bool → Int → List (S40) → Int → Option (Bool)
|0, _, _, _, _, _, _ => none
|k + 1, x8, x13, x14, x15, x339000, x339001 => if x15 < (x8.length : Int) then (if x14 = true then (laws_FnShareServed.l1 k x8 x13 true (wrap64 (x15 + 1)) x339000 x339001) else (if 0 ≤ x15 then (if 0 ≤ x13 then (if x13 < (x339000.length : Int) then (laws_FnShareServed.l1 k x8 x13 ((rd x8 x15) == ((rd_T40 x339000 x13).f0)) (wrap64 (x15 + 1)) x339000 x339001) else (none)) else (none)) else (none))) else (if 0 ≤ x13 then (if x13 < (x339000.length : Int) then (if (rd_T40 x339000 x13).f3 = true then (if ((rd_T40 x339000 x13).f2) ≤ (wrap64 (x339001 + 60)) then (if x14 = true then (laws_FnShareServed.l0 k x8 (wrap64 (x13 + 1)) x339000 x339001) else (some false)) else (laws_FnShareServed.l0 k x8 (wrap64 (x13 + 1)) x339000 x339001)) else (laws_FnShareServed.l0 k x8 (wrap64 (x13 + 1)) x339000 x339001)) else (none)) else (none))
end
def laws_FnShareServed.f (k : Nat) (l0 : List Int) (l1 : List Int) : Option (Bool) := if (l0.length : Int) > 1048576 then (laws_FnShareServed.j0 k l0 l1 true) else (laws_FnShareServed.j0 k l0 l1 (decide ((l1.length : Int) > 1048576)))
theorem laws_FnShareServed.mono_l : ∀ k, (∀ y0 y1 y2, LeO (laws_FnShareServed.j0 k y0 y1 y2) (laws_FnShareServed.j0 (k + 1) y0 y1 y2)) ∧ (∀ y0 y1 y2 y3 y4 y5 y6 y7 y8 y9 y10, LeO (laws_FnShareServed.j1 k y0 y1 y2 y3 y4 y5 y6 y7 y8 y9 y10) (laws_FnShareServed.j1 (k + 1) y0 y1 y2 y3 y4 y5 y6 y7 y8 y9 y10)) ∧ (∀ y0 y1 y2 y3, LeO (laws_FnShareServed.l0 k y0 y1 y2 y3) (laws_FnShareServed.l0 (k + 1) y0 y1 y2 y3)) ∧ (∀ y0 y1 y2 y3 y4 y5, LeO (laws_FnShareServed.l1 k y0 y1 y2 y3 y4 y5) (laws_FnShareServed.l1 (k + 1) y0 y1 y2 y3 y4 y5))
|0 => ⟨fun _ _ _ r h => by simp [laws_FnShareServed.j0] at h, fun _ _ _ _ _ _ _ _ _ _ _ r h => by simp [laws_FnShareServed.j1] at h, fun _ _ _ _ r h => by simp [laws_FnShareServed.l0] at h, fun _ _ _ _ _ _ r h => by simp [laws_FnShareServed.l1] at h⟩
|k + 1 => by
  obtain ⟨ih0, ih1, ih2, ih3⟩ := laws_FnShareServed.mono_l k
  refine ⟨?_, ?_, ?_, ?_⟩
  ·intro y0 y1 y2
   unfold laws_FnShareServed.j0
   repeat' first
  |(with_reducible exact ih0 _ _ _)
  |(with_reducible exact ih1 _ _ _ _ _ _ _ _ _ _ _)
  |(with_reducible exact ih2 _ _ _ _)
  |(with_reducible exact ih3 _ _ _ _ _ _)
  |(with_reducible exact impl_QueueRun.mono _ _ _ _)
  |(with_reducible exact laws_qdInts.mono _ _ _)
  |(with_reducible exact laws_qdQueue.mono _ _ _ _ _)
  |(with_reducible exact spec_DrawQueueRun.mono _ _)
  |(with_reducible exact spec_QueueRun.mono _ _ _ _)
  |(with_reducible exact LeO.refl _)
  |(with_reducible exact LeO.none _)
  |(with_reducible refine LeO.ite ?_ ?_)
  |(with_reducible refine LeO.bind ?_ (fun _ => ?_))
  |exact ih0 _ _ _
  |exact ih1 _ _ _ _ _ _ _ _ _ _ _
  |exact ih2 _ _ _ _
  |exact ih3 _ _ _ _ _ _
  |exact impl_QueueRun.mono _ _ _ _
  |exact laws_qdInts.mono _ _ _
  |exact laws_qdQueue.mono _ _ _ _ _
  |exact spec_DrawQueueRun.mono _ _
  |exact spec_QueueRun.mono _ _ _ _
  |exact LeO.none _
  |refine LeO.ite ?_ ?_
  |refine LeO.bind ?_ (fun _ => ?_)
  ·intro y0 y1 y2 y3 y4 y5 y6 y7 y8 y9 y10
   unfold laws_FnShareServed.j1
   repeat' first
  |(with_reducible exact ih0 _ _ _)
  |(with_reducible exact ih1 _ _ _ _ _ _ _ _ _ _ _)
  |(with_reducible exact ih2 _ _ _ _)
  |(with_reducible exact ih3 _ _ _ _ _ _)
  |(with_reducible exact impl_QueueRun.mono _ _ _ _)
  |(with_reducible exact laws_qdInts.mono _ _ _)
  |(with_reducible exact laws_qdQueue.mono _ _ _ _ _)
  |(with_reducible exact spec_DrawQueueRun.mono _ _)
  |(with_reducible exact spec_QueueRun.mono _ _ _ _)
  |(with_reducible exact LeO.refl _)
  |(with_reducible exact LeO.none _)
  |(with_reducible refine LeO.ite ?_ ?_)
  |(with_reducible refine LeO.bind ?_ (fun _ => ?_))
  |exact ih0 _ _ _
  |exact ih1 _ _ _ _ _ _ _ _ _ _ _
  |exact ih2 _ _ _ _
  |exact ih3 _ _ _ _ _ _
  |exact impl_QueueRun.mono _ _ _ _
  |exact laws_qdInts.mono _ _ _
  |exact laws_qdQueue.mono _ _ _ _ _
  |exact spec_DrawQueueRun.mono _ _
  |exact spec_QueueRun.mono _ _ _ _
  |exact LeO.none _
  |refine LeO.ite ?_ ?_
  |refine LeO.bind ?_ (fun _ => ?_)
  ·intro y0 y1 y2 y3
   unfold laws_FnShareServed.l0
   repeat' first
  |(with_reducible exact ih0 _ _ _)
  |(with_reducible exact ih1 _ _ _ _ _ _ _ _ _ _ _)
  |(with_reducible exact ih2 _ _ _ _)
  |(with_reducible exact ih3 _ _ _ _ _ _)
  |(with_reducible exact impl_QueueRun.mono _ _ _ _)
  |(with_reducible exact laws_qdInts.mono _ _ _)
  |(with_reducible exact laws_qdQueue.mono _ _ _ _ _)
  |(with_reducible exact spec_DrawQueueRun.mono _ _)
  |(with_reducible exact spec_QueueRun.mono _ _ _ _)
  |(with_reducible exact LeO.refl _)
  |(with_reducible exact LeO.none _)
  |(with_reducible refine LeO.ite ?_ ?_)
  |(with_reducible refine LeO.bind ?_ (fun _ => ?_))
  |exact ih0 _ _ _
  |exact ih1 _ _ _ _ _ _ _ _ _ _ _
  |exact ih2 _ _ _ _
  |exact ih3 _ _ _ _ _ _
  |exact impl_QueueRun.mono _ _ _ _
  |exact laws_qdInts.mono _ _ _
  |exact laws_qdQueue.mono _ _ _ _ _
  |exact spec_DrawQueueRun.mono _ _
  |exact spec_QueueRun.mono _ _ _ _
  |exact LeO.none _
  |refine LeO.ite ?_ ?_
  |refine LeO.bind ?_ (fun _ => ?_)
  ·intro y0 y1 y2 y3 y4 y5
   unfold laws_FnShareServed.l1
   repeat' first
  |(with_reducible exact ih0 _ _ _)
  |(with_reducible exact ih1 _ _ _ _ _ _ _ _ _ _ _)
  |(with_reducible exact ih2 _ _ _ _)
  |(with_reducible exact ih3 _ _ _ _ _ _)
  |(with_reducible exact impl_QueueRun.mono _ _ _ _)
  |(with_reducible exact laws_qdInts.mono _ _ _)
  |(with_reducible exact laws_qdQueue.mono _ _ _ _ _)
  |(with_reducible exact spec_DrawQueueRun.mono _ _)
  |(with_reducible exact spec_QueueRun.mono _ _ _ _)
  |(with_reducible exact LeO.refl _)
  |(with_reducible exact LeO.none _)
  |(with_reducible refine LeO.ite ?_ ?_)
  |(with_reducible refine LeO.bind ?_ (fun _ => ?_))
  |exact ih0 _ _ _
  |exact ih1 _ _ _ _ _ _ _ _ _ _ _
  |exact ih2 _ _ _ _
  |exact ih3 _ _ _ _ _ _
  |exact impl_QueueRun.mono _ _ _ _
  |exact laws_qdInts.mono _ _ _
  |exact laws_qdQueue.mono _ _ _ _ _
  |exact spec_DrawQueueRun.mono _ _
  |exact spec_QueueRun.mono _ _ _ _
  |exact LeO.none _
  |refine LeO.ite ?_ ?_
  |refine LeO.bind ?_ (fun _ => ?_)
theorem laws_FnShareServed.mono : ∀ a0 a1 k, LeO (laws_FnShareServed.f k a0 a1) (laws_FnShareServed.f (k + 1) a0 a1) := by
 intro a0 a1 k
 obtain ⟨ih0, ih1, ih2, ih3⟩ := laws_FnShareServed.mono_l k
 unfold laws_FnShareServed.f
 repeat' first
  |(with_reducible exact ih0 _ _ _)
  |(with_reducible exact ih1 _ _ _ _ _ _ _ _ _ _ _)
  |(with_reducible exact ih2 _ _ _ _)
  |(with_reducible exact ih3 _ _ _ _ _ _)
  |(with_reducible exact impl_QueueRun.mono _ _ _ _)
  |(with_reducible exact laws_qdInts.mono _ _ _)
  |(with_reducible exact laws_qdQueue.mono _ _ _ _ _)
  |(with_reducible exact spec_DrawQueueRun.mono _ _)
  |(with_reducible exact spec_QueueRun.mono _ _ _ _)
  |(with_reducible exact LeO.refl _)
  |(with_reducible exact LeO.none _)
  |(with_reducible refine LeO.ite ?_ ?_)
  |(with_reducible refine LeO.bind ?_ (fun _ => ?_))
  |exact ih0 _ _ _
  |exact ih1 _ _ _ _ _ _ _ _ _ _ _
  |exact ih2 _ _ _ _
  |exact ih3 _ _ _ _ _ _
  |exact impl_QueueRun.mono _ _ _ _
  |exact laws_qdInts.mono _ _ _
  |exact laws_qdQueue.mono _ _ _ _ _
  |exact spec_DrawQueueRun.mono _ _
  |exact spec_QueueRun.mono _ _ _ _
  |exact LeO.none _
  |refine LeO.ite ?_ ?_
  |refine LeO.bind ?_ (fun _ => ?_)
set_option maxHeartbeats 2000000 in
set_option maxRecDepth 100000 in
theorem laws_FnShareServed.calls (k:Nat) (A0:Option Addr) (c0:Nat) (l0:List Int) (A1:Option Addr) (c1:Nat) (l1:List Int) (r:Bool) (w:World) (hr0:Kd.C (Kd.int .u8) w A0 l0.length l0) (hc0:l0.length≤c0) (hr1:Kd.C (Kd.int .u8) w A1 l1.length l1) (hc1:l1.length≤c1) (h:laws_FnShareServed.f k l0 l1=some r) (hT_:Aside0 (r=true)) :
  Calls Try.prog 11 #[.slice A0 l0.length c0,.slice A1 l1.length c1] w fun e w'=>e=.returned (.bool r)∧Below w.heap.size w w':=by
 have hu25:=Try.underlying25
 have HR0:=Am hr0
 have HC0:=Am hc0
 clear hr0 hc0
 have HR1:=Am hr1
 have HC1:=Am hc1
 clear hr1 hc1
 have HB:=Am (Below.refl w.heap.size w)
 have H:(if (l0.length:Int) > 1048576 then (laws_FnShareServed.j0 k l0 l1 true) else (laws_FnShareServed.j0 k l0 l1 (decide ((l1.length:Int) > 1048576))))=some r:=h
 clear h
 have HC3:=Am H
 clear H
 go_enter Try.func11,Try.ntmps11
 go_upto_region 1 with (fail)
 repeat (go_quiet (fail);go_upto_region 1 with (fail))
 go_cut [23] (fun v23 wc=>∃ (kq:Nat) (x23_2:Bool),v23=.bool x23_2∧Aside0 (laws_FnShareServed.j0 kq l0 l1 x23_2=some r)∧Aside0 (kq≤k)∧Aside0 (Below w.heap.size w wc))
 case first =>
  have H:=HC3.out
  clear HC3
  by_cases c4:(l0.length:Int) > 1048576
  ·rw [if_pos c4] at H
   have c4b0:decide (1048576<(l0.length:Int))=true:=decide_eq_true c4
   have c4b1:decide (1048576<l0.length)=true:=decide_eq_true (by omega)
   clear c4
   (first|rw [c4b0]|(simp only [i64_w,i32_w];rw [c4b0])|skip)
   have H':=Am H
   clear H
   go_wp2
   repeat (go_quiet (fail);try go_wp2)
   go_meet
   case rel=>exact ⟨_,(true),(by first|rfl|(simp;done)|(simp [*];done)),H',⟨by first|omega|exact Nat.le_refl _⟩,⟨by repeat (first|(with_reducible first|exact HB.out|apply oA|apply pN|apply o1)|exact HB.out)⟩⟩
  rw [if_neg c4] at H
  have c4b0:decide (1048576<(l0.length:Int))=false:=decide_eq_false c4
  have c4b1:decide (1048576<l0.length)=false:=decide_eq_false (by omega)
  clear c4
  (first|rw [c4b0]|(simp only [i64_w,i32_w];rw [c4b0])|skip)
  have H':=Am H
  clear H
  go_wp2
  repeat (go_quiet (fail);try go_wp2)
  go_meet
  case rel=>exact ⟨_,(decide ((l1.length:Int) > 1048576)),(by first|rfl|(simp;done)|(simp [*];done)),H',⟨by first|omega|exact Nat.le_refl _⟩,⟨by repeat (first|(with_reducible first|exact HB.out|apply oA|apply pN|apply o1)|exact HB.out)⟩⟩
 case rest =>
  clear HC3
  try clear c1
  try clear p2
  try clear c4
  try clear c4b0
  try clear c4b1
  obtain ⟨kq,x23_2,rfl,HA,Bz,HB⟩:=hcut
  cases kq with
 |zero=>exact absurd HA.out (by simp [laws_FnShareServed.j0])
 |succ kj2 =>
   have H:=HA.out
   clear HA
   simp only [laws_FnShareServed.j0] at H
   by_cases c5:x23_2=true
   ·subst c5
    have H1:(some true)=some r:=by rw [if_pos rfl] at H;exact H
    clear H
    have H:=H1
    clear H1
    obtain rfl:=Option.some.inj H
    go_wp2
    repeat (go_quiet (fail);try go_wp2)
    go_ret
    exact ⟨by first|rfl|(simp [errW_none,errW_some] <;> rfl)|(simp [*,errW_none,errW_some] <;> rfl),by repeat (first|(with_reducible first|exact HB.out|apply oA|apply pN|apply o1)|exact HB.out)⟩
   replace c5:=Bool.eq_false_iff.mpr c5
   subst c5
   have H1:((spec_DrawQueueRun.f kj2 l0).bind fun bt333=>((impl_QueueRun.f kj2 bt333.1 bt333.2.1 (60 + ((l1.length:Int) % 40))).bind fun bt339=>((spec_QueueRun.f kj2 bt333.1 bt333.2.1 (60 + ((l1.length:Int) % 40))).bind fun bt348=>(if (bt339.2.2.2 != bt348.2.2.2)=true then (laws_FnShareServed.j1 kj2 bt339.2.2.1 bt339.2.2.2 bt348.2.2.1 bt348.2.2.2 true bt333.1 bt333.2.1 bt339.1 bt339.2.1 bt348.1 bt348.2.1) else ((laws_qdInts.f kj2 bt339.2.2.1 bt348.2.2.1).bind fun t357=>(if t357=true then ((laws_qdQueue.f kj2 bt339.1 bt339.2.1 bt348.1 bt348.2.1).bind fun t358=>(if t358=true then (laws_FnShareServed.j1 kj2 bt339.2.2.1 bt339.2.2.2 bt348.2.2.1 bt348.2.2.2 (!bt339.2.2.2) bt333.1 bt333.2.1 bt339.1 bt339.2.1 bt348.1 bt348.2.1) else (laws_FnShareServed.j1 kj2 bt339.2.2.1 bt339.2.2.2 bt348.2.2.1 bt348.2.2.2 true bt333.1 bt333.2.1 bt339.1 bt339.2.1 bt348.1 bt348.2.1))) else (laws_FnShareServed.j1 kj2 bt339.2.2.1 bt339.2.2.2 bt348.2.2.1 bt348.2.2.2 true bt333.1 bt333.2.1 bt339.1 bt339.2.1 bt348.1 bt348.2.1)))))))=some r:=by rw [if_neg (show ¬ (false=true) by decide)] at H;exact H
   clear H
   have H:=H1
   clear H1
   replace H:=oC H
   obtain ⟨⟨t333,t336,t337⟩,A60,H⟩:=H
   replace H:((impl_QueueRun.f kj2 t333 t336 (60 + ((l1.length:Int) % 40))).bind fun bt339=>((spec_QueueRun.f kj2 t333 t336 (60 + ((l1.length:Int) % 40))).bind fun bt348=>(if (bt339.2.2.2 != bt348.2.2.2)=true then (laws_FnShareServed.j1 kj2 bt339.2.2.1 bt339.2.2.2 bt348.2.2.1 bt348.2.2.2 true t333 t336 bt339.1 bt339.2.1 bt348.1 bt348.2.1) else ((laws_qdInts.f kj2 bt339.2.2.1 bt348.2.2.1).bind fun t357=>(if t357=true then ((laws_qdQueue.f kj2 bt339.1 bt339.2.1 bt348.1 bt348.2.1).bind fun t358=>(if t358=true then (laws_FnShareServed.j1 kj2 bt339.2.2.1 bt339.2.2.2 bt348.2.2.1 bt348.2.2.2 (!bt339.2.2.2) t333 t336 bt339.1 bt339.2.1 bt348.1 bt348.2.1) else (laws_FnShareServed.j1 kj2 bt339.2.2.1 bt339.2.2.2 bt348.2.2.1 bt348.2.2.2 true t333 t336 bt339.1 bt339.2.1 bt348.1 bt348.2.1))) else (laws_FnShareServed.j1 kj2 bt339.2.2.1 bt339.2.2.2 bt348.2.2.1 bt348.2.2.2 true t333 t336 bt339.1 bt339.2.1 bt348.1 bt348.2.1))))))=some r:=H
   have A6:=Am A60
   clear A60
   replace H:=oC H
   obtain ⟨⟨t339,t342,t343,t346⟩,A70,H⟩:=H
   replace H:((spec_QueueRun.f kj2 t333 t336 (60 + ((l1.length:Int) % 40))).bind fun bt348=>(if (t346 != bt348.2.2.2)=true then (laws_FnShareServed.j1 kj2 t343 t346 bt348.2.2.1 bt348.2.2.2 true t333 t336 t339 t342 bt348.1 bt348.2.1) else ((laws_qdInts.f kj2 t343 bt348.2.2.1).bind fun t357=>(if t357=true then ((laws_qdQueue.f kj2 t339 t342 bt348.1 bt348.2.1).bind fun t358=>(if t358=true then (laws_FnShareServed.j1 kj2 t343 t346 bt348.2.2.1 bt348.2.2.2 (!t346) t333 t336 t339 t342 bt348.1 bt348.2.1) else (laws_FnShareServed.j1 kj2 t343 t346 bt348.2.2.1 bt348.2.2.2 true t333 t336 t339 t342 bt348.1 bt348.2.1))) else (laws_FnShareServed.j1 kj2 t343 t346 bt348.2.2.1 bt348.2.2.2 true t333 t336 t339 t342 bt348.1 bt348.2.1)))))=some r:=H
   have A7:=Am A70
   clear A70
   replace H:=oC H
   obtain ⟨⟨t348,t351,t352,t355⟩,A80,H⟩:=H
   replace H:(if (t346 != t355)=true then (laws_FnShareServed.j1 kj2 t343 t346 t352 t355 true t333 t336 t339 t342 t348 t351) else ((laws_qdInts.f kj2 t343 t352).bind fun t357=>(if t357=true then ((laws_qdQueue.f kj2 t339 t342 t348 t351).bind fun t358=>(if t358=true then (laws_FnShareServed.j1 kj2 t343 t346 t352 t355 (!t346) t333 t336 t339 t342 t348 t351) else (laws_FnShareServed.j1 kj2 t343 t346 t352 t355 true t333 t336 t339 t342 t348 t351))) else (laws_FnShareServed.j1 kj2 t343 t346 t352 t355 true t333 t336 t339 t342 t348 t351))))=some r:=H
   have A8:=Am A80
   clear A80
   have HC9:=Am H
   clear H
   go_upto_region 6 with (first|(go_at_call 30;(with_reducible refine (spec_DrawQueueRun.calls kj2 _ _ l0 t333 t336 t337 _ ?side1 ?side2 A6.out).mono ?_);(case side1=>repeat (first|exact (cB HR0.out HB.out)|(with_reducible refine cA ?_ _)|(with_reducible refine cN ?_ _)|(with_reducible refine cD ?_)));(case side2=>exact HC0.out);rintro e w10 ⟨v334,rfl,ho0,hb⟩;have n0_:=Am (Kd.R_lower ho0 (bZ (by repeat (first|(with_reducible first|exact HB.out|apply oA|apply pN|apply o1)|exact HB.out))));have n1_:=Am (bP (by repeat (first|(with_reducible first|exact HB.out|apply oA|apply pN|apply o1)|exact HB.out)) hb);clear HB;revert n0_ n1_;intro Bg HB;(try clear hb);(try clear hb2);(try clear hk);(try clear hi);(try clear ho0))|((with_reducible refine gate_dst (N:=5) rfl ?_);(try (refine gate_guard (by rfl) ?_;dsimp only));refine box_event ?hg (N:=5) ?hd (cs:=#[.slice none 0 0,.int .i64 0]) (t:=25) ?hr ?_;(case hd=>rfl);(case hg=>rfl);(case hr=>first|(go_simp;done)|(go_simp;rfl));intro Bf hg w11 hbox hb;have n0_:=Am (rB (rL Bg.out) hb);have n1_:=Am (bP (by repeat (first|(with_reducible first|exact HB.out|apply oA|apply pN|apply o1)|exact HB.out)) hb);have n2_:=Am (hbox);have n3_:=Am ((by rw [hg];exact (bZ (by repeat (first|(with_reducible first|exact HB.out|apply oA|apply pN|apply o1)|exact HB.out))):w.heap.size≤Bf));have n4_:=Am ((by rw [hg];exact (bZ (by repeat (first|(with_reducible first|exact HB.out|apply oA|apply pN|apply o1)|exact HB.out))):w.heap.size≤Bf));clear Bg HB;revert n0_ n1_ n2_ n3_ n4_;intro Bg HB Bc Df Bj;clear hb hbox hg;obtain ⟨Ao12,co12,eo12⟩:=Kd.R_slice Bg.out;subst eo12;have BA:w11.cell? ⟨Bf,0,none⟩=some (.slice none 0 0):=(bC Bc.out 0).trans rfl;have BB:w11.cell? ⟨Bf,1,none⟩=some (.int .i64 0):=(bC Bc.out 1).trans rfl;have BC:=bF Bc.out 0;have BD:=bF Bc.out 1)|(go_at_call 19;(with_reducible refine (impl_QueueRun.calls kj2 _ _ t333 t336 (60 + ((l1.length:Int) % 40)) t339 t342 t343 t346 _ ?side1 ?side2 A7.out).mono ?_);(case side1=>refine (Kd.R_reads' (e:=40) (base:=w.heap.size) (ok:=fun k_=>True) (n:=t333.length) (c:=co12) ?_).2.2;exact (by (with_reducible repeat (first|apply rA|apply rN|apply rD));exact (rM (rF (p:=⟨Bf,1,none⟩) (rF (p:=⟨Bf,0,none⟩) (rT Bg.out Bc.out (by decide)) (fun _ hk=>hk.2) (.slice Ao12 t333.length co12)) (fun _ hk=>hk.2) (.int .i64 t336)) (fun _ h_=>h_.1))));(case side2=>exact (Kd.R_reads' Bg.out).2.1);rintro e w14 ⟨v340,v344,rfl,ho0,ho1,hb⟩;have n0_:=Am (Kd.R_elder' (by (with_reducible repeat (first|apply rA|apply rN|apply rD));exact (rM (rF (p:=⟨Bf,1,none⟩) (rF (p:=⟨Bf,0,none⟩) (rT Bg.out Bc.out (by decide)) (fun _ hk=>hk.2) (.slice Ao12 t333.length co12)) (fun _ hk=>hk.2) (.int .i64 t336)) (fun _ h_=>h_.1))) (Kd.R_base ho0) hb);have n1_:=Am (Kd.R_lower (Kd.R_new' ho0 (Kd.R_lt (by (with_reducible repeat (first|apply rA|apply rN|apply rD));exact (rM (rF (p:=⟨Bf,1,none⟩) (rF (p:=⟨Bf,0,none⟩) (rT Bg.out Bc.out (by decide)) (fun _ hk=>hk.2) (.slice Ao12 t333.length co12)) (fun _ hk=>hk.2) (.int .i64 t336)) (fun _ h_=>h_.1))))) (bZ (by repeat (first|(with_reducible first|exact HB.out|apply oA|apply pN|apply o1|refine bS ?_ Bj.out)|exact HB.out))));have n2_:=Am (Kd.R_lower ho1 (bZ (by repeat (first|(with_reducible first|exact HB.out|apply oA|apply pN|apply o1|refine bS ?_ Bj.out)|exact HB.out))));have n3_:=Am (bB (g:=Bf) (o:=.cells #[.slice Ao12 t333.length co12,.int .i64 t336] 25 (0,0)) (by (with_reducible repeat (first|refine bN ?_ _|refine bD ?_|refine bA ?_ _));refine blk_put (cs:=#[.slice Ao12 t333.length co12,.int .i64 0]) ?_ 1 _ rfl;(with_reducible repeat (first|refine bN ?_ _|refine bD ?_|refine bA ?_ _));refine blk_put (cs:=#[.slice none 0 0,.int .i64 0]) ?_ 0 _ rfl;(with_reducible repeat (first|refine bN ?_ _|refine bD ?_|refine bA ?_ _));exact Bc.out) hb);have n4_:=Am (bP (by repeat (first|(with_reducible first|exact HB.out|apply oA|apply pN|apply o1|refine bS ?_ Bj.out)|exact HB.out)) hb);clear Bg Bc HB;revert n0_ n1_ n2_ n3_ n4_;intro Bg Bi Bh Bc HB;(try clear hb);(try clear hb2);(try clear hk);(try clear hi);(try clear ho0);(try clear ho1))|((with_reducible refine gate_dst (N:=7) rfl ?_);(try (refine gate_guard (by rfl) ?_;dsimp only));refine box_event ?hg (N:=7) ?hd (cs:=#[.slice none 0 0,.int .i64 0]) (t:=25) ?hr ?_;(case hd=>rfl);(case hg=>rfl);(case hr=>first|(go_simp;done)|(go_simp;rfl));intro Be hg w15 hbox hb;have n0_:=Am (rB (rL Bg.out) hb);have n1_:=Am (rB (rL Bi.out) hb);have n2_:=Am (rB (rL Bh.out) hb);have n3_:=Am (bB (g:=Bf) (o:=.cells #[.slice Ao12 t333.length co12,.int .i64 t336] 25 (0,0)) (bL Bc.out) hb);have n4_:=Am (bP (by repeat (first|(with_reducible first|exact HB.out|apply oA|apply pN|apply o1|refine bS ?_ Bj.out)|exact HB.out)) hb);have n5_:=Am (hbox);have n6_:=Am ((by rw [hg];exact (bZ (by repeat (first|(with_reducible first|exact HB.out|apply oA|apply pN|apply o1|refine bS ?_ Bj.out)|exact HB.out))):w.heap.size≤Be));have n7_:=Am ((by rw [hg];exact (bZ (by repeat (first|(with_reducible first|exact HB.out|apply oA|apply pN|apply o1|refine bS ?_ Bj.out)|exact HB.out))):w.heap.size≤Be));have n8_:=Am ((by rw [hg];exact Nat.ne_of_lt (blk_lt (g:=Bf) (o:=.cells #[.slice Ao12 t333.length co12,.int .i64 t336] 25 (0,0)) (bL Bc.out)):Bf≠Be));have n9_:=Am ((by rw [hg];exact Nat.ne_of_gt (blk_lt (g:=Bf) (o:=.cells #[.slice Ao12 t333.length co12,.int .i64 t336] 25 (0,0)) (bL Bc.out)):Be≠Bf));clear Bg Bi Bh Bc HB;revert n0_ n1_ n2_ n3_ n4_ n5_ n6_ n7_ n8_ n9_;intro Bg Bi Bh Bc HB Bd Dg Br Bq Bt;clear hb hbox hg;obtain ⟨Ao16,co16,eo16⟩:=Kd.R_slice Bi.out;subst eo16;have Dh:=Bt.out;have Di:=Bq.out;have BE:w15.cell? ⟨Be,0,none⟩=some (.slice none 0 0):=(bC Bd.out 0).trans rfl;have BF:w15.cell? ⟨Be,1,none⟩=some (.int .i64 0):=(bC Bd.out 1).trans rfl;have BG:=bF Bd.out 0;have BH:=bF Bd.out 1;have BI:w15.cell? ⟨Bf,0,none⟩=some (.slice Ao12 t333.length co12):=(bC Bc.out 0).trans rfl;have BJ:w15.cell? ⟨Bf,1,none⟩=some (.int .i64 t336):=(bC Bc.out 1).trans rfl;have BK:=bF Bc.out 0;have BL:=bF Bc.out 1)|(go_at_call 31;(with_reducible refine (spec_QueueRun.calls kj2 _ _ t333 t336 (60 + ((l1.length:Int) % 40)) t348 t351 t352 t355 _ ?side1 ?side2 A8.out).mono ?_);(case side1=>refine (Kd.R_reads' (e:=40) (base:=w.heap.size) (ok:=fun k_=>(True∧some k_≠(.slice Ao16 t339.length co16:Value).ownBlock)) (n:=t333.length) (c:=co12) ?_).2.2;exact (by (with_reducible repeat (first|apply rA|apply rN|apply rD));exact (rM (rF (p:=⟨Be,1,none⟩) (rF (p:=⟨Be,0,none⟩) (rT Bg.out Bd.out (by decide)) (fun _ hk=>hk.2) (.slice Ao16 t339.length co16)) (fun _ hk=>hk.2) (.int .i64 t342)) (fun _ h_=>h_.1))));(case side2=>exact (Kd.R_reads' Bg.out).2.1);rintro e w20 ⟨v349,v353,rfl,ho0,ho1,hb⟩;have n0_:=Am (Kd.R_elder' (by (with_reducible repeat (first|apply rA|apply rN|apply rD));exact (rM (rF (p:=⟨Be,1,none⟩) (rF (p:=⟨Be,0,none⟩) (rT Bg.out Bd.out (by decide)) (fun _ hk=>hk.2) (.slice Ao16 t339.length co16)) (fun _ hk=>hk.2) (.int .i64 t342)) (fun _ h_=>h_.1))) (Kd.R_base ho0) hb);have n1_:=Am (Kd.R_elder' (by (with_reducible repeat (first|apply rA|apply rN|apply rD));exact (rM (rF (p:=⟨Be,1,none⟩) (rF (p:=⟨Be,0,none⟩) (rT Bi.out Bd.out (by decide)) (fun _ hk=>hk.2) (.slice Ao16 t339.length co16)) (fun _ hk=>hk.2) (.int .i64 t342)) (fun _ h_=>h_.1))) (Kd.R_base ho0) hb);have n2_:=Am (Kd.R_elder' (by (with_reducible repeat (first|apply rA|apply rN|apply rD));exact (rM (rF (p:=⟨Be,1,none⟩) (rF (p:=⟨Be,0,none⟩) (rT Bh.out Bd.out (by decide)) (fun _ hk=>hk.2) (.slice Ao16 t339.length co16)) (fun _ hk=>hk.2) (.int .i64 t342)) (fun _ h_=>h_.1))) (Kd.R_base ho1) hb);have n3_:=Am (Kd.R_lower (Kd.R_new' (Kd.R_new' ho0 (Kd.R_lt (by (with_reducible repeat (first|apply rA|apply rN|apply rD));exact (rM (rF (p:=⟨Be,1,none⟩) (rF (p:=⟨Be,0,none⟩) (rT Bg.out Bd.out (by decide)) (fun _ hk=>hk.2) (.slice Ao16 t339.length co16)) (fun _ hk=>hk.2) (.int .i64 t342)) (fun _ h_=>h_.1))))) (Kd.R_lt (by (with_reducible repeat (first|apply rA|apply rN|apply rD));exact (rM (rF (p:=⟨Be,1,none⟩) (rF (p:=⟨Be,0,none⟩) (rT Bi.out Bd.out (by decide)) (fun _ hk=>hk.2) (.slice Ao16 t339.length co16)) (fun _ hk=>hk.2) (.int .i64 t342)) (fun _ h_=>h_.1))))) (bZ (by repeat (first|(with_reducible first|exact HB.out|apply oA|apply pN|apply o1|refine bS ?_ Bj.out|refine bS ?_ Br.out)|exact HB.out))));have n4_:=Am (Kd.R_lower (Kd.R_new' ho1 (Kd.R_lt (by (with_reducible repeat (first|apply rA|apply rN|apply rD));exact (rM (rF (p:=⟨Be,1,none⟩) (rF (p:=⟨Be,0,none⟩) (rT Bh.out Bd.out (by decide)) (fun _ hk=>hk.2) (.slice Ao16 t339.length co16)) (fun _ hk=>hk.2) (.int .i64 t342)) (fun _ h_=>h_.1))))) (bZ (by repeat (first|(with_reducible first|exact HB.out|apply oA|apply pN|apply o1|refine bS ?_ Bj.out|refine bS ?_ Br.out)|exact HB.out))));have n5_:=Am (bB (g:=Bf) (o:=.cells #[.slice Ao12 t333.length co12,.int .i64 t336] 25 (0,0)) (by (with_reducible repeat (first|refine bN ?_ _|refine bD ?_|refine bA ?_ _|refine blk_far ?_ Bq.out _));exact Bc.out) hb);have n6_:=Am (bB (g:=Be) (o:=.cells #[.slice Ao16 t339.length co16,.int .i64 t342] 25 (0,0)) (by (with_reducible repeat (first|refine bN ?_ _|refine bD ?_|refine bA ?_ _));refine blk_put (cs:=#[.slice Ao16 t339.length co16,.int .i64 0]) ?_ 1 _ rfl;(with_reducible repeat (first|refine bN ?_ _|refine bD ?_|refine bA ?_ _));refine blk_put (cs:=#[.slice none 0 0,.int .i64 0]) ?_ 0 _ rfl;(with_reducible repeat (first|refine bN ?_ _|refine bD ?_|refine bA ?_ _));exact Bd.out) hb);have n7_:=Am (bP (by repeat (first|(with_reducible first|exact HB.out|apply oA|apply pN|apply o1|refine bS ?_ Bj.out|refine bS ?_ Br.out)|exact HB.out)) hb);clear Bg Bi Bh Bc Bd HB;revert n0_ n1_ n2_ n3_ n4_ n5_ n6_ n7_;intro Bg Bi Bh Bm Bk Bc Bd HB;(try clear hb);(try clear hb2);(try clear hk);(try clear hi);(try clear ho0);(try clear ho1))|((with_reducible refine gate_dst (N:=10) rfl ?_);(try (refine gate_guard (by rfl) ?_;dsimp only));refine box_event ?hg (N:=10) ?hd (cs:=#[.slice none 0 0,.int .i64 0]) (t:=25) ?hr ?_;(case hd=>rfl);(case hg=>rfl);(case hr=>first|(go_simp;done)|(go_simp;rfl));intro Ba hg w21 hbox hb;have n0_:=Am (rB (rL Bg.out) hb);have n1_:=Am (rB (rL Bi.out) hb);have n2_:=Am (rB (rL Bh.out) hb);have n3_:=Am (rB (rL Bm.out) hb);have n4_:=Am (rB (rL Bk.out) hb);have n5_:=Am (bB (g:=Bf) (o:=.cells #[.slice Ao12 t333.length co12,.int .i64 t336] 25 (0,0)) (bL Bc.out) hb);have n6_:=Am (bB (g:=Be) (o:=.cells #[.slice Ao16 t339.length co16,.int .i64 t342] 25 (0,0)) (bL Bd.out) hb);have n7_:=Am (bP (by repeat (first|(with_reducible first|exact HB.out|apply oA|apply pN|apply o1|refine bS ?_ Bj.out|refine bS ?_ Br.out)|exact HB.out)) hb);have n8_:=Am (hbox);have n9_:=Am ((by rw [hg];exact (bZ (by repeat (first|(with_reducible first|exact HB.out|apply oA|apply pN|apply o1|refine bS ?_ Bj.out|refine bS ?_ Br.out)|exact HB.out))):w.heap.size≤Ba));have n10_:=Am ((by rw [hg];exact (bZ (by repeat (first|(with_reducible first|exact HB.out|apply oA|apply pN|apply o1|refine bS ?_ Bj.out|refine bS ?_ Br.out)|exact HB.out))):w.heap.size≤Ba));have n11_:=Am ((by rw [hg];exact Nat.ne_of_lt (blk_lt (g:=Bf) (o:=.cells #[.slice Ao12 t333.length co12,.int .i64 t336] 25 (0,0)) (bL Bc.out)):Bf≠Ba));have n12_:=Am ((by rw [hg];exact Nat.ne_of_gt (blk_lt (g:=Bf) (o:=.cells #[.slice Ao12 t333.length co12,.int .i64 t336] 25 (0,0)) (bL Bc.out)):Ba≠Bf));have n13_:=Am ((by rw [hg];exact Nat.ne_of_lt (blk_lt (g:=Be) (o:=.cells #[.slice Ao16 t339.length co16,.int .i64 t342] 25 (0,0)) (bL Bd.out)):Be≠Ba));have n14_:=Am ((by rw [hg];exact Nat.ne_of_gt (blk_lt (g:=Be) (o:=.cells #[.slice Ao16 t339.length co16,.int .i64 t342] 25 (0,0)) (bL Bd.out)):Ba≠Be));clear Bg Bi Bh Bm Bk Bc Bd HB;revert n0_ n1_ n2_ n3_ n4_ n5_ n6_ n7_ n8_ n9_ n10_ n11_ n12_ n13_ n14_;intro Bg Bi Bh Bm Bk Bc Bd HB Bb Dj Bx Bl Bu Bs Bv;clear hb hbox hg;obtain ⟨Ao22,co22,eo22⟩:=Kd.R_slice Bm.out;subst eo22;have Dk:=Bu.out;have Dl:=Bl.out;have Dm:=Bv.out;have Dn:=Bs.out;have BM:w21.cell? ⟨Ba,0,none⟩=some (.slice none 0 0):=(bC Bb.out 0).trans rfl;have BN:w21.cell? ⟨Ba,1,none⟩=some (.int .i64 0):=(bC Bb.out 1).trans rfl;have BO:=bF Bb.out 0;have BP:=bF Bb.out 1))
   repeat (go_quiet (first|(go_at_call 30;(with_reducible refine (spec_DrawQueueRun.calls kj2 _ _ l0 t333 t336 t337 _ ?side1 ?side2 A6.out).mono ?_);(case side1=>repeat (first|exact (cB HR0.out HB.out)|(with_reducible refine cA ?_ _)|(with_reducible refine cN ?_ _)|(with_reducible refine cD ?_)));(case side2=>exact HC0.out);rintro e w10 ⟨v334,rfl,ho0,hb⟩;have n0_:=Am (Kd.R_lower ho0 (bZ (by repeat (first|(with_reducible first|exact HB.out|apply oA|apply pN|apply o1)|exact HB.out))));have n1_:=Am (bP (by repeat (first|(with_reducible first|exact HB.out|apply oA|apply pN|apply o1)|exact HB.out)) hb);clear HB;revert n0_ n1_;intro Bg HB;(try clear hb);(try clear hb2);(try clear hk);(try clear hi);(try clear ho0))|((with_reducible refine gate_dst (N:=5) rfl ?_);(try (refine gate_guard (by rfl) ?_;dsimp only));refine box_event ?hg (N:=5) ?hd (cs:=#[.slice none 0 0,.int .i64 0]) (t:=25) ?hr ?_;(case hd=>rfl);(case hg=>rfl);(case hr=>first|(go_simp;done)|(go_simp;rfl));intro Bf hg w11 hbox hb;have n0_:=Am (rB (rL Bg.out) hb);have n1_:=Am (bP (by repeat (first|(with_reducible first|exact HB.out|apply oA|apply pN|apply o1)|exact HB.out)) hb);have n2_:=Am (hbox);have n3_:=Am ((by rw [hg];exact (bZ (by repeat (first|(with_reducible first|exact HB.out|apply oA|apply pN|apply o1)|exact HB.out))):w.heap.size≤Bf));have n4_:=Am ((by rw [hg];exact (bZ (by repeat (first|(with_reducible first|exact HB.out|apply oA|apply pN|apply o1)|exact HB.out))):w.heap.size≤Bf));clear Bg HB;revert n0_ n1_ n2_ n3_ n4_;intro Bg HB Bc Df Bj;clear hb hbox hg;obtain ⟨Ao12,co12,eo12⟩:=Kd.R_slice Bg.out;subst eo12;have BA:w11.cell? ⟨Bf,0,none⟩=some (.slice none 0 0):=(bC Bc.out 0).trans rfl;have BB:w11.cell? ⟨Bf,1,none⟩=some (.int .i64 0):=(bC Bc.out 1).trans rfl;have BC:=bF Bc.out 0;have BD:=bF Bc.out 1)|(go_at_call 19;(with_reducible refine (impl_QueueRun.calls kj2 _ _ t333 t336 (60 + ((l1.length:Int) % 40)) t339 t342 t343 t346 _ ?side1 ?side2 A7.out).mono ?_);(case side1=>refine (Kd.R_reads' (e:=40) (base:=w.heap.size) (ok:=fun k_=>True) (n:=t333.length) (c:=co12) ?_).2.2;exact (by (with_reducible repeat (first|apply rA|apply rN|apply rD));exact (rM (rF (p:=⟨Bf,1,none⟩) (rF (p:=⟨Bf,0,none⟩) (rT Bg.out Bc.out (by decide)) (fun _ hk=>hk.2) (.slice Ao12 t333.length co12)) (fun _ hk=>hk.2) (.int .i64 t336)) (fun _ h_=>h_.1))));(case side2=>exact (Kd.R_reads' Bg.out).2.1);rintro e w14 ⟨v340,v344,rfl,ho0,ho1,hb⟩;have n0_:=Am (Kd.R_elder' (by (with_reducible repeat (first|apply rA|apply rN|apply rD));exact (rM (rF (p:=⟨Bf,1,none⟩) (rF (p:=⟨Bf,0,none⟩) (rT Bg.out Bc.out (by decide)) (fun _ hk=>hk.2) (.slice Ao12 t333.length co12)) (fun _ hk=>hk.2) (.int .i64 t336)) (fun _ h_=>h_.1))) (Kd.R_base ho0) hb);have n1_:=Am (Kd.R_lower (Kd.R_new' ho0 (Kd.R_lt (by (with_reducible repeat (first|apply rA|apply rN|apply rD));exact (rM (rF (p:=⟨Bf,1,none⟩) (rF (p:=⟨Bf,0,none⟩) (rT Bg.out Bc.out (by decide)) (fun _ hk=>hk.2) (.slice Ao12 t333.length co12)) (fun _ hk=>hk.2) (.int .i64 t336)) (fun _ h_=>h_.1))))) (bZ (by repeat (first|(with_reducible first|exact HB.out|apply oA|apply pN|apply o1|refine bS ?_ Bj.out)|exact HB.out))));have n2_:=Am (Kd.R_lower ho1 (bZ (by repeat (first|(with_reducible first|exact HB.out|apply oA|apply pN|apply o1|refine bS ?_ Bj.out)|exact HB.out))));have n3_:=Am (bB (g:=Bf) (o:=.cells #[.slice Ao12 t333.length co12,.int .i64 t336] 25 (0,0)) (by (with_reducible repeat (first|refine bN ?_ _|refine bD ?_|refine bA ?_ _));refine blk_put (cs:=#[.slice Ao12 t333.length co12,.int .i64 0]) ?_ 1 _ rfl;(with_reducible repeat (first|refine bN ?_ _|refine bD ?_|refine bA ?_ _));refine blk_put (cs:=#[.slice none 0 0,.int .i64 0]) ?_ 0 _ rfl;(with_reducible repeat (first|refine bN ?_ _|refine bD ?_|refine bA ?_ _));exact Bc.out) hb);have n4_:=Am (bP (by repeat (first|(with_reducible first|exact HB.out|apply oA|apply pN|apply o1|refine bS ?_ Bj.out)|exact HB.out)) hb);clear Bg Bc HB;revert n0_ n1_ n2_ n3_ n4_;intro Bg Bi Bh Bc HB;(try clear hb);(try clear hb2);(try clear hk);(try clear hi);(try clear ho0);(try clear ho1))|((with_reducible refine gate_dst (N:=7) rfl ?_);(try (refine gate_guard (by rfl) ?_;dsimp only));refine box_event ?hg (N:=7) ?hd (cs:=#[.slice none 0 0,.int .i64 0]) (t:=25) ?hr ?_;(case hd=>rfl);(case hg=>rfl);(case hr=>first|(go_simp;done)|(go_simp;rfl));intro Be hg w15 hbox hb;have n0_:=Am (rB (rL Bg.out) hb);have n1_:=Am (rB (rL Bi.out) hb);have n2_:=Am (rB (rL Bh.out) hb);have n3_:=Am (bB (g:=Bf) (o:=.cells #[.slice Ao12 t333.length co12,.int .i64 t336] 25 (0,0)) (bL Bc.out) hb);have n4_:=Am (bP (by repeat (first|(with_reducible first|exact HB.out|apply oA|apply pN|apply o1|refine bS ?_ Bj.out)|exact HB.out)) hb);have n5_:=Am (hbox);have n6_:=Am ((by rw [hg];exact (bZ (by repeat (first|(with_reducible first|exact HB.out|apply oA|apply pN|apply o1|refine bS ?_ Bj.out)|exact HB.out))):w.heap.size≤Be));have n7_:=Am ((by rw [hg];exact (bZ (by repeat (first|(with_reducible first|exact HB.out|apply oA|apply pN|apply o1|refine bS ?_ Bj.out)|exact HB.out))):w.heap.size≤Be));have n8_:=Am ((by rw [hg];exact Nat.ne_of_lt (blk_lt (g:=Bf) (o:=.cells #[.slice Ao12 t333.length co12,.int .i64 t336] 25 (0,0)) (bL Bc.out)):Bf≠Be));have n9_:=Am ((by rw [hg];exact Nat.ne_of_gt (blk_lt (g:=Bf) (o:=.cells #[.slice Ao12 t333.length co12,.int .i64 t336] 25 (0,0)) (bL Bc.out)):Be≠Bf));clear Bg Bi Bh Bc HB;revert n0_ n1_ n2_ n3_ n4_ n5_ n6_ n7_ n8_ n9_;intro Bg Bi Bh Bc HB Bd Dg Br Bq Bt;clear hb hbox hg;obtain ⟨Ao16,co16,eo16⟩:=Kd.R_slice Bi.out;subst eo16;have Dh:=Bt.out;have Di:=Bq.out;have BE:w15.cell? ⟨Be,0,none⟩=some (.slice none 0 0):=(bC Bd.out 0).trans rfl;have BF:w15.cell? ⟨Be,1,none⟩=some (.int .i64 0):=(bC Bd.out 1).trans rfl;have BG:=bF Bd.out 0;have BH:=bF Bd.out 1;have BI:w15.cell? ⟨Bf,0,none⟩=some (.slice Ao12 t333.length co12):=(bC Bc.out 0).trans rfl;have BJ:w15.cell? ⟨Bf,1,none⟩=some (.int .i64 t336):=(bC Bc.out 1).trans rfl;have BK:=bF Bc.out 0;have BL:=bF Bc.out 1)|(go_at_call 31;(with_reducible refine (spec_QueueRun.calls kj2 _ _ t333 t336 (60 + ((l1.length:Int) % 40)) t348 t351 t352 t355 _ ?side1 ?side2 A8.out).mono ?_);(case side1=>refine (Kd.R_reads' (e:=40) (base:=w.heap.size) (ok:=fun k_=>(True∧some k_≠(.slice Ao16 t339.length co16:Value).ownBlock)) (n:=t333.length) (c:=co12) ?_).2.2;exact (by (with_reducible repeat (first|apply rA|apply rN|apply rD));exact (rM (rF (p:=⟨Be,1,none⟩) (rF (p:=⟨Be,0,none⟩) (rT Bg.out Bd.out (by decide)) (fun _ hk=>hk.2) (.slice Ao16 t339.length co16)) (fun _ hk=>hk.2) (.int .i64 t342)) (fun _ h_=>h_.1))));(case side2=>exact (Kd.R_reads' Bg.out).2.1);rintro e w20 ⟨v349,v353,rfl,ho0,ho1,hb⟩;have n0_:=Am (Kd.R_elder' (by (with_reducible repeat (first|apply rA|apply rN|apply rD));exact (rM (rF (p:=⟨Be,1,none⟩) (rF (p:=⟨Be,0,none⟩) (rT Bg.out Bd.out (by decide)) (fun _ hk=>hk.2) (.slice Ao16 t339.length co16)) (fun _ hk=>hk.2) (.int .i64 t342)) (fun _ h_=>h_.1))) (Kd.R_base ho0) hb);have n1_:=Am (Kd.R_elder' (by (with_reducible repeat (first|apply rA|apply rN|apply rD));exact (rM (rF (p:=⟨Be,1,none⟩) (rF (p:=⟨Be,0,none⟩) (rT Bi.out Bd.out (by decide)) (fun _ hk=>hk.2) (.slice Ao16 t339.length co16)) (fun _ hk=>hk.2) (.int .i64 t342)) (fun _ h_=>h_.1))) (Kd.R_base ho0) hb);have n2_:=Am (Kd.R_elder' (by (with_reducible repeat (first|apply rA|apply rN|apply rD));exact (rM (rF (p:=⟨Be,1,none⟩) (rF (p:=⟨Be,0,none⟩) (rT Bh.out Bd.out (by decide)) (fun _ hk=>hk.2) (.slice Ao16 t339.length co16)) (fun _ hk=>hk.2) (.int .i64 t342)) (fun _ h_=>h_.1))) (Kd.R_base ho1) hb);have n3_:=Am (Kd.R_lower (Kd.R_new' (Kd.R_new' ho0 (Kd.R_lt (by (with_reducible repeat (first|apply rA|apply rN|apply rD));exact (rM (rF (p:=⟨Be,1,none⟩) (rF (p:=⟨Be,0,none⟩) (rT Bg.out Bd.out (by decide)) (fun _ hk=>hk.2) (.slice Ao16 t339.length co16)) (fun _ hk=>hk.2) (.int .i64 t342)) (fun _ h_=>h_.1))))) (Kd.R_lt (by (with_reducible repeat (first|apply rA|apply rN|apply rD));exact (rM (rF (p:=⟨Be,1,none⟩) (rF (p:=⟨Be,0,none⟩) (rT Bi.out Bd.out (by decide)) (fun _ hk=>hk.2) (.slice Ao16 t339.length co16)) (fun _ hk=>hk.2) (.int .i64 t342)) (fun _ h_=>h_.1))))) (bZ (by repeat (first|(with_reducible first|exact HB.out|apply oA|apply pN|apply o1|refine bS ?_ Bj.out|refine bS ?_ Br.out)|exact HB.out))));have n4_:=Am (Kd.R_lower (Kd.R_new' ho1 (Kd.R_lt (by (with_reducible repeat (first|apply rA|apply rN|apply rD));exact (rM (rF (p:=⟨Be,1,none⟩) (rF (p:=⟨Be,0,none⟩) (rT Bh.out Bd.out (by decide)) (fun _ hk=>hk.2) (.slice Ao16 t339.length co16)) (fun _ hk=>hk.2) (.int .i64 t342)) (fun _ h_=>h_.1))))) (bZ (by repeat (first|(with_reducible first|exact HB.out|apply oA|apply pN|apply o1|refine bS ?_ Bj.out|refine bS ?_ Br.out)|exact HB.out))));have n5_:=Am (bB (g:=Bf) (o:=.cells #[.slice Ao12 t333.length co12,.int .i64 t336] 25 (0,0)) (by (with_reducible repeat (first|refine bN ?_ _|refine bD ?_|refine bA ?_ _|refine blk_far ?_ Bq.out _));exact Bc.out) hb);have n6_:=Am (bB (g:=Be) (o:=.cells #[.slice Ao16 t339.length co16,.int .i64 t342] 25 (0,0)) (by (with_reducible repeat (first|refine bN ?_ _|refine bD ?_|refine bA ?_ _));refine blk_put (cs:=#[.slice Ao16 t339.length co16,.int .i64 0]) ?_ 1 _ rfl;(with_reducible repeat (first|refine bN ?_ _|refine bD ?_|refine bA ?_ _));refine blk_put (cs:=#[.slice none 0 0,.int .i64 0]) ?_ 0 _ rfl;(with_reducible repeat (first|refine bN ?_ _|refine bD ?_|refine bA ?_ _));exact Bd.out) hb);have n7_:=Am (bP (by repeat (first|(with_reducible first|exact HB.out|apply oA|apply pN|apply o1|refine bS ?_ Bj.out|refine bS ?_ Br.out)|exact HB.out)) hb);clear Bg Bi Bh Bc Bd HB;revert n0_ n1_ n2_ n3_ n4_ n5_ n6_ n7_;intro Bg Bi Bh Bm Bk Bc Bd HB;(try clear hb);(try clear hb2);(try clear hk);(try clear hi);(try clear ho0);(try clear ho1))|((with_reducible refine gate_dst (N:=10) rfl ?_);(try (refine gate_guard (by rfl) ?_;dsimp only));refine box_event ?hg (N:=10) ?hd (cs:=#[.slice none 0 0,.int .i64 0]) (t:=25) ?hr ?_;(case hd=>rfl);(case hg=>rfl);(case hr=>first|(go_simp;done)|(go_simp;rfl));intro Ba hg w21 hbox hb;have n0_:=Am (rB (rL Bg.out) hb);have n1_:=Am (rB (rL Bi.out) hb);have n2_:=Am (rB (rL Bh.out) hb);have n3_:=Am (rB (rL Bm.out) hb);have n4_:=Am (rB (rL Bk.out) hb);have n5_:=Am (bB (g:=Bf) (o:=.cells #[.slice Ao12 t333.length co12,.int .i64 t336] 25 (0,0)) (bL Bc.out) hb);have n6_:=Am (bB (g:=Be) (o:=.cells #[.slice Ao16 t339.length co16,.int .i64 t342] 25 (0,0)) (bL Bd.out) hb);have n7_:=Am (bP (by repeat (first|(with_reducible first|exact HB.out|apply oA|apply pN|apply o1|refine bS ?_ Bj.out|refine bS ?_ Br.out)|exact HB.out)) hb);have n8_:=Am (hbox);have n9_:=Am ((by rw [hg];exact (bZ (by repeat (first|(with_reducible first|exact HB.out|apply oA|apply pN|apply o1|refine bS ?_ Bj.out|refine bS ?_ Br.out)|exact HB.out))):w.heap.size≤Ba));have n10_:=Am ((by rw [hg];exact (bZ (by repeat (first|(with_reducible first|exact HB.out|apply oA|apply pN|apply o1|refine bS ?_ Bj.out|refine bS ?_ Br.out)|exact HB.out))):w.heap.size≤Ba));have n11_:=Am ((by rw [hg];exact Nat.ne_of_lt (blk_lt (g:=Bf) (o:=.cells #[.slice Ao12 t333.length co12,.int .i64 t336] 25 (0,0)) (bL Bc.out)):Bf≠Ba));have n12_:=Am ((by rw [hg];exact Nat.ne_of_gt (blk_lt (g:=Bf) (o:=.cells #[.slice Ao12 t333.length co12,.int .i64 t336] 25 (0,0)) (bL Bc.out)):Ba≠Bf));have n13_:=Am ((by rw [hg];exact Nat.ne_of_lt (blk_lt (g:=Be) (o:=.cells #[.slice Ao16 t339.length co16,.int .i64 t342] 25 (0,0)) (bL Bd.out)):Be≠Ba));have n14_:=Am ((by rw [hg];exact Nat.ne_of_gt (blk_lt (g:=Be) (o:=.cells #[.slice Ao16 t339.length co16,.int .i64 t342] 25 (0,0)) (bL Bd.out)):Ba≠Be));clear Bg Bi Bh Bm Bk Bc Bd HB;revert n0_ n1_ n2_ n3_ n4_ n5_ n6_ n7_ n8_ n9_ n10_ n11_ n12_ n13_ n14_;intro Bg Bi Bh Bm Bk Bc Bd HB Bb Dj Bx Bl Bu Bs Bv;clear hb hbox hg;obtain ⟨Ao22,co22,eo22⟩:=Kd.R_slice Bm.out;subst eo22;have Dk:=Bu.out;have Dl:=Bl.out;have Dm:=Bv.out;have Dn:=Bs.out;have BM:w21.cell? ⟨Ba,0,none⟩=some (.slice none 0 0):=(bC Bb.out 0).trans rfl;have BN:w21.cell? ⟨Ba,1,none⟩=some (.int .i64 0):=(bC Bb.out 1).trans rfl;have BO:=bF Bb.out 0;have BP:=bF Bb.out 1));go_upto_region 6 with (first|(go_at_call 30;(with_reducible refine (spec_DrawQueueRun.calls kj2 _ _ l0 t333 t336 t337 _ ?side1 ?side2 A6.out).mono ?_);(case side1=>repeat (first|exact (cB HR0.out HB.out)|(with_reducible refine cA ?_ _)|(with_reducible refine cN ?_ _)|(with_reducible refine cD ?_)));(case side2=>exact HC0.out);rintro e w10 ⟨v334,rfl,ho0,hb⟩;have n0_:=Am (Kd.R_lower ho0 (bZ (by repeat (first|(with_reducible first|exact HB.out|apply oA|apply pN|apply o1)|exact HB.out))));have n1_:=Am (bP (by repeat (first|(with_reducible first|exact HB.out|apply oA|apply pN|apply o1)|exact HB.out)) hb);clear HB;revert n0_ n1_;intro Bg HB;(try clear hb);(try clear hb2);(try clear hk);(try clear hi);(try clear ho0))|((with_reducible refine gate_dst (N:=5) rfl ?_);(try (refine gate_guard (by rfl) ?_;dsimp only));refine box_event ?hg (N:=5) ?hd (cs:=#[.slice none 0 0,.int .i64 0]) (t:=25) ?hr ?_;(case hd=>rfl);(case hg=>rfl);(case hr=>first|(go_simp;done)|(go_simp;rfl));intro Bf hg w11 hbox hb;have n0_:=Am (rB (rL Bg.out) hb);have n1_:=Am (bP (by repeat (first|(with_reducible first|exact HB.out|apply oA|apply pN|apply o1)|exact HB.out)) hb);have n2_:=Am (hbox);have n3_:=Am ((by rw [hg];exact (bZ (by repeat (first|(with_reducible first|exact HB.out|apply oA|apply pN|apply o1)|exact HB.out))):w.heap.size≤Bf));have n4_:=Am ((by rw [hg];exact (bZ (by repeat (first|(with_reducible first|exact HB.out|apply oA|apply pN|apply o1)|exact HB.out))):w.heap.size≤Bf));clear Bg HB;revert n0_ n1_ n2_ n3_ n4_;intro Bg HB Bc Df Bj;clear hb hbox hg;obtain ⟨Ao12,co12,eo12⟩:=Kd.R_slice Bg.out;subst eo12;have BA:w11.cell? ⟨Bf,0,none⟩=some (.slice none 0 0):=(bC Bc.out 0).trans rfl;have BB:w11.cell? ⟨Bf,1,none⟩=some (.int .i64 0):=(bC Bc.out 1).trans rfl;have BC:=bF Bc.out 0;have BD:=bF Bc.out 1)|(go_at_call 19;(with_reducible refine (impl_QueueRun.calls kj2 _ _ t333 t336 (60 + ((l1.length:Int) % 40)) t339 t342 t343 t346 _ ?side1 ?side2 A7.out).mono ?_);(case side1=>refine (Kd.R_reads' (e:=40) (base:=w.heap.size) (ok:=fun k_=>True) (n:=t333.length) (c:=co12) ?_).2.2;exact (by (with_reducible repeat (first|apply rA|apply rN|apply rD));exact (rM (rF (p:=⟨Bf,1,none⟩) (rF (p:=⟨Bf,0,none⟩) (rT Bg.out Bc.out (by decide)) (fun _ hk=>hk.2) (.slice Ao12 t333.length co12)) (fun _ hk=>hk.2) (.int .i64 t336)) (fun _ h_=>h_.1))));(case side2=>exact (Kd.R_reads' Bg.out).2.1);rintro e w14 ⟨v340,v344,rfl,ho0,ho1,hb⟩;have n0_:=Am (Kd.R_elder' (by (with_reducible repeat (first|apply rA|apply rN|apply rD));exact (rM (rF (p:=⟨Bf,1,none⟩) (rF (p:=⟨Bf,0,none⟩) (rT Bg.out Bc.out (by decide)) (fun _ hk=>hk.2) (.slice Ao12 t333.length co12)) (fun _ hk=>hk.2) (.int .i64 t336)) (fun _ h_=>h_.1))) (Kd.R_base ho0) hb);have n1_:=Am (Kd.R_lower (Kd.R_new' ho0 (Kd.R_lt (by (with_reducible repeat (first|apply rA|apply rN|apply rD));exact (rM (rF (p:=⟨Bf,1,none⟩) (rF (p:=⟨Bf,0,none⟩) (rT Bg.out Bc.out (by decide)) (fun _ hk=>hk.2) (.slice Ao12 t333.length co12)) (fun _ hk=>hk.2) (.int .i64 t336)) (fun _ h_=>h_.1))))) (bZ (by repeat (first|(with_reducible first|exact HB.out|apply oA|apply pN|apply o1|refine bS ?_ Bj.out)|exact HB.out))));have n2_:=Am (Kd.R_lower ho1 (bZ (by repeat (first|(with_reducible first|exact HB.out|apply oA|apply pN|apply o1|refine bS ?_ Bj.out)|exact HB.out))));have n3_:=Am (bB (g:=Bf) (o:=.cells #[.slice Ao12 t333.length co12,.int .i64 t336] 25 (0,0)) (by (with_reducible repeat (first|refine bN ?_ _|refine bD ?_|refine bA ?_ _));refine blk_put (cs:=#[.slice Ao12 t333.length co12,.int .i64 0]) ?_ 1 _ rfl;(with_reducible repeat (first|refine bN ?_ _|refine bD ?_|refine bA ?_ _));refine blk_put (cs:=#[.slice none 0 0,.int .i64 0]) ?_ 0 _ rfl;(with_reducible repeat (first|refine bN ?_ _|refine bD ?_|refine bA ?_ _));exact Bc.out) hb);have n4_:=Am (bP (by repeat (first|(with_reducible first|exact HB.out|apply oA|apply pN|apply o1|refine bS ?_ Bj.out)|exact HB.out)) hb);clear Bg Bc HB;revert n0_ n1_ n2_ n3_ n4_;intro Bg Bi Bh Bc HB;(try clear hb);(try clear hb2);(try clear hk);(try clear hi);(try clear ho0);(try clear ho1))|((with_reducible refine gate_dst (N:=7) rfl ?_);(try (refine gate_guard (by rfl) ?_;dsimp only));refine box_event ?hg (N:=7) ?hd (cs:=#[.slice none 0 0,.int .i64 0]) (t:=25) ?hr ?_;(case hd=>rfl);(case hg=>rfl);(case hr=>first|(go_simp;done)|(go_simp;rfl));intro Be hg w15 hbox hb;have n0_:=Am (rB (rL Bg.out) hb);have n1_:=Am (rB (rL Bi.out) hb);have n2_:=Am (rB (rL Bh.out) hb);have n3_:=Am (bB (g:=Bf) (o:=.cells #[.slice Ao12 t333.length co12,.int .i64 t336] 25 (0,0)) (bL Bc.out) hb);have n4_:=Am (bP (by repeat (first|(with_reducible first|exact HB.out|apply oA|apply pN|apply o1|refine bS ?_ Bj.out)|exact HB.out)) hb);have n5_:=Am (hbox);have n6_:=Am ((by rw [hg];exact (bZ (by repeat (first|(with_reducible first|exact HB.out|apply oA|apply pN|apply o1|refine bS ?_ Bj.out)|exact HB.out))):w.heap.size≤Be));have n7_:=Am ((by rw [hg];exact (bZ (by repeat (first|(with_reducible first|exact HB.out|apply oA|apply pN|apply o1|refine bS ?_ Bj.out)|exact HB.out))):w.heap.size≤Be));have n8_:=Am ((by rw [hg];exact Nat.ne_of_lt (blk_lt (g:=Bf) (o:=.cells #[.slice Ao12 t333.length co12,.int .i64 t336] 25 (0,0)) (bL Bc.out)):Bf≠Be));have n9_:=Am ((by rw [hg];exact Nat.ne_of_gt (blk_lt (g:=Bf) (o:=.cells #[.slice Ao12 t333.length co12,.int .i64 t336] 25 (0,0)) (bL Bc.out)):Be≠Bf));clear Bg Bi Bh Bc HB;revert n0_ n1_ n2_ n3_ n4_ n5_ n6_ n7_ n8_ n9_;intro Bg Bi Bh Bc HB Bd Dg Br Bq Bt;clear hb hbox hg;obtain ⟨Ao16,co16,eo16⟩:=Kd.R_slice Bi.out;subst eo16;have Dh:=Bt.out;have Di:=Bq.out;have BE:w15.cell? ⟨Be,0,none⟩=some (.slice none 0 0):=(bC Bd.out 0).trans rfl;have BF:w15.cell? ⟨Be,1,none⟩=some (.int .i64 0):=(bC Bd.out 1).trans rfl;have BG:=bF Bd.out 0;have BH:=bF Bd.out 1;have BI:w15.cell? ⟨Bf,0,none⟩=some (.slice Ao12 t333.length co12):=(bC Bc.out 0).trans rfl;have BJ:w15.cell? ⟨Bf,1,none⟩=some (.int .i64 t336):=(bC Bc.out 1).trans rfl;have BK:=bF Bc.out 0;have BL:=bF Bc.out 1)|(go_at_call 31;(with_reducible refine (spec_QueueRun.calls kj2 _ _ t333 t336 (60 + ((l1.length:Int) % 40)) t348 t351 t352 t355 _ ?side1 ?side2 A8.out).mono ?_);(case side1=>refine (Kd.R_reads' (e:=40) (base:=w.heap.size) (ok:=fun k_=>(True∧some k_≠(.slice Ao16 t339.length co16:Value).ownBlock)) (n:=t333.length) (c:=co12) ?_).2.2;exact (by (with_reducible repeat (first|apply rA|apply rN|apply rD));exact (rM (rF (p:=⟨Be,1,none⟩) (rF (p:=⟨Be,0,none⟩) (rT Bg.out Bd.out (by decide)) (fun _ hk=>hk.2) (.slice Ao16 t339.length co16)) (fun _ hk=>hk.2) (.int .i64 t342)) (fun _ h_=>h_.1))));(case side2=>exact (Kd.R_reads' Bg.out).2.1);rintro e w20 ⟨v349,v353,rfl,ho0,ho1,hb⟩;have n0_:=Am (Kd.R_elder' (by (with_reducible repeat (first|apply rA|apply rN|apply rD));exact (rM (rF (p:=⟨Be,1,none⟩) (rF (p:=⟨Be,0,none⟩) (rT Bg.out Bd.out (by decide)) (fun _ hk=>hk.2) (.slice Ao16 t339.length co16)) (fun _ hk=>hk.2) (.int .i64 t342)) (fun _ h_=>h_.1))) (Kd.R_base ho0) hb);have n1_:=Am (Kd.R_elder' (by (with_reducible repeat (first|apply rA|apply rN|apply rD));exact (rM (rF (p:=⟨Be,1,none⟩) (rF (p:=⟨Be,0,none⟩) (rT Bi.out Bd.out (by decide)) (fun _ hk=>hk.2) (.slice Ao16 t339.length co16)) (fun _ hk=>hk.2) (.int .i64 t342)) (fun _ h_=>h_.1))) (Kd.R_base ho0) hb);have n2_:=Am (Kd.R_elder' (by (with_reducible repeat (first|apply rA|apply rN|apply rD));exact (rM (rF (p:=⟨Be,1,none⟩) (rF (p:=⟨Be,0,none⟩) (rT Bh.out Bd.out (by decide)) (fun _ hk=>hk.2) (.slice Ao16 t339.length co16)) (fun _ hk=>hk.2) (.int .i64 t342)) (fun _ h_=>h_.1))) (Kd.R_base ho1) hb);have n3_:=Am (Kd.R_lower (Kd.R_new' (Kd.R_new' ho0 (Kd.R_lt (by (with_reducible repeat (first|apply rA|apply rN|apply rD));exact (rM (rF (p:=⟨Be,1,none⟩) (rF (p:=⟨Be,0,none⟩) (rT Bg.out Bd.out (by decide)) (fun _ hk=>hk.2) (.slice Ao16 t339.length co16)) (fun _ hk=>hk.2) (.int .i64 t342)) (fun _ h_=>h_.1))))) (Kd.R_lt (by (with_reducible repeat (first|apply rA|apply rN|apply rD));exact (rM (rF (p:=⟨Be,1,none⟩) (rF (p:=⟨Be,0,none⟩) (rT Bi.out Bd.out (by decide)) (fun _ hk=>hk.2) (.slice Ao16 t339.length co16)) (fun _ hk=>hk.2) (.int .i64 t342)) (fun _ h_=>h_.1))))) (bZ (by repeat (first|(with_reducible first|exact HB.out|apply oA|apply pN|apply o1|refine bS ?_ Bj.out|refine bS ?_ Br.out)|exact HB.out))));have n4_:=Am (Kd.R_lower (Kd.R_new' ho1 (Kd.R_lt (by (with_reducible repeat (first|apply rA|apply rN|apply rD));exact (rM (rF (p:=⟨Be,1,none⟩) (rF (p:=⟨Be,0,none⟩) (rT Bh.out Bd.out (by decide)) (fun _ hk=>hk.2) (.slice Ao16 t339.length co16)) (fun _ hk=>hk.2) (.int .i64 t342)) (fun _ h_=>h_.1))))) (bZ (by repeat (first|(with_reducible first|exact HB.out|apply oA|apply pN|apply o1|refine bS ?_ Bj.out|refine bS ?_ Br.out)|exact HB.out))));have n5_:=Am (bB (g:=Bf) (o:=.cells #[.slice Ao12 t333.length co12,.int .i64 t336] 25 (0,0)) (by (with_reducible repeat (first|refine bN ?_ _|refine bD ?_|refine bA ?_ _|refine blk_far ?_ Bq.out _));exact Bc.out) hb);have n6_:=Am (bB (g:=Be) (o:=.cells #[.slice Ao16 t339.length co16,.int .i64 t342] 25 (0,0)) (by (with_reducible repeat (first|refine bN ?_ _|refine bD ?_|refine bA ?_ _));refine blk_put (cs:=#[.slice Ao16 t339.length co16,.int .i64 0]) ?_ 1 _ rfl;(with_reducible repeat (first|refine bN ?_ _|refine bD ?_|refine bA ?_ _));refine blk_put (cs:=#[.slice none 0 0,.int .i64 0]) ?_ 0 _ rfl;(with_reducible repeat (first|refine bN ?_ _|refine bD ?_|refine bA ?_ _));exact Bd.out) hb);have n7_:=Am (bP (by repeat (first|(with_reducible first|exact HB.out|apply oA|apply pN|apply o1|refine bS ?_ Bj.out|refine bS ?_ Br.out)|exact HB.out)) hb);clear Bg Bi Bh Bc Bd HB;revert n0_ n1_ n2_ n3_ n4_ n5_ n6_ n7_;intro Bg Bi Bh Bm Bk Bc Bd HB;(try clear hb);(try clear hb2);(try clear hk);(try clear hi);(try clear ho0);(try clear ho1))|((with_reducible refine gate_dst (N:=10) rfl ?_);(try (refine gate_guard (by rfl) ?_;dsimp only));refine box_event ?hg (N:=10) ?hd (cs:=#[.slice none 0 0,.int .i64 0]) (t:=25) ?hr ?_;(case hd=>rfl);(case hg=>rfl);(case hr=>first|(go_simp;done)|(go_simp;rfl));intro Ba hg w21 hbox hb;have n0_:=Am (rB (rL Bg.out) hb);have n1_:=Am (rB (rL Bi.out) hb);have n2_:=Am (rB (rL Bh.out) hb);have n3_:=Am (rB (rL Bm.out) hb);have n4_:=Am (rB (rL Bk.out) hb);have n5_:=Am (bB (g:=Bf) (o:=.cells #[.slice Ao12 t333.length co12,.int .i64 t336] 25 (0,0)) (bL Bc.out) hb);have n6_:=Am (bB (g:=Be) (o:=.cells #[.slice Ao16 t339.length co16,.int .i64 t342] 25 (0,0)) (bL Bd.out) hb);have n7_:=Am (bP (by repeat (first|(with_reducible first|exact HB.out|apply oA|apply pN|apply o1|refine bS ?_ Bj.out|refine bS ?_ Br.out)|exact HB.out)) hb);have n8_:=Am (hbox);have n9_:=Am ((by rw [hg];exact (bZ (by repeat (first|(with_reducible first|exact HB.out|apply oA|apply pN|apply o1|refine bS ?_ Bj.out|refine bS ?_ Br.out)|exact HB.out))):w.heap.size≤Ba));have n10_:=Am ((by rw [hg];exact (bZ (by repeat (first|(with_reducible first|exact HB.out|apply oA|apply pN|apply o1|refine bS ?_ Bj.out|refine bS ?_ Br.out)|exact HB.out))):w.heap.size≤Ba));have n11_:=Am ((by rw [hg];exact Nat.ne_of_lt (blk_lt (g:=Bf) (o:=.cells #[.slice Ao12 t333.length co12,.int .i64 t336] 25 (0,0)) (bL Bc.out)):Bf≠Ba));have n12_:=Am ((by rw [hg];exact Nat.ne_of_gt (blk_lt (g:=Bf) (o:=.cells #[.slice Ao12 t333.length co12,.int .i64 t336] 25 (0,0)) (bL Bc.out)):Ba≠Bf));have n13_:=Am ((by rw [hg];exact Nat.ne_of_lt (blk_lt (g:=Be) (o:=.cells #[.slice Ao16 t339.length co16,.int .i64 t342] 25 (0,0)) (bL Bd.out)):Be≠Ba));have n14_:=Am ((by rw [hg];exact Nat.ne_of_gt (blk_lt (g:=Be) (o:=.cells #[.slice Ao16 t339.length co16,.int .i64 t342] 25 (0,0)) (bL Bd.out)):Ba≠Be));clear Bg Bi Bh Bm Bk Bc Bd HB;revert n0_ n1_ n2_ n3_ n4_ n5_ n6_ n7_ n8_ n9_ n10_ n11_ n12_ n13_ n14_;intro Bg Bi Bh Bm Bk Bc Bd HB Bb Dj Bx Bl Bu Bs Bv;clear hb hbox hg;obtain ⟨Ao22,co22,eo22⟩:=Kd.R_slice Bm.out;subst eo22;have Dk:=Bu.out;have Dl:=Bl.out;have Dm:=Bv.out;have Dn:=Bs.out;have BM:w21.cell? ⟨Ba,0,none⟩=some (.slice none 0 0):=(bC Bb.out 0).trans rfl;have BN:w21.cell? ⟨Ba,1,none⟩=some (.int .i64 0):=(bC Bb.out 1).trans rfl;have BO:=bF Bb.out 0;have BP:=bF Bb.out 1)))
   (try simp only [Act.put,lA,lZ,lS])
   go_cut [67] (fun v67 wc=>∃ (kq:Nat) (x67_8:Bool),v67=.bool x67_8∧Aside0 (laws_FnShareServed.j1 kq t343 t346 t352 t355 x67_8 t333 t336 t339 t342 t348 t351=some r)∧Aside0 (kq≤kj2)∧Aside0 (Kd.R (Kd.int .i64) 3 wc w.heap.size (fun k_=>some k_≠(v353:Value).ownBlock) v344 t343)∧Aside0 (Kd.R (Kd.int .i64) 3 wc w.heap.size (fun k_=>some k_≠(v344:Value).ownBlock) v353 t352)∧Aside0 (Kd.R k40 40 wc w.heap.size (fun k_=>some k_≠((.slice Ao16 t339.length co16):Value).ownBlock∧some k_≠((.slice Ao22 t348.length co22):Value).ownBlock) (.slice Ao12 t333.length co12) t333)∧Aside0 (Kd.R k40 40 wc w.heap.size (fun k_=>some k_≠((.slice Ao12 t333.length co12):Value).ownBlock∧some k_≠((.slice Ao22 t348.length co22):Value).ownBlock) (.slice Ao16 t339.length co16) t339)∧Aside0 (Kd.R k40 40 wc w.heap.size (fun k_=>some k_≠((.slice Ao12 t333.length co12):Value).ownBlock∧some k_≠((.slice Ao16 t339.length co16):Value).ownBlock) (.slice Ao22 t348.length co22) t348)∧Aside0 (wc.heap[Bf]?=some (.cells #[(.slice Ao12 t333.length co12),.int .i64 t336] 25 (0,0)))∧Aside0 (wc.heap[Be]?=some (.cells #[(.slice Ao16 t339.length co16),.int .i64 t342] 25 (0,0)))∧Aside0 (wc.heap[Ba]?=some (.cells #[(.slice Ao22 t348.length co22),.int .i64 t351] 25 (0,0)))∧Aside0 (Below w.heap.size w wc))
   case first =>
    have H:=HC9.out
    clear HC9
    by_cases c26:(t346 != t355)=true
    ·rw [if_pos c26] at H
     have c26b0:(t346 != t355)=true:=c26
     (try (have c26b1:decide (t346=t355)=false:=by simpa using c26))
     (try (have c26b2:(t346 == t355)=false:=by simpa using c26))
     (try (have c26b3:¬ (t346=t355):=by simpa using c26))
     clear c26
     (first|rw [c26b0]|(simp only [i64_w,i32_w];rw [c26b0])|skip)
     have H':=Am H
     clear H
     go_wp2
     repeat (go_quiet (fail);try go_wp2)
     go_meet
     case rel=>exact ⟨_,(true),(by first|rfl|(simp;done)|(simp [*];done)),H',⟨by have:=Bz.out;first|omega|exact Nat.le_refl _⟩,⟨by (with_reducible repeat (first|apply rA|apply rN|apply rD));exact rM (rF (p:=⟨Ba,1,none⟩) (rF (p:=⟨Ba,0,none⟩) (rT Bh.out Bb.out (by decide)) (fun _ hk=>hk.2) (.slice Ao22 t348.length co22)) (fun _ hk=>hk.2) (.int .i64 t351)) (fun _ hk=>hk.1.2)⟩,⟨by (with_reducible repeat (first|apply rA|apply rN|apply rD));exact rM (rF (p:=⟨Ba,1,none⟩) (rF (p:=⟨Ba,0,none⟩) (rT Bk.out Bb.out (by decide)) (fun _ hk=>hk.2) (.slice Ao22 t348.length co22)) (fun _ hk=>hk.2) (.int .i64 t351)) (fun _ hk=>hk.1.2)⟩,⟨by (with_reducible repeat (first|apply rA|apply rN|apply rD));exact rM (rF (p:=⟨Ba,1,none⟩) (rF (p:=⟨Ba,0,none⟩) (rT Bg.out Bb.out (by decide)) (fun _ hk=>hk.2) (.slice Ao22 t348.length co22)) (fun _ hk=>hk.2) (.int .i64 t351)) (fun _ hk=>⟨hk.1.1.2,hk.1.2⟩)⟩,⟨by (with_reducible repeat (first|apply rA|apply rN|apply rD));exact rM (rF (p:=⟨Ba,1,none⟩) (rF (p:=⟨Ba,0,none⟩) (rT Bi.out Bb.out (by decide)) (fun _ hk=>hk.2) (.slice Ao22 t348.length co22)) (fun _ hk=>hk.2) (.int .i64 t351)) (fun _ hk=>⟨hk.1.1.2,hk.1.2⟩)⟩,⟨by (with_reducible repeat (first|apply rA|apply rN|apply rD));exact rM (rF (p:=⟨Ba,1,none⟩) (rF (p:=⟨Ba,0,none⟩) (rT Bm.out Bb.out (by decide)) (fun _ hk=>hk.2) (.slice Ao22 t348.length co22)) (fun _ hk=>hk.2) (.int .i64 t351)) (fun _ hk=>⟨hk.1.1.2,hk.1.2⟩)⟩,⟨by (with_reducible repeat (first|refine bN ?_ _|refine bD ?_|refine bA ?_ _|refine blk_far ?_ Bl.out _));exact Bc.out⟩,⟨by (with_reducible repeat (first|refine bN ?_ _|refine bD ?_|refine bA ?_ _|refine blk_far ?_ Bs.out _));exact Bd.out⟩,⟨by (with_reducible repeat (first|refine bN ?_ _|refine bD ?_|refine bA ?_ _));refine blk_put (cs:=#[.slice Ao22 t348.length co22,.int .i64 0]) ?_ 1 _ rfl;(with_reducible repeat (first|refine bN ?_ _|refine bD ?_|refine bA ?_ _));refine blk_put (cs:=#[.slice none 0 0,.int .i64 0]) ?_ 0 _ rfl;(with_reducible repeat (first|refine bN ?_ _|refine bD ?_|refine bA ?_ _));exact Bb.out⟩,⟨by repeat (first|(with_reducible first|exact HB.out|apply oA|apply pN|apply o1|refine bS ?_ Bj.out|refine bS ?_ Br.out|refine bS ?_ Bx.out)|exact HB.out)⟩⟩
    rw [if_neg c26] at H
    have c26b0:(t346 != t355)=false:=by simpa using c26
    (try (have c26b1:decide (t346=t355)=true:=by simpa using c26))
    (try (have c26b2:(t346 == t355)=true:=by simpa using c26))
    clear c26
    (first|rw [c26b0]|(simp only [i64_w,i32_w];rw [c26b0])|skip)
    replace H:=oC H
    obtain ⟨t357,A270,H⟩:=H
    replace H:(if t357=true then ((laws_qdQueue.f kj2 t339 t342 t348 t351).bind fun t358=>(if t358=true then (laws_FnShareServed.j1 kj2 t343 t346 t352 t355 (!t346) t333 t336 t339 t342 t348 t351) else (laws_FnShareServed.j1 kj2 t343 t346 t352 t355 true t333 t336 t339 t342 t348 t351))) else (laws_FnShareServed.j1 kj2 t343 t346 t352 t355 true t333 t336 t339 t342 t348 t351))=some r:=H
    have A27:=Am A270
    clear A270
    by_cases c28:t357=true
    rotate_left
    ·replace c28:=Bool.eq_false_iff.mpr c28
     subst c28
     have H1:(laws_FnShareServed.j1 kj2 t343 t346 t352 t355 true t333 t336 t339 t342 t348 t351)=some r:=by rw [if_neg (show ¬ (false=true) by decide)] at H;exact H
     clear H
     have H:=H1
     clear H1
     have H':=Am H
     clear H
     obtain ⟨Ao47,co47,eo47⟩:=Kd.R_slice Bh.out
     subst eo47
     obtain ⟨Ao48,co48,eo48⟩:=Kd.R_slice Bk.out
     subst eo48
     go_wp2_with (first|(go_at_call 32;(with_reducible refine (laws_qdInts.calls kj2 _ _ t343 _ _ t352 false _ ?side1 ?side2 ?side3 ?side4 A27.out).mono ?_);(case side1=>refine (Kd.R_reads' (e:=3) (base:=w.heap.size) (ok:=fun k_=>(True∧some k_≠(.slice Ao48 t352.length co48:Value).ownBlock)) (n:=t343.length) (c:=co47) ?_).2.2;exact (by (with_reducible repeat (first|apply rA|apply rN|apply rD));exact (rM (rF (p:=⟨Ba,1,none⟩) (rF (p:=⟨Ba,0,none⟩) (rT Bh.out Bb.out (by decide)) (fun _ hk=>hk.2) (.slice Ao22 t348.length co22)) (fun _ hk=>hk.2) (.int .i64 t351)) (fun _ h_=>h_.1))));(case side2=>exact (Kd.R_reads' Bh.out).2.1);(case side3=>refine (Kd.R_reads' (e:=3) (base:=w.heap.size) (ok:=fun k_=>(True∧some k_≠(.slice Ao47 t343.length co47:Value).ownBlock)) (n:=t352.length) (c:=co48) ?_).2.2;exact (by (with_reducible repeat (first|apply rA|apply rN|apply rD));exact (rM (rF (p:=⟨Ba,1,none⟩) (rF (p:=⟨Ba,0,none⟩) (rT Bk.out Bb.out (by decide)) (fun _ hk=>hk.2) (.slice Ao22 t348.length co22)) (fun _ hk=>hk.2) (.int .i64 t351)) (fun _ h_=>h_.1))));(case side4=>exact (Kd.R_reads' Bk.out).2.1);rintro e w' ⟨rfl,⟨nd,rfl⟩⟩;(try first|exact ⟨rfl,_,World.drewN_drewN _ _ _⟩|exact ⟨rfl,_,Eq.trans (World.drewN_drewN _ _ _) (congrArg (World.drewN _) (Nat.add_assoc _ _ _))⟩)))
     repeat (go_quiet (first|(go_at_call 32;(with_reducible refine (laws_qdInts.calls kj2 _ _ t343 _ _ t352 false _ ?side1 ?side2 ?side3 ?side4 A27.out).mono ?_);(case side1=>refine (Kd.R_reads' (e:=3) (base:=w.heap.size) (ok:=fun k_=>(True∧some k_≠(.slice Ao48 t352.length co48:Value).ownBlock)) (n:=t343.length) (c:=co47) ?_).2.2;exact (by (with_reducible repeat (first|apply rA|apply rN|apply rD));exact (rM (rF (p:=⟨Ba,1,none⟩) (rF (p:=⟨Ba,0,none⟩) (rT Bh.out Bb.out (by decide)) (fun _ hk=>hk.2) (.slice Ao22 t348.length co22)) (fun _ hk=>hk.2) (.int .i64 t351)) (fun _ h_=>h_.1))));(case side2=>exact (Kd.R_reads' Bh.out).2.1);(case side3=>refine (Kd.R_reads' (e:=3) (base:=w.heap.size) (ok:=fun k_=>(True∧some k_≠(.slice Ao47 t343.length co47:Value).ownBlock)) (n:=t352.length) (c:=co48) ?_).2.2;exact (by (with_reducible repeat (first|apply rA|apply rN|apply rD));exact (rM (rF (p:=⟨Ba,1,none⟩) (rF (p:=⟨Ba,0,none⟩) (rT Bk.out Bb.out (by decide)) (fun _ hk=>hk.2) (.slice Ao22 t348.length co22)) (fun _ hk=>hk.2) (.int .i64 t351)) (fun _ h_=>h_.1))));(case side4=>exact (Kd.R_reads' Bk.out).2.1);rintro e w' ⟨rfl,⟨nd,rfl⟩⟩;(try first|exact ⟨rfl,_,World.drewN_drewN _ _ _⟩|exact ⟨rfl,_,Eq.trans (World.drewN_drewN _ _ _) (congrArg (World.drewN _) (Nat.add_assoc _ _ _))⟩)));try go_wp2_with (first|(go_at_call 32;(with_reducible refine (laws_qdInts.calls kj2 _ _ t343 _ _ t352 false _ ?side1 ?side2 ?side3 ?side4 A27.out).mono ?_);(case side1=>refine (Kd.R_reads' (e:=3) (base:=w.heap.size) (ok:=fun k_=>(True∧some k_≠(.slice Ao48 t352.length co48:Value).ownBlock)) (n:=t343.length) (c:=co47) ?_).2.2;exact (by (with_reducible repeat (first|apply rA|apply rN|apply rD));exact (rM (rF (p:=⟨Ba,1,none⟩) (rF (p:=⟨Ba,0,none⟩) (rT Bh.out Bb.out (by decide)) (fun _ hk=>hk.2) (.slice Ao22 t348.length co22)) (fun _ hk=>hk.2) (.int .i64 t351)) (fun _ h_=>h_.1))));(case side2=>exact (Kd.R_reads' Bh.out).2.1);(case side3=>refine (Kd.R_reads' (e:=3) (base:=w.heap.size) (ok:=fun k_=>(True∧some k_≠(.slice Ao47 t343.length co47:Value).ownBlock)) (n:=t352.length) (c:=co48) ?_).2.2;exact (by (with_reducible repeat (first|apply rA|apply rN|apply rD));exact (rM (rF (p:=⟨Ba,1,none⟩) (rF (p:=⟨Ba,0,none⟩) (rT Bk.out Bb.out (by decide)) (fun _ hk=>hk.2) (.slice Ao22 t348.length co22)) (fun _ hk=>hk.2) (.int .i64 t351)) (fun _ h_=>h_.1))));(case side4=>exact (Kd.R_reads' Bk.out).2.1);rintro e w' ⟨rfl,⟨nd,rfl⟩⟩;(try first|exact ⟨rfl,_,World.drewN_drewN _ _ _⟩|exact ⟨rfl,_,Eq.trans (World.drewN_drewN _ _ _) (congrArg (World.drewN _) (Nat.add_assoc _ _ _))⟩))))
     go_meet
     case rel=>exact ⟨_,(true),(by first|rfl|(simp;done)|(simp [*];done)),H',⟨by have:=Bz.out;first|omega|exact Nat.le_refl _⟩,⟨by (with_reducible repeat (first|apply rA|apply rN|apply rD));exact rM (rF (p:=⟨Ba,1,none⟩) (rF (p:=⟨Ba,0,none⟩) (rT Bh.out Bb.out (by decide)) (fun _ hk=>hk.2) (.slice Ao22 t348.length co22)) (fun _ hk=>hk.2) (.int .i64 t351)) (fun _ hk=>hk.1.2)⟩,⟨by (with_reducible repeat (first|apply rA|apply rN|apply rD));exact rM (rF (p:=⟨Ba,1,none⟩) (rF (p:=⟨Ba,0,none⟩) (rT Bk.out Bb.out (by decide)) (fun _ hk=>hk.2) (.slice Ao22 t348.length co22)) (fun _ hk=>hk.2) (.int .i64 t351)) (fun _ hk=>hk.1.2)⟩,⟨by (with_reducible repeat (first|apply rA|apply rN|apply rD));exact rM (rF (p:=⟨Ba,1,none⟩) (rF (p:=⟨Ba,0,none⟩) (rT Bg.out Bb.out (by decide)) (fun _ hk=>hk.2) (.slice Ao22 t348.length co22)) (fun _ hk=>hk.2) (.int .i64 t351)) (fun _ hk=>⟨hk.1.1.2,hk.1.2⟩)⟩,⟨by (with_reducible repeat (first|apply rA|apply rN|apply rD));exact rM (rF (p:=⟨Ba,1,none⟩) (rF (p:=⟨Ba,0,none⟩) (rT Bi.out Bb.out (by decide)) (fun _ hk=>hk.2) (.slice Ao22 t348.length co22)) (fun _ hk=>hk.2) (.int .i64 t351)) (fun _ hk=>⟨hk.1.1.2,hk.1.2⟩)⟩,⟨by (with_reducible repeat (first|apply rA|apply rN|apply rD));exact rM (rF (p:=⟨Ba,1,none⟩) (rF (p:=⟨Ba,0,none⟩) (rT Bm.out Bb.out (by decide)) (fun _ hk=>hk.2) (.slice Ao22 t348.length co22)) (fun _ hk=>hk.2) (.int .i64 t351)) (fun _ hk=>⟨hk.1.1.2,hk.1.2⟩)⟩,⟨by (with_reducible repeat (first|refine bN ?_ _|refine bD ?_|refine bA ?_ _|refine blk_far ?_ Bl.out _));exact Bc.out⟩,⟨by (with_reducible repeat (first|refine bN ?_ _|refine bD ?_|refine bA ?_ _|refine blk_far ?_ Bs.out _));exact Bd.out⟩,⟨by (with_reducible repeat (first|refine bN ?_ _|refine bD ?_|refine bA ?_ _));refine blk_put (cs:=#[.slice Ao22 t348.length co22,.int .i64 0]) ?_ 1 _ rfl;(with_reducible repeat (first|refine bN ?_ _|refine bD ?_|refine bA ?_ _));refine blk_put (cs:=#[.slice none 0 0,.int .i64 0]) ?_ 0 _ rfl;(with_reducible repeat (first|refine bN ?_ _|refine bD ?_|refine bA ?_ _));exact Bb.out⟩,⟨by repeat (first|(with_reducible first|exact HB.out|apply oA|apply pN|apply o1|refine bS ?_ Bj.out|refine bS ?_ Br.out|refine bS ?_ Bx.out)|exact HB.out)⟩⟩
    subst c28
    have H1:((laws_qdQueue.f kj2 t339 t342 t348 t351).bind fun t358=>(if t358=true then (laws_FnShareServed.j1 kj2 t343 t346 t352 t355 (!t346) t333 t336 t339 t342 t348 t351) else (laws_FnShareServed.j1 kj2 t343 t346 t352 t355 true t333 t336 t339 t342 t348 t351)))=some r:=by rw [if_pos rfl] at H;exact H
    clear H
    have H:=H1
    clear H1
    replace H:=oC H
    obtain ⟨t358,A290,H⟩:=H
    replace H:(if t358=true then (laws_FnShareServed.j1 kj2 t343 t346 t352 t355 (!t346) t333 t336 t339 t342 t348 t351) else (laws_FnShareServed.j1 kj2 t343 t346 t352 t355 true t333 t336 t339 t342 t348 t351))=some r:=H
    have A29:=Am A290
    clear A290
    by_cases c30:t358=true
    ·subst c30
     have H1:(laws_FnShareServed.j1 kj2 t343 t346 t352 t355 (!t346) t333 t336 t339 t342 t348 t351)=some r:=by rw [if_pos rfl] at H;exact H
     clear H
     have H:=H1
     clear H1
     have H':=Am H
     clear H
     obtain ⟨Ao31,co31,eo31⟩:=Kd.R_slice Bh.out
     subst eo31
     obtain ⟨Ao32,co32,eo32⟩:=Kd.R_slice Bk.out
     subst eo32
     go_wp2_with (first|(go_at_call 32;(with_reducible refine (laws_qdInts.calls kj2 _ _ t343 _ _ t352 true _ ?side1 ?side2 ?side3 ?side4 A27.out).mono ?_);(case side1=>refine (Kd.R_reads' (e:=3) (base:=w.heap.size) (ok:=fun k_=>(True∧some k_≠(.slice Ao32 t352.length co32:Value).ownBlock)) (n:=t343.length) (c:=co31) ?_).2.2;exact (by (with_reducible repeat (first|apply rA|apply rN|apply rD));exact (rM (rF (p:=⟨Ba,1,none⟩) (rF (p:=⟨Ba,0,none⟩) (rT Bh.out Bb.out (by decide)) (fun _ hk=>hk.2) (.slice Ao22 t348.length co22)) (fun _ hk=>hk.2) (.int .i64 t351)) (fun _ h_=>h_.1))));(case side2=>exact (Kd.R_reads' Bh.out).2.1);(case side3=>refine (Kd.R_reads' (e:=3) (base:=w.heap.size) (ok:=fun k_=>(True∧some k_≠(.slice Ao31 t343.length co31:Value).ownBlock)) (n:=t352.length) (c:=co32) ?_).2.2;exact (by (with_reducible repeat (first|apply rA|apply rN|apply rD));exact (rM (rF (p:=⟨Ba,1,none⟩) (rF (p:=⟨Ba,0,none⟩) (rT Bk.out Bb.out (by decide)) (fun _ hk=>hk.2) (.slice Ao22 t348.length co22)) (fun _ hk=>hk.2) (.int .i64 t351)) (fun _ h_=>h_.1))));(case side4=>exact (Kd.R_reads' Bk.out).2.1);rintro e w' ⟨rfl,⟨nd,rfl⟩⟩;(try first|exact ⟨rfl,_,World.drewN_drewN _ _ _⟩|exact ⟨rfl,_,Eq.trans (World.drewN_drewN _ _ _) (congrArg (World.drewN _) (Nat.add_assoc _ _ _))⟩);have Do:=Bt.out;have Dp:=Bq.out;have Dq:=Bs.out;have Dr:=Bv.out;have BQ:w21.cell? ⟨Be,0,none⟩=some (.slice Ao16 t339.length co16):=(bC Bd.out 0).trans rfl;have BR:w21.cell? ⟨Be,1,none⟩=some (.int .i64 t342):=(bC Bd.out 1).trans rfl;have BS:=bF Bd.out 0;have BT:=bF Bd.out 1;have Ds:=Bu.out;have Dt:=Bl.out;have BU:w21.cell? ⟨Ba,0,none⟩=some (.slice none 0 0):=(bC Bb.out 0).trans rfl;have BV:w21.cell? ⟨Ba,1,none⟩=some (.int .i64 0):=(bC Bb.out 1).trans rfl;have BW:=bF Bb.out 0;have BX:=bF Bb.out 1)|(go_at_call 15;(with_reducible refine (laws_qdQueue.calls kj2 _ _ t339 t342 _ _ t348 t351 true _ ?side1 ?side2 ?side3 ?side4 A29.out).mono ?_);(case side1=>refine (Kd.R_reads' (e:=40) (base:=w.heap.size) (ok:=fun k_=>((True∧some k_≠(.slice Ao12 t333.length co12:Value).ownBlock)∧some k_≠(.slice Ao22 t348.length co22:Value).ownBlock)) (n:=t339.length) (c:=co16) ?_).2.2;exact (by (with_reducible repeat (first|apply rA|apply rN|apply rD));exact (rM (rF (p:=⟨Ba,1,none⟩) (rF (p:=⟨Ba,0,none⟩) (rT Bi.out Bb.out (by decide)) (fun _ hk=>hk.2) (.slice Ao22 t348.length co22)) (fun _ hk=>hk.2) (.int .i64 t351)) (fun _ h_=>h_.1))));(case side2=>exact (Kd.R_reads' Bi.out).2.1);(case side3=>refine (Kd.R_reads' (e:=40) (base:=w.heap.size) (ok:=fun k_=>((True∧some k_≠(.slice Ao12 t333.length co12:Value).ownBlock)∧some k_≠(.slice Ao16 t339.length co16:Value).ownBlock)) (n:=t348.length) (c:=co22) ?_).2.2;exact (by (with_reducible repeat (first|apply rA|apply rN|apply rD));exact (rM (rF (p:=⟨Ba,1,none⟩) (rF (p:=⟨Ba,0,none⟩) (rT Bm.out Bb.out (by decide)) (fun _ hk=>hk.2) (.slice Ao22 t348.length co22)) (fun _ hk=>hk.2) (.int .i64 t351)) (fun _ h_=>h_.1))));(case side4=>exact (Kd.R_reads' Bm.out).2.1);rintro e w38 ⟨rfl,hb⟩;have n0_:=Am (rB (by (with_reducible repeat (first|apply rA|apply rN|apply rD));exact (rM (rF (p:=⟨Ba,1,none⟩) (rF (p:=⟨Ba,0,none⟩) (rT Bg.out Bb.out (by decide)) (fun _ hk=>hk.2) (.slice Ao22 t348.length co22)) (fun _ hk=>hk.2) (.int .i64 t351)) (fun _ h_=>h_.1))) hb);have n1_:=Am (rB (by (with_reducible repeat (first|apply rA|apply rN|apply rD));exact (rM (rF (p:=⟨Ba,1,none⟩) (rF (p:=⟨Ba,0,none⟩) (rT Bi.out Bb.out (by decide)) (fun _ hk=>hk.2) (.slice Ao22 t348.length co22)) (fun _ hk=>hk.2) (.int .i64 t351)) (fun _ h_=>h_.1))) hb);have n2_:=Am (rB (by (with_reducible repeat (first|apply rA|apply rN|apply rD));exact (rM (rF (p:=⟨Ba,1,none⟩) (rF (p:=⟨Ba,0,none⟩) (rT Bh.out Bb.out (by decide)) (fun _ hk=>hk.2) (.slice Ao22 t348.length co22)) (fun _ hk=>hk.2) (.int .i64 t351)) (fun _ h_=>h_.1))) hb);have n3_:=Am (rB (by (with_reducible repeat (first|apply rA|apply rN|apply rD));exact (rM (rF (p:=⟨Ba,1,none⟩) (rF (p:=⟨Ba,0,none⟩) (rT Bm.out Bb.out (by decide)) (fun _ hk=>hk.2) (.slice Ao22 t348.length co22)) (fun _ hk=>hk.2) (.int .i64 t351)) (fun _ h_=>h_.1))) hb);have n4_:=Am (rB (by (with_reducible repeat (first|apply rA|apply rN|apply rD));exact (rM (rF (p:=⟨Ba,1,none⟩) (rF (p:=⟨Ba,0,none⟩) (rT Bk.out Bb.out (by decide)) (fun _ hk=>hk.2) (.slice Ao22 t348.length co22)) (fun _ hk=>hk.2) (.int .i64 t351)) (fun _ h_=>h_.1))) hb);have n5_:=Am (bB (g:=Bf) (o:=.cells #[.slice Ao12 t333.length co12,.int .i64 t336] 25 (0,0)) (by (with_reducible repeat (first|refine bN ?_ _|refine bD ?_|refine bA ?_ _|refine blk_far ?_ Bl.out _));exact Bc.out) hb);have n6_:=Am (bB (g:=Be) (o:=.cells #[.slice Ao16 t339.length co16,.int .i64 t342] 25 (0,0)) (by (with_reducible repeat (first|refine bN ?_ _|refine bD ?_|refine bA ?_ _|refine blk_far ?_ Bs.out _));exact Bd.out) hb);have n7_:=Am (bB (g:=Ba) (o:=.cells #[.slice Ao22 t348.length co22,.int .i64 t351] 25 (0,0)) (by (with_reducible repeat (first|refine bN ?_ _|refine bD ?_|refine bA ?_ _));refine blk_put (cs:=#[.slice Ao22 t348.length co22,.int .i64 0]) ?_ 1 _ rfl;(with_reducible repeat (first|refine bN ?_ _|refine bD ?_|refine bA ?_ _));refine blk_put (cs:=#[.slice none 0 0,.int .i64 0]) ?_ 0 _ rfl;(with_reducible repeat (first|refine bN ?_ _|refine bD ?_|refine bA ?_ _));exact Bb.out) hb);have n8_:=Am (bP (by repeat (first|(with_reducible first|exact HB.out|apply oA|apply pN|apply o1|refine bS ?_ Bj.out|refine bS ?_ Br.out|refine bS ?_ Bx.out)|exact HB.out)) hb);clear Bg Bi Bh Bm Bk Bc Bd Bb HB;revert n0_ n1_ n2_ n3_ n4_ n5_ n6_ n7_ n8_;intro Bg Bi Bh Bm Bk Bc Bd Bb HB;(try clear hb);(try clear hb2);(try clear hk);(try clear hi)))
     repeat (go_quiet (first|(go_at_call 32;(with_reducible refine (laws_qdInts.calls kj2 _ _ t343 _ _ t352 true _ ?side1 ?side2 ?side3 ?side4 A27.out).mono ?_);(case side1=>refine (Kd.R_reads' (e:=3) (base:=w.heap.size) (ok:=fun k_=>(True∧some k_≠(.slice Ao32 t352.length co32:Value).ownBlock)) (n:=t343.length) (c:=co31) ?_).2.2;exact (by (with_reducible repeat (first|apply rA|apply rN|apply rD));exact (rM (rF (p:=⟨Ba,1,none⟩) (rF (p:=⟨Ba,0,none⟩) (rT Bh.out Bb.out (by decide)) (fun _ hk=>hk.2) (.slice Ao22 t348.length co22)) (fun _ hk=>hk.2) (.int .i64 t351)) (fun _ h_=>h_.1))));(case side2=>exact (Kd.R_reads' Bh.out).2.1);(case side3=>refine (Kd.R_reads' (e:=3) (base:=w.heap.size) (ok:=fun k_=>(True∧some k_≠(.slice Ao31 t343.length co31:Value).ownBlock)) (n:=t352.length) (c:=co32) ?_).2.2;exact (by (with_reducible repeat (first|apply rA|apply rN|apply rD));exact (rM (rF (p:=⟨Ba,1,none⟩) (rF (p:=⟨Ba,0,none⟩) (rT Bk.out Bb.out (by decide)) (fun _ hk=>hk.2) (.slice Ao22 t348.length co22)) (fun _ hk=>hk.2) (.int .i64 t351)) (fun _ h_=>h_.1))));(case side4=>exact (Kd.R_reads' Bk.out).2.1);rintro e w' ⟨rfl,⟨nd,rfl⟩⟩;(try first|exact ⟨rfl,_,World.drewN_drewN _ _ _⟩|exact ⟨rfl,_,Eq.trans (World.drewN_drewN _ _ _) (congrArg (World.drewN _) (Nat.add_assoc _ _ _))⟩);have Do:=Bt.out;have Dp:=Bq.out;have Dq:=Bs.out;have Dr:=Bv.out;have BQ:w21.cell? ⟨Be,0,none⟩=some (.slice Ao16 t339.length co16):=(bC Bd.out 0).trans rfl;have BR:w21.cell? ⟨Be,1,none⟩=some (.int .i64 t342):=(bC Bd.out 1).trans rfl;have BS:=bF Bd.out 0;have BT:=bF Bd.out 1;have Ds:=Bu.out;have Dt:=Bl.out;have BU:w21.cell? ⟨Ba,0,none⟩=some (.slice none 0 0):=(bC Bb.out 0).trans rfl;have BV:w21.cell? ⟨Ba,1,none⟩=some (.int .i64 0):=(bC Bb.out 1).trans rfl;have BW:=bF Bb.out 0;have BX:=bF Bb.out 1)|(go_at_call 15;(with_reducible refine (laws_qdQueue.calls kj2 _ _ t339 t342 _ _ t348 t351 true _ ?side1 ?side2 ?side3 ?side4 A29.out).mono ?_);(case side1=>refine (Kd.R_reads' (e:=40) (base:=w.heap.size) (ok:=fun k_=>((True∧some k_≠(.slice Ao12 t333.length co12:Value).ownBlock)∧some k_≠(.slice Ao22 t348.length co22:Value).ownBlock)) (n:=t339.length) (c:=co16) ?_).2.2;exact (by (with_reducible repeat (first|apply rA|apply rN|apply rD));exact (rM (rF (p:=⟨Ba,1,none⟩) (rF (p:=⟨Ba,0,none⟩) (rT Bi.out Bb.out (by decide)) (fun _ hk=>hk.2) (.slice Ao22 t348.length co22)) (fun _ hk=>hk.2) (.int .i64 t351)) (fun _ h_=>h_.1))));(case side2=>exact (Kd.R_reads' Bi.out).2.1);(case side3=>refine (Kd.R_reads' (e:=40) (base:=w.heap.size) (ok:=fun k_=>((True∧some k_≠(.slice Ao12 t333.length co12:Value).ownBlock)∧some k_≠(.slice Ao16 t339.length co16:Value).ownBlock)) (n:=t348.length) (c:=co22) ?_).2.2;exact (by (with_reducible repeat (first|apply rA|apply rN|apply rD));exact (rM (rF (p:=⟨Ba,1,none⟩) (rF (p:=⟨Ba,0,none⟩) (rT Bm.out Bb.out (by decide)) (fun _ hk=>hk.2) (.slice Ao22 t348.length co22)) (fun _ hk=>hk.2) (.int .i64 t351)) (fun _ h_=>h_.1))));(case side4=>exact (Kd.R_reads' Bm.out).2.1);rintro e w38 ⟨rfl,hb⟩;have n0_:=Am (rB (by (with_reducible repeat (first|apply rA|apply rN|apply rD));exact (rM (rF (p:=⟨Ba,1,none⟩) (rF (p:=⟨Ba,0,none⟩) (rT Bg.out Bb.out (by decide)) (fun _ hk=>hk.2) (.slice Ao22 t348.length co22)) (fun _ hk=>hk.2) (.int .i64 t351)) (fun _ h_=>h_.1))) hb);have n1_:=Am (rB (by (with_reducible repeat (first|apply rA|apply rN|apply rD));exact (rM (rF (p:=⟨Ba,1,none⟩) (rF (p:=⟨Ba,0,none⟩) (rT Bi.out Bb.out (by decide)) (fun _ hk=>hk.2) (.slice Ao22 t348.length co22)) (fun _ hk=>hk.2) (.int .i64 t351)) (fun _ h_=>h_.1))) hb);have n2_:=Am (rB (by (with_reducible repeat (first|apply rA|apply rN|apply rD));exact (rM (rF (p:=⟨Ba,1,none⟩) (rF (p:=⟨Ba,0,none⟩) (rT Bh.out Bb.out (by decide)) (fun _ hk=>hk.2) (.slice Ao22 t348.length co22)) (fun _ hk=>hk.2) (.int .i64 t351)) (fun _ h_=>h_.1))) hb);have n3_:=Am (rB (by (with_reducible repeat (first|apply rA|apply rN|apply rD));exact (rM (rF (p:=⟨Ba,1,none⟩) (rF (p:=⟨Ba,0,none⟩) (rT Bm.out Bb.out (by decide)) (fun _ hk=>hk.2) (.slice Ao22 t348.length co22)) (fun _ hk=>hk.2) (.int .i64 t351)) (fun _ h_=>h_.1))) hb);have n4_:=Am (rB (by (with_reducible repeat (first|apply rA|apply rN|apply rD));exact (rM (rF (p:=⟨Ba,1,none⟩) (rF (p:=⟨Ba,0,none⟩) (rT Bk.out Bb.out (by decide)) (fun _ hk=>hk.2) (.slice Ao22 t348.length co22)) (fun _ hk=>hk.2) (.int .i64 t351)) (fun _ h_=>h_.1))) hb);have n5_:=Am (bB (g:=Bf) (o:=.cells #[.slice Ao12 t333.length co12,.int .i64 t336] 25 (0,0)) (by (with_reducible repeat (first|refine bN ?_ _|refine bD ?_|refine bA ?_ _|refine blk_far ?_ Bl.out _));exact Bc.out) hb);have n6_:=Am (bB (g:=Be) (o:=.cells #[.slice Ao16 t339.length co16,.int .i64 t342] 25 (0,0)) (by (with_reducible repeat (first|refine bN ?_ _|refine bD ?_|refine bA ?_ _|refine blk_far ?_ Bs.out _));exact Bd.out) hb);have n7_:=Am (bB (g:=Ba) (o:=.cells #[.slice Ao22 t348.length co22,.int .i64 t351] 25 (0,0)) (by (with_reducible repeat (first|refine bN ?_ _|refine bD ?_|refine bA ?_ _));refine blk_put (cs:=#[.slice Ao22 t348.length co22,.int .i64 0]) ?_ 1 _ rfl;(with_reducible repeat (first|refine bN ?_ _|refine bD ?_|refine bA ?_ _));refine blk_put (cs:=#[.slice none 0 0,.int .i64 0]) ?_ 0 _ rfl;(with_reducible repeat (first|refine bN ?_ _|refine bD ?_|refine bA ?_ _));exact Bb.out) hb);have n8_:=Am (bP (by repeat (first|(with_reducible first|exact HB.out|apply oA|apply pN|apply o1|refine bS ?_ Bj.out|refine bS ?_ Br.out|refine bS ?_ Bx.out)|exact HB.out)) hb);clear Bg Bi Bh Bm Bk Bc Bd Bb HB;revert n0_ n1_ n2_ n3_ n4_ n5_ n6_ n7_ n8_;intro Bg Bi Bh Bm Bk Bc Bd Bb HB;(try clear hb);(try clear hb2);(try clear hk);(try clear hi)));try go_wp2_with (first|(go_at_call 32;(with_reducible refine (laws_qdInts.calls kj2 _ _ t343 _ _ t352 true _ ?side1 ?side2 ?side3 ?side4 A27.out).mono ?_);(case side1=>refine (Kd.R_reads' (e:=3) (base:=w.heap.size) (ok:=fun k_=>(True∧some k_≠(.slice Ao32 t352.length co32:Value).ownBlock)) (n:=t343.length) (c:=co31) ?_).2.2;exact (by (with_reducible repeat (first|apply rA|apply rN|apply rD));exact (rM (rF (p:=⟨Ba,1,none⟩) (rF (p:=⟨Ba,0,none⟩) (rT Bh.out Bb.out (by decide)) (fun _ hk=>hk.2) (.slice Ao22 t348.length co22)) (fun _ hk=>hk.2) (.int .i64 t351)) (fun _ h_=>h_.1))));(case side2=>exact (Kd.R_reads' Bh.out).2.1);(case side3=>refine (Kd.R_reads' (e:=3) (base:=w.heap.size) (ok:=fun k_=>(True∧some k_≠(.slice Ao31 t343.length co31:Value).ownBlock)) (n:=t352.length) (c:=co32) ?_).2.2;exact (by (with_reducible repeat (first|apply rA|apply rN|apply rD));exact (rM (rF (p:=⟨Ba,1,none⟩) (rF (p:=⟨Ba,0,none⟩) (rT Bk.out Bb.out (by decide)) (fun _ hk=>hk.2) (.slice Ao22 t348.length co22)) (fun _ hk=>hk.2) (.int .i64 t351)) (fun _ h_=>h_.1))));(case side4=>exact (Kd.R_reads' Bk.out).2.1);rintro e w' ⟨rfl,⟨nd,rfl⟩⟩;(try first|exact ⟨rfl,_,World.drewN_drewN _ _ _⟩|exact ⟨rfl,_,Eq.trans (World.drewN_drewN _ _ _) (congrArg (World.drewN _) (Nat.add_assoc _ _ _))⟩);have Do:=Bt.out;have Dp:=Bq.out;have Dq:=Bs.out;have Dr:=Bv.out;have BQ:w21.cell? ⟨Be,0,none⟩=some (.slice Ao16 t339.length co16):=(bC Bd.out 0).trans rfl;have BR:w21.cell? ⟨Be,1,none⟩=some (.int .i64 t342):=(bC Bd.out 1).trans rfl;have BS:=bF Bd.out 0;have BT:=bF Bd.out 1;have Ds:=Bu.out;have Dt:=Bl.out;have BU:w21.cell? ⟨Ba,0,none⟩=some (.slice none 0 0):=(bC Bb.out 0).trans rfl;have BV:w21.cell? ⟨Ba,1,none⟩=some (.int .i64 0):=(bC Bb.out 1).trans rfl;have BW:=bF Bb.out 0;have BX:=bF Bb.out 1)|(go_at_call 15;(with_reducible refine (laws_qdQueue.calls kj2 _ _ t339 t342 _ _ t348 t351 true _ ?side1 ?side2 ?side3 ?side4 A29.out).mono ?_);(case side1=>refine (Kd.R_reads' (e:=40) (base:=w.heap.size) (ok:=fun k_=>((True∧some k_≠(.slice Ao12 t333.length co12:Value).ownBlock)∧some k_≠(.slice Ao22 t348.length co22:Value).ownBlock)) (n:=t339.length) (c:=co16) ?_).2.2;exact (by (with_reducible repeat (first|apply rA|apply rN|apply rD));exact (rM (rF (p:=⟨Ba,1,none⟩) (rF (p:=⟨Ba,0,none⟩) (rT Bi.out Bb.out (by decide)) (fun _ hk=>hk.2) (.slice Ao22 t348.length co22)) (fun _ hk=>hk.2) (.int .i64 t351)) (fun _ h_=>h_.1))));(case side2=>exact (Kd.R_reads' Bi.out).2.1);(case side3=>refine (Kd.R_reads' (e:=40) (base:=w.heap.size) (ok:=fun k_=>((True∧some k_≠(.slice Ao12 t333.length co12:Value).ownBlock)∧some k_≠(.slice Ao16 t339.length co16:Value).ownBlock)) (n:=t348.length) (c:=co22) ?_).2.2;exact (by (with_reducible repeat (first|apply rA|apply rN|apply rD));exact (rM (rF (p:=⟨Ba,1,none⟩) (rF (p:=⟨Ba,0,none⟩) (rT Bm.out Bb.out (by decide)) (fun _ hk=>hk.2) (.slice Ao22 t348.length co22)) (fun _ hk=>hk.2) (.int .i64 t351)) (fun _ h_=>h_.1))));(case side4=>exact (Kd.R_reads' Bm.out).2.1);rintro e w38 ⟨rfl,hb⟩;have n0_:=Am (rB (by (with_reducible repeat (first|apply rA|apply rN|apply rD));exact (rM (rF (p:=⟨Ba,1,none⟩) (rF (p:=⟨Ba,0,none⟩) (rT Bg.out Bb.out (by decide)) (fun _ hk=>hk.2) (.slice Ao22 t348.length co22)) (fun _ hk=>hk.2) (.int .i64 t351)) (fun _ h_=>h_.1))) hb);have n1_:=Am (rB (by (with_reducible repeat (first|apply rA|apply rN|apply rD));exact (rM (rF (p:=⟨Ba,1,none⟩) (rF (p:=⟨Ba,0,none⟩) (rT Bi.out Bb.out (by decide)) (fun _ hk=>hk.2) (.slice Ao22 t348.length co22)) (fun _ hk=>hk.2) (.int .i64 t351)) (fun _ h_=>h_.1))) hb);have n2_:=Am (rB (by (with_reducible repeat (first|apply rA|apply rN|apply rD));exact (rM (rF (p:=⟨Ba,1,none⟩) (rF (p:=⟨Ba,0,none⟩) (rT Bh.out Bb.out (by decide)) (fun _ hk=>hk.2) (.slice Ao22 t348.length co22)) (fun _ hk=>hk.2) (.int .i64 t351)) (fun _ h_=>h_.1))) hb);have n3_:=Am (rB (by (with_reducible repeat (first|apply rA|apply rN|apply rD));exact (rM (rF (p:=⟨Ba,1,none⟩) (rF (p:=⟨Ba,0,none⟩) (rT Bm.out Bb.out (by decide)) (fun _ hk=>hk.2) (.slice Ao22 t348.length co22)) (fun _ hk=>hk.2) (.int .i64 t351)) (fun _ h_=>h_.1))) hb);have n4_:=Am (rB (by (with_reducible repeat (first|apply rA|apply rN|apply rD));exact (rM (rF (p:=⟨Ba,1,none⟩) (rF (p:=⟨Ba,0,none⟩) (rT Bk.out Bb.out (by decide)) (fun _ hk=>hk.2) (.slice Ao22 t348.length co22)) (fun _ hk=>hk.2) (.int .i64 t351)) (fun _ h_=>h_.1))) hb);have n5_:=Am (bB (g:=Bf) (o:=.cells #[.slice Ao12 t333.length co12,.int .i64 t336] 25 (0,0)) (by (with_reducible repeat (first|refine bN ?_ _|refine bD ?_|refine bA ?_ _|refine blk_far ?_ Bl.out _));exact Bc.out) hb);have n6_:=Am (bB (g:=Be) (o:=.cells #[.slice Ao16 t339.length co16,.int .i64 t342] 25 (0,0)) (by (with_reducible repeat (first|refine bN ?_ _|refine bD ?_|refine bA ?_ _|refine blk_far ?_ Bs.out _));exact Bd.out) hb);have n7_:=Am (bB (g:=Ba) (o:=.cells #[.slice Ao22 t348.length co22,.int .i64 t351] 25 (0,0)) (by (with_reducible repeat (first|refine bN ?_ _|refine bD ?_|refine bA ?_ _));refine blk_put (cs:=#[.slice Ao22 t348.length co22,.int .i64 0]) ?_ 1 _ rfl;(with_reducible repeat (first|refine bN ?_ _|refine bD ?_|refine bA ?_ _));refine blk_put (cs:=#[.slice none 0 0,.int .i64 0]) ?_ 0 _ rfl;(with_reducible repeat (first|refine bN ?_ _|refine bD ?_|refine bA ?_ _));exact Bb.out) hb);have n8_:=Am (bP (by repeat (first|(with_reducible first|exact HB.out|apply oA|apply pN|apply o1|refine bS ?_ Bj.out|refine bS ?_ Br.out|refine bS ?_ Bx.out)|exact HB.out)) hb);clear Bg Bi Bh Bm Bk Bc Bd Bb HB;revert n0_ n1_ n2_ n3_ n4_ n5_ n6_ n7_ n8_;intro Bg Bi Bh Bm Bk Bc Bd Bb HB;(try clear hb);(try clear hb2);(try clear hk);(try clear hi))))
     go_meet
     case rel=>exact ⟨_,(!t346),(by first|rfl|(simp;done)|(simp [*];done)),H',⟨by have:=Bz.out;first|omega|exact Nat.le_refl _⟩,⟨by (with_reducible repeat (first|apply rA|apply rN|apply rD));exact rM Bh.out (fun _ hk=>hk.2)⟩,⟨by (with_reducible repeat (first|apply rA|apply rN|apply rD));exact rM Bk.out (fun _ hk=>hk.2)⟩,⟨by (with_reducible repeat (first|apply rA|apply rN|apply rD));exact rM Bg.out (fun _ hk=>⟨hk.1.2,hk.2⟩)⟩,⟨by (with_reducible repeat (first|apply rA|apply rN|apply rD));exact rM Bi.out (fun _ hk=>⟨hk.1.2,hk.2⟩)⟩,⟨by (with_reducible repeat (first|apply rA|apply rN|apply rD));exact rM Bm.out (fun _ hk=>⟨hk.1.2,hk.2⟩)⟩,⟨by (with_reducible repeat (first|refine bN ?_ _|refine bD ?_|refine bA ?_ _));exact Bc.out⟩,⟨by (with_reducible repeat (first|refine bN ?_ _|refine bD ?_|refine bA ?_ _));exact Bd.out⟩,⟨by (with_reducible repeat (first|refine bN ?_ _|refine bD ?_|refine bA ?_ _));exact Bb.out⟩,⟨by repeat (first|(with_reducible first|exact HB.out|apply oA|apply pN|apply o1|refine bS ?_ Bj.out|refine bS ?_ Br.out|refine bS ?_ Bx.out)|exact HB.out)⟩⟩
    replace c30:=Bool.eq_false_iff.mpr c30
    subst c30
    have H1:(laws_FnShareServed.j1 kj2 t343 t346 t352 t355 true t333 t336 t339 t342 t348 t351)=some r:=by rw [if_neg (show ¬ (false=true) by decide)] at H;exact H
    clear H
    have H:=H1
    clear H1
    have H':=Am H
    clear H
    obtain ⟨Ao39,co39,eo39⟩:=Kd.R_slice Bh.out
    subst eo39
    obtain ⟨Ao40,co40,eo40⟩:=Kd.R_slice Bk.out
    subst eo40
    go_wp2_with (first|(go_at_call 32;(with_reducible refine (laws_qdInts.calls kj2 _ _ t343 _ _ t352 true _ ?side1 ?side2 ?side3 ?side4 A27.out).mono ?_);(case side1=>refine (Kd.R_reads' (e:=3) (base:=w.heap.size) (ok:=fun k_=>(True∧some k_≠(.slice Ao40 t352.length co40:Value).ownBlock)) (n:=t343.length) (c:=co39) ?_).2.2;exact (by (with_reducible repeat (first|apply rA|apply rN|apply rD));exact (rM (rF (p:=⟨Ba,1,none⟩) (rF (p:=⟨Ba,0,none⟩) (rT Bh.out Bb.out (by decide)) (fun _ hk=>hk.2) (.slice Ao22 t348.length co22)) (fun _ hk=>hk.2) (.int .i64 t351)) (fun _ h_=>h_.1))));(case side2=>exact (Kd.R_reads' Bh.out).2.1);(case side3=>refine (Kd.R_reads' (e:=3) (base:=w.heap.size) (ok:=fun k_=>(True∧some k_≠(.slice Ao39 t343.length co39:Value).ownBlock)) (n:=t352.length) (c:=co40) ?_).2.2;exact (by (with_reducible repeat (first|apply rA|apply rN|apply rD));exact (rM (rF (p:=⟨Ba,1,none⟩) (rF (p:=⟨Ba,0,none⟩) (rT Bk.out Bb.out (by decide)) (fun _ hk=>hk.2) (.slice Ao22 t348.length co22)) (fun _ hk=>hk.2) (.int .i64 t351)) (fun _ h_=>h_.1))));(case side4=>exact (Kd.R_reads' Bk.out).2.1);rintro e w' ⟨rfl,⟨nd,rfl⟩⟩;(try first|exact ⟨rfl,_,World.drewN_drewN _ _ _⟩|exact ⟨rfl,_,Eq.trans (World.drewN_drewN _ _ _) (congrArg (World.drewN _) (Nat.add_assoc _ _ _))⟩);have Du:=Bt.out;have Dv:=Bq.out;have Dw:=Bs.out;have Dx:=Bv.out;have BY:w21.cell? ⟨Be,0,none⟩=some (.slice Ao16 t339.length co16):=(bC Bd.out 0).trans rfl;have BZ:w21.cell? ⟨Be,1,none⟩=some (.int .i64 t342):=(bC Bd.out 1).trans rfl;have B0:=bF Bd.out 0;have B1:=bF Bd.out 1;have Dy:=Bu.out;have Dz:=Bl.out;have B2:w21.cell? ⟨Ba,0,none⟩=some (.slice none 0 0):=(bC Bb.out 0).trans rfl;have B3:w21.cell? ⟨Ba,1,none⟩=some (.int .i64 0):=(bC Bb.out 1).trans rfl;have B4:=bF Bb.out 0;have B5:=bF Bb.out 1)|(go_at_call 15;(with_reducible refine (laws_qdQueue.calls kj2 _ _ t339 t342 _ _ t348 t351 false _ ?side1 ?side2 ?side3 ?side4 A29.out).mono ?_);(case side1=>refine (Kd.R_reads' (e:=40) (base:=w.heap.size) (ok:=fun k_=>((True∧some k_≠(.slice Ao12 t333.length co12:Value).ownBlock)∧some k_≠(.slice Ao22 t348.length co22:Value).ownBlock)) (n:=t339.length) (c:=co16) ?_).2.2;exact (by (with_reducible repeat (first|apply rA|apply rN|apply rD));exact (rM (rF (p:=⟨Ba,1,none⟩) (rF (p:=⟨Ba,0,none⟩) (rT Bi.out Bb.out (by decide)) (fun _ hk=>hk.2) (.slice Ao22 t348.length co22)) (fun _ hk=>hk.2) (.int .i64 t351)) (fun _ h_=>h_.1))));(case side2=>exact (Kd.R_reads' Bi.out).2.1);(case side3=>refine (Kd.R_reads' (e:=40) (base:=w.heap.size) (ok:=fun k_=>((True∧some k_≠(.slice Ao12 t333.length co12:Value).ownBlock)∧some k_≠(.slice Ao16 t339.length co16:Value).ownBlock)) (n:=t348.length) (c:=co22) ?_).2.2;exact (by (with_reducible repeat (first|apply rA|apply rN|apply rD));exact (rM (rF (p:=⟨Ba,1,none⟩) (rF (p:=⟨Ba,0,none⟩) (rT Bm.out Bb.out (by decide)) (fun _ hk=>hk.2) (.slice Ao22 t348.length co22)) (fun _ hk=>hk.2) (.int .i64 t351)) (fun _ h_=>h_.1))));(case side4=>exact (Kd.R_reads' Bm.out).2.1);rintro e w46 ⟨rfl,hb⟩;have n0_:=Am (rB (by (with_reducible repeat (first|apply rA|apply rN|apply rD));exact (rM (rF (p:=⟨Ba,1,none⟩) (rF (p:=⟨Ba,0,none⟩) (rT Bg.out Bb.out (by decide)) (fun _ hk=>hk.2) (.slice Ao22 t348.length co22)) (fun _ hk=>hk.2) (.int .i64 t351)) (fun _ h_=>h_.1))) hb);have n1_:=Am (rB (by (with_reducible repeat (first|apply rA|apply rN|apply rD));exact (rM (rF (p:=⟨Ba,1,none⟩) (rF (p:=⟨Ba,0,none⟩) (rT Bi.out Bb.out (by decide)) (fun _ hk=>hk.2) (.slice Ao22 t348.length co22)) (fun _ hk=>hk.2) (.int .i64 t351)) (fun _ h_=>h_.1))) hb);have n2_:=Am (rB (by (with_reducible repeat (first|apply rA|apply rN|apply rD));exact (rM (rF (p:=⟨Ba,1,none⟩) (rF (p:=⟨Ba,0,none⟩) (rT Bh.out Bb.out (by decide)) (fun _ hk=>hk.2) (.slice Ao22 t348.length co22)) (fun _ hk=>hk.2) (.int .i64 t351)) (fun _ h_=>h_.1))) hb);have n3_:=Am (rB (by (with_reducible repeat (first|apply rA|apply rN|apply rD));exact (rM (rF (p:=⟨Ba,1,none⟩) (rF (p:=⟨Ba,0,none⟩) (rT Bm.out Bb.out (by decide)) (fun _ hk=>hk.2) (.slice Ao22 t348.length co22)) (fun _ hk=>hk.2) (.int .i64 t351)) (fun _ h_=>h_.1))) hb);have n4_:=Am (rB (by (with_reducible repeat (first|apply rA|apply rN|apply rD));exact (rM (rF (p:=⟨Ba,1,none⟩) (rF (p:=⟨Ba,0,none⟩) (rT Bk.out Bb.out (by decide)) (fun _ hk=>hk.2) (.slice Ao22 t348.length co22)) (fun _ hk=>hk.2) (.int .i64 t351)) (fun _ h_=>h_.1))) hb);have n5_:=Am (bB (g:=Bf) (o:=.cells #[.slice Ao12 t333.length co12,.int .i64 t336] 25 (0,0)) (by (with_reducible repeat (first|refine bN ?_ _|refine bD ?_|refine bA ?_ _|refine blk_far ?_ Bl.out _));exact Bc.out) hb);have n6_:=Am (bB (g:=Be) (o:=.cells #[.slice Ao16 t339.length co16,.int .i64 t342] 25 (0,0)) (by (with_reducible repeat (first|refine bN ?_ _|refine bD ?_|refine bA ?_ _|refine blk_far ?_ Bs.out _));exact Bd.out) hb);have n7_:=Am (bB (g:=Ba) (o:=.cells #[.slice Ao22 t348.length co22,.int .i64 t351] 25 (0,0)) (by (with_reducible repeat (first|refine bN ?_ _|refine bD ?_|refine bA ?_ _));refine blk_put (cs:=#[.slice Ao22 t348.length co22,.int .i64 0]) ?_ 1 _ rfl;(with_reducible repeat (first|refine bN ?_ _|refine bD ?_|refine bA ?_ _));refine blk_put (cs:=#[.slice none 0 0,.int .i64 0]) ?_ 0 _ rfl;(with_reducible repeat (first|refine bN ?_ _|refine bD ?_|refine bA ?_ _));exact Bb.out) hb);have n8_:=Am (bP (by repeat (first|(with_reducible first|exact HB.out|apply oA|apply pN|apply o1|refine bS ?_ Bj.out|refine bS ?_ Br.out|refine bS ?_ Bx.out)|exact HB.out)) hb);clear Bg Bi Bh Bm Bk Bc Bd Bb HB;revert n0_ n1_ n2_ n3_ n4_ n5_ n6_ n7_ n8_;intro Bg Bi Bh Bm Bk Bc Bd Bb HB;(try clear hb);(try clear hb2);(try clear hk);(try clear hi)))
    repeat (go_quiet (first|(go_at_call 32;(with_reducible refine (laws_qdInts.calls kj2 _ _ t343 _ _ t352 true _ ?side1 ?side2 ?side3 ?side4 A27.out).mono ?_);(case side1=>refine (Kd.R_reads' (e:=3) (base:=w.heap.size) (ok:=fun k_=>(True∧some k_≠(.slice Ao40 t352.length co40:Value).ownBlock)) (n:=t343.length) (c:=co39) ?_).2.2;exact (by (with_reducible repeat (first|apply rA|apply rN|apply rD));exact (rM (rF (p:=⟨Ba,1,none⟩) (rF (p:=⟨Ba,0,none⟩) (rT Bh.out Bb.out (by decide)) (fun _ hk=>hk.2) (.slice Ao22 t348.length co22)) (fun _ hk=>hk.2) (.int .i64 t351)) (fun _ h_=>h_.1))));(case side2=>exact (Kd.R_reads' Bh.out).2.1);(case side3=>refine (Kd.R_reads' (e:=3) (base:=w.heap.size) (ok:=fun k_=>(True∧some k_≠(.slice Ao39 t343.length co39:Value).ownBlock)) (n:=t352.length) (c:=co40) ?_).2.2;exact (by (with_reducible repeat (first|apply rA|apply rN|apply rD));exact (rM (rF (p:=⟨Ba,1,none⟩) (rF (p:=⟨Ba,0,none⟩) (rT Bk.out Bb.out (by decide)) (fun _ hk=>hk.2) (.slice Ao22 t348.length co22)) (fun _ hk=>hk.2) (.int .i64 t351)) (fun _ h_=>h_.1))));(case side4=>exact (Kd.R_reads' Bk.out).2.1);rintro e w' ⟨rfl,⟨nd,rfl⟩⟩;(try first|exact ⟨rfl,_,World.drewN_drewN _ _ _⟩|exact ⟨rfl,_,Eq.trans (World.drewN_drewN _ _ _) (congrArg (World.drewN _) (Nat.add_assoc _ _ _))⟩);have Du:=Bt.out;have Dv:=Bq.out;have Dw:=Bs.out;have Dx:=Bv.out;have BY:w21.cell? ⟨Be,0,none⟩=some (.slice Ao16 t339.length co16):=(bC Bd.out 0).trans rfl;have BZ:w21.cell? ⟨Be,1,none⟩=some (.int .i64 t342):=(bC Bd.out 1).trans rfl;have B0:=bF Bd.out 0;have B1:=bF Bd.out 1;have Dy:=Bu.out;have Dz:=Bl.out;have B2:w21.cell? ⟨Ba,0,none⟩=some (.slice none 0 0):=(bC Bb.out 0).trans rfl;have B3:w21.cell? ⟨Ba,1,none⟩=some (.int .i64 0):=(bC Bb.out 1).trans rfl;have B4:=bF Bb.out 0;have B5:=bF Bb.out 1)|(go_at_call 15;(with_reducible refine (laws_qdQueue.calls kj2 _ _ t339 t342 _ _ t348 t351 false _ ?side1 ?side2 ?side3 ?side4 A29.out).mono ?_);(case side1=>refine (Kd.R_reads' (e:=40) (base:=w.heap.size) (ok:=fun k_=>((True∧some k_≠(.slice Ao12 t333.length co12:Value).ownBlock)∧some k_≠(.slice Ao22 t348.length co22:Value).ownBlock)) (n:=t339.length) (c:=co16) ?_).2.2;exact (by (with_reducible repeat (first|apply rA|apply rN|apply rD));exact (rM (rF (p:=⟨Ba,1,none⟩) (rF (p:=⟨Ba,0,none⟩) (rT Bi.out Bb.out (by decide)) (fun _ hk=>hk.2) (.slice Ao22 t348.length co22)) (fun _ hk=>hk.2) (.int .i64 t351)) (fun _ h_=>h_.1))));(case side2=>exact (Kd.R_reads' Bi.out).2.1);(case side3=>refine (Kd.R_reads' (e:=40) (base:=w.heap.size) (ok:=fun k_=>((True∧some k_≠(.slice Ao12 t333.length co12:Value).ownBlock)∧some k_≠(.slice Ao16 t339.length co16:Value).ownBlock)) (n:=t348.length) (c:=co22) ?_).2.2;exact (by (with_reducible repeat (first|apply rA|apply rN|apply rD));exact (rM (rF (p:=⟨Ba,1,none⟩) (rF (p:=⟨Ba,0,none⟩) (rT Bm.out Bb.out (by decide)) (fun _ hk=>hk.2) (.slice Ao22 t348.length co22)) (fun _ hk=>hk.2) (.int .i64 t351)) (fun _ h_=>h_.1))));(case side4=>exact (Kd.R_reads' Bm.out).2.1);rintro e w46 ⟨rfl,hb⟩;have n0_:=Am (rB (by (with_reducible repeat (first|apply rA|apply rN|apply rD));exact (rM (rF (p:=⟨Ba,1,none⟩) (rF (p:=⟨Ba,0,none⟩) (rT Bg.out Bb.out (by decide)) (fun _ hk=>hk.2) (.slice Ao22 t348.length co22)) (fun _ hk=>hk.2) (.int .i64 t351)) (fun _ h_=>h_.1))) hb);have n1_:=Am (rB (by (with_reducible repeat (first|apply rA|apply rN|apply rD));exact (rM (rF (p:=⟨Ba,1,none⟩) (rF (p:=⟨Ba,0,none⟩) (rT Bi.out Bb.out (by decide)) (fun _ hk=>hk.2) (.slice Ao22 t348.length co22)) (fun _ hk=>hk.2) (.int .i64 t351)) (fun _ h_=>h_.1))) hb);have n2_:=Am (rB (by (with_reducible repeat (first|apply rA|apply rN|apply rD));exact (rM (rF (p:=⟨Ba,1,none⟩) (rF (p:=⟨Ba,0,none⟩) (rT Bh.out Bb.out (by decide)) (fun _ hk=>hk.2) (.slice Ao22 t348.length co22)) (fun _ hk=>hk.2) (.int .i64 t351)) (fun _ h_=>h_.1))) hb);have n3_:=Am (rB (by (with_reducible repeat (first|apply rA|apply rN|apply rD));exact (rM (rF (p:=⟨Ba,1,none⟩) (rF (p:=⟨Ba,0,none⟩) (rT Bm.out Bb.out (by decide)) (fun _ hk=>hk.2) (.slice Ao22 t348.length co22)) (fun _ hk=>hk.2) (.int .i64 t351)) (fun _ h_=>h_.1))) hb);have n4_:=Am (rB (by (with_reducible repeat (first|apply rA|apply rN|apply rD));exact (rM (rF (p:=⟨Ba,1,none⟩) (rF (p:=⟨Ba,0,none⟩) (rT Bk.out Bb.out (by decide)) (fun _ hk=>hk.2) (.slice Ao22 t348.length co22)) (fun _ hk=>hk.2) (.int .i64 t351)) (fun _ h_=>h_.1))) hb);have n5_:=Am (bB (g:=Bf) (o:=.cells #[.slice Ao12 t333.length co12,.int .i64 t336] 25 (0,0)) (by (with_reducible repeat (first|refine bN ?_ _|refine bD ?_|refine bA ?_ _|refine blk_far ?_ Bl.out _));exact Bc.out) hb);have n6_:=Am (bB (g:=Be) (o:=.cells #[.slice Ao16 t339.length co16,.int .i64 t342] 25 (0,0)) (by (with_reducible repeat (first|refine bN ?_ _|refine bD ?_|refine bA ?_ _|refine blk_far ?_ Bs.out _));exact Bd.out) hb);have n7_:=Am (bB (g:=Ba) (o:=.cells #[.slice Ao22 t348.length co22,.int .i64 t351] 25 (0,0)) (by (with_reducible repeat (first|refine bN ?_ _|refine bD ?_|refine bA ?_ _));refine blk_put (cs:=#[.slice Ao22 t348.length co22,.int .i64 0]) ?_ 1 _ rfl;(with_reducible repeat (first|refine bN ?_ _|refine bD ?_|refine bA ?_ _));refine blk_put (cs:=#[.slice none 0 0,.int .i64 0]) ?_ 0 _ rfl;(with_reducible repeat (first|refine bN ?_ _|refine bD ?_|refine bA ?_ _));exact Bb.out) hb);have n8_:=Am (bP (by repeat (first|(with_reducible first|exact HB.out|apply oA|apply pN|apply o1|refine bS ?_ Bj.out|refine bS ?_ Br.out|refine bS ?_ Bx.out)|exact HB.out)) hb);clear Bg Bi Bh Bm Bk Bc Bd Bb HB;revert n0_ n1_ n2_ n3_ n4_ n5_ n6_ n7_ n8_;intro Bg Bi Bh Bm Bk Bc Bd Bb HB;(try clear hb);(try clear hb2);(try clear hk);(try clear hi)));try go_wp2_with (first|(go_at_call 32;(with_reducible refine (laws_qdInts.calls kj2 _ _ t343 _ _ t352 true _ ?side1 ?side2 ?side3 ?side4 A27.out).mono ?_);(case side1=>refine (Kd.R_reads' (e:=3) (base:=w.heap.size) (ok:=fun k_=>(True∧some k_≠(.slice Ao40 t352.length co40:Value).ownBlock)) (n:=t343.length) (c:=co39) ?_).2.2;exact (by (with_reducible repeat (first|apply rA|apply rN|apply rD));exact (rM (rF (p:=⟨Ba,1,none⟩) (rF (p:=⟨Ba,0,none⟩) (rT Bh.out Bb.out (by decide)) (fun _ hk=>hk.2) (.slice Ao22 t348.length co22)) (fun _ hk=>hk.2) (.int .i64 t351)) (fun _ h_=>h_.1))));(case side2=>exact (Kd.R_reads' Bh.out).2.1);(case side3=>refine (Kd.R_reads' (e:=3) (base:=w.heap.size) (ok:=fun k_=>(True∧some k_≠(.slice Ao39 t343.length co39:Value).ownBlock)) (n:=t352.length) (c:=co40) ?_).2.2;exact (by (with_reducible repeat (first|apply rA|apply rN|apply rD));exact (rM (rF (p:=⟨Ba,1,none⟩) (rF (p:=⟨Ba,0,none⟩) (rT Bk.out Bb.out (by decide)) (fun _ hk=>hk.2) (.slice Ao22 t348.length co22)) (fun _ hk=>hk.2) (.int .i64 t351)) (fun _ h_=>h_.1))));(case side4=>exact (Kd.R_reads' Bk.out).2.1);rintro e w' ⟨rfl,⟨nd,rfl⟩⟩;(try first|exact ⟨rfl,_,World.drewN_drewN _ _ _⟩|exact ⟨rfl,_,Eq.trans (World.drewN_drewN _ _ _) (congrArg (World.drewN _) (Nat.add_assoc _ _ _))⟩);have Du:=Bt.out;have Dv:=Bq.out;have Dw:=Bs.out;have Dx:=Bv.out;have BY:w21.cell? ⟨Be,0,none⟩=some (.slice Ao16 t339.length co16):=(bC Bd.out 0).trans rfl;have BZ:w21.cell? ⟨Be,1,none⟩=some (.int .i64 t342):=(bC Bd.out 1).trans rfl;have B0:=bF Bd.out 0;have B1:=bF Bd.out 1;have Dy:=Bu.out;have Dz:=Bl.out;have B2:w21.cell? ⟨Ba,0,none⟩=some (.slice none 0 0):=(bC Bb.out 0).trans rfl;have B3:w21.cell? ⟨Ba,1,none⟩=some (.int .i64 0):=(bC Bb.out 1).trans rfl;have B4:=bF Bb.out 0;have B5:=bF Bb.out 1)|(go_at_call 15;(with_reducible refine (laws_qdQueue.calls kj2 _ _ t339 t342 _ _ t348 t351 false _ ?side1 ?side2 ?side3 ?side4 A29.out).mono ?_);(case side1=>refine (Kd.R_reads' (e:=40) (base:=w.heap.size) (ok:=fun k_=>((True∧some k_≠(.slice Ao12 t333.length co12:Value).ownBlock)∧some k_≠(.slice Ao22 t348.length co22:Value).ownBlock)) (n:=t339.length) (c:=co16) ?_).2.2;exact (by (with_reducible repeat (first|apply rA|apply rN|apply rD));exact (rM (rF (p:=⟨Ba,1,none⟩) (rF (p:=⟨Ba,0,none⟩) (rT Bi.out Bb.out (by decide)) (fun _ hk=>hk.2) (.slice Ao22 t348.length co22)) (fun _ hk=>hk.2) (.int .i64 t351)) (fun _ h_=>h_.1))));(case side2=>exact (Kd.R_reads' Bi.out).2.1);(case side3=>refine (Kd.R_reads' (e:=40) (base:=w.heap.size) (ok:=fun k_=>((True∧some k_≠(.slice Ao12 t333.length co12:Value).ownBlock)∧some k_≠(.slice Ao16 t339.length co16:Value).ownBlock)) (n:=t348.length) (c:=co22) ?_).2.2;exact (by (with_reducible repeat (first|apply rA|apply rN|apply rD));exact (rM (rF (p:=⟨Ba,1,none⟩) (rF (p:=⟨Ba,0,none⟩) (rT Bm.out Bb.out (by decide)) (fun _ hk=>hk.2) (.slice Ao22 t348.length co22)) (fun _ hk=>hk.2) (.int .i64 t351)) (fun _ h_=>h_.1))));(case side4=>exact (Kd.R_reads' Bm.out).2.1);rintro e w46 ⟨rfl,hb⟩;have n0_:=Am (rB (by (with_reducible repeat (first|apply rA|apply rN|apply rD));exact (rM (rF (p:=⟨Ba,1,none⟩) (rF (p:=⟨Ba,0,none⟩) (rT Bg.out Bb.out (by decide)) (fun _ hk=>hk.2) (.slice Ao22 t348.length co22)) (fun _ hk=>hk.2) (.int .i64 t351)) (fun _ h_=>h_.1))) hb);have n1_:=Am (rB (by (with_reducible repeat (first|apply rA|apply rN|apply rD));exact (rM (rF (p:=⟨Ba,1,none⟩) (rF (p:=⟨Ba,0,none⟩) (rT Bi.out Bb.out (by decide)) (fun _ hk=>hk.2) (.slice Ao22 t348.length co22)) (fun _ hk=>hk.2) (.int .i64 t351)) (fun _ h_=>h_.1))) hb);have n2_:=Am (rB (by (with_reducible repeat (first|apply rA|apply rN|apply rD));exact (rM (rF (p:=⟨Ba,1,none⟩) (rF (p:=⟨Ba,0,none⟩) (rT Bh.out Bb.out (by decide)) (fun _ hk=>hk.2) (.slice Ao22 t348.length co22)) (fun _ hk=>hk.2) (.int .i64 t351)) (fun _ h_=>h_.1))) hb);have n3_:=Am (rB (by (with_reducible repeat (first|apply rA|apply rN|apply rD));exact (rM (rF (p:=⟨Ba,1,none⟩) (rF (p:=⟨Ba,0,none⟩) (rT Bm.out Bb.out (by decide)) (fun _ hk=>hk.2) (.slice Ao22 t348.length co22)) (fun _ hk=>hk.2) (.int .i64 t351)) (fun _ h_=>h_.1))) hb);have n4_:=Am (rB (by (with_reducible repeat (first|apply rA|apply rN|apply rD));exact (rM (rF (p:=⟨Ba,1,none⟩) (rF (p:=⟨Ba,0,none⟩) (rT Bk.out Bb.out (by decide)) (fun _ hk=>hk.2) (.slice Ao22 t348.length co22)) (fun _ hk=>hk.2) (.int .i64 t351)) (fun _ h_=>h_.1))) hb);have n5_:=Am (bB (g:=Bf) (o:=.cells #[.slice Ao12 t333.length co12,.int .i64 t336] 25 (0,0)) (by (with_reducible repeat (first|refine bN ?_ _|refine bD ?_|refine bA ?_ _|refine blk_far ?_ Bl.out _));exact Bc.out) hb);have n6_:=Am (bB (g:=Be) (o:=.cells #[.slice Ao16 t339.length co16,.int .i64 t342] 25 (0,0)) (by (with_reducible repeat (first|refine bN ?_ _|refine bD ?_|refine bA ?_ _|refine blk_far ?_ Bs.out _));exact Bd.out) hb);have n7_:=Am (bB (g:=Ba) (o:=.cells #[.slice Ao22 t348.length co22,.int .i64 t351] 25 (0,0)) (by (with_reducible repeat (first|refine bN ?_ _|refine bD ?_|refine bA ?_ _));refine blk_put (cs:=#[.slice Ao22 t348.length co22,.int .i64 0]) ?_ 1 _ rfl;(with_reducible repeat (first|refine bN ?_ _|refine bD ?_|refine bA ?_ _));refine blk_put (cs:=#[.slice none 0 0,.int .i64 0]) ?_ 0 _ rfl;(with_reducible repeat (first|refine bN ?_ _|refine bD ?_|refine bA ?_ _));exact Bb.out) hb);have n8_:=Am (bP (by repeat (first|(with_reducible first|exact HB.out|apply oA|apply pN|apply o1|refine bS ?_ Bj.out|refine bS ?_ Br.out|refine bS ?_ Bx.out)|exact HB.out)) hb);clear Bg Bi Bh Bm Bk Bc Bd Bb HB;revert n0_ n1_ n2_ n3_ n4_ n5_ n6_ n7_ n8_;intro Bg Bi Bh Bm Bk Bc Bd Bb HB;(try clear hb);(try clear hb2);(try clear hk);(try clear hi))))
    go_meet
    case rel=>exact ⟨_,(true),(by first|rfl|(simp;done)|(simp [*];done)),H',⟨by have:=Bz.out;first|omega|exact Nat.le_refl _⟩,⟨by (with_reducible repeat (first|apply rA|apply rN|apply rD));exact rM Bh.out (fun _ hk=>hk.2)⟩,⟨by (with_reducible repeat (first|apply rA|apply rN|apply rD));exact rM Bk.out (fun _ hk=>hk.2)⟩,⟨by (with_reducible repeat (first|apply rA|apply rN|apply rD));exact rM Bg.out (fun _ hk=>⟨hk.1.2,hk.2⟩)⟩,⟨by (with_reducible repeat (first|apply rA|apply rN|apply rD));exact rM Bi.out (fun _ hk=>⟨hk.1.2,hk.2⟩)⟩,⟨by (with_reducible repeat (first|apply rA|apply rN|apply rD));exact rM Bm.out (fun _ hk=>⟨hk.1.2,hk.2⟩)⟩,⟨by (with_reducible repeat (first|refine bN ?_ _|refine bD ?_|refine bA ?_ _));exact Bc.out⟩,⟨by (with_reducible repeat (first|refine bN ?_ _|refine bD ?_|refine bA ?_ _));exact Bd.out⟩,⟨by (with_reducible repeat (first|refine bN ?_ _|refine bD ?_|refine bA ?_ _));exact Bb.out⟩,⟨by repeat (first|(with_reducible first|exact HB.out|apply oA|apply pN|apply o1|refine bS ?_ Bj.out|refine bS ?_ Br.out|refine bS ?_ Bx.out)|exact HB.out)⟩⟩
   case rest =>
    clear HC9
    try clear c1
    try clear c2
    try clear p2
    try clear c3
    try clear c4
    try clear c4b0
    try clear c4b1
    try clear c5
    try clear c11
    try clear c17
    try clear c23
    try clear c24
    try clear c26
    try clear c26b0
    try clear c26b1
    try clear c26b2
    try clear c28
    try clear c30
    try clear c33
    try clear c34
    try clear c36
    try clear c41
    try clear c42
    try clear c44
    try clear BA
    try clear BB
    try clear BE
    try clear BF
    try clear BI
    try clear BJ
    try clear BM
    try clear BN
    try clear BQ
    try clear BR
    try clear BU
    try clear BV
    try clear BY
    try clear BZ
    try clear B2
    try clear B3
    try clear BC
    try clear BD
    try clear BG
    try clear BH
    try clear BK
    try clear BL
    try clear BO
    try clear BP
    try clear BS
    try clear BT
    try clear BW
    try clear BX
    try clear B0
    try clear B1
    try clear B4
    try clear B5
    try clear p2
    obtain ⟨kq,x67_8,rfl,HA,De,Bw,By,Bn,Bo,Bp,Bc,Bd,Bb,HB⟩:=hcut
    cases kq with
   |zero=>exact absurd HA.out (by simp [laws_FnShareServed.j1])
   |succ kj8 =>
     have H:=HA.out
     clear HA
     simp only [laws_FnShareServed.j1] at H
     by_cases c49:x67_8=true
     ·subst c49
      have H1:(if (t346 == t355)=true then ((laws_qdInts.f kj8 t343 t352).bind fun t359=>(if t359=true then ((laws_qdQueue.f kj8 t339 t342 t348 t351).bind fun t360=>(some t360)) else (some false))) else (some false))=some r:=by rw [if_pos rfl] at H;exact H
      clear H
      have H:=H1
      clear H1
      by_cases c50:(t346 == t355)=true
      rotate_left
      ·rw [if_neg c50] at H
       have c50b0:(t346 == t355)=false:=by simpa using c50
       (try (have c50b1:decide (t346=t355)=false:=by simpa using c50))
       (try (have c50b2:(t346 == t355)=false:=by simpa using c50))
       (try (have c50b3:¬ (t346=t355):=by simpa using c50))
       clear c50
       exact absurd ((Option.some.inj H).trans hT_.out) (by decide)
      rw [if_pos c50] at H
      have c50b0:(t346 == t355)=true:=c50
      (try (have c50b1:decide (t346=t355)=true:=by simpa using c50))
      (try (have c50b2:(t346 == t355)=true:=by simpa using c50))
      clear c50
      replace H:=oC H
      obtain ⟨t359,A510,H⟩:=H
      replace H:(if t359=true then ((laws_qdQueue.f kj8 t339 t342 t348 t351).bind fun t360=>(some t360)) else (some false))=some r:=H
      have A51:=Am A510
      clear A510
      by_cases c52:t359=true
      rotate_left
      ·replace c52:=Bool.eq_false_iff.mpr c52
       subst c52
       have H1:(some false)=some r:=by rw [if_neg (show ¬ (false=true) by decide)] at H;exact H
       clear H
       have H:=H1
       clear H1
       exact absurd ((Option.some.inj H).trans hT_.out) (by decide)
      subst c52
      have H1:((laws_qdQueue.f kj8 t339 t342 t348 t351).bind fun t360=>(some t360))=some r:=by rw [if_pos rfl] at H;exact H
      clear H
      have H:=H1
      clear H1
      replace H:=oC H
      obtain ⟨t360,A530,H⟩:=H
      replace H:(some t360)=some r:=H
      have A53:=Am A530
      clear A530
      obtain rfl:=Option.some.inj H
      obtain ⟨Ao54,co54,eo54⟩:=Kd.R_slice Bw.out
      subst eo54
      obtain ⟨Ao55,co55,eo55⟩:=Kd.R_slice By.out
      subst eo55
      go_wp2_with (first|(go_at_call 32;(with_reducible refine (laws_qdInts.calls kj8 _ _ t343 _ _ t352 true _ ?side1 ?side2 ?side3 ?side4 A51.out).mono ?_);(case side1=>repeat (first|exact (Kd.R_reads' Bw.out).2.2|(with_reducible refine cA ?_ _)|(with_reducible refine cN ?_ _)|(with_reducible refine cD ?_)));(case side2=>exact (Kd.R_reads' Bw.out).2.1);(case side3=>repeat (first|exact (Kd.R_reads' By.out).2.2|(with_reducible refine cA ?_ _)|(with_reducible refine cN ?_ _)|(with_reducible refine cD ?_)));(case side4=>exact (Kd.R_reads' By.out).2.1);rintro e w' ⟨rfl,⟨nd,rfl⟩⟩;(try first|exact ⟨rfl,_,World.drewN_drewN _ _ _⟩|exact ⟨rfl,_,Eq.trans (World.drewN_drewN _ _ _) (congrArg (World.drewN _) (Nat.add_assoc _ _ _))⟩);have DA:=Bt.out;have DB:=Bq.out;have DC:=Bs.out;have DD:=Bv.out;have B6:wc.cell? ⟨Be,0,none⟩=some (.slice Ao16 t339.length co16):=(bC Bd.out 0).trans rfl;have B7:wc.cell? ⟨Be,1,none⟩=some (.int .i64 t342):=(bC Bd.out 1).trans rfl;have B8:=bF Bd.out 0;have B9:=bF Bd.out 1;have DE:=Bu.out;have DF:=Bl.out;have Da:wc.cell? ⟨Ba,0,none⟩=some (.slice Ao22 t348.length co22):=(bC Bb.out 0).trans rfl;have Db:wc.cell? ⟨Ba,1,none⟩=some (.int .i64 t351):=(bC Bb.out 1).trans rfl;have Dc:=bF Bb.out 0;have Dd:=bF Bb.out 1)|(go_at_call 15;(with_reducible refine (laws_qdQueue.calls kj8 _ _ t339 t342 _ _ t348 t351 t360 _ ?side1 ?side2 ?side3 ?side4 A53.out).mono ?_);(case side1=>repeat (first|exact (Kd.R_reads' Bo.out).2.2|(with_reducible refine cA ?_ _)|(with_reducible refine cN ?_ _)|(with_reducible refine cD ?_)));(case side2=>exact (Kd.R_reads' Bo.out).2.1);(case side3=>repeat (first|exact (Kd.R_reads' Bp.out).2.2|(with_reducible refine cA ?_ _)|(with_reducible refine cN ?_ _)|(with_reducible refine cD ?_)));(case side4=>exact (Kd.R_reads' Bp.out).2.1);rintro e w61 ⟨rfl,hb⟩;have n0_:=Am (rB (rL Bw.out) hb);have n1_:=Am (rB (rL By.out) hb);have n2_:=Am (rB (rL Bn.out) hb);have n3_:=Am (rB (rL Bo.out) hb);have n4_:=Am (rB (rL Bp.out) hb);have n5_:=Am (bB (g:=Bf) (o:=.cells #[.slice Ao12 t333.length co12,.int .i64 t336] 25 (0,0)) (bL Bc.out) hb);have n6_:=Am (bB (g:=Be) (o:=.cells #[.slice Ao16 t339.length co16,.int .i64 t342] 25 (0,0)) (bL Bd.out) hb);have n7_:=Am (bB (g:=Ba) (o:=.cells #[.slice Ao22 t348.length co22,.int .i64 t351] 25 (0,0)) (bL Bb.out) hb);have n8_:=Am (bP (by repeat (first|(with_reducible first|exact HB.out|apply oA|apply pN|apply o1|refine bS ?_ Bj.out|refine bS ?_ Br.out|refine bS ?_ Bx.out)|exact HB.out)) hb);clear Bw By Bn Bo Bp Bc Bd Bb HB;revert n0_ n1_ n2_ n3_ n4_ n5_ n6_ n7_ n8_;intro Bw By Bn Bo Bp Bc Bd Bb HB;(try clear hb);(try clear hb2);(try clear hk);(try clear hi)))
      repeat (go_quiet (first|(go_at_call 32;(with_reducible refine (laws_qdInts.calls kj8 _ _ t343 _ _ t352 true _ ?side1 ?side2 ?side3 ?side4 A51.out).mono ?_);(case side1=>repeat (first|exact (Kd.R_reads' Bw.out).2.2|(with_reducible refine cA ?_ _)|(with_reducible refine cN ?_ _)|(with_reducible refine cD ?_)));(case side2=>exact (Kd.R_reads' Bw.out).2.1);(case side3=>repeat (first|exact (Kd.R_reads' By.out).2.2|(with_reducible refine cA ?_ _)|(with_reducible refine cN ?_ _)|(with_reducible refine cD ?_)));(case side4=>exact (Kd.R_reads' By.out).2.1);rintro e w' ⟨rfl,⟨nd,rfl⟩⟩;(try first|exact ⟨rfl,_,World.drewN_drewN _ _ _⟩|exact ⟨rfl,_,Eq.trans (World.drewN_drewN _ _ _) (congrArg (World.drewN _) (Nat.add_assoc _ _ _))⟩);have DA:=Bt.out;have DB:=Bq.out;have DC:=Bs.out;have DD:=Bv.out;have B6:wc.cell? ⟨Be,0,none⟩=some (.slice Ao16 t339.length co16):=(bC Bd.out 0).trans rfl;have B7:wc.cell? ⟨Be,1,none⟩=some (.int .i64 t342):=(bC Bd.out 1).trans rfl;have B8:=bF Bd.out 0;have B9:=bF Bd.out 1;have DE:=Bu.out;have DF:=Bl.out;have Da:wc.cell? ⟨Ba,0,none⟩=some (.slice Ao22 t348.length co22):=(bC Bb.out 0).trans rfl;have Db:wc.cell? ⟨Ba,1,none⟩=some (.int .i64 t351):=(bC Bb.out 1).trans rfl;have Dc:=bF Bb.out 0;have Dd:=bF Bb.out 1)|(go_at_call 15;(with_reducible refine (laws_qdQueue.calls kj8 _ _ t339 t342 _ _ t348 t351 t360 _ ?side1 ?side2 ?side3 ?side4 A53.out).mono ?_);(case side1=>repeat (first|exact (Kd.R_reads' Bo.out).2.2|(with_reducible refine cA ?_ _)|(with_reducible refine cN ?_ _)|(with_reducible refine cD ?_)));(case side2=>exact (Kd.R_reads' Bo.out).2.1);(case side3=>repeat (first|exact (Kd.R_reads' Bp.out).2.2|(with_reducible refine cA ?_ _)|(with_reducible refine cN ?_ _)|(with_reducible refine cD ?_)));(case side4=>exact (Kd.R_reads' Bp.out).2.1);rintro e w61 ⟨rfl,hb⟩;have n0_:=Am (rB (rL Bw.out) hb);have n1_:=Am (rB (rL By.out) hb);have n2_:=Am (rB (rL Bn.out) hb);have n3_:=Am (rB (rL Bo.out) hb);have n4_:=Am (rB (rL Bp.out) hb);have n5_:=Am (bB (g:=Bf) (o:=.cells #[.slice Ao12 t333.length co12,.int .i64 t336] 25 (0,0)) (bL Bc.out) hb);have n6_:=Am (bB (g:=Be) (o:=.cells #[.slice Ao16 t339.length co16,.int .i64 t342] 25 (0,0)) (bL Bd.out) hb);have n7_:=Am (bB (g:=Ba) (o:=.cells #[.slice Ao22 t348.length co22,.int .i64 t351] 25 (0,0)) (bL Bb.out) hb);have n8_:=Am (bP (by repeat (first|(with_reducible first|exact HB.out|apply oA|apply pN|apply o1|refine bS ?_ Bj.out|refine bS ?_ Br.out|refine bS ?_ Bx.out)|exact HB.out)) hb);clear Bw By Bn Bo Bp Bc Bd Bb HB;revert n0_ n1_ n2_ n3_ n4_ n5_ n6_ n7_ n8_;intro Bw By Bn Bo Bp Bc Bd Bb HB;(try clear hb);(try clear hb2);(try clear hk);(try clear hi)));try go_wp2_with (first|(go_at_call 32;(with_reducible refine (laws_qdInts.calls kj8 _ _ t343 _ _ t352 true _ ?side1 ?side2 ?side3 ?side4 A51.out).mono ?_);(case side1=>repeat (first|exact (Kd.R_reads' Bw.out).2.2|(with_reducible refine cA ?_ _)|(with_reducible refine cN ?_ _)|(with_reducible refine cD ?_)));(case side2=>exact (Kd.R_reads' Bw.out).2.1);(case side3=>repeat (first|exact (Kd.R_reads' By.out).2.2|(with_reducible refine cA ?_ _)|(with_reducible refine cN ?_ _)|(with_reducible refine cD ?_)));(case side4=>exact (Kd.R_reads' By.out).2.1);rintro e w' ⟨rfl,⟨nd,rfl⟩⟩;(try first|exact ⟨rfl,_,World.drewN_drewN _ _ _⟩|exact ⟨rfl,_,Eq.trans (World.drewN_drewN _ _ _) (congrArg (World.drewN _) (Nat.add_assoc _ _ _))⟩);have DA:=Bt.out;have DB:=Bq.out;have DC:=Bs.out;have DD:=Bv.out;have B6:wc.cell? ⟨Be,0,none⟩=some (.slice Ao16 t339.length co16):=(bC Bd.out 0).trans rfl;have B7:wc.cell? ⟨Be,1,none⟩=some (.int .i64 t342):=(bC Bd.out 1).trans rfl;have B8:=bF Bd.out 0;have B9:=bF Bd.out 1;have DE:=Bu.out;have DF:=Bl.out;have Da:wc.cell? ⟨Ba,0,none⟩=some (.slice Ao22 t348.length co22):=(bC Bb.out 0).trans rfl;have Db:wc.cell? ⟨Ba,1,none⟩=some (.int .i64 t351):=(bC Bb.out 1).trans rfl;have Dc:=bF Bb.out 0;have Dd:=bF Bb.out 1)|(go_at_call 15;(with_reducible refine (laws_qdQueue.calls kj8 _ _ t339 t342 _ _ t348 t351 t360 _ ?side1 ?side2 ?side3 ?side4 A53.out).mono ?_);(case side1=>repeat (first|exact (Kd.R_reads' Bo.out).2.2|(with_reducible refine cA ?_ _)|(with_reducible refine cN ?_ _)|(with_reducible refine cD ?_)));(case side2=>exact (Kd.R_reads' Bo.out).2.1);(case side3=>repeat (first|exact (Kd.R_reads' Bp.out).2.2|(with_reducible refine cA ?_ _)|(with_reducible refine cN ?_ _)|(with_reducible refine cD ?_)));(case side4=>exact (Kd.R_reads' Bp.out).2.1);rintro e w61 ⟨rfl,hb⟩;have n0_:=Am (rB (rL Bw.out) hb);have n1_:=Am (rB (rL By.out) hb);have n2_:=Am (rB (rL Bn.out) hb);have n3_:=Am (rB (rL Bo.out) hb);have n4_:=Am (rB (rL Bp.out) hb);have n5_:=Am (bB (g:=Bf) (o:=.cells #[.slice Ao12 t333.length co12,.int .i64 t336] 25 (0,0)) (bL Bc.out) hb);have n6_:=Am (bB (g:=Be) (o:=.cells #[.slice Ao16 t339.length co16,.int .i64 t342] 25 (0,0)) (bL Bd.out) hb);have n7_:=Am (bB (g:=Ba) (o:=.cells #[.slice Ao22 t348.length co22,.int .i64 t351] 25 (0,0)) (bL Bb.out) hb);have n8_:=Am (bP (by repeat (first|(with_reducible first|exact HB.out|apply oA|apply pN|apply o1|refine bS ?_ Bj.out|refine bS ?_ Br.out|refine bS ?_ Bx.out)|exact HB.out)) hb);clear Bw By Bn Bo Bp Bc Bd Bb HB;revert n0_ n1_ n2_ n3_ n4_ n5_ n6_ n7_ n8_;intro Bw By Bn Bo Bp Bc Bd Bb HB;(try clear hb);(try clear hb2);(try clear hk);(try clear hi))))
      go_ret
      exact ⟨by first|rfl|(simp [errW_none,errW_some] <;> rfl)|(simp [*,errW_none,errW_some] <;> rfl),by repeat (first|(with_reducible first|exact HB.out|apply oA|apply pN|apply o1|refine bS ?_ Bj.out|refine bS ?_ Br.out|refine bS ?_ Bx.out)|exact HB.out)⟩
     replace c49:=Bool.eq_false_iff.mpr c49
     subst c49
     have H1:(laws_FnShareServed.l0 kj8 t343 0 t333 t336)=some r:=by rw [if_neg (show ¬ (false=true) by decide)] at H;exact H
     clear H
     have H:=H1
     clear H1
     have H':=Am H
     clear H
     go_wp2
     repeat (go_quiet (fail);try go_wp2)
     go_loopg [13] kj8 (fun kq v13 w'=>∃ (x13_3:Int),v13=.int .i64 x13_3∧Aside0 (laws_FnShareServed.l0 kq t343 x13_3 t333 t336=some r)∧Aside0 (kq≤kj8)∧Aside0 (Kd.R (Kd.int .i64) 3 w' w.heap.size (fun _=>True) v344 t343)∧Aside0 (Kd.R k40 40 w' w.heap.size (fun k_=>some k_≠((.slice Ao16 t339.length co16):Value).ownBlock∧some k_≠((.slice Ao22 t348.length co22):Value).ownBlock) (.slice Ao12 t333.length co12) t333)∧Aside0 (Kd.R k40 40 w' w.heap.size (fun k_=>some k_≠((.slice Ao12 t333.length co12):Value).ownBlock∧some k_≠((.slice Ao22 t348.length co22):Value).ownBlock) (.slice Ao16 t339.length co16) t339)∧Aside0 (Kd.R k40 40 w' w.heap.size (fun k_=>some k_≠((.slice Ao12 t333.length co12):Value).ownBlock∧some k_≠((.slice Ao16 t339.length co16):Value).ownBlock) (.slice Ao22 t348.length co22) t348)∧Aside0 (w'.heap[Bf]?=some (.cells #[(.slice Ao12 t333.length co12),.int .i64 t336] 25 (0,0)))∧Aside0 (w'.heap[Be]?=some (.cells #[(.slice Ao16 t339.length co16),.int .i64 t342] 25 (0,0)))∧Aside0 (w'.heap[Ba]?=some (.cells #[(.slice Ao22 t348.length co22),.int .i64 t351] 25 (0,0)))∧Aside0 (Below w.heap.size w w'))
     case atStart=>exact ⟨(0),(by first|rfl|(simp;done)|(simp [*];done)),H',⟨Nat.le_refl _⟩,⟨by (with_reducible repeat (first|apply rA|apply rN|apply rD));exact rM Bw.out (fun _ hk=>trivial)⟩,⟨by (with_reducible repeat (first|apply rA|apply rN|apply rD));exact Bn.out⟩,⟨by (with_reducible repeat (first|apply rA|apply rN|apply rD));exact Bo.out⟩,⟨by (with_reducible repeat (first|apply rA|apply rN|apply rD));exact Bp.out⟩,⟨by (with_reducible repeat (first|refine bN ?_ _|refine bD ?_|refine bA ?_ _));exact Bc.out⟩,⟨by (with_reducible repeat (first|refine bN ?_ _|refine bD ?_|refine bA ?_ _));exact Bd.out⟩,⟨by (with_reducible repeat (first|refine bN ?_ _|refine bD ?_|refine bA ?_ _));exact Bb.out⟩,⟨by repeat (first|(with_reducible first|exact HB.out|apply oA|apply pN|apply o1|refine bS ?_ Bj.out|refine bS ?_ Br.out|refine bS ?_ Bx.out)|exact HB.out)⟩⟩
     case round =>
      clear H'
      try clear c1
      try clear c2
      try clear p2
      try clear c3
      try clear c4
      try clear c4b0
      try clear c4b1
      try clear c5
      try clear c11
      try clear c17
      try clear c23
      try clear c24
      try clear c26
      try clear c26b0
      try clear c26b1
      try clear c26b2
      try clear c28
      try clear c30
      try clear c33
      try clear c34
      try clear c36
      try clear c41
      try clear c42
      try clear c44
      try clear c49
      try clear c50
      try clear c50b0
      try clear c50b1
      try clear c50b2
      try clear c52
      try clear c56
      try clear c57
      try clear c59
      try clear BA
      try clear BB
      try clear BE
      try clear BF
      try clear BI
      try clear BJ
      try clear BM
      try clear BN
      try clear BQ
      try clear BR
      try clear BU
      try clear BV
      try clear BY
      try clear BZ
      try clear B2
      try clear B3
      try clear B6
      try clear B7
      try clear Da
      try clear Db
      try clear BC
      try clear BD
      try clear BG
      try clear BH
      try clear BK
      try clear BL
      try clear BO
      try clear BP
      try clear BS
      try clear BT
      try clear BW
      try clear BX
      try clear B0
      try clear B1
      try clear B4
      try clear B5
      try clear B8
      try clear B9
      try clear Dc
      try clear Dd
      try clear p2
      obtain ⟨x13_3,rfl,HA,HK3,Bw,Bn,Bo,Bp,Bc,Bd,Bb,HB⟩:=hrel
      cases gk with
     |zero=>exact absurd HA.out (by simp [laws_FnShareServed.l0])
     |succ k3 =>
       have H:=HA.out
       clear HA
       simp only [laws_FnShareServed.l0] at H
       by_cases c62:x13_3<(t333.length:Int)
       rotate_left
       ·rw [if_neg c62] at H
        have c62b0:decide (x13_3<(t333.length:Int))=false:=decide_eq_false c62
        clear c62
        obtain rfl:=Option.some.inj H
        have Fo:=Bq.out
        have Fp:=Bt.out
        have Fq:=Bl.out
        have Fr:=Bu.out
        have D0:wr.cell? ⟨Bf,0,none⟩=some (.slice Ao12 t333.length co12):=(bC Bc.out 0).trans rfl
        have D1:wr.cell? ⟨Bf,1,none⟩=some (.int .i64 t336):=(bC Bc.out 1).trans rfl
        have D2:=bF Bc.out 0
        have D3:=bF Bc.out 1
        go_wp2
        repeat (go_quiet (fail);try go_wp2)
        go_ret
        exact ⟨by first|rfl|(simp [errW_none,errW_some] <;> rfl)|(simp [*,errW_none,errW_some] <;> rfl),by repeat (first|(with_reducible first|exact HB.out|apply oA|apply pN|apply o1|refine bS ?_ Bj.out|refine bS ?_ Br.out|refine bS ?_ Bx.out)|exact HB.out)⟩

       rw [if_pos c62] at H
       have c62b0:decide (x13_3<(t333.length:Int))=true:=decide_eq_true c62
       clear c62
       have H':=Am H
       clear H
       have D4:=Bq.out
       have D5:=Bt.out
       have D6:=Bl.out
       have D7:=Bu.out
       have DG:wr.cell? ⟨Bf,0,none⟩=some (.slice Ao12 t333.length co12):=(bC Bc.out 0).trans rfl
       have DH:wr.cell? ⟨Bf,1,none⟩=some (.int .i64 t336):=(bC Bc.out 1).trans rfl
       have DI:=bF Bc.out 0
       have DJ:=bF Bc.out 1
       go_wp2
       repeat (go_quiet (fail);try go_wp2)
       go_loopg [14,15] k3 (fun kq v14 v15 w'=>∃ (x14_4:Bool) (x15_4:Int),v14=.bool x14_4∧v15=.int .i64 x15_4∧Aside0 (laws_FnShareServed.l1 kq t343 x13_3 x14_4 x15_4 t333 t336=some r)∧Aside0 (kq≤k3)∧Aside0 (Kd.R (Kd.int .i64) 3 w' w.heap.size (fun _=>True) v344 t343)∧Aside0 (Kd.R k40 40 w' w.heap.size (fun k_=>some k_≠((.slice Ao16 t339.length co16):Value).ownBlock∧some k_≠((.slice Ao22 t348.length co22):Value).ownBlock) (.slice Ao12 t333.length co12) t333)∧Aside0 (Kd.R k40 40 w' w.heap.size (fun k_=>some k_≠((.slice Ao12 t333.length co12):Value).ownBlock∧some k_≠((.slice Ao22 t348.length co22):Value).ownBlock) (.slice Ao16 t339.length co16) t339)∧Aside0 (Kd.R k40 40 w' w.heap.size (fun k_=>some k_≠((.slice Ao12 t333.length co12):Value).ownBlock∧some k_≠((.slice Ao16 t339.length co16):Value).ownBlock) (.slice Ao22 t348.length co22) t348)∧Aside0 (w'.heap[Bf]?=some (.cells #[(.slice Ao12 t333.length co12),.int .i64 t336] 25 (0,0)))∧Aside0 (w'.heap[Be]?=some (.cells #[(.slice Ao16 t339.length co16),.int .i64 t342] 25 (0,0)))∧Aside0 (w'.heap[Ba]?=some (.cells #[(.slice Ao22 t348.length co22),.int .i64 t351] 25 (0,0)))∧Aside0 (Below w.heap.size w w'))
       case atStart=>exact ⟨(false),(0),(by first|rfl|(simp;done)|(simp [*];done)),(by first|rfl|(simp;done)|(simp [*];done)),H',⟨Nat.le_refl _⟩,⟨by (with_reducible repeat (first|apply rA|apply rN|apply rD));exact Bw.out⟩,⟨by (with_reducible repeat (first|apply rA|apply rN|apply rD));exact Bn.out⟩,⟨by (with_reducible repeat (first|apply rA|apply rN|apply rD));exact Bo.out⟩,⟨by (with_reducible repeat (first|apply rA|apply rN|apply rD));exact Bp.out⟩,⟨by (with_reducible repeat (first|refine bN ?_ _|refine bD ?_|refine bA ?_ _));exact Bc.out⟩,⟨by (with_reducible repeat (first|refine bN ?_ _|refine bD ?_|refine bA ?_ _));exact Bd.out⟩,⟨by (with_reducible repeat (first|refine bN ?_ _|refine bD ?_|refine bA ?_ _));exact Bb.out⟩,⟨by repeat (first|(with_reducible first|exact HB.out|apply oA|apply pN|apply o1|refine bS ?_ Bj.out|refine bS ?_ Br.out|refine bS ?_ Bx.out)|exact HB.out)⟩⟩
       case round =>
        clear H'
        try clear c1
        try clear c2
        try clear p2
        try clear c3
        try clear c4
        try clear c4b0
        try clear c4b1
        try clear c5
        try clear c6
        try clear c11
        try clear c17
        try clear c23
        try clear c24
        try clear c26
        try clear c26b0
        try clear c26b1
        try clear c26b2
        try clear c28
        try clear c30
        try clear c33
        try clear c34
        try clear c36
        try clear c41
        try clear c42
        try clear c44
        try clear c49
        try clear c50
        try clear c50b0
        try clear c50b1
        try clear c50b2
        try clear c52
        try clear c56
        try clear c57
        try clear c59
        try clear c62
        try clear c62b0
        try clear c63
        try clear c64
        try clear BA
        try clear BB
        try clear BE
        try clear BF
        try clear BI
        try clear BJ
        try clear BM
        try clear BN
        try clear BQ
        try clear BR
        try clear BU
        try clear BV
        try clear BY
        try clear BZ
        try clear B2
        try clear B3
        try clear B6
        try clear B7
        try clear Da
        try clear Db
        try clear DG
        try clear DH
        try clear BC
        try clear BD
        try clear BG
        try clear BH
        try clear BK
        try clear BL
        try clear BO
        try clear BP
        try clear BS
        try clear BT
        try clear BW
        try clear BX
        try clear B0
        try clear B1
        try clear B4
        try clear B5
        try clear B8
        try clear B9
        try clear Dc
        try clear Dd
        try clear DI
        try clear DJ
        try clear p2
        obtain ⟨x14_4,x15_4,rfl,rfl,HA,HK4,Bw,Bn,Bo,Bp,Bc,Bd,Bb,HB⟩:=hrel
        cases gk with
       |zero=>exact absurd HA.out (by simp [laws_FnShareServed.l1])
       |succ k4 =>
         have H:=HA.out
         clear HA
         simp only [laws_FnShareServed.l1] at H
         by_cases c66:x15_4<(t343.length:Int)
         ·rw [if_pos c66] at H
          have c66b0:decide (x15_4<(t343.length:Int))=true:=decide_eq_true c66
          clear c66
          by_cases c67:x14_4=true
          ·subst c67
           have H1:(laws_FnShareServed.l1 k4 t343 x13_3 true (wrap64 (x15_4 + 1)) t333 t336)=some r:=by rw [if_pos rfl] at H;exact H
           clear H
           have H:=H1
           clear H1
           have H':=Am H
           clear H
           obtain ⟨Ao68,co68,eo68⟩:=Kd.R_slice Bw.out
           subst eo68
           go_wp2
           repeat (go_quiet (fail);try go_wp2)
           go_roundg k4
           case measure=>have:=Bz.out;have:=De.out;have:=HK3.out;have:=HK4.out;omega
           case rel=>exact ⟨(true),(wrap64 (x15_4 + 1)),(by first|rfl|(simp;done)|(simp [*];done)),(by first|rfl|(simp;done)|(simp [*];done)),H',⟨by have:=Bz.out;have:=De.out;have:=HK3.out;have:=HK4.out;omega⟩,⟨by (with_reducible repeat (first|apply rA|apply rN|apply rD));exact Bw.out⟩,⟨by (with_reducible repeat (first|apply rA|apply rN|apply rD));exact Bn.out⟩,⟨by (with_reducible repeat (first|apply rA|apply rN|apply rD));exact Bo.out⟩,⟨by (with_reducible repeat (first|apply rA|apply rN|apply rD));exact Bp.out⟩,⟨by (with_reducible repeat (first|refine bN ?_ _|refine bD ?_|refine bA ?_ _));exact Bc.out⟩,⟨by (with_reducible repeat (first|refine bN ?_ _|refine bD ?_|refine bA ?_ _));exact Bd.out⟩,⟨by (with_reducible repeat (first|refine bN ?_ _|refine bD ?_|refine bA ?_ _));exact Bb.out⟩,⟨by repeat (first|(with_reducible first|exact HB.out|apply oA|apply pN|apply o1|refine bS ?_ Bj.out|refine bS ?_ Br.out|refine bS ?_ Bx.out)|exact HB.out)⟩⟩
          replace c67:=Bool.eq_false_iff.mpr c67
          subst c67
          have H1:(if 0≤x15_4 then (if 0≤x13_3 then (if x13_3<(t333.length:Int) then (laws_FnShareServed.l1 k4 t343 x13_3 ((rd t343 x15_4) == ((rd_T40 t333 x13_3).f0)) (wrap64 (x15_4 + 1)) t333 t336) else (none)) else (none)) else (none))=some r:=by rw [if_neg (show ¬ (false=true) by decide)] at H;exact H
          clear H
          have H:=H1
          clear H1
          by_cases c69:0≤x15_4
          rotate_left
          ·rw [if_neg c69] at H
           exact absurd H (by simp)
          rw [if_pos c69] at H
          have c69b0:decide (0≤x15_4)=true:=decide_eq_true c69
          clear c69
          by_cases c70:0≤x13_3
          rotate_left
          ·rw [if_neg c70] at H
           exact absurd H (by simp)
          rw [if_pos c70] at H
          have c70b0:decide (0≤x13_3)=true:=decide_eq_true c70
          clear c70
          by_cases c71:x13_3<(t333.length:Int)
          rotate_left
          ·rw [if_neg c71] at H
           exact absurd H (by simp)
          rw [if_pos c71] at H
          have c71b0:decide (x13_3<(t333.length:Int))=true:=decide_eq_true c71
          clear c71
          have H':=Am H
          clear H
          obtain ⟨Ao72,co72,eo72⟩:=Kd.R_slice Bw.out
          subst eo72
          have p361:0≤(x15_4:Int):=of_decide_eq_true (by first|(with_reducible assumption)|assumption)
          have q361:x15_4<(t343.length:Int):=of_decide_eq_true (by first|(with_reducible assumption)|assumption)
          obtain ⟨ad361,e361,hx361_0⟩:=Kd.at_int (Kd.R_reads' Bw.out).2.2 x15_4 p361 q361
          cases e361
          replace p361:=eq_true p361
          replace q361:=eq_true q361
          have D8:=Bq.out
          have D9:=Bt.out
          have Fa:=Bl.out
          have Fb:=Bu.out
          have DK:wr.cell? ⟨Bf,0,none⟩=some (.slice Ao12 t333.length co12):=(bC Bc.out 0).trans rfl
          have DL:wr.cell? ⟨Bf,1,none⟩=some (.int .i64 t336):=(bC Bc.out 1).trans rfl
          have DM:=bF Bc.out 0
          have DN:=bF Bc.out 1
          have p362:0≤(x13_3:Int):=of_decide_eq_true (by first|(with_reducible assumption)|assumption)
          have q362:x13_3<(t333.length:Int):=of_decide_eq_true (by first|(with_reducible assumption)|assumption)
          obtain ⟨ad362,e362,hx362_0,hx362_1,hx362_2,hx362_3⟩:=at_T40 (Kd.R_reads' Bn.out).2.2 x13_3 p362 q362
          cases e362
          replace p362:=eq_true p362
          replace q362:=eq_true q362
          go_wp2
          repeat (go_quiet (fail);try go_wp2)
          go_roundg k4
          case measure=>have:=Bz.out;have:=De.out;have:=HK3.out;have:=HK4.out;omega
          case rel=>exact ⟨(((rd t343 x15_4) == ((rd_T40 t333 x13_3).f0))),(wrap64 (x15_4 + 1)),(by first|rfl|(simp;done)|(simp [*];done)),(by first|rfl|(simp;done)|(simp [*];done)),H',⟨by have:=Bz.out;have:=De.out;have:=HK3.out;have:=HK4.out;omega⟩,⟨by (with_reducible repeat (first|apply rA|apply rN|apply rD));exact Bw.out⟩,⟨by (with_reducible repeat (first|apply rA|apply rN|apply rD));exact Bn.out⟩,⟨by (with_reducible repeat (first|apply rA|apply rN|apply rD));exact Bo.out⟩,⟨by (with_reducible repeat (first|apply rA|apply rN|apply rD));exact Bp.out⟩,⟨by (with_reducible repeat (first|refine bN ?_ _|refine bD ?_|refine bA ?_ _));exact Bc.out⟩,⟨by (with_reducible repeat (first|refine bN ?_ _|refine bD ?_|refine bA ?_ _));exact Bd.out⟩,⟨by (with_reducible repeat (first|refine bN ?_ _|refine bD ?_|refine bA ?_ _));exact Bb.out⟩,⟨by repeat (first|(with_reducible first|exact HB.out|apply oA|apply pN|apply o1|refine bS ?_ Bj.out|refine bS ?_ Br.out|refine bS ?_ Bx.out)|exact HB.out)⟩⟩
         rw [if_neg c66] at H
         have c66b0:decide (x15_4<(t343.length:Int))=false:=decide_eq_false c66
         clear c66
         by_cases c76:0≤x13_3
         rotate_left
         ·rw [if_neg c76] at H
          exact absurd H (by simp)
         rw [if_pos c76] at H
         have c76b0:decide (0≤x13_3)=true:=decide_eq_true c76
         clear c76
         by_cases c77:x13_3<(t333.length:Int)
         rotate_left
         ·rw [if_neg c77] at H
          exact absurd H (by simp)
         rw [if_pos c77] at H
         have c77b0:decide (x13_3<(t333.length:Int))=true:=decide_eq_true c77
         clear c77
         obtain ⟨bq78,hbq78⟩:∃ b_:Bool,b_=((rd_T40 t333 x13_3).f3):=⟨_,rfl⟩
         replace H:(if bq78=true then (if ((rd_T40 t333 x13_3).f2)≤(wrap64 (t336 + 60)) then (if x14_4=true then (laws_FnShareServed.l0 k4 t343 (wrap64 (x13_3 + 1)) t333 t336) else (some false)) else (laws_FnShareServed.l0 k4 t343 (wrap64 (x13_3 + 1)) t333 t336)) else (laws_FnShareServed.l0 k4 t343 (wrap64 (x13_3 + 1)) t333 t336))=some r:=by rw [← hbq78] at H;exact H
         have Nbq78:=Am hbq78
         clear hbq78
         by_cases c79:bq78=true
         rotate_left
         ·replace c79:=Bool.eq_false_iff.mpr c79
          subst c79
          have H1:(laws_FnShareServed.l0 k4 t343 (wrap64 (x13_3 + 1)) t333 t336)=some r:=by rw [if_neg (show ¬ (false=true) by decide)] at H;exact H
          clear H
          have H:=H1
          clear H1
          have H':=Am H
          clear H
          obtain ⟨Ao90,co90,eo90⟩:=Kd.R_slice Bw.out
          subst eo90
          have Fk:=Bq.out
          have Fl:=Bt.out
          have Fm:=Bl.out
          have Fn:=Bu.out
          have DW:wr.cell? ⟨Bf,0,none⟩=some (.slice Ao12 t333.length co12):=(bC Bc.out 0).trans rfl
          have DX:wr.cell? ⟨Bf,1,none⟩=some (.int .i64 t336):=(bC Bc.out 1).trans rfl
          have DY:=bF Bc.out 0
          have DZ:=bF Bc.out 1
          have p363:0≤(x13_3:Int):=of_decide_eq_true (by first|(with_reducible assumption)|assumption)
          have q363:x13_3<(t333.length:Int):=of_decide_eq_true (by first|(with_reducible assumption)|assumption)
          obtain ⟨ad363,e363,hx363_0,hx363_1,hx363_2,hx363_3⟩:=at_T40 (Kd.R_reads' Bn.out).2.2 x13_3 p363 q363
          (try rw [← Nbq78.out] at hx363_3)
          cases e363
          replace p363:=eq_true p363
          replace q363:=eq_true q363
          go_wp2
          repeat (go_quiet (fail);try go_wp2)
          go_roundg k4
          case measure=>have:=Bz.out;have:=De.out;have:=HK3.out;have:=HK4.out;omega
          case rel=>exact ⟨(wrap64 (x13_3 + 1)),(by first|rfl|(simp;done)|(simp [*];done)),H',⟨by have:=Bz.out;have:=De.out;have:=HK3.out;have:=HK4.out;omega⟩,⟨by (with_reducible repeat (first|apply rA|apply rN|apply rD));exact Bw.out⟩,⟨by (with_reducible repeat (first|apply rA|apply rN|apply rD));exact Bn.out⟩,⟨by (with_reducible repeat (first|apply rA|apply rN|apply rD));exact Bo.out⟩,⟨by (with_reducible repeat (first|apply rA|apply rN|apply rD));exact Bp.out⟩,⟨by (with_reducible repeat (first|refine bN ?_ _|refine bD ?_|refine bA ?_ _));exact Bc.out⟩,⟨by (with_reducible repeat (first|refine bN ?_ _|refine bD ?_|refine bA ?_ _));exact Bd.out⟩,⟨by (with_reducible repeat (first|refine bN ?_ _|refine bD ?_|refine bA ?_ _));exact Bb.out⟩,⟨by repeat (first|(with_reducible first|exact HB.out|apply oA|apply pN|apply o1|refine bS ?_ Bj.out|refine bS ?_ Br.out|refine bS ?_ Bx.out)|exact HB.out)⟩⟩
         subst c79
         have H1:(if ((rd_T40 t333 x13_3).f2)≤(wrap64 (t336 + 60)) then (if x14_4=true then (laws_FnShareServed.l0 k4 t343 (wrap64 (x13_3 + 1)) t333 t336) else (some false)) else (laws_FnShareServed.l0 k4 t343 (wrap64 (x13_3 + 1)) t333 t336))=some r:=by rw [if_pos rfl] at H;exact H
         clear H
         have H:=H1
         clear H1
         by_cases c80:((rd_T40 t333 x13_3).f2)≤(wrap64 (t336 + 60))
         rotate_left
         ·rw [if_neg c80] at H
          have c80b0:decide (((rd_T40 t333 x13_3).f2)≤(wrap64 (t336 + 60)))=false:=decide_eq_false c80
          clear c80
          have H':=Am H
          clear H
          obtain ⟨Ao86,co86,eo86⟩:=Kd.R_slice Bw.out
          subst eo86
          have Fg:=Bq.out
          have Fh:=Bt.out
          have Fi:=Bl.out
          have Fj:=Bu.out
          have DS:wr.cell? ⟨Bf,0,none⟩=some (.slice Ao12 t333.length co12):=(bC Bc.out 0).trans rfl
          have DT:wr.cell? ⟨Bf,1,none⟩=some (.int .i64 t336):=(bC Bc.out 1).trans rfl
          have DU:=bF Bc.out 0
          have DV:=bF Bc.out 1
          have p363:0≤(x13_3:Int):=of_decide_eq_true (by first|(with_reducible assumption)|assumption)
          have q363:x13_3<(t333.length:Int):=of_decide_eq_true (by first|(with_reducible assumption)|assumption)
          obtain ⟨ad363,e363,hx363_0,hx363_1,hx363_2,hx363_3⟩:=at_T40 (Kd.R_reads' Bn.out).2.2 x13_3 p363 q363
          (try rw [← Nbq78.out] at hx363_3)
          cases e363
          replace p363:=eq_true p363
          replace q363:=eq_true q363
          have p364:0≤(x13_3:Int):=of_decide_eq_true (by first|(with_reducible assumption)|assumption)
          have q364:x13_3<(t333.length:Int):=of_decide_eq_true (by first|(with_reducible assumption)|assumption)
          obtain ⟨ad364,e364,hx364_0,hx364_1,hx364_2,hx364_3⟩:=at_T40 (Kd.R_reads' Bn.out).2.2 x13_3 p364 q364
          (try rw [← Nbq78.out] at hx364_3)
          obtain rfl:ad363=ad364:=(by injection e364)
          replace p364:=eq_true p364
          replace q364:=eq_true q364
          go_wp2
          repeat (go_quiet (fail);try go_wp2)
          go_roundg k4
          case measure=>have:=Bz.out;have:=De.out;have:=HK3.out;have:=HK4.out;omega
          case rel=>exact ⟨(wrap64 (x13_3 + 1)),(by first|rfl|(simp;done)|(simp [*];done)),H',⟨by have:=Bz.out;have:=De.out;have:=HK3.out;have:=HK4.out;omega⟩,⟨by (with_reducible repeat (first|apply rA|apply rN|apply rD));exact Bw.out⟩,⟨by (with_reducible repeat (first|apply rA|apply rN|apply rD));exact Bn.out⟩,⟨by (with_reducible repeat (first|apply rA|apply rN|apply rD));exact Bo.out⟩,⟨by (with_reducible repeat (first|apply rA|apply rN|apply rD));exact Bp.out⟩,⟨by (with_reducible repeat (first|refine bN ?_ _|refine bD ?_|refine bA ?_ _));exact Bc.out⟩,⟨by (with_reducible repeat (first|refine bN ?_ _|refine bD ?_|refine bA ?_ _));exact Bd.out⟩,⟨by (with_reducible repeat (first|refine bN ?_ _|refine bD ?_|refine bA ?_ _));exact Bb.out⟩,⟨by repeat (first|(with_reducible first|exact HB.out|apply oA|apply pN|apply o1|refine bS ?_ Bj.out|refine bS ?_ Br.out|refine bS ?_ Bx.out)|exact HB.out)⟩⟩
         rw [if_pos c80] at H
         have c80b0:decide (((rd_T40 t333 x13_3).f2)≤(wrap64 (t336 + 60)))=true:=decide_eq_true c80
         clear c80
         by_cases c81:x14_4=true
         rotate_left
         ·replace c81:=Bool.eq_false_iff.mpr c81
          subst c81
          have H1:(some false)=some r:=by rw [if_neg (show ¬ (false=true) by decide)] at H;exact H
          clear H
          have H:=H1
          clear H1
          exact absurd ((Option.some.inj H).trans hT_.out) (by decide)
         subst c81
         have H1:(laws_FnShareServed.l0 k4 t343 (wrap64 (x13_3 + 1)) t333 t336)=some r:=by rw [if_pos rfl] at H;exact H
         clear H
         have H:=H1
         clear H1
         have H':=Am H
         clear H
         obtain ⟨Ao82,co82,eo82⟩:=Kd.R_slice Bw.out
         subst eo82
         have Fc:=Bq.out
         have Fd:=Bt.out
         have Fe:=Bl.out
         have Ff:=Bu.out
         have DO:wr.cell? ⟨Bf,0,none⟩=some (.slice Ao12 t333.length co12):=(bC Bc.out 0).trans rfl
         have DP:wr.cell? ⟨Bf,1,none⟩=some (.int .i64 t336):=(bC Bc.out 1).trans rfl
         have DQ:=bF Bc.out 0
         have DR:=bF Bc.out 1
         have p363:0≤(x13_3:Int):=of_decide_eq_true (by first|(with_reducible assumption)|assumption)
         have q363:x13_3<(t333.length:Int):=of_decide_eq_true (by first|(with_reducible assumption)|assumption)
         obtain ⟨ad363,e363,hx363_0,hx363_1,hx363_2,hx363_3⟩:=at_T40 (Kd.R_reads' Bn.out).2.2 x13_3 p363 q363
         (try rw [← Nbq78.out] at hx363_3)
         cases e363
         replace p363:=eq_true p363
         replace q363:=eq_true q363
         have p364:0≤(x13_3:Int):=of_decide_eq_true (by first|(with_reducible assumption)|assumption)
         have q364:x13_3<(t333.length:Int):=of_decide_eq_true (by first|(with_reducible assumption)|assumption)
         obtain ⟨ad364,e364,hx364_0,hx364_1,hx364_2,hx364_3⟩:=at_T40 (Kd.R_reads' Bn.out).2.2 x13_3 p364 q364
         (try rw [← Nbq78.out] at hx364_3)
         obtain rfl:ad363=ad364:=(by injection e364)
         replace p364:=eq_true p364
         replace q364:=eq_true q364
         go_wp2
         repeat (go_quiet (fail);try go_wp2)
         go_roundg k4
         case measure=>have:=Bz.out;have:=De.out;have:=HK3.out;have:=HK4.out;omega
         case rel=>exact ⟨(wrap64 (x13_3 + 1)),(by first|rfl|(simp;done)|(simp [*];done)),H',⟨by have:=Bz.out;have:=De.out;have:=HK3.out;have:=HK4.out;omega⟩,⟨by (with_reducible repeat (first|apply rA|apply rN|apply rD));exact Bw.out⟩,⟨by (with_reducible repeat (first|apply rA|apply rN|apply rD));exact Bn.out⟩,⟨by (with_reducible repeat (first|apply rA|apply rN|apply rD));exact Bo.out⟩,⟨by (with_reducible repeat (first|apply rA|apply rN|apply rD));exact Bp.out⟩,⟨by (with_reducible repeat (first|refine bN ?_ _|refine bD ?_|refine bA ?_ _));exact Bc.out⟩,⟨by (with_reducible repeat (first|refine bN ?_ _|refine bD ?_|refine bA ?_ _));exact Bd.out⟩,⟨by (with_reducible repeat (first|refine bN ?_ _|refine bD ?_|refine bA ?_ _));exact Bb.out⟩,⟨by repeat (first|(with_reducible first|exact HB.out|apply oA|apply pN|apply o1|refine bS ?_ Bj.out|refine bS ?_ Br.out|refine bS ?_ Bx.out)|exact HB.out)⟩⟩
/-- THE ONE PURE STATEMENT of laws_FnShareServed: yours. -/
def laws_FnShareServed.Pure:Prop:=∀ (l0:List Int) (l1:List Int),l0.length≤maxLen → l0.length * 1≤140737488351232 → (∀ x ∈ l0,(Lit.int .u8 x).wf=true) → l1.length≤maxLen → l1.length * 1≤140737488351232 → (∀ x ∈ l1,(Lit.int .u8 x).wf=true) → ∃ k,laws_FnShareServed.f k l0 l1=some true
theorem laws_FnShareServed.walk (P:laws_FnShareServed.Pure) (a0:Option Addr) (len0 cap0:Nat) (z0:List Int) (a1:Option Addr) (len1 cap1:Nat) (z1:List Int) (w:World) (w0:(a0=none∧len0=0∧cap0=0∧z0=[])∨∃ x,a0=some x∧len0≤cap0∧cap0≤maxLen∧z0.length=cap0∧(∀ i,i<z0.length → w.cell? (x.add i)=some (.int .u8 (z0.getD i 0)))∧∀ n ∈ z0,(Lit.int .u8 n).wf=true) (y0:len0 * 1≤140737488351232) (w1:(a1=none∧len1=0∧cap1=0∧z1=[])∨∃ x,a1=some x∧len1≤cap1∧cap1≤maxLen∧z1.length=cap1∧(∀ i,i<z1.length → w.cell? (x.add i)=some (.int .u8 (z1.getD i 0)))∧∀ n ∈ z1,(Lit.int .u8 n).wf=true) (y1:len1 * 1≤140737488351232) :
  Calls Try.prog 11 #[.slice a0 len0 cap0,.slice a1 len1 cap1] w fun e w'=>e=.returned (.bool true)∧Below w.heap.size w w':=by
 obtain ⟨l0,rfl,hr0,hm0,hw0,hc0⟩:=ReadsInt.ofRowC w0
 obtain ⟨l1,rfl,hr1,hm1,hw1,hc1⟩:=ReadsInt.ofRowC w1
 obtain ⟨k,h⟩:=P l0 l1 hm0 y0 hw0 hm1 y1 hw1
 refine (laws_FnShareServed.calls k _ _ l0 _ _ l1 true w (Kd.C_of_reads (d:=(0:Int)) (h1:=fun _=>rfl) hr0) hc0 (Kd.C_of_reads (d:=(0:Int)) (h1:=fun _=>rfl) hr1) hc1 h ⟨rfl⟩).mono ?_
 rintro e w' ⟨rfl,hd⟩
 exact ⟨rfl,hd⟩

end Go.Proofs.Ytfhcgmfodfcpeaa.PFnShareServed
