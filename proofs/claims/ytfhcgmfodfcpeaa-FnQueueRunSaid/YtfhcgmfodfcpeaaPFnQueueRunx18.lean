/- Proved here, without a condition beyond those that each theorem states: what the Go functions named below do is what the plain functions of the same names say. Written by xprint.py, a program of this session. -/
import Derived.Test.YtfhcgmfodfcpeaaPFnQueueRunx0
import Derived.Test.YtfhcgmfodfcpeaaPFnQueueRunx2
import Derived.Test.YtfhcgmfodfcpeaaPFnQueueRunx6
import Derived.Test.YtfhcgmfodfcpeaaPFnQueueRunx13
import Derived.Test.YtfhcgmfodfcpeaaPFnQueueRunx16
import Derived.Test.YtfhcgmfodfcpeaaPFnQueueRunx17
namespace Go.Proofs.Ytfhcgmfodfcpeaa.PFnQueueRun
open Go.RowKit Go.Proofs.YtfhcgmfodfcpeaaW.PrintWords Go.Proofs.YtfhcgmfodfcpeaaW.PrintLast Go.Proofs.YtfhcgmfodfcpeaaW.PrintMore
attribute [local go_sem] max2_int min2_int max_two min_two max_three min_three max_four min_four   -- for this text's walks alone
set_option linter.unusedVariables false
set_option linter.unusedSimpArgs false

attribute [local go_sem ↓] isSome_setCell_
/-! ### laws_FnQueueRun: function 8 -/
mutual
def laws_FnQueueRun.j0 : Nat → List Int → List Int → Bool → Option (Bool)
|0, _, _, _ => none
|k + 1, x0, x1, x28 => if x28 = true then (some true) else ((spec_DrawQueueRun.f k x0).bind fun bt333 => ((impl_QueueRun.f k bt333.1 bt333.2.1 bt333.2.2).bind fun bt339 => ((spec_QueueRun.f k bt333.1 bt333.2.1 bt333.2.2).bind fun bt348 => ((laws_qdQueue.f k bt339.1 bt339.2.1 bt348.1 bt348.2.1).bind fun t357 => (if t357 = true then ((laws_qdInts.f k bt339.2.2.1 bt348.2.2.1).bind fun t358 => (if t358 = true then (laws_FnQueueRun.j1 k x1 bt333.2.2 bt339.2.2.1 bt339.2.2.2 (bt339.2.2.2 == bt348.2.2.2) bt333.1 bt333.2.1 bt339.1 bt339.2.1) else (laws_FnQueueRun.j1 k x1 bt333.2.2 bt339.2.2.1 bt339.2.2.2 false bt333.1 bt333.2.1 bt339.1 bt339.2.1))) else (laws_FnQueueRun.j1 k x1 bt333.2.2 bt339.2.2.1 bt339.2.2.2 false bt333.1 bt333.2.1 bt339.1 bt339.2.1))))))
def laws_FnQueueRun.j1 : Nat → List Int → Int → List Int → Bool → Bool → List (S40) → Int → List (S40) → Int → Option (Bool)
|0, _, _, _, _, _, _, _, _, _ => none
|k + 1, x1, x6, x8, x9, x13, x339000, x339001, x348000, x348001 => if x13 = true then (laws_FnQueueRun.j2 k x1 x6 x8 x13 (!x9) x339000 x339001 x348000 x348001) else (laws_FnQueueRun.j2 k x1 x6 x8 x13 true x339000 x339001 x348000 x348001)
def laws_FnQueueRun.j2 : Nat → List Int → Int → List Int → Bool → Bool → List (S40) → Int → List (S40) → Int → Option (Bool)
|0, _, _, _, _, _, _, _, _, _ => none
|k + 1, x1, x6, x8, x13, x66, x339000, x339001, x348000, x348001 => if x66 = true then (some x13) else (if (wrap64 (x6 + 1)) = 0 then (none) else ((impl_QueueRun.f k x339000 x339001 ((x1.length : Int) % (wrap64 (x6 + 1)))).bind fun bt359 => ((impl_QueueRun.f k bt359.1 bt359.2.1 (wrap64 (x6 - ((x1.length : Int) % (wrap64 (x6 + 1)))))).bind fun bt368 => (if bt359.2.2.2 = true then (if bt368.2.2.2 = true then ((laws_qdQueue.f k bt368.1 bt368.2.1 x348000 x348001).bind fun t377 => (if t377 = true then ((some (([] : List Int) : List Int)).bind fun y378 => (if y378.length + bt359.2.2.1.length < 17592186044416 then ((some (y378 ++ bt359.2.2.1 : List Int)).bind fun y381 => (if y381.length + bt368.2.2.1.length < 17592186044416 then ((laws_qdInts.f k (y381 ++ bt368.2.2.1) x8).bind fun t387 => (if t387 = true then (some ((x8.length : Int) == x6)) else (some false))) else (none))) else (none))) else (some false))) else (some false)) else (some false)))))
end
def laws_FnQueueRun.f (k : Nat) (l0 : List Int) (l1 : List Int) : Option (Bool) := if (l0.length : Int) > 1048576 then (laws_FnQueueRun.j0 k l0 l1 true) else (laws_FnQueueRun.j0 k l0 l1 (decide ((l1.length : Int) > 1048576)))
theorem laws_FnQueueRun.mono_l : ∀ k, (∀ y0 y1 y2, LeO (laws_FnQueueRun.j0 k y0 y1 y2) (laws_FnQueueRun.j0 (k + 1) y0 y1 y2)) ∧ (∀ y0 y1 y2 y3 y4 y5 y6 y7 y8, LeO (laws_FnQueueRun.j1 k y0 y1 y2 y3 y4 y5 y6 y7 y8) (laws_FnQueueRun.j1 (k + 1) y0 y1 y2 y3 y4 y5 y6 y7 y8)) ∧ (∀ y0 y1 y2 y3 y4 y5 y6 y7 y8, LeO (laws_FnQueueRun.j2 k y0 y1 y2 y3 y4 y5 y6 y7 y8) (laws_FnQueueRun.j2 (k + 1) y0 y1 y2 y3 y4 y5 y6 y7 y8))
|0 => ⟨fun _ _ _ r h => by simp [laws_FnQueueRun.j0] at h, fun _ _ _ _ _ _ _ _ _ r h => by simp [laws_FnQueueRun.j1] at h, fun _ _ _ _ _ _ _ _ _ r h => by simp [laws_FnQueueRun.j2] at h⟩
|k + 1 => by
  obtain ⟨ih0, ih1, ih2⟩ := laws_FnQueueRun.mono_l k
  refine ⟨?_, ?_, ?_⟩
  ·intro y0 y1 y2
   unfold laws_FnQueueRun.j0
   repeat' first
  |(with_reducible exact ih0 _ _ _)
  |(with_reducible exact ih1 _ _ _ _ _ _ _ _ _)
  |(with_reducible exact ih2 _ _ _ _ _ _ _ _ _)
  |(with_reducible exact impl_QueueRun.mono _ _ _ _)
  |(with_reducible exact laws_qdInts.mono _ _ _)
  |(with_reducible exact laws_qdQueue.mono _ _ _ _ _)
  |(with_reducible exact spec_DrawQueueRun.mono _ _)
  |(with_reducible exact spec_QueueRun.mono _ _ _ _)
  |(with_reducible exact LeO.refl _)
  |(with_reducible exact LeO.none _)
  |(with_reducible refine LeO.ite ?_ ?_)
  |(with_reducible refine LeO.bind ?_ (fun _ => ?_))
  |exact ih0 _ _ _
  |exact ih1 _ _ _ _ _ _ _ _ _
  |exact ih2 _ _ _ _ _ _ _ _ _
  |exact impl_QueueRun.mono _ _ _ _
  |exact laws_qdInts.mono _ _ _
  |exact laws_qdQueue.mono _ _ _ _ _
  |exact spec_DrawQueueRun.mono _ _
  |exact spec_QueueRun.mono _ _ _ _
  |exact LeO.none _
  |refine LeO.ite ?_ ?_
  |refine LeO.bind ?_ (fun _ => ?_)
  ·intro y0 y1 y2 y3 y4 y5 y6 y7 y8
   unfold laws_FnQueueRun.j1
   repeat' first
  |(with_reducible exact ih0 _ _ _)
  |(with_reducible exact ih1 _ _ _ _ _ _ _ _ _)
  |(with_reducible exact ih2 _ _ _ _ _ _ _ _ _)
  |(with_reducible exact impl_QueueRun.mono _ _ _ _)
  |(with_reducible exact laws_qdInts.mono _ _ _)
  |(with_reducible exact laws_qdQueue.mono _ _ _ _ _)
  |(with_reducible exact spec_DrawQueueRun.mono _ _)
  |(with_reducible exact spec_QueueRun.mono _ _ _ _)
  |(with_reducible exact LeO.refl _)
  |(with_reducible exact LeO.none _)
  |(with_reducible refine LeO.ite ?_ ?_)
  |(with_reducible refine LeO.bind ?_ (fun _ => ?_))
  |exact ih0 _ _ _
  |exact ih1 _ _ _ _ _ _ _ _ _
  |exact ih2 _ _ _ _ _ _ _ _ _
  |exact impl_QueueRun.mono _ _ _ _
  |exact laws_qdInts.mono _ _ _
  |exact laws_qdQueue.mono _ _ _ _ _
  |exact spec_DrawQueueRun.mono _ _
  |exact spec_QueueRun.mono _ _ _ _
  |exact LeO.none _
  |refine LeO.ite ?_ ?_
  |refine LeO.bind ?_ (fun _ => ?_)
  ·intro y0 y1 y2 y3 y4 y5 y6 y7 y8
   unfold laws_FnQueueRun.j2
   repeat' first
  |(with_reducible exact ih0 _ _ _)
  |(with_reducible exact ih1 _ _ _ _ _ _ _ _ _)
  |(with_reducible exact ih2 _ _ _ _ _ _ _ _ _)
  |(with_reducible exact impl_QueueRun.mono _ _ _ _)
  |(with_reducible exact laws_qdInts.mono _ _ _)
  |(with_reducible exact laws_qdQueue.mono _ _ _ _ _)
  |(with_reducible exact spec_DrawQueueRun.mono _ _)
  |(with_reducible exact spec_QueueRun.mono _ _ _ _)
  |(with_reducible exact LeO.refl _)
  |(with_reducible exact LeO.none _)
  |(with_reducible refine LeO.ite ?_ ?_)
  |(with_reducible refine LeO.bind ?_ (fun _ => ?_))
  |exact ih0 _ _ _
  |exact ih1 _ _ _ _ _ _ _ _ _
  |exact ih2 _ _ _ _ _ _ _ _ _
  |exact impl_QueueRun.mono _ _ _ _
  |exact laws_qdInts.mono _ _ _
  |exact laws_qdQueue.mono _ _ _ _ _
  |exact spec_DrawQueueRun.mono _ _
  |exact spec_QueueRun.mono _ _ _ _
  |exact LeO.none _
  |refine LeO.ite ?_ ?_
  |refine LeO.bind ?_ (fun _ => ?_)
theorem laws_FnQueueRun.mono : ∀ a0 a1 k, LeO (laws_FnQueueRun.f k a0 a1) (laws_FnQueueRun.f (k + 1) a0 a1) := by
 intro a0 a1 k
 obtain ⟨ih0, ih1, ih2⟩ := laws_FnQueueRun.mono_l k
 unfold laws_FnQueueRun.f
 repeat' first
  |(with_reducible exact ih0 _ _ _)
  |(with_reducible exact ih1 _ _ _ _ _ _ _ _ _)
  |(with_reducible exact ih2 _ _ _ _ _ _ _ _ _)
  |(with_reducible exact impl_QueueRun.mono _ _ _ _)
  |(with_reducible exact laws_qdInts.mono _ _ _)
  |(with_reducible exact laws_qdQueue.mono _ _ _ _ _)
  |(with_reducible exact spec_DrawQueueRun.mono _ _)
  |(with_reducible exact spec_QueueRun.mono _ _ _ _)
  |(with_reducible exact LeO.refl _)
  |(with_reducible exact LeO.none _)
  |(with_reducible refine LeO.ite ?_ ?_)
  |(with_reducible refine LeO.bind ?_ (fun _ => ?_))
  |exact ih0 _ _ _
  |exact ih1 _ _ _ _ _ _ _ _ _
  |exact ih2 _ _ _ _ _ _ _ _ _
  |exact impl_QueueRun.mono _ _ _ _
  |exact laws_qdInts.mono _ _ _
  |exact laws_qdQueue.mono _ _ _ _ _
  |exact spec_DrawQueueRun.mono _ _
  |exact spec_QueueRun.mono _ _ _ _
  |exact LeO.none _
  |refine LeO.ite ?_ ?_
  |refine LeO.bind ?_ (fun _ => ?_)
set_option maxHeartbeats 2000000 in
set_option maxRecDepth 100000 in
theorem laws_FnQueueRun.calls (k:Nat) (A0:Option Addr) (c0:Nat) (l0:List Int) (A1:Option Addr) (c1:Nat) (l1:List Int) (r:Bool) (w:World) (hr0:Kd.C (Kd.int .u8) w A0 l0.length l0) (hc0:l0.length≤c0) (hr1:Kd.C (Kd.int .u8) w A1 l1.length l1) (hc1:l1.length≤c1) (h:laws_FnQueueRun.f k l0 l1=some r) (hT_:Aside0 (r=true)) :
  Calls Try.prog 8 #[.slice A0 l0.length c0,.slice A1 l1.length c1] w fun e w'=>e=.returned (.bool r)∧Below w.heap.size w w':=by
 have hu25:=Try.underlying25
 have HR0:=Am hr0
 have HC0:=Am hc0
 clear hr0 hc0
 have HR1:=Am hr1
 have HC1:=Am hc1
 clear hr1 hc1
 have HB:=Am (Below.refl w.heap.size w)
 have H:(if (l0.length:Int) > 1048576 then (laws_FnQueueRun.j0 k l0 l1 true) else (laws_FnQueueRun.j0 k l0 l1 (decide ((l1.length:Int) > 1048576))))=some r:=h
 clear h
 have HC3:=Am H
 clear H
 go_enter Try.func8,Try.ntmps8
 go_upto_region 1 with (fail)
 go_cut [28] (fun v28 wc=>∃ (kq:Nat) (x28_2:Bool),v28=.bool x28_2∧Aside0 (laws_FnQueueRun.j0 kq l0 l1 x28_2=some r)∧Aside0 (kq≤k)∧Aside0 (Below w.heap.size w wc))
 case first =>
  have H:=HC3.out
  clear HC3
  by_cases c4:(l0.length:Int) > 1048576
  ·rw [if_pos c4] at H
   have c4b0:decide (1048576<(l0.length:Int))=true:=decide_eq_true c4
   have c4b1:decide (1048576<l0.length)=true:=decide_eq_true (by omega)
   clear c4
   (first|rw [c4b0]|(simp only [i64_w,i32_w];rw [c4b0])|skip)
   have H':=Am H
   clear H
   go_wp2
   go_meet
   case rel=>exact ⟨_,(true),(by first|rfl|(simp;done)|(simp [*];done)),H',⟨by first|omega|exact Nat.le_refl _⟩,⟨by repeat (first|(with_reducible first|exact HB.out|apply oA|apply pN|apply o1)|exact HB.out)⟩⟩
  rw [if_neg c4] at H
  have c4b0:decide (1048576<(l0.length:Int))=false:=decide_eq_false c4
  have c4b1:decide (1048576<l0.length)=false:=decide_eq_false (by omega)
  clear c4
  (first|rw [c4b0]|(simp only [i64_w,i32_w];rw [c4b0])|skip)
  have H':=Am H
  clear H
  go_wp2
  go_meet
  case rel=>exact ⟨_,(decide ((l1.length:Int) > 1048576)),(by first|rfl|(simp;done)|(simp [*];done)),H',⟨by first|omega|exact Nat.le_refl _⟩,⟨by repeat (first|(with_reducible first|exact HB.out|apply oA|apply pN|apply o1)|exact HB.out)⟩⟩
 case rest =>
  clear HC3
  try clear c1
  try clear p2
  try clear c4
  try clear c4b0
  try clear c4b1
  obtain ⟨kq,x28_2,rfl,HA,Dw,HB⟩:=hcut
  cases kq with
 |zero=>exact absurd HA.out (by simp [laws_FnQueueRun.j0])
 |succ kj2 =>
   have H:=HA.out
   clear HA
   simp only [laws_FnQueueRun.j0] at H
   by_cases c5:x28_2=true
   ·subst c5
    have H1:(some true)=some r:=by rw [if_pos rfl] at H;exact H
    clear H
    have H:=H1
    clear H1
    obtain rfl:=Option.some.inj H
    go_wp2
    go_ret
    exact ⟨by first|rfl|(simp [errW_none,errW_some] <;> rfl)|(simp [*,errW_none,errW_some] <;> rfl),by repeat (first|(with_reducible first|exact HB.out|apply oA|apply pN|apply o1)|exact HB.out)⟩
   replace c5:=Bool.eq_false_iff.mpr c5
   subst c5
   have H1:((spec_DrawQueueRun.f kj2 l0).bind fun bt333=>((impl_QueueRun.f kj2 bt333.1 bt333.2.1 bt333.2.2).bind fun bt339=>((spec_QueueRun.f kj2 bt333.1 bt333.2.1 bt333.2.2).bind fun bt348=>((laws_qdQueue.f kj2 bt339.1 bt339.2.1 bt348.1 bt348.2.1).bind fun t357=>(if t357=true then ((laws_qdInts.f kj2 bt339.2.2.1 bt348.2.2.1).bind fun t358=>(if t358=true then (laws_FnQueueRun.j1 kj2 l1 bt333.2.2 bt339.2.2.1 bt339.2.2.2 (bt339.2.2.2 == bt348.2.2.2) bt333.1 bt333.2.1 bt339.1 bt339.2.1) else (laws_FnQueueRun.j1 kj2 l1 bt333.2.2 bt339.2.2.1 bt339.2.2.2 false bt333.1 bt333.2.1 bt339.1 bt339.2.1))) else (laws_FnQueueRun.j1 kj2 l1 bt333.2.2 bt339.2.2.1 bt339.2.2.2 false bt333.1 bt333.2.1 bt339.1 bt339.2.1))))))=some r:=by rw [if_neg (show ¬ (false=true) by decide)] at H;exact H
   clear H
   have H:=H1
   clear H1
   replace H:=oC H
   obtain ⟨⟨t333,t336,t337⟩,A60,H⟩:=H
   replace H:((impl_QueueRun.f kj2 t333 t336 t337).bind fun bt339=>((spec_QueueRun.f kj2 t333 t336 t337).bind fun bt348=>((laws_qdQueue.f kj2 bt339.1 bt339.2.1 bt348.1 bt348.2.1).bind fun t357=>(if t357=true then ((laws_qdInts.f kj2 bt339.2.2.1 bt348.2.2.1).bind fun t358=>(if t358=true then (laws_FnQueueRun.j1 kj2 l1 t337 bt339.2.2.1 bt339.2.2.2 (bt339.2.2.2 == bt348.2.2.2) t333 t336 bt339.1 bt339.2.1) else (laws_FnQueueRun.j1 kj2 l1 t337 bt339.2.2.1 bt339.2.2.2 false t333 t336 bt339.1 bt339.2.1))) else (laws_FnQueueRun.j1 kj2 l1 t337 bt339.2.2.1 bt339.2.2.2 false t333 t336 bt339.1 bt339.2.1)))))=some r:=H
   have A6:=Am A60
   clear A60
   replace H:=oC H
   obtain ⟨⟨t339,t342,t343,t346⟩,A70,H⟩:=H
   replace H:((spec_QueueRun.f kj2 t333 t336 t337).bind fun bt348=>((laws_qdQueue.f kj2 t339 t342 bt348.1 bt348.2.1).bind fun t357=>(if t357=true then ((laws_qdInts.f kj2 t343 bt348.2.2.1).bind fun t358=>(if t358=true then (laws_FnQueueRun.j1 kj2 l1 t337 t343 t346 (t346 == bt348.2.2.2) t333 t336 t339 t342) else (laws_FnQueueRun.j1 kj2 l1 t337 t343 t346 false t333 t336 t339 t342))) else (laws_FnQueueRun.j1 kj2 l1 t337 t343 t346 false t333 t336 t339 t342))))=some r:=H
   have A7:=Am A70
   clear A70
   replace H:=oC H
   obtain ⟨⟨t348,t351,t352,t355⟩,A80,H⟩:=H
   replace H:((laws_qdQueue.f kj2 t339 t342 t348 t351).bind fun t357=>(if t357=true then ((laws_qdInts.f kj2 t343 t352).bind fun t358=>(if t358=true then (laws_FnQueueRun.j1 kj2 l1 t337 t343 t346 (t346 == t355) t333 t336 t339 t342) else (laws_FnQueueRun.j1 kj2 l1 t337 t343 t346 false t333 t336 t339 t342))) else (laws_FnQueueRun.j1 kj2 l1 t337 t343 t346 false t333 t336 t339 t342)))=some r:=H
   have A8:=Am A80
   clear A80
   have HC9:=Am H
   clear H
   go_upto_region 6 with (first|((with_reducible refine gate_callee (f:=30) rfl ?_);refine goesL_ (some 31) rfl rfl Try.func30 (by kernel_rfl) rfl #[.slice A0 l0.length c0] rfl (by (try simp only [lM,lC,lN]);first|done|rfl|(simp only [lD,lT];rfl)) ?_;(with_reducible refine (spec_DrawQueueRun.calls kj2 _ _ l0 t333 t336 t337 _ ?side1 ?side2 A6.out).mono ?_);(case side1=>repeat (first|exact (cB HR0.out HB.out)|(with_reducible refine cA ?_ _)|(with_reducible refine cN ?_ _)|(with_reducible refine cD ?_)));(case side2=>exact HC0.out);rintro e w10 ⟨v334,rfl,ho0,hb⟩;refine ⟨_,rfl,?_⟩;have n0_:=Am (Kd.R_lower ho0 (bZ (by repeat (first|(with_reducible first|exact HB.out|apply oA|apply pN|apply o1)|exact HB.out))));have n1_:=Am (bP (by repeat (first|(with_reducible first|exact HB.out|apply oA|apply pN|apply o1)|exact HB.out)) hb);clear HB;revert n0_ n1_;intro Bo HB;(try clear hb);(try clear hb2);(try clear hk);(try clear hi);(try clear ho0))|((with_reducible refine gate_dst (N:=5) rfl ?_);(try (refine gate_guard (by rfl) ?_;dsimp only));refine box_event ?hg (N:=5) ?hd (cs:=#[.slice none 0 0,.int .i64 0]) (t:=25) ?hr ?_;(case hd=>rfl);(case hg=>rfl);(case hr=>first|(go_simp;done)|(go_simp;rfl));intro Bi hg w11 hbox hb;have n0_:=Am (rB (rL Bo.out) hb);have n1_:=Am (bP (by repeat (first|(with_reducible first|exact HB.out|apply oA|apply pN|apply o1)|exact HB.out)) hb);have n2_:=Am (hbox);have n3_:=Am ((by rw [hg];exact (bZ (by repeat (first|(with_reducible first|exact HB.out|apply oA|apply pN|apply o1)|exact HB.out))):w.heap.size≤Bi));have n4_:=Am ((by rw [hg];exact (bZ (by repeat (first|(with_reducible first|exact HB.out|apply oA|apply pN|apply o1)|exact HB.out))):w.heap.size≤Bi));clear Bo HB;revert n0_ n1_ n2_ n3_ n4_;intro Bo HB Bc DV Bk;clear hb hbox hg;obtain ⟨Ao12,co12,eo12⟩:=Kd.R_slice Bo.out;subst eo12;have BR:w11.cell? ⟨Bi,0,none⟩=some (.slice none 0 0):=(bC Bc.out 0).trans rfl;have BS:w11.cell? ⟨Bi,1,none⟩=some (.int .i64 0):=(bC Bc.out 1).trans rfl;have BT:=bF Bc.out 0;have BU:=bF Bc.out 1)|((with_reducible refine gate_callee (f:=19) rfl ?_);refine goesL_ (some 37) rfl rfl Try.func19 (by kernel_rfl) rfl #[.agg #[.slice Ao12 t333.length co12,.int .i64 t336],.int .i64 t337] rfl (by (try simp only [lM,lC,lN]);first|done|rfl|(simp only [lD,lT];rfl)) ?_;(with_reducible refine (impl_QueueRun.calls kj2 _ _ t333 t336 t337 t339 t342 t343 t346 _ ?side1 ?side2 A7.out).mono ?_);(case side1=>refine (Kd.R_reads' (e:=40) (base:=w.heap.size) (ok:=fun k_=>True) (n:=t333.length) (c:=co12) ?_).2.2;exact (by (with_reducible repeat (first|apply rA|apply rN|apply rD));exact (rM (rF (p:=⟨Bi,1,none⟩) (rF (p:=⟨Bi,0,none⟩) (rT Bo.out Bc.out (by decide)) (fun _ hk=>hk.2) (.slice Ao12 t333.length co12)) (fun _ hk=>hk.2) (.int .i64 t336)) (fun _ h_=>h_.1))));(case side2=>exact (Kd.R_reads' Bo.out).2.1);rintro e w14 ⟨v340,v344,rfl,ho0,ho1,hb⟩;refine ⟨_,rfl,?_⟩;have n0_:=Am (Kd.R_elder' (by (with_reducible repeat (first|apply rA|apply rN|apply rD));exact (rM (rF (p:=⟨Bi,1,none⟩) (rF (p:=⟨Bi,0,none⟩) (rT Bo.out Bc.out (by decide)) (fun _ hk=>hk.2) (.slice Ao12 t333.length co12)) (fun _ hk=>hk.2) (.int .i64 t336)) (fun _ h_=>h_.1))) (Kd.R_base ho0) hb);have n1_:=Am (Kd.R_lower (Kd.R_new' ho0 (Kd.R_lt (by (with_reducible repeat (first|apply rA|apply rN|apply rD));exact (rM (rF (p:=⟨Bi,1,none⟩) (rF (p:=⟨Bi,0,none⟩) (rT Bo.out Bc.out (by decide)) (fun _ hk=>hk.2) (.slice Ao12 t333.length co12)) (fun _ hk=>hk.2) (.int .i64 t336)) (fun _ h_=>h_.1))))) (bZ (by repeat (first|(with_reducible first|exact HB.out|apply oA|apply pN|apply o1|refine bS ?_ Bk.out)|exact HB.out))));have n2_:=Am (Kd.R_lower ho1 (bZ (by repeat (first|(with_reducible first|exact HB.out|apply oA|apply pN|apply o1|refine bS ?_ Bk.out)|exact HB.out))));have n3_:=Am (bB (g:=Bi) (o:=.cells #[.slice Ao12 t333.length co12,.int .i64 t336] 25 (0,0)) (by (with_reducible repeat (first|refine bN ?_ _|refine bD ?_|refine bA ?_ _));refine blk_put (cs:=#[.slice Ao12 t333.length co12,.int .i64 0]) ?_ 1 _ rfl;(with_reducible repeat (first|refine bN ?_ _|refine bD ?_|refine bA ?_ _));refine blk_put (cs:=#[.slice none 0 0,.int .i64 0]) ?_ 0 _ rfl;(with_reducible repeat (first|refine bN ?_ _|refine bD ?_|refine bA ?_ _));exact Bc.out) hb);have n4_:=Am (bP (by repeat (first|(with_reducible first|exact HB.out|apply oA|apply pN|apply o1|refine bS ?_ Bk.out)|exact HB.out)) hb);clear Bo Bc HB;revert n0_ n1_ n2_ n3_ n4_;intro Bo Bp Br Bc HB;(try clear hb);(try clear hb2);(try clear hk);(try clear hi);(try clear ho0);(try clear ho1))|((with_reducible refine gate_dst (N:=7) rfl ?_);(try (refine gate_guard (by rfl) ?_;dsimp only));refine box_event ?hg (N:=7) ?hd (cs:=#[.slice none 0 0,.int .i64 0]) (t:=25) ?hr ?_;(case hd=>rfl);(case hg=>rfl);(case hr=>first|(go_simp;done)|(go_simp;rfl));intro Bg hg w15 hbox hb;have n0_:=Am (rB (rL Bo.out) hb);have n1_:=Am (rB (rL Bp.out) hb);have n2_:=Am (rB (rL Br.out) hb);have n3_:=Am (bB (g:=Bi) (o:=.cells #[.slice Ao12 t333.length co12,.int .i64 t336] 25 (0,0)) (bL Bc.out) hb);have n4_:=Am (bP (by repeat (first|(with_reducible first|exact HB.out|apply oA|apply pN|apply o1|refine bS ?_ Bk.out)|exact HB.out)) hb);have n5_:=Am (hbox);have n6_:=Am ((by rw [hg];exact (bZ (by repeat (first|(with_reducible first|exact HB.out|apply oA|apply pN|apply o1|refine bS ?_ Bk.out)|exact HB.out))):w.heap.size≤Bg));have n7_:=Am ((by rw [hg];exact (bZ (by repeat (first|(with_reducible first|exact HB.out|apply oA|apply pN|apply o1|refine bS ?_ Bk.out)|exact HB.out))):w.heap.size≤Bg));have n8_:=Am ((by rw [hg];exact Nat.ne_of_lt (blk_lt (g:=Bi) (o:=.cells #[.slice Ao12 t333.length co12,.int .i64 t336] 25 (0,0)) (bL Bc.out)):Bi≠Bg));have n9_:=Am ((by rw [hg];exact Nat.ne_of_gt (blk_lt (g:=Bi) (o:=.cells #[.slice Ao12 t333.length co12,.int .i64 t336] 25 (0,0)) (bL Bc.out)):Bg≠Bi));clear Bo Bp Br Bc HB;revert n0_ n1_ n2_ n3_ n4_ n5_ n6_ n7_ n8_ n9_;intro Bo Bp Br Bc HB Bb DW Bn BF BG;clear hb hbox hg;obtain ⟨Ao16,co16,eo16⟩:=Kd.R_slice Bp.out;subst eo16;have DX:=BG.out;have DY:=BF.out;have BV:w15.cell? ⟨Bg,0,none⟩=some (.slice none 0 0):=(bC Bb.out 0).trans rfl;have BW:w15.cell? ⟨Bg,1,none⟩=some (.int .i64 0):=(bC Bb.out 1).trans rfl;have BX:=bF Bb.out 0;have BY:=bF Bb.out 1;have BZ:w15.cell? ⟨Bi,0,none⟩=some (.slice Ao12 t333.length co12):=(bC Bc.out 0).trans rfl;have B0:w15.cell? ⟨Bi,1,none⟩=some (.int .i64 t336):=(bC Bc.out 1).trans rfl;have B1:=bF Bc.out 0;have B2:=bF Bc.out 1)|((with_reducible refine gate_callee (f:=31) rfl ?_);refine goesL_ (some 44) rfl rfl Try.func31 (by kernel_rfl) rfl #[.agg #[.slice Ao12 t333.length co12,.int .i64 t336],.int .i64 t337] rfl (by (try simp only [lM,lC,lN]);first|done|rfl|(simp only [lD,lT];rfl)) ?_;(with_reducible refine (spec_QueueRun.calls kj2 _ _ t333 t336 t337 t348 t351 t352 t355 _ ?side1 ?side2 A8.out).mono ?_);(case side1=>refine (Kd.R_reads' (e:=40) (base:=w.heap.size) (ok:=fun k_=>(True∧some k_≠(.slice Ao16 t339.length co16:Value).ownBlock)) (n:=t333.length) (c:=co12) ?_).2.2;exact (by (with_reducible repeat (first|apply rA|apply rN|apply rD));exact (rM (rF (p:=⟨Bg,1,none⟩) (rF (p:=⟨Bg,0,none⟩) (rT Bo.out Bb.out (by decide)) (fun _ hk=>hk.2) (.slice Ao16 t339.length co16)) (fun _ hk=>hk.2) (.int .i64 t342)) (fun _ h_=>h_.1))));(case side2=>exact (Kd.R_reads' Bo.out).2.1);rintro e w20 ⟨v349,v353,rfl,ho0,ho1,hb⟩;refine ⟨_,rfl,?_⟩;have n0_:=Am (Kd.R_elder' (by (with_reducible repeat (first|apply rA|apply rN|apply rD));exact (rM (rF (p:=⟨Bg,1,none⟩) (rF (p:=⟨Bg,0,none⟩) (rT Bo.out Bb.out (by decide)) (fun _ hk=>hk.2) (.slice Ao16 t339.length co16)) (fun _ hk=>hk.2) (.int .i64 t342)) (fun _ h_=>h_.1))) (Kd.R_base ho0) hb);have n1_:=Am (Kd.R_elder' (by (with_reducible repeat (first|apply rA|apply rN|apply rD));exact (rM (rF (p:=⟨Bg,1,none⟩) (rF (p:=⟨Bg,0,none⟩) (rT Bp.out Bb.out (by decide)) (fun _ hk=>hk.2) (.slice Ao16 t339.length co16)) (fun _ hk=>hk.2) (.int .i64 t342)) (fun _ h_=>h_.1))) (Kd.R_base ho0) hb);have n2_:=Am (Kd.R_elder' (by (with_reducible repeat (first|apply rA|apply rN|apply rD));exact (rM (rF (p:=⟨Bg,1,none⟩) (rF (p:=⟨Bg,0,none⟩) (rT Br.out Bb.out (by decide)) (fun _ hk=>hk.2) (.slice Ao16 t339.length co16)) (fun _ hk=>hk.2) (.int .i64 t342)) (fun _ h_=>h_.1))) (Kd.R_base ho1) hb);have n3_:=Am (Kd.R_lower (Kd.R_new' (Kd.R_new' ho0 (Kd.R_lt (by (with_reducible repeat (first|apply rA|apply rN|apply rD));exact (rM (rF (p:=⟨Bg,1,none⟩) (rF (p:=⟨Bg,0,none⟩) (rT Bo.out Bb.out (by decide)) (fun _ hk=>hk.2) (.slice Ao16 t339.length co16)) (fun _ hk=>hk.2) (.int .i64 t342)) (fun _ h_=>h_.1))))) (Kd.R_lt (by (with_reducible repeat (first|apply rA|apply rN|apply rD));exact (rM (rF (p:=⟨Bg,1,none⟩) (rF (p:=⟨Bg,0,none⟩) (rT Bp.out Bb.out (by decide)) (fun _ hk=>hk.2) (.slice Ao16 t339.length co16)) (fun _ hk=>hk.2) (.int .i64 t342)) (fun _ h_=>h_.1))))) (bZ (by repeat (first|(with_reducible first|exact HB.out|apply oA|apply pN|apply o1|refine bS ?_ Bk.out|refine bS ?_ Bn.out)|exact HB.out))));have n4_:=Am (Kd.R_lower (Kd.R_new' ho1 (Kd.R_lt (by (with_reducible repeat (first|apply rA|apply rN|apply rD));exact (rM (rF (p:=⟨Bg,1,none⟩) (rF (p:=⟨Bg,0,none⟩) (rT Br.out Bb.out (by decide)) (fun _ hk=>hk.2) (.slice Ao16 t339.length co16)) (fun _ hk=>hk.2) (.int .i64 t342)) (fun _ h_=>h_.1))))) (bZ (by repeat (first|(with_reducible first|exact HB.out|apply oA|apply pN|apply o1|refine bS ?_ Bk.out|refine bS ?_ Bn.out)|exact HB.out))));have n5_:=Am (bB (g:=Bi) (o:=.cells #[.slice Ao12 t333.length co12,.int .i64 t336] 25 (0,0)) (by (with_reducible repeat (first|refine bN ?_ _|refine bD ?_|refine bA ?_ _|refine blk_far ?_ BF.out _));exact Bc.out) hb);have n6_:=Am (bB (g:=Bg) (o:=.cells #[.slice Ao16 t339.length co16,.int .i64 t342] 25 (0,0)) (by (with_reducible repeat (first|refine bN ?_ _|refine bD ?_|refine bA ?_ _));refine blk_put (cs:=#[.slice Ao16 t339.length co16,.int .i64 0]) ?_ 1 _ rfl;(with_reducible repeat (first|refine bN ?_ _|refine bD ?_|refine bA ?_ _));refine blk_put (cs:=#[.slice none 0 0,.int .i64 0]) ?_ 0 _ rfl;(with_reducible repeat (first|refine bN ?_ _|refine bD ?_|refine bA ?_ _));exact Bb.out) hb);have n7_:=Am (bP (by repeat (first|(with_reducible first|exact HB.out|apply oA|apply pN|apply o1|refine bS ?_ Bk.out|refine bS ?_ Bn.out)|exact HB.out)) hb);clear Bo Bp Br Bc Bb HB;revert n0_ n1_ n2_ n3_ n4_ n5_ n6_ n7_;intro Bo Bp Br Bw By Bc Bb HB;(try clear hb);(try clear hb2);(try clear hk);(try clear hi);(try clear ho0);(try clear ho1))|((with_reducible refine gate_dst (N:=10) rfl ?_);(try (refine gate_guard (by rfl) ?_;dsimp only));refine box_event ?hg (N:=10) ?hd (cs:=#[.slice none 0 0,.int .i64 0]) (t:=25) ?hr ?_;(case hd=>rfl);(case hg=>rfl);(case hr=>first|(go_simp;done)|(go_simp;rfl));intro Bd hg w21 hbox hb;have n0_:=Am (rB (rL Bo.out) hb);have n1_:=Am (rB (rL Bp.out) hb);have n2_:=Am (rB (rL Br.out) hb);have n3_:=Am (rB (rL Bw.out) hb);have n4_:=Am (rB (rL By.out) hb);have n5_:=Am (bB (g:=Bi) (o:=.cells #[.slice Ao12 t333.length co12,.int .i64 t336] 25 (0,0)) (bL Bc.out) hb);have n6_:=Am (bB (g:=Bg) (o:=.cells #[.slice Ao16 t339.length co16,.int .i64 t342] 25 (0,0)) (bL Bb.out) hb);have n7_:=Am (bP (by repeat (first|(with_reducible first|exact HB.out|apply oA|apply pN|apply o1|refine bS ?_ Bk.out|refine bS ?_ Bn.out)|exact HB.out)) hb);have n8_:=Am (hbox);have n9_:=Am ((by rw [hg];exact (bZ (by repeat (first|(with_reducible first|exact HB.out|apply oA|apply pN|apply o1|refine bS ?_ Bk.out|refine bS ?_ Bn.out)|exact HB.out))):w.heap.size≤Bd));have n10_:=Am ((by rw [hg];exact (bZ (by repeat (first|(with_reducible first|exact HB.out|apply oA|apply pN|apply o1|refine bS ?_ Bk.out|refine bS ?_ Bn.out)|exact HB.out))):w.heap.size≤Bd));have n11_:=Am ((by rw [hg];exact Nat.ne_of_lt (blk_lt (g:=Bi) (o:=.cells #[.slice Ao12 t333.length co12,.int .i64 t336] 25 (0,0)) (bL Bc.out)):Bi≠Bd));have n12_:=Am ((by rw [hg];exact Nat.ne_of_gt (blk_lt (g:=Bi) (o:=.cells #[.slice Ao12 t333.length co12,.int .i64 t336] 25 (0,0)) (bL Bc.out)):Bd≠Bi));have n13_:=Am ((by rw [hg];exact Nat.ne_of_lt (blk_lt (g:=Bg) (o:=.cells #[.slice Ao16 t339.length co16,.int .i64 t342] 25 (0,0)) (bL Bb.out)):Bg≠Bd));have n14_:=Am ((by rw [hg];exact Nat.ne_of_gt (blk_lt (g:=Bg) (o:=.cells #[.slice Ao16 t339.length co16,.int .i64 t342] 25 (0,0)) (bL Bb.out)):Bd≠Bg));clear Bo Bp Br Bw By Bc Bb HB;revert n0_ n1_ n2_ n3_ n4_ n5_ n6_ n7_ n8_ n9_ n10_ n11_ n12_ n13_ n14_;intro Bo Bp Br Bw By Bc Bb HB Ba DZ Bq BA BH BB BI;clear hb hbox hg;obtain ⟨Ao22,co22,eo22⟩:=Kd.R_slice Bw.out;subst eo22;have D0:=BH.out;have D1:=BA.out;have D2:=BI.out;have D3:=BB.out;have B3:w21.cell? ⟨Bd,0,none⟩=some (.slice none 0 0):=(bC Ba.out 0).trans rfl;have B4:w21.cell? ⟨Bd,1,none⟩=some (.int .i64 0):=(bC Ba.out 1).trans rfl;have B5:=bF Ba.out 0;have B6:=bF Ba.out 1))
   (try simp only [Act.put,lA,lZ,lS])
   go_cut [13] (fun v13 wc=>∃ (kq:Nat) (x13_8:Bool),v13=.bool x13_8∧Aside0 (laws_FnQueueRun.j1 kq l1 t337 t343 t346 x13_8 t333 t336 t339 t342=some r)∧Aside0 (kq≤kj2)∧Aside0 (Kd.R (Kd.int .i64) 3 wc w.heap.size (fun _=>True) v344 t343)∧Aside0 (Kd.R k40 40 wc w.heap.size (fun k_=>some k_≠((.slice Ao16 t339.length co16):Value).ownBlock∧some k_≠((.slice Ao22 t348.length co22):Value).ownBlock) (.slice Ao12 t333.length co12) t333)∧Aside0 (Kd.R k40 40 wc w.heap.size (fun k_=>some k_≠((.slice Ao12 t333.length co12):Value).ownBlock∧some k_≠((.slice Ao22 t348.length co22):Value).ownBlock) (.slice Ao16 t339.length co16) t339)∧Aside0 (Kd.R k40 40 wc w.heap.size (fun k_=>some k_≠((.slice Ao12 t333.length co12):Value).ownBlock∧some k_≠((.slice Ao16 t339.length co16):Value).ownBlock) (.slice Ao22 t348.length co22) t348)∧Aside0 (wc.heap[Bi]?=some (.cells #[(.slice Ao12 t333.length co12),.int .i64 t336] 25 (0,0)))∧Aside0 (wc.heap[Bg]?=some (.cells #[(.slice Ao16 t339.length co16),.int .i64 t342] 25 (0,0)))∧Aside0 (wc.heap[Bd]?=some (.cells #[(.slice Ao22 t348.length co22),.int .i64 t351] 25 (0,0)))∧Aside0 (Below w.heap.size w wc))
   case first =>
    have H:=HC9.out
    clear HC9
    replace H:=oC H
    obtain ⟨t357,A260,H⟩:=H
    replace H:(if t357=true then ((laws_qdInts.f kj2 t343 t352).bind fun t358=>(if t358=true then (laws_FnQueueRun.j1 kj2 l1 t337 t343 t346 (t346 == t355) t333 t336 t339 t342) else (laws_FnQueueRun.j1 kj2 l1 t337 t343 t346 false t333 t336 t339 t342))) else (laws_FnQueueRun.j1 kj2 l1 t337 t343 t346 false t333 t336 t339 t342))=some r:=H
    have A26:=Am A260
    clear A260
    by_cases c27:t357=true
    rotate_left
    ·replace c27:=Bool.eq_false_iff.mpr c27
     subst c27
     have H1:(laws_FnQueueRun.j1 kj2 l1 t337 t343 t346 false t333 t336 t339 t342)=some r:=by rw [if_neg (show ¬ (false=true) by decide)] at H;exact H
     clear H
     have H:=H1
     clear H1
     have H':=Am H
     clear H
     have Fg:=BG.out
     have Fh:=BF.out
     have Fi:=BB.out
     have Fj:=BI.out
     have Dn:w21.cell? ⟨Bg,0,none⟩=some (.slice Ao16 t339.length co16):=(bC Bb.out 0).trans rfl
     have Do:w21.cell? ⟨Bg,1,none⟩=some (.int .i64 t342):=(bC Bb.out 1).trans rfl
     have Dp:=bF Bb.out 0
     have Dq:=bF Bb.out 1
     have Fk:=BH.out
     have Fl:=BA.out
     have Dr:w21.cell? ⟨Bd,0,none⟩=some (.slice none 0 0):=(bC Ba.out 0).trans rfl
     have Ds:w21.cell? ⟨Bd,1,none⟩=some (.int .i64 0):=(bC Ba.out 1).trans rfl
     have Dt:=bF Ba.out 0
     have Du:=bF Ba.out 1
     go_wp2_with (first|((with_reducible refine gate_callee (f:=15) rfl ?_);refine goesL_ (some 50) rfl rfl Try.func15 (by kernel_rfl) rfl #[.agg #[.slice Ao16 t339.length co16,.int .i64 t342],.agg #[.slice Ao22 t348.length co22,.int .i64 t351]] rfl (by (try simp only [lM,lC,lN]);first|done|rfl|(simp only [lD,lT];rfl)) ?_;(with_reducible refine (laws_qdQueue.calls kj2 _ _ t339 t342 _ _ t348 t351 false _ ?side1 ?side2 ?side3 ?side4 A26.out).mono ?_);(case side1=>refine (Kd.R_reads' (e:=40) (base:=w.heap.size) (ok:=fun k_=>((True∧some k_≠(.slice Ao12 t333.length co12:Value).ownBlock)∧some k_≠(.slice Ao22 t348.length co22:Value).ownBlock)) (n:=t339.length) (c:=co16) ?_).2.2;exact (by (with_reducible repeat (first|apply rA|apply rN|apply rD));exact (rM (rF (p:=⟨Bd,1,none⟩) (rF (p:=⟨Bd,0,none⟩) (rT Bp.out Ba.out (by decide)) (fun _ hk=>hk.2) (.slice Ao22 t348.length co22)) (fun _ hk=>hk.2) (.int .i64 t351)) (fun _ h_=>h_.1))));(case side2=>exact (Kd.R_reads' Bp.out).2.1);(case side3=>refine (Kd.R_reads' (e:=40) (base:=w.heap.size) (ok:=fun k_=>((True∧some k_≠(.slice Ao12 t333.length co12:Value).ownBlock)∧some k_≠(.slice Ao16 t339.length co16:Value).ownBlock)) (n:=t348.length) (c:=co22) ?_).2.2;exact (by (with_reducible repeat (first|apply rA|apply rN|apply rD));exact (rM (rF (p:=⟨Bd,1,none⟩) (rF (p:=⟨Bd,0,none⟩) (rT Bw.out Ba.out (by decide)) (fun _ hk=>hk.2) (.slice Ao22 t348.length co22)) (fun _ hk=>hk.2) (.int .i64 t351)) (fun _ h_=>h_.1))));(case side4=>exact (Kd.R_reads' Bw.out).2.1);rintro e w51 ⟨rfl,hb⟩;refine ⟨_,rfl,?_⟩;have n0_:=Am (rB (by (with_reducible repeat (first|apply rA|apply rN|apply rD));exact (rM (rF (p:=⟨Bd,1,none⟩) (rF (p:=⟨Bd,0,none⟩) (rT Bo.out Ba.out (by decide)) (fun _ hk=>hk.2) (.slice Ao22 t348.length co22)) (fun _ hk=>hk.2) (.int .i64 t351)) (fun _ h_=>h_.1))) hb);have n1_:=Am (rB (by (with_reducible repeat (first|apply rA|apply rN|apply rD));exact (rM (rF (p:=⟨Bd,1,none⟩) (rF (p:=⟨Bd,0,none⟩) (rT Bp.out Ba.out (by decide)) (fun _ hk=>hk.2) (.slice Ao22 t348.length co22)) (fun _ hk=>hk.2) (.int .i64 t351)) (fun _ h_=>h_.1))) hb);have n2_:=Am (rB (by (with_reducible repeat (first|apply rA|apply rN|apply rD));exact (rM (rF (p:=⟨Bd,1,none⟩) (rF (p:=⟨Bd,0,none⟩) (rT Br.out Ba.out (by decide)) (fun _ hk=>hk.2) (.slice Ao22 t348.length co22)) (fun _ hk=>hk.2) (.int .i64 t351)) (fun _ h_=>h_.1))) hb);have n3_:=Am (rB (by (with_reducible repeat (first|apply rA|apply rN|apply rD));exact (rM (rF (p:=⟨Bd,1,none⟩) (rF (p:=⟨Bd,0,none⟩) (rT Bw.out Ba.out (by decide)) (fun _ hk=>hk.2) (.slice Ao22 t348.length co22)) (fun _ hk=>hk.2) (.int .i64 t351)) (fun _ h_=>h_.1))) hb);have n4_:=Am (rB (by (with_reducible repeat (first|apply rA|apply rN|apply rD));exact (rM (rF (p:=⟨Bd,1,none⟩) (rF (p:=⟨Bd,0,none⟩) (rT By.out Ba.out (by decide)) (fun _ hk=>hk.2) (.slice Ao22 t348.length co22)) (fun _ hk=>hk.2) (.int .i64 t351)) (fun _ h_=>h_.1))) hb);have n5_:=Am (bB (g:=Bi) (o:=.cells #[.slice Ao12 t333.length co12,.int .i64 t336] 25 (0,0)) (by (with_reducible repeat (first|refine bN ?_ _|refine bD ?_|refine bA ?_ _|refine blk_far ?_ BA.out _));exact Bc.out) hb);have n6_:=Am (bB (g:=Bg) (o:=.cells #[.slice Ao16 t339.length co16,.int .i64 t342] 25 (0,0)) (by (with_reducible repeat (first|refine bN ?_ _|refine bD ?_|refine bA ?_ _|refine blk_far ?_ BB.out _));exact Bb.out) hb);have n7_:=Am (bB (g:=Bd) (o:=.cells #[.slice Ao22 t348.length co22,.int .i64 t351] 25 (0,0)) (by (with_reducible repeat (first|refine bN ?_ _|refine bD ?_|refine bA ?_ _));refine blk_put (cs:=#[.slice Ao22 t348.length co22,.int .i64 0]) ?_ 1 _ rfl;(with_reducible repeat (first|refine bN ?_ _|refine bD ?_|refine bA ?_ _));refine blk_put (cs:=#[.slice none 0 0,.int .i64 0]) ?_ 0 _ rfl;(with_reducible repeat (first|refine bN ?_ _|refine bD ?_|refine bA ?_ _));exact Ba.out) hb);have n8_:=Am (bP (by repeat (first|(with_reducible first|exact HB.out|apply oA|apply pN|apply o1|refine bS ?_ Bk.out|refine bS ?_ Bn.out|refine bS ?_ Bq.out)|exact HB.out)) hb);clear Bo Bp Br Bw By Bc Bb Ba HB;revert n0_ n1_ n2_ n3_ n4_ n5_ n6_ n7_ n8_;intro Bo Bp Br Bw By Bc Bb Ba HB;(try clear hb);(try clear hb2);(try clear hk);(try clear hi)))
     go_meet
     case rel=>exact ⟨_,(false),(by first|rfl|(simp;done)|(simp [*];done)),H',⟨by have:=Dw.out;first|omega|exact Nat.le_refl _⟩,⟨by (with_reducible repeat (first|apply rA|apply rN|apply rD));exact rM Br.out (fun _ hk=>trivial)⟩,⟨by (with_reducible repeat (first|apply rA|apply rN|apply rD));exact rM Bo.out (fun _ hk=>⟨hk.1.2,hk.2⟩)⟩,⟨by (with_reducible repeat (first|apply rA|apply rN|apply rD));exact rM Bp.out (fun _ hk=>⟨hk.1.2,hk.2⟩)⟩,⟨by (with_reducible repeat (first|apply rA|apply rN|apply rD));exact rM Bw.out (fun _ hk=>⟨hk.1.2,hk.2⟩)⟩,⟨by (with_reducible repeat (first|refine bN ?_ _|refine bD ?_|refine bA ?_ _));exact Bc.out⟩,⟨by (with_reducible repeat (first|refine bN ?_ _|refine bD ?_|refine bA ?_ _));exact Bb.out⟩,⟨by (with_reducible repeat (first|refine bN ?_ _|refine bD ?_|refine bA ?_ _));exact Ba.out⟩,⟨by repeat (first|(with_reducible first|exact HB.out|apply oA|apply pN|apply o1|refine bS ?_ Bk.out|refine bS ?_ Bn.out|refine bS ?_ Bq.out)|exact HB.out)⟩⟩
    subst c27
    have H1:((laws_qdInts.f kj2 t343 t352).bind fun t358=>(if t358=true then (laws_FnQueueRun.j1 kj2 l1 t337 t343 t346 (t346 == t355) t333 t336 t339 t342) else (laws_FnQueueRun.j1 kj2 l1 t337 t343 t346 false t333 t336 t339 t342)))=some r:=by rw [if_pos rfl] at H;exact H
    clear H
    have H:=H1
    clear H1
    replace H:=oC H
    obtain ⟨t358,A280,H⟩:=H
    replace H:(if t358=true then (laws_FnQueueRun.j1 kj2 l1 t337 t343 t346 (t346 == t355) t333 t336 t339 t342) else (laws_FnQueueRun.j1 kj2 l1 t337 t343 t346 false t333 t336 t339 t342))=some r:=H
    have A28:=Am A280
    clear A280
    by_cases c29:t358=true
    ·subst c29
     have H1:(laws_FnQueueRun.j1 kj2 l1 t337 t343 t346 (t346 == t355) t333 t336 t339 t342)=some r:=by rw [if_pos rfl] at H;exact H
     clear H
     have H:=H1
     clear H1
     have H':=Am H
     clear H
     have D4:=BG.out
     have D5:=BF.out
     have D6:=BB.out
     have D7:=BI.out
     have B7:w21.cell? ⟨Bg,0,none⟩=some (.slice Ao16 t339.length co16):=(bC Bb.out 0).trans rfl
     have B8:w21.cell? ⟨Bg,1,none⟩=some (.int .i64 t342):=(bC Bb.out 1).trans rfl
     have B9:=bF Bb.out 0
     have Da:=bF Bb.out 1
     have D8:=BH.out
     have D9:=BA.out
     have Db:w21.cell? ⟨Bd,0,none⟩=some (.slice none 0 0):=(bC Ba.out 0).trans rfl
     have Dc:w21.cell? ⟨Bd,1,none⟩=some (.int .i64 0):=(bC Ba.out 1).trans rfl
     have Dd:=bF Ba.out 0
     have De:=bF Ba.out 1
     go_wp2_with (first|((with_reducible refine gate_callee (f:=15) rfl ?_);refine goesL_ (some 50) rfl rfl Try.func15 (by kernel_rfl) rfl #[.agg #[.slice Ao16 t339.length co16,.int .i64 t342],.agg #[.slice Ao22 t348.length co22,.int .i64 t351]] rfl (by (try simp only [lM,lC,lN]);first|done|rfl|(simp only [lD,lT];rfl)) ?_;(with_reducible refine (laws_qdQueue.calls kj2 _ _ t339 t342 _ _ t348 t351 true _ ?side1 ?side2 ?side3 ?side4 A26.out).mono ?_);(case side1=>refine (Kd.R_reads' (e:=40) (base:=w.heap.size) (ok:=fun k_=>((True∧some k_≠(.slice Ao12 t333.length co12:Value).ownBlock)∧some k_≠(.slice Ao22 t348.length co22:Value).ownBlock)) (n:=t339.length) (c:=co16) ?_).2.2;exact (by (with_reducible repeat (first|apply rA|apply rN|apply rD));exact (rM (rF (p:=⟨Bd,1,none⟩) (rF (p:=⟨Bd,0,none⟩) (rT Bp.out Ba.out (by decide)) (fun _ hk=>hk.2) (.slice Ao22 t348.length co22)) (fun _ hk=>hk.2) (.int .i64 t351)) (fun _ h_=>h_.1))));(case side2=>exact (Kd.R_reads' Bp.out).2.1);(case side3=>refine (Kd.R_reads' (e:=40) (base:=w.heap.size) (ok:=fun k_=>((True∧some k_≠(.slice Ao12 t333.length co12:Value).ownBlock)∧some k_≠(.slice Ao16 t339.length co16:Value).ownBlock)) (n:=t348.length) (c:=co22) ?_).2.2;exact (by (with_reducible repeat (first|apply rA|apply rN|apply rD));exact (rM (rF (p:=⟨Bd,1,none⟩) (rF (p:=⟨Bd,0,none⟩) (rT Bw.out Ba.out (by decide)) (fun _ hk=>hk.2) (.slice Ao22 t348.length co22)) (fun _ hk=>hk.2) (.int .i64 t351)) (fun _ h_=>h_.1))));(case side4=>exact (Kd.R_reads' Bw.out).2.1);rintro e w35 ⟨rfl,hb⟩;refine ⟨_,rfl,?_⟩;have n0_:=Am (rB (by (with_reducible repeat (first|apply rA|apply rN|apply rD));exact (rM (rF (p:=⟨Bd,1,none⟩) (rF (p:=⟨Bd,0,none⟩) (rT Bo.out Ba.out (by decide)) (fun _ hk=>hk.2) (.slice Ao22 t348.length co22)) (fun _ hk=>hk.2) (.int .i64 t351)) (fun _ h_=>h_.1))) hb);have n1_:=Am (rB (by (with_reducible repeat (first|apply rA|apply rN|apply rD));exact (rM (rF (p:=⟨Bd,1,none⟩) (rF (p:=⟨Bd,0,none⟩) (rT Bp.out Ba.out (by decide)) (fun _ hk=>hk.2) (.slice Ao22 t348.length co22)) (fun _ hk=>hk.2) (.int .i64 t351)) (fun _ h_=>h_.1))) hb);have n2_:=Am (rB (by (with_reducible repeat (first|apply rA|apply rN|apply rD));exact (rM (rF (p:=⟨Bd,1,none⟩) (rF (p:=⟨Bd,0,none⟩) (rT Br.out Ba.out (by decide)) (fun _ hk=>hk.2) (.slice Ao22 t348.length co22)) (fun _ hk=>hk.2) (.int .i64 t351)) (fun _ h_=>h_.1))) hb);have n3_:=Am (rB (by (with_reducible repeat (first|apply rA|apply rN|apply rD));exact (rM (rF (p:=⟨Bd,1,none⟩) (rF (p:=⟨Bd,0,none⟩) (rT Bw.out Ba.out (by decide)) (fun _ hk=>hk.2) (.slice Ao22 t348.length co22)) (fun _ hk=>hk.2) (.int .i64 t351)) (fun _ h_=>h_.1))) hb);have n4_:=Am (rB (by (with_reducible repeat (first|apply rA|apply rN|apply rD));exact (rM (rF (p:=⟨Bd,1,none⟩) (rF (p:=⟨Bd,0,none⟩) (rT By.out Ba.out (by decide)) (fun _ hk=>hk.2) (.slice Ao22 t348.length co22)) (fun _ hk=>hk.2) (.int .i64 t351)) (fun _ h_=>h_.1))) hb);have n5_:=Am (bB (g:=Bi) (o:=.cells #[.slice Ao12 t333.length co12,.int .i64 t336] 25 (0,0)) (by (with_reducible repeat (first|refine bN ?_ _|refine bD ?_|refine bA ?_ _|refine blk_far ?_ BA.out _));exact Bc.out) hb);have n6_:=Am (bB (g:=Bg) (o:=.cells #[.slice Ao16 t339.length co16,.int .i64 t342] 25 (0,0)) (by (with_reducible repeat (first|refine bN ?_ _|refine bD ?_|refine bA ?_ _|refine blk_far ?_ BB.out _));exact Bb.out) hb);have n7_:=Am (bB (g:=Bd) (o:=.cells #[.slice Ao22 t348.length co22,.int .i64 t351] 25 (0,0)) (by (with_reducible repeat (first|refine bN ?_ _|refine bD ?_|refine bA ?_ _));refine blk_put (cs:=#[.slice Ao22 t348.length co22,.int .i64 0]) ?_ 1 _ rfl;(with_reducible repeat (first|refine bN ?_ _|refine bD ?_|refine bA ?_ _));refine blk_put (cs:=#[.slice none 0 0,.int .i64 0]) ?_ 0 _ rfl;(with_reducible repeat (first|refine bN ?_ _|refine bD ?_|refine bA ?_ _));exact Ba.out) hb);have n8_:=Am (bP (by repeat (first|(with_reducible first|exact HB.out|apply oA|apply pN|apply o1|refine bS ?_ Bk.out|refine bS ?_ Bn.out|refine bS ?_ Bq.out)|exact HB.out)) hb);clear Bo Bp Br Bw By Bc Bb Ba HB;revert n0_ n1_ n2_ n3_ n4_ n5_ n6_ n7_ n8_;intro Bo Bp Br Bw By Bc Bb Ba HB;(try clear hb);(try clear hb2);(try clear hk);(try clear hi);obtain ⟨Ao36,co36,eo36⟩:=Kd.R_slice Br.out;subst eo36;obtain ⟨Ao37,co37,eo37⟩:=Kd.R_slice By.out;subst eo37)|(go_at_call 32;(with_reducible refine (laws_qdInts.calls kj2 _ _ t343 _ _ t352 true _ ?side1 ?side2 ?side3 ?side4 A28.out).mono ?_);(case side1=>repeat (first|exact (Kd.R_reads' Br.out).2.2|(with_reducible refine cA ?_ _)|(with_reducible refine cN ?_ _)|(with_reducible refine cD ?_)));(case side2=>exact (Kd.R_reads' Br.out).2.1);(case side3=>repeat (first|exact (Kd.R_reads' By.out).2.2|(with_reducible refine cA ?_ _)|(with_reducible refine cN ?_ _)|(with_reducible refine cD ?_)));(case side4=>exact (Kd.R_reads' By.out).2.1);rintro e w' ⟨rfl,⟨nd,rfl⟩⟩))
     go_meet
     case rel=>exact ⟨_,((t346 == t355)),(by first|rfl|(simp;done)|(simp [*];done)),H',⟨by have:=Dw.out;first|omega|exact Nat.le_refl _⟩,⟨by (with_reducible repeat (first|apply rA|apply rN|apply rD));exact rM Br.out (fun _ hk=>trivial)⟩,⟨by (with_reducible repeat (first|apply rA|apply rN|apply rD));exact rM Bo.out (fun _ hk=>⟨hk.1.2,hk.2⟩)⟩,⟨by (with_reducible repeat (first|apply rA|apply rN|apply rD));exact rM Bp.out (fun _ hk=>⟨hk.1.2,hk.2⟩)⟩,⟨by (with_reducible repeat (first|apply rA|apply rN|apply rD));exact rM Bw.out (fun _ hk=>⟨hk.1.2,hk.2⟩)⟩,⟨by (with_reducible repeat (first|refine bN ?_ _|refine bD ?_|refine bA ?_ _));exact Bc.out⟩,⟨by (with_reducible repeat (first|refine bN ?_ _|refine bD ?_|refine bA ?_ _));exact Bb.out⟩,⟨by (with_reducible repeat (first|refine bN ?_ _|refine bD ?_|refine bA ?_ _));exact Ba.out⟩,⟨by repeat (first|(with_reducible first|exact HB.out|apply oA|apply pN|apply o1|refine bS ?_ Bk.out|refine bS ?_ Bn.out|refine bS ?_ Bq.out)|exact HB.out)⟩⟩
    replace c29:=Bool.eq_false_iff.mpr c29
    subst c29
    have H1:(laws_FnQueueRun.j1 kj2 l1 t337 t343 t346 false t333 t336 t339 t342)=some r:=by rw [if_neg (show ¬ (false=true) by decide)] at H;exact H
    clear H
    have H:=H1
    clear H1
    have H':=Am H
    clear H
    have Fa:=BG.out
    have Fb:=BF.out
    have Fc:=BB.out
    have Fd:=BI.out
    have Df:w21.cell? ⟨Bg,0,none⟩=some (.slice Ao16 t339.length co16):=(bC Bb.out 0).trans rfl
    have Dg:w21.cell? ⟨Bg,1,none⟩=some (.int .i64 t342):=(bC Bb.out 1).trans rfl
    have Dh:=bF Bb.out 0
    have Di:=bF Bb.out 1
    have Fe:=BH.out
    have Ff:=BA.out
    have Dj:w21.cell? ⟨Bd,0,none⟩=some (.slice none 0 0):=(bC Ba.out 0).trans rfl
    have Dk:w21.cell? ⟨Bd,1,none⟩=some (.int .i64 0):=(bC Ba.out 1).trans rfl
    have Dl:=bF Ba.out 0
    have Dm:=bF Ba.out 1
    go_wp2_with (first|((with_reducible refine gate_callee (f:=15) rfl ?_);refine goesL_ (some 50) rfl rfl Try.func15 (by kernel_rfl) rfl #[.agg #[.slice Ao16 t339.length co16,.int .i64 t342],.agg #[.slice Ao22 t348.length co22,.int .i64 t351]] rfl (by (try simp only [lM,lC,lN]);first|done|rfl|(simp only [lD,lT];rfl)) ?_;(with_reducible refine (laws_qdQueue.calls kj2 _ _ t339 t342 _ _ t348 t351 true _ ?side1 ?side2 ?side3 ?side4 A26.out).mono ?_);(case side1=>refine (Kd.R_reads' (e:=40) (base:=w.heap.size) (ok:=fun k_=>((True∧some k_≠(.slice Ao12 t333.length co12:Value).ownBlock)∧some k_≠(.slice Ao22 t348.length co22:Value).ownBlock)) (n:=t339.length) (c:=co16) ?_).2.2;exact (by (with_reducible repeat (first|apply rA|apply rN|apply rD));exact (rM (rF (p:=⟨Bd,1,none⟩) (rF (p:=⟨Bd,0,none⟩) (rT Bp.out Ba.out (by decide)) (fun _ hk=>hk.2) (.slice Ao22 t348.length co22)) (fun _ hk=>hk.2) (.int .i64 t351)) (fun _ h_=>h_.1))));(case side2=>exact (Kd.R_reads' Bp.out).2.1);(case side3=>refine (Kd.R_reads' (e:=40) (base:=w.heap.size) (ok:=fun k_=>((True∧some k_≠(.slice Ao12 t333.length co12:Value).ownBlock)∧some k_≠(.slice Ao16 t339.length co16:Value).ownBlock)) (n:=t348.length) (c:=co22) ?_).2.2;exact (by (with_reducible repeat (first|apply rA|apply rN|apply rD));exact (rM (rF (p:=⟨Bd,1,none⟩) (rF (p:=⟨Bd,0,none⟩) (rT Bw.out Ba.out (by decide)) (fun _ hk=>hk.2) (.slice Ao22 t348.length co22)) (fun _ hk=>hk.2) (.int .i64 t351)) (fun _ h_=>h_.1))));(case side4=>exact (Kd.R_reads' Bw.out).2.1);rintro e w43 ⟨rfl,hb⟩;refine ⟨_,rfl,?_⟩;have n0_:=Am (rB (by (with_reducible repeat (first|apply rA|apply rN|apply rD));exact (rM (rF (p:=⟨Bd,1,none⟩) (rF (p:=⟨Bd,0,none⟩) (rT Bo.out Ba.out (by decide)) (fun _ hk=>hk.2) (.slice Ao22 t348.length co22)) (fun _ hk=>hk.2) (.int .i64 t351)) (fun _ h_=>h_.1))) hb);have n1_:=Am (rB (by (with_reducible repeat (first|apply rA|apply rN|apply rD));exact (rM (rF (p:=⟨Bd,1,none⟩) (rF (p:=⟨Bd,0,none⟩) (rT Bp.out Ba.out (by decide)) (fun _ hk=>hk.2) (.slice Ao22 t348.length co22)) (fun _ hk=>hk.2) (.int .i64 t351)) (fun _ h_=>h_.1))) hb);have n2_:=Am (rB (by (with_reducible repeat (first|apply rA|apply rN|apply rD));exact (rM (rF (p:=⟨Bd,1,none⟩) (rF (p:=⟨Bd,0,none⟩) (rT Br.out Ba.out (by decide)) (fun _ hk=>hk.2) (.slice Ao22 t348.length co22)) (fun _ hk=>hk.2) (.int .i64 t351)) (fun _ h_=>h_.1))) hb);have n3_:=Am (rB (by (with_reducible repeat (first|apply rA|apply rN|apply rD));exact (rM (rF (p:=⟨Bd,1,none⟩) (rF (p:=⟨Bd,0,none⟩) (rT Bw.out Ba.out (by decide)) (fun _ hk=>hk.2) (.slice Ao22 t348.length co22)) (fun _ hk=>hk.2) (.int .i64 t351)) (fun _ h_=>h_.1))) hb);have n4_:=Am (rB (by (with_reducible repeat (first|apply rA|apply rN|apply rD));exact (rM (rF (p:=⟨Bd,1,none⟩) (rF (p:=⟨Bd,0,none⟩) (rT By.out Ba.out (by decide)) (fun _ hk=>hk.2) (.slice Ao22 t348.length co22)) (fun _ hk=>hk.2) (.int .i64 t351)) (fun _ h_=>h_.1))) hb);have n5_:=Am (bB (g:=Bi) (o:=.cells #[.slice Ao12 t333.length co12,.int .i64 t336] 25 (0,0)) (by (with_reducible repeat (first|refine bN ?_ _|refine bD ?_|refine bA ?_ _|refine blk_far ?_ BA.out _));exact Bc.out) hb);have n6_:=Am (bB (g:=Bg) (o:=.cells #[.slice Ao16 t339.length co16,.int .i64 t342] 25 (0,0)) (by (with_reducible repeat (first|refine bN ?_ _|refine bD ?_|refine bA ?_ _|refine blk_far ?_ BB.out _));exact Bb.out) hb);have n7_:=Am (bB (g:=Bd) (o:=.cells #[.slice Ao22 t348.length co22,.int .i64 t351] 25 (0,0)) (by (with_reducible repeat (first|refine bN ?_ _|refine bD ?_|refine bA ?_ _));refine blk_put (cs:=#[.slice Ao22 t348.length co22,.int .i64 0]) ?_ 1 _ rfl;(with_reducible repeat (first|refine bN ?_ _|refine bD ?_|refine bA ?_ _));refine blk_put (cs:=#[.slice none 0 0,.int .i64 0]) ?_ 0 _ rfl;(with_reducible repeat (first|refine bN ?_ _|refine bD ?_|refine bA ?_ _));exact Ba.out) hb);have n8_:=Am (bP (by repeat (first|(with_reducible first|exact HB.out|apply oA|apply pN|apply o1|refine bS ?_ Bk.out|refine bS ?_ Bn.out|refine bS ?_ Bq.out)|exact HB.out)) hb);clear Bo Bp Br Bw By Bc Bb Ba HB;revert n0_ n1_ n2_ n3_ n4_ n5_ n6_ n7_ n8_;intro Bo Bp Br Bw By Bc Bb Ba HB;(try clear hb);(try clear hb2);(try clear hk);(try clear hi);obtain ⟨Ao44,co44,eo44⟩:=Kd.R_slice Br.out;subst eo44;obtain ⟨Ao45,co45,eo45⟩:=Kd.R_slice By.out;subst eo45)|(go_at_call 32;(with_reducible refine (laws_qdInts.calls kj2 _ _ t343 _ _ t352 false _ ?side1 ?side2 ?side3 ?side4 A28.out).mono ?_);(case side1=>repeat (first|exact (Kd.R_reads' Br.out).2.2|(with_reducible refine cA ?_ _)|(with_reducible refine cN ?_ _)|(with_reducible refine cD ?_)));(case side2=>exact (Kd.R_reads' Br.out).2.1);(case side3=>repeat (first|exact (Kd.R_reads' By.out).2.2|(with_reducible refine cA ?_ _)|(with_reducible refine cN ?_ _)|(with_reducible refine cD ?_)));(case side4=>exact (Kd.R_reads' By.out).2.1);rintro e w' ⟨rfl,⟨nd,rfl⟩⟩))
    go_meet
    case rel=>exact ⟨_,(false),(by first|rfl|(simp;done)|(simp [*];done)),H',⟨by have:=Dw.out;first|omega|exact Nat.le_refl _⟩,⟨by (with_reducible repeat (first|apply rA|apply rN|apply rD));exact rM Br.out (fun _ hk=>trivial)⟩,⟨by (with_reducible repeat (first|apply rA|apply rN|apply rD));exact rM Bo.out (fun _ hk=>⟨hk.1.2,hk.2⟩)⟩,⟨by (with_reducible repeat (first|apply rA|apply rN|apply rD));exact rM Bp.out (fun _ hk=>⟨hk.1.2,hk.2⟩)⟩,⟨by (with_reducible repeat (first|apply rA|apply rN|apply rD));exact rM Bw.out (fun _ hk=>⟨hk.1.2,hk.2⟩)⟩,⟨by (with_reducible repeat (first|refine bN ?_ _|refine bD ?_|refine bA ?_ _));exact Bc.out⟩,⟨by (with_reducible repeat (first|refine bN ?_ _|refine bD ?_|refine bA ?_ _));exact Bb.out⟩,⟨by (with_reducible repeat (first|refine bN ?_ _|refine bD ?_|refine bA ?_ _));exact Ba.out⟩,⟨by repeat (first|(with_reducible first|exact HB.out|apply oA|apply pN|apply o1|refine bS ?_ Bk.out|refine bS ?_ Bn.out|refine bS ?_ Bq.out)|exact HB.out)⟩⟩
   case rest =>
    clear HC9
    try clear c1
    try clear c2
    try clear p2
    try clear c3
    try clear c4
    try clear c4b0
    try clear c4b1
    try clear c5
    try clear c8
    try clear c15
    try clear c17
    try clear c19
    try clear c23
    try clear c24
    try clear c27
    try clear c29
    try clear c30
    try clear c31
    try clear c33
    try clear c38
    try clear c39
    try clear c41
    try clear c46
    try clear c47
    try clear c49
    try clear BR
    try clear BS
    try clear BV
    try clear BW
    try clear BZ
    try clear B0
    try clear B3
    try clear B4
    try clear B7
    try clear B8
    try clear Db
    try clear Dc
    try clear Df
    try clear Dg
    try clear Dj
    try clear Dk
    try clear Dn
    try clear Do
    try clear Dr
    try clear Ds
    try clear BT
    try clear BU
    try clear BX
    try clear BY
    try clear B1
    try clear B2
    try clear B5
    try clear B6
    try clear B9
    try clear Da
    try clear Dd
    try clear De
    try clear Dh
    try clear Di
    try clear Dl
    try clear Dm
    try clear Dp
    try clear Dq
    try clear Dt
    try clear Du
    try clear p2
    obtain ⟨kq,x13_8,rfl,HA,DE,Bt,Be,Bf,Bh,Bc,Bb,Ba,HB⟩:=hcut
    cases kq with
   |zero=>exact absurd HA.out (by simp [laws_FnQueueRun.j1])
   |succ kj8 =>
     have H:=HA.out
     clear HA
     simp only [laws_FnQueueRun.j1] at H
     have HC52:=Am H
     clear H
     go_upto_region 7 with (fail)
     go_cut [66] (fun v66 wc=>∃ (kq:Nat) (x66_51:Bool),v66=.bool x66_51∧Aside0 (laws_FnQueueRun.j2 kq l1 t337 t343 x13_8 x66_51 t333 t336 t339 t342=some r)∧Aside0 (kq≤kj8)∧Aside0 (Kd.R (Kd.int .i64) 3 wc w.heap.size (fun _=>True) v344 t343)∧Aside0 (Kd.R k40 40 wc w.heap.size (fun k_=>some k_≠((.slice Ao16 t339.length co16):Value).ownBlock∧some k_≠((.slice Ao22 t348.length co22):Value).ownBlock) (.slice Ao12 t333.length co12) t333)∧Aside0 (Kd.R k40 40 wc w.heap.size (fun k_=>some k_≠((.slice Ao12 t333.length co12):Value).ownBlock∧some k_≠((.slice Ao22 t348.length co22):Value).ownBlock) (.slice Ao16 t339.length co16) t339)∧Aside0 (Kd.R k40 40 wc w.heap.size (fun k_=>some k_≠((.slice Ao12 t333.length co12):Value).ownBlock∧some k_≠((.slice Ao16 t339.length co16):Value).ownBlock) (.slice Ao22 t348.length co22) t348)∧Aside0 (wc.heap[Bi]?=some (.cells #[(.slice Ao12 t333.length co12),.int .i64 t336] 25 (0,0)))∧Aside0 (wc.heap[Bg]?=some (.cells #[(.slice Ao16 t339.length co16),.int .i64 t342] 25 (0,0)))∧Aside0 (wc.heap[Bd]?=some (.cells #[(.slice Ao22 t348.length co22),.int .i64 t351] 25 (0,0)))∧Aside0 (Below w.heap.size w wc))
     case first =>
      have H:=HC52.out
      clear HC52
      by_cases c53:x13_8=true
      ·subst c53
       have H1:(laws_FnQueueRun.j2 kj8 l1 t337 t343 true (!t346) t333 t336 t339 t342)=some r:=by rw [if_pos rfl] at H;exact H
       clear H
       have H:=H1
       clear H1
       have H':=Am H
       clear H
       go_wp2
       go_meet
       case rel=>exact ⟨_,(!t346),(by first|rfl|(simp;done)|(simp [*];done)),H',⟨by have:=Dw.out;have:=DE.out;first|omega|exact Nat.le_refl _⟩,⟨by (with_reducible repeat (first|apply rA|apply rN|apply rD));exact Bt.out⟩,⟨by (with_reducible repeat (first|apply rA|apply rN|apply rD));exact Be.out⟩,⟨by (with_reducible repeat (first|apply rA|apply rN|apply rD));exact Bf.out⟩,⟨by (with_reducible repeat (first|apply rA|apply rN|apply rD));exact Bh.out⟩,⟨by (with_reducible repeat (first|refine bN ?_ _|refine bD ?_|refine bA ?_ _));exact Bc.out⟩,⟨by (with_reducible repeat (first|refine bN ?_ _|refine bD ?_|refine bA ?_ _));exact Bb.out⟩,⟨by (with_reducible repeat (first|refine bN ?_ _|refine bD ?_|refine bA ?_ _));exact Ba.out⟩,⟨by repeat (first|(with_reducible first|exact HB.out|apply oA|apply pN|apply o1|refine bS ?_ Bk.out|refine bS ?_ Bn.out|refine bS ?_ Bq.out)|exact HB.out)⟩⟩
      replace c53:=Bool.eq_false_iff.mpr c53
      subst c53
      have H1:(laws_FnQueueRun.j2 kj8 l1 t337 t343 false true t333 t336 t339 t342)=some r:=by rw [if_neg (show ¬ (false=true) by decide)] at H;exact H
      clear H
      have H:=H1
      clear H1
      have H':=Am H
      clear H
      go_wp2
      go_meet
      case rel=>exact ⟨_,(true),(by first|rfl|(simp;done)|(simp [*];done)),H',⟨by have:=Dw.out;have:=DE.out;first|omega|exact Nat.le_refl _⟩,⟨by (with_reducible repeat (first|apply rA|apply rN|apply rD));exact Bt.out⟩,⟨by (with_reducible repeat (first|apply rA|apply rN|apply rD));exact Be.out⟩,⟨by (with_reducible repeat (first|apply rA|apply rN|apply rD));exact Bf.out⟩,⟨by (with_reducible repeat (first|apply rA|apply rN|apply rD));exact Bh.out⟩,⟨by (with_reducible repeat (first|refine bN ?_ _|refine bD ?_|refine bA ?_ _));exact Bc.out⟩,⟨by (with_reducible repeat (first|refine bN ?_ _|refine bD ?_|refine bA ?_ _));exact Bb.out⟩,⟨by (with_reducible repeat (first|refine bN ?_ _|refine bD ?_|refine bA ?_ _));exact Ba.out⟩,⟨by repeat (first|(with_reducible first|exact HB.out|apply oA|apply pN|apply o1|refine bS ?_ Bk.out|refine bS ?_ Bn.out|refine bS ?_ Bq.out)|exact HB.out)⟩⟩
     case rest =>
      clear HC52
      try clear c1
      try clear c2
      try clear p2
      try clear c3
      try clear c4
      try clear c4b0
      try clear c4b1
      try clear c5
      try clear c8
      try clear c15
      try clear c17
      try clear c19
      try clear c23
      try clear c24
      try clear c27
      try clear c29
      try clear c30
      try clear c31
      try clear c33
      try clear c38
      try clear c39
      try clear c41
      try clear c46
      try clear c47
      try clear c49
      try clear c53
      try clear BR
      try clear BS
      try clear BV
      try clear BW
      try clear BZ
      try clear B0
      try clear B3
      try clear B4
      try clear B7
      try clear B8
      try clear Db
      try clear Dc
      try clear Df
      try clear Dg
      try clear Dj
      try clear Dk
      try clear Dn
      try clear Do
      try clear Dr
      try clear Ds
      try clear BT
      try clear BU
      try clear BX
      try clear BY
      try clear B1
      try clear B2
      try clear B5
      try clear B6
      try clear B9
      try clear Da
      try clear Dd
      try clear De
      try clear Dh
      try clear Di
      try clear Dl
      try clear Dm
      try clear Dp
      try clear Dq
      try clear Dt
      try clear Du
      try clear p2
      obtain ⟨kq,x66_51,rfl,HA,FI,Bt,Be,Bf,Bh,Bc,Bb,Ba,HB⟩:=hcut
      cases kq with
     |zero=>exact absurd HA.out (by simp [laws_FnQueueRun.j2])
     |succ kj51 =>
       have H:=HA.out
       clear HA
       simp only [laws_FnQueueRun.j2] at H
       by_cases c54:x66_51=true
       ·subst c54
        have H1:(some x13_8)=some r:=by rw [if_pos rfl] at H;exact H
        clear H
        have H:=H1
        clear H1
        obtain rfl:=Option.some.inj H
        go_wp2
        go_ret
        exact ⟨by first|rfl|(simp [errW_none,errW_some] <;> rfl)|(simp [*,errW_none,errW_some] <;> rfl),by repeat (first|(with_reducible first|exact HB.out|apply oA|apply pN|apply o1|refine bS ?_ Bk.out|refine bS ?_ Bn.out|refine bS ?_ Bq.out)|exact HB.out)⟩
       replace c54:=Bool.eq_false_iff.mpr c54
       subst c54
       have H1:(if (wrap64 (t337 + 1))=0 then (none) else ((impl_QueueRun.f kj51 t333 t336 ((l1.length:Int) % (wrap64 (t337 + 1)))).bind fun bt359=>((impl_QueueRun.f kj51 bt359.1 bt359.2.1 (wrap64 (t337 - ((l1.length:Int) % (wrap64 (t337 + 1)))))).bind fun bt368=>(if bt359.2.2.2=true then (if bt368.2.2.2=true then ((laws_qdQueue.f kj51 bt368.1 bt368.2.1 t339 t342).bind fun t377=>(if t377=true then ((some (([]:List Int):List Int)).bind fun y378=>(if y378.length + bt359.2.2.1.length<17592186044416 then ((some (y378 ++ bt359.2.2.1:List Int)).bind fun y381=>(if y381.length + bt368.2.2.1.length<17592186044416 then ((laws_qdInts.f kj51 (y381 ++ bt368.2.2.1) t343).bind fun t387=>(if t387=true then (some ((t343.length:Int) == t337)) else (some false))) else (none))) else (none))) else (some false))) else (some false)) else (some false)))))=some r:=by rw [if_neg (show ¬ (false=true) by decide)] at H;exact H
       clear H
       have H:=H1
       clear H1
       by_cases c55:(wrap64 (t337 + 1))=0
       ·rw [if_pos c55] at H
        exact absurd H (by simp)
       rw [if_neg c55] at H
       have c55b0:((wrap64 (t337 + 1)) == 0)=false:=beq_eq_false_iff_ne.mpr c55
       have c55b1:((wrap64 (t337 + 1)) != 0)=true:=bne_iff_ne.mpr c55
       replace H:=oC H
       obtain ⟨⟨t359,t362,t363,t366⟩,A560,H⟩:=H
       replace H:((impl_QueueRun.f kj51 t359 t362 (wrap64 (t337 - ((l1.length:Int) % (wrap64 (t337 + 1)))))).bind fun bt368=>(if t366=true then (if bt368.2.2.2=true then ((laws_qdQueue.f kj51 bt368.1 bt368.2.1 t339 t342).bind fun t377=>(if t377=true then ((some (([]:List Int):List Int)).bind fun y378=>(if y378.length + t363.length<17592186044416 then ((some (y378 ++ t363:List Int)).bind fun y381=>(if y381.length + bt368.2.2.1.length<17592186044416 then ((laws_qdInts.f kj51 (y381 ++ bt368.2.2.1) t343).bind fun t387=>(if t387=true then (some ((t343.length:Int) == t337)) else (some false))) else (none))) else (none))) else (some false))) else (some false)) else (some false)))=some r:=H
       have A56:=Am A560
       clear A560
       replace H:=oC H
       obtain ⟨⟨t368,t371,t372,t375⟩,A570,H⟩:=H
       replace H:(if t366=true then (if t375=true then ((laws_qdQueue.f kj51 t368 t371 t339 t342).bind fun t377=>(if t377=true then ((some (([]:List Int):List Int)).bind fun y378=>(if y378.length + t363.length<17592186044416 then ((some (y378 ++ t363:List Int)).bind fun y381=>(if y381.length + t372.length<17592186044416 then ((laws_qdInts.f kj51 (y381 ++ t372) t343).bind fun t387=>(if t387=true then (some ((t343.length:Int) == t337)) else (some false))) else (none))) else (none))) else (some false))) else (some false)) else (some false))=some r:=H
       have A57:=Am A570
       clear A570
       by_cases c58:t366=true
       rotate_left
       ·replace c58:=Bool.eq_false_iff.mpr c58
        subst c58
        have H1:(some false)=some r:=by rw [if_neg (show ¬ (false=true) by decide)] at H;exact H
        clear H
        have H:=H1
        clear H1
        exact absurd ((Option.some.inj H).trans hT_.out) (by decide)

       subst c58
       have H1:(if t375=true then ((laws_qdQueue.f kj51 t368 t371 t339 t342).bind fun t377=>(if t377=true then ((some (([]:List Int):List Int)).bind fun y378=>(if y378.length + t363.length<17592186044416 then ((some (y378 ++ t363:List Int)).bind fun y381=>(if y381.length + t372.length<17592186044416 then ((laws_qdInts.f kj51 (y381 ++ t372) t343).bind fun t387=>(if t387=true then (some ((t343.length:Int) == t337)) else (some false))) else (none))) else (none))) else (some false))) else (some false))=some r:=by rw [if_pos rfl] at H;exact H
       clear H
       have H:=H1
       clear H1
       by_cases c59:t375=true
       rotate_left
       ·replace c59:=Bool.eq_false_iff.mpr c59
        subst c59
        have H1:(some false)=some r:=by rw [if_neg (show ¬ (false=true) by decide)] at H;exact H
        clear H
        have H:=H1
        clear H1
        exact absurd ((Option.some.inj H).trans hT_.out) (by decide)
       subst c59
       have H1:((laws_qdQueue.f kj51 t368 t371 t339 t342).bind fun t377=>(if t377=true then ((some (([]:List Int):List Int)).bind fun y378=>(if y378.length + t363.length<17592186044416 then ((some (y378 ++ t363:List Int)).bind fun y381=>(if y381.length + t372.length<17592186044416 then ((laws_qdInts.f kj51 (y381 ++ t372) t343).bind fun t387=>(if t387=true then (some ((t343.length:Int) == t337)) else (some false))) else (none))) else (none))) else (some false)))=some r:=by rw [if_pos rfl] at H;exact H
       clear H
       have H:=H1
       clear H1
       replace H:=oC H
       obtain ⟨t377,A600,H⟩:=H
       replace H:(if t377=true then ((some (([]:List Int):List Int)).bind fun y378=>(if y378.length + t363.length<17592186044416 then ((some (y378 ++ t363:List Int)).bind fun y381=>(if y381.length + t372.length<17592186044416 then ((laws_qdInts.f kj51 (y381 ++ t372) t343).bind fun t387=>(if t387=true then (some ((t343.length:Int) == t337)) else (some false))) else (none))) else (none))) else (some false))=some r:=H
       have A60:=Am A600
       clear A600
       by_cases c61:t377=true
       rotate_left
       ·replace c61:=Bool.eq_false_iff.mpr c61
        subst c61
        have H1:(some false)=some r:=by rw [if_neg (show ¬ (false=true) by decide)] at H;exact H
        clear H
        have H:=H1
        clear H1
        exact absurd ((Option.some.inj H).trans hT_.out) (by decide)
       subst c61
       have H1:((some (([]:List Int):List Int)).bind fun y378=>(if y378.length + t363.length<17592186044416 then ((some (y378 ++ t363:List Int)).bind fun y381=>(if y381.length + t372.length<17592186044416 then ((laws_qdInts.f kj51 (y381 ++ t372) t343).bind fun t387=>(if t387=true then (some ((t343.length:Int) == t337)) else (some false))) else (none))) else (none)))=some r:=by rw [if_pos rfl] at H;exact H
       clear H
       have H:=H1
       clear H1
       obtain ⟨y378,hy378⟩:∃ y_:List Int,y_=(([]:List Int)):=⟨_,rfl⟩
       replace H:(if y378.length + t363.length<17592186044416 then ((some (y378 ++ t363:List Int)).bind fun y381=>(if y381.length + t372.length<17592186044416 then ((laws_qdInts.f kj51 (y381 ++ t372) t343).bind fun t387=>(if t387=true then (some ((t343.length:Int) == t337)) else (some false))) else (none))) else (none))=some r:=by first|(rw [hy378];with_reducible exact H)|(have H2_:=(Option.bind_some _ _).symm.trans H;rw [hy378];with_reducible exact H2_)|(have H2_:=(Option.bind_some _ _).symm.trans H;with_reducible exact H2_)|with_reducible exact H|(rw [hy378];exact H)|exact H
       have Ny378:=Am hy378
       clear hy378
       by_cases c62:y378.length + t363.length<17592186044416
       rotate_left
       ·rw [if_neg c62] at H
        exact absurd H (by simp)
       rw [if_pos c62] at H
       have LMc62:=Am c62
       clear c62
       obtain ⟨y381,hy381⟩:∃ y_:List Int,y_=(y378 ++ t363):=⟨_,rfl⟩
       replace H:(if y381.length + t372.length<17592186044416 then ((laws_qdInts.f kj51 (y381 ++ t372) t343).bind fun t387=>(if t387=true then (some ((t343.length:Int) == t337)) else (some false))) else (none))=some r:=by first|(rw [hy381];with_reducible exact H)|(have H2_:=(Option.bind_some _ _).symm.trans H;rw [hy381];with_reducible exact H2_)|(have H2_:=(Option.bind_some _ _).symm.trans H;with_reducible exact H2_)|with_reducible exact H|(rw [hy381];exact H)|exact H
       have Ny381:=Am hy381
       clear hy381
       by_cases c63:y381.length + t372.length<17592186044416
       rotate_left
       ·rw [if_neg c63] at H
        exact absurd H (by simp)
       rw [if_pos c63] at H
       have LMc63:=Am c63
       clear c63
       obtain ⟨y384,hy384⟩:∃ y_:List Int,y_=(y381 ++ t372):=⟨_,rfl⟩
       replace H:((laws_qdInts.f kj51 y384 t343).bind fun t387=>(if t387=true then (some ((t343.length:Int) == t337)) else (some false)))=some r:=by first|(rw [hy384];with_reducible exact H)|(have H2_:=(Option.bind_some _ _).symm.trans H;rw [hy384];with_reducible exact H2_)|(have H2_:=(Option.bind_some _ _).symm.trans H;with_reducible exact H2_)|with_reducible exact H|(rw [hy384];exact H)|exact H
       have Ny384:=Am hy384
       clear hy384
       replace H:=oC H
       obtain ⟨t387,A640,H⟩:=H
       replace H:(if t387=true then (some ((t343.length:Int) == t337)) else (some false))=some r:=H
       have A64:=Am A640
       clear A640
       by_cases c65:t387=true
       rotate_left
       ·replace c65:=Bool.eq_false_iff.mpr c65
        subst c65
        have H1:(some false)=some r:=by rw [if_neg (show ¬ (false=true) by decide)] at H;exact H
        clear H
        have H:=H1
        clear H1
        exact absurd ((Option.some.inj H).trans hT_.out) (by decide)
       subst c65
       have H1:(some ((t343.length:Int) == t337))=some r:=by rw [if_pos rfl] at H;exact H
       clear H
       have H:=H1
       clear H1
       obtain rfl:=Option.some.inj H
       have Fm:=BF.out
       have Fn:=BG.out
       have Fo:=BA.out
       have Fp:=BH.out
       have DF:wc.cell? ⟨Bi,0,none⟩=some (.slice Ao12 t333.length co12):=(bC Bc.out 0).trans rfl
       have DG:wc.cell? ⟨Bi,1,none⟩=some (.int .i64 t336):=(bC Bc.out 1).trans rfl
       have DH:=bF Bc.out 0
       have DI:=bF Bc.out 1
       go_wp2_with (first|((with_reducible refine gate_callee (f:=19) rfl ?_);refine goesL_ (some 76) rfl rfl Try.func19 (by kernel_rfl) rfl #[.agg #[.slice Ao12 t333.length co12,.int .i64 t336],.int .i64 ((l1.length:Int) % (wrap64 (t337 + 1)))] rfl (by (try simp only [lM,lC,lN]);first|done|rfl|(simp only [lD,lT];rfl)) ?_;(with_reducible refine (impl_QueueRun.calls kj51 _ _ t333 t336 ((l1.length:Int) % (wrap64 (t337 + 1))) t359 t362 t363 true _ ?side1 ?side2 A56.out).mono ?_);(case side1=>repeat (first|exact (Kd.R_reads' Be.out).2.2|(with_reducible refine cA ?_ _)|(with_reducible refine cN ?_ _)|(with_reducible refine cD ?_)));(case side2=>exact (Kd.R_reads' Be.out).2.1);rintro e w69 ⟨v360,v364,rfl,ho0,ho1,hb⟩;refine ⟨_,rfl,?_⟩;have n0_:=Am (Kd.R_elder' (rL Bt.out) (Kd.R_base ho1) hb);have n1_:=Am (Kd.R_elder' (rL Be.out) (Kd.R_base ho0) hb);have n2_:=Am (Kd.R_elder' (rL Bf.out) (Kd.R_base ho0) hb);have n3_:=Am (Kd.R_elder' (rL Bh.out) (Kd.R_base ho0) hb);have n4_:=Am (Kd.R_lower (Kd.R_new' (Kd.R_new' (Kd.R_new' ho0 (Kd.R_lt (rL Be.out))) (Kd.R_lt (rL Bf.out))) (Kd.R_lt (rL Bh.out))) (bZ (by repeat (first|(with_reducible first|exact HB.out|apply oA|apply pN|apply o1|refine bS ?_ Bk.out|refine bS ?_ Bn.out|refine bS ?_ Bq.out)|exact HB.out))));have n5_:=Am (Kd.R_lower (Kd.R_new' ho1 (Kd.R_lt (rL Bt.out))) (bZ (by repeat (first|(with_reducible first|exact HB.out|apply oA|apply pN|apply o1|refine bS ?_ Bk.out|refine bS ?_ Bn.out|refine bS ?_ Bq.out)|exact HB.out))));have n6_:=Am (bB (g:=Bi) (o:=.cells #[.slice Ao12 t333.length co12,.int .i64 t336] 25 (0,0)) (bL Bc.out) hb);have n7_:=Am (bB (g:=Bg) (o:=.cells #[.slice Ao16 t339.length co16,.int .i64 t342] 25 (0,0)) (bL Bb.out) hb);have n8_:=Am (bB (g:=Bd) (o:=.cells #[.slice Ao22 t348.length co22,.int .i64 t351] 25 (0,0)) (bL Ba.out) hb);have n9_:=Am (bP (by repeat (first|(with_reducible first|exact HB.out|apply oA|apply pN|apply o1|refine bS ?_ Bk.out|refine bS ?_ Bn.out|refine bS ?_ Bq.out)|exact HB.out)) hb);clear Bt Be Bf Bh Bc Bb Ba HB;revert n0_ n1_ n2_ n3_ n4_ n5_ n6_ n7_ n8_ n9_;intro Bt Be Bf Bh Bv Bu Bc Bb Ba HB;(try clear hb);(try clear hb2);(try clear hk);(try clear hi);(try clear ho0);(try clear ho1))|((with_reducible refine gate_dst (N:=15) rfl ?_);(try (refine gate_guard (by rfl) ?_;dsimp only));refine box_event ?hg (N:=15) ?hd (cs:=#[.slice none 0 0,.int .i64 0]) (t:=25) ?hr ?_;(case hd=>rfl);(case hg=>rfl);(case hr=>first|(go_simp;done)|(go_simp;rfl));intro Bj hg w70 hbox hb;have n0_:=Am (rB (rL Bt.out) hb);have n1_:=Am (rB (rL Be.out) hb);have n2_:=Am (rB (rL Bf.out) hb);have n3_:=Am (rB (rL Bh.out) hb);have n4_:=Am (rB (rL Bv.out) hb);have n5_:=Am (rB (rL Bu.out) hb);have n6_:=Am (bB (g:=Bi) (o:=.cells #[.slice Ao12 t333.length co12,.int .i64 t336] 25 (0,0)) (bL Bc.out) hb);have n7_:=Am (bB (g:=Bg) (o:=.cells #[.slice Ao16 t339.length co16,.int .i64 t342] 25 (0,0)) (bL Bb.out) hb);have n8_:=Am (bB (g:=Bd) (o:=.cells #[.slice Ao22 t348.length co22,.int .i64 t351] 25 (0,0)) (bL Ba.out) hb);have n9_:=Am (bP (by repeat (first|(with_reducible first|exact HB.out|apply oA|apply pN|apply o1|refine bS ?_ Bk.out|refine bS ?_ Bn.out|refine bS ?_ Bq.out)|exact HB.out)) hb);have n10_:=Am (hbox);have n11_:=Am ((by rw [hg];exact (bZ (by repeat (first|(with_reducible first|exact HB.out|apply oA|apply pN|apply o1|refine bS ?_ Bk.out|refine bS ?_ Bn.out|refine bS ?_ Bq.out)|exact HB.out))):w.heap.size≤Bj));have n12_:=Am ((by rw [hg];exact (bZ (by repeat (first|(with_reducible first|exact HB.out|apply oA|apply pN|apply o1|refine bS ?_ Bk.out|refine bS ?_ Bn.out|refine bS ?_ Bq.out)|exact HB.out))):w.heap.size≤Bj));have n13_:=Am ((by rw [hg];exact Nat.ne_of_lt (blk_lt (g:=Bi) (o:=.cells #[.slice Ao12 t333.length co12,.int .i64 t336] 25 (0,0)) (bL Bc.out)):Bi≠Bj));have n14_:=Am ((by rw [hg];exact Nat.ne_of_gt (blk_lt (g:=Bi) (o:=.cells #[.slice Ao12 t333.length co12,.int .i64 t336] 25 (0,0)) (bL Bc.out)):Bj≠Bi));have n15_:=Am ((by rw [hg];exact Nat.ne_of_lt (blk_lt (g:=Bg) (o:=.cells #[.slice Ao16 t339.length co16,.int .i64 t342] 25 (0,0)) (bL Bb.out)):Bg≠Bj));have n16_:=Am ((by rw [hg];exact Nat.ne_of_gt (blk_lt (g:=Bg) (o:=.cells #[.slice Ao16 t339.length co16,.int .i64 t342] 25 (0,0)) (bL Bb.out)):Bj≠Bg));have n17_:=Am ((by rw [hg];exact Nat.ne_of_lt (blk_lt (g:=Bd) (o:=.cells #[.slice Ao22 t348.length co22,.int .i64 t351] 25 (0,0)) (bL Ba.out)):Bd≠Bj));have n18_:=Am ((by rw [hg];exact Nat.ne_of_gt (blk_lt (g:=Bd) (o:=.cells #[.slice Ao22 t348.length co22,.int .i64 t351] 25 (0,0)) (bL Ba.out)):Bj≠Bd));clear Bt Be Bf Bh Bv Bu Bc Bb Ba HB;revert n0_ n1_ n2_ n3_ n4_ n5_ n6_ n7_ n8_ n9_ n10_ n11_ n12_ n13_ n14_ n15_ n16_ n17_ n18_;intro Bt Be Bf Bh Bv Bu Bc Bb Ba HB Bl Fq BC BK Dx BL Dy BM Dz;clear hb hbox hg;obtain ⟨Ao71,co71,eo71⟩:=Kd.R_slice Bv.out;subst eo71;have Fr:=Dx.out;have Fs:=BK.out;have Ft:=Dy.out;have Fu:=BL.out;have Fv:=Dz.out;have Fw:=BM.out;have DJ:w70.cell? ⟨Bj,0,none⟩=some (.slice none 0 0):=(bC Bl.out 0).trans rfl;have DK:w70.cell? ⟨Bj,1,none⟩=some (.int .i64 0):=(bC Bl.out 1).trans rfl;have DL:=bF Bl.out 0;have DM:=bF Bl.out 1)|((with_reducible refine gate_callee (f:=19) rfl ?_);refine goesL_ (some 85) rfl rfl Try.func19 (by kernel_rfl) rfl #[.agg #[.slice Ao71 t359.length co71,.int .i64 t362],.int .i64 (wrap64 (t337 - ((l1.length:Int) % (wrap64 (t337 + 1)))))] rfl (by (try simp only [lM,lC,lN]);first|done|rfl|(simp only [lD,lT];rfl)) ?_;(with_reducible refine (impl_QueueRun.calls kj51 _ _ t359 t362 (wrap64 (t337 - ((l1.length:Int) % (wrap64 (t337 + 1))))) t368 t371 t372 true _ ?side1 ?side2 A57.out).mono ?_);(case side1=>refine (Kd.R_reads' (e:=40) (base:=w.heap.size) (ok:=fun k_=>(((True∧some k_≠(.slice Ao12 t333.length co12:Value).ownBlock)∧some k_≠(.slice Ao16 t339.length co16:Value).ownBlock)∧some k_≠(.slice Ao22 t348.length co22:Value).ownBlock)) (n:=t359.length) (c:=co71) ?_).2.2;exact (by (with_reducible repeat (first|apply rA|apply rN|apply rD));exact (rM (rF (p:=⟨Bj,1,none⟩) (rF (p:=⟨Bj,0,none⟩) (rT Bv.out Bl.out (by decide)) (fun _ hk=>hk.2) (.slice Ao71 t359.length co71)) (fun _ hk=>hk.2) (.int .i64 t362)) (fun _ h_=>h_.1))));(case side2=>exact (Kd.R_reads' Bv.out).2.1);rintro e w76 ⟨v369,v373,rfl,ho0,ho1,hb⟩;refine ⟨_,rfl,?_⟩;have n0_:=Am (Kd.R_elder' (by (with_reducible repeat (first|apply rA|apply rN|apply rD));exact (rM (rF (p:=⟨Bj,1,none⟩) (rF (p:=⟨Bj,0,none⟩) (rT Bt.out Bl.out (by decide)) (fun _ hk=>hk.2) (.slice Ao71 t359.length co71)) (fun _ hk=>hk.2) (.int .i64 t362)) (fun _ h_=>h_.1))) (Kd.R_base ho1) hb);have n1_:=Am (Kd.R_elder' (by (with_reducible repeat (first|apply rA|apply rN|apply rD));exact (rM (rF (p:=⟨Bj,1,none⟩) (rF (p:=⟨Bj,0,none⟩) (rT Be.out Bl.out (by decide)) (fun _ hk=>hk.2) (.slice Ao71 t359.length co71)) (fun _ hk=>hk.2) (.int .i64 t362)) (fun _ h_=>h_.1))) (Kd.R_base ho0) hb);have n2_:=Am (Kd.R_elder' (by (with_reducible repeat (first|apply rA|apply rN|apply rD));exact (rM (rF (p:=⟨Bj,1,none⟩) (rF (p:=⟨Bj,0,none⟩) (rT Bf.out Bl.out (by decide)) (fun _ hk=>hk.2) (.slice Ao71 t359.length co71)) (fun _ hk=>hk.2) (.int .i64 t362)) (fun _ h_=>h_.1))) (Kd.R_base ho0) hb);have n3_:=Am (Kd.R_elder' (by (with_reducible repeat (first|apply rA|apply rN|apply rD));exact (rM (rF (p:=⟨Bj,1,none⟩) (rF (p:=⟨Bj,0,none⟩) (rT Bh.out Bl.out (by decide)) (fun _ hk=>hk.2) (.slice Ao71 t359.length co71)) (fun _ hk=>hk.2) (.int .i64 t362)) (fun _ h_=>h_.1))) (Kd.R_base ho0) hb);have n4_:=Am (Kd.R_elder' (by (with_reducible repeat (first|apply rA|apply rN|apply rD));exact (rM (rF (p:=⟨Bj,1,none⟩) (rF (p:=⟨Bj,0,none⟩) (rT Bv.out Bl.out (by decide)) (fun _ hk=>hk.2) (.slice Ao71 t359.length co71)) (fun _ hk=>hk.2) (.int .i64 t362)) (fun _ h_=>h_.1))) (Kd.R_base ho0) hb);have n5_:=Am (Kd.R_elder' (by (with_reducible repeat (first|apply rA|apply rN|apply rD));exact (rM (rF (p:=⟨Bj,1,none⟩) (rF (p:=⟨Bj,0,none⟩) (rT Bu.out Bl.out (by decide)) (fun _ hk=>hk.2) (.slice Ao71 t359.length co71)) (fun _ hk=>hk.2) (.int .i64 t362)) (fun _ h_=>h_.1))) (Kd.R_base ho1) hb);have n6_:=Am (Kd.R_lower (Kd.R_new' (Kd.R_new' (Kd.R_new' (Kd.R_new' ho0 (Kd.R_lt (by (with_reducible repeat (first|apply rA|apply rN|apply rD));exact (rM (rF (p:=⟨Bj,1,none⟩) (rF (p:=⟨Bj,0,none⟩) (rT Be.out Bl.out (by decide)) (fun _ hk=>hk.2) (.slice Ao71 t359.length co71)) (fun _ hk=>hk.2) (.int .i64 t362)) (fun _ h_=>h_.1))))) (Kd.R_lt (by (with_reducible repeat (first|apply rA|apply rN|apply rD));exact (rM (rF (p:=⟨Bj,1,none⟩) (rF (p:=⟨Bj,0,none⟩) (rT Bf.out Bl.out (by decide)) (fun _ hk=>hk.2) (.slice Ao71 t359.length co71)) (fun _ hk=>hk.2) (.int .i64 t362)) (fun _ h_=>h_.1))))) (Kd.R_lt (by (with_reducible repeat (first|apply rA|apply rN|apply rD));exact (rM (rF (p:=⟨Bj,1,none⟩) (rF (p:=⟨Bj,0,none⟩) (rT Bh.out Bl.out (by decide)) (fun _ hk=>hk.2) (.slice Ao71 t359.length co71)) (fun _ hk=>hk.2) (.int .i64 t362)) (fun _ h_=>h_.1))))) (Kd.R_lt (by (with_reducible repeat (first|apply rA|apply rN|apply rD));exact (rM (rF (p:=⟨Bj,1,none⟩) (rF (p:=⟨Bj,0,none⟩) (rT Bv.out Bl.out (by decide)) (fun _ hk=>hk.2) (.slice Ao71 t359.length co71)) (fun _ hk=>hk.2) (.int .i64 t362)) (fun _ h_=>h_.1))))) (bZ (by repeat (first|(with_reducible first|exact HB.out|apply oA|apply pN|apply o1|refine bS ?_ Bk.out|refine bS ?_ Bn.out|refine bS ?_ Bq.out|refine bS ?_ BC.out)|exact HB.out))));have n7_:=Am (Kd.R_lower (Kd.R_new' (Kd.R_new' ho1 (Kd.R_lt (by (with_reducible repeat (first|apply rA|apply rN|apply rD));exact (rM (rF (p:=⟨Bj,1,none⟩) (rF (p:=⟨Bj,0,none⟩) (rT Bt.out Bl.out (by decide)) (fun _ hk=>hk.2) (.slice Ao71 t359.length co71)) (fun _ hk=>hk.2) (.int .i64 t362)) (fun _ h_=>h_.1))))) (Kd.R_lt (by (with_reducible repeat (first|apply rA|apply rN|apply rD));exact (rM (rF (p:=⟨Bj,1,none⟩) (rF (p:=⟨Bj,0,none⟩) (rT Bu.out Bl.out (by decide)) (fun _ hk=>hk.2) (.slice Ao71 t359.length co71)) (fun _ hk=>hk.2) (.int .i64 t362)) (fun _ h_=>h_.1))))) (bZ (by repeat (first|(with_reducible first|exact HB.out|apply oA|apply pN|apply o1|refine bS ?_ Bk.out|refine bS ?_ Bn.out|refine bS ?_ Bq.out|refine bS ?_ BC.out)|exact HB.out))));have n8_:=Am (bB (g:=Bi) (o:=.cells #[.slice Ao12 t333.length co12,.int .i64 t336] 25 (0,0)) (by (with_reducible repeat (first|refine bN ?_ _|refine bD ?_|refine bA ?_ _|refine blk_far ?_ BK.out _));exact Bc.out) hb);have n9_:=Am (bB (g:=Bg) (o:=.cells #[.slice Ao16 t339.length co16,.int .i64 t342] 25 (0,0)) (by (with_reducible repeat (first|refine bN ?_ _|refine bD ?_|refine bA ?_ _|refine blk_far ?_ BL.out _));exact Bb.out) hb);have n10_:=Am (bB (g:=Bd) (o:=.cells #[.slice Ao22 t348.length co22,.int .i64 t351] 25 (0,0)) (by (with_reducible repeat (first|refine bN ?_ _|refine bD ?_|refine bA ?_ _|refine blk_far ?_ BM.out _));exact Ba.out) hb);have n11_:=Am (bB (g:=Bj) (o:=.cells #[.slice Ao71 t359.length co71,.int .i64 t362] 25 (0,0)) (by (with_reducible repeat (first|refine bN ?_ _|refine bD ?_|refine bA ?_ _));refine blk_put (cs:=#[.slice Ao71 t359.length co71,.int .i64 0]) ?_ 1 _ rfl;(with_reducible repeat (first|refine bN ?_ _|refine bD ?_|refine bA ?_ _));refine blk_put (cs:=#[.slice none 0 0,.int .i64 0]) ?_ 0 _ rfl;(with_reducible repeat (first|refine bN ?_ _|refine bD ?_|refine bA ?_ _));exact Bl.out) hb);have n12_:=Am (bP (by repeat (first|(with_reducible first|exact HB.out|apply oA|apply pN|apply o1|refine bS ?_ Bk.out|refine bS ?_ Bn.out|refine bS ?_ Bq.out|refine bS ?_ BC.out)|exact HB.out)) hb);clear Bt Be Bf Bh Bv Bu Bc Bb Ba Bl HB;revert n0_ n1_ n2_ n3_ n4_ n5_ n6_ n7_ n8_ n9_ n10_ n11_ n12_;intro Bt Be Bf Bh Bv Bu Bz Bx Bc Bb Ba Bl HB;(try clear hb);(try clear hb2);(try clear hk);(try clear hi);(try clear ho0);(try clear ho1))|((with_reducible refine gate_dst (N:=18) rfl ?_);(try (refine gate_guard (by rfl) ?_;dsimp only));refine box_event ?hg (N:=18) ?hd (cs:=#[.slice none 0 0,.int .i64 0]) (t:=25) ?hr ?_;(case hd=>rfl);(case hg=>rfl);(case hr=>first|(go_simp;done)|(go_simp;rfl));intro Bm hg w77 hbox hb;have n0_:=Am (rB (rL Bt.out) hb);have n1_:=Am (rB (rL Be.out) hb);have n2_:=Am (rB (rL Bf.out) hb);have n3_:=Am (rB (rL Bh.out) hb);have n4_:=Am (rB (rL Bv.out) hb);have n5_:=Am (rB (rL Bu.out) hb);have n6_:=Am (rB (rL Bz.out) hb);have n7_:=Am (rB (rL Bx.out) hb);have n8_:=Am (bB (g:=Bi) (o:=.cells #[.slice Ao12 t333.length co12,.int .i64 t336] 25 (0,0)) (bL Bc.out) hb);have n9_:=Am (bB (g:=Bg) (o:=.cells #[.slice Ao16 t339.length co16,.int .i64 t342] 25 (0,0)) (bL Bb.out) hb);have n10_:=Am (bB (g:=Bd) (o:=.cells #[.slice Ao22 t348.length co22,.int .i64 t351] 25 (0,0)) (bL Ba.out) hb);have n11_:=Am (bB (g:=Bj) (o:=.cells #[.slice Ao71 t359.length co71,.int .i64 t362] 25 (0,0)) (bL Bl.out) hb);have n12_:=Am (bP (by repeat (first|(with_reducible first|exact HB.out|apply oA|apply pN|apply o1|refine bS ?_ Bk.out|refine bS ?_ Bn.out|refine bS ?_ Bq.out|refine bS ?_ BC.out)|exact HB.out)) hb);have n13_:=Am (hbox);have n14_:=Am ((by rw [hg];exact (bZ (by repeat (first|(with_reducible first|exact HB.out|apply oA|apply pN|apply o1|refine bS ?_ Bk.out|refine bS ?_ Bn.out|refine bS ?_ Bq.out|refine bS ?_ BC.out)|exact HB.out))):w.heap.size≤Bm));have n15_:=Am ((by rw [hg];exact (bZ (by repeat (first|(with_reducible first|exact HB.out|apply oA|apply pN|apply o1|refine bS ?_ Bk.out|refine bS ?_ Bn.out|refine bS ?_ Bq.out|refine bS ?_ BC.out)|exact HB.out))):w.heap.size≤Bm));have n16_:=Am ((by rw [hg];exact Nat.ne_of_lt (blk_lt (g:=Bi) (o:=.cells #[.slice Ao12 t333.length co12,.int .i64 t336] 25 (0,0)) (bL Bc.out)):Bi≠Bm));have n17_:=Am ((by rw [hg];exact Nat.ne_of_gt (blk_lt (g:=Bi) (o:=.cells #[.slice Ao12 t333.length co12,.int .i64 t336] 25 (0,0)) (bL Bc.out)):Bm≠Bi));have n18_:=Am ((by rw [hg];exact Nat.ne_of_lt (blk_lt (g:=Bg) (o:=.cells #[.slice Ao16 t339.length co16,.int .i64 t342] 25 (0,0)) (bL Bb.out)):Bg≠Bm));have n19_:=Am ((by rw [hg];exact Nat.ne_of_gt (blk_lt (g:=Bg) (o:=.cells #[.slice Ao16 t339.length co16,.int .i64 t342] 25 (0,0)) (bL Bb.out)):Bm≠Bg));have n20_:=Am ((by rw [hg];exact Nat.ne_of_lt (blk_lt (g:=Bd) (o:=.cells #[.slice Ao22 t348.length co22,.int .i64 t351] 25 (0,0)) (bL Ba.out)):Bd≠Bm));have n21_:=Am ((by rw [hg];exact Nat.ne_of_gt (blk_lt (g:=Bd) (o:=.cells #[.slice Ao22 t348.length co22,.int .i64 t351] 25 (0,0)) (bL Ba.out)):Bm≠Bd));have n22_:=Am ((by rw [hg];exact Nat.ne_of_lt (blk_lt (g:=Bj) (o:=.cells #[.slice Ao71 t359.length co71,.int .i64 t362] 25 (0,0)) (bL Bl.out)):Bj≠Bm));have n23_:=Am ((by rw [hg];exact Nat.ne_of_gt (blk_lt (g:=Bj) (o:=.cells #[.slice Ao71 t359.length co71,.int .i64 t362] 25 (0,0)) (bL Bl.out)):Bm≠Bj));clear Bt Be Bf Bh Bv Bu Bz Bx Bc Bb Ba Bl HB;revert n0_ n1_ n2_ n3_ n4_ n5_ n6_ n7_ n8_ n9_ n10_ n11_ n12_ n13_ n14_ n15_ n16_ n17_ n18_ n19_ n20_ n21_ n22_ n23_;intro Bt Be Bf Bh Bv Bu Bz Bx Bc Bb Ba Bl HB Bs Fx BJ BN DA BO DB BP DC BQ DD;clear hb hbox hg;obtain ⟨Ao78,co78,eo78⟩:=Kd.R_slice Bz.out;subst eo78;have Fy:=DA.out;have Fz:=BN.out;have FA:=DB.out;have FB:=BO.out;have FC:=DC.out;have FD:=BP.out;have FE:=DD.out;have FF:=BQ.out;have DN:w77.cell? ⟨Bm,0,none⟩=some (.slice none 0 0):=(bC Bs.out 0).trans rfl;have DO:w77.cell? ⟨Bm,1,none⟩=some (.int .i64 0):=(bC Bs.out 1).trans rfl;have DP:=bF Bs.out 0;have DQ:=bF Bs.out 1;have FG:=BB.out;have FH:=BI.out;have DR:w77.cell? ⟨Bg,0,none⟩=some (.slice Ao16 t339.length co16):=(bC Bb.out 0).trans rfl;have DS:w77.cell? ⟨Bg,1,none⟩=some (.int .i64 t342):=(bC Bb.out 1).trans rfl;have DT:=bF Bb.out 0;have DU:=bF Bb.out 1)|(go_at_call 15;(with_reducible refine (laws_qdQueue.calls kj51 _ _ t368 t371 _ _ t339 t342 true _ ?side1 ?side2 ?side3 ?side4 A60.out).mono ?_);(case side1=>refine (Kd.R_reads' (e:=40) (base:=w.heap.size) (ok:=fun k_=>((((True∧some k_≠(.slice Ao12 t333.length co12:Value).ownBlock)∧some k_≠(.slice Ao16 t339.length co16:Value).ownBlock)∧some k_≠(.slice Ao22 t348.length co22:Value).ownBlock)∧some k_≠(.slice Ao71 t359.length co71:Value).ownBlock)) (n:=t368.length) (c:=co78) ?_).2.2;exact (by (with_reducible repeat (first|apply rA|apply rN|apply rD));exact (rM (rF (p:=⟨Bm,1,none⟩) (rF (p:=⟨Bm,0,none⟩) (rT Bz.out Bs.out (by decide)) (fun _ hk=>hk.2) (.slice Ao78 t368.length co78)) (fun _ hk=>hk.2) (.int .i64 t371)) (fun _ h_=>h_.1))));(case side2=>exact (Kd.R_reads' Bz.out).2.1);(case side3=>refine (Kd.R_reads' (e:=40) (base:=w.heap.size) (ok:=fun k_=>(((some k_≠(.slice Ao12 t333.length co12:Value).ownBlock∧some k_≠(.slice Ao22 t348.length co22:Value).ownBlock)∧some k_≠(.slice Ao71 t359.length co71:Value).ownBlock)∧some k_≠(.slice Ao78 t368.length co78:Value).ownBlock)) (n:=t339.length) (c:=co16) ?_).2.2;exact (by (with_reducible repeat (first|apply rA|apply rN|apply rD));exact (rM (rF (p:=⟨Bm,1,none⟩) (rF (p:=⟨Bm,0,none⟩) (rT Bf.out Bs.out (by decide)) (fun _ hk=>hk.2) (.slice Ao78 t368.length co78)) (fun _ hk=>hk.2) (.int .i64 t371)) (fun _ h_=>h_.1))));(case side4=>exact (Kd.R_reads' Bf.out).2.1);rintro e w86 ⟨rfl,hb⟩;have n0_:=Am (rB (by (with_reducible repeat (first|apply rA|apply rN|apply rD));exact (rM (rF (p:=⟨Bm,1,none⟩) (rF (p:=⟨Bm,0,none⟩) (rT Bt.out Bs.out (by decide)) (fun _ hk=>hk.2) (.slice Ao78 t368.length co78)) (fun _ hk=>hk.2) (.int .i64 t371)) (fun _ h_=>h_.1))) hb);have n1_:=Am (rB (by (with_reducible repeat (first|apply rA|apply rN|apply rD));exact (rM (rF (p:=⟨Bm,1,none⟩) (rF (p:=⟨Bm,0,none⟩) (rT Be.out Bs.out (by decide)) (fun _ hk=>hk.2) (.slice Ao78 t368.length co78)) (fun _ hk=>hk.2) (.int .i64 t371)) (fun _ h_=>h_.1))) hb);have n2_:=Am (rB (by (with_reducible repeat (first|apply rA|apply rN|apply rD));exact (rM (rF (p:=⟨Bm,1,none⟩) (rF (p:=⟨Bm,0,none⟩) (rT Bf.out Bs.out (by decide)) (fun _ hk=>hk.2) (.slice Ao78 t368.length co78)) (fun _ hk=>hk.2) (.int .i64 t371)) (fun _ h_=>h_.1))) hb);have n3_:=Am (rB (by (with_reducible repeat (first|apply rA|apply rN|apply rD));exact (rM (rF (p:=⟨Bm,1,none⟩) (rF (p:=⟨Bm,0,none⟩) (rT Bh.out Bs.out (by decide)) (fun _ hk=>hk.2) (.slice Ao78 t368.length co78)) (fun _ hk=>hk.2) (.int .i64 t371)) (fun _ h_=>h_.1))) hb);have n4_:=Am (rB (by (with_reducible repeat (first|apply rA|apply rN|apply rD));exact (rM (rF (p:=⟨Bm,1,none⟩) (rF (p:=⟨Bm,0,none⟩) (rT Bv.out Bs.out (by decide)) (fun _ hk=>hk.2) (.slice Ao78 t368.length co78)) (fun _ hk=>hk.2) (.int .i64 t371)) (fun _ h_=>h_.1))) hb);have n5_:=Am (rB (by (with_reducible repeat (first|apply rA|apply rN|apply rD));exact (rM (rF (p:=⟨Bm,1,none⟩) (rF (p:=⟨Bm,0,none⟩) (rT Bu.out Bs.out (by decide)) (fun _ hk=>hk.2) (.slice Ao78 t368.length co78)) (fun _ hk=>hk.2) (.int .i64 t371)) (fun _ h_=>h_.1))) hb);have n6_:=Am (rB (by (with_reducible repeat (first|apply rA|apply rN|apply rD));exact (rM (rF (p:=⟨Bm,1,none⟩) (rF (p:=⟨Bm,0,none⟩) (rT Bz.out Bs.out (by decide)) (fun _ hk=>hk.2) (.slice Ao78 t368.length co78)) (fun _ hk=>hk.2) (.int .i64 t371)) (fun _ h_=>h_.1))) hb);have n7_:=Am (rB (by (with_reducible repeat (first|apply rA|apply rN|apply rD));exact (rM (rF (p:=⟨Bm,1,none⟩) (rF (p:=⟨Bm,0,none⟩) (rT Bx.out Bs.out (by decide)) (fun _ hk=>hk.2) (.slice Ao78 t368.length co78)) (fun _ hk=>hk.2) (.int .i64 t371)) (fun _ h_=>h_.1))) hb);have n8_:=Am (bB (g:=Bi) (o:=.cells #[.slice Ao12 t333.length co12,.int .i64 t336] 25 (0,0)) (by (with_reducible repeat (first|refine bN ?_ _|refine bD ?_|refine bA ?_ _|refine blk_far ?_ BN.out _));exact Bc.out) hb);have n9_:=Am (bB (g:=Bg) (o:=.cells #[.slice Ao16 t339.length co16,.int .i64 t342] 25 (0,0)) (by (with_reducible repeat (first|refine bN ?_ _|refine bD ?_|refine bA ?_ _|refine blk_far ?_ BO.out _));exact Bb.out) hb);have n10_:=Am (bB (g:=Bd) (o:=.cells #[.slice Ao22 t348.length co22,.int .i64 t351] 25 (0,0)) (by (with_reducible repeat (first|refine bN ?_ _|refine bD ?_|refine bA ?_ _|refine blk_far ?_ BP.out _));exact Ba.out) hb);have n11_:=Am (bB (g:=Bj) (o:=.cells #[.slice Ao71 t359.length co71,.int .i64 t362] 25 (0,0)) (by (with_reducible repeat (first|refine bN ?_ _|refine bD ?_|refine bA ?_ _|refine blk_far ?_ BQ.out _));exact Bl.out) hb);have n12_:=Am (bB (g:=Bm) (o:=.cells #[.slice Ao78 t368.length co78,.int .i64 t371] 25 (0,0)) (by (with_reducible repeat (first|refine bN ?_ _|refine bD ?_|refine bA ?_ _));refine blk_put (cs:=#[.slice Ao78 t368.length co78,.int .i64 0]) ?_ 1 _ rfl;(with_reducible repeat (first|refine bN ?_ _|refine bD ?_|refine bA ?_ _));refine blk_put (cs:=#[.slice none 0 0,.int .i64 0]) ?_ 0 _ rfl;(with_reducible repeat (first|refine bN ?_ _|refine bD ?_|refine bA ?_ _));exact Bs.out) hb);have n13_:=Am (bP (by repeat (first|(with_reducible first|exact HB.out|apply oA|apply pN|apply o1|refine bS ?_ Bk.out|refine bS ?_ Bn.out|refine bS ?_ Bq.out|refine bS ?_ BC.out|refine bS ?_ BJ.out)|exact HB.out)) hb);clear Bt Be Bf Bh Bv Bu Bz Bx Bc Bb Ba Bl Bs HB;revert n0_ n1_ n2_ n3_ n4_ n5_ n6_ n7_ n8_ n9_ n10_ n11_ n12_ n13_;intro Bt Be Bf Bh Bv Bu Bz Bx Bc Bb Ba Bl Bs HB;(try clear hb);(try clear hb2);(try clear hk);(try clear hi))|((with_reducible refine gate_dst (N:=99) rfl ?_);(try (refine gate_guard (by rfl) ?_;dsimp only));refine Kd.R_lit (Kd.int .i64) _ 3 ?hg (N:=99) ?hd (xs:=([]:List Int)) (inner:=[]) (ok:=fun _=>True) (okp:=fun _=>True) ?hr ?hp (fun _ hk=>hk) trivial (Below.refl _ _) (Nat.le_refl _) (by simp) ?_;(case hd=>rfl);(case hg=>rfl);(case hr=>first|(go_simp;done)|(go_simp;rfl));(case hp=>exact (Reps.none _ _));intro v379 w87 ho88 hb hg_ hnew_;clear hg_ hnew_;(first|rw [← Ny378.out] at ho88|(simp only [Int.reduceToNat] at ho88;rw [← Ny378.out] at ho88));have n0_:=Am (Kd.R_elder' (rL Bt.out) (Kd.R_base ho88) hb);have n1_:=Am (rB (rL Be.out) hb);have n2_:=Am (rB (rL Bf.out) hb);have n3_:=Am (rB (rL Bh.out) hb);have n4_:=Am (rB (rL Bv.out) hb);have n5_:=Am (Kd.R_elder' (rL Bu.out) (Kd.R_base ho88) hb);have n6_:=Am (rB (rL Bz.out) hb);have n7_:=Am (Kd.R_elder' (rL Bx.out) (Kd.R_base ho88) hb);have n8_:=Am (Kd.R_lower (Kd.R_new' (Kd.R_new' (Kd.R_new' ho88 (Kd.R_lt (rL Bt.out))) (Kd.R_lt (rL Bu.out))) (Kd.R_lt (rL Bx.out))) (bZ (by repeat (first|(with_reducible first|exact HB.out|apply oA|apply pN|apply o1|refine bS ?_ Bk.out|refine bS ?_ Bn.out|refine bS ?_ Bq.out|refine bS ?_ BC.out|refine bS ?_ BJ.out)|exact HB.out))));have n9_:=Am (bB (g:=Bi) (o:=.cells #[.slice Ao12 t333.length co12,.int .i64 t336] 25 (0,0)) (bL Bc.out) hb);have n10_:=Am (bB (g:=Bg) (o:=.cells #[.slice Ao16 t339.length co16,.int .i64 t342] 25 (0,0)) (bL Bb.out) hb);have n11_:=Am (bB (g:=Bd) (o:=.cells #[.slice Ao22 t348.length co22,.int .i64 t351] 25 (0,0)) (bL Ba.out) hb);have n12_:=Am (bB (g:=Bj) (o:=.cells #[.slice Ao71 t359.length co71,.int .i64 t362] 25 (0,0)) (bL Bl.out) hb);have n13_:=Am (bB (g:=Bm) (o:=.cells #[.slice Ao78 t368.length co78,.int .i64 t371] 25 (0,0)) (bL Bs.out) hb);have n14_:=Am (bP (by repeat (first|(with_reducible first|exact HB.out|apply oA|apply pN|apply o1|refine bS ?_ Bk.out|refine bS ?_ Bn.out|refine bS ?_ Bq.out|refine bS ?_ BC.out|refine bS ?_ BJ.out)|exact HB.out)) hb);clear Bt Be Bf Bh Bv Bu Bz Bx Bc Bb Ba Bl Bs HB;revert n0_ n1_ n2_ n3_ n4_ n5_ n6_ n7_ n8_ n9_ n10_ n11_ n12_ n13_ n14_;intro Bt Be Bf Bh Bv Bu Bz Bx BD Bc Bb Ba Bl Bs HB;clear hb ho88;obtain ⟨Ao90,co90,eo90⟩:=Kd.R_slice Bu.out;subst eo90)|((with_reducible refine gate_builtin (b:=.append) (xs:=#[.tmp 99,.tmp 100]) rfl ?_);(try (refine gate_guard (by rfl) ?_;dsimp only));at_builtin;refine Kd.R_append_rows (Kd.int .i64) (w0:=w) w.heap.size rfl (.tmp 99) (.tmp 100) 34 3 (.int .i64 0) 8 rfl Try.underlying34 info3 rfl (by decide) (by omega) v379 y378 t363 _ _ _ (fun k_=>some k_≠(v344:Value).ownBlock∧some k_≠(.slice Ao90 t363.length co90:Value).ownBlock∧some k_≠(v373:Value).ownBlock) (fun _=>False) rfl rfl ?aO ?aR (fun _ _ h=>h) (fun _ h=>h.elim) ?aF ?aB ?aS ?aL ?_;(case aR=>repeat (first|exact (Kd.R_reads' Bu.out).2.2|(with_reducible refine cA ?_ _)|(with_reducible refine cN ?_ _)|(with_reducible refine cD ?_)));(case aB=>exact (by repeat (first|(with_reducible first|exact HB.out|apply oA|apply pN|apply o1|refine bS ?_ Bk.out|refine bS ?_ Bn.out|refine bS ?_ Bq.out|refine bS ?_ BC.out|refine bS ?_ BJ.out)|exact HB.out)));(case aF=>exact (fun k_ hk=>⟨Kd.fresh' (Kd.R_lt (rL Bt.out)) k_ hk,Kd.fresh' (Kd.R_lt (rL Bu.out)) k_ hk,Kd.fresh' (Kd.R_lt (rL Bx.out)) k_ hk⟩));(case aO=>exact (by (with_reducible repeat (first|apply rA|apply rN|apply rD));exact rM BD.out (fun _ hk=>⟨hk.1.1.2,⟨hk.1.2,hk.2⟩⟩)));(case aS=>exact (bZ (by repeat (first|(with_reducible first|exact HB.out|apply oA|apply pN|apply o1|refine bS ?_ Bk.out|refine bS ?_ Bn.out|refine bS ?_ Bq.out|refine bS ?_ BC.out|refine bS ?_ BJ.out)|exact HB.out))));(case aL=>have:=LMc62.out;omega);intro v382 w89 ho hb hg hat;rw [← Ny381.out] at ho;have n0_:=Am (Kd.R_after (ok:=(fun k_=>some k_≠(.slice Ao90 t363.length co90:Value).ownBlock∧some k_≠(v373:Value).ownBlock)) (by (with_reducible repeat (first|apply rA|apply rN|apply rD));exact rM Bt.out (fun _ hk=>⟨⟨hk.1.1.2,hk.1.2⟩,hk.2⟩)) hg hat);have n1_:=Am (Kd.R_over' (rL Be.out) (Kd.R_typed (rL BD.out)) (by decide) hg);have n2_:=Am (Kd.R_over' (rL Bf.out) (Kd.R_typed (rL BD.out)) (by decide) hg);have n3_:=Am (Kd.R_over' (rL Bh.out) (Kd.R_typed (rL BD.out)) (by decide) hg);have n4_:=Am (blk_grown (g:=Bi) (o:=.cells #[.slice Ao12 t333.length co12,.int .i64 t336] 25 (0,0)) (bL Bc.out) hg (Kd.R_ne BD.out Bc.out (by decide)));have n5_:=Am (blk_grown (g:=Bg) (o:=.cells #[.slice Ao16 t339.length co16,.int .i64 t342] 25 (0,0)) (bL Bb.out) hg (Kd.R_ne BD.out Bb.out (by decide)));have n6_:=Am (blk_grown (g:=Bd) (o:=.cells #[.slice Ao22 t348.length co22,.int .i64 t351] 25 (0,0)) (bL Ba.out) hg (Kd.R_ne BD.out Ba.out (by decide)));have n7_:=Am (Kd.R_over' (rL Bv.out) (Kd.R_typed (rL BD.out)) (by decide) hg);have n8_:=Am (Kd.R_after (ok:=(fun k_=>some k_≠(v344:Value).ownBlock∧some k_≠(v373:Value).ownBlock)) (by (with_reducible repeat (first|apply rA|apply rN|apply rD));exact rM Bu.out (fun _ hk=>⟨⟨hk.1.1.2,hk.1.2⟩,hk.2⟩)) hg hat);have n9_:=Am (blk_grown (g:=Bj) (o:=.cells #[.slice Ao71 t359.length co71,.int .i64 t362] 25 (0,0)) (bL Bl.out) hg (Kd.R_ne BD.out Bl.out (by decide)));have n10_:=Am (Kd.R_over' (rL Bz.out) (Kd.R_typed (rL BD.out)) (by decide) hg);have n11_:=Am (Kd.R_after (ok:=(fun k_=>some k_≠(v344:Value).ownBlock∧some k_≠(.slice Ao90 t363.length co90:Value).ownBlock)) (by (with_reducible repeat (first|apply rA|apply rN|apply rD));exact rM Bx.out (fun _ hk=>⟨⟨hk.1.1.2,hk.1.2⟩,hk.2⟩)) hg hat);have n12_:=Am (blk_grown (g:=Bm) (o:=.cells #[.slice Ao78 t368.length co78,.int .i64 t371] 25 (0,0)) (bL Bs.out) hg (Kd.R_ne BD.out Bs.out (by decide)));have n13_:=Am (hb);have n14_:=Am (ho);clear Bt Be Bf Bh Bc Bb Ba Bv Bu Bl Bz Bx Bs HB BD;revert n0_ n1_ n2_ n3_ n4_ n5_ n6_ n7_ n8_ n9_ n10_ n11_ n12_ n13_ n14_;intro Bt Be Bf Bh Bc Bb Ba Bv Bu Bl Bz Bx Bs HB BE;clear ho hb hg hat;obtain ⟨Ao92,co92,eo92⟩:=Kd.R_slice Bx.out;subst eo92)|((with_reducible refine gate_builtin (b:=.append) (xs:=#[.tmp 101,.tmp 102]) rfl ?_);(try (refine gate_guard (by rfl) ?_;dsimp only));at_builtin;refine Kd.R_append_rows (Kd.int .i64) (w0:=w) w.heap.size rfl (.tmp 101) (.tmp 102) 34 3 (.int .i64 0) 8 rfl Try.underlying34 info3 rfl (by decide) (by omega) v382 y381 t372 _ _ _ (fun k_=>some k_≠(v344:Value).ownBlock∧some k_≠(.slice Ao90 t363.length co90:Value).ownBlock∧some k_≠(.slice Ao92 t372.length co92:Value).ownBlock) (fun _=>False) rfl rfl ?aO ?aR (fun _ _ h=>h) (fun _ h=>h.elim) ?aF ?aB ?aS ?aL ?_;(case aR=>repeat (first|exact (Kd.R_reads' Bx.out).2.2|(with_reducible refine cA ?_ _)|(with_reducible refine cN ?_ _)|(with_reducible refine cD ?_)));(case aB=>exact (by repeat (first|(with_reducible first|exact HB.out|apply oA|apply pN|apply o1|refine bS ?_ Bk.out|refine bS ?_ Bn.out|refine bS ?_ Bq.out|refine bS ?_ BC.out|refine bS ?_ BJ.out)|exact HB.out)));(case aF=>exact (fun k_ hk=>⟨Kd.fresh' (Kd.R_lt (rL Bt.out)) k_ hk,Kd.fresh' (Kd.R_lt (rL Bu.out)) k_ hk,Kd.fresh' (Kd.R_lt (rL Bx.out)) k_ hk⟩));(case aO=>exact (rL BE.out));(case aS=>exact (bZ (by repeat (first|(with_reducible first|exact HB.out|apply oA|apply pN|apply o1|refine bS ?_ Bk.out|refine bS ?_ Bn.out|refine bS ?_ Bq.out|refine bS ?_ BC.out|refine bS ?_ BJ.out)|exact HB.out))));(case aL=>have:=LMc63.out;omega);intro v385 w91 ho hb hg hat;rw [← Ny384.out] at ho;have n0_:=Am (Kd.R_after (ok:=(fun k_=>some k_≠(.slice Ao90 t363.length co90:Value).ownBlock∧some k_≠(.slice Ao92 t372.length co92:Value).ownBlock)) (rL Bt.out) hg hat);have n1_:=Am (Kd.R_over' (rL Be.out) (Kd.R_typed (rL BE.out)) (by decide) hg);have n2_:=Am (Kd.R_over' (rL Bf.out) (Kd.R_typed (rL BE.out)) (by decide) hg);have n3_:=Am (Kd.R_over' (rL Bh.out) (Kd.R_typed (rL BE.out)) (by decide) hg);have n4_:=Am (blk_grown (g:=Bi) (o:=.cells #[.slice Ao12 t333.length co12,.int .i64 t336] 25 (0,0)) (bL Bc.out) hg (Kd.R_ne BE.out Bc.out (by decide)));have n5_:=Am (blk_grown (g:=Bg) (o:=.cells #[.slice Ao16 t339.length co16,.int .i64 t342] 25 (0,0)) (bL Bb.out) hg (Kd.R_ne BE.out Bb.out (by decide)));have n6_:=Am (blk_grown (g:=Bd) (o:=.cells #[.slice Ao22 t348.length co22,.int .i64 t351] 25 (0,0)) (bL Ba.out) hg (Kd.R_ne BE.out Ba.out (by decide)));have n7_:=Am (Kd.R_over' (rL Bv.out) (Kd.R_typed (rL BE.out)) (by decide) hg);have n8_:=Am (Kd.R_after (ok:=(fun k_=>some k_≠(v344:Value).ownBlock∧some k_≠(.slice Ao92 t372.length co92:Value).ownBlock)) (rL Bu.out) hg hat);have n9_:=Am (blk_grown (g:=Bj) (o:=.cells #[.slice Ao71 t359.length co71,.int .i64 t362] 25 (0,0)) (bL Bl.out) hg (Kd.R_ne BE.out Bl.out (by decide)));have n10_:=Am (Kd.R_over' (rL Bz.out) (Kd.R_typed (rL BE.out)) (by decide) hg);have n11_:=Am (Kd.R_after (ok:=(fun k_=>some k_≠(v344:Value).ownBlock∧some k_≠(.slice Ao90 t363.length co90:Value).ownBlock)) (rL Bx.out) hg hat);have n12_:=Am (blk_grown (g:=Bm) (o:=.cells #[.slice Ao78 t368.length co78,.int .i64 t371] 25 (0,0)) (bL Bs.out) hg (Kd.R_ne BE.out Bs.out (by decide)));have n13_:=Am (hb);have n14_:=Am (ho);clear Bt Be Bf Bh Bc Bb Ba Bv Bu Bl Bz Bx Bs HB BE;revert n0_ n1_ n2_ n3_ n4_ n5_ n6_ n7_ n8_ n9_ n10_ n11_ n12_ n13_ n14_;intro Bt Be Bf Bh Bc Bb Ba Bv Bu Bl Bz Bx Bs HB Dv;clear ho hb hg hat;obtain ⟨Ao93,co93,eo93⟩:=Kd.R_slice Dv.out;subst eo93;obtain ⟨Ao94,co94,eo94⟩:=Kd.R_slice Bt.out;subst eo94)|(go_at_call 32;(with_reducible refine (laws_qdInts.calls kj51 _ _ y384 _ _ t343 true _ ?side1 ?side2 ?side3 ?side4 A64.out).mono ?_);(case side1=>repeat (first|exact (Kd.R_reads' Dv.out).2.2|(with_reducible refine cA ?_ _)|(with_reducible refine cN ?_ _)|(with_reducible refine cD ?_)));(case side2=>exact (Kd.R_reads' Dv.out).2.1);(case side3=>repeat (first|exact (Kd.R_reads' Bt.out).2.2|(with_reducible refine cA ?_ _)|(with_reducible refine cN ?_ _)|(with_reducible refine cD ?_)));(case side4=>exact (Kd.R_reads' Bt.out).2.1);rintro e w' ⟨rfl,⟨nd,rfl⟩⟩))
       go_ret
       exact ⟨by first|rfl|(simp [errW_none,errW_some] <;> rfl)|(simp [*,errW_none,errW_some] <;> rfl),by repeat (first|(with_reducible first|exact HB.out|apply oA|apply pN|apply o1|refine bS ?_ Bk.out|refine bS ?_ Bn.out|refine bS ?_ Bq.out|refine bS ?_ BC.out|refine bS ?_ BJ.out)|exact HB.out)⟩
/-- THE ONE PURE STATEMENT of laws_FnQueueRun: yours. -/
def laws_FnQueueRun.Pure:Prop:=∀ (l0:List Int) (l1:List Int),l0.length≤maxLen → l0.length * 1≤140737488351232 → (∀ x ∈ l0,(Lit.int .u8 x).wf=true) → l1.length≤maxLen → l1.length * 1≤140737488351232 → (∀ x ∈ l1,(Lit.int .u8 x).wf=true) → ∃ k,laws_FnQueueRun.f k l0 l1=some true
theorem laws_FnQueueRun.walk (P:laws_FnQueueRun.Pure) (a0:Option Addr) (len0 cap0:Nat) (z0:List Int) (a1:Option Addr) (len1 cap1:Nat) (z1:List Int) (w:World) (w0:(a0=none∧len0=0∧cap0=0∧z0=[])∨∃ x,a0=some x∧len0≤cap0∧cap0≤maxLen∧z0.length=cap0∧(∀ i,i<z0.length → w.cell? (x.add i)=some (.int .u8 (z0.getD i 0)))∧∀ n ∈ z0,(Lit.int .u8 n).wf=true) (y0:len0 * 1≤140737488351232) (w1:(a1=none∧len1=0∧cap1=0∧z1=[])∨∃ x,a1=some x∧len1≤cap1∧cap1≤maxLen∧z1.length=cap1∧(∀ i,i<z1.length → w.cell? (x.add i)=some (.int .u8 (z1.getD i 0)))∧∀ n ∈ z1,(Lit.int .u8 n).wf=true) (y1:len1 * 1≤140737488351232) :
  Calls Try.prog 8 #[.slice a0 len0 cap0,.slice a1 len1 cap1] w fun e w'=>e=.returned (.bool true)∧Below w.heap.size w w':=by
 obtain ⟨l0,rfl,hr0,hm0,hw0,hc0⟩:=ReadsInt.ofRowC w0
 obtain ⟨l1,rfl,hr1,hm1,hw1,hc1⟩:=ReadsInt.ofRowC w1
 obtain ⟨k,h⟩:=P l0 l1 hm0 y0 hw0 hm1 y1 hw1
 refine (laws_FnQueueRun.calls k _ _ l0 _ _ l1 true w (Kd.C_of_reads (d:=(0:Int)) (h1:=fun _=>rfl) hr0) hc0 (Kd.C_of_reads (d:=(0:Int)) (h1:=fun _=>rfl) hr1) hc1 h ⟨rfl⟩).mono ?_
 rintro e w' ⟨rfl,hd⟩
 exact ⟨rfl,hd⟩

end Go.Proofs.Ytfhcgmfodfcpeaa.PFnQueueRun
