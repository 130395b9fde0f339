/- Proved here, without a condition beyond those that each theorem states: what the Go functions named below do is what the plain functions of the same names say. Written by xprint.py, a program of this session. -/
import Derived.Test.YtfhcgmfodfcpeaaPFnShareFairx0
import Derived.Test.YtfhcgmfodfcpeaaPFnShareFairx2
import Derived.Test.YtfhcgmfodfcpeaaPFnShareFairx6
import Derived.Test.YtfhcgmfodfcpeaaPFnShareFairx13
import Derived.Test.YtfhcgmfodfcpeaaPFnShareFairx16
import Derived.Test.YtfhcgmfodfcpeaaPFnShareFairx17
namespace Go.Proofs.Ytfhcgmfodfcpeaa.PFnShareFair
open Go.RowKit Go.Proofs.YtfhcgmfodfcpeaaW.PrintWords Go.Proofs.YtfhcgmfodfcpeaaW.PrintLast Go.Proofs.YtfhcgmfodfcpeaaW.PrintMore
attribute [local go_sem] max2_int min2_int max_two min_two max_three min_three max_four min_four   -- for this text's walks alone
set_option linter.unusedVariables false
set_option linter.unusedSimpArgs false

attribute [local go_sem ↓] isSome_setCell_
/-! ### laws_FnShareFair: function 9 -/
mutual
def laws_FnShareFair.l0 : Nat → Int → Int → List (S40) → Int → Option (Bool)
|0, _, _, _, _ => none
|k + 1, x4, x5, x339000, x339001 => if x5 < (x339000.length : Int) then (if 0 ≤ x5 then ((some (x339000.set (x5 : Int).toNat (⟨(rd_T40 x339000 x5).f0, (rd_T40 x339000 x5).f1, (rd_T40 x339000 x5).f2, true⟩ : S40) : List (S40))).bind fun y339 => (laws_FnShareFair.l0 k x4 (wrap64 (x5 + 1)) (y339.set (x5 : Int).toNat (⟨(rd_T40 y339 x5).f0, (rd_T40 y339 x5).f1, x339001, (rd_T40 y339 x5).f3⟩ : S40)) x339001)) else (none)) else ((impl_QueueRun.f k x339000 x339001 x4).bind fun bt341 => ((spec_QueueRun.f k x339000 x339001 x4).bind fun bt350 => (if (bt341.2.2.2 != bt350.2.2.2) = true then (laws_FnShareFair.j1 k bt341.2.2.1 bt341.2.2.2 bt350.2.2.1 bt350.2.2.2 true bt341.1 bt341.2.1 bt350.1 bt350.2.1) else ((laws_qdInts.f k bt341.2.2.1 bt350.2.2.1).bind fun t359 => (if t359 = true then ((laws_qdQueue.f k bt341.1 bt341.2.1 bt350.1 bt350.2.1).bind fun t360 => (if t360 = true then (laws_FnShareFair.j1 k bt341.2.2.1 bt341.2.2.2 bt350.2.2.1 bt350.2.2.2 (!bt341.2.2.2) bt341.1 bt341.2.1 bt350.1 bt350.2.1) else (laws_FnShareFair.j1 k bt341.2.2.1 bt341.2.2.2 bt350.2.2.1 bt350.2.2.2 true bt341.1 bt341.2.1 bt350.1 bt350.2.1))) else (laws_FnShareFair.j1 k bt341.2.2.1 bt341.2.2.2 bt350.2.2.1 bt350.2.2.2 true bt341.1 bt341.2.1 bt350.1 bt350.2.1))))))
def laws_FnShareFair.j1 : Nat → List Int → Bool → List Int → Bool → Bool → List (S40) → Int → List (S40) → Int → Option (Bool)
|0, _, _, _, _, _, _, _, _, _ => none
|k + 1, x7, x8, x10, x11, x73, x350000, x350001, x359000, x359001 => if x73 = true then (if (x8 == x11) = true then ((laws_qdInts.f k x7 x10).bind fun t361 => (if t361 = true then ((laws_qdQueue.f k x350000 x350001 x359000 x359001).bind fun t362 => (some t362)) else (some false))) else (some false)) else (laws_FnShareFair.l1 k 0 x350000 x350001)
def laws_FnShareFair.l1 : Nat → Int → List (S40) → Int → Option (Bool)
|0, _, _, _ => none
|k + 1, x12, x350000, x350001 => if x12 < (x350000.length : Int) then (laws_FnShareFair.l2 k x12 0 x350000 x350001) else (some true)
def laws_FnShareFair.l2 : Nat → Int → Int → List (S40) → Int → Option (Bool)
|0, _, _, _, _ => none
|k + 1, x12, x13, x350000, x350001 => if x13 < (x350000.length : Int) then (if 0 ≤ x12 then (if x12 < (x350000.length : Int) then (if 0 ≤ x13 then (if ((rd_T40 x350000 x12).f1) = 0 then (none) else (if ((rd_T40 x350000 x12).f2) > (wrap64 (((rd_T40 x350000 x13).f2) + (wrap64 (Int.tdiv (60 : Int) ((rd_T40 x350000 x12).f1))))) then (some false) else (laws_FnShareFair.l2 k x12 (wrap64 (x13 + 1)) x350000 x350001))) else (none)) else (none)) else (none)) else (laws_FnShareFair.l1 k (wrap64 (x12 + 1)) x350000 x350001)
end
def laws_FnShareFair.f (k : Nat) (l0 : List Int) : Option (Bool) := if (l0.length : Int) > 1048576 then (some true) else ((spec_DrawQueueRun.f k l0).bind fun bt333 => (laws_FnShareFair.l0 k bt333.2.2 0 bt333.1 bt333.2.1))
theorem laws_FnShareFair.mono_l : ∀ k, (∀ y0 y1 y2 y3, LeO (laws_FnShareFair.l0 k y0 y1 y2 y3) (laws_FnShareFair.l0 (k + 1) y0 y1 y2 y3)) ∧ (∀ y0 y1 y2 y3 y4 y5 y6 y7 y8, LeO (laws_FnShareFair.j1 k y0 y1 y2 y3 y4 y5 y6 y7 y8) (laws_FnShareFair.j1 (k + 1) y0 y1 y2 y3 y4 y5 y6 y7 y8)) ∧ (∀ y0 y1 y2, LeO (laws_FnShareFair.l1 k y0 y1 y2) (laws_FnShareFair.l1 (k + 1) y0 y1 y2)) ∧ (∀ y0 y1 y2 y3, LeO (laws_FnShareFair.l2 k y0 y1 y2 y3) (laws_FnShareFair.l2 (k + 1) y0 y1 y2 y3))
|0 => ⟨fun _ _ _ _ r h => by simp [laws_FnShareFair.l0] at h, fun _ _ _ _ _ _ _ _ _ r h => by simp [laws_FnShareFair.j1] at h, fun _ _ _ r h => by simp [laws_FnShareFair.l1] at h, fun _ _ _ _ r h => by simp [laws_FnShareFair.l2] at h⟩
|k + 1 => by
  obtain ⟨ih0, ih1, ih2, ih3⟩ := laws_FnShareFair.mono_l k
  refine ⟨?_, ?_, ?_, ?_⟩
  ·intro y0 y1 y2 y3
   unfold laws_FnShareFair.l0
   repeat' first
  |(with_reducible exact ih0 _ _ _ _)
  |(with_reducible exact ih1 _ _ _ _ _ _ _ _ _)
  |(with_reducible exact ih2 _ _ _)
  |(with_reducible exact ih3 _ _ _ _)
  |(with_reducible exact impl_QueueRun.mono _ _ _ _)
  |(with_reducible exact laws_qdInts.mono _ _ _)
  |(with_reducible exact laws_qdQueue.mono _ _ _ _ _)
  |(with_reducible exact spec_DrawQueueRun.mono _ _)
  |(with_reducible exact spec_QueueRun.mono _ _ _ _)
  |(with_reducible exact LeO.refl _)
  |(with_reducible exact LeO.none _)
  |(with_reducible refine LeO.ite ?_ ?_)
  |(with_reducible refine LeO.bind ?_ (fun _ => ?_))
  |exact ih0 _ _ _ _
  |exact ih1 _ _ _ _ _ _ _ _ _
  |exact ih2 _ _ _
  |exact ih3 _ _ _ _
  |exact impl_QueueRun.mono _ _ _ _
  |exact laws_qdInts.mono _ _ _
  |exact laws_qdQueue.mono _ _ _ _ _
  |exact spec_DrawQueueRun.mono _ _
  |exact spec_QueueRun.mono _ _ _ _
  |exact LeO.none _
  |refine LeO.ite ?_ ?_
  |refine LeO.bind ?_ (fun _ => ?_)
  ·intro y0 y1 y2 y3 y4 y5 y6 y7 y8
   unfold laws_FnShareFair.j1
   repeat' first
  |(with_reducible exact ih0 _ _ _ _)
  |(with_reducible exact ih1 _ _ _ _ _ _ _ _ _)
  |(with_reducible exact ih2 _ _ _)
  |(with_reducible exact ih3 _ _ _ _)
  |(with_reducible exact impl_QueueRun.mono _ _ _ _)
  |(with_reducible exact laws_qdInts.mono _ _ _)
  |(with_reducible exact laws_qdQueue.mono _ _ _ _ _)
  |(with_reducible exact spec_DrawQueueRun.mono _ _)
  |(with_reducible exact spec_QueueRun.mono _ _ _ _)
  |(with_reducible exact LeO.refl _)
  |(with_reducible exact LeO.none _)
  |(with_reducible refine LeO.ite ?_ ?_)
  |(with_reducible refine LeO.bind ?_ (fun _ => ?_))
  |exact ih0 _ _ _ _
  |exact ih1 _ _ _ _ _ _ _ _ _
  |exact ih2 _ _ _
  |exact ih3 _ _ _ _
  |exact impl_QueueRun.mono _ _ _ _
  |exact laws_qdInts.mono _ _ _
  |exact laws_qdQueue.mono _ _ _ _ _
  |exact spec_DrawQueueRun.mono _ _
  |exact spec_QueueRun.mono _ _ _ _
  |exact LeO.none _
  |refine LeO.ite ?_ ?_
  |refine LeO.bind ?_ (fun _ => ?_)
  ·intro y0 y1 y2
   unfold laws_FnShareFair.l1
   repeat' first
  |(with_reducible exact ih0 _ _ _ _)
  |(with_reducible exact ih1 _ _ _ _ _ _ _ _ _)
  |(with_reducible exact ih2 _ _ _)
  |(with_reducible exact ih3 _ _ _ _)
  |(with_reducible exact impl_QueueRun.mono _ _ _ _)
  |(with_reducible exact laws_qdInts.mono _ _ _)
  |(with_reducible exact laws_qdQueue.mono _ _ _ _ _)
  |(with_reducible exact spec_DrawQueueRun.mono _ _)
  |(with_reducible exact spec_QueueRun.mono _ _ _ _)
  |(with_reducible exact LeO.refl _)
  |(with_reducible exact LeO.none _)
  |(with_reducible refine LeO.ite ?_ ?_)
  |(with_reducible refine LeO.bind ?_ (fun _ => ?_))
  |exact ih0 _ _ _ _
  |exact ih1 _ _ _ _ _ _ _ _ _
  |exact ih2 _ _ _
  |exact ih3 _ _ _ _
  |exact impl_QueueRun.mono _ _ _ _
  |exact laws_qdInts.mono _ _ _
  |exact laws_qdQueue.mono _ _ _ _ _
  |exact spec_DrawQueueRun.mono _ _
  |exact spec_QueueRun.mono _ _ _ _
  |exact LeO.none _
  |refine LeO.ite ?_ ?_
  |refine LeO.bind ?_ (fun _ => ?_)
  ·intro y0 y1 y2 y3
   unfold laws_FnShareFair.l2
   repeat' first
  |(with_reducible exact ih0 _ _ _ _)
  |(with_reducible exact ih1 _ _ _ _ _ _ _ _ _)
  |(with_reducible exact ih2 _ _ _)
  |(with_reducible exact ih3 _ _ _ _)
  |(with_reducible exact impl_QueueRun.mono _ _ _ _)
  |(with_reducible exact laws_qdInts.mono _ _ _)
  |(with_reducible exact laws_qdQueue.mono _ _ _ _ _)
  |(with_reducible exact spec_DrawQueueRun.mono _ _)
  |(with_reducible exact spec_QueueRun.mono _ _ _ _)
  |(with_reducible exact LeO.refl _)
  |(with_reducible exact LeO.none _)
  |(with_reducible refine LeO.ite ?_ ?_)
  |(with_reducible refine LeO.bind ?_ (fun _ => ?_))
  |exact ih0 _ _ _ _
  |exact ih1 _ _ _ _ _ _ _ _ _
  |exact ih2 _ _ _
  |exact ih3 _ _ _ _
  |exact impl_QueueRun.mono _ _ _ _
  |exact laws_qdInts.mono _ _ _
  |exact laws_qdQueue.mono _ _ _ _ _
  |exact spec_DrawQueueRun.mono _ _
  |exact spec_QueueRun.mono _ _ _ _
  |exact LeO.none _
  |refine LeO.ite ?_ ?_
  |refine LeO.bind ?_ (fun _ => ?_)
theorem laws_FnShareFair.mono : ∀ a0 k, LeO (laws_FnShareFair.f k a0) (laws_FnShareFair.f (k + 1) a0) := by
 intro a0 k
 obtain ⟨ih0, ih1, ih2, ih3⟩ := laws_FnShareFair.mono_l k
 unfold laws_FnShareFair.f
 repeat' first
  |(with_reducible exact ih0 _ _ _ _)
  |(with_reducible exact ih1 _ _ _ _ _ _ _ _ _)
  |(with_reducible exact ih2 _ _ _)
  |(with_reducible exact ih3 _ _ _ _)
  |(with_reducible exact impl_QueueRun.mono _ _ _ _)
  |(with_reducible exact laws_qdInts.mono _ _ _)
  |(with_reducible exact laws_qdQueue.mono _ _ _ _ _)
  |(with_reducible exact spec_DrawQueueRun.mono _ _)
  |(with_reducible exact spec_QueueRun.mono _ _ _ _)
  |(with_reducible exact LeO.refl _)
  |(with_reducible exact LeO.none _)
  |(with_reducible refine LeO.ite ?_ ?_)
  |(with_reducible refine LeO.bind ?_ (fun _ => ?_))
  |exact ih0 _ _ _ _
  |exact ih1 _ _ _ _ _ _ _ _ _
  |exact ih2 _ _ _
  |exact ih3 _ _ _ _
  |exact impl_QueueRun.mono _ _ _ _
  |exact laws_qdInts.mono _ _ _
  |exact laws_qdQueue.mono _ _ _ _ _
  |exact spec_DrawQueueRun.mono _ _
  |exact spec_QueueRun.mono _ _ _ _
  |exact LeO.none _
  |refine LeO.ite ?_ ?_
  |refine LeO.bind ?_ (fun _ => ?_)
set_option maxHeartbeats 2000000 in
set_option maxRecDepth 100000 in
theorem laws_FnShareFair.calls (k:Nat) (A0:Option Addr) (c0:Nat) (l0:List Int) (r:Bool) (w:World) (hr0:Kd.C (Kd.int .u8) w A0 l0.length l0) (hc0:l0.length≤c0) (h:laws_FnShareFair.f k l0=some r) (hT_:Aside0 (r=true)) :
  Calls Try.prog 9 #[.slice A0 l0.length c0] w fun e w'=>e=.returned (.bool r)∧Below w.heap.size w w':=by
 have hu25:=Try.underlying25
 have HR0:=Am hr0
 have HC0:=Am hc0
 clear hr0 hc0
 have HB:=Am (Below.refl w.heap.size w)
 have H:(if (l0.length:Int) > 1048576 then (some true) else ((spec_DrawQueueRun.f k l0).bind fun bt333=>(laws_FnShareFair.l0 k bt333.2.2 0 bt333.1 bt333.2.1)))=some r:=h
 clear h
 by_cases c2:(l0.length:Int) > 1048576
 ·rw [if_pos c2] at H
  have c2b0:decide (1048576<(l0.length:Int))=true:=decide_eq_true c2
  have c2b1:decide (1048576<l0.length)=true:=decide_eq_true (by omega)
  clear c2
  obtain rfl:=Option.some.inj H
  go_enter Try.func9,Try.ntmps9
  go_wp2
  repeat (go_quiet (fail);try go_wp2)
  go_ret
  exact ⟨by first|rfl|(simp [errW_none,errW_some] <;> rfl)|(simp [*,errW_none,errW_some] <;> rfl),by repeat (first|(with_reducible first|exact HB.out|apply oA|apply pN|apply o1)|exact HB.out)⟩
 rw [if_neg c2] at H
 have c2b0:decide (1048576<(l0.length:Int))=false:=decide_eq_false c2
 have c2b1:decide (1048576<l0.length)=false:=decide_eq_false (by omega)
 clear c2
 replace H:=oC H
 obtain ⟨⟨t333,t336,t337⟩,A30,H⟩:=H
 replace H:(laws_FnShareFair.l0 k t337 0 t333 t336)=some r:=H
 have A3:=Am A30
 clear A30
 have H':=Am H
 clear H
 go_enter Try.func9,Try.ntmps9
 go_wp2_with (first|(go_at_call 30;(with_reducible refine (spec_DrawQueueRun.calls k _ _ l0 t333 t336 t337 _ ?side1 ?side2 A3.out).mono ?_);(case side1=>repeat (first|exact HR0.out|(with_reducible refine cA ?_ _)|(with_reducible refine cN ?_ _)|(with_reducible refine cD ?_)));(case side2=>exact HC0.out);rintro e w4 ⟨v334,rfl,ho0,hb⟩;have n0_:=Am (Kd.R_lower ho0 (bZ (by repeat (first|(with_reducible first|exact HB.out|apply oA|apply pN|apply o1)|exact HB.out))));have n1_:=Am (bP (by repeat (first|(with_reducible first|exact HB.out|apply oA|apply pN|apply o1)|exact HB.out)) hb);clear HB;revert n0_ n1_;intro Bx HB;(try clear hb);(try clear hb2);(try clear hk);(try clear hi);(try clear ho0))|((with_reducible refine gate_dst (N:=3) rfl ?_);refine box_event ?hg (N:=3) ?hd (cs:=#[.slice none 0 0,.int .i64 0]) (t:=25) ?hr ?_;(case hd=>rfl);(case hg=>rfl);(case hr=>first|(go_simp;done)|(go_simp;rfl));intro Bg hg w5 hbox hb;have n0_:=Am (rB (rL Bx.out) hb);have n1_:=Am (bP (by repeat (first|(with_reducible first|exact HB.out|apply oA|apply pN|apply o1)|exact HB.out)) hb);have n2_:=Am (hbox);have n3_:=Am ((by rw [hg];exact (bZ (by repeat (first|(with_reducible first|exact HB.out|apply oA|apply pN|apply o1)|exact HB.out))):w.heap.size≤Bg));have n4_:=Am ((by rw [hg];exact (bZ (by repeat (first|(with_reducible first|exact HB.out|apply oA|apply pN|apply o1)|exact HB.out))):w.heap.size≤Bg));clear Bx HB;revert n0_ n1_ n2_ n3_ n4_;intro Bx HB Bc Dq Bj;clear hb hbox hg;obtain ⟨Ao6,co6,eo6⟩:=Kd.R_slice Bx.out;subst eo6;have Bz:w5.cell? ⟨Bg,0,none⟩=some (.slice none 0 0):=(bC Bc.out 0).trans rfl;have BA:w5.cell? ⟨Bg,1,none⟩=some (.int .i64 0):=(bC Bc.out 1).trans rfl;have BB:=bF Bc.out 0;have BC:=bF Bc.out 1))
 repeat (go_quiet (first|(go_at_call 30;(with_reducible refine (spec_DrawQueueRun.calls k _ _ l0 t333 t336 t337 _ ?side1 ?side2 A3.out).mono ?_);(case side1=>repeat (first|exact HR0.out|(with_reducible refine cA ?_ _)|(with_reducible refine cN ?_ _)|(with_reducible refine cD ?_)));(case side2=>exact HC0.out);rintro e w4 ⟨v334,rfl,ho0,hb⟩;have n0_:=Am (Kd.R_lower ho0 (bZ (by repeat (first|(with_reducible first|exact HB.out|apply oA|apply pN|apply o1)|exact HB.out))));have n1_:=Am (bP (by repeat (first|(with_reducible first|exact HB.out|apply oA|apply pN|apply o1)|exact HB.out)) hb);clear HB;revert n0_ n1_;intro Bx HB;(try clear hb);(try clear hb2);(try clear hk);(try clear hi);(try clear ho0))|((with_reducible refine gate_dst (N:=3) rfl ?_);refine box_event ?hg (N:=3) ?hd (cs:=#[.slice none 0 0,.int .i64 0]) (t:=25) ?hr ?_;(case hd=>rfl);(case hg=>rfl);(case hr=>first|(go_simp;done)|(go_simp;rfl));intro Bg hg w5 hbox hb;have n0_:=Am (rB (rL Bx.out) hb);have n1_:=Am (bP (by repeat (first|(with_reducible first|exact HB.out|apply oA|apply pN|apply o1)|exact HB.out)) hb);have n2_:=Am (hbox);have n3_:=Am ((by rw [hg];exact (bZ (by repeat (first|(with_reducible first|exact HB.out|apply oA|apply pN|apply o1)|exact HB.out))):w.heap.size≤Bg));have n4_:=Am ((by rw [hg];exact (bZ (by repeat (first|(with_reducible first|exact HB.out|apply oA|apply pN|apply o1)|exact HB.out))):w.heap.size≤Bg));clear Bx HB;revert n0_ n1_ n2_ n3_ n4_;intro Bx HB Bc Dq Bj;clear hb hbox hg;obtain ⟨Ao6,co6,eo6⟩:=Kd.R_slice Bx.out;subst eo6;have Bz:w5.cell? ⟨Bg,0,none⟩=some (.slice none 0 0):=(bC Bc.out 0).trans rfl;have BA:w5.cell? ⟨Bg,1,none⟩=some (.int .i64 0):=(bC Bc.out 1).trans rfl;have BB:=bF Bc.out 0;have BC:=bF Bc.out 1));try go_wp2_with (first|(go_at_call 30;(with_reducible refine (spec_DrawQueueRun.calls k _ _ l0 t333 t336 t337 _ ?side1 ?side2 A3.out).mono ?_);(case side1=>repeat (first|exact HR0.out|(with_reducible refine cA ?_ _)|(with_reducible refine cN ?_ _)|(with_reducible refine cD ?_)));(case side2=>exact HC0.out);rintro e w4 ⟨v334,rfl,ho0,hb⟩;have n0_:=Am (Kd.R_lower ho0 (bZ (by repeat (first|(with_reducible first|exact HB.out|apply oA|apply pN|apply o1)|exact HB.out))));have n1_:=Am (bP (by repeat (first|(with_reducible first|exact HB.out|apply oA|apply pN|apply o1)|exact HB.out)) hb);clear HB;revert n0_ n1_;intro Bx HB;(try clear hb);(try clear hb2);(try clear hk);(try clear hi);(try clear ho0))|((with_reducible refine gate_dst (N:=3) rfl ?_);refine box_event ?hg (N:=3) ?hd (cs:=#[.slice none 0 0,.int .i64 0]) (t:=25) ?hr ?_;(case hd=>rfl);(case hg=>rfl);(case hr=>first|(go_simp;done)|(go_simp;rfl));intro Bg hg w5 hbox hb;have n0_:=Am (rB (rL Bx.out) hb);have n1_:=Am (bP (by repeat (first|(with_reducible first|exact HB.out|apply oA|apply pN|apply o1)|exact HB.out)) hb);have n2_:=Am (hbox);have n3_:=Am ((by rw [hg];exact (bZ (by repeat (first|(with_reducible first|exact HB.out|apply oA|apply pN|apply o1)|exact HB.out))):w.heap.size≤Bg));have n4_:=Am ((by rw [hg];exact (bZ (by repeat (first|(with_reducible first|exact HB.out|apply oA|apply pN|apply o1)|exact HB.out))):w.heap.size≤Bg));clear Bx HB;revert n0_ n1_ n2_ n3_ n4_;intro Bx HB Bc Dq Bj;clear hb hbox hg;obtain ⟨Ao6,co6,eo6⟩:=Kd.R_slice Bx.out;subst eo6;have Bz:w5.cell? ⟨Bg,0,none⟩=some (.slice none 0 0):=(bC Bc.out 0).trans rfl;have BA:w5.cell? ⟨Bg,1,none⟩=some (.int .i64 0):=(bC Bc.out 1).trans rfl;have BB:=bF Bc.out 0;have BC:=bF Bc.out 1)))
 go_loopg [5] k (fun kq v5 w'=>∃ (x5_1:Int) (x339000_1:List (S40)) (u339000:Value),v5=.int .i64 x5_1∧Aside0 (laws_FnShareFair.l0 kq t337 x5_1 x339000_1 t336=some r)∧Aside0 (kq≤k)∧Aside0 (Kd.R k40 40 w' w.heap.size (fun _=>True) u339000 x339000_1)∧Aside0 (w'.heap[Bg]?=some (.cells #[u339000,.int .i64 t336] 25 (0,0)))∧Aside0 (Below w.heap.size w w'))
 case atStart=>exact ⟨(0),(t333),(.slice Ao6 t333.length co6),(by first|rfl|(simp;done)|(simp [*];done)),H',⟨Nat.le_refl _⟩,⟨by (with_reducible repeat (first|apply rA|apply rN|apply rD));exact rM (rF (p:=⟨Bg,1,none⟩) (rF (p:=⟨Bg,0,none⟩) (rT Bx.out Bc.out (by decide)) (fun _ hk=>hk.2) (.slice Ao6 t333.length co6)) (fun _ hk=>hk.2) (.int .i64 t336)) (fun _ hk=>trivial)⟩,⟨by (with_reducible repeat (first|refine bN ?_ _|refine bD ?_|refine bA ?_ _));refine blk_put (cs:=#[.slice Ao6 t333.length co6,.int .i64 0]) ?_ 1 _ rfl;(with_reducible repeat (first|refine bN ?_ _|refine bD ?_|refine bA ?_ _));refine blk_put (cs:=#[.slice none 0 0,.int .i64 0]) ?_ 0 _ rfl;(with_reducible repeat (first|refine bN ?_ _|refine bD ?_|refine bA ?_ _));exact Bc.out⟩,⟨by repeat (first|(with_reducible first|exact HB.out|apply oA|apply pN|apply o1|refine bS ?_ Bj.out)|exact HB.out)⟩⟩
 case round =>
  clear H'
  try clear c2
  try clear c2b0
  try clear c2b1
  try clear p2
  try clear Bz
  try clear BA
  try clear BB
  try clear BC
  obtain ⟨x5_1,x339000_1,u339000,rfl,HA,HK1,Ba,Bc,HB⟩:=hrel
  cases gk with
 |zero=>exact absurd HA.out (by simp [laws_FnShareFair.l0])
 |succ k1 =>
   have H:=HA.out
   clear HA
   simp only [laws_FnShareFair.l0] at H
   by_cases c8:x5_1<(x339000_1.length:Int)
   ·rw [if_pos c8] at H
    have c8b0:decide (x5_1<(x339000_1.length:Int))=true:=decide_eq_true c8
    clear c8
    by_cases c9:0≤x5_1
    rotate_left
    ·rw [if_neg c9] at H
     exact absurd H (by simp)
    rw [if_pos c9] at H
    have c9b0:decide (0≤x5_1)=true:=decide_eq_true c9
    clear c9
    obtain ⟨y339,hy339⟩:∃ y_:List (S40),y_=(x339000_1.set (x5_1:Int).toNat (⟨(rd_T40 x339000_1 x5_1).f0,(rd_T40 x339000_1 x5_1).f1,(rd_T40 x339000_1 x5_1).f2,true⟩:S40)):=⟨_,rfl⟩
    replace H:(laws_FnShareFair.l0 k1 t337 (wrap64 (x5_1 + 1)) (y339.set (x5_1:Int).toNat (⟨(rd_T40 y339 x5_1).f0,(rd_T40 y339 x5_1).f1,t336,(rd_T40 y339 x5_1).f3⟩:S40)) t336)=some r:=by first|(rw [hy339];with_reducible exact H)|(have H2_:=(Option.bind_some _ _).symm.trans H;rw [hy339];with_reducible exact H2_)|(have H2_:=(Option.bind_some _ _).symm.trans H;with_reducible exact H2_)|with_reducible exact H|(rw [hy339];exact H)|exact H
    have Ny339:=Am hy339
    clear hy339
    obtain ⟨y340,hy340⟩:∃ y_:List (S40),y_=(y339.set (x5_1:Int).toNat (⟨(rd_T40 y339 x5_1).f0,(rd_T40 y339 x5_1).f1,t336,(rd_T40 y339 x5_1).f3⟩:S40)):=⟨_,rfl⟩
    replace H:(laws_FnShareFair.l0 k1 t337 (wrap64 (x5_1 + 1)) y340 t336)=some r:=by first|(rw [hy340];with_reducible exact H)|(have H2_:=(Option.bind_some _ _).symm.trans H;rw [hy340];with_reducible exact H2_)|(have H2_:=(Option.bind_some _ _).symm.trans H;with_reducible exact H2_)|with_reducible exact H|(rw [hy340];exact H)|exact H
    have Ny340:=Am hy340
    clear hy340
    have H':=Am H
    clear H
    have Dh:wr.cell? ⟨Bg,0,none⟩=some (u339000):=(bC Bc.out 0).trans rfl
    have Di:wr.cell? ⟨Bg,1,none⟩=some (.int .i64 t336):=(bC Bc.out 1).trans rfl
    have Dj:=bF Bc.out 0
    have Dk:=bF Bc.out 1
    obtain ⟨Ao13,co13,eo13⟩:=Kd.R_slice Ba.out
    subst eo13
    have p10:0≤(x5_1:Int):=of_decide_eq_true (by first|(with_reducible assumption)|assumption)
    have q10:(x5_1:Int)<((x339000_1.length:Int):Int):=of_decide_eq_true (by first|(with_reducible assumption)|assumption)
    obtain ⟨go10,co10,eo10,DV,gl10,cl10,HG10⟩:=Kd.R_form Ba.out (by omega)
    (first|cases eo10|(injection eo10 with ea_ en_ ec_;(first|subst ea_|(injection ea_ with ea_;subst ea_));subst ec_;clear en_))
    have GB10:=Am DV
    have GG10:=Am HG10
    clear DV gl10 HG10
    obtain ⟨ce10,hcl10,hM10,hcc10,hfr10⟩:=Kd.R_elem Ba.out z40 (x5_1:Int) p10 q10
    obtain rfl:=k40_openM hM10
    have hx10_0:wr.cell? ⟨go10,(x5_1:Int).toNat * 4,none⟩=some (.int .i64 ((rd_T40 x339000_1 x5_1).f0)):=hcc10 0 _ rfl
    have hx10_1:wr.cell? ⟨go10,(x5_1:Int).toNat * 4 + 1,none⟩=some (.int .i64 ((rd_T40 x339000_1 x5_1).f1)):=hcc10 1 _ rfl
    have hx10_2:wr.cell? ⟨go10,(x5_1:Int).toNat * 4 + 2,none⟩=some (.int .i64 ((rd_T40 x339000_1 x5_1).f2)):=hcc10 2 _ rfl
    have hx10_3:wr.cell? ⟨go10,(x5_1:Int).toNat * 4 + 3,none⟩=some (.bool ((rd_T40 x339000_1 x5_1).f3)):=hcc10 3 _ rfl
    have hf10_0:wr.frozen? ⟨go10,(x5_1:Int).toNat * 4,none⟩=false:=hfr10 0
    have hf10_1:wr.frozen? ⟨go10,(x5_1:Int).toNat * 4 + 1,none⟩=false:=hfr10 1
    have hf10_2:wr.frozen? ⟨go10,(x5_1:Int).toNat * 4 + 2,none⟩=false:=hfr10 2
    have hf10_3:wr.frozen? ⟨go10,(x5_1:Int).toNat * 4 + 3,none⟩=false:=hfr10 3
    clear hcl10 hcc10 hfr10 hM10
    replace p10:=eq_true p10
    replace q10:=eq_true q10
    have HX14:=Am (show Kd.R k40 40 wr w.heap.size (fun _=>True) (.slice (some ⟨go10,0,none⟩) x339000_1.length co13) x339000_1 from (rL Ba.out))
    obtain ⟨ce14,hcl14,hM14,hcc14,hfr14⟩:=Kd.R_elem HX14.out z40 (x5_1:Int) (of_decide_eq_true (by first|(with_reducible assumption)|assumption)) (by have h_:(x5_1:Int)<((x339000_1.length:Int):Int):=of_decide_eq_true (by first|(with_reducible assumption)|assumption);first|exact h_|(have e_:=(Kd.R_reads' Ba.out).1;omega)|simpa using h_)
    obtain rfl:=k40_openM hM14
    have HP14:=Kd.R_seg HX14.out (x5_1:Int) (of_decide_eq_true (by first|(with_reducible assumption)|assumption)) (by have h_:(x5_1:Int)<((x339000_1.length:Int):Int):=of_decide_eq_true (by first|(with_reducible assumption)|assumption);first|exact h_|(have e_:=(Kd.R_reads' Ba.out).1;omega)|simpa using h_) (seg:=[.bool true]) (j:=3) hcl14 hcc14 (show 4≤4 from by decide) (x':=(⟨(rd_T40 x339000_1 x5_1).f0,(rd_T40 x339000_1 x5_1).f1,(rd_T40 x339000_1 x5_1).f2,true⟩:S40)) (k40_mkM _ _ _ (⟨(rd_T40 x339000_1 x5_1).f0,(rd_T40 x339000_1 x5_1).f1,(rd_T40 x339000_1 x5_1).f2,true⟩:S40) ) (fun _ hk=>hk)
    have hx14_3:=hcc14 3 _ rfl
    (try simp only [show (k40).sz=4 from rfl,Nat.mul_one,Nat.add_zero] at hx14_3)
    have hf14_3:=hfr14 3
    (try simp only [show (k40).sz=4 from rfl,Nat.mul_one,Nat.add_zero] at hf14_3)
    clear hcl14 hcc14 hfr14 hM14
    go_wp2_with (first|((with_reducible refine gate_store (t:=4) (p:=33) rfl ?_);(try (rw [drewN_self wr];generalize hq_:World.drewN wr _=wr;have n0_:=Am (Kd.R_at hq_ Ba.out);have n1_:=Am (blk_at hq_ Bc.out);have n2_:=Am (below_at hq_ HB.out);clear hq_ Ba Bc HB;revert n0_ n1_ n2_;intro Ba Bc HB;(try (have HX14:=Am (show Kd.R k40 40 wr w.heap.size (fun _=>True) (.slice (some ⟨go10,0,none⟩) x339000_1.length co13) x339000_1 from (rL Ba.out))));(try (obtain ⟨ce14,hcl14,hM14,hcc14,hfr14⟩:=Kd.R_elem HX14.out z40 (x5_1:Int) (of_decide_eq_true (by first|(with_reducible assumption)|assumption)) (by have h_:(x5_1:Int)<((x339000_1.length:Int):Int):=of_decide_eq_true (by first|(with_reducible assumption)|assumption);first|exact h_|(have e_:=(Kd.R_reads' Ba.out).1;omega)|simpa using h_)));(try (obtain rfl:=k40_openM hM14));(try (have HP14:=Kd.R_seg HX14.out (x5_1:Int) (of_decide_eq_true (by first|(with_reducible assumption)|assumption)) (by have h_:(x5_1:Int)<((x339000_1.length:Int):Int):=of_decide_eq_true (by first|(with_reducible assumption)|assumption);first|exact h_|(have e_:=(Kd.R_reads' Ba.out).1;omega)|simpa using h_) (seg:=[.bool true]) (j:=3) hcl14 hcc14 (show 4≤4 from by decide) (x':=(⟨(rd_T40 x339000_1 x5_1).f0,(rd_T40 x339000_1 x5_1).f1,(rd_T40 x339000_1 x5_1).f2,true⟩:S40)) (k40_mkM _ _ _ (⟨(rd_T40 x339000_1 x5_1).f0,(rd_T40 x339000_1 x5_1).f1,(rd_T40 x339000_1 x5_1).f2,true⟩:S40) ) (fun _ hk=>hk)));(try (have hx14_3:=hcc14 3 _ rfl));(try (try simp only [show (k40).sz=4 from rfl,Nat.mul_one,Nat.add_zero] at hx14_3));(try (have hf14_3:=hfr14 3));(try (try simp only [show (k40).sz=4 from rfl,Nat.mul_one,Nat.add_zero] at hf14_3));(try (clear hcl14 hcc14 hfr14 hM14))));refine store_event (t:=4) (p:=33) (v:=?vo_w15) (w1:=(wr.setCell ⟨go10,(x5_1:Int).toNat * 4 + 3,none⟩ (.bool true))) ?hg ?ho ?hn ?hr ?_;(case ho=>rfl);(case hg=>rfl);(case hn=>rfl);(case hr=>first|(go_simp;done)|(go_simp;rfl));intro w15 hw;have hg:wr.grownBy w15 (some go10):=(by rw [hw];exact HP14.2);have hp_:Kd.R k40 40 w15 w.heap.size (fun _=>True) (.slice (some ⟨go10,0,none⟩) x339000_1.length co13) y339:=(by rw [hw,Ny339.out];exact HP14.1);clear HP14;have n0_:=Am (hp_);have n1_:=Am (blk_grown (g:=Bg) (o:=.cells #[.slice (some ⟨go10,0,none⟩) x339000_1.length co13,.int .i64 t336] 25 (0,0)) (bL Bc.out) hg (Kd.R_ne Ba.out Bc.out (by decide)));have n2_:=Am ((by rw [hw];exact bS (HB.out) GB10.out:Below w.heap.size w w15));clear Ba Bc HB;revert n0_ n1_ n2_;intro Ba Bc HB;clear hg hw hp_;have BD:w15.cell? ⟨Bg,0,none⟩=some (.slice (some ⟨go10,0,none⟩) x339000_1.length co13):=(bC Bc.out 0).trans rfl;have BE:w15.cell? ⟨Bg,1,none⟩=some (.int .i64 t336):=(bC Bc.out 1).trans rfl;have BF:=bF Bc.out 0;have BG:=bF Bc.out 1;have p11:0≤(x5_1:Int):=of_decide_eq_true (by first|(with_reducible assumption)|assumption);have q11:(x5_1:Int)<((x339000_1.length:Int):Int):=of_decide_eq_true (by first|(with_reducible assumption)|assumption);obtain ⟨ce11,hcl11,hM11,hcc11,hfr11⟩:=Kd.R_elem Ba.out z40 (x5_1:Int) p11 q11;obtain rfl:=k40_openM hM11;have hx11_0:w15.cell? ⟨go10,(x5_1:Int).toNat * 4,none⟩=some (.int .i64 ((rd_T40 y339 x5_1).f0)):=hcc11 0 _ rfl;have hx11_1:w15.cell? ⟨go10,(x5_1:Int).toNat * 4 + 1,none⟩=some (.int .i64 ((rd_T40 y339 x5_1).f1)):=hcc11 1 _ rfl;have hx11_2:w15.cell? ⟨go10,(x5_1:Int).toNat * 4 + 2,none⟩=some (.int .i64 ((rd_T40 y339 x5_1).f2)):=hcc11 2 _ rfl;have hx11_3:w15.cell? ⟨go10,(x5_1:Int).toNat * 4 + 3,none⟩=some (.bool ((rd_T40 y339 x5_1).f3)):=hcc11 3 _ rfl;have hf11_0:w15.frozen? ⟨go10,(x5_1:Int).toNat * 4,none⟩=false:=hfr11 0;have hf11_1:w15.frozen? ⟨go10,(x5_1:Int).toNat * 4 + 1,none⟩=false:=hfr11 1;have hf11_2:w15.frozen? ⟨go10,(x5_1:Int).toNat * 4 + 2,none⟩=false:=hfr11 2;have hf11_3:w15.frozen? ⟨go10,(x5_1:Int).toNat * 4 + 3,none⟩=false:=hfr11 3;clear hcl11 hcc11 hfr11 hM11;replace p11:=eq_true p11;replace q11:=eq_true q11;have HX17:=Am (show Kd.R k40 40 w15 w.heap.size (fun _=>True) (.slice (some ⟨go10,0,none⟩) x339000_1.length co13) y339 from (rL Ba.out));obtain ⟨ce17,hcl17,hM17,hcc17,hfr17⟩:=Kd.R_elem HX17.out z40 (x5_1:Int) (of_decide_eq_true (by first|(with_reducible assumption)|assumption)) (by have h_:(x5_1:Int)<((x339000_1.length:Int):Int):=of_decide_eq_true (by first|(with_reducible assumption)|assumption);first|exact h_|(have e_:=(Kd.R_reads' Ba.out).1;omega)|simpa using h_);obtain rfl:=k40_openM hM17;have HP17:=Kd.R_seg HX17.out (x5_1:Int) (of_decide_eq_true (by first|(with_reducible assumption)|assumption)) (by have h_:(x5_1:Int)<((x339000_1.length:Int):Int):=of_decide_eq_true (by first|(with_reducible assumption)|assumption);first|exact h_|(have e_:=(Kd.R_reads' Ba.out).1;omega)|simpa using h_) (seg:=[.int .i64 t336]) (j:=2) hcl17 hcc17 (show 3≤4 from by decide) (x':=(⟨(rd_T40 y339 x5_1).f0,(rd_T40 y339 x5_1).f1,t336,(rd_T40 y339 x5_1).f3⟩:S40)) (k40_mkM _ _ _ (⟨(rd_T40 y339 x5_1).f0,(rd_T40 y339 x5_1).f1,t336,(rd_T40 y339 x5_1).f3⟩:S40) ) (fun _ hk=>hk);have hx17_2:=hcc17 2 _ rfl;(try simp only [show (k40).sz=4 from rfl,Nat.mul_one,Nat.add_zero] at hx17_2);have hf17_2:=hfr17 2;(try simp only [show (k40).sz=4 from rfl,Nat.mul_one,Nat.add_zero] at hf17_2);clear hcl17 hcc17 hfr17 hM17)|((with_reducible refine gate_store (t:=3) (p:=40) rfl ?_);(try (rw [drewN_self w15];generalize hq_:World.drewN w15 _=w15;have n0_:=Am (Kd.R_at hq_ Ba.out);have n1_:=Am (blk_at hq_ Bc.out);have n2_:=Am (below_at hq_ HB.out);clear hq_ Ba Bc HB;revert n0_ n1_ n2_;intro Ba Bc HB;(try (have HX17:=Am (show Kd.R k40 40 w15 w.heap.size (fun _=>True) (.slice (some ⟨go10,0,none⟩) x339000_1.length co13) y339 from (rL Ba.out))));(try (obtain ⟨ce17,hcl17,hM17,hcc17,hfr17⟩:=Kd.R_elem HX17.out z40 (x5_1:Int) (of_decide_eq_true (by first|(with_reducible assumption)|assumption)) (by have h_:(x5_1:Int)<((x339000_1.length:Int):Int):=of_decide_eq_true (by first|(with_reducible assumption)|assumption);first|exact h_|(have e_:=(Kd.R_reads' Ba.out).1;omega)|simpa using h_)));(try (obtain rfl:=k40_openM hM17));(try (have HP17:=Kd.R_seg HX17.out (x5_1:Int) (of_decide_eq_true (by first|(with_reducible assumption)|assumption)) (by have h_:(x5_1:Int)<((x339000_1.length:Int):Int):=of_decide_eq_true (by first|(with_reducible assumption)|assumption);first|exact h_|(have e_:=(Kd.R_reads' Ba.out).1;omega)|simpa using h_) (seg:=[.int .i64 t336]) (j:=2) hcl17 hcc17 (show 3≤4 from by decide) (x':=(⟨(rd_T40 y339 x5_1).f0,(rd_T40 y339 x5_1).f1,t336,(rd_T40 y339 x5_1).f3⟩:S40)) (k40_mkM _ _ _ (⟨(rd_T40 y339 x5_1).f0,(rd_T40 y339 x5_1).f1,t336,(rd_T40 y339 x5_1).f3⟩:S40) ) (fun _ hk=>hk)));(try (have hx17_2:=hcc17 2 _ rfl));(try (try simp only [show (k40).sz=4 from rfl,Nat.mul_one,Nat.add_zero] at hx17_2));(try (have hf17_2:=hfr17 2));(try (try simp only [show (k40).sz=4 from rfl,Nat.mul_one,Nat.add_zero] at hf17_2));(try (clear hcl17 hcc17 hfr17 hM17))));refine store_event (t:=3) (p:=40) (v:=?vo_w18) (w1:=(w15.setCell ⟨go10,(x5_1:Int).toNat * 4 + 2,none⟩ (.int .i64 t336))) ?hg ?ho ?hn ?hr ?_;(case ho=>rfl);(case hg=>rfl);(case hn=>rfl);(case hr=>first|(go_simp;done)|(go_simp;rfl));intro w18 hw;have hg:w15.grownBy w18 (some go10):=(by rw [hw];exact HP17.2);have hp_:Kd.R k40 40 w18 w.heap.size (fun _=>True) (.slice (some ⟨go10,0,none⟩) x339000_1.length co13) y340:=(by rw [hw,Ny340.out];exact HP17.1);clear HP17;have n0_:=Am (hp_);have n1_:=Am (blk_grown (g:=Bg) (o:=.cells #[.slice (some ⟨go10,0,none⟩) x339000_1.length co13,.int .i64 t336] 25 (0,0)) (bL Bc.out) hg (Kd.R_ne Ba.out Bc.out (by decide)));have n2_:=Am ((by rw [hw];exact bS (HB.out) GB10.out:Below w.heap.size w w18));clear Ba Bc HB;revert n0_ n1_ n2_;intro Ba Bc HB;clear hg hw hp_))
    repeat (go_quiet (first|((with_reducible refine gate_store (t:=4) (p:=33) rfl ?_);(try (rw [drewN_self wr];generalize hq_:World.drewN wr _=wr;have n0_:=Am (Kd.R_at hq_ Ba.out);have n1_:=Am (blk_at hq_ Bc.out);have n2_:=Am (below_at hq_ HB.out);clear hq_ Ba Bc HB;revert n0_ n1_ n2_;intro Ba Bc HB;(try (have HX14:=Am (show Kd.R k40 40 wr w.heap.size (fun _=>True) (.slice (some ⟨go10,0,none⟩) x339000_1.length co13) x339000_1 from (rL Ba.out))));(try (obtain ⟨ce14,hcl14,hM14,hcc14,hfr14⟩:=Kd.R_elem HX14.out z40 (x5_1:Int) (of_decide_eq_true (by first|(with_reducible assumption)|assumption)) (by have h_:(x5_1:Int)<((x339000_1.length:Int):Int):=of_decide_eq_true (by first|(with_reducible assumption)|assumption);first|exact h_|(have e_:=(Kd.R_reads' Ba.out).1;omega)|simpa using h_)));(try (obtain rfl:=k40_openM hM14));(try (have HP14:=Kd.R_seg HX14.out (x5_1:Int) (of_decide_eq_true (by first|(with_reducible assumption)|assumption)) (by have h_:(x5_1:Int)<((x339000_1.length:Int):Int):=of_decide_eq_true (by first|(with_reducible assumption)|assumption);first|exact h_|(have e_:=(Kd.R_reads' Ba.out).1;omega)|simpa using h_) (seg:=[.bool true]) (j:=3) hcl14 hcc14 (show 4≤4 from by decide) (x':=(⟨(rd_T40 x339000_1 x5_1).f0,(rd_T40 x339000_1 x5_1).f1,(rd_T40 x339000_1 x5_1).f2,true⟩:S40)) (k40_mkM _ _ _ (⟨(rd_T40 x339000_1 x5_1).f0,(rd_T40 x339000_1 x5_1).f1,(rd_T40 x339000_1 x5_1).f2,true⟩:S40) ) (fun _ hk=>hk)));(try (have hx14_3:=hcc14 3 _ rfl));(try (try simp only [show (k40).sz=4 from rfl,Nat.mul_one,Nat.add_zero] at hx14_3));(try (have hf14_3:=hfr14 3));(try (try simp only [show (k40).sz=4 from rfl,Nat.mul_one,Nat.add_zero] at hf14_3));(try (clear hcl14 hcc14 hfr14 hM14))));refine store_event (t:=4) (p:=33) (v:=?vo_w15) (w1:=(wr.setCell ⟨go10,(x5_1:Int).toNat * 4 + 3,none⟩ (.bool true))) ?hg ?ho ?hn ?hr ?_;(case ho=>rfl);(case hg=>rfl);(case hn=>rfl);(case hr=>first|(go_simp;done)|(go_simp;rfl));intro w15 hw;have hg:wr.grownBy w15 (some go10):=(by rw [hw];exact HP14.2);have hp_:Kd.R k40 40 w15 w.heap.size (fun _=>True) (.slice (some ⟨go10,0,none⟩) x339000_1.length co13) y339:=(by rw [hw,Ny339.out];exact HP14.1);clear HP14;have n0_:=Am (hp_);have n1_:=Am (blk_grown (g:=Bg) (o:=.cells #[.slice (some ⟨go10,0,none⟩) x339000_1.length co13,.int .i64 t336] 25 (0,0)) (bL Bc.out) hg (Kd.R_ne Ba.out Bc.out (by decide)));have n2_:=Am ((by rw [hw];exact bS (HB.out) GB10.out:Below w.heap.size w w15));clear Ba Bc HB;revert n0_ n1_ n2_;intro Ba Bc HB;clear hg hw hp_;have BD:w15.cell? ⟨Bg,0,none⟩=some (.slice (some ⟨go10,0,none⟩) x339000_1.length co13):=(bC Bc.out 0).trans rfl;have BE:w15.cell? ⟨Bg,1,none⟩=some (.int .i64 t336):=(bC Bc.out 1).trans rfl;have BF:=bF Bc.out 0;have BG:=bF Bc.out 1;have p11:0≤(x5_1:Int):=of_decide_eq_true (by first|(with_reducible assumption)|assumption);have q11:(x5_1:Int)<((x339000_1.length:Int):Int):=of_decide_eq_true (by first|(with_reducible assumption)|assumption);obtain ⟨ce11,hcl11,hM11,hcc11,hfr11⟩:=Kd.R_elem Ba.out z40 (x5_1:Int) p11 q11;obtain rfl:=k40_openM hM11;have hx11_0:w15.cell? ⟨go10,(x5_1:Int).toNat * 4,none⟩=some (.int .i64 ((rd_T40 y339 x5_1).f0)):=hcc11 0 _ rfl;have hx11_1:w15.cell? ⟨go10,(x5_1:Int).toNat * 4 + 1,none⟩=some (.int .i64 ((rd_T40 y339 x5_1).f1)):=hcc11 1 _ rfl;have hx11_2:w15.cell? ⟨go10,(x5_1:Int).toNat * 4 + 2,none⟩=some (.int .i64 ((rd_T40 y339 x5_1).f2)):=hcc11 2 _ rfl;have hx11_3:w15.cell? ⟨go10,(x5_1:Int).toNat * 4 + 3,none⟩=some (.bool ((rd_T40 y339 x5_1).f3)):=hcc11 3 _ rfl;have hf11_0:w15.frozen? ⟨go10,(x5_1:Int).toNat * 4,none⟩=false:=hfr11 0;have hf11_1:w15.frozen? ⟨go10,(x5_1:Int).toNat * 4 + 1,none⟩=false:=hfr11 1;have hf11_2:w15.frozen? ⟨go10,(x5_1:Int).toNat * 4 + 2,none⟩=false:=hfr11 2;have hf11_3:w15.frozen? ⟨go10,(x5_1:Int).toNat * 4 + 3,none⟩=false:=hfr11 3;clear hcl11 hcc11 hfr11 hM11;replace p11:=eq_true p11;replace q11:=eq_true q11;have HX17:=Am (show Kd.R k40 40 w15 w.heap.size (fun _=>True) (.slice (some ⟨go10,0,none⟩) x339000_1.length co13) y339 from (rL Ba.out));obtain ⟨ce17,hcl17,hM17,hcc17,hfr17⟩:=Kd.R_elem HX17.out z40 (x5_1:Int) (of_decide_eq_true (by first|(with_reducible assumption)|assumption)) (by have h_:(x5_1:Int)<((x339000_1.length:Int):Int):=of_decide_eq_true (by first|(with_reducible assumption)|assumption);first|exact h_|(have e_:=(Kd.R_reads' Ba.out).1;omega)|simpa using h_);obtain rfl:=k40_openM hM17;have HP17:=Kd.R_seg HX17.out (x5_1:Int) (of_decide_eq_true (by first|(with_reducible assumption)|assumption)) (by have h_:(x5_1:Int)<((x339000_1.length:Int):Int):=of_decide_eq_true (by first|(with_reducible assumption)|assumption);first|exact h_|(have e_:=(Kd.R_reads' Ba.out).1;omega)|simpa using h_) (seg:=[.int .i64 t336]) (j:=2) hcl17 hcc17 (show 3≤4 from by decide) (x':=(⟨(rd_T40 y339 x5_1).f0,(rd_T40 y339 x5_1).f1,t336,(rd_T40 y339 x5_1).f3⟩:S40)) (k40_mkM _ _ _ (⟨(rd_T40 y339 x5_1).f0,(rd_T40 y339 x5_1).f1,t336,(rd_T40 y339 x5_1).f3⟩:S40) ) (fun _ hk=>hk);have hx17_2:=hcc17 2 _ rfl;(try simp only [show (k40).sz=4 from rfl,Nat.mul_one,Nat.add_zero] at hx17_2);have hf17_2:=hfr17 2;(try simp only [show (k40).sz=4 from rfl,Nat.mul_one,Nat.add_zero] at hf17_2);clear hcl17 hcc17 hfr17 hM17)|((with_reducible refine gate_store (t:=3) (p:=40) rfl ?_);(try (rw [drewN_self w15];generalize hq_:World.drewN w15 _=w15;have n0_:=Am (Kd.R_at hq_ Ba.out);have n1_:=Am (blk_at hq_ Bc.out);have n2_:=Am (below_at hq_ HB.out);clear hq_ Ba Bc HB;revert n0_ n1_ n2_;intro Ba Bc HB;(try (have HX17:=Am (show Kd.R k40 40 w15 w.heap.size (fun _=>True) (.slice (some ⟨go10,0,none⟩) x339000_1.length co13) y339 from (rL Ba.out))));(try (obtain ⟨ce17,hcl17,hM17,hcc17,hfr17⟩:=Kd.R_elem HX17.out z40 (x5_1:Int) (of_decide_eq_true (by first|(with_reducible assumption)|assumption)) (by have h_:(x5_1:Int)<((x339000_1.length:Int):Int):=of_decide_eq_true (by first|(with_reducible assumption)|assumption);first|exact h_|(have e_:=(Kd.R_reads' Ba.out).1;omega)|simpa using h_)));(try (obtain rfl:=k40_openM hM17));(try (have HP17:=Kd.R_seg HX17.out (x5_1:Int) (of_decide_eq_true (by first|(with_reducible assumption)|assumption)) (by have h_:(x5_1:Int)<((x339000_1.length:Int):Int):=of_decide_eq_true (by first|(with_reducible assumption)|assumption);first|exact h_|(have e_:=(Kd.R_reads' Ba.out).1;omega)|simpa using h_) (seg:=[.int .i64 t336]) (j:=2) hcl17 hcc17 (show 3≤4 from by decide) (x':=(⟨(rd_T40 y339 x5_1).f0,(rd_T40 y339 x5_1).f1,t336,(rd_T40 y339 x5_1).f3⟩:S40)) (k40_mkM _ _ _ (⟨(rd_T40 y339 x5_1).f0,(rd_T40 y339 x5_1).f1,t336,(rd_T40 y339 x5_1).f3⟩:S40) ) (fun _ hk=>hk)));(try (have hx17_2:=hcc17 2 _ rfl));(try (try simp only [show (k40).sz=4 from rfl,Nat.mul_one,Nat.add_zero] at hx17_2));(try (have hf17_2:=hfr17 2));(try (try simp only [show (k40).sz=4 from rfl,Nat.mul_one,Nat.add_zero] at hf17_2));(try (clear hcl17 hcc17 hfr17 hM17))));refine store_event (t:=3) (p:=40) (v:=?vo_w18) (w1:=(w15.setCell ⟨go10,(x5_1:Int).toNat * 4 + 2,none⟩ (.int .i64 t336))) ?hg ?ho ?hn ?hr ?_;(case ho=>rfl);(case hg=>rfl);(case hn=>rfl);(case hr=>first|(go_simp;done)|(go_simp;rfl));intro w18 hw;have hg:w15.grownBy w18 (some go10):=(by rw [hw];exact HP17.2);have hp_:Kd.R k40 40 w18 w.heap.size (fun _=>True) (.slice (some ⟨go10,0,none⟩) x339000_1.length co13) y340:=(by rw [hw,Ny340.out];exact HP17.1);clear HP17;have n0_:=Am (hp_);have n1_:=Am (blk_grown (g:=Bg) (o:=.cells #[.slice (some ⟨go10,0,none⟩) x339000_1.length co13,.int .i64 t336] 25 (0,0)) (bL Bc.out) hg (Kd.R_ne Ba.out Bc.out (by decide)));have n2_:=Am ((by rw [hw];exact bS (HB.out) GB10.out:Below w.heap.size w w18));clear Ba Bc HB;revert n0_ n1_ n2_;intro Ba Bc HB;clear hg hw hp_));try go_wp2_with (first|((with_reducible refine gate_store (t:=4) (p:=33) rfl ?_);(try (rw [drewN_self wr];generalize hq_:World.drewN wr _=wr;have n0_:=Am (Kd.R_at hq_ Ba.out);have n1_:=Am (blk_at hq_ Bc.out);have n2_:=Am (below_at hq_ HB.out);clear hq_ Ba Bc HB;revert n0_ n1_ n2_;intro Ba Bc HB;(try (have HX14:=Am (show Kd.R k40 40 wr w.heap.size (fun _=>True) (.slice (some ⟨go10,0,none⟩) x339000_1.length co13) x339000_1 from (rL Ba.out))));(try (obtain ⟨ce14,hcl14,hM14,hcc14,hfr14⟩:=Kd.R_elem HX14.out z40 (x5_1:Int) (of_decide_eq_true (by first|(with_reducible assumption)|assumption)) (by have h_:(x5_1:Int)<((x339000_1.length:Int):Int):=of_decide_eq_true (by first|(with_reducible assumption)|assumption);first|exact h_|(have e_:=(Kd.R_reads' Ba.out).1;omega)|simpa using h_)));(try (obtain rfl:=k40_openM hM14));(try (have HP14:=Kd.R_seg HX14.out (x5_1:Int) (of_decide_eq_true (by first|(with_reducible assumption)|assumption)) (by have h_:(x5_1:Int)<((x339000_1.length:Int):Int):=of_decide_eq_true (by first|(with_reducible assumption)|assumption);first|exact h_|(have e_:=(Kd.R_reads' Ba.out).1;omega)|simpa using h_) (seg:=[.bool true]) (j:=3) hcl14 hcc14 (show 4≤4 from by decide) (x':=(⟨(rd_T40 x339000_1 x5_1).f0,(rd_T40 x339000_1 x5_1).f1,(rd_T40 x339000_1 x5_1).f2,true⟩:S40)) (k40_mkM _ _ _ (⟨(rd_T40 x339000_1 x5_1).f0,(rd_T40 x339000_1 x5_1).f1,(rd_T40 x339000_1 x5_1).f2,true⟩:S40) ) (fun _ hk=>hk)));(try (have hx14_3:=hcc14 3 _ rfl));(try (try simp only [show (k40).sz=4 from rfl,Nat.mul_one,Nat.add_zero] at hx14_3));(try (have hf14_3:=hfr14 3));(try (try simp only [show (k40).sz=4 from rfl,Nat.mul_one,Nat.add_zero] at hf14_3));(try (clear hcl14 hcc14 hfr14 hM14))));refine store_event (t:=4) (p:=33) (v:=?vo_w15) (w1:=(wr.setCell ⟨go10,(x5_1:Int).toNat * 4 + 3,none⟩ (.bool true))) ?hg ?ho ?hn ?hr ?_;(case ho=>rfl);(case hg=>rfl);(case hn=>rfl);(case hr=>first|(go_simp;done)|(go_simp;rfl));intro w15 hw;have hg:wr.grownBy w15 (some go10):=(by rw [hw];exact HP14.2);have hp_:Kd.R k40 40 w15 w.heap.size (fun _=>True) (.slice (some ⟨go10,0,none⟩) x339000_1.length co13) y339:=(by rw [hw,Ny339.out];exact HP14.1);clear HP14;have n0_:=Am (hp_);have n1_:=Am (blk_grown (g:=Bg) (o:=.cells #[.slice (some ⟨go10,0,none⟩) x339000_1.length co13,.int .i64 t336] 25 (0,0)) (bL Bc.out) hg (Kd.R_ne Ba.out Bc.out (by decide)));have n2_:=Am ((by rw [hw];exact bS (HB.out) GB10.out:Below w.heap.size w w15));clear Ba Bc HB;revert n0_ n1_ n2_;intro Ba Bc HB;clear hg hw hp_;have BD:w15.cell? ⟨Bg,0,none⟩=some (.slice (some ⟨go10,0,none⟩) x339000_1.length co13):=(bC Bc.out 0).trans rfl;have BE:w15.cell? ⟨Bg,1,none⟩=some (.int .i64 t336):=(bC Bc.out 1).trans rfl;have BF:=bF Bc.out 0;have BG:=bF Bc.out 1;have p11:0≤(x5_1:Int):=of_decide_eq_true (by first|(with_reducible assumption)|assumption);have q11:(x5_1:Int)<((x339000_1.length:Int):Int):=of_decide_eq_true (by first|(with_reducible assumption)|assumption);obtain ⟨ce11,hcl11,hM11,hcc11,hfr11⟩:=Kd.R_elem Ba.out z40 (x5_1:Int) p11 q11;obtain rfl:=k40_openM hM11;have hx11_0:w15.cell? ⟨go10,(x5_1:Int).toNat * 4,none⟩=some (.int .i64 ((rd_T40 y339 x5_1).f0)):=hcc11 0 _ rfl;have hx11_1:w15.cell? ⟨go10,(x5_1:Int).toNat * 4 + 1,none⟩=some (.int .i64 ((rd_T40 y339 x5_1).f1)):=hcc11 1 _ rfl;have hx11_2:w15.cell? ⟨go10,(x5_1:Int).toNat * 4 + 2,none⟩=some (.int .i64 ((rd_T40 y339 x5_1).f2)):=hcc11 2 _ rfl;have hx11_3:w15.cell? ⟨go10,(x5_1:Int).toNat * 4 + 3,none⟩=some (.bool ((rd_T40 y339 x5_1).f3)):=hcc11 3 _ rfl;have hf11_0:w15.frozen? ⟨go10,(x5_1:Int).toNat * 4,none⟩=false:=hfr11 0;have hf11_1:w15.frozen? ⟨go10,(x5_1:Int).toNat * 4 + 1,none⟩=false:=hfr11 1;have hf11_2:w15.frozen? ⟨go10,(x5_1:Int).toNat * 4 + 2,none⟩=false:=hfr11 2;have hf11_3:w15.frozen? ⟨go10,(x5_1:Int).toNat * 4 + 3,none⟩=false:=hfr11 3;clear hcl11 hcc11 hfr11 hM11;replace p11:=eq_true p11;replace q11:=eq_true q11;have HX17:=Am (show Kd.R k40 40 w15 w.heap.size (fun _=>True) (.slice (some ⟨go10,0,none⟩) x339000_1.length co13) y339 from (rL Ba.out));obtain ⟨ce17,hcl17,hM17,hcc17,hfr17⟩:=Kd.R_elem HX17.out z40 (x5_1:Int) (of_decide_eq_true (by first|(with_reducible assumption)|assumption)) (by have h_:(x5_1:Int)<((x339000_1.length:Int):Int):=of_decide_eq_true (by first|(with_reducible assumption)|assumption);first|exact h_|(have e_:=(Kd.R_reads' Ba.out).1;omega)|simpa using h_);obtain rfl:=k40_openM hM17;have HP17:=Kd.R_seg HX17.out (x5_1:Int) (of_decide_eq_true (by first|(with_reducible assumption)|assumption)) (by have h_:(x5_1:Int)<((x339000_1.length:Int):Int):=of_decide_eq_true (by first|(with_reducible assumption)|assumption);first|exact h_|(have e_:=(Kd.R_reads' Ba.out).1;omega)|simpa using h_) (seg:=[.int .i64 t336]) (j:=2) hcl17 hcc17 (show 3≤4 from by decide) (x':=(⟨(rd_T40 y339 x5_1).f0,(rd_T40 y339 x5_1).f1,t336,(rd_T40 y339 x5_1).f3⟩:S40)) (k40_mkM _ _ _ (⟨(rd_T40 y339 x5_1).f0,(rd_T40 y339 x5_1).f1,t336,(rd_T40 y339 x5_1).f3⟩:S40) ) (fun _ hk=>hk);have hx17_2:=hcc17 2 _ rfl;(try simp only [show (k40).sz=4 from rfl,Nat.mul_one,Nat.add_zero] at hx17_2);have hf17_2:=hfr17 2;(try simp only [show (k40).sz=4 from rfl,Nat.mul_one,Nat.add_zero] at hf17_2);clear hcl17 hcc17 hfr17 hM17)|((with_reducible refine gate_store (t:=3) (p:=40) rfl ?_);(try (rw [drewN_self w15];generalize hq_:World.drewN w15 _=w15;have n0_:=Am (Kd.R_at hq_ Ba.out);have n1_:=Am (blk_at hq_ Bc.out);have n2_:=Am (below_at hq_ HB.out);clear hq_ Ba Bc HB;revert n0_ n1_ n2_;intro Ba Bc HB;(try (have HX17:=Am (show Kd.R k40 40 w15 w.heap.size (fun _=>True) (.slice (some ⟨go10,0,none⟩) x339000_1.length co13) y339 from (rL Ba.out))));(try (obtain ⟨ce17,hcl17,hM17,hcc17,hfr17⟩:=Kd.R_elem HX17.out z40 (x5_1:Int) (of_decide_eq_true (by first|(with_reducible assumption)|assumption)) (by have h_:(x5_1:Int)<((x339000_1.length:Int):Int):=of_decide_eq_true (by first|(with_reducible assumption)|assumption);first|exact h_|(have e_:=(Kd.R_reads' Ba.out).1;omega)|simpa using h_)));(try (obtain rfl:=k40_openM hM17));(try (have HP17:=Kd.R_seg HX17.out (x5_1:Int) (of_decide_eq_true (by first|(with_reducible assumption)|assumption)) (by have h_:(x5_1:Int)<((x339000_1.length:Int):Int):=of_decide_eq_true (by first|(with_reducible assumption)|assumption);first|exact h_|(have e_:=(Kd.R_reads' Ba.out).1;omega)|simpa using h_) (seg:=[.int .i64 t336]) (j:=2) hcl17 hcc17 (show 3≤4 from by decide) (x':=(⟨(rd_T40 y339 x5_1).f0,(rd_T40 y339 x5_1).f1,t336,(rd_T40 y339 x5_1).f3⟩:S40)) (k40_mkM _ _ _ (⟨(rd_T40 y339 x5_1).f0,(rd_T40 y339 x5_1).f1,t336,(rd_T40 y339 x5_1).f3⟩:S40) ) (fun _ hk=>hk)));(try (have hx17_2:=hcc17 2 _ rfl));(try (try simp only [show (k40).sz=4 from rfl,Nat.mul_one,Nat.add_zero] at hx17_2));(try (have hf17_2:=hfr17 2));(try (try simp only [show (k40).sz=4 from rfl,Nat.mul_one,Nat.add_zero] at hf17_2));(try (clear hcl17 hcc17 hfr17 hM17))));refine store_event (t:=3) (p:=40) (v:=?vo_w18) (w1:=(w15.setCell ⟨go10,(x5_1:Int).toNat * 4 + 2,none⟩ (.int .i64 t336))) ?hg ?ho ?hn ?hr ?_;(case ho=>rfl);(case hg=>rfl);(case hn=>rfl);(case hr=>first|(go_simp;done)|(go_simp;rfl));intro w18 hw;have hg:w15.grownBy w18 (some go10):=(by rw [hw];exact HP17.2);have hp_:Kd.R k40 40 w18 w.heap.size (fun _=>True) (.slice (some ⟨go10,0,none⟩) x339000_1.length co13) y340:=(by rw [hw,Ny340.out];exact HP17.1);clear HP17;have n0_:=Am (hp_);have n1_:=Am (blk_grown (g:=Bg) (o:=.cells #[.slice (some ⟨go10,0,none⟩) x339000_1.length co13,.int .i64 t336] 25 (0,0)) (bL Bc.out) hg (Kd.R_ne Ba.out Bc.out (by decide)));have n2_:=Am ((by rw [hw];exact bS (HB.out) GB10.out:Below w.heap.size w w18));clear Ba Bc HB;revert n0_ n1_ n2_;intro Ba Bc HB;clear hg hw hp_)))
    go_roundg k1
    case measure=>have:=HK1.out;omega
    case rel=>exact ⟨(wrap64 (x5_1 + 1)),(y340),(.slice (some ⟨go10,0,none⟩) x339000_1.length co13),(by first|rfl|(simp;done)|(simp [*];done)),H',⟨by have:=HK1.out;omega⟩,⟨by (with_reducible repeat (first|apply rA|apply rN|apply rD));exact Ba.out⟩,⟨by (with_reducible repeat (first|refine bN ?_ _|refine bD ?_|refine bA ?_ _));exact Bc.out⟩,⟨by repeat (first|(with_reducible first|exact HB.out|apply oA|apply pN|apply o1|refine bS ?_ Bj.out)|exact HB.out)⟩⟩
   rw [if_neg c8] at H
   have c8b0:decide (x5_1<(x339000_1.length:Int))=false:=decide_eq_false c8
   clear c8
   replace H:=oC H
   obtain ⟨⟨t341,t344,t345,t348⟩,A190,H⟩:=H
   replace H:((spec_QueueRun.f k1 x339000_1 t336 t337).bind fun bt350=>(if (t348 != bt350.2.2.2)=true then (laws_FnShareFair.j1 k1 t345 t348 bt350.2.2.1 bt350.2.2.2 true t341 t344 bt350.1 bt350.2.1) else ((laws_qdInts.f k1 t345 bt350.2.2.1).bind fun t359=>(if t359=true then ((laws_qdQueue.f k1 t341 t344 bt350.1 bt350.2.1).bind fun t360=>(if t360=true then (laws_FnShareFair.j1 k1 t345 t348 bt350.2.2.1 bt350.2.2.2 (!t348) t341 t344 bt350.1 bt350.2.1) else (laws_FnShareFair.j1 k1 t345 t348 bt350.2.2.1 bt350.2.2.2 true t341 t344 bt350.1 bt350.2.1))) else (laws_FnShareFair.j1 k1 t345 t348 bt350.2.2.1 bt350.2.2.2 true t341 t344 bt350.1 bt350.2.1)))))=some r:=H
   have A19:=Am A190
   clear A190
   replace H:=oC H
   obtain ⟨⟨t350,t353,t354,t357⟩,A200,H⟩:=H
   replace H:(if (t348 != t357)=true then (laws_FnShareFair.j1 k1 t345 t348 t354 t357 true t341 t344 t350 t353) else ((laws_qdInts.f k1 t345 t354).bind fun t359=>(if t359=true then ((laws_qdQueue.f k1 t341 t344 t350 t353).bind fun t360=>(if t360=true then (laws_FnShareFair.j1 k1 t345 t348 t354 t357 (!t348) t341 t344 t350 t353) else (laws_FnShareFair.j1 k1 t345 t348 t354 t357 true t341 t344 t350 t353))) else (laws_FnShareFair.j1 k1 t345 t348 t354 t357 true t341 t344 t350 t353))))=some r:=H
   have A20:=Am A200
   clear A200
   have HC21:=Am H
   clear H
   have Dl:wr.cell? ⟨Bg,0,none⟩=some (u339000):=(bC Bc.out 0).trans rfl
   have Dm:wr.cell? ⟨Bg,1,none⟩=some (.int .i64 t336):=(bC Bc.out 1).trans rfl
   have Dn:=bF Bc.out 0
   have Do:=bF Bc.out 1
   obtain ⟨Ao23,co23,eo23⟩:=Kd.R_slice Ba.out
   subst eo23
   go_upto_region 11 with (first|(go_at_call 19;(with_reducible refine (impl_QueueRun.calls k1 _ _ x339000_1 t336 t337 t341 t344 t345 t348 _ ?side1 ?side2 A19.out).mono ?_);(case side1=>repeat (first|exact (Kd.R_reads' Ba.out).2.2|(with_reducible refine cA ?_ _)|(with_reducible refine cN ?_ _)|(with_reducible refine cD ?_)));(case side2=>exact (Kd.R_reads' Ba.out).2.1);rintro e w24 ⟨v342,v346,rfl,ho0,ho1,hb⟩;have n0_:=Am (Kd.R_elder' (rL Ba.out) (Kd.R_base ho0) hb);have n1_:=Am (Kd.R_lower (Kd.R_new' ho0 (Kd.R_lt (rL Ba.out))) (bZ (by repeat (first|(with_reducible first|exact HB.out|apply oA|apply pN|apply o1|refine bS ?_ Bj.out)|exact HB.out))));have n2_:=Am (Kd.R_lower ho1 (bZ (by repeat (first|(with_reducible first|exact HB.out|apply oA|apply pN|apply o1|refine bS ?_ Bj.out)|exact HB.out))));have n3_:=Am (bB (g:=Bg) (o:=.cells #[.slice Ao23 x339000_1.length co23,.int .i64 t336] 25 (0,0)) (bL Bc.out) hb);have n4_:=Am (bP (by repeat (first|(with_reducible first|exact HB.out|apply oA|apply pN|apply o1|refine bS ?_ Bj.out)|exact HB.out)) hb);clear Ba Bc HB;revert n0_ n1_ n2_ n3_ n4_;intro Ba Bi Bh Bc HB;(try clear hb);(try clear hb2);(try clear hk);(try clear hi);(try clear ho0);(try clear ho1))|((with_reducible refine gate_dst (N:=6) rfl ?_);refine box_event ?hg (N:=6) ?hd (cs:=#[.slice none 0 0,.int .i64 0]) (t:=25) ?hr ?_;(case hd=>rfl);(case hg=>rfl);(case hr=>first|(go_simp;done)|(go_simp;rfl));intro Bf hg w25 hbox hb;have n0_:=Am (rB (rL Ba.out) hb);have n1_:=Am (rB (rL Bi.out) hb);have n2_:=Am (rB (rL Bh.out) hb);have n3_:=Am (bB (g:=Bg) (o:=.cells #[.slice Ao23 x339000_1.length co23,.int .i64 t336] 25 (0,0)) (bL Bc.out) hb);have n4_:=Am (bP (by repeat (first|(with_reducible first|exact HB.out|apply oA|apply pN|apply o1|refine bS ?_ Bj.out)|exact HB.out)) hb);have n5_:=Am (hbox);have n6_:=Am ((by rw [hg];exact (bZ (by repeat (first|(with_reducible first|exact HB.out|apply oA|apply pN|apply o1|refine bS ?_ Bj.out)|exact HB.out))):w.heap.size≤Bf));have n7_:=Am ((by rw [hg];exact (bZ (by repeat (first|(with_reducible first|exact HB.out|apply oA|apply pN|apply o1|refine bS ?_ Bj.out)|exact HB.out))):w.heap.size≤Bf));have n8_:=Am ((by rw [hg];exact Nat.ne_of_lt (blk_lt (g:=Bg) (o:=.cells #[.slice Ao23 x339000_1.length co23,.int .i64 t336] 25 (0,0)) (bL Bc.out)):Bg≠Bf));have n9_:=Am ((by rw [hg];exact Nat.ne_of_gt (blk_lt (g:=Bg) (o:=.cells #[.slice Ao23 x339000_1.length co23,.int .i64 t336] 25 (0,0)) (bL Bc.out)):Bf≠Bg));clear Ba Bi Bh Bc HB;revert n0_ n1_ n2_ n3_ n4_ n5_ n6_ n7_ n8_ n9_;intro Ba Bi Bh Bc HB Be Dr Bp Bq Bs;clear hb hbox hg;obtain ⟨Ao26,co26,eo26⟩:=Kd.R_slice Bi.out;subst eo26;have Ds:=Bs.out;have Dt:=Bq.out;have BH:w25.cell? ⟨Bf,0,none⟩=some (.slice none 0 0):=(bC Be.out 0).trans rfl;have BI:w25.cell? ⟨Bf,1,none⟩=some (.int .i64 0):=(bC Be.out 1).trans rfl;have BJ:=bF Be.out 0;have BK:=bF Be.out 1;have BL:w25.cell? ⟨Bg,0,none⟩=some (.slice Ao23 x339000_1.length co23):=(bC Bc.out 0).trans rfl;have BM:w25.cell? ⟨Bg,1,none⟩=some (.int .i64 t336):=(bC Bc.out 1).trans rfl;have BN:=bF Bc.out 0;have BO:=bF Bc.out 1)|(go_at_call 31;(with_reducible refine (spec_QueueRun.calls k1 _ _ x339000_1 t336 t337 t350 t353 t354 t357 _ ?side1 ?side2 A20.out).mono ?_);(case side1=>refine (Kd.R_reads' (e:=40) (base:=w.heap.size) (ok:=fun k_=>(True∧some k_≠(.slice Ao26 t341.length co26:Value).ownBlock)) (n:=x339000_1.length) (c:=co23) ?_).2.2;exact (by (with_reducible repeat (first|apply rA|apply rN|apply rD));exact (rM (rF (p:=⟨Bf,1,none⟩) (rF (p:=⟨Bf,0,none⟩) (rT Ba.out Be.out (by decide)) (fun _ hk=>hk.2) (.slice Ao26 t341.length co26)) (fun _ hk=>hk.2) (.int .i64 t344)) (fun _ h_=>h_.1))));(case side2=>exact (Kd.R_reads' Ba.out).2.1);rintro e w30 ⟨v351,v355,rfl,ho0,ho1,hb⟩;have n0_:=Am (Kd.R_elder' (by (with_reducible repeat (first|apply rA|apply rN|apply rD));exact (rM (rF (p:=⟨Bf,1,none⟩) (rF (p:=⟨Bf,0,none⟩) (rT Ba.out Be.out (by decide)) (fun _ hk=>hk.2) (.slice Ao26 t341.length co26)) (fun _ hk=>hk.2) (.int .i64 t344)) (fun _ h_=>h_.1))) (Kd.R_base ho0) hb);have n1_:=Am (Kd.R_elder' (by (with_reducible repeat (first|apply rA|apply rN|apply rD));exact (rM (rF (p:=⟨Bf,1,none⟩) (rF (p:=⟨Bf,0,none⟩) (rT Bi.out Be.out (by decide)) (fun _ hk=>hk.2) (.slice Ao26 t341.length co26)) (fun _ hk=>hk.2) (.int .i64 t344)) (fun _ h_=>h_.1))) (Kd.R_base ho0) hb);have n2_:=Am (Kd.R_elder' (by (with_reducible repeat (first|apply rA|apply rN|apply rD));exact (rM (rF (p:=⟨Bf,1,none⟩) (rF (p:=⟨Bf,0,none⟩) (rT Bh.out Be.out (by decide)) (fun _ hk=>hk.2) (.slice Ao26 t341.length co26)) (fun _ hk=>hk.2) (.int .i64 t344)) (fun _ h_=>h_.1))) (Kd.R_base ho1) hb);have n3_:=Am (Kd.R_lower (Kd.R_new' (Kd.R_new' ho0 (Kd.R_lt (by (with_reducible repeat (first|apply rA|apply rN|apply rD));exact (rM (rF (p:=⟨Bf,1,none⟩) (rF (p:=⟨Bf,0,none⟩) (rT Ba.out Be.out (by decide)) (fun _ hk=>hk.2) (.slice Ao26 t341.length co26)) (fun _ hk=>hk.2) (.int .i64 t344)) (fun _ h_=>h_.1))))) (Kd.R_lt (by (with_reducible repeat (first|apply rA|apply rN|apply rD));exact (rM (rF (p:=⟨Bf,1,none⟩) (rF (p:=⟨Bf,0,none⟩) (rT Bi.out Be.out (by decide)) (fun _ hk=>hk.2) (.slice Ao26 t341.length co26)) (fun _ hk=>hk.2) (.int .i64 t344)) (fun _ h_=>h_.1))))) (bZ (by repeat (first|(with_reducible first|exact HB.out|apply oA|apply pN|apply o1|refine bS ?_ Bj.out|refine bS ?_ Bp.out)|exact HB.out))));have n4_:=Am (Kd.R_lower (Kd.R_new' ho1 (Kd.R_lt (by (with_reducible repeat (first|apply rA|apply rN|apply rD));exact (rM (rF (p:=⟨Bf,1,none⟩) (rF (p:=⟨Bf,0,none⟩) (rT Bh.out Be.out (by decide)) (fun _ hk=>hk.2) (.slice Ao26 t341.length co26)) (fun _ hk=>hk.2) (.int .i64 t344)) (fun _ h_=>h_.1))))) (bZ (by repeat (first|(with_reducible first|exact HB.out|apply oA|apply pN|apply o1|refine bS ?_ Bj.out|refine bS ?_ Bp.out)|exact HB.out))));have n5_:=Am (bB (g:=Bg) (o:=.cells #[.slice Ao23 x339000_1.length co23,.int .i64 t336] 25 (0,0)) (by (with_reducible repeat (first|refine bN ?_ _|refine bD ?_|refine bA ?_ _|refine blk_far ?_ Bq.out _));exact Bc.out) hb);have n6_:=Am (bB (g:=Bf) (o:=.cells #[.slice Ao26 t341.length co26,.int .i64 t344] 25 (0,0)) (by (with_reducible repeat (first|refine bN ?_ _|refine bD ?_|refine bA ?_ _));refine blk_put (cs:=#[.slice Ao26 t341.length co26,.int .i64 0]) ?_ 1 _ rfl;(with_reducible repeat (first|refine bN ?_ _|refine bD ?_|refine bA ?_ _));refine blk_put (cs:=#[.slice none 0 0,.int .i64 0]) ?_ 0 _ rfl;(with_reducible repeat (first|refine bN ?_ _|refine bD ?_|refine bA ?_ _));exact Be.out) hb);have n7_:=Am (bP (by repeat (first|(with_reducible first|exact HB.out|apply oA|apply pN|apply o1|refine bS ?_ Bj.out|refine bS ?_ Bp.out)|exact HB.out)) hb);clear Ba Bi Bh Bc Be HB;revert n0_ n1_ n2_ n3_ n4_ n5_ n6_ n7_;intro Ba Bi Bh Bl Bk Bc Be HB;(try clear hb);(try clear hb2);(try clear hk);(try clear hi);(try clear ho0);(try clear ho1))|((with_reducible refine gate_dst (N:=9) rfl ?_);refine box_event ?hg (N:=9) ?hd (cs:=#[.slice none 0 0,.int .i64 0]) (t:=25) ?hr ?_;(case hd=>rfl);(case hg=>rfl);(case hr=>first|(go_simp;done)|(go_simp;rfl));intro Bb hg w31 hbox hb;have n0_:=Am (rB (rL Ba.out) hb);have n1_:=Am (rB (rL Bi.out) hb);have n2_:=Am (rB (rL Bh.out) hb);have n3_:=Am (rB (rL Bl.out) hb);have n4_:=Am (rB (rL Bk.out) hb);have n5_:=Am (bB (g:=Bg) (o:=.cells #[.slice Ao23 x339000_1.length co23,.int .i64 t336] 25 (0,0)) (bL Bc.out) hb);have n6_:=Am (bB (g:=Bf) (o:=.cells #[.slice Ao26 t341.length co26,.int .i64 t344] 25 (0,0)) (bL Be.out) hb);have n7_:=Am (bP (by repeat (first|(with_reducible first|exact HB.out|apply oA|apply pN|apply o1|refine bS ?_ Bj.out|refine bS ?_ Bp.out)|exact HB.out)) hb);have n8_:=Am (hbox);have n9_:=Am ((by rw [hg];exact (bZ (by repeat (first|(with_reducible first|exact HB.out|apply oA|apply pN|apply o1|refine bS ?_ Bj.out|refine bS ?_ Bp.out)|exact HB.out))):w.heap.size≤Bb));have n10_:=Am ((by rw [hg];exact (bZ (by repeat (first|(with_reducible first|exact HB.out|apply oA|apply pN|apply o1|refine bS ?_ Bj.out|refine bS ?_ Bp.out)|exact HB.out))):w.heap.size≤Bb));have n11_:=Am ((by rw [hg];exact Nat.ne_of_lt (blk_lt (g:=Bg) (o:=.cells #[.slice Ao23 x339000_1.length co23,.int .i64 t336] 25 (0,0)) (bL Bc.out)):Bg≠Bb));have n12_:=Am ((by rw [hg];exact Nat.ne_of_gt (blk_lt (g:=Bg) (o:=.cells #[.slice Ao23 x339000_1.length co23,.int .i64 t336] 25 (0,0)) (bL Bc.out)):Bb≠Bg));have n13_:=Am ((by rw [hg];exact Nat.ne_of_lt (blk_lt (g:=Bf) (o:=.cells #[.slice Ao26 t341.length co26,.int .i64 t344] 25 (0,0)) (bL Be.out)):Bf≠Bb));have n14_:=Am ((by rw [hg];exact Nat.ne_of_gt (blk_lt (g:=Bf) (o:=.cells #[.slice Ao26 t341.length co26,.int .i64 t344] 25 (0,0)) (bL Be.out)):Bb≠Bf));clear Ba Bi Bh Bl Bk Bc Be HB;revert n0_ n1_ n2_ n3_ n4_ n5_ n6_ n7_ n8_ n9_ n10_ n11_ n12_ n13_ n14_;intro Ba Bi Bh Bl Bk Bc Be HB Bd Du Bv Bo Bu Bm Bt;clear hb hbox hg;obtain ⟨Ao32,co32,eo32⟩:=Kd.R_slice Bl.out;subst eo32;have Dv:=Bu.out;have Dw:=Bo.out;have Dx:=Bt.out;have Dy:=Bm.out;have BP:w31.cell? ⟨Bb,0,none⟩=some (.slice none 0 0):=(bC Bd.out 0).trans rfl;have BQ:w31.cell? ⟨Bb,1,none⟩=some (.int .i64 0):=(bC Bd.out 1).trans rfl;have BR:=bF Bd.out 0;have BS:=bF Bd.out 1))
   repeat (go_quiet (first|(go_at_call 19;(with_reducible refine (impl_QueueRun.calls k1 _ _ x339000_1 t336 t337 t341 t344 t345 t348 _ ?side1 ?side2 A19.out).mono ?_);(case side1=>repeat (first|exact (Kd.R_reads' Ba.out).2.2|(with_reducible refine cA ?_ _)|(with_reducible refine cN ?_ _)|(with_reducible refine cD ?_)));(case side2=>exact (Kd.R_reads' Ba.out).2.1);rintro e w24 ⟨v342,v346,rfl,ho0,ho1,hb⟩;have n0_:=Am (Kd.R_elder' (rL Ba.out) (Kd.R_base ho0) hb);have n1_:=Am (Kd.R_lower (Kd.R_new' ho0 (Kd.R_lt (rL Ba.out))) (bZ (by repeat (first|(with_reducible first|exact HB.out|apply oA|apply pN|apply o1|refine bS ?_ Bj.out)|exact HB.out))));have n2_:=Am (Kd.R_lower ho1 (bZ (by repeat (first|(with_reducible first|exact HB.out|apply oA|apply pN|apply o1|refine bS ?_ Bj.out)|exact HB.out))));have n3_:=Am (bB (g:=Bg) (o:=.cells #[.slice Ao23 x339000_1.length co23,.int .i64 t336] 25 (0,0)) (bL Bc.out) hb);have n4_:=Am (bP (by repeat (first|(with_reducible first|exact HB.out|apply oA|apply pN|apply o1|refine bS ?_ Bj.out)|exact HB.out)) hb);clear Ba Bc HB;revert n0_ n1_ n2_ n3_ n4_;intro Ba Bi Bh Bc HB;(try clear hb);(try clear hb2);(try clear hk);(try clear hi);(try clear ho0);(try clear ho1))|((with_reducible refine gate_dst (N:=6) rfl ?_);refine box_event ?hg (N:=6) ?hd (cs:=#[.slice none 0 0,.int .i64 0]) (t:=25) ?hr ?_;(case hd=>rfl);(case hg=>rfl);(case hr=>first|(go_simp;done)|(go_simp;rfl));intro Bf hg w25 hbox hb;have n0_:=Am (rB (rL Ba.out) hb);have n1_:=Am (rB (rL Bi.out) hb);have n2_:=Am (rB (rL Bh.out) hb);have n3_:=Am (bB (g:=Bg) (o:=.cells #[.slice Ao23 x339000_1.length co23,.int .i64 t336] 25 (0,0)) (bL Bc.out) hb);have n4_:=Am (bP (by repeat (first|(with_reducible first|exact HB.out|apply oA|apply pN|apply o1|refine bS ?_ Bj.out)|exact HB.out)) hb);have n5_:=Am (hbox);have n6_:=Am ((by rw [hg];exact (bZ (by repeat (first|(with_reducible first|exact HB.out|apply oA|apply pN|apply o1|refine bS ?_ Bj.out)|exact HB.out))):w.heap.size≤Bf));have n7_:=Am ((by rw [hg];exact (bZ (by repeat (first|(with_reducible first|exact HB.out|apply oA|apply pN|apply o1|refine bS ?_ Bj.out)|exact HB.out))):w.heap.size≤Bf));have n8_:=Am ((by rw [hg];exact Nat.ne_of_lt (blk_lt (g:=Bg) (o:=.cells #[.slice Ao23 x339000_1.length co23,.int .i64 t336] 25 (0,0)) (bL Bc.out)):Bg≠Bf));have n9_:=Am ((by rw [hg];exact Nat.ne_of_gt (blk_lt (g:=Bg) (o:=.cells #[.slice Ao23 x339000_1.length co23,.int .i64 t336] 25 (0,0)) (bL Bc.out)):Bf≠Bg));clear Ba Bi Bh Bc HB;revert n0_ n1_ n2_ n3_ n4_ n5_ n6_ n7_ n8_ n9_;intro Ba Bi Bh Bc HB Be Dr Bp Bq Bs;clear hb hbox hg;obtain ⟨Ao26,co26,eo26⟩:=Kd.R_slice Bi.out;subst eo26;have Ds:=Bs.out;have Dt:=Bq.out;have BH:w25.cell? ⟨Bf,0,none⟩=some (.slice none 0 0):=(bC Be.out 0).trans rfl;have BI:w25.cell? ⟨Bf,1,none⟩=some (.int .i64 0):=(bC Be.out 1).trans rfl;have BJ:=bF Be.out 0;have BK:=bF Be.out 1;have BL:w25.cell? ⟨Bg,0,none⟩=some (.slice Ao23 x339000_1.length co23):=(bC Bc.out 0).trans rfl;have BM:w25.cell? ⟨Bg,1,none⟩=some (.int .i64 t336):=(bC Bc.out 1).trans rfl;have BN:=bF Bc.out 0;have BO:=bF Bc.out 1)|(go_at_call 31;(with_reducible refine (spec_QueueRun.calls k1 _ _ x339000_1 t336 t337 t350 t353 t354 t357 _ ?side1 ?side2 A20.out).mono ?_);(case side1=>refine (Kd.R_reads' (e:=40) (base:=w.heap.size) (ok:=fun k_=>(True∧some k_≠(.slice Ao26 t341.length co26:Value).ownBlock)) (n:=x339000_1.length) (c:=co23) ?_).2.2;exact (by (with_reducible repeat (first|apply rA|apply rN|apply rD));exact (rM (rF (p:=⟨Bf,1,none⟩) (rF (p:=⟨Bf,0,none⟩) (rT Ba.out Be.out (by decide)) (fun _ hk=>hk.2) (.slice Ao26 t341.length co26)) (fun _ hk=>hk.2) (.int .i64 t344)) (fun _ h_=>h_.1))));(case side2=>exact (Kd.R_reads' Ba.out).2.1);rintro e w30 ⟨v351,v355,rfl,ho0,ho1,hb⟩;have n0_:=Am (Kd.R_elder' (by (with_reducible repeat (first|apply rA|apply rN|apply rD));exact (rM (rF (p:=⟨Bf,1,none⟩) (rF (p:=⟨Bf,0,none⟩) (rT Ba.out Be.out (by decide)) (fun _ hk=>hk.2) (.slice Ao26 t341.length co26)) (fun _ hk=>hk.2) (.int .i64 t344)) (fun _ h_=>h_.1))) (Kd.R_base ho0) hb);have n1_:=Am (Kd.R_elder' (by (with_reducible repeat (first|apply rA|apply rN|apply rD));exact (rM (rF (p:=⟨Bf,1,none⟩) (rF (p:=⟨Bf,0,none⟩) (rT Bi.out Be.out (by decide)) (fun _ hk=>hk.2) (.slice Ao26 t341.length co26)) (fun _ hk=>hk.2) (.int .i64 t344)) (fun _ h_=>h_.1))) (Kd.R_base ho0) hb);have n2_:=Am (Kd.R_elder' (by (with_reducible repeat (first|apply rA|apply rN|apply rD));exact (rM (rF (p:=⟨Bf,1,none⟩) (rF (p:=⟨Bf,0,none⟩) (rT Bh.out Be.out (by decide)) (fun _ hk=>hk.2) (.slice Ao26 t341.length co26)) (fun _ hk=>hk.2) (.int .i64 t344)) (fun _ h_=>h_.1))) (Kd.R_base ho1) hb);have n3_:=Am (Kd.R_lower (Kd.R_new' (Kd.R_new' ho0 (Kd.R_lt (by (with_reducible repeat (first|apply rA|apply rN|apply rD));exact (rM (rF (p:=⟨Bf,1,none⟩) (rF (p:=⟨Bf,0,none⟩) (rT Ba.out Be.out (by decide)) (fun _ hk=>hk.2) (.slice Ao26 t341.length co26)) (fun _ hk=>hk.2) (.int .i64 t344)) (fun _ h_=>h_.1))))) (Kd.R_lt (by (with_reducible repeat (first|apply rA|apply rN|apply rD));exact (rM (rF (p:=⟨Bf,1,none⟩) (rF (p:=⟨Bf,0,none⟩) (rT Bi.out Be.out (by decide)) (fun _ hk=>hk.2) (.slice Ao26 t341.length co26)) (fun _ hk=>hk.2) (.int .i64 t344)) (fun _ h_=>h_.1))))) (bZ (by repeat (first|(with_reducible first|exact HB.out|apply oA|apply pN|apply o1|refine bS ?_ Bj.out|refine bS ?_ Bp.out)|exact HB.out))));have n4_:=Am (Kd.R_lower (Kd.R_new' ho1 (Kd.R_lt (by (with_reducible repeat (first|apply rA|apply rN|apply rD));exact (rM (rF (p:=⟨Bf,1,none⟩) (rF (p:=⟨Bf,0,none⟩) (rT Bh.out Be.out (by decide)) (fun _ hk=>hk.2) (.slice Ao26 t341.length co26)) (fun _ hk=>hk.2) (.int .i64 t344)) (fun _ h_=>h_.1))))) (bZ (by repeat (first|(with_reducible first|exact HB.out|apply oA|apply pN|apply o1|refine bS ?_ Bj.out|refine bS ?_ Bp.out)|exact HB.out))));have n5_:=Am (bB (g:=Bg) (o:=.cells #[.slice Ao23 x339000_1.length co23,.int .i64 t336] 25 (0,0)) (by (with_reducible repeat (first|refine bN ?_ _|refine bD ?_|refine bA ?_ _|refine blk_far ?_ Bq.out _));exact Bc.out) hb);have n6_:=Am (bB (g:=Bf) (o:=.cells #[.slice Ao26 t341.length co26,.int .i64 t344] 25 (0,0)) (by (with_reducible repeat (first|refine bN ?_ _|refine bD ?_|refine bA ?_ _));refine blk_put (cs:=#[.slice Ao26 t341.length co26,.int .i64 0]) ?_ 1 _ rfl;(with_reducible repeat (first|refine bN ?_ _|refine bD ?_|refine bA ?_ _));refine blk_put (cs:=#[.slice none 0 0,.int .i64 0]) ?_ 0 _ rfl;(with_reducible repeat (first|refine bN ?_ _|refine bD ?_|refine bA ?_ _));exact Be.out) hb);have n7_:=Am (bP (by repeat (first|(with_reducible first|exact HB.out|apply oA|apply pN|apply o1|refine bS ?_ Bj.out|refine bS ?_ Bp.out)|exact HB.out)) hb);clear Ba Bi Bh Bc Be HB;revert n0_ n1_ n2_ n3_ n4_ n5_ n6_ n7_;intro Ba Bi Bh Bl Bk Bc Be HB;(try clear hb);(try clear hb2);(try clear hk);(try clear hi);(try clear ho0);(try clear ho1))|((with_reducible refine gate_dst (N:=9) rfl ?_);refine box_event ?hg (N:=9) ?hd (cs:=#[.slice none 0 0,.int .i64 0]) (t:=25) ?hr ?_;(case hd=>rfl);(case hg=>rfl);(case hr=>first|(go_simp;done)|(go_simp;rfl));intro Bb hg w31 hbox hb;have n0_:=Am (rB (rL Ba.out) hb);have n1_:=Am (rB (rL Bi.out) hb);have n2_:=Am (rB (rL Bh.out) hb);have n3_:=Am (rB (rL Bl.out) hb);have n4_:=Am (rB (rL Bk.out) hb);have n5_:=Am (bB (g:=Bg) (o:=.cells #[.slice Ao23 x339000_1.length co23,.int .i64 t336] 25 (0,0)) (bL Bc.out) hb);have n6_:=Am (bB (g:=Bf) (o:=.cells #[.slice Ao26 t341.length co26,.int .i64 t344] 25 (0,0)) (bL Be.out) hb);have n7_:=Am (bP (by repeat (first|(with_reducible first|exact HB.out|apply oA|apply pN|apply o1|refine bS ?_ Bj.out|refine bS ?_ Bp.out)|exact HB.out)) hb);have n8_:=Am (hbox);have n9_:=Am ((by rw [hg];exact (bZ (by repeat (first|(with_reducible first|exact HB.out|apply oA|apply pN|apply o1|refine bS ?_ Bj.out|refine bS ?_ Bp.out)|exact HB.out))):w.heap.size≤Bb));have n10_:=Am ((by rw [hg];exact (bZ (by repeat (first|(with_reducible first|exact HB.out|apply oA|apply pN|apply o1|refine bS ?_ Bj.out|refine bS ?_ Bp.out)|exact HB.out))):w.heap.size≤Bb));have n11_:=Am ((by rw [hg];exact Nat.ne_of_lt (blk_lt (g:=Bg) (o:=.cells #[.slice Ao23 x339000_1.length co23,.int .i64 t336] 25 (0,0)) (bL Bc.out)):Bg≠Bb));have n12_:=Am ((by rw [hg];exact Nat.ne_of_gt (blk_lt (g:=Bg) (o:=.cells #[.slice Ao23 x339000_1.length co23,.int .i64 t336] 25 (0,0)) (bL Bc.out)):Bb≠Bg));have n13_:=Am ((by rw [hg];exact Nat.ne_of_lt (blk_lt (g:=Bf) (o:=.cells #[.slice Ao26 t341.length co26,.int .i64 t344] 25 (0,0)) (bL Be.out)):Bf≠Bb));have n14_:=Am ((by rw [hg];exact Nat.ne_of_gt (blk_lt (g:=Bf) (o:=.cells #[.slice Ao26 t341.length co26,.int .i64 t344] 25 (0,0)) (bL Be.out)):Bb≠Bf));clear Ba Bi Bh Bl Bk Bc Be HB;revert n0_ n1_ n2_ n3_ n4_ n5_ n6_ n7_ n8_ n9_ n10_ n11_ n12_ n13_ n14_;intro Ba Bi Bh Bl Bk Bc Be HB Bd Du Bv Bo Bu Bm Bt;clear hb hbox hg;obtain ⟨Ao32,co32,eo32⟩:=Kd.R_slice Bl.out;subst eo32;have Dv:=Bu.out;have Dw:=Bo.out;have Dx:=Bt.out;have Dy:=Bm.out;have BP:w31.cell? ⟨Bb,0,none⟩=some (.slice none 0 0):=(bC Bd.out 0).trans rfl;have BQ:w31.cell? ⟨Bb,1,none⟩=some (.int .i64 0):=(bC Bd.out 1).trans rfl;have BR:=bF Bd.out 0;have BS:=bF Bd.out 1));go_upto_region 11 with (first|(go_at_call 19;(with_reducible refine (impl_QueueRun.calls k1 _ _ x339000_1 t336 t337 t341 t344 t345 t348 _ ?side1 ?side2 A19.out).mono ?_);(case side1=>repeat (first|exact (Kd.R_reads' Ba.out).2.2|(with_reducible refine cA ?_ _)|(with_reducible refine cN ?_ _)|(with_reducible refine cD ?_)));(case side2=>exact (Kd.R_reads' Ba.out).2.1);rintro e w24 ⟨v342,v346,rfl,ho0,ho1,hb⟩;have n0_:=Am (Kd.R_elder' (rL Ba.out) (Kd.R_base ho0) hb);have n1_:=Am (Kd.R_lower (Kd.R_new' ho0 (Kd.R_lt (rL Ba.out))) (bZ (by repeat (first|(with_reducible first|exact HB.out|apply oA|apply pN|apply o1|refine bS ?_ Bj.out)|exact HB.out))));have n2_:=Am (Kd.R_lower ho1 (bZ (by repeat (first|(with_reducible first|exact HB.out|apply oA|apply pN|apply o1|refine bS ?_ Bj.out)|exact HB.out))));have n3_:=Am (bB (g:=Bg) (o:=.cells #[.slice Ao23 x339000_1.length co23,.int .i64 t336] 25 (0,0)) (bL Bc.out) hb);have n4_:=Am (bP (by repeat (first|(with_reducible first|exact HB.out|apply oA|apply pN|apply o1|refine bS ?_ Bj.out)|exact HB.out)) hb);clear Ba Bc HB;revert n0_ n1_ n2_ n3_ n4_;intro Ba Bi Bh Bc HB;(try clear hb);(try clear hb2);(try clear hk);(try clear hi);(try clear ho0);(try clear ho1))|((with_reducible refine gate_dst (N:=6) rfl ?_);refine box_event ?hg (N:=6) ?hd (cs:=#[.slice none 0 0,.int .i64 0]) (t:=25) ?hr ?_;(case hd=>rfl);(case hg=>rfl);(case hr=>first|(go_simp;done)|(go_simp;rfl));intro Bf hg w25 hbox hb;have n0_:=Am (rB (rL Ba.out) hb);have n1_:=Am (rB (rL Bi.out) hb);have n2_:=Am (rB (rL Bh.out) hb);have n3_:=Am (bB (g:=Bg) (o:=.cells #[.slice Ao23 x339000_1.length co23,.int .i64 t336] 25 (0,0)) (bL Bc.out) hb);have n4_:=Am (bP (by repeat (first|(with_reducible first|exact HB.out|apply oA|apply pN|apply o1|refine bS ?_ Bj.out)|exact HB.out)) hb);have n5_:=Am (hbox);have n6_:=Am ((by rw [hg];exact (bZ (by repeat (first|(with_reducible first|exact HB.out|apply oA|apply pN|apply o1|refine bS ?_ Bj.out)|exact HB.out))):w.heap.size≤Bf));have n7_:=Am ((by rw [hg];exact (bZ (by repeat (first|(with_reducible first|exact HB.out|apply oA|apply pN|apply o1|refine bS ?_ Bj.out)|exact HB.out))):w.heap.size≤Bf));have n8_:=Am ((by rw [hg];exact Nat.ne_of_lt (blk_lt (g:=Bg) (o:=.cells #[.slice Ao23 x339000_1.length co23,.int .i64 t336] 25 (0,0)) (bL Bc.out)):Bg≠Bf));have n9_:=Am ((by rw [hg];exact Nat.ne_of_gt (blk_lt (g:=Bg) (o:=.cells #[.slice Ao23 x339000_1.length co23,.int .i64 t336] 25 (0,0)) (bL Bc.out)):Bf≠Bg));clear Ba Bi Bh Bc HB;revert n0_ n1_ n2_ n3_ n4_ n5_ n6_ n7_ n8_ n9_;intro Ba Bi Bh Bc HB Be Dr Bp Bq Bs;clear hb hbox hg;obtain ⟨Ao26,co26,eo26⟩:=Kd.R_slice Bi.out;subst eo26;have Ds:=Bs.out;have Dt:=Bq.out;have BH:w25.cell? ⟨Bf,0,none⟩=some (.slice none 0 0):=(bC Be.out 0).trans rfl;have BI:w25.cell? ⟨Bf,1,none⟩=some (.int .i64 0):=(bC Be.out 1).trans rfl;have BJ:=bF Be.out 0;have BK:=bF Be.out 1;have BL:w25.cell? ⟨Bg,0,none⟩=some (.slice Ao23 x339000_1.length co23):=(bC Bc.out 0).trans rfl;have BM:w25.cell? ⟨Bg,1,none⟩=some (.int .i64 t336):=(bC Bc.out 1).trans rfl;have BN:=bF Bc.out 0;have BO:=bF Bc.out 1)|(go_at_call 31;(with_reducible refine (spec_QueueRun.calls k1 _ _ x339000_1 t336 t337 t350 t353 t354 t357 _ ?side1 ?side2 A20.out).mono ?_);(case side1=>refine (Kd.R_reads' (e:=40) (base:=w.heap.size) (ok:=fun k_=>(True∧some k_≠(.slice Ao26 t341.length co26:Value).ownBlock)) (n:=x339000_1.length) (c:=co23) ?_).2.2;exact (by (with_reducible repeat (first|apply rA|apply rN|apply rD));exact (rM (rF (p:=⟨Bf,1,none⟩) (rF (p:=⟨Bf,0,none⟩) (rT Ba.out Be.out (by decide)) (fun _ hk=>hk.2) (.slice Ao26 t341.length co26)) (fun _ hk=>hk.2) (.int .i64 t344)) (fun _ h_=>h_.1))));(case side2=>exact (Kd.R_reads' Ba.out).2.1);rintro e w30 ⟨v351,v355,rfl,ho0,ho1,hb⟩;have n0_:=Am (Kd.R_elder' (by (with_reducible repeat (first|apply rA|apply rN|apply rD));exact (rM (rF (p:=⟨Bf,1,none⟩) (rF (p:=⟨Bf,0,none⟩) (rT Ba.out Be.out (by decide)) (fun _ hk=>hk.2) (.slice Ao26 t341.length co26)) (fun _ hk=>hk.2) (.int .i64 t344)) (fun _ h_=>h_.1))) (Kd.R_base ho0) hb);have n1_:=Am (Kd.R_elder' (by (with_reducible repeat (first|apply rA|apply rN|apply rD));exact (rM (rF (p:=⟨Bf,1,none⟩) (rF (p:=⟨Bf,0,none⟩) (rT Bi.out Be.out (by decide)) (fun _ hk=>hk.2) (.slice Ao26 t341.length co26)) (fun _ hk=>hk.2) (.int .i64 t344)) (fun _ h_=>h_.1))) (Kd.R_base ho0) hb);have n2_:=Am (Kd.R_elder' (by (with_reducible repeat (first|apply rA|apply rN|apply rD));exact (rM (rF (p:=⟨Bf,1,none⟩) (rF (p:=⟨Bf,0,none⟩) (rT Bh.out Be.out (by decide)) (fun _ hk=>hk.2) (.slice Ao26 t341.length co26)) (fun _ hk=>hk.2) (.int .i64 t344)) (fun _ h_=>h_.1))) (Kd.R_base ho1) hb);have n3_:=Am (Kd.R_lower (Kd.R_new' (Kd.R_new' ho0 (Kd.R_lt (by (with_reducible repeat (first|apply rA|apply rN|apply rD));exact (rM (rF (p:=⟨Bf,1,none⟩) (rF (p:=⟨Bf,0,none⟩) (rT Ba.out Be.out (by decide)) (fun _ hk=>hk.2) (.slice Ao26 t341.length co26)) (fun _ hk=>hk.2) (.int .i64 t344)) (fun _ h_=>h_.1))))) (Kd.R_lt (by (with_reducible repeat (first|apply rA|apply rN|apply rD));exact (rM (rF (p:=⟨Bf,1,none⟩) (rF (p:=⟨Bf,0,none⟩) (rT Bi.out Be.out (by decide)) (fun _ hk=>hk.2) (.slice Ao26 t341.length co26)) (fun _ hk=>hk.2) (.int .i64 t344)) (fun _ h_=>h_.1))))) (bZ (by repeat (first|(with_reducible first|exact HB.out|apply oA|apply pN|apply o1|refine bS ?_ Bj.out|refine bS ?_ Bp.out)|exact HB.out))));have n4_:=Am (Kd.R_lower (Kd.R_new' ho1 (Kd.R_lt (by (with_reducible repeat (first|apply rA|apply rN|apply rD));exact (rM (rF (p:=⟨Bf,1,none⟩) (rF (p:=⟨Bf,0,none⟩) (rT Bh.out Be.out (by decide)) (fun _ hk=>hk.2) (.slice Ao26 t341.length co26)) (fun _ hk=>hk.2) (.int .i64 t344)) (fun _ h_=>h_.1))))) (bZ (by repeat (first|(with_reducible first|exact HB.out|apply oA|apply pN|apply o1|refine bS ?_ Bj.out|refine bS ?_ Bp.out)|exact HB.out))));have n5_:=Am (bB (g:=Bg) (o:=.cells #[.slice Ao23 x339000_1.length co23,.int .i64 t336] 25 (0,0)) (by (with_reducible repeat (first|refine bN ?_ _|refine bD ?_|refine bA ?_ _|refine blk_far ?_ Bq.out _));exact Bc.out) hb);have n6_:=Am (bB (g:=Bf) (o:=.cells #[.slice Ao26 t341.length co26,.int .i64 t344] 25 (0,0)) (by (with_reducible repeat (first|refine bN ?_ _|refine bD ?_|refine bA ?_ _));refine blk_put (cs:=#[.slice Ao26 t341.length co26,.int .i64 0]) ?_ 1 _ rfl;(with_reducible repeat (first|refine bN ?_ _|refine bD ?_|refine bA ?_ _));refine blk_put (cs:=#[.slice none 0 0,.int .i64 0]) ?_ 0 _ rfl;(with_reducible repeat (first|refine bN ?_ _|refine bD ?_|refine bA ?_ _));exact Be.out) hb);have n7_:=Am (bP (by repeat (first|(with_reducible first|exact HB.out|apply oA|apply pN|apply o1|refine bS ?_ Bj.out|refine bS ?_ Bp.out)|exact HB.out)) hb);clear Ba Bi Bh Bc Be HB;revert n0_ n1_ n2_ n3_ n4_ n5_ n6_ n7_;intro Ba Bi Bh Bl Bk Bc Be HB;(try clear hb);(try clear hb2);(try clear hk);(try clear hi);(try clear ho0);(try clear ho1))|((with_reducible refine gate_dst (N:=9) rfl ?_);refine box_event ?hg (N:=9) ?hd (cs:=#[.slice none 0 0,.int .i64 0]) (t:=25) ?hr ?_;(case hd=>rfl);(case hg=>rfl);(case hr=>first|(go_simp;done)|(go_simp;rfl));intro Bb hg w31 hbox hb;have n0_:=Am (rB (rL Ba.out) hb);have n1_:=Am (rB (rL Bi.out) hb);have n2_:=Am (rB (rL Bh.out) hb);have n3_:=Am (rB (rL Bl.out) hb);have n4_:=Am (rB (rL Bk.out) hb);have n5_:=Am (bB (g:=Bg) (o:=.cells #[.slice Ao23 x339000_1.length co23,.int .i64 t336] 25 (0,0)) (bL Bc.out) hb);have n6_:=Am (bB (g:=Bf) (o:=.cells #[.slice Ao26 t341.length co26,.int .i64 t344] 25 (0,0)) (bL Be.out) hb);have n7_:=Am (bP (by repeat (first|(with_reducible first|exact HB.out|apply oA|apply pN|apply o1|refine bS ?_ Bj.out|refine bS ?_ Bp.out)|exact HB.out)) hb);have n8_:=Am (hbox);have n9_:=Am ((by rw [hg];exact (bZ (by repeat (first|(with_reducible first|exact HB.out|apply oA|apply pN|apply o1|refine bS ?_ Bj.out|refine bS ?_ Bp.out)|exact HB.out))):w.heap.size≤Bb));have n10_:=Am ((by rw [hg];exact (bZ (by repeat (first|(with_reducible first|exact HB.out|apply oA|apply pN|apply o1|refine bS ?_ Bj.out|refine bS ?_ Bp.out)|exact HB.out))):w.heap.size≤Bb));have n11_:=Am ((by rw [hg];exact Nat.ne_of_lt (blk_lt (g:=Bg) (o:=.cells #[.slice Ao23 x339000_1.length co23,.int .i64 t336] 25 (0,0)) (bL Bc.out)):Bg≠Bb));have n12_:=Am ((by rw [hg];exact Nat.ne_of_gt (blk_lt (g:=Bg) (o:=.cells #[.slice Ao23 x339000_1.length co23,.int .i64 t336] 25 (0,0)) (bL Bc.out)):Bb≠Bg));have n13_:=Am ((by rw [hg];exact Nat.ne_of_lt (blk_lt (g:=Bf) (o:=.cells #[.slice Ao26 t341.length co26,.int .i64 t344] 25 (0,0)) (bL Be.out)):Bf≠Bb));have n14_:=Am ((by rw [hg];exact Nat.ne_of_gt (blk_lt (g:=Bf) (o:=.cells #[.slice Ao26 t341.length co26,.int .i64 t344] 25 (0,0)) (bL Be.out)):Bb≠Bf));clear Ba Bi Bh Bl Bk Bc Be HB;revert n0_ n1_ n2_ n3_ n4_ n5_ n6_ n7_ n8_ n9_ n10_ n11_ n12_ n13_ n14_;intro Ba Bi Bh Bl Bk Bc Be HB Bd Du Bv Bo Bu Bm Bt;clear hb hbox hg;obtain ⟨Ao32,co32,eo32⟩:=Kd.R_slice Bl.out;subst eo32;have Dv:=Bu.out;have Dw:=Bo.out;have Dx:=Bt.out;have Dy:=Bm.out;have BP:w31.cell? ⟨Bb,0,none⟩=some (.slice none 0 0):=(bC Bd.out 0).trans rfl;have BQ:w31.cell? ⟨Bb,1,none⟩=some (.int .i64 0):=(bC Bd.out 1).trans rfl;have BR:=bF Bd.out 0;have BS:=bF Bd.out 1)))
   (try simp only [Act.put,lA,lZ,lS])
   go_cut [73] (fun v73 wc=>∃ (kq:Nat) (x73_20:Bool),v73=.bool x73_20∧Aside0 (laws_FnShareFair.j1 kq t345 t348 t354 t357 x73_20 t341 t344 t350 t353=some r)∧Aside0 (kq≤k1)∧Aside0 (Kd.R (Kd.int .i64) 3 wc w.heap.size (fun k_=>some k_≠(v355:Value).ownBlock) v346 t345)∧Aside0 (Kd.R (Kd.int .i64) 3 wc w.heap.size (fun k_=>some k_≠(v346:Value).ownBlock) v355 t354)∧Aside0 (Kd.R k40 40 wc w.heap.size (fun k_=>some k_≠((.slice Ao26 t341.length co26):Value).ownBlock∧some k_≠((.slice Ao32 t350.length co32):Value).ownBlock) (.slice Ao23 x339000_1.length co23) x339000_1)∧Aside0 (Kd.R k40 40 wc w.heap.size (fun k_=>some k_≠((.slice Ao23 x339000_1.length co23):Value).ownBlock∧some k_≠((.slice Ao32 t350.length co32):Value).ownBlock) (.slice Ao26 t341.length co26) t341)∧Aside0 (Kd.R k40 40 wc w.heap.size (fun k_=>some k_≠((.slice Ao23 x339000_1.length co23):Value).ownBlock∧some k_≠((.slice Ao26 t341.length co26):Value).ownBlock) (.slice Ao32 t350.length co32) t350)∧Aside0 (wc.heap[Bg]?=some (.cells #[(.slice Ao23 x339000_1.length co23),.int .i64 t336] 25 (0,0)))∧Aside0 (wc.heap[Bf]?=some (.cells #[(.slice Ao26 t341.length co26),.int .i64 t344] 25 (0,0)))∧Aside0 (wc.heap[Bb]?=some (.cells #[(.slice Ao32 t350.length co32),.int .i64 t353] 25 (0,0)))∧Aside0 (Below w.heap.size w wc))
   case first =>
    have H:=HC21.out
    clear HC21
    by_cases c36:(t348 != t357)=true
    ·rw [if_pos c36] at H
     have c36b0:(t348 != t357)=true:=c36
     (try (have c36b1:decide (t348=t357)=false:=by simpa using c36))
     (try (have c36b2:(t348 == t357)=false:=by simpa using c36))
     (try (have c36b3:¬ (t348=t357):=by simpa using c36))
     clear c36
     (first|rw [c36b0]|(simp only [i64_w,i32_w];rw [c36b0])|skip)
     have H':=Am H
     clear H
     go_wp2
     repeat (go_quiet (fail);try go_wp2)
     go_meet
     case rel=>exact ⟨_,(true),(by first|rfl|(simp;done)|(simp [*];done)),H',⟨by have:=HK1.out;first|omega|exact Nat.le_refl _⟩,⟨by (with_reducible repeat (first|apply rA|apply rN|apply rD));exact rM (rF (p:=⟨Bb,1,none⟩) (rF (p:=⟨Bb,0,none⟩) (rT Bh.out Bd.out (by decide)) (fun _ hk=>hk.2) (.slice Ao32 t350.length co32)) (fun _ hk=>hk.2) (.int .i64 t353)) (fun _ hk=>hk.1.2)⟩,⟨by (with_reducible repeat (first|apply rA|apply rN|apply rD));exact rM (rF (p:=⟨Bb,1,none⟩) (rF (p:=⟨Bb,0,none⟩) (rT Bk.out Bd.out (by decide)) (fun _ hk=>hk.2) (.slice Ao32 t350.length co32)) (fun _ hk=>hk.2) (.int .i64 t353)) (fun _ hk=>hk.1.2)⟩,⟨by (with_reducible repeat (first|apply rA|apply rN|apply rD));exact rM (rF (p:=⟨Bb,1,none⟩) (rF (p:=⟨Bb,0,none⟩) (rT Ba.out Bd.out (by decide)) (fun _ hk=>hk.2) (.slice Ao32 t350.length co32)) (fun _ hk=>hk.2) (.int .i64 t353)) (fun _ hk=>⟨hk.1.1.2,hk.1.2⟩)⟩,⟨by (with_reducible repeat (first|apply rA|apply rN|apply rD));exact rM (rF (p:=⟨Bb,1,none⟩) (rF (p:=⟨Bb,0,none⟩) (rT Bi.out Bd.out (by decide)) (fun _ hk=>hk.2) (.slice Ao32 t350.length co32)) (fun _ hk=>hk.2) (.int .i64 t353)) (fun _ hk=>⟨hk.1.1.2,hk.1.2⟩)⟩,⟨by (with_reducible repeat (first|apply rA|apply rN|apply rD));exact rM (rF (p:=⟨Bb,1,none⟩) (rF (p:=⟨Bb,0,none⟩) (rT Bl.out Bd.out (by decide)) (fun _ hk=>hk.2) (.slice Ao32 t350.length co32)) (fun _ hk=>hk.2) (.int .i64 t353)) (fun _ hk=>⟨hk.1.1.2,hk.1.2⟩)⟩,⟨by (with_reducible repeat (first|refine bN ?_ _|refine bD ?_|refine bA ?_ _|refine blk_far ?_ Bo.out _));exact Bc.out⟩,⟨by (with_reducible repeat (first|refine bN ?_ _|refine bD ?_|refine bA ?_ _|refine blk_far ?_ Bm.out _));exact Be.out⟩,⟨by (with_reducible repeat (first|refine bN ?_ _|refine bD ?_|refine bA ?_ _));refine blk_put (cs:=#[.slice Ao32 t350.length co32,.int .i64 0]) ?_ 1 _ rfl;(with_reducible repeat (first|refine bN ?_ _|refine bD ?_|refine bA ?_ _));refine blk_put (cs:=#[.slice none 0 0,.int .i64 0]) ?_ 0 _ rfl;(with_reducible repeat (first|refine bN ?_ _|refine bD ?_|refine bA ?_ _));exact Bd.out⟩,⟨by repeat (first|(with_reducible first|exact HB.out|apply oA|apply pN|apply o1|refine bS ?_ Bj.out|refine bS ?_ Bp.out|refine bS ?_ Bv.out)|exact HB.out)⟩⟩
    rw [if_neg c36] at H
    have c36b0:(t348 != t357)=false:=by simpa using c36
    (try (have c36b1:decide (t348=t357)=true:=by simpa using c36))
    (try (have c36b2:(t348 == t357)=true:=by simpa using c36))
    clear c36
    (first|rw [c36b0]|(simp only [i64_w,i32_w];rw [c36b0])|skip)
    replace H:=oC H
    obtain ⟨t359,A370,H⟩:=H
    replace H:(if t359=true then ((laws_qdQueue.f k1 t341 t344 t350 t353).bind fun t360=>(if t360=true then (laws_FnShareFair.j1 k1 t345 t348 t354 t357 (!t348) t341 t344 t350 t353) else (laws_FnShareFair.j1 k1 t345 t348 t354 t357 true t341 t344 t350 t353))) else (laws_FnShareFair.j1 k1 t345 t348 t354 t357 true t341 t344 t350 t353))=some r:=H
    have A37:=Am A370
    clear A370
    by_cases c38:t359=true
    rotate_left
    ·replace c38:=Bool.eq_false_iff.mpr c38
     subst c38
     have H1:(laws_FnShareFair.j1 k1 t345 t348 t354 t357 true t341 t344 t350 t353)=some r:=by rw [if_neg (show ¬ (false=true) by decide)] at H;exact H
     clear H
     have H:=H1
     clear H1
     have H':=Am H
     clear H
     obtain ⟨Ao57,co57,eo57⟩:=Kd.R_slice Bh.out
     subst eo57
     obtain ⟨Ao58,co58,eo58⟩:=Kd.R_slice Bk.out
     subst eo58
     go_wp2_with (first|(go_at_call 32;(with_reducible refine (laws_qdInts.calls k1 _ _ t345 _ _ t354 false _ ?side1 ?side2 ?side3 ?side4 A37.out).mono ?_);(case side1=>refine (Kd.R_reads' (e:=3) (base:=w.heap.size) (ok:=fun k_=>(True∧some k_≠(.slice Ao58 t354.length co58:Value).ownBlock)) (n:=t345.length) (c:=co57) ?_).2.2;exact (by (with_reducible repeat (first|apply rA|apply rN|apply rD));exact (rM (rF (p:=⟨Bb,1,none⟩) (rF (p:=⟨Bb,0,none⟩) (rT Bh.out Bd.out (by decide)) (fun _ hk=>hk.2) (.slice Ao32 t350.length co32)) (fun _ hk=>hk.2) (.int .i64 t353)) (fun _ h_=>h_.1))));(case side2=>exact (Kd.R_reads' Bh.out).2.1);(case side3=>refine (Kd.R_reads' (e:=3) (base:=w.heap.size) (ok:=fun k_=>(True∧some k_≠(.slice Ao57 t345.length co57:Value).ownBlock)) (n:=t354.length) (c:=co58) ?_).2.2;exact (by (with_reducible repeat (first|apply rA|apply rN|apply rD));exact (rM (rF (p:=⟨Bb,1,none⟩) (rF (p:=⟨Bb,0,none⟩) (rT Bk.out Bd.out (by decide)) (fun _ hk=>hk.2) (.slice Ao32 t350.length co32)) (fun _ hk=>hk.2) (.int .i64 t353)) (fun _ h_=>h_.1))));(case side4=>exact (Kd.R_reads' Bk.out).2.1);rintro e w' ⟨rfl,⟨nd,rfl⟩⟩;(try first|exact ⟨rfl,_,World.drewN_drewN _ _ _⟩|exact ⟨rfl,_,Eq.trans (World.drewN_drewN _ _ _) (congrArg (World.drewN _) (Nat.add_assoc _ _ _))⟩)))
     repeat (go_quiet (first|(go_at_call 32;(with_reducible refine (laws_qdInts.calls k1 _ _ t345 _ _ t354 false _ ?side1 ?side2 ?side3 ?side4 A37.out).mono ?_);(case side1=>refine (Kd.R_reads' (e:=3) (base:=w.heap.size) (ok:=fun k_=>(True∧some k_≠(.slice Ao58 t354.length co58:Value).ownBlock)) (n:=t345.length) (c:=co57) ?_).2.2;exact (by (with_reducible repeat (first|apply rA|apply rN|apply rD));exact (rM (rF (p:=⟨Bb,1,none⟩) (rF (p:=⟨Bb,0,none⟩) (rT Bh.out Bd.out (by decide)) (fun _ hk=>hk.2) (.slice Ao32 t350.length co32)) (fun _ hk=>hk.2) (.int .i64 t353)) (fun _ h_=>h_.1))));(case side2=>exact (Kd.R_reads' Bh.out).2.1);(case side3=>refine (Kd.R_reads' (e:=3) (base:=w.heap.size) (ok:=fun k_=>(True∧some k_≠(.slice Ao57 t345.length co57:Value).ownBlock)) (n:=t354.length) (c:=co58) ?_).2.2;exact (by (with_reducible repeat (first|apply rA|apply rN|apply rD));exact (rM (rF (p:=⟨Bb,1,none⟩) (rF (p:=⟨Bb,0,none⟩) (rT Bk.out Bd.out (by decide)) (fun _ hk=>hk.2) (.slice Ao32 t350.length co32)) (fun _ hk=>hk.2) (.int .i64 t353)) (fun _ h_=>h_.1))));(case side4=>exact (Kd.R_reads' Bk.out).2.1);rintro e w' ⟨rfl,⟨nd,rfl⟩⟩;(try first|exact ⟨rfl,_,World.drewN_drewN _ _ _⟩|exact ⟨rfl,_,Eq.trans (World.drewN_drewN _ _ _) (congrArg (World.drewN _) (Nat.add_assoc _ _ _))⟩)));try go_wp2_with (first|(go_at_call 32;(with_reducible refine (laws_qdInts.calls k1 _ _ t345 _ _ t354 false _ ?side1 ?side2 ?side3 ?side4 A37.out).mono ?_);(case side1=>refine (Kd.R_reads' (e:=3) (base:=w.heap.size) (ok:=fun k_=>(True∧some k_≠(.slice Ao58 t354.length co58:Value).ownBlock)) (n:=t345.length) (c:=co57) ?_).2.2;exact (by (with_reducible repeat (first|apply rA|apply rN|apply rD));exact (rM (rF (p:=⟨Bb,1,none⟩) (rF (p:=⟨Bb,0,none⟩) (rT Bh.out Bd.out (by decide)) (fun _ hk=>hk.2) (.slice Ao32 t350.length co32)) (fun _ hk=>hk.2) (.int .i64 t353)) (fun _ h_=>h_.1))));(case side2=>exact (Kd.R_reads' Bh.out).2.1);(case side3=>refine (Kd.R_reads' (e:=3) (base:=w.heap.size) (ok:=fun k_=>(True∧some k_≠(.slice Ao57 t345.length co57:Value).ownBlock)) (n:=t354.length) (c:=co58) ?_).2.2;exact (by (with_reducible repeat (first|apply rA|apply rN|apply rD));exact (rM (rF (p:=⟨Bb,1,none⟩) (rF (p:=⟨Bb,0,none⟩) (rT Bk.out Bd.out (by decide)) (fun _ hk=>hk.2) (.slice Ao32 t350.length co32)) (fun _ hk=>hk.2) (.int .i64 t353)) (fun _ h_=>h_.1))));(case side4=>exact (Kd.R_reads' Bk.out).2.1);rintro e w' ⟨rfl,⟨nd,rfl⟩⟩;(try first|exact ⟨rfl,_,World.drewN_drewN _ _ _⟩|exact ⟨rfl,_,Eq.trans (World.drewN_drewN _ _ _) (congrArg (World.drewN _) (Nat.add_assoc _ _ _))⟩))))
     go_meet
     case rel=>exact ⟨_,(true),(by first|rfl|(simp;done)|(simp [*];done)),H',⟨by have:=HK1.out;first|omega|exact Nat.le_refl _⟩,⟨by (with_reducible repeat (first|apply rA|apply rN|apply rD));exact rM (rF (p:=⟨Bb,1,none⟩) (rF (p:=⟨Bb,0,none⟩) (rT Bh.out Bd.out (by decide)) (fun _ hk=>hk.2) (.slice Ao32 t350.length co32)) (fun _ hk=>hk.2) (.int .i64 t353)) (fun _ hk=>hk.1.2)⟩,⟨by (with_reducible repeat (first|apply rA|apply rN|apply rD));exact rM (rF (p:=⟨Bb,1,none⟩) (rF (p:=⟨Bb,0,none⟩) (rT Bk.out Bd.out (by decide)) (fun _ hk=>hk.2) (.slice Ao32 t350.length co32)) (fun _ hk=>hk.2) (.int .i64 t353)) (fun _ hk=>hk.1.2)⟩,⟨by (with_reducible repeat (first|apply rA|apply rN|apply rD));exact rM (rF (p:=⟨Bb,1,none⟩) (rF (p:=⟨Bb,0,none⟩) (rT Ba.out Bd.out (by decide)) (fun _ hk=>hk.2) (.slice Ao32 t350.length co32)) (fun _ hk=>hk.2) (.int .i64 t353)) (fun _ hk=>⟨hk.1.1.2,hk.1.2⟩)⟩,⟨by (with_reducible repeat (first|apply rA|apply rN|apply rD));exact rM (rF (p:=⟨Bb,1,none⟩) (rF (p:=⟨Bb,0,none⟩) (rT Bi.out Bd.out (by decide)) (fun _ hk=>hk.2) (.slice Ao32 t350.length co32)) (fun _ hk=>hk.2) (.int .i64 t353)) (fun _ hk=>⟨hk.1.1.2,hk.1.2⟩)⟩,⟨by (with_reducible repeat (first|apply rA|apply rN|apply rD));exact rM (rF (p:=⟨Bb,1,none⟩) (rF (p:=⟨Bb,0,none⟩) (rT Bl.out Bd.out (by decide)) (fun _ hk=>hk.2) (.slice Ao32 t350.length co32)) (fun _ hk=>hk.2) (.int .i64 t353)) (fun _ hk=>⟨hk.1.1.2,hk.1.2⟩)⟩,⟨by (with_reducible repeat (first|refine bN ?_ _|refine bD ?_|refine bA ?_ _|refine blk_far ?_ Bo.out _));exact Bc.out⟩,⟨by (with_reducible repeat (first|refine bN ?_ _|refine bD ?_|refine bA ?_ _|refine blk_far ?_ Bm.out _));exact Be.out⟩,⟨by (with_reducible repeat (first|refine bN ?_ _|refine bD ?_|refine bA ?_ _));refine blk_put (cs:=#[.slice Ao32 t350.length co32,.int .i64 0]) ?_ 1 _ rfl;(with_reducible repeat (first|refine bN ?_ _|refine bD ?_|refine bA ?_ _));refine blk_put (cs:=#[.slice none 0 0,.int .i64 0]) ?_ 0 _ rfl;(with_reducible repeat (first|refine bN ?_ _|refine bD ?_|refine bA ?_ _));exact Bd.out⟩,⟨by repeat (first|(with_reducible first|exact HB.out|apply oA|apply pN|apply o1|refine bS ?_ Bj.out|refine bS ?_ Bp.out|refine bS ?_ Bv.out)|exact HB.out)⟩⟩
    subst c38
    have H1:((laws_qdQueue.f k1 t341 t344 t350 t353).bind fun t360=>(if t360=true then (laws_FnShareFair.j1 k1 t345 t348 t354 t357 (!t348) t341 t344 t350 t353) else (laws_FnShareFair.j1 k1 t345 t348 t354 t357 true t341 t344 t350 t353)))=some r:=by rw [if_pos rfl] at H;exact H
    clear H
    have H:=H1
    clear H1
    replace H:=oC H
    obtain ⟨t360,A390,H⟩:=H
    replace H:(if t360=true then (laws_FnShareFair.j1 k1 t345 t348 t354 t357 (!t348) t341 t344 t350 t353) else (laws_FnShareFair.j1 k1 t345 t348 t354 t357 true t341 t344 t350 t353))=some r:=H
    have A39:=Am A390
    clear A390
    by_cases c40:t360=true
    ·subst c40
     have H1:(laws_FnShareFair.j1 k1 t345 t348 t354 t357 (!t348) t341 t344 t350 t353)=some r:=by rw [if_pos rfl] at H;exact H
     clear H
     have H:=H1
     clear H1
     have H':=Am H
     clear H
     obtain ⟨Ao41,co41,eo41⟩:=Kd.R_slice Bh.out
     subst eo41
     obtain ⟨Ao42,co42,eo42⟩:=Kd.R_slice Bk.out
     subst eo42
     go_wp2_with (first|(go_at_call 32;(with_reducible refine (laws_qdInts.calls k1 _ _ t345 _ _ t354 true _ ?side1 ?side2 ?side3 ?side4 A37.out).mono ?_);(case side1=>refine (Kd.R_reads' (e:=3) (base:=w.heap.size) (ok:=fun k_=>(True∧some k_≠(.slice Ao42 t354.length co42:Value).ownBlock)) (n:=t345.length) (c:=co41) ?_).2.2;exact (by (with_reducible repeat (first|apply rA|apply rN|apply rD));exact (rM (rF (p:=⟨Bb,1,none⟩) (rF (p:=⟨Bb,0,none⟩) (rT Bh.out Bd.out (by decide)) (fun _ hk=>hk.2) (.slice Ao32 t350.length co32)) (fun _ hk=>hk.2) (.int .i64 t353)) (fun _ h_=>h_.1))));(case side2=>exact (Kd.R_reads' Bh.out).2.1);(case side3=>refine (Kd.R_reads' (e:=3) (base:=w.heap.size) (ok:=fun k_=>(True∧some k_≠(.slice Ao41 t345.length co41:Value).ownBlock)) (n:=t354.length) (c:=co42) ?_).2.2;exact (by (with_reducible repeat (first|apply rA|apply rN|apply rD));exact (rM (rF (p:=⟨Bb,1,none⟩) (rF (p:=⟨Bb,0,none⟩) (rT Bk.out Bd.out (by decide)) (fun _ hk=>hk.2) (.slice Ao32 t350.length co32)) (fun _ hk=>hk.2) (.int .i64 t353)) (fun _ h_=>h_.1))));(case side4=>exact (Kd.R_reads' Bk.out).2.1);rintro e w' ⟨rfl,⟨nd,rfl⟩⟩;(try first|exact ⟨rfl,_,World.drewN_drewN _ _ _⟩|exact ⟨rfl,_,Eq.trans (World.drewN_drewN _ _ _) (congrArg (World.drewN _) (Nat.add_assoc _ _ _))⟩);have Dz:=Bs.out;have DA:=Bq.out;have DB:=Bm.out;have DC:=Bt.out;have BT:w31.cell? ⟨Bf,0,none⟩=some (.slice Ao26 t341.length co26):=(bC Be.out 0).trans rfl;have BU:w31.cell? ⟨Bf,1,none⟩=some (.int .i64 t344):=(bC Be.out 1).trans rfl;have BV:=bF Be.out 0;have BW:=bF Be.out 1;have DD:=Bu.out;have DE:=Bo.out;have BX:w31.cell? ⟨Bb,0,none⟩=some (.slice none 0 0):=(bC Bd.out 0).trans rfl;have BY:w31.cell? ⟨Bb,1,none⟩=some (.int .i64 0):=(bC Bd.out 1).trans rfl;have BZ:=bF Bd.out 0;have B0:=bF Bd.out 1)|(go_at_call 15;(with_reducible refine (laws_qdQueue.calls k1 _ _ t341 t344 _ _ t350 t353 true _ ?side1 ?side2 ?side3 ?side4 A39.out).mono ?_);(case side1=>refine (Kd.R_reads' (e:=40) (base:=w.heap.size) (ok:=fun k_=>((True∧some k_≠(.slice Ao23 x339000_1.length co23:Value).ownBlock)∧some k_≠(.slice Ao32 t350.length co32:Value).ownBlock)) (n:=t341.length) (c:=co26) ?_).2.2;exact (by (with_reducible repeat (first|apply rA|apply rN|apply rD));exact (rM (rF (p:=⟨Bb,1,none⟩) (rF (p:=⟨Bb,0,none⟩) (rT Bi.out Bd.out (by decide)) (fun _ hk=>hk.2) (.slice Ao32 t350.length co32)) (fun _ hk=>hk.2) (.int .i64 t353)) (fun _ h_=>h_.1))));(case side2=>exact (Kd.R_reads' Bi.out).2.1);(case side3=>refine (Kd.R_reads' (e:=40) (base:=w.heap.size) (ok:=fun k_=>((True∧some k_≠(.slice Ao23 x339000_1.length co23:Value).ownBlock)∧some k_≠(.slice Ao26 t341.length co26:Value).ownBlock)) (n:=t350.length) (c:=co32) ?_).2.2;exact (by (with_reducible repeat (first|apply rA|apply rN|apply rD));exact (rM (rF (p:=⟨Bb,1,none⟩) (rF (p:=⟨Bb,0,none⟩) (rT Bl.out Bd.out (by decide)) (fun _ hk=>hk.2) (.slice Ao32 t350.length co32)) (fun _ hk=>hk.2) (.int .i64 t353)) (fun _ h_=>h_.1))));(case side4=>exact (Kd.R_reads' Bl.out).2.1);rintro e w48 ⟨rfl,hb⟩;have n0_:=Am (rB (by (with_reducible repeat (first|apply rA|apply rN|apply rD));exact (rM (rF (p:=⟨Bb,1,none⟩) (rF (p:=⟨Bb,0,none⟩) (rT Ba.out Bd.out (by decide)) (fun _ hk=>hk.2) (.slice Ao32 t350.length co32)) (fun _ hk=>hk.2) (.int .i64 t353)) (fun _ h_=>h_.1))) hb);have n1_:=Am (rB (by (with_reducible repeat (first|apply rA|apply rN|apply rD));exact (rM (rF (p:=⟨Bb,1,none⟩) (rF (p:=⟨Bb,0,none⟩) (rT Bi.out Bd.out (by decide)) (fun _ hk=>hk.2) (.slice Ao32 t350.length co32)) (fun _ hk=>hk.2) (.int .i64 t353)) (fun _ h_=>h_.1))) hb);have n2_:=Am (rB (by (with_reducible repeat (first|apply rA|apply rN|apply rD));exact (rM (rF (p:=⟨Bb,1,none⟩) (rF (p:=⟨Bb,0,none⟩) (rT Bh.out Bd.out (by decide)) (fun _ hk=>hk.2) (.slice Ao32 t350.length co32)) (fun _ hk=>hk.2) (.int .i64 t353)) (fun _ h_=>h_.1))) hb);have n3_:=Am (rB (by (with_reducible repeat (first|apply rA|apply rN|apply rD));exact (rM (rF (p:=⟨Bb,1,none⟩) (rF (p:=⟨Bb,0,none⟩) (rT Bl.out Bd.out (by decide)) (fun _ hk=>hk.2) (.slice Ao32 t350.length co32)) (fun _ hk=>hk.2) (.int .i64 t353)) (fun _ h_=>h_.1))) hb);have n4_:=Am (rB (by (with_reducible repeat (first|apply rA|apply rN|apply rD));exact (rM (rF (p:=⟨Bb,1,none⟩) (rF (p:=⟨Bb,0,none⟩) (rT Bk.out Bd.out (by decide)) (fun _ hk=>hk.2) (.slice Ao32 t350.length co32)) (fun _ hk=>hk.2) (.int .i64 t353)) (fun _ h_=>h_.1))) hb);have n5_:=Am (bB (g:=Bg) (o:=.cells #[.slice Ao23 x339000_1.length co23,.int .i64 t336] 25 (0,0)) (by (with_reducible repeat (first|refine bN ?_ _|refine bD ?_|refine bA ?_ _|refine blk_far ?_ Bo.out _));exact Bc.out) hb);have n6_:=Am (bB (g:=Bf) (o:=.cells #[.slice Ao26 t341.length co26,.int .i64 t344] 25 (0,0)) (by (with_reducible repeat (first|refine bN ?_ _|refine bD ?_|refine bA ?_ _|refine blk_far ?_ Bm.out _));exact Be.out) hb);have n7_:=Am (bB (g:=Bb) (o:=.cells #[.slice Ao32 t350.length co32,.int .i64 t353] 25 (0,0)) (by (with_reducible repeat (first|refine bN ?_ _|refine bD ?_|refine bA ?_ _));refine blk_put (cs:=#[.slice Ao32 t350.length co32,.int .i64 0]) ?_ 1 _ rfl;(with_reducible repeat (first|refine bN ?_ _|refine bD ?_|refine bA ?_ _));refine blk_put (cs:=#[.slice none 0 0,.int .i64 0]) ?_ 0 _ rfl;(with_reducible repeat (first|refine bN ?_ _|refine bD ?_|refine bA ?_ _));exact Bd.out) hb);have n8_:=Am (bP (by repeat (first|(with_reducible first|exact HB.out|apply oA|apply pN|apply o1|refine bS ?_ Bj.out|refine bS ?_ Bp.out|refine bS ?_ Bv.out)|exact HB.out)) hb);clear Ba Bi Bh Bl Bk Bc Be Bd HB;revert n0_ n1_ n2_ n3_ n4_ n5_ n6_ n7_ n8_;intro Ba Bi Bh Bl Bk Bc Be Bd HB;(try clear hb);(try clear hb2);(try clear hk);(try clear hi)))
     repeat (go_quiet (first|(go_at_call 32;(with_reducible refine (laws_qdInts.calls k1 _ _ t345 _ _ t354 true _ ?side1 ?side2 ?side3 ?side4 A37.out).mono ?_);(case side1=>refine (Kd.R_reads' (e:=3) (base:=w.heap.size) (ok:=fun k_=>(True∧some k_≠(.slice Ao42 t354.length co42:Value).ownBlock)) (n:=t345.length) (c:=co41) ?_).2.2;exact (by (with_reducible repeat (first|apply rA|apply rN|apply rD));exact (rM (rF (p:=⟨Bb,1,none⟩) (rF (p:=⟨Bb,0,none⟩) (rT Bh.out Bd.out (by decide)) (fun _ hk=>hk.2) (.slice Ao32 t350.length co32)) (fun _ hk=>hk.2) (.int .i64 t353)) (fun _ h_=>h_.1))));(case side2=>exact (Kd.R_reads' Bh.out).2.1);(case side3=>refine (Kd.R_reads' (e:=3) (base:=w.heap.size) (ok:=fun k_=>(True∧some k_≠(.slice Ao41 t345.length co41:Value).ownBlock)) (n:=t354.length) (c:=co42) ?_).2.2;exact (by (with_reducible repeat (first|apply rA|apply rN|apply rD));exact (rM (rF (p:=⟨Bb,1,none⟩) (rF (p:=⟨Bb,0,none⟩) (rT Bk.out Bd.out (by decide)) (fun _ hk=>hk.2) (.slice Ao32 t350.length co32)) (fun _ hk=>hk.2) (.int .i64 t353)) (fun _ h_=>h_.1))));(case side4=>exact (Kd.R_reads' Bk.out).2.1);rintro e w' ⟨rfl,⟨nd,rfl⟩⟩;(try first|exact ⟨rfl,_,World.drewN_drewN _ _ _⟩|exact ⟨rfl,_,Eq.trans (World.drewN_drewN _ _ _) (congrArg (World.drewN _) (Nat.add_assoc _ _ _))⟩);have Dz:=Bs.out;have DA:=Bq.out;have DB:=Bm.out;have DC:=Bt.out;have BT:w31.cell? ⟨Bf,0,none⟩=some (.slice Ao26 t341.length co26):=(bC Be.out 0).trans rfl;have BU:w31.cell? ⟨Bf,1,none⟩=some (.int .i64 t344):=(bC Be.out 1).trans rfl;have BV:=bF Be.out 0;have BW:=bF Be.out 1;have DD:=Bu.out;have DE:=Bo.out;have BX:w31.cell? ⟨Bb,0,none⟩=some (.slice none 0 0):=(bC Bd.out 0).trans rfl;have BY:w31.cell? ⟨Bb,1,none⟩=some (.int .i64 0):=(bC Bd.out 1).trans rfl;have BZ:=bF Bd.out 0;have B0:=bF Bd.out 1)|(go_at_call 15;(with_reducible refine (laws_qdQueue.calls k1 _ _ t341 t344 _ _ t350 t353 true _ ?side1 ?side2 ?side3 ?side4 A39.out).mono ?_);(case side1=>refine (Kd.R_reads' (e:=40) (base:=w.heap.size) (ok:=fun k_=>((True∧some k_≠(.slice Ao23 x339000_1.length co23:Value).ownBlock)∧some k_≠(.slice Ao32 t350.length co32:Value).ownBlock)) (n:=t341.length) (c:=co26) ?_).2.2;exact (by (with_reducible repeat (first|apply rA|apply rN|apply rD));exact (rM (rF (p:=⟨Bb,1,none⟩) (rF (p:=⟨Bb,0,none⟩) (rT Bi.out Bd.out (by decide)) (fun _ hk=>hk.2) (.slice Ao32 t350.length co32)) (fun _ hk=>hk.2) (.int .i64 t353)) (fun _ h_=>h_.1))));(case side2=>exact (Kd.R_reads' Bi.out).2.1);(case side3=>refine (Kd.R_reads' (e:=40) (base:=w.heap.size) (ok:=fun k_=>((True∧some k_≠(.slice Ao23 x339000_1.length co23:Value).ownBlock)∧some k_≠(.slice Ao26 t341.length co26:Value).ownBlock)) (n:=t350.length) (c:=co32) ?_).2.2;exact (by (with_reducible repeat (first|apply rA|apply rN|apply rD));exact (rM (rF (p:=⟨Bb,1,none⟩) (rF (p:=⟨Bb,0,none⟩) (rT Bl.out Bd.out (by decide)) (fun _ hk=>hk.2) (.slice Ao32 t350.length co32)) (fun _ hk=>hk.2) (.int .i64 t353)) (fun _ h_=>h_.1))));(case side4=>exact (Kd.R_reads' Bl.out).2.1);rintro e w48 ⟨rfl,hb⟩;have n0_:=Am (rB (by (with_reducible repeat (first|apply rA|apply rN|apply rD));exact (rM (rF (p:=⟨Bb,1,none⟩) (rF (p:=⟨Bb,0,none⟩) (rT Ba.out Bd.out (by decide)) (fun _ hk=>hk.2) (.slice Ao32 t350.length co32)) (fun _ hk=>hk.2) (.int .i64 t353)) (fun _ h_=>h_.1))) hb);have n1_:=Am (rB (by (with_reducible repeat (first|apply rA|apply rN|apply rD));exact (rM (rF (p:=⟨Bb,1,none⟩) (rF (p:=⟨Bb,0,none⟩) (rT Bi.out Bd.out (by decide)) (fun _ hk=>hk.2) (.slice Ao32 t350.length co32)) (fun _ hk=>hk.2) (.int .i64 t353)) (fun _ h_=>h_.1))) hb);have n2_:=Am (rB (by (with_reducible repeat (first|apply rA|apply rN|apply rD));exact (rM (rF (p:=⟨Bb,1,none⟩) (rF (p:=⟨Bb,0,none⟩) (rT Bh.out Bd.out (by decide)) (fun _ hk=>hk.2) (.slice Ao32 t350.length co32)) (fun _ hk=>hk.2) (.int .i64 t353)) (fun _ h_=>h_.1))) hb);have n3_:=Am (rB (by (with_reducible repeat (first|apply rA|apply rN|apply rD));exact (rM (rF (p:=⟨Bb,1,none⟩) (rF (p:=⟨Bb,0,none⟩) (rT Bl.out Bd.out (by decide)) (fun _ hk=>hk.2) (.slice Ao32 t350.length co32)) (fun _ hk=>hk.2) (.int .i64 t353)) (fun _ h_=>h_.1))) hb);have n4_:=Am (rB (by (with_reducible repeat (first|apply rA|apply rN|apply rD));exact (rM (rF (p:=⟨Bb,1,none⟩) (rF (p:=⟨Bb,0,none⟩) (rT Bk.out Bd.out (by decide)) (fun _ hk=>hk.2) (.slice Ao32 t350.length co32)) (fun _ hk=>hk.2) (.int .i64 t353)) (fun _ h_=>h_.1))) hb);have n5_:=Am (bB (g:=Bg) (o:=.cells #[.slice Ao23 x339000_1.length co23,.int .i64 t336] 25 (0,0)) (by (with_reducible repeat (first|refine bN ?_ _|refine bD ?_|refine bA ?_ _|refine blk_far ?_ Bo.out _));exact Bc.out) hb);have n6_:=Am (bB (g:=Bf) (o:=.cells #[.slice Ao26 t341.length co26,.int .i64 t344] 25 (0,0)) (by (with_reducible repeat (first|refine bN ?_ _|refine bD ?_|refine bA ?_ _|refine blk_far ?_ Bm.out _));exact Be.out) hb);have n7_:=Am (bB (g:=Bb) (o:=.cells #[.slice Ao32 t350.length co32,.int .i64 t353] 25 (0,0)) (by (with_reducible repeat (first|refine bN ?_ _|refine bD ?_|refine bA ?_ _));refine blk_put (cs:=#[.slice Ao32 t350.length co32,.int .i64 0]) ?_ 1 _ rfl;(with_reducible repeat (first|refine bN ?_ _|refine bD ?_|refine bA ?_ _));refine blk_put (cs:=#[.slice none 0 0,.int .i64 0]) ?_ 0 _ rfl;(with_reducible repeat (first|refine bN ?_ _|refine bD ?_|refine bA ?_ _));exact Bd.out) hb);have n8_:=Am (bP (by repeat (first|(with_reducible first|exact HB.out|apply oA|apply pN|apply o1|refine bS ?_ Bj.out|refine bS ?_ Bp.out|refine bS ?_ Bv.out)|exact HB.out)) hb);clear Ba Bi Bh Bl Bk Bc Be Bd HB;revert n0_ n1_ n2_ n3_ n4_ n5_ n6_ n7_ n8_;intro Ba Bi Bh Bl Bk Bc Be Bd HB;(try clear hb);(try clear hb2);(try clear hk);(try clear hi)));try go_wp2_with (first|(go_at_call 32;(with_reducible refine (laws_qdInts.calls k1 _ _ t345 _ _ t354 true _ ?side1 ?side2 ?side3 ?side4 A37.out).mono ?_);(case side1=>refine (Kd.R_reads' (e:=3) (base:=w.heap.size) (ok:=fun k_=>(True∧some k_≠(.slice Ao42 t354.length co42:Value).ownBlock)) (n:=t345.length) (c:=co41) ?_).2.2;exact (by (with_reducible repeat (first|apply rA|apply rN|apply rD));exact (rM (rF (p:=⟨Bb,1,none⟩) (rF (p:=⟨Bb,0,none⟩) (rT Bh.out Bd.out (by decide)) (fun _ hk=>hk.2) (.slice Ao32 t350.length co32)) (fun _ hk=>hk.2) (.int .i64 t353)) (fun _ h_=>h_.1))));(case side2=>exact (Kd.R_reads' Bh.out).2.1);(case side3=>refine (Kd.R_reads' (e:=3) (base:=w.heap.size) (ok:=fun k_=>(True∧some k_≠(.slice Ao41 t345.length co41:Value).ownBlock)) (n:=t354.length) (c:=co42) ?_).2.2;exact (by (with_reducible repeat (first|apply rA|apply rN|apply rD));exact (rM (rF (p:=⟨Bb,1,none⟩) (rF (p:=⟨Bb,0,none⟩) (rT Bk.out Bd.out (by decide)) (fun _ hk=>hk.2) (.slice Ao32 t350.length co32)) (fun _ hk=>hk.2) (.int .i64 t353)) (fun _ h_=>h_.1))));(case side4=>exact (Kd.R_reads' Bk.out).2.1);rintro e w' ⟨rfl,⟨nd,rfl⟩⟩;(try first|exact ⟨rfl,_,World.drewN_drewN _ _ _⟩|exact ⟨rfl,_,Eq.trans (World.drewN_drewN _ _ _) (congrArg (World.drewN _) (Nat.add_assoc _ _ _))⟩);have Dz:=Bs.out;have DA:=Bq.out;have DB:=Bm.out;have DC:=Bt.out;have BT:w31.cell? ⟨Bf,0,none⟩=some (.slice Ao26 t341.length co26):=(bC Be.out 0).trans rfl;have BU:w31.cell? ⟨Bf,1,none⟩=some (.int .i64 t344):=(bC Be.out 1).trans rfl;have BV:=bF Be.out 0;have BW:=bF Be.out 1;have DD:=Bu.out;have DE:=Bo.out;have BX:w31.cell? ⟨Bb,0,none⟩=some (.slice none 0 0):=(bC Bd.out 0).trans rfl;have BY:w31.cell? ⟨Bb,1,none⟩=some (.int .i64 0):=(bC Bd.out 1).trans rfl;have BZ:=bF Bd.out 0;have B0:=bF Bd.out 1)|(go_at_call 15;(with_reducible refine (laws_qdQueue.calls k1 _ _ t341 t344 _ _ t350 t353 true _ ?side1 ?side2 ?side3 ?side4 A39.out).mono ?_);(case side1=>refine (Kd.R_reads' (e:=40) (base:=w.heap.size) (ok:=fun k_=>((True∧some k_≠(.slice Ao23 x339000_1.length co23:Value).ownBlock)∧some k_≠(.slice Ao32 t350.length co32:Value).ownBlock)) (n:=t341.length) (c:=co26) ?_).2.2;exact (by (with_reducible repeat (first|apply rA|apply rN|apply rD));exact (rM (rF (p:=⟨Bb,1,none⟩) (rF (p:=⟨Bb,0,none⟩) (rT Bi.out Bd.out (by decide)) (fun _ hk=>hk.2) (.slice Ao32 t350.length co32)) (fun _ hk=>hk.2) (.int .i64 t353)) (fun _ h_=>h_.1))));(case side2=>exact (Kd.R_reads' Bi.out).2.1);(case side3=>refine (Kd.R_reads' (e:=40) (base:=w.heap.size) (ok:=fun k_=>((True∧some k_≠(.slice Ao23 x339000_1.length co23:Value).ownBlock)∧some k_≠(.slice Ao26 t341.length co26:Value).ownBlock)) (n:=t350.length) (c:=co32) ?_).2.2;exact (by (with_reducible repeat (first|apply rA|apply rN|apply rD));exact (rM (rF (p:=⟨Bb,1,none⟩) (rF (p:=⟨Bb,0,none⟩) (rT Bl.out Bd.out (by decide)) (fun _ hk=>hk.2) (.slice Ao32 t350.length co32)) (fun _ hk=>hk.2) (.int .i64 t353)) (fun _ h_=>h_.1))));(case side4=>exact (Kd.R_reads' Bl.out).2.1);rintro e w48 ⟨rfl,hb⟩;have n0_:=Am (rB (by (with_reducible repeat (first|apply rA|apply rN|apply rD));exact (rM (rF (p:=⟨Bb,1,none⟩) (rF (p:=⟨Bb,0,none⟩) (rT Ba.out Bd.out (by decide)) (fun _ hk=>hk.2) (.slice Ao32 t350.length co32)) (fun _ hk=>hk.2) (.int .i64 t353)) (fun _ h_=>h_.1))) hb);have n1_:=Am (rB (by (with_reducible repeat (first|apply rA|apply rN|apply rD));exact (rM (rF (p:=⟨Bb,1,none⟩) (rF (p:=⟨Bb,0,none⟩) (rT Bi.out Bd.out (by decide)) (fun _ hk=>hk.2) (.slice Ao32 t350.length co32)) (fun _ hk=>hk.2) (.int .i64 t353)) (fun _ h_=>h_.1))) hb);have n2_:=Am (rB (by (with_reducible repeat (first|apply rA|apply rN|apply rD));exact (rM (rF (p:=⟨Bb,1,none⟩) (rF (p:=⟨Bb,0,none⟩) (rT Bh.out Bd.out (by decide)) (fun _ hk=>hk.2) (.slice Ao32 t350.length co32)) (fun _ hk=>hk.2) (.int .i64 t353)) (fun _ h_=>h_.1))) hb);have n3_:=Am (rB (by (with_reducible repeat (first|apply rA|apply rN|apply rD));exact (rM (rF (p:=⟨Bb,1,none⟩) (rF (p:=⟨Bb,0,none⟩) (rT Bl.out Bd.out (by decide)) (fun _ hk=>hk.2) (.slice Ao32 t350.length co32)) (fun _ hk=>hk.2) (.int .i64 t353)) (fun _ h_=>h_.1))) hb);have n4_:=Am (rB (by (with_reducible repeat (first|apply rA|apply rN|apply rD));exact (rM (rF (p:=⟨Bb,1,none⟩) (rF (p:=⟨Bb,0,none⟩) (rT Bk.out Bd.out (by decide)) (fun _ hk=>hk.2) (.slice Ao32 t350.length co32)) (fun _ hk=>hk.2) (.int .i64 t353)) (fun _ h_=>h_.1))) hb);have n5_:=Am (bB (g:=Bg) (o:=.cells #[.slice Ao23 x339000_1.length co23,.int .i64 t336] 25 (0,0)) (by (with_reducible repeat (first|refine bN ?_ _|refine bD ?_|refine bA ?_ _|refine blk_far ?_ Bo.out _));exact Bc.out) hb);have n6_:=Am (bB (g:=Bf) (o:=.cells #[.slice Ao26 t341.length co26,.int .i64 t344] 25 (0,0)) (by (with_reducible repeat (first|refine bN ?_ _|refine bD ?_|refine bA ?_ _|refine blk_far ?_ Bm.out _));exact Be.out) hb);have n7_:=Am (bB (g:=Bb) (o:=.cells #[.slice Ao32 t350.length co32,.int .i64 t353] 25 (0,0)) (by (with_reducible repeat (first|refine bN ?_ _|refine bD ?_|refine bA ?_ _));refine blk_put (cs:=#[.slice Ao32 t350.length co32,.int .i64 0]) ?_ 1 _ rfl;(with_reducible repeat (first|refine bN ?_ _|refine bD ?_|refine bA ?_ _));refine blk_put (cs:=#[.slice none 0 0,.int .i64 0]) ?_ 0 _ rfl;(with_reducible repeat (first|refine bN ?_ _|refine bD ?_|refine bA ?_ _));exact Bd.out) hb);have n8_:=Am (bP (by repeat (first|(with_reducible first|exact HB.out|apply oA|apply pN|apply o1|refine bS ?_ Bj.out|refine bS ?_ Bp.out|refine bS ?_ Bv.out)|exact HB.out)) hb);clear Ba Bi Bh Bl Bk Bc Be Bd HB;revert n0_ n1_ n2_ n3_ n4_ n5_ n6_ n7_ n8_;intro Ba Bi Bh Bl Bk Bc Be Bd HB;(try clear hb);(try clear hb2);(try clear hk);(try clear hi))))
     go_meet
     case rel=>exact ⟨_,(!t348),(by first|rfl|(simp;done)|(simp [*];done)),H',⟨by have:=HK1.out;first|omega|exact Nat.le_refl _⟩,⟨by (with_reducible repeat (first|apply rA|apply rN|apply rD));exact rM Bh.out (fun _ hk=>hk.2)⟩,⟨by (with_reducible repeat (first|apply rA|apply rN|apply rD));exact rM Bk.out (fun _ hk=>hk.2)⟩,⟨by (with_reducible repeat (first|apply rA|apply rN|apply rD));exact rM Ba.out (fun _ hk=>⟨hk.1.2,hk.2⟩)⟩,⟨by (with_reducible repeat (first|apply rA|apply rN|apply rD));exact rM Bi.out (fun _ hk=>⟨hk.1.2,hk.2⟩)⟩,⟨by (with_reducible repeat (first|apply rA|apply rN|apply rD));exact rM Bl.out (fun _ hk=>⟨hk.1.2,hk.2⟩)⟩,⟨by (with_reducible repeat (first|refine bN ?_ _|refine bD ?_|refine bA ?_ _));exact Bc.out⟩,⟨by (with_reducible repeat (first|refine bN ?_ _|refine bD ?_|refine bA ?_ _));exact Be.out⟩,⟨by (with_reducible repeat (first|refine bN ?_ _|refine bD ?_|refine bA ?_ _));exact Bd.out⟩,⟨by repeat (first|(with_reducible first|exact HB.out|apply oA|apply pN|apply o1|refine bS ?_ Bj.out|refine bS ?_ Bp.out|refine bS ?_ Bv.out)|exact HB.out)⟩⟩
    replace c40:=Bool.eq_false_iff.mpr c40
    subst c40
    have H1:(laws_FnShareFair.j1 k1 t345 t348 t354 t357 true t341 t344 t350 t353)=some r:=by rw [if_neg (show ¬ (false=true) by decide)] at H;exact H
    clear H
    have H:=H1
    clear H1
    have H':=Am H
    clear H
    obtain ⟨Ao49,co49,eo49⟩:=Kd.R_slice Bh.out
    subst eo49
    obtain ⟨Ao50,co50,eo50⟩:=Kd.R_slice Bk.out
    subst eo50
    go_wp2_with (first|(go_at_call 32;(with_reducible refine (laws_qdInts.calls k1 _ _ t345 _ _ t354 true _ ?side1 ?side2 ?side3 ?side4 A37.out).mono ?_);(case side1=>refine (Kd.R_reads' (e:=3) (base:=w.heap.size) (ok:=fun k_=>(True∧some k_≠(.slice Ao50 t354.length co50:Value).ownBlock)) (n:=t345.length) (c:=co49) ?_).2.2;exact (by (with_reducible repeat (first|apply rA|apply rN|apply rD));exact (rM (rF (p:=⟨Bb,1,none⟩) (rF (p:=⟨Bb,0,none⟩) (rT Bh.out Bd.out (by decide)) (fun _ hk=>hk.2) (.slice Ao32 t350.length co32)) (fun _ hk=>hk.2) (.int .i64 t353)) (fun _ h_=>h_.1))));(case side2=>exact (Kd.R_reads' Bh.out).2.1);(case side3=>refine (Kd.R_reads' (e:=3) (base:=w.heap.size) (ok:=fun k_=>(True∧some k_≠(.slice Ao49 t345.length co49:Value).ownBlock)) (n:=t354.length) (c:=co50) ?_).2.2;exact (by (with_reducible repeat (first|apply rA|apply rN|apply rD));exact (rM (rF (p:=⟨Bb,1,none⟩) (rF (p:=⟨Bb,0,none⟩) (rT Bk.out Bd.out (by decide)) (fun _ hk=>hk.2) (.slice Ao32 t350.length co32)) (fun _ hk=>hk.2) (.int .i64 t353)) (fun _ h_=>h_.1))));(case side4=>exact (Kd.R_reads' Bk.out).2.1);rintro e w' ⟨rfl,⟨nd,rfl⟩⟩;(try first|exact ⟨rfl,_,World.drewN_drewN _ _ _⟩|exact ⟨rfl,_,Eq.trans (World.drewN_drewN _ _ _) (congrArg (World.drewN _) (Nat.add_assoc _ _ _))⟩);have DF:=Bs.out;have DG:=Bq.out;have DH:=Bm.out;have DI:=Bt.out;have B1:w31.cell? ⟨Bf,0,none⟩=some (.slice Ao26 t341.length co26):=(bC Be.out 0).trans rfl;have B2:w31.cell? ⟨Bf,1,none⟩=some (.int .i64 t344):=(bC Be.out 1).trans rfl;have B3:=bF Be.out 0;have B4:=bF Be.out 1;have DJ:=Bu.out;have DK:=Bo.out;have B5:w31.cell? ⟨Bb,0,none⟩=some (.slice none 0 0):=(bC Bd.out 0).trans rfl;have B6:w31.cell? ⟨Bb,1,none⟩=some (.int .i64 0):=(bC Bd.out 1).trans rfl;have B7:=bF Bd.out 0;have B8:=bF Bd.out 1)|(go_at_call 15;(with_reducible refine (laws_qdQueue.calls k1 _ _ t341 t344 _ _ t350 t353 false _ ?side1 ?side2 ?side3 ?side4 A39.out).mono ?_);(case side1=>refine (Kd.R_reads' (e:=40) (base:=w.heap.size) (ok:=fun k_=>((True∧some k_≠(.slice Ao23 x339000_1.length co23:Value).ownBlock)∧some k_≠(.slice Ao32 t350.length co32:Value).ownBlock)) (n:=t341.length) (c:=co26) ?_).2.2;exact (by (with_reducible repeat (first|apply rA|apply rN|apply rD));exact (rM (rF (p:=⟨Bb,1,none⟩) (rF (p:=⟨Bb,0,none⟩) (rT Bi.out Bd.out (by decide)) (fun _ hk=>hk.2) (.slice Ao32 t350.length co32)) (fun _ hk=>hk.2) (.int .i64 t353)) (fun _ h_=>h_.1))));(case side2=>exact (Kd.R_reads' Bi.out).2.1);(case side3=>refine (Kd.R_reads' (e:=40) (base:=w.heap.size) (ok:=fun k_=>((True∧some k_≠(.slice Ao23 x339000_1.length co23:Value).ownBlock)∧some k_≠(.slice Ao26 t341.length co26:Value).ownBlock)) (n:=t350.length) (c:=co32) ?_).2.2;exact (by (with_reducible repeat (first|apply rA|apply rN|apply rD));exact (rM (rF (p:=⟨Bb,1,none⟩) (rF (p:=⟨Bb,0,none⟩) (rT Bl.out Bd.out (by decide)) (fun _ hk=>hk.2) (.slice Ao32 t350.length co32)) (fun _ hk=>hk.2) (.int .i64 t353)) (fun _ h_=>h_.1))));(case side4=>exact (Kd.R_reads' Bl.out).2.1);rintro e w56 ⟨rfl,hb⟩;have n0_:=Am (rB (by (with_reducible repeat (first|apply rA|apply rN|apply rD));exact (rM (rF (p:=⟨Bb,1,none⟩) (rF (p:=⟨Bb,0,none⟩) (rT Ba.out Bd.out (by decide)) (fun _ hk=>hk.2) (.slice Ao32 t350.length co32)) (fun _ hk=>hk.2) (.int .i64 t353)) (fun _ h_=>h_.1))) hb);have n1_:=Am (rB (by (with_reducible repeat (first|apply rA|apply rN|apply rD));exact (rM (rF (p:=⟨Bb,1,none⟩) (rF (p:=⟨Bb,0,none⟩) (rT Bi.out Bd.out (by decide)) (fun _ hk=>hk.2) (.slice Ao32 t350.length co32)) (fun _ hk=>hk.2) (.int .i64 t353)) (fun _ h_=>h_.1))) hb);have n2_:=Am (rB (by (with_reducible repeat (first|apply rA|apply rN|apply rD));exact (rM (rF (p:=⟨Bb,1,none⟩) (rF (p:=⟨Bb,0,none⟩) (rT Bh.out Bd.out (by decide)) (fun _ hk=>hk.2) (.slice Ao32 t350.length co32)) (fun _ hk=>hk.2) (.int .i64 t353)) (fun _ h_=>h_.1))) hb);have n3_:=Am (rB (by (with_reducible repeat (first|apply rA|apply rN|apply rD));exact (rM (rF (p:=⟨Bb,1,none⟩) (rF (p:=⟨Bb,0,none⟩) (rT Bl.out Bd.out (by decide)) (fun _ hk=>hk.2) (.slice Ao32 t350.length co32)) (fun _ hk=>hk.2) (.int .i64 t353)) (fun _ h_=>h_.1))) hb);have n4_:=Am (rB (by (with_reducible repeat (first|apply rA|apply rN|apply rD));exact (rM (rF (p:=⟨Bb,1,none⟩) (rF (p:=⟨Bb,0,none⟩) (rT Bk.out Bd.out (by decide)) (fun _ hk=>hk.2) (.slice Ao32 t350.length co32)) (fun _ hk=>hk.2) (.int .i64 t353)) (fun _ h_=>h_.1))) hb);have n5_:=Am (bB (g:=Bg) (o:=.cells #[.slice Ao23 x339000_1.length co23,.int .i64 t336] 25 (0,0)) (by (with_reducible repeat (first|refine bN ?_ _|refine bD ?_|refine bA ?_ _|refine blk_far ?_ Bo.out _));exact Bc.out) hb);have n6_:=Am (bB (g:=Bf) (o:=.cells #[.slice Ao26 t341.length co26,.int .i64 t344] 25 (0,0)) (by (with_reducible repeat (first|refine bN ?_ _|refine bD ?_|refine bA ?_ _|refine blk_far ?_ Bm.out _));exact Be.out) hb);have n7_:=Am (bB (g:=Bb) (o:=.cells #[.slice Ao32 t350.length co32,.int .i64 t353] 25 (0,0)) (by (with_reducible repeat (first|refine bN ?_ _|refine bD ?_|refine bA ?_ _));refine blk_put (cs:=#[.slice Ao32 t350.length co32,.int .i64 0]) ?_ 1 _ rfl;(with_reducible repeat (first|refine bN ?_ _|refine bD ?_|refine bA ?_ _));refine blk_put (cs:=#[.slice none 0 0,.int .i64 0]) ?_ 0 _ rfl;(with_reducible repeat (first|refine bN ?_ _|refine bD ?_|refine bA ?_ _));exact Bd.out) hb);have n8_:=Am (bP (by repeat (first|(with_reducible first|exact HB.out|apply oA|apply pN|apply o1|refine bS ?_ Bj.out|refine bS ?_ Bp.out|refine bS ?_ Bv.out)|exact HB.out)) hb);clear Ba Bi Bh Bl Bk Bc Be Bd HB;revert n0_ n1_ n2_ n3_ n4_ n5_ n6_ n7_ n8_;intro Ba Bi Bh Bl Bk Bc Be Bd HB;(try clear hb);(try clear hb2);(try clear hk);(try clear hi)))
    repeat (go_quiet (first|(go_at_call 32;(with_reducible refine (laws_qdInts.calls k1 _ _ t345 _ _ t354 true _ ?side1 ?side2 ?side3 ?side4 A37.out).mono ?_);(case side1=>refine (Kd.R_reads' (e:=3) (base:=w.heap.size) (ok:=fun k_=>(True∧some k_≠(.slice Ao50 t354.length co50:Value).ownBlock)) (n:=t345.length) (c:=co49) ?_).2.2;exact (by (with_reducible repeat (first|apply rA|apply rN|apply rD));exact (rM (rF (p:=⟨Bb,1,none⟩) (rF (p:=⟨Bb,0,none⟩) (rT Bh.out Bd.out (by decide)) (fun _ hk=>hk.2) (.slice Ao32 t350.length co32)) (fun _ hk=>hk.2) (.int .i64 t353)) (fun _ h_=>h_.1))));(case side2=>exact (Kd.R_reads' Bh.out).2.1);(case side3=>refine (Kd.R_reads' (e:=3) (base:=w.heap.size) (ok:=fun k_=>(True∧some k_≠(.slice Ao49 t345.length co49:Value).ownBlock)) (n:=t354.length) (c:=co50) ?_).2.2;exact (by (with_reducible repeat (first|apply rA|apply rN|apply rD));exact (rM (rF (p:=⟨Bb,1,none⟩) (rF (p:=⟨Bb,0,none⟩) (rT Bk.out Bd.out (by decide)) (fun _ hk=>hk.2) (.slice Ao32 t350.length co32)) (fun _ hk=>hk.2) (.int .i64 t353)) (fun _ h_=>h_.1))));(case side4=>exact (Kd.R_reads' Bk.out).2.1);rintro e w' ⟨rfl,⟨nd,rfl⟩⟩;(try first|exact ⟨rfl,_,World.drewN_drewN _ _ _⟩|exact ⟨rfl,_,Eq.trans (World.drewN_drewN _ _ _) (congrArg (World.drewN _) (Nat.add_assoc _ _ _))⟩);have DF:=Bs.out;have DG:=Bq.out;have DH:=Bm.out;have DI:=Bt.out;have B1:w31.cell? ⟨Bf,0,none⟩=some (.slice Ao26 t341.length co26):=(bC Be.out 0).trans rfl;have B2:w31.cell? ⟨Bf,1,none⟩=some (.int .i64 t344):=(bC Be.out 1).trans rfl;have B3:=bF Be.out 0;have B4:=bF Be.out 1;have DJ:=Bu.out;have DK:=Bo.out;have B5:w31.cell? ⟨Bb,0,none⟩=some (.slice none 0 0):=(bC Bd.out 0).trans rfl;have B6:w31.cell? ⟨Bb,1,none⟩=some (.int .i64 0):=(bC Bd.out 1).trans rfl;have B7:=bF Bd.out 0;have B8:=bF Bd.out 1)|(go_at_call 15;(with_reducible refine (laws_qdQueue.calls k1 _ _ t341 t344 _ _ t350 t353 false _ ?side1 ?side2 ?side3 ?side4 A39.out).mono ?_);(case side1=>refine (Kd.R_reads' (e:=40) (base:=w.heap.size) (ok:=fun k_=>((True∧some k_≠(.slice Ao23 x339000_1.length co23:Value).ownBlock)∧some k_≠(.slice Ao32 t350.length co32:Value).ownBlock)) (n:=t341.length) (c:=co26) ?_).2.2;exact (by (with_reducible repeat (first|apply rA|apply rN|apply rD));exact (rM (rF (p:=⟨Bb,1,none⟩) (rF (p:=⟨Bb,0,none⟩) (rT Bi.out Bd.out (by decide)) (fun _ hk=>hk.2) (.slice Ao32 t350.length co32)) (fun _ hk=>hk.2) (.int .i64 t353)) (fun _ h_=>h_.1))));(case side2=>exact (Kd.R_reads' Bi.out).2.1);(case side3=>refine (Kd.R_reads' (e:=40) (base:=w.heap.size) (ok:=fun k_=>((True∧some k_≠(.slice Ao23 x339000_1.length co23:Value).ownBlock)∧some k_≠(.slice Ao26 t341.length co26:Value).ownBlock)) (n:=t350.length) (c:=co32) ?_).2.2;exact (by (with_reducible repeat (first|apply rA|apply rN|apply rD));exact (rM (rF (p:=⟨Bb,1,none⟩) (rF (p:=⟨Bb,0,none⟩) (rT Bl.out Bd.out (by decide)) (fun _ hk=>hk.2) (.slice Ao32 t350.length co32)) (fun _ hk=>hk.2) (.int .i64 t353)) (fun _ h_=>h_.1))));(case side4=>exact (Kd.R_reads' Bl.out).2.1);rintro e w56 ⟨rfl,hb⟩;have n0_:=Am (rB (by (with_reducible repeat (first|apply rA|apply rN|apply rD));exact (rM (rF (p:=⟨Bb,1,none⟩) (rF (p:=⟨Bb,0,none⟩) (rT Ba.out Bd.out (by decide)) (fun _ hk=>hk.2) (.slice Ao32 t350.length co32)) (fun _ hk=>hk.2) (.int .i64 t353)) (fun _ h_=>h_.1))) hb);have n1_:=Am (rB (by (with_reducible repeat (first|apply rA|apply rN|apply rD));exact (rM (rF (p:=⟨Bb,1,none⟩) (rF (p:=⟨Bb,0,none⟩) (rT Bi.out Bd.out (by decide)) (fun _ hk=>hk.2) (.slice Ao32 t350.length co32)) (fun _ hk=>hk.2) (.int .i64 t353)) (fun _ h_=>h_.1))) hb);have n2_:=Am (rB (by (with_reducible repeat (first|apply rA|apply rN|apply rD));exact (rM (rF (p:=⟨Bb,1,none⟩) (rF (p:=⟨Bb,0,none⟩) (rT Bh.out Bd.out (by decide)) (fun _ hk=>hk.2) (.slice Ao32 t350.length co32)) (fun _ hk=>hk.2) (.int .i64 t353)) (fun _ h_=>h_.1))) hb);have n3_:=Am (rB (by (with_reducible repeat (first|apply rA|apply rN|apply rD));exact (rM (rF (p:=⟨Bb,1,none⟩) (rF (p:=⟨Bb,0,none⟩) (rT Bl.out Bd.out (by decide)) (fun _ hk=>hk.2) (.slice Ao32 t350.length co32)) (fun _ hk=>hk.2) (.int .i64 t353)) (fun _ h_=>h_.1))) hb);have n4_:=Am (rB (by (with_reducible repeat (first|apply rA|apply rN|apply rD));exact (rM (rF (p:=⟨Bb,1,none⟩) (rF (p:=⟨Bb,0,none⟩) (rT Bk.out Bd.out (by decide)) (fun _ hk=>hk.2) (.slice Ao32 t350.length co32)) (fun _ hk=>hk.2) (.int .i64 t353)) (fun _ h_=>h_.1))) hb);have n5_:=Am (bB (g:=Bg) (o:=.cells #[.slice Ao23 x339000_1.length co23,.int .i64 t336] 25 (0,0)) (by (with_reducible repeat (first|refine bN ?_ _|refine bD ?_|refine bA ?_ _|refine blk_far ?_ Bo.out _));exact Bc.out) hb);have n6_:=Am (bB (g:=Bf) (o:=.cells #[.slice Ao26 t341.length co26,.int .i64 t344] 25 (0,0)) (by (with_reducible repeat (first|refine bN ?_ _|refine bD ?_|refine bA ?_ _|refine blk_far ?_ Bm.out _));exact Be.out) hb);have n7_:=Am (bB (g:=Bb) (o:=.cells #[.slice Ao32 t350.length co32,.int .i64 t353] 25 (0,0)) (by (with_reducible repeat (first|refine bN ?_ _|refine bD ?_|refine bA ?_ _));refine blk_put (cs:=#[.slice Ao32 t350.length co32,.int .i64 0]) ?_ 1 _ rfl;(with_reducible repeat (first|refine bN ?_ _|refine bD ?_|refine bA ?_ _));refine blk_put (cs:=#[.slice none 0 0,.int .i64 0]) ?_ 0 _ rfl;(with_reducible repeat (first|refine bN ?_ _|refine bD ?_|refine bA ?_ _));exact Bd.out) hb);have n8_:=Am (bP (by repeat (first|(with_reducible first|exact HB.out|apply oA|apply pN|apply o1|refine bS ?_ Bj.out|refine bS ?_ Bp.out|refine bS ?_ Bv.out)|exact HB.out)) hb);clear Ba Bi Bh Bl Bk Bc Be Bd HB;revert n0_ n1_ n2_ n3_ n4_ n5_ n6_ n7_ n8_;intro Ba Bi Bh Bl Bk Bc Be Bd HB;(try clear hb);(try clear hb2);(try clear hk);(try clear hi)));try go_wp2_with (first|(go_at_call 32;(with_reducible refine (laws_qdInts.calls k1 _ _ t345 _ _ t354 true _ ?side1 ?side2 ?side3 ?side4 A37.out).mono ?_);(case side1=>refine (Kd.R_reads' (e:=3) (base:=w.heap.size) (ok:=fun k_=>(True∧some k_≠(.slice Ao50 t354.length co50:Value).ownBlock)) (n:=t345.length) (c:=co49) ?_).2.2;exact (by (with_reducible repeat (first|apply rA|apply rN|apply rD));exact (rM (rF (p:=⟨Bb,1,none⟩) (rF (p:=⟨Bb,0,none⟩) (rT Bh.out Bd.out (by decide)) (fun _ hk=>hk.2) (.slice Ao32 t350.length co32)) (fun _ hk=>hk.2) (.int .i64 t353)) (fun _ h_=>h_.1))));(case side2=>exact (Kd.R_reads' Bh.out).2.1);(case side3=>refine (Kd.R_reads' (e:=3) (base:=w.heap.size) (ok:=fun k_=>(True∧some k_≠(.slice Ao49 t345.length co49:Value).ownBlock)) (n:=t354.length) (c:=co50) ?_).2.2;exact (by (with_reducible repeat (first|apply rA|apply rN|apply rD));exact (rM (rF (p:=⟨Bb,1,none⟩) (rF (p:=⟨Bb,0,none⟩) (rT Bk.out Bd.out (by decide)) (fun _ hk=>hk.2) (.slice Ao32 t350.length co32)) (fun _ hk=>hk.2) (.int .i64 t353)) (fun _ h_=>h_.1))));(case side4=>exact (Kd.R_reads' Bk.out).2.1);rintro e w' ⟨rfl,⟨nd,rfl⟩⟩;(try first|exact ⟨rfl,_,World.drewN_drewN _ _ _⟩|exact ⟨rfl,_,Eq.trans (World.drewN_drewN _ _ _) (congrArg (World.drewN _) (Nat.add_assoc _ _ _))⟩);have DF:=Bs.out;have DG:=Bq.out;have DH:=Bm.out;have DI:=Bt.out;have B1:w31.cell? ⟨Bf,0,none⟩=some (.slice Ao26 t341.length co26):=(bC Be.out 0).trans rfl;have B2:w31.cell? ⟨Bf,1,none⟩=some (.int .i64 t344):=(bC Be.out 1).trans rfl;have B3:=bF Be.out 0;have B4:=bF Be.out 1;have DJ:=Bu.out;have DK:=Bo.out;have B5:w31.cell? ⟨Bb,0,none⟩=some (.slice none 0 0):=(bC Bd.out 0).trans rfl;have B6:w31.cell? ⟨Bb,1,none⟩=some (.int .i64 0):=(bC Bd.out 1).trans rfl;have B7:=bF Bd.out 0;have B8:=bF Bd.out 1)|(go_at_call 15;(with_reducible refine (laws_qdQueue.calls k1 _ _ t341 t344 _ _ t350 t353 false _ ?side1 ?side2 ?side3 ?side4 A39.out).mono ?_);(case side1=>refine (Kd.R_reads' (e:=40) (base:=w.heap.size) (ok:=fun k_=>((True∧some k_≠(.slice Ao23 x339000_1.length co23:Value).ownBlock)∧some k_≠(.slice Ao32 t350.length co32:Value).ownBlock)) (n:=t341.length) (c:=co26) ?_).2.2;exact (by (with_reducible repeat (first|apply rA|apply rN|apply rD));exact (rM (rF (p:=⟨Bb,1,none⟩) (rF (p:=⟨Bb,0,none⟩) (rT Bi.out Bd.out (by decide)) (fun _ hk=>hk.2) (.slice Ao32 t350.length co32)) (fun _ hk=>hk.2) (.int .i64 t353)) (fun _ h_=>h_.1))));(case side2=>exact (Kd.R_reads' Bi.out).2.1);(case side3=>refine (Kd.R_reads' (e:=40) (base:=w.heap.size) (ok:=fun k_=>((True∧some k_≠(.slice Ao23 x339000_1.length co23:Value).ownBlock)∧some k_≠(.slice Ao26 t341.length co26:Value).ownBlock)) (n:=t350.length) (c:=co32) ?_).2.2;exact (by (with_reducible repeat (first|apply rA|apply rN|apply rD));exact (rM (rF (p:=⟨Bb,1,none⟩) (rF (p:=⟨Bb,0,none⟩) (rT Bl.out Bd.out (by decide)) (fun _ hk=>hk.2) (.slice Ao32 t350.length co32)) (fun _ hk=>hk.2) (.int .i64 t353)) (fun _ h_=>h_.1))));(case side4=>exact (Kd.R_reads' Bl.out).2.1);rintro e w56 ⟨rfl,hb⟩;have n0_:=Am (rB (by (with_reducible repeat (first|apply rA|apply rN|apply rD));exact (rM (rF (p:=⟨Bb,1,none⟩) (rF (p:=⟨Bb,0,none⟩) (rT Ba.out Bd.out (by decide)) (fun _ hk=>hk.2) (.slice Ao32 t350.length co32)) (fun _ hk=>hk.2) (.int .i64 t353)) (fun _ h_=>h_.1))) hb);have n1_:=Am (rB (by (with_reducible repeat (first|apply rA|apply rN|apply rD));exact (rM (rF (p:=⟨Bb,1,none⟩) (rF (p:=⟨Bb,0,none⟩) (rT Bi.out Bd.out (by decide)) (fun _ hk=>hk.2) (.slice Ao32 t350.length co32)) (fun _ hk=>hk.2) (.int .i64 t353)) (fun _ h_=>h_.1))) hb);have n2_:=Am (rB (by (with_reducible repeat (first|apply rA|apply rN|apply rD));exact (rM (rF (p:=⟨Bb,1,none⟩) (rF (p:=⟨Bb,0,none⟩) (rT Bh.out Bd.out (by decide)) (fun _ hk=>hk.2) (.slice Ao32 t350.length co32)) (fun _ hk=>hk.2) (.int .i64 t353)) (fun _ h_=>h_.1))) hb);have n3_:=Am (rB (by (with_reducible repeat (first|apply rA|apply rN|apply rD));exact (rM (rF (p:=⟨Bb,1,none⟩) (rF (p:=⟨Bb,0,none⟩) (rT Bl.out Bd.out (by decide)) (fun _ hk=>hk.2) (.slice Ao32 t350.length co32)) (fun _ hk=>hk.2) (.int .i64 t353)) (fun _ h_=>h_.1))) hb);have n4_:=Am (rB (by (with_reducible repeat (first|apply rA|apply rN|apply rD));exact (rM (rF (p:=⟨Bb,1,none⟩) (rF (p:=⟨Bb,0,none⟩) (rT Bk.out Bd.out (by decide)) (fun _ hk=>hk.2) (.slice Ao32 t350.length co32)) (fun _ hk=>hk.2) (.int .i64 t353)) (fun _ h_=>h_.1))) hb);have n5_:=Am (bB (g:=Bg) (o:=.cells #[.slice Ao23 x339000_1.length co23,.int .i64 t336] 25 (0,0)) (by (with_reducible repeat (first|refine bN ?_ _|refine bD ?_|refine bA ?_ _|refine blk_far ?_ Bo.out _));exact Bc.out) hb);have n6_:=Am (bB (g:=Bf) (o:=.cells #[.slice Ao26 t341.length co26,.int .i64 t344] 25 (0,0)) (by (with_reducible repeat (first|refine bN ?_ _|refine bD ?_|refine bA ?_ _|refine blk_far ?_ Bm.out _));exact Be.out) hb);have n7_:=Am (bB (g:=Bb) (o:=.cells #[.slice Ao32 t350.length co32,.int .i64 t353] 25 (0,0)) (by (with_reducible repeat (first|refine bN ?_ _|refine bD ?_|refine bA ?_ _));refine blk_put (cs:=#[.slice Ao32 t350.length co32,.int .i64 0]) ?_ 1 _ rfl;(with_reducible repeat (first|refine bN ?_ _|refine bD ?_|refine bA ?_ _));refine blk_put (cs:=#[.slice none 0 0,.int .i64 0]) ?_ 0 _ rfl;(with_reducible repeat (first|refine bN ?_ _|refine bD ?_|refine bA ?_ _));exact Bd.out) hb);have n8_:=Am (bP (by repeat (first|(with_reducible first|exact HB.out|apply oA|apply pN|apply o1|refine bS ?_ Bj.out|refine bS ?_ Bp.out|refine bS ?_ Bv.out)|exact HB.out)) hb);clear Ba Bi Bh Bl Bk Bc Be Bd HB;revert n0_ n1_ n2_ n3_ n4_ n5_ n6_ n7_ n8_;intro Ba Bi Bh Bl Bk Bc Be Bd HB;(try clear hb);(try clear hb2);(try clear hk);(try clear hi))))
    go_meet
    case rel=>exact ⟨_,(true),(by first|rfl|(simp;done)|(simp [*];done)),H',⟨by have:=HK1.out;first|omega|exact Nat.le_refl _⟩,⟨by (with_reducible repeat (first|apply rA|apply rN|apply rD));exact rM Bh.out (fun _ hk=>hk.2)⟩,⟨by (with_reducible repeat (first|apply rA|apply rN|apply rD));exact rM Bk.out (fun _ hk=>hk.2)⟩,⟨by (with_reducible repeat (first|apply rA|apply rN|apply rD));exact rM Ba.out (fun _ hk=>⟨hk.1.2,hk.2⟩)⟩,⟨by (with_reducible repeat (first|apply rA|apply rN|apply rD));exact rM Bi.out (fun _ hk=>⟨hk.1.2,hk.2⟩)⟩,⟨by (with_reducible repeat (first|apply rA|apply rN|apply rD));exact rM Bl.out (fun _ hk=>⟨hk.1.2,hk.2⟩)⟩,⟨by (with_reducible repeat (first|refine bN ?_ _|refine bD ?_|refine bA ?_ _));exact Bc.out⟩,⟨by (with_reducible repeat (first|refine bN ?_ _|refine bD ?_|refine bA ?_ _));exact Be.out⟩,⟨by (with_reducible repeat (first|refine bN ?_ _|refine bD ?_|refine bA ?_ _));exact Bd.out⟩,⟨by repeat (first|(with_reducible first|exact HB.out|apply oA|apply pN|apply o1|refine bS ?_ Bj.out|refine bS ?_ Bp.out|refine bS ?_ Bv.out)|exact HB.out)⟩⟩
   case rest =>
    clear HC21
    try clear c1
    try clear p1
    try clear q1
    try clear hx1
    try clear hf1
    try clear c2
    try clear c2b0
    try clear c2b1
    try clear p2
    try clear c3
    try clear c4
    try clear c5
    try clear p6
    try clear c8
    try clear c8b0
    try clear c9
    try clear c9b0
    try clear c10
    try clear p10
    try clear q10
    try clear hx10
    try clear hf10
    try clear c11
    try clear p11
    try clear q11
    try clear hx11
    try clear hf11
    try clear c14
    try clear hx14
    try clear hf14
    try clear c17
    try clear hx17
    try clear hf17
    try clear c27
    try clear c33
    try clear c34
    try clear c36
    try clear c36b0
    try clear c36b1
    try clear c36b2
    try clear c38
    try clear c40
    try clear c43
    try clear c44
    try clear c46
    try clear c51
    try clear c52
    try clear c54
    try clear Dh
    try clear Di
    try clear BD
    try clear BE
    try clear Dl
    try clear Dm
    try clear BH
    try clear BI
    try clear BL
    try clear BM
    try clear BP
    try clear BQ
    try clear BT
    try clear BU
    try clear BX
    try clear BY
    try clear B1
    try clear B2
    try clear B5
    try clear B6
    try clear Bz
    try clear BA
    try clear Dj
    try clear Dk
    try clear BF
    try clear BG
    try clear Dn
    try clear Do
    try clear BJ
    try clear BK
    try clear BN
    try clear BO
    try clear BR
    try clear BS
    try clear BV
    try clear BW
    try clear BZ
    try clear B0
    try clear B3
    try clear B4
    try clear B7
    try clear B8
    try clear BB
    try clear BC
    try clear hx10_0
    try clear hx10_1
    try clear hx10_2
    try clear hx10_3
    try clear hx11_0
    try clear hx11_1
    try clear hx11_2
    try clear hx11_3
    try clear hx14_3
    try clear hx17_2
    try clear p10
    try clear p11
    try clear p2
    try clear q10
    try clear q11
    obtain ⟨kq,x73_20,rfl,HA,Dp,By,Bw,Ba,Bn,Br,Bc,Be,Bd,HB⟩:=hcut
    cases kq with
   |zero=>exact absurd HA.out (by simp [laws_FnShareFair.j1])
   |succ kj20 =>
     have H:=HA.out
     clear HA
     simp only [laws_FnShareFair.j1] at H
     by_cases c59:x73_20=true
     ·subst c59
      have H1:(if (t348 == t357)=true then ((laws_qdInts.f kj20 t345 t354).bind fun t361=>(if t361=true then ((laws_qdQueue.f kj20 t341 t344 t350 t353).bind fun t362=>(some t362)) else (some false))) else (some false))=some r:=by rw [if_pos rfl] at H;exact H
      clear H
      have H:=H1
      clear H1
      by_cases c60:(t348 == t357)=true
      rotate_left
      ·rw [if_neg c60] at H
       have c60b0:(t348 == t357)=false:=by simpa using c60
       (try (have c60b1:decide (t348=t357)=false:=by simpa using c60))
       (try (have c60b2:(t348 == t357)=false:=by simpa using c60))
       (try (have c60b3:¬ (t348=t357):=by simpa using c60))
       clear c60
       exact absurd ((Option.some.inj H).trans hT_.out) (by decide)
      rw [if_pos c60] at H
      have c60b0:(t348 == t357)=true:=c60
      (try (have c60b1:decide (t348=t357)=true:=by simpa using c60))
      (try (have c60b2:(t348 == t357)=true:=by simpa using c60))
      clear c60
      replace H:=oC H
      obtain ⟨t361,A610,H⟩:=H
      replace H:(if t361=true then ((laws_qdQueue.f kj20 t341 t344 t350 t353).bind fun t362=>(some t362)) else (some false))=some r:=H
      have A61:=Am A610
      clear A610
      by_cases c62:t361=true
      rotate_left
      ·replace c62:=Bool.eq_false_iff.mpr c62
       subst c62
       have H1:(some false)=some r:=by rw [if_neg (show ¬ (false=true) by decide)] at H;exact H
       clear H
       have H:=H1
       clear H1
       exact absurd ((Option.some.inj H).trans hT_.out) (by decide)
      subst c62
      have H1:((laws_qdQueue.f kj20 t341 t344 t350 t353).bind fun t362=>(some t362))=some r:=by rw [if_pos rfl] at H;exact H
      clear H
      have H:=H1
      clear H1
      replace H:=oC H
      obtain ⟨t362,A630,H⟩:=H
      replace H:(some t362)=some r:=H
      have A63:=Am A630
      clear A630
      obtain rfl:=Option.some.inj H
      obtain ⟨Ao64,co64,eo64⟩:=Kd.R_slice By.out
      subst eo64
      obtain ⟨Ao65,co65,eo65⟩:=Kd.R_slice Bw.out
      subst eo65
      go_wp2_with (first|(go_at_call 32;(with_reducible refine (laws_qdInts.calls kj20 _ _ t345 _ _ t354 true _ ?side1 ?side2 ?side3 ?side4 A61.out).mono ?_);(case side1=>repeat (first|exact (Kd.R_reads' By.out).2.2|(with_reducible refine cA ?_ _)|(with_reducible refine cN ?_ _)|(with_reducible refine cD ?_)));(case side2=>exact (Kd.R_reads' By.out).2.1);(case side3=>repeat (first|exact (Kd.R_reads' Bw.out).2.2|(with_reducible refine cA ?_ _)|(with_reducible refine cN ?_ _)|(with_reducible refine cD ?_)));(case side4=>exact (Kd.R_reads' Bw.out).2.1);rintro e w' ⟨rfl,⟨nd,rfl⟩⟩;(try first|exact ⟨rfl,_,World.drewN_drewN _ _ _⟩|exact ⟨rfl,_,Eq.trans (World.drewN_drewN _ _ _) (congrArg (World.drewN _) (Nat.add_assoc _ _ _))⟩);have DL:=Bs.out;have DM:=Bq.out;have DN:=Bm.out;have DO:=Bt.out;have B9:wc.cell? ⟨Bf,0,none⟩=some (.slice Ao26 t341.length co26):=(bC Be.out 0).trans rfl;have Da:wc.cell? ⟨Bf,1,none⟩=some (.int .i64 t344):=(bC Be.out 1).trans rfl;have Db:=bF Be.out 0;have Dc:=bF Be.out 1;have DP:=Bu.out;have DQ:=Bo.out;have Dd:wc.cell? ⟨Bb,0,none⟩=some (.slice Ao32 t350.length co32):=(bC Bd.out 0).trans rfl;have De:wc.cell? ⟨Bb,1,none⟩=some (.int .i64 t353):=(bC Bd.out 1).trans rfl;have Df:=bF Bd.out 0;have Dg:=bF Bd.out 1)|(go_at_call 15;(with_reducible refine (laws_qdQueue.calls kj20 _ _ t341 t344 _ _ t350 t353 t362 _ ?side1 ?side2 ?side3 ?side4 A63.out).mono ?_);(case side1=>repeat (first|exact (Kd.R_reads' Bn.out).2.2|(with_reducible refine cA ?_ _)|(with_reducible refine cN ?_ _)|(with_reducible refine cD ?_)));(case side2=>exact (Kd.R_reads' Bn.out).2.1);(case side3=>repeat (first|exact (Kd.R_reads' Br.out).2.2|(with_reducible refine cA ?_ _)|(with_reducible refine cN ?_ _)|(with_reducible refine cD ?_)));(case side4=>exact (Kd.R_reads' Br.out).2.1);rintro e w71 ⟨rfl,hb⟩;have n0_:=Am (rB (rL By.out) hb);have n1_:=Am (rB (rL Bw.out) hb);have n2_:=Am (rB (rL Ba.out) hb);have n3_:=Am (rB (rL Bn.out) hb);have n4_:=Am (rB (rL Br.out) hb);have n5_:=Am (bB (g:=Bg) (o:=.cells #[.slice Ao23 x339000_1.length co23,.int .i64 t336] 25 (0,0)) (bL Bc.out) hb);have n6_:=Am (bB (g:=Bf) (o:=.cells #[.slice Ao26 t341.length co26,.int .i64 t344] 25 (0,0)) (bL Be.out) hb);have n7_:=Am (bB (g:=Bb) (o:=.cells #[.slice Ao32 t350.length co32,.int .i64 t353] 25 (0,0)) (bL Bd.out) hb);have n8_:=Am (bP (by repeat (first|(with_reducible first|exact HB.out|apply oA|apply pN|apply o1|refine bS ?_ Bj.out|refine bS ?_ Bp.out|refine bS ?_ Bv.out)|exact HB.out)) hb);clear By Bw Ba Bn Br Bc Be Bd HB;revert n0_ n1_ n2_ n3_ n4_ n5_ n6_ n7_ n8_;intro By Bw Ba Bn Br Bc Be Bd HB;(try clear hb);(try clear hb2);(try clear hk);(try clear hi)))
      repeat (go_quiet (first|(go_at_call 32;(with_reducible refine (laws_qdInts.calls kj20 _ _ t345 _ _ t354 true _ ?side1 ?side2 ?side3 ?side4 A61.out).mono ?_);(case side1=>repeat (first|exact (Kd.R_reads' By.out).2.2|(with_reducible refine cA ?_ _)|(with_reducible refine cN ?_ _)|(with_reducible refine cD ?_)));(case side2=>exact (Kd.R_reads' By.out).2.1);(case side3=>repeat (first|exact (Kd.R_reads' Bw.out).2.2|(with_reducible refine cA ?_ _)|(with_reducible refine cN ?_ _)|(with_reducible refine cD ?_)));(case side4=>exact (Kd.R_reads' Bw.out).2.1);rintro e w' ⟨rfl,⟨nd,rfl⟩⟩;(try first|exact ⟨rfl,_,World.drewN_drewN _ _ _⟩|exact ⟨rfl,_,Eq.trans (World.drewN_drewN _ _ _) (congrArg (World.drewN _) (Nat.add_assoc _ _ _))⟩);have DL:=Bs.out;have DM:=Bq.out;have DN:=Bm.out;have DO:=Bt.out;have B9:wc.cell? ⟨Bf,0,none⟩=some (.slice Ao26 t341.length co26):=(bC Be.out 0).trans rfl;have Da:wc.cell? ⟨Bf,1,none⟩=some (.int .i64 t344):=(bC Be.out 1).trans rfl;have Db:=bF Be.out 0;have Dc:=bF Be.out 1;have DP:=Bu.out;have DQ:=Bo.out;have Dd:wc.cell? ⟨Bb,0,none⟩=some (.slice Ao32 t350.length co32):=(bC Bd.out 0).trans rfl;have De:wc.cell? ⟨Bb,1,none⟩=some (.int .i64 t353):=(bC Bd.out 1).trans rfl;have Df:=bF Bd.out 0;have Dg:=bF Bd.out 1)|(go_at_call 15;(with_reducible refine (laws_qdQueue.calls kj20 _ _ t341 t344 _ _ t350 t353 t362 _ ?side1 ?side2 ?side3 ?side4 A63.out).mono ?_);(case side1=>repeat (first|exact (Kd.R_reads' Bn.out).2.2|(with_reducible refine cA ?_ _)|(with_reducible refine cN ?_ _)|(with_reducible refine cD ?_)));(case side2=>exact (Kd.R_reads' Bn.out).2.1);(case side3=>repeat (first|exact (Kd.R_reads' Br.out).2.2|(with_reducible refine cA ?_ _)|(with_reducible refine cN ?_ _)|(with_reducible refine cD ?_)));(case side4=>exact (Kd.R_reads' Br.out).2.1);rintro e w71 ⟨rfl,hb⟩;have n0_:=Am (rB (rL By.out) hb);have n1_:=Am (rB (rL Bw.out) hb);have n2_:=Am (rB (rL Ba.out) hb);have n3_:=Am (rB (rL Bn.out) hb);have n4_:=Am (rB (rL Br.out) hb);have n5_:=Am (bB (g:=Bg) (o:=.cells #[.slice Ao23 x339000_1.length co23,.int .i64 t336] 25 (0,0)) (bL Bc.out) hb);have n6_:=Am (bB (g:=Bf) (o:=.cells #[.slice Ao26 t341.length co26,.int .i64 t344] 25 (0,0)) (bL Be.out) hb);have n7_:=Am (bB (g:=Bb) (o:=.cells #[.slice Ao32 t350.length co32,.int .i64 t353] 25 (0,0)) (bL Bd.out) hb);have n8_:=Am (bP (by repeat (first|(with_reducible first|exact HB.out|apply oA|apply pN|apply o1|refine bS ?_ Bj.out|refine bS ?_ Bp.out|refine bS ?_ Bv.out)|exact HB.out)) hb);clear By Bw Ba Bn Br Bc Be Bd HB;revert n0_ n1_ n2_ n3_ n4_ n5_ n6_ n7_ n8_;intro By Bw Ba Bn Br Bc Be Bd HB;(try clear hb);(try clear hb2);(try clear hk);(try clear hi)));try go_wp2_with (first|(go_at_call 32;(with_reducible refine (laws_qdInts.calls kj20 _ _ t345 _ _ t354 true _ ?side1 ?side2 ?side3 ?side4 A61.out).mono ?_);(case side1=>repeat (first|exact (Kd.R_reads' By.out).2.2|(with_reducible refine cA ?_ _)|(with_reducible refine cN ?_ _)|(with_reducible refine cD ?_)));(case side2=>exact (Kd.R_reads' By.out).2.1);(case side3=>repeat (first|exact (Kd.R_reads' Bw.out).2.2|(with_reducible refine cA ?_ _)|(with_reducible refine cN ?_ _)|(with_reducible refine cD ?_)));(case side4=>exact (Kd.R_reads' Bw.out).2.1);rintro e w' ⟨rfl,⟨nd,rfl⟩⟩;(try first|exact ⟨rfl,_,World.drewN_drewN _ _ _⟩|exact ⟨rfl,_,Eq.trans (World.drewN_drewN _ _ _) (congrArg (World.drewN _) (Nat.add_assoc _ _ _))⟩);have DL:=Bs.out;have DM:=Bq.out;have DN:=Bm.out;have DO:=Bt.out;have B9:wc.cell? ⟨Bf,0,none⟩=some (.slice Ao26 t341.length co26):=(bC Be.out 0).trans rfl;have Da:wc.cell? ⟨Bf,1,none⟩=some (.int .i64 t344):=(bC Be.out 1).trans rfl;have Db:=bF Be.out 0;have Dc:=bF Be.out 1;have DP:=Bu.out;have DQ:=Bo.out;have Dd:wc.cell? ⟨Bb,0,none⟩=some (.slice Ao32 t350.length co32):=(bC Bd.out 0).trans rfl;have De:wc.cell? ⟨Bb,1,none⟩=some (.int .i64 t353):=(bC Bd.out 1).trans rfl;have Df:=bF Bd.out 0;have Dg:=bF Bd.out 1)|(go_at_call 15;(with_reducible refine (laws_qdQueue.calls kj20 _ _ t341 t344 _ _ t350 t353 t362 _ ?side1 ?side2 ?side3 ?side4 A63.out).mono ?_);(case side1=>repeat (first|exact (Kd.R_reads' Bn.out).2.2|(with_reducible refine cA ?_ _)|(with_reducible refine cN ?_ _)|(with_reducible refine cD ?_)));(case side2=>exact (Kd.R_reads' Bn.out).2.1);(case side3=>repeat (first|exact (Kd.R_reads' Br.out).2.2|(with_reducible refine cA ?_ _)|(with_reducible refine cN ?_ _)|(with_reducible refine cD ?_)));(case side4=>exact (Kd.R_reads' Br.out).2.1);rintro e w71 ⟨rfl,hb⟩;have n0_:=Am (rB (rL By.out) hb);have n1_:=Am (rB (rL Bw.out) hb);have n2_:=Am (rB (rL Ba.out) hb);have n3_:=Am (rB (rL Bn.out) hb);have n4_:=Am (rB (rL Br.out) hb);have n5_:=Am (bB (g:=Bg) (o:=.cells #[.slice Ao23 x339000_1.length co23,.int .i64 t336] 25 (0,0)) (bL Bc.out) hb);have n6_:=Am (bB (g:=Bf) (o:=.cells #[.slice Ao26 t341.length co26,.int .i64 t344] 25 (0,0)) (bL Be.out) hb);have n7_:=Am (bB (g:=Bb) (o:=.cells #[.slice Ao32 t350.length co32,.int .i64 t353] 25 (0,0)) (bL Bd.out) hb);have n8_:=Am (bP (by repeat (first|(with_reducible first|exact HB.out|apply oA|apply pN|apply o1|refine bS ?_ Bj.out|refine bS ?_ Bp.out|refine bS ?_ Bv.out)|exact HB.out)) hb);clear By Bw Ba Bn Br Bc Be Bd HB;revert n0_ n1_ n2_ n3_ n4_ n5_ n6_ n7_ n8_;intro By Bw Ba Bn Br Bc Be Bd HB;(try clear hb);(try clear hb2);(try clear hk);(try clear hi))))
      go_ret
      exact ⟨by first|rfl|(simp [errW_none,errW_some] <;> rfl)|(simp [*,errW_none,errW_some] <;> rfl),by repeat (first|(with_reducible first|exact HB.out|apply oA|apply pN|apply o1|refine bS ?_ Bj.out|refine bS ?_ Bp.out|refine bS ?_ Bv.out)|exact HB.out)⟩
     replace c59:=Bool.eq_false_iff.mpr c59
     subst c59
     have H1:(laws_FnShareFair.l1 kj20 0 t341 t344)=some r:=by rw [if_neg (show ¬ (false=true) by decide)] at H;exact H
     clear H
     have H:=H1
     clear H1
     have H':=Am H
     clear H
     go_wp2
     repeat (go_quiet (fail);try go_wp2)
     go_loopg [12] kj20 (fun kq v12 w'=>∃ (x12_3:Int),v12=.int .i64 x12_3∧Aside0 (laws_FnShareFair.l1 kq x12_3 t341 t344=some r)∧Aside0 (kq≤kj20)∧Aside0 (Kd.R k40 40 w' w.heap.size (fun k_=>some k_≠((.slice Ao26 t341.length co26):Value).ownBlock∧some k_≠((.slice Ao32 t350.length co32):Value).ownBlock) (.slice Ao23 x339000_1.length co23) x339000_1)∧Aside0 (Kd.R k40 40 w' w.heap.size (fun k_=>some k_≠((.slice Ao23 x339000_1.length co23):Value).ownBlock∧some k_≠((.slice Ao32 t350.length co32):Value).ownBlock) (.slice Ao26 t341.length co26) t341)∧Aside0 (Kd.R k40 40 w' w.heap.size (fun k_=>some k_≠((.slice Ao23 x339000_1.length co23):Value).ownBlock∧some k_≠((.slice Ao26 t341.length co26):Value).ownBlock) (.slice Ao32 t350.length co32) t350)∧Aside0 (w'.heap[Bg]?=some (.cells #[(.slice Ao23 x339000_1.length co23),.int .i64 t336] 25 (0,0)))∧Aside0 (w'.heap[Bf]?=some (.cells #[(.slice Ao26 t341.length co26),.int .i64 t344] 25 (0,0)))∧Aside0 (w'.heap[Bb]?=some (.cells #[(.slice Ao32 t350.length co32),.int .i64 t353] 25 (0,0)))∧Aside0 (Below w.heap.size w w'))
     case atStart=>exact ⟨(0),(by first|rfl|(simp;done)|(simp [*];done)),H',⟨Nat.le_refl _⟩,⟨by (with_reducible repeat (first|apply rA|apply rN|apply rD));exact Ba.out⟩,⟨by (with_reducible repeat (first|apply rA|apply rN|apply rD));exact Bn.out⟩,⟨by (with_reducible repeat (first|apply rA|apply rN|apply rD));exact Br.out⟩,⟨by (with_reducible repeat (first|refine bN ?_ _|refine bD ?_|refine bA ?_ _));exact Bc.out⟩,⟨by (with_reducible repeat (first|refine bN ?_ _|refine bD ?_|refine bA ?_ _));exact Be.out⟩,⟨by (with_reducible repeat (first|refine bN ?_ _|refine bD ?_|refine bA ?_ _));exact Bd.out⟩,⟨by repeat (first|(with_reducible first|exact HB.out|apply oA|apply pN|apply o1|refine bS ?_ Bj.out|refine bS ?_ Bp.out|refine bS ?_ Bv.out)|exact HB.out)⟩⟩
     case round =>
      clear H'
      try clear c1
      try clear p1
      try clear q1
      try clear hx1
      try clear hf1
      try clear c2
      try clear c2b0
      try clear c2b1
      try clear p2
      try clear c3
      try clear c4
      try clear c5
      try clear c6
      try clear p6
      try clear c8
      try clear c8b0
      try clear c9
      try clear c9b0
      try clear c10
      try clear p10
      try clear q10
      try clear hx10
      try clear hf10
      try clear c11
      try clear p11
      try clear q11
      try clear hx11
      try clear hf11
      try clear c14
      try clear hx14
      try clear hf14
      try clear c17
      try clear hx17
      try clear hf17
      try clear c27
      try clear c33
      try clear c34
      try clear c36
      try clear c36b0
      try clear c36b1
      try clear c36b2
      try clear c38
      try clear c40
      try clear c43
      try clear c44
      try clear c46
      try clear c51
      try clear c52
      try clear c54
      try clear c59
      try clear c60
      try clear c60b0
      try clear c60b1
      try clear c60b2
      try clear c62
      try clear p64
      try clear c66
      try clear c67
      try clear c69
      try clear Dh
      try clear Di
      try clear BD
      try clear BE
      try clear Dl
      try clear Dm
      try clear BH
      try clear BI
      try clear BL
      try clear BM
      try clear BP
      try clear BQ
      try clear BT
      try clear BU
      try clear BX
      try clear BY
      try clear B1
      try clear B2
      try clear B5
      try clear B6
      try clear B9
      try clear Da
      try clear Dd
      try clear De
      try clear Bz
      try clear BA
      try clear Dj
      try clear Dk
      try clear BF
      try clear BG
      try clear Dn
      try clear Do
      try clear BJ
      try clear BK
      try clear BN
      try clear BO
      try clear BR
      try clear BS
      try clear BV
      try clear BW
      try clear BZ
      try clear B0
      try clear B3
      try clear B4
      try clear B7
      try clear B8
      try clear Db
      try clear Dc
      try clear Df
      try clear Dg
      try clear BB
      try clear BC
      try clear hx10_0
      try clear hx10_1
      try clear hx10_2
      try clear hx10_3
      try clear hx11_0
      try clear hx11_1
      try clear hx11_2
      try clear hx11_3
      try clear hx14_3
      try clear hx17_2
      try clear p1
      try clear p10
      try clear p11
      try clear p2
      try clear p6
      try clear q1
      try clear q10
      try clear q11
      obtain ⟨x12_3,rfl,HA,HK3,Ba,Bn,Br,Bc,Be,Bd,HB⟩:=hrel
      cases gk with
     |zero=>exact absurd HA.out (by simp [laws_FnShareFair.l1])
     |succ k3 =>
       have H:=HA.out
       clear HA
       simp only [laws_FnShareFair.l1] at H
       by_cases c72:x12_3<(t341.length:Int)
       rotate_left
       ·rw [if_neg c72] at H
        have c72b0:decide (x12_3<(t341.length:Int))=false:=decide_eq_false c72
        clear c72
        obtain rfl:=Option.some.inj H
        have Fk:=Bs.out
        have Fl:=Bq.out
        have Fm:=Bm.out
        have Fn:=Bt.out
        have D4:wr.cell? ⟨Bf,0,none⟩=some (.slice Ao26 t341.length co26):=(bC Be.out 0).trans rfl
        have D5:wr.cell? ⟨Bf,1,none⟩=some (.int .i64 t344):=(bC Be.out 1).trans rfl
        have D6:=bF Be.out 0
        have D7:=bF Be.out 1
        go_wp2
        repeat (go_quiet (fail);try go_wp2)
        go_ret
        exact ⟨by first|rfl|(simp [errW_none,errW_some] <;> rfl)|(simp [*,errW_none,errW_some] <;> rfl),by repeat (first|(with_reducible first|exact HB.out|apply oA|apply pN|apply o1|refine bS ?_ Bj.out|refine bS ?_ Bp.out|refine bS ?_ Bv.out)|exact HB.out)⟩

       rw [if_pos c72] at H
       have c72b0:decide (x12_3<(t341.length:Int))=true:=decide_eq_true c72
       clear c72
       have H':=Am H
       clear H
       have D8:=Bs.out
       have D9:=Bq.out
       have Fa:=Bm.out
       have Fb:=Bt.out
       have DR:wr.cell? ⟨Bf,0,none⟩=some (.slice Ao26 t341.length co26):=(bC Be.out 0).trans rfl
       have DS:wr.cell? ⟨Bf,1,none⟩=some (.int .i64 t344):=(bC Be.out 1).trans rfl
       have DT:=bF Be.out 0
       have DU:=bF Be.out 1
       go_wp2
       repeat (go_quiet (fail);try go_wp2)
       go_loopg [13] k3 (fun kq v13 w'=>∃ (x13_4:Int),v13=.int .i64 x13_4∧Aside0 (laws_FnShareFair.l2 kq x12_3 x13_4 t341 t344=some r)∧Aside0 (kq≤k3)∧Aside0 (Kd.R k40 40 w' w.heap.size (fun k_=>some k_≠((.slice Ao26 t341.length co26):Value).ownBlock∧some k_≠((.slice Ao32 t350.length co32):Value).ownBlock) (.slice Ao23 x339000_1.length co23) x339000_1)∧Aside0 (Kd.R k40 40 w' w.heap.size (fun k_=>some k_≠((.slice Ao23 x339000_1.length co23):Value).ownBlock∧some k_≠((.slice Ao32 t350.length co32):Value).ownBlock) (.slice Ao26 t341.length co26) t341)∧Aside0 (Kd.R k40 40 w' w.heap.size (fun k_=>some k_≠((.slice Ao23 x339000_1.length co23):Value).ownBlock∧some k_≠((.slice Ao26 t341.length co26):Value).ownBlock) (.slice Ao32 t350.length co32) t350)∧Aside0 (w'.heap[Bg]?=some (.cells #[(.slice Ao23 x339000_1.length co23),.int .i64 t336] 25 (0,0)))∧Aside0 (w'.heap[Bf]?=some (.cells #[(.slice Ao26 t341.length co26),.int .i64 t344] 25 (0,0)))∧Aside0 (w'.heap[Bb]?=some (.cells #[(.slice Ao32 t350.length co32),.int .i64 t353] 25 (0,0)))∧Aside0 (Below w.heap.size w w'))
       case atStart=>exact ⟨(0),(by first|rfl|(simp;done)|(simp [*];done)),H',⟨Nat.le_refl _⟩,⟨by (with_reducible repeat (first|apply rA|apply rN|apply rD));exact Ba.out⟩,⟨by (with_reducible repeat (first|apply rA|apply rN|apply rD));exact Bn.out⟩,⟨by (with_reducible repeat (first|apply rA|apply rN|apply rD));exact Br.out⟩,⟨by (with_reducible repeat (first|refine bN ?_ _|refine bD ?_|refine bA ?_ _));exact Bc.out⟩,⟨by (with_reducible repeat (first|refine bN ?_ _|refine bD ?_|refine bA ?_ _));exact Be.out⟩,⟨by (with_reducible repeat (first|refine bN ?_ _|refine bD ?_|refine bA ?_ _));exact Bd.out⟩,⟨by repeat (first|(with_reducible first|exact HB.out|apply oA|apply pN|apply o1|refine bS ?_ Bj.out|refine bS ?_ Bp.out|refine bS ?_ Bv.out)|exact HB.out)⟩⟩
       case round =>
        clear H'
        try clear c1
        try clear p1
        try clear q1
        try clear hx1
        try clear hf1
        try clear c2
        try clear c2b0
        try clear c2b1
        try clear p2
        try clear c3
        try clear c4
        try clear c5
        try clear c6
        try clear p6
        try clear c7
        try clear c8
        try clear c8b0
        try clear c9
        try clear c9b0
        try clear c10
        try clear p10
        try clear q10
        try clear hx10
        try clear hf10
        try clear c11
        try clear p11
        try clear q11
        try clear hx11
        try clear hf11
        try clear c14
        try clear hx14
        try clear hf14
        try clear c17
        try clear hx17
        try clear hf17
        try clear c27
        try clear c33
        try clear c34
        try clear c36
        try clear c36b0
        try clear c36b1
        try clear c36b2
        try clear c38
        try clear c40
        try clear c43
        try clear c44
        try clear c46
        try clear c51
        try clear c52
        try clear c54
        try clear c59
        try clear c60
        try clear c60b0
        try clear c60b1
        try clear c60b2
        try clear c62
        try clear p64
        try clear c66
        try clear c67
        try clear c69
        try clear c72
        try clear c72b0
        try clear c73
        try clear c74
        try clear Dh
        try clear Di
        try clear BD
        try clear BE
        try clear Dl
        try clear Dm
        try clear BH
        try clear BI
        try clear BL
        try clear BM
        try clear BP
        try clear BQ
        try clear BT
        try clear BU
        try clear BX
        try clear BY
        try clear B1
        try clear B2
        try clear B5
        try clear B6
        try clear B9
        try clear Da
        try clear Dd
        try clear De
        try clear DR
        try clear DS
        try clear Bz
        try clear BA
        try clear Dj
        try clear Dk
        try clear BF
        try clear BG
        try clear Dn
        try clear Do
        try clear BJ
        try clear BK
        try clear BN
        try clear BO
        try clear BR
        try clear BS
        try clear BV
        try clear BW
        try clear BZ
        try clear B0
        try clear B3
        try clear B4
        try clear B7
        try clear B8
        try clear Db
        try clear Dc
        try clear Df
        try clear Dg
        try clear DT
        try clear DU
        try clear BB
        try clear BC
        try clear hx10_0
        try clear hx10_1
        try clear hx10_2
        try clear hx10_3
        try clear hx11_0
        try clear hx11_1
        try clear hx11_2
        try clear hx11_3
        try clear hx14_3
        try clear hx17_2
        try clear p1
        try clear p10
        try clear p11
        try clear p2
        try clear p6
        try clear p64
        try clear q1
        try clear q10
        try clear q11
        obtain ⟨x13_4,rfl,HA,HK4,Ba,Bn,Br,Bc,Be,Bd,HB⟩:=hrel
        cases gk with
       |zero=>exact absurd HA.out (by simp [laws_FnShareFair.l2])
       |succ k4 =>
         have H:=HA.out
         clear HA
         simp only [laws_FnShareFair.l2] at H
         by_cases c76:x13_4<(t341.length:Int)
         rotate_left
         ·rw [if_neg c76] at H
          have c76b0:decide (x13_4<(t341.length:Int))=false:=decide_eq_false c76
          clear c76
          have H':=Am H
          clear H
          have Fg:=Bs.out
          have Fh:=Bq.out
          have Fi:=Bm.out
          have Fj:=Bt.out
          have D0:wr.cell? ⟨Bf,0,none⟩=some (.slice Ao26 t341.length co26):=(bC Be.out 0).trans rfl
          have D1:wr.cell? ⟨Bf,1,none⟩=some (.int .i64 t344):=(bC Be.out 1).trans rfl
          have D2:=bF Be.out 0
          have D3:=bF Be.out 1
          go_wp2
          repeat (go_quiet (fail);try go_wp2)
          go_roundg k4
          case measure=>have:=HK1.out;have:=Dp.out;have:=HK3.out;have:=HK4.out;omega
          case rel=>exact ⟨(wrap64 (x12_3 + 1)),(by first|rfl|(simp;done)|(simp [*];done)),H',⟨by have:=HK1.out;have:=Dp.out;have:=HK3.out;have:=HK4.out;omega⟩,⟨by (with_reducible repeat (first|apply rA|apply rN|apply rD));exact Ba.out⟩,⟨by (with_reducible repeat (first|apply rA|apply rN|apply rD));exact Bn.out⟩,⟨by (with_reducible repeat (first|apply rA|apply rN|apply rD));exact Br.out⟩,⟨by (with_reducible repeat (first|refine bN ?_ _|refine bD ?_|refine bA ?_ _));exact Bc.out⟩,⟨by (with_reducible repeat (first|refine bN ?_ _|refine bD ?_|refine bA ?_ _));exact Be.out⟩,⟨by (with_reducible repeat (first|refine bN ?_ _|refine bD ?_|refine bA ?_ _));exact Bd.out⟩,⟨by repeat (first|(with_reducible first|exact HB.out|apply oA|apply pN|apply o1|refine bS ?_ Bj.out|refine bS ?_ Bp.out|refine bS ?_ Bv.out)|exact HB.out)⟩⟩
         rw [if_pos c76] at H
         have c76b0:decide (x13_4<(t341.length:Int))=true:=decide_eq_true c76
         clear c76
         by_cases c77:0≤x12_3
         rotate_left
         ·rw [if_neg c77] at H
          exact absurd H (by simp)
         rw [if_pos c77] at H
         have c77b0:decide (0≤x12_3)=true:=decide_eq_true c77
         clear c77
         by_cases c78:x12_3<(t341.length:Int)
         rotate_left
         ·rw [if_neg c78] at H
          exact absurd H (by simp)
         rw [if_pos c78] at H
         have c78b0:decide (x12_3<(t341.length:Int))=true:=decide_eq_true c78
         clear c78
         by_cases c79:0≤x13_4
         rotate_left
         ·rw [if_neg c79] at H
          exact absurd H (by simp)
         rw [if_pos c79] at H
         have c79b0:decide (0≤x13_4)=true:=decide_eq_true c79
         clear c79
         by_cases c80:((rd_T40 t341 x12_3).f1)=0
         ·rw [if_pos c80] at H
          exact absurd H (by simp)
         rw [if_neg c80] at H
         have c80b0:(((rd_T40 t341 x12_3).f1) == 0)=false:=beq_eq_false_iff_ne.mpr c80
         have c80b1:(((rd_T40 t341 x12_3).f1) != 0)=true:=bne_iff_ne.mpr c80
         by_cases c81:((rd_T40 t341 x12_3).f2) > (wrap64 (((rd_T40 t341 x13_4).f2) + (wrap64 (Int.tdiv (60:Int) ((rd_T40 t341 x12_3).f1)))))
         ·rw [if_pos c81] at H
          have c81b0:decide ((wrap64 (((rd_T40 t341 x13_4).f2) + (wrap64 (Int.tdiv (60:Int) ((rd_T40 t341 x12_3).f1)))))<((rd_T40 t341 x12_3).f2))=true:=decide_eq_true c81
          clear c81
          exact absurd ((Option.some.inj H).trans hT_.out) (by decide)
         rw [if_neg c81] at H
         have c81b0:decide ((wrap64 (((rd_T40 t341 x13_4).f2) + (wrap64 (Int.tdiv (60:Int) ((rd_T40 t341 x12_3).f1)))))<((rd_T40 t341 x12_3).f2))=false:=decide_eq_false c81
         clear c81
         have H':=Am H
         clear H
         have Fc:=Bs.out
         have Fd:=Bq.out
         have Fe:=Bm.out
         have Ff:=Bt.out
         have DW:wr.cell? ⟨Bf,0,none⟩=some (.slice Ao26 t341.length co26):=(bC Be.out 0).trans rfl
         have DX:wr.cell? ⟨Bf,1,none⟩=some (.int .i64 t344):=(bC Be.out 1).trans rfl
         have DY:=bF Be.out 0
         have DZ:=bF Be.out 1
         have p363:0≤(x12_3:Int):=of_decide_eq_true (by first|(with_reducible assumption)|assumption)
         have q363:x12_3<(t341.length:Int):=of_decide_eq_true (by first|(with_reducible assumption)|assumption)
         obtain ⟨ad363,e363,hx363_0,hx363_1,hx363_2,hx363_3⟩:=at_T40 (Kd.R_reads' Bn.out).2.2 x12_3 p363 q363
         cases e363
         replace p363:=eq_true p363
         replace q363:=eq_true q363
         have p364:0≤(x13_4:Int):=of_decide_eq_true (by first|(with_reducible assumption)|assumption)
         have q364:x13_4<(t341.length:Int):=of_decide_eq_true (by first|(with_reducible assumption)|assumption)
         obtain ⟨ad364,e364,hx364_0,hx364_1,hx364_2,hx364_3⟩:=at_T40 (Kd.R_reads' Bn.out).2.2 x13_4 p364 q364
         obtain rfl:ad363=ad364:=(by injection e364)
         replace p364:=eq_true p364
         replace q364:=eq_true q364
         have p365:0≤(x12_3:Int):=of_decide_eq_true (by first|(with_reducible assumption)|assumption)
         have q365:x12_3<(t341.length:Int):=of_decide_eq_true (by first|(with_reducible assumption)|assumption)
         obtain ⟨ad365,e365,hx365_0,hx365_1,hx365_2,hx365_3⟩:=at_T40 (Kd.R_reads' Bn.out).2.2 x12_3 p365 q365
         obtain rfl:ad363=ad365:=(by injection e365)
         replace p365:=eq_true p365
         replace q365:=eq_true q365
         go_wp2
         repeat (go_quiet (fail);try go_wp2)
         go_roundg k4
         case measure=>have:=HK1.out;have:=Dp.out;have:=HK3.out;have:=HK4.out;omega
         case rel=>exact ⟨(wrap64 (x13_4 + 1)),(by first|rfl|(simp;done)|(simp [*];done)),H',⟨by have:=HK1.out;have:=Dp.out;have:=HK3.out;have:=HK4.out;omega⟩,⟨by (with_reducible repeat (first|apply rA|apply rN|apply rD));exact Ba.out⟩,⟨by (with_reducible repeat (first|apply rA|apply rN|apply rD));exact Bn.out⟩,⟨by (with_reducible repeat (first|apply rA|apply rN|apply rD));exact Br.out⟩,⟨by (with_reducible repeat (first|refine bN ?_ _|refine bD ?_|refine bA ?_ _));exact Bc.out⟩,⟨by (with_reducible repeat (first|refine bN ?_ _|refine bD ?_|refine bA ?_ _));exact Be.out⟩,⟨by (with_reducible repeat (first|refine bN ?_ _|refine bD ?_|refine bA ?_ _));exact Bd.out⟩,⟨by repeat (first|(with_reducible first|exact HB.out|apply oA|apply pN|apply o1|refine bS ?_ Bj.out|refine bS ?_ Bp.out|refine bS ?_ Bv.out)|exact HB.out)⟩⟩
/-- THE ONE PURE STATEMENT of laws_FnShareFair: yours. -/
def laws_FnShareFair.Pure:Prop:=∀ (l0:List Int),l0.length≤maxLen → l0.length * 1≤140737488351232 → (∀ x ∈ l0,(Lit.int .u8 x).wf=true) → ∃ k,laws_FnShareFair.f k l0=some true
theorem laws_FnShareFair.walk (P:laws_FnShareFair.Pure) (a0:Option Addr) (len0 cap0:Nat) (z0:List Int) (w:World) (w0:(a0=none∧len0=0∧cap0=0∧z0=[])∨∃ x,a0=some x∧len0≤cap0∧cap0≤maxLen∧z0.length=cap0∧(∀ i,i<z0.length → w.cell? (x.add i)=some (.int .u8 (z0.getD i 0)))∧∀ n ∈ z0,(Lit.int .u8 n).wf=true) (y0:len0 * 1≤140737488351232) :
  Calls Try.prog 9 #[.slice a0 len0 cap0] w fun e w'=>e=.returned (.bool true)∧Below w.heap.size w w':=by
 obtain ⟨l0,rfl,hr0,hm0,hw0,hc0⟩:=ReadsInt.ofRowC w0
 obtain ⟨k,h⟩:=P l0 hm0 y0 hw0
 refine (laws_FnShareFair.calls k _ _ l0 true w (Kd.C_of_reads (d:=(0:Int)) (h1:=fun _=>rfl) hr0) hc0 h ⟨rfl⟩).mono ?_
 rintro e w' ⟨rfl,hd⟩
 exact ⟨rfl,hd⟩

end Go.Proofs.Ytfhcgmfodfcpeaa.PFnShareFair
