/- Proved here, without a condition beyond those that each theorem states: what the Go functions named below do is what the plain functions of the same names say. Written by xprint.py, a program of this session. -/
import Derived.Test.YtfhcgmfodfcpeaaPFnQueueTickx0
import Derived.Test.YtfhcgmfodfcpeaaPFnQueueTickx1
import Derived.Test.YtfhcgmfodfcpeaaPFnQueueTickx2
import Derived.Test.YtfhcgmfodfcpeaaPFnQueueTickx3
import Derived.Test.YtfhcgmfodfcpeaaPFnQueueTickx10
import Derived.Test.YtfhcgmfodfcpeaaPFnQueueTickx12
import Derived.Test.YtfhcgmfodfcpeaaPFnQueueTickx15
namespace Go.Proofs.Ytfhcgmfodfcpeaa.PFnQueueTick
open Go.RowKit Go.Proofs.YtfhcgmfodfcpeaaW.PrintWords Go.Proofs.YtfhcgmfodfcpeaaW.PrintLast Go.Proofs.YtfhcgmfodfcpeaaW.PrintMore
attribute [local go_sem] max2_int min2_int max_two min_two max_three min_three max_four min_four   -- for this text's walks alone
set_option linter.unusedVariables false
set_option linter.unusedSimpArgs false

attribute [local go_sem ↓] isSome_setCell_
attribute [local go_sem high] eqA40
/-! ### laws_FnQueueTick: function 5 -/
mutual
def laws_FnQueueTick.j0 : Nat → Int → Bool → Bool → List (S40) → Int → List (S40) → Int → Option (Bool)
|0, _, _, _, _, _, _, _ => none
|k + 1, x5, x6, x10, x300000, x300001, x307000, x307001 => if x10 = true then (laws_FnQueueTick.j1 k x5 x10 (!x6) x300000 x300001 x307000 x307001) else (laws_FnQueueTick.j1 k x5 x10 true x300000 x300001 x307000 x307001)
def laws_FnQueueTick.j1 : Nat → Int → Bool → Bool → List (S40) → Int → List (S40) → Int → Option (Bool)
|0, _, _, _, _, _, _, _ => none
|k + 1, x5, x10, x47, x300000, x300001, x307000, x307001 => if x47 = true then (some x10) else (laws_FnQueueTick.l0 k x5 0 x300000 x300001 x307000 x307001)
def laws_FnQueueTick.l0 : Nat → Int → Int → List (S40) → Int → List (S40) → Int → Option (Bool)
|0, _, _, _, _, _, _ => none
|k + 1, x5, x11, x300000, x300001, x307000, x307001 => if x11 < (x300000.length : Int) then (if 0 ≤ x11 then (if ((rd_T40 x300000 x11).f0) = x5 then (if x11 < (x307000.length : Int) then (if ((rd_T40 x300000 x11).f1) = 0 then (none) else (if ((rd_T40 x307000 x11).f2) = (wrap64 (((rd_T40 x300000 x11).f2) + (wrap64 (Int.tdiv (60 : Int) ((rd_T40 x300000 x11).f1))))) then (laws_FnQueueTick.l0 k x5 (wrap64 (x11 + 1)) x300000 x300001 x307000 x307001) else (some false))) else (none)) else (if x11 < (x307000.length : Int) then (if (!(((rd_T40 x307000 x11).f0) == ((rd_T40 x300000 x11).f0)) || (!(((rd_T40 x307000 x11).f1) == ((rd_T40 x300000 x11).f1)) || (!(((rd_T40 x307000 x11).f2) == ((rd_T40 x300000 x11).f2)) || (!(((rd_T40 x307000 x11).f3) == ((rd_T40 x300000 x11).f3)))))) = true then (some false) else (laws_FnQueueTick.l0 k x5 (wrap64 (x11 + 1)) x300000 x300001 x307000 x307001)) else (none))) else (none)) else ((impl_QueueNext.f k x300000 x300001).bind fun t323 => (if x5 = t323 then ((impl_QueueOk.f k x307000 x307001).bind fun t324 => (if t324 = true then (some (decide (x307001 ≥ x300001))) else (some false))) else (some false)))
end
def laws_FnQueueTick.f (k : Nat) (l0 : List Int) : Option (Bool) := if (l0.length : Int) > 1048576 then (some true) else ((spec_DrawQueueTick.f k l0).bind fun bt295 => ((impl_QueueTick.f k bt295.1 bt295.2).bind fun bt300 => ((spec_QueueTick.f k bt295.1 bt295.2).bind fun bt307 => ((laws_qdQueue.f k bt300.1 bt300.2.1 bt307.1 bt307.2.1).bind fun t314 => (if t314 = true then (if bt300.2.2.1 = bt307.2.2.1 then (laws_FnQueueTick.j0 k bt300.2.2.1 bt300.2.2.2 (bt300.2.2.2 == bt307.2.2.2) bt295.1 bt295.2 bt300.1 bt300.2.1) else (laws_FnQueueTick.j0 k bt300.2.2.1 bt300.2.2.2 false bt295.1 bt295.2 bt300.1 bt300.2.1)) else (laws_FnQueueTick.j0 k bt300.2.2.1 bt300.2.2.2 false bt295.1 bt295.2 bt300.1 bt300.2.1))))))
theorem laws_FnQueueTick.mono_l : ∀ k, (∀ y0 y1 y2 y3 y4 y5 y6, LeO (laws_FnQueueTick.j0 k y0 y1 y2 y3 y4 y5 y6) (laws_FnQueueTick.j0 (k + 1) y0 y1 y2 y3 y4 y5 y6)) ∧ (∀ y0 y1 y2 y3 y4 y5 y6, LeO (laws_FnQueueTick.j1 k y0 y1 y2 y3 y4 y5 y6) (laws_FnQueueTick.j1 (k + 1) y0 y1 y2 y3 y4 y5 y6)) ∧ (∀ y0 y1 y2 y3 y4 y5, LeO (laws_FnQueueTick.l0 k y0 y1 y2 y3 y4 y5) (laws_FnQueueTick.l0 (k + 1) y0 y1 y2 y3 y4 y5))
|0 => ⟨fun _ _ _ _ _ _ _ r h => by simp [laws_FnQueueTick.j0] at h, fun _ _ _ _ _ _ _ r h => by simp [laws_FnQueueTick.j1] at h, fun _ _ _ _ _ _ r h => by simp [laws_FnQueueTick.l0] at h⟩
|k + 1 => by
  obtain ⟨ih0, ih1, ih2⟩ := laws_FnQueueTick.mono_l k
  refine ⟨?_, ?_, ?_⟩
  ·intro y0 y1 y2 y3 y4 y5 y6
   unfold laws_FnQueueTick.j0
   repeat' first
  |(with_reducible exact ih0 _ _ _ _ _ _ _)
  |(with_reducible exact ih1 _ _ _ _ _ _ _)
  |(with_reducible exact ih2 _ _ _ _ _ _)
  |(with_reducible exact impl_QueueNext.mono _ _ _)
  |(with_reducible exact impl_QueueOk.mono _ _ _)
  |(with_reducible exact impl_QueueTick.mono _ _ _)
  |(with_reducible exact laws_qdQueue.mono _ _ _ _ _)
  |(with_reducible exact spec_DrawQueueTick.mono _ _)
  |(with_reducible exact spec_QueueTick.mono _ _ _)
  |(with_reducible exact LeO.refl _)
  |(with_reducible exact LeO.none _)
  |(with_reducible refine LeO.ite ?_ ?_)
  |(with_reducible refine LeO.bind ?_ (fun _ => ?_))
  |exact ih0 _ _ _ _ _ _ _
  |exact ih1 _ _ _ _ _ _ _
  |exact ih2 _ _ _ _ _ _
  |exact impl_QueueNext.mono _ _ _
  |exact impl_QueueOk.mono _ _ _
  |exact impl_QueueTick.mono _ _ _
  |exact laws_qdQueue.mono _ _ _ _ _
  |exact spec_DrawQueueTick.mono _ _
  |exact spec_QueueTick.mono _ _ _
  |exact LeO.none _
  |refine LeO.ite ?_ ?_
  |refine LeO.bind ?_ (fun _ => ?_)
  ·intro y0 y1 y2 y3 y4 y5 y6
   unfold laws_FnQueueTick.j1
   repeat' first
  |(with_reducible exact ih0 _ _ _ _ _ _ _)
  |(with_reducible exact ih1 _ _ _ _ _ _ _)
  |(with_reducible exact ih2 _ _ _ _ _ _)
  |(with_reducible exact impl_QueueNext.mono _ _ _)
  |(with_reducible exact impl_QueueOk.mono _ _ _)
  |(with_reducible exact impl_QueueTick.mono _ _ _)
  |(with_reducible exact laws_qdQueue.mono _ _ _ _ _)
  |(with_reducible exact spec_DrawQueueTick.mono _ _)
  |(with_reducible exact spec_QueueTick.mono _ _ _)
  |(with_reducible exact LeO.refl _)
  |(with_reducible exact LeO.none _)
  |(with_reducible refine LeO.ite ?_ ?_)
  |(with_reducible refine LeO.bind ?_ (fun _ => ?_))
  |exact ih0 _ _ _ _ _ _ _
  |exact ih1 _ _ _ _ _ _ _
  |exact ih2 _ _ _ _ _ _
  |exact impl_QueueNext.mono _ _ _
  |exact impl_QueueOk.mono _ _ _
  |exact impl_QueueTick.mono _ _ _
  |exact laws_qdQueue.mono _ _ _ _ _
  |exact spec_DrawQueueTick.mono _ _
  |exact spec_QueueTick.mono _ _ _
  |exact LeO.none _
  |refine LeO.ite ?_ ?_
  |refine LeO.bind ?_ (fun _ => ?_)
  ·intro y0 y1 y2 y3 y4 y5
   unfold laws_FnQueueTick.l0
   repeat' first
  |(with_reducible exact ih0 _ _ _ _ _ _ _)
  |(with_reducible exact ih1 _ _ _ _ _ _ _)
  |(with_reducible exact ih2 _ _ _ _ _ _)
  |(with_reducible exact impl_QueueNext.mono _ _ _)
  |(with_reducible exact impl_QueueOk.mono _ _ _)
  |(with_reducible exact impl_QueueTick.mono _ _ _)
  |(with_reducible exact laws_qdQueue.mono _ _ _ _ _)
  |(with_reducible exact spec_DrawQueueTick.mono _ _)
  |(with_reducible exact spec_QueueTick.mono _ _ _)
  |(with_reducible exact LeO.refl _)
  |(with_reducible exact LeO.none _)
  |(with_reducible refine LeO.ite ?_ ?_)
  |(with_reducible refine LeO.bind ?_ (fun _ => ?_))
  |exact ih0 _ _ _ _ _ _ _
  |exact ih1 _ _ _ _ _ _ _
  |exact ih2 _ _ _ _ _ _
  |exact impl_QueueNext.mono _ _ _
  |exact impl_QueueOk.mono _ _ _
  |exact impl_QueueTick.mono _ _ _
  |exact laws_qdQueue.mono _ _ _ _ _
  |exact spec_DrawQueueTick.mono _ _
  |exact spec_QueueTick.mono _ _ _
  |exact LeO.none _
  |refine LeO.ite ?_ ?_
  |refine LeO.bind ?_ (fun _ => ?_)
theorem laws_FnQueueTick.mono : ∀ a0 k, LeO (laws_FnQueueTick.f k a0) (laws_FnQueueTick.f (k + 1) a0) := by
 intro a0 k
 obtain ⟨ih0, ih1, ih2⟩ := laws_FnQueueTick.mono_l k
 unfold laws_FnQueueTick.f
 repeat' first
  |(with_reducible exact ih0 _ _ _ _ _ _ _)
  |(with_reducible exact ih1 _ _ _ _ _ _ _)
  |(with_reducible exact ih2 _ _ _ _ _ _)
  |(with_reducible exact impl_QueueNext.mono _ _ _)
  |(with_reducible exact impl_QueueOk.mono _ _ _)
  |(with_reducible exact impl_QueueTick.mono _ _ _)
  |(with_reducible exact laws_qdQueue.mono _ _ _ _ _)
  |(with_reducible exact spec_DrawQueueTick.mono _ _)
  |(with_reducible exact spec_QueueTick.mono _ _ _)
  |(with_reducible exact LeO.refl _)
  |(with_reducible exact LeO.none _)
  |(with_reducible refine LeO.ite ?_ ?_)
  |(with_reducible refine LeO.bind ?_ (fun _ => ?_))
  |exact ih0 _ _ _ _ _ _ _
  |exact ih1 _ _ _ _ _ _ _
  |exact ih2 _ _ _ _ _ _
  |exact impl_QueueNext.mono _ _ _
  |exact impl_QueueOk.mono _ _ _
  |exact impl_QueueTick.mono _ _ _
  |exact laws_qdQueue.mono _ _ _ _ _
  |exact spec_DrawQueueTick.mono _ _
  |exact spec_QueueTick.mono _ _ _
  |exact LeO.none _
  |refine LeO.ite ?_ ?_
  |refine LeO.bind ?_ (fun _ => ?_)
set_option maxHeartbeats 2000000 in
set_option maxRecDepth 100000 in
theorem laws_FnQueueTick.calls (k:Nat) (A0:Option Addr) (c0:Nat) (l0:List Int) (r:Bool) (w:World) (hr0:Kd.C (Kd.int .u8) w A0 l0.length l0) (hc0:l0.length≤c0) (h:laws_FnQueueTick.f k l0=some r) (hT_:Aside0 (r=true)) :
  Calls Try.prog 5 #[.slice A0 l0.length c0] w fun e w'=>e=.returned (.bool r)∧Below w.heap.size w w':=by
 have hu25:=Try.underlying25
 have hu40:=Try.underlying40
 have HR0:=Am hr0
 have HC0:=Am hc0
 clear hr0 hc0
 have HB:=Am (Below.refl w.heap.size w)
 have H:(if (l0.length:Int) > 1048576 then (some true) else ((spec_DrawQueueTick.f k l0).bind fun bt295=>((impl_QueueTick.f k bt295.1 bt295.2).bind fun bt300=>((spec_QueueTick.f k bt295.1 bt295.2).bind fun bt307=>((laws_qdQueue.f k bt300.1 bt300.2.1 bt307.1 bt307.2.1).bind fun t314=>(if t314=true then (if bt300.2.2.1=bt307.2.2.1 then (laws_FnQueueTick.j0 k bt300.2.2.1 bt300.2.2.2 (bt300.2.2.2 == bt307.2.2.2) bt295.1 bt295.2 bt300.1 bt300.2.1) else (laws_FnQueueTick.j0 k bt300.2.2.1 bt300.2.2.2 false bt295.1 bt295.2 bt300.1 bt300.2.1)) else (laws_FnQueueTick.j0 k bt300.2.2.1 bt300.2.2.2 false bt295.1 bt295.2 bt300.1 bt300.2.1)))))))=some r:=h
 clear h
 by_cases c2:(l0.length:Int) > 1048576
 ·rw [if_pos c2] at H
  have c2b0:decide (1048576<(l0.length:Int))=true:=decide_eq_true c2
  have c2b1:decide (1048576<l0.length)=true:=decide_eq_true (by omega)
  clear c2
  obtain rfl:=Option.some.inj H
  go_enter Try.func5,Try.ntmps5
  go_wp2
  repeat (go_quiet (fail);try go_wp2)
  go_ret
  exact ⟨by first|rfl|(simp [errW_none,errW_some] <;> rfl)|(simp [*,errW_none,errW_some] <;> rfl),by repeat (first|(with_reducible first|exact HB.out|apply oA|apply pN|apply o1)|exact HB.out)⟩
 rw [if_neg c2] at H
 have c2b0:decide (1048576<(l0.length:Int))=false:=decide_eq_false c2
 have c2b1:decide (1048576<l0.length)=false:=decide_eq_false (by omega)
 clear c2
 replace H:=oC H
 obtain ⟨⟨t295,t298⟩,A30,H⟩:=H
 replace H:((impl_QueueTick.f k t295 t298).bind fun bt300=>((spec_QueueTick.f k t295 t298).bind fun bt307=>((laws_qdQueue.f k bt300.1 bt300.2.1 bt307.1 bt307.2.1).bind fun t314=>(if t314=true then (if bt300.2.2.1=bt307.2.2.1 then (laws_FnQueueTick.j0 k bt300.2.2.1 bt300.2.2.2 (bt300.2.2.2 == bt307.2.2.2) t295 t298 bt300.1 bt300.2.1) else (laws_FnQueueTick.j0 k bt300.2.2.1 bt300.2.2.2 false t295 t298 bt300.1 bt300.2.1)) else (laws_FnQueueTick.j0 k bt300.2.2.1 bt300.2.2.2 false t295 t298 bt300.1 bt300.2.1)))))=some r:=H
 have A3:=Am A30
 clear A30
 replace H:=oC H
 obtain ⟨⟨t300,t303,t304,t305⟩,A40,H⟩:=H
 replace H:((spec_QueueTick.f k t295 t298).bind fun bt307=>((laws_qdQueue.f k t300 t303 bt307.1 bt307.2.1).bind fun t314=>(if t314=true then (if t304=bt307.2.2.1 then (laws_FnQueueTick.j0 k t304 t305 (t305 == bt307.2.2.2) t295 t298 t300 t303) else (laws_FnQueueTick.j0 k t304 t305 false t295 t298 t300 t303)) else (laws_FnQueueTick.j0 k t304 t305 false t295 t298 t300 t303))))=some r:=H
 have A4:=Am A40
 clear A40
 replace H:=oC H
 obtain ⟨⟨t307,t310,t311,t312⟩,A50,H⟩:=H
 replace H:((laws_qdQueue.f k t300 t303 t307 t310).bind fun t314=>(if t314=true then (if t304=t311 then (laws_FnQueueTick.j0 k t304 t305 (t305 == t312) t295 t298 t300 t303) else (laws_FnQueueTick.j0 k t304 t305 false t295 t298 t300 t303)) else (laws_FnQueueTick.j0 k t304 t305 false t295 t298 t300 t303)))=some r:=H
 have A5:=Am A50
 clear A50
 have HC6:=Am H
 clear H
 go_enter Try.func5,Try.ntmps5
 go_upto_region 6 with (first|(go_at_call 20;(with_reducible refine (spec_DrawQueueTick.calls k _ _ l0 t295 t298 _ ?side1 ?side2 A3.out).mono ?_);(case side1=>repeat (first|exact HR0.out|(with_reducible refine cA ?_ _)|(with_reducible refine cN ?_ _)|(with_reducible refine cD ?_)));(case side2=>exact HC0.out);rintro e w7 ⟨v296,rfl,ho0,hb⟩;have n0_:=Am (Kd.R_lower ho0 (bZ (by repeat (first|(with_reducible first|exact HB.out|apply oA|apply pN|apply o1)|exact HB.out))));have n1_:=Am (bP (by repeat (first|(with_reducible first|exact HB.out|apply oA|apply pN|apply o1)|exact HB.out)) hb);clear HB;revert n0_ n1_;intro Bg HB;(try clear hb);(try clear hb2);(try clear hk);(try clear hi);(try clear ho0))|((with_reducible refine gate_dst (N:=3) rfl ?_);refine box_event ?hg (N:=3) ?hd (cs:=#[.slice none 0 0,.int .i64 0]) (t:=25) ?hr ?_;(case hd=>rfl);(case hg=>rfl);(case hr=>first|(go_simp;done)|(go_simp;rfl));intro Bf hg w8 hbox hb;have n0_:=Am (rB (rL Bg.out) hb);have n1_:=Am (bP (by repeat (first|(with_reducible first|exact HB.out|apply oA|apply pN|apply o1)|exact HB.out)) hb);have n2_:=Am (hbox);have n3_:=Am ((by rw [hg];exact (bZ (by repeat (first|(with_reducible first|exact HB.out|apply oA|apply pN|apply o1)|exact HB.out))):w.heap.size≤Bf));have n4_:=Am ((by rw [hg];exact (bZ (by repeat (first|(with_reducible first|exact HB.out|apply oA|apply pN|apply o1)|exact HB.out))):w.heap.size≤Bf));clear Bg HB;revert n0_ n1_ n2_ n3_ n4_;intro Bg HB Ba Dn Bl;clear hb hbox hg;obtain ⟨Ao9,co9,eo9⟩:=Kd.R_slice Bg.out;subst eo9;have Bv:w8.cell? ⟨Bf,0,none⟩=some (.slice none 0 0):=(bC Ba.out 0).trans rfl;have Bw:w8.cell? ⟨Bf,1,none⟩=some (.int .i64 0):=(bC Ba.out 1).trans rfl;have Bx:=bF Ba.out 0;have By:=bF Ba.out 1)|(go_at_call 21;(with_reducible refine (impl_QueueTick.calls k _ _ t295 t298 t300 t303 t304 t305 _ ?side1 ?side2 A4.out).mono ?_);(case side1=>refine (Kd.R_reads' (e:=40) (base:=w.heap.size) (ok:=fun k_=>True) (n:=t295.length) (c:=co9) ?_).2.2;exact (by (with_reducible repeat (first|apply rA|apply rN|apply rD));exact (rM (rF (p:=⟨Bf,1,none⟩) (rF (p:=⟨Bf,0,none⟩) (rT Bg.out Ba.out (by decide)) (fun _ hk=>hk.2) (.slice Ao9 t295.length co9)) (fun _ hk=>hk.2) (.int .i64 t298)) (fun _ h_=>h_.1))));(case side2=>exact (Kd.R_reads' Bg.out).2.1);rintro e w11 ⟨v301,rfl,ho0,hb⟩;have n0_:=Am (Kd.R_elder' (by (with_reducible repeat (first|apply rA|apply rN|apply rD));exact (rM (rF (p:=⟨Bf,1,none⟩) (rF (p:=⟨Bf,0,none⟩) (rT Bg.out Ba.out (by decide)) (fun _ hk=>hk.2) (.slice Ao9 t295.length co9)) (fun _ hk=>hk.2) (.int .i64 t298)) (fun _ h_=>h_.1))) (Kd.R_base ho0) hb);have n1_:=Am (Kd.R_lower (Kd.R_new' ho0 (Kd.R_lt (by (with_reducible repeat (first|apply rA|apply rN|apply rD));exact (rM (rF (p:=⟨Bf,1,none⟩) (rF (p:=⟨Bf,0,none⟩) (rT Bg.out Ba.out (by decide)) (fun _ hk=>hk.2) (.slice Ao9 t295.length co9)) (fun _ hk=>hk.2) (.int .i64 t298)) (fun _ h_=>h_.1))))) (bZ (by repeat (first|(with_reducible first|exact HB.out|apply oA|apply pN|apply o1|refine bS ?_ Bl.out)|exact HB.out))));have n2_:=Am (bB (g:=Bf) (o:=.cells #[.slice Ao9 t295.length co9,.int .i64 t298] 25 (0,0)) (by (with_reducible repeat (first|refine bN ?_ _|refine bD ?_|refine bA ?_ _));refine blk_put (cs:=#[.slice Ao9 t295.length co9,.int .i64 0]) ?_ 1 _ rfl;(with_reducible repeat (first|refine bN ?_ _|refine bD ?_|refine bA ?_ _));refine blk_put (cs:=#[.slice none 0 0,.int .i64 0]) ?_ 0 _ rfl;(with_reducible repeat (first|refine bN ?_ _|refine bD ?_|refine bA ?_ _));exact Ba.out) hb);have n3_:=Am (bP (by repeat (first|(with_reducible first|exact HB.out|apply oA|apply pN|apply o1|refine bS ?_ Bl.out)|exact HB.out)) hb);clear Bg Ba HB;revert n0_ n1_ n2_ n3_;intro Bg Bh Ba HB;(try clear hb);(try clear hb2);(try clear hk);(try clear hi);(try clear ho0))|((with_reducible refine gate_dst (N:=4) rfl ?_);refine box_event ?hg (N:=4) ?hd (cs:=#[.slice none 0 0,.int .i64 0]) (t:=25) ?hr ?_;(case hd=>rfl);(case hg=>rfl);(case hr=>first|(go_simp;done)|(go_simp;rfl));intro Be hg w12 hbox hb;have n0_:=Am (rB (rL Bg.out) hb);have n1_:=Am (rB (rL Bh.out) hb);have n2_:=Am (bB (g:=Bf) (o:=.cells #[.slice Ao9 t295.length co9,.int .i64 t298] 25 (0,0)) (bL Ba.out) hb);have n3_:=Am (bP (by repeat (first|(with_reducible first|exact HB.out|apply oA|apply pN|apply o1|refine bS ?_ Bl.out)|exact HB.out)) hb);have n4_:=Am (hbox);have n5_:=Am ((by rw [hg];exact (bZ (by repeat (first|(with_reducible first|exact HB.out|apply oA|apply pN|apply o1|refine bS ?_ Bl.out)|exact HB.out))):w.heap.size≤Be));have n6_:=Am ((by rw [hg];exact (bZ (by repeat (first|(with_reducible first|exact HB.out|apply oA|apply pN|apply o1|refine bS ?_ Bl.out)|exact HB.out))):w.heap.size≤Be));have n7_:=Am ((by rw [hg];exact Nat.ne_of_lt (blk_lt (g:=Bf) (o:=.cells #[.slice Ao9 t295.length co9,.int .i64 t298] 25 (0,0)) (bL Ba.out)):Bf≠Be));have n8_:=Am ((by rw [hg];exact Nat.ne_of_gt (blk_lt (g:=Bf) (o:=.cells #[.slice Ao9 t295.length co9,.int .i64 t298] 25 (0,0)) (bL Ba.out)):Be≠Bf));clear Bg Bh Ba HB;revert n0_ n1_ n2_ n3_ n4_ n5_ n6_ n7_ n8_;intro Bg Bh Ba HB Bb Do Bn Br Bt;clear hb hbox hg;obtain ⟨Ao13,co13,eo13⟩:=Kd.R_slice Bh.out;subst eo13;have Dp:=Bt.out;have Dq:=Br.out;have Bz:w12.cell? ⟨Be,0,none⟩=some (.slice none 0 0):=(bC Bb.out 0).trans rfl;have BA:w12.cell? ⟨Be,1,none⟩=some (.int .i64 0):=(bC Bb.out 1).trans rfl;have BB:=bF Bb.out 0;have BC:=bF Bb.out 1;have BD:w12.cell? ⟨Bf,0,none⟩=some (.slice Ao9 t295.length co9):=(bC Ba.out 0).trans rfl;have BE:w12.cell? ⟨Bf,1,none⟩=some (.int .i64 t298):=(bC Ba.out 1).trans rfl;have BF:=bF Ba.out 0;have BG:=bF Ba.out 1)|(go_at_call 22;(with_reducible refine (spec_QueueTick.calls k _ _ t295 t298 t307 t310 t311 t312 _ ?side1 ?side2 A5.out).mono ?_);(case side1=>refine (Kd.R_reads' (e:=40) (base:=w.heap.size) (ok:=fun k_=>(True∧some k_≠(.slice Ao13 t300.length co13:Value).ownBlock)) (n:=t295.length) (c:=co9) ?_).2.2;exact (by (with_reducible repeat (first|apply rA|apply rN|apply rD));exact (rM (rF (p:=⟨Be,1,none⟩) (rF (p:=⟨Be,0,none⟩) (rT Bg.out Bb.out (by decide)) (fun _ hk=>hk.2) (.slice Ao13 t300.length co13)) (fun _ hk=>hk.2) (.int .i64 t303)) (fun _ h_=>h_.1))));(case side2=>exact (Kd.R_reads' Bg.out).2.1);rintro e w17 ⟨v308,rfl,ho0,hb⟩;have n0_:=Am (Kd.R_elder' (by (with_reducible repeat (first|apply rA|apply rN|apply rD));exact (rM (rF (p:=⟨Be,1,none⟩) (rF (p:=⟨Be,0,none⟩) (rT Bg.out Bb.out (by decide)) (fun _ hk=>hk.2) (.slice Ao13 t300.length co13)) (fun _ hk=>hk.2) (.int .i64 t303)) (fun _ h_=>h_.1))) (Kd.R_base ho0) hb);have n1_:=Am (Kd.R_elder' (by (with_reducible repeat (first|apply rA|apply rN|apply rD));exact (rM (rF (p:=⟨Be,1,none⟩) (rF (p:=⟨Be,0,none⟩) (rT Bh.out Bb.out (by decide)) (fun _ hk=>hk.2) (.slice Ao13 t300.length co13)) (fun _ hk=>hk.2) (.int .i64 t303)) (fun _ h_=>h_.1))) (Kd.R_base ho0) hb);have n2_:=Am (Kd.R_lower (Kd.R_new' (Kd.R_new' ho0 (Kd.R_lt (by (with_reducible repeat (first|apply rA|apply rN|apply rD));exact (rM (rF (p:=⟨Be,1,none⟩) (rF (p:=⟨Be,0,none⟩) (rT Bg.out Bb.out (by decide)) (fun _ hk=>hk.2) (.slice Ao13 t300.length co13)) (fun _ hk=>hk.2) (.int .i64 t303)) (fun _ h_=>h_.1))))) (Kd.R_lt (by (with_reducible repeat (first|apply rA|apply rN|apply rD));exact (rM (rF (p:=⟨Be,1,none⟩) (rF (p:=⟨Be,0,none⟩) (rT Bh.out Bb.out (by decide)) (fun _ hk=>hk.2) (.slice Ao13 t300.length co13)) (fun _ hk=>hk.2) (.int .i64 t303)) (fun _ h_=>h_.1))))) (bZ (by repeat (first|(with_reducible first|exact HB.out|apply oA|apply pN|apply o1|refine bS ?_ Bl.out|refine bS ?_ Bn.out)|exact HB.out))));have n3_:=Am (bB (g:=Bf) (o:=.cells #[.slice Ao9 t295.length co9,.int .i64 t298] 25 (0,0)) (by (with_reducible repeat (first|refine bN ?_ _|refine bD ?_|refine bA ?_ _|refine blk_far ?_ Br.out _));exact Ba.out) hb);have n4_:=Am (bB (g:=Be) (o:=.cells #[.slice Ao13 t300.length co13,.int .i64 t303] 25 (0,0)) (by (with_reducible repeat (first|refine bN ?_ _|refine bD ?_|refine bA ?_ _));refine blk_put (cs:=#[.slice Ao13 t300.length co13,.int .i64 0]) ?_ 1 _ rfl;(with_reducible repeat (first|refine bN ?_ _|refine bD ?_|refine bA ?_ _));refine blk_put (cs:=#[.slice none 0 0,.int .i64 0]) ?_ 0 _ rfl;(with_reducible repeat (first|refine bN ?_ _|refine bD ?_|refine bA ?_ _));exact Bb.out) hb);have n5_:=Am (bP (by repeat (first|(with_reducible first|exact HB.out|apply oA|apply pN|apply o1|refine bS ?_ Bl.out|refine bS ?_ Bn.out)|exact HB.out)) hb);clear Bg Bh Ba Bb HB;revert n0_ n1_ n2_ n3_ n4_ n5_;intro Bg Bh Bj Ba Bb HB;(try clear hb);(try clear hb2);(try clear hk);(try clear hi);(try clear ho0))|((with_reducible refine gate_dst (N:=7) rfl ?_);refine box_event ?hg (N:=7) ?hd (cs:=#[.slice none 0 0,.int .i64 0]) (t:=25) ?hr ?_;(case hd=>rfl);(case hg=>rfl);(case hr=>first|(go_simp;done)|(go_simp;rfl));intro Bc hg w18 hbox hb;have n0_:=Am (rB (rL Bg.out) hb);have n1_:=Am (rB (rL Bh.out) hb);have n2_:=Am (rB (rL Bj.out) hb);have n3_:=Am (bB (g:=Bf) (o:=.cells #[.slice Ao9 t295.length co9,.int .i64 t298] 25 (0,0)) (bL Ba.out) hb);have n4_:=Am (bB (g:=Be) (o:=.cells #[.slice Ao13 t300.length co13,.int .i64 t303] 25 (0,0)) (bL Bb.out) hb);have n5_:=Am (bP (by repeat (first|(with_reducible first|exact HB.out|apply oA|apply pN|apply o1|refine bS ?_ Bl.out|refine bS ?_ Bn.out)|exact HB.out)) hb);have n6_:=Am (hbox);have n7_:=Am ((by rw [hg];exact (bZ (by repeat (first|(with_reducible first|exact HB.out|apply oA|apply pN|apply o1|refine bS ?_ Bl.out|refine bS ?_ Bn.out)|exact HB.out))):w.heap.size≤Bc));have n8_:=Am ((by rw [hg];exact (bZ (by repeat (first|(with_reducible first|exact HB.out|apply oA|apply pN|apply o1|refine bS ?_ Bl.out|refine bS ?_ Bn.out)|exact HB.out))):w.heap.size≤Bc));have n9_:=Am ((by rw [hg];exact Nat.ne_of_lt (blk_lt (g:=Bf) (o:=.cells #[.slice Ao9 t295.length co9,.int .i64 t298] 25 (0,0)) (bL Ba.out)):Bf≠Bc));have n10_:=Am ((by rw [hg];exact Nat.ne_of_gt (blk_lt (g:=Bf) (o:=.cells #[.slice Ao9 t295.length co9,.int .i64 t298] 25 (0,0)) (bL Ba.out)):Bc≠Bf));have n11_:=Am ((by rw [hg];exact Nat.ne_of_lt (blk_lt (g:=Be) (o:=.cells #[.slice Ao13 t300.length co13,.int .i64 t303] 25 (0,0)) (bL Bb.out)):Be≠Bc));have n12_:=Am ((by rw [hg];exact Nat.ne_of_gt (blk_lt (g:=Be) (o:=.cells #[.slice Ao13 t300.length co13,.int .i64 t303] 25 (0,0)) (bL Bb.out)):Bc≠Be));clear Bg Bh Bj Ba Bb HB;revert n0_ n1_ n2_ n3_ n4_ n5_ n6_ n7_ n8_ n9_ n10_ n11_ n12_;intro Bg Bh Bj Ba Bb HB Bd Dr Bq Bp Bu Bo Bs;clear hb hbox hg;obtain ⟨Ao19,co19,eo19⟩:=Kd.R_slice Bj.out;subst eo19;have Ds:=Bu.out;have Dt:=Bp.out;have Du:=Bs.out;have Dv:=Bo.out;have BH:w18.cell? ⟨Bc,0,none⟩=some (.slice none 0 0):=(bC Bd.out 0).trans rfl;have BI:w18.cell? ⟨Bc,1,none⟩=some (.int .i64 0):=(bC Bd.out 1).trans rfl;have BJ:=bF Bd.out 0;have BK:=bF Bd.out 1))
 repeat (go_quiet (first|(go_at_call 20;(with_reducible refine (spec_DrawQueueTick.calls k _ _ l0 t295 t298 _ ?side1 ?side2 A3.out).mono ?_);(case side1=>repeat (first|exact HR0.out|(with_reducible refine cA ?_ _)|(with_reducible refine cN ?_ _)|(with_reducible refine cD ?_)));(case side2=>exact HC0.out);rintro e w7 ⟨v296,rfl,ho0,hb⟩;have n0_:=Am (Kd.R_lower ho0 (bZ (by repeat (first|(with_reducible first|exact HB.out|apply oA|apply pN|apply o1)|exact HB.out))));have n1_:=Am (bP (by repeat (first|(with_reducible first|exact HB.out|apply oA|apply pN|apply o1)|exact HB.out)) hb);clear HB;revert n0_ n1_;intro Bg HB;(try clear hb);(try clear hb2);(try clear hk);(try clear hi);(try clear ho0))|((with_reducible refine gate_dst (N:=3) rfl ?_);refine box_event ?hg (N:=3) ?hd (cs:=#[.slice none 0 0,.int .i64 0]) (t:=25) ?hr ?_;(case hd=>rfl);(case hg=>rfl);(case hr=>first|(go_simp;done)|(go_simp;rfl));intro Bf hg w8 hbox hb;have n0_:=Am (rB (rL Bg.out) hb);have n1_:=Am (bP (by repeat (first|(with_reducible first|exact HB.out|apply oA|apply pN|apply o1)|exact HB.out)) hb);have n2_:=Am (hbox);have n3_:=Am ((by rw [hg];exact (bZ (by repeat (first|(with_reducible first|exact HB.out|apply oA|apply pN|apply o1)|exact HB.out))):w.heap.size≤Bf));have n4_:=Am ((by rw [hg];exact (bZ (by repeat (first|(with_reducible first|exact HB.out|apply oA|apply pN|apply o1)|exact HB.out))):w.heap.size≤Bf));clear Bg HB;revert n0_ n1_ n2_ n3_ n4_;intro Bg HB Ba Dn Bl;clear hb hbox hg;obtain ⟨Ao9,co9,eo9⟩:=Kd.R_slice Bg.out;subst eo9;have Bv:w8.cell? ⟨Bf,0,none⟩=some (.slice none 0 0):=(bC Ba.out 0).trans rfl;have Bw:w8.cell? ⟨Bf,1,none⟩=some (.int .i64 0):=(bC Ba.out 1).trans rfl;have Bx:=bF Ba.out 0;have By:=bF Ba.out 1)|(go_at_call 21;(with_reducible refine (impl_QueueTick.calls k _ _ t295 t298 t300 t303 t304 t305 _ ?side1 ?side2 A4.out).mono ?_);(case side1=>refine (Kd.R_reads' (e:=40) (base:=w.heap.size) (ok:=fun k_=>True) (n:=t295.length) (c:=co9) ?_).2.2;exact (by (with_reducible repeat (first|apply rA|apply rN|apply rD));exact (rM (rF (p:=⟨Bf,1,none⟩) (rF (p:=⟨Bf,0,none⟩) (rT Bg.out Ba.out (by decide)) (fun _ hk=>hk.2) (.slice Ao9 t295.length co9)) (fun _ hk=>hk.2) (.int .i64 t298)) (fun _ h_=>h_.1))));(case side2=>exact (Kd.R_reads' Bg.out).2.1);rintro e w11 ⟨v301,rfl,ho0,hb⟩;have n0_:=Am (Kd.R_elder' (by (with_reducible repeat (first|apply rA|apply rN|apply rD));exact (rM (rF (p:=⟨Bf,1,none⟩) (rF (p:=⟨Bf,0,none⟩) (rT Bg.out Ba.out (by decide)) (fun _ hk=>hk.2) (.slice Ao9 t295.length co9)) (fun _ hk=>hk.2) (.int .i64 t298)) (fun _ h_=>h_.1))) (Kd.R_base ho0) hb);have n1_:=Am (Kd.R_lower (Kd.R_new' ho0 (Kd.R_lt (by (with_reducible repeat (first|apply rA|apply rN|apply rD));exact (rM (rF (p:=⟨Bf,1,none⟩) (rF (p:=⟨Bf,0,none⟩) (rT Bg.out Ba.out (by decide)) (fun _ hk=>hk.2) (.slice Ao9 t295.length co9)) (fun _ hk=>hk.2) (.int .i64 t298)) (fun _ h_=>h_.1))))) (bZ (by repeat (first|(with_reducible first|exact HB.out|apply oA|apply pN|apply o1|refine bS ?_ Bl.out)|exact HB.out))));have n2_:=Am (bB (g:=Bf) (o:=.cells #[.slice Ao9 t295.length co9,.int .i64 t298] 25 (0,0)) (by (with_reducible repeat (first|refine bN ?_ _|refine bD ?_|refine bA ?_ _));refine blk_put (cs:=#[.slice Ao9 t295.length co9,.int .i64 0]) ?_ 1 _ rfl;(with_reducible repeat (first|refine bN ?_ _|refine bD ?_|refine bA ?_ _));refine blk_put (cs:=#[.slice none 0 0,.int .i64 0]) ?_ 0 _ rfl;(with_reducible repeat (first|refine bN ?_ _|refine bD ?_|refine bA ?_ _));exact Ba.out) hb);have n3_:=Am (bP (by repeat (first|(with_reducible first|exact HB.out|apply oA|apply pN|apply o1|refine bS ?_ Bl.out)|exact HB.out)) hb);clear Bg Ba HB;revert n0_ n1_ n2_ n3_;intro Bg Bh Ba HB;(try clear hb);(try clear hb2);(try clear hk);(try clear hi);(try clear ho0))|((with_reducible refine gate_dst (N:=4) rfl ?_);refine box_event ?hg (N:=4) ?hd (cs:=#[.slice none 0 0,.int .i64 0]) (t:=25) ?hr ?_;(case hd=>rfl);(case hg=>rfl);(case hr=>first|(go_simp;done)|(go_simp;rfl));intro Be hg w12 hbox hb;have n0_:=Am (rB (rL Bg.out) hb);have n1_:=Am (rB (rL Bh.out) hb);have n2_:=Am (bB (g:=Bf) (o:=.cells #[.slice Ao9 t295.length co9,.int .i64 t298] 25 (0,0)) (bL Ba.out) hb);have n3_:=Am (bP (by repeat (first|(with_reducible first|exact HB.out|apply oA|apply pN|apply o1|refine bS ?_ Bl.out)|exact HB.out)) hb);have n4_:=Am (hbox);have n5_:=Am ((by rw [hg];exact (bZ (by repeat (first|(with_reducible first|exact HB.out|apply oA|apply pN|apply o1|refine bS ?_ Bl.out)|exact HB.out))):w.heap.size≤Be));have n6_:=Am ((by rw [hg];exact (bZ (by repeat (first|(with_reducible first|exact HB.out|apply oA|apply pN|apply o1|refine bS ?_ Bl.out)|exact HB.out))):w.heap.size≤Be));have n7_:=Am ((by rw [hg];exact Nat.ne_of_lt (blk_lt (g:=Bf) (o:=.cells #[.slice Ao9 t295.length co9,.int .i64 t298] 25 (0,0)) (bL Ba.out)):Bf≠Be));have n8_:=Am ((by rw [hg];exact Nat.ne_of_gt (blk_lt (g:=Bf) (o:=.cells #[.slice Ao9 t295.length co9,.int .i64 t298] 25 (0,0)) (bL Ba.out)):Be≠Bf));clear Bg Bh Ba HB;revert n0_ n1_ n2_ n3_ n4_ n5_ n6_ n7_ n8_;intro Bg Bh Ba HB Bb Do Bn Br Bt;clear hb hbox hg;obtain ⟨Ao13,co13,eo13⟩:=Kd.R_slice Bh.out;subst eo13;have Dp:=Bt.out;have Dq:=Br.out;have Bz:w12.cell? ⟨Be,0,none⟩=some (.slice none 0 0):=(bC Bb.out 0).trans rfl;have BA:w12.cell? ⟨Be,1,none⟩=some (.int .i64 0):=(bC Bb.out 1).trans rfl;have BB:=bF Bb.out 0;have BC:=bF Bb.out 1;have BD:w12.cell? ⟨Bf,0,none⟩=some (.slice Ao9 t295.length co9):=(bC Ba.out 0).trans rfl;have BE:w12.cell? ⟨Bf,1,none⟩=some (.int .i64 t298):=(bC Ba.out 1).trans rfl;have BF:=bF Ba.out 0;have BG:=bF Ba.out 1)|(go_at_call 22;(with_reducible refine (spec_QueueTick.calls k _ _ t295 t298 t307 t310 t311 t312 _ ?side1 ?side2 A5.out).mono ?_);(case side1=>refine (Kd.R_reads' (e:=40) (base:=w.heap.size) (ok:=fun k_=>(True∧some k_≠(.slice Ao13 t300.length co13:Value).ownBlock)) (n:=t295.length) (c:=co9) ?_).2.2;exact (by (with_reducible repeat (first|apply rA|apply rN|apply rD));exact (rM (rF (p:=⟨Be,1,none⟩) (rF (p:=⟨Be,0,none⟩) (rT Bg.out Bb.out (by decide)) (fun _ hk=>hk.2) (.slice Ao13 t300.length co13)) (fun _ hk=>hk.2) (.int .i64 t303)) (fun _ h_=>h_.1))));(case side2=>exact (Kd.R_reads' Bg.out).2.1);rintro e w17 ⟨v308,rfl,ho0,hb⟩;have n0_:=Am (Kd.R_elder' (by (with_reducible repeat (first|apply rA|apply rN|apply rD));exact (rM (rF (p:=⟨Be,1,none⟩) (rF (p:=⟨Be,0,none⟩) (rT Bg.out Bb.out (by decide)) (fun _ hk=>hk.2) (.slice Ao13 t300.length co13)) (fun _ hk=>hk.2) (.int .i64 t303)) (fun _ h_=>h_.1))) (Kd.R_base ho0) hb);have n1_:=Am (Kd.R_elder' (by (with_reducible repeat (first|apply rA|apply rN|apply rD));exact (rM (rF (p:=⟨Be,1,none⟩) (rF (p:=⟨Be,0,none⟩) (rT Bh.out Bb.out (by decide)) (fun _ hk=>hk.2) (.slice Ao13 t300.length co13)) (fun _ hk=>hk.2) (.int .i64 t303)) (fun _ h_=>h_.1))) (Kd.R_base ho0) hb);have n2_:=Am (Kd.R_lower (Kd.R_new' (Kd.R_new' ho0 (Kd.R_lt (by (with_reducible repeat (first|apply rA|apply rN|apply rD));exact (rM (rF (p:=⟨Be,1,none⟩) (rF (p:=⟨Be,0,none⟩) (rT Bg.out Bb.out (by decide)) (fun _ hk=>hk.2) (.slice Ao13 t300.length co13)) (fun _ hk=>hk.2) (.int .i64 t303)) (fun _ h_=>h_.1))))) (Kd.R_lt (by (with_reducible repeat (first|apply rA|apply rN|apply rD));exact (rM (rF (p:=⟨Be,1,none⟩) (rF (p:=⟨Be,0,none⟩) (rT Bh.out Bb.out (by decide)) (fun _ hk=>hk.2) (.slice Ao13 t300.length co13)) (fun _ hk=>hk.2) (.int .i64 t303)) (fun _ h_=>h_.1))))) (bZ (by repeat (first|(with_reducible first|exact HB.out|apply oA|apply pN|apply o1|refine bS ?_ Bl.out|refine bS ?_ Bn.out)|exact HB.out))));have n3_:=Am (bB (g:=Bf) (o:=.cells #[.slice Ao9 t295.length co9,.int .i64 t298] 25 (0,0)) (by (with_reducible repeat (first|refine bN ?_ _|refine bD ?_|refine bA ?_ _|refine blk_far ?_ Br.out _));exact Ba.out) hb);have n4_:=Am (bB (g:=Be) (o:=.cells #[.slice Ao13 t300.length co13,.int .i64 t303] 25 (0,0)) (by (with_reducible repeat (first|refine bN ?_ _|refine bD ?_|refine bA ?_ _));refine blk_put (cs:=#[.slice Ao13 t300.length co13,.int .i64 0]) ?_ 1 _ rfl;(with_reducible repeat (first|refine bN ?_ _|refine bD ?_|refine bA ?_ _));refine blk_put (cs:=#[.slice none 0 0,.int .i64 0]) ?_ 0 _ rfl;(with_reducible repeat (first|refine bN ?_ _|refine bD ?_|refine bA ?_ _));exact Bb.out) hb);have n5_:=Am (bP (by repeat (first|(with_reducible first|exact HB.out|apply oA|apply pN|apply o1|refine bS ?_ Bl.out|refine bS ?_ Bn.out)|exact HB.out)) hb);clear Bg Bh Ba Bb HB;revert n0_ n1_ n2_ n3_ n4_ n5_;intro Bg Bh Bj Ba Bb HB;(try clear hb);(try clear hb2);(try clear hk);(try clear hi);(try clear ho0))|((with_reducible refine gate_dst (N:=7) rfl ?_);refine box_event ?hg (N:=7) ?hd (cs:=#[.slice none 0 0,.int .i64 0]) (t:=25) ?hr ?_;(case hd=>rfl);(case hg=>rfl);(case hr=>first|(go_simp;done)|(go_simp;rfl));intro Bc hg w18 hbox hb;have n0_:=Am (rB (rL Bg.out) hb);have n1_:=Am (rB (rL Bh.out) hb);have n2_:=Am (rB (rL Bj.out) hb);have n3_:=Am (bB (g:=Bf) (o:=.cells #[.slice Ao9 t295.length co9,.int .i64 t298] 25 (0,0)) (bL Ba.out) hb);have n4_:=Am (bB (g:=Be) (o:=.cells #[.slice Ao13 t300.length co13,.int .i64 t303] 25 (0,0)) (bL Bb.out) hb);have n5_:=Am (bP (by repeat (first|(with_reducible first|exact HB.out|apply oA|apply pN|apply o1|refine bS ?_ Bl.out|refine bS ?_ Bn.out)|exact HB.out)) hb);have n6_:=Am (hbox);have n7_:=Am ((by rw [hg];exact (bZ (by repeat (first|(with_reducible first|exact HB.out|apply oA|apply pN|apply o1|refine bS ?_ Bl.out|refine bS ?_ Bn.out)|exact HB.out))):w.heap.size≤Bc));have n8_:=Am ((by rw [hg];exact (bZ (by repeat (first|(with_reducible first|exact HB.out|apply oA|apply pN|apply o1|refine bS ?_ Bl.out|refine bS ?_ Bn.out)|exact HB.out))):w.heap.size≤Bc));have n9_:=Am ((by rw [hg];exact Nat.ne_of_lt (blk_lt (g:=Bf) (o:=.cells #[.slice Ao9 t295.length co9,.int .i64 t298] 25 (0,0)) (bL Ba.out)):Bf≠Bc));have n10_:=Am ((by rw [hg];exact Nat.ne_of_gt (blk_lt (g:=Bf) (o:=.cells #[.slice Ao9 t295.length co9,.int .i64 t298] 25 (0,0)) (bL Ba.out)):Bc≠Bf));have n11_:=Am ((by rw [hg];exact Nat.ne_of_lt (blk_lt (g:=Be) (o:=.cells #[.slice Ao13 t300.length co13,.int .i64 t303] 25 (0,0)) (bL Bb.out)):Be≠Bc));have n12_:=Am ((by rw [hg];exact Nat.ne_of_gt (blk_lt (g:=Be) (o:=.cells #[.slice Ao13 t300.length co13,.int .i64 t303] 25 (0,0)) (bL Bb.out)):Bc≠Be));clear Bg Bh Bj Ba Bb HB;revert n0_ n1_ n2_ n3_ n4_ n5_ n6_ n7_ n8_ n9_ n10_ n11_ n12_;intro Bg Bh Bj Ba Bb HB Bd Dr Bq Bp Bu Bo Bs;clear hb hbox hg;obtain ⟨Ao19,co19,eo19⟩:=Kd.R_slice Bj.out;subst eo19;have Ds:=Bu.out;have Dt:=Bp.out;have Du:=Bs.out;have Dv:=Bo.out;have BH:w18.cell? ⟨Bc,0,none⟩=some (.slice none 0 0):=(bC Bd.out 0).trans rfl;have BI:w18.cell? ⟨Bc,1,none⟩=some (.int .i64 0):=(bC Bd.out 1).trans rfl;have BJ:=bF Bd.out 0;have BK:=bF Bd.out 1));go_upto_region 6 with (first|(go_at_call 20;(with_reducible refine (spec_DrawQueueTick.calls k _ _ l0 t295 t298 _ ?side1 ?side2 A3.out).mono ?_);(case side1=>repeat (first|exact HR0.out|(with_reducible refine cA ?_ _)|(with_reducible refine cN ?_ _)|(with_reducible refine cD ?_)));(case side2=>exact HC0.out);rintro e w7 ⟨v296,rfl,ho0,hb⟩;have n0_:=Am (Kd.R_lower ho0 (bZ (by repeat (first|(with_reducible first|exact HB.out|apply oA|apply pN|apply o1)|exact HB.out))));have n1_:=Am (bP (by repeat (first|(with_reducible first|exact HB.out|apply oA|apply pN|apply o1)|exact HB.out)) hb);clear HB;revert n0_ n1_;intro Bg HB;(try clear hb);(try clear hb2);(try clear hk);(try clear hi);(try clear ho0))|((with_reducible refine gate_dst (N:=3) rfl ?_);refine box_event ?hg (N:=3) ?hd (cs:=#[.slice none 0 0,.int .i64 0]) (t:=25) ?hr ?_;(case hd=>rfl);(case hg=>rfl);(case hr=>first|(go_simp;done)|(go_simp;rfl));intro Bf hg w8 hbox hb;have n0_:=Am (rB (rL Bg.out) hb);have n1_:=Am (bP (by repeat (first|(with_reducible first|exact HB.out|apply oA|apply pN|apply o1)|exact HB.out)) hb);have n2_:=Am (hbox);have n3_:=Am ((by rw [hg];exact (bZ (by repeat (first|(with_reducible first|exact HB.out|apply oA|apply pN|apply o1)|exact HB.out))):w.heap.size≤Bf));have n4_:=Am ((by rw [hg];exact (bZ (by repeat (first|(with_reducible first|exact HB.out|apply oA|apply pN|apply o1)|exact HB.out))):w.heap.size≤Bf));clear Bg HB;revert n0_ n1_ n2_ n3_ n4_;intro Bg HB Ba Dn Bl;clear hb hbox hg;obtain ⟨Ao9,co9,eo9⟩:=Kd.R_slice Bg.out;subst eo9;have Bv:w8.cell? ⟨Bf,0,none⟩=some (.slice none 0 0):=(bC Ba.out 0).trans rfl;have Bw:w8.cell? ⟨Bf,1,none⟩=some (.int .i64 0):=(bC Ba.out 1).trans rfl;have Bx:=bF Ba.out 0;have By:=bF Ba.out 1)|(go_at_call 21;(with_reducible refine (impl_QueueTick.calls k _ _ t295 t298 t300 t303 t304 t305 _ ?side1 ?side2 A4.out).mono ?_);(case side1=>refine (Kd.R_reads' (e:=40) (base:=w.heap.size) (ok:=fun k_=>True) (n:=t295.length) (c:=co9) ?_).2.2;exact (by (with_reducible repeat (first|apply rA|apply rN|apply rD));exact (rM (rF (p:=⟨Bf,1,none⟩) (rF (p:=⟨Bf,0,none⟩) (rT Bg.out Ba.out (by decide)) (fun _ hk=>hk.2) (.slice Ao9 t295.length co9)) (fun _ hk=>hk.2) (.int .i64 t298)) (fun _ h_=>h_.1))));(case side2=>exact (Kd.R_reads' Bg.out).2.1);rintro e w11 ⟨v301,rfl,ho0,hb⟩;have n0_:=Am (Kd.R_elder' (by (with_reducible repeat (first|apply rA|apply rN|apply rD));exact (rM (rF (p:=⟨Bf,1,none⟩) (rF (p:=⟨Bf,0,none⟩) (rT Bg.out Ba.out (by decide)) (fun _ hk=>hk.2) (.slice Ao9 t295.length co9)) (fun _ hk=>hk.2) (.int .i64 t298)) (fun _ h_=>h_.1))) (Kd.R_base ho0) hb);have n1_:=Am (Kd.R_lower (Kd.R_new' ho0 (Kd.R_lt (by (with_reducible repeat (first|apply rA|apply rN|apply rD));exact (rM (rF (p:=⟨Bf,1,none⟩) (rF (p:=⟨Bf,0,none⟩) (rT Bg.out Ba.out (by decide)) (fun _ hk=>hk.2) (.slice Ao9 t295.length co9)) (fun _ hk=>hk.2) (.int .i64 t298)) (fun _ h_=>h_.1))))) (bZ (by repeat (first|(with_reducible first|exact HB.out|apply oA|apply pN|apply o1|refine bS ?_ Bl.out)|exact HB.out))));have n2_:=Am (bB (g:=Bf) (o:=.cells #[.slice Ao9 t295.length co9,.int .i64 t298] 25 (0,0)) (by (with_reducible repeat (first|refine bN ?_ _|refine bD ?_|refine bA ?_ _));refine blk_put (cs:=#[.slice Ao9 t295.length co9,.int .i64 0]) ?_ 1 _ rfl;(with_reducible repeat (first|refine bN ?_ _|refine bD ?_|refine bA ?_ _));refine blk_put (cs:=#[.slice none 0 0,.int .i64 0]) ?_ 0 _ rfl;(with_reducible repeat (first|refine bN ?_ _|refine bD ?_|refine bA ?_ _));exact Ba.out) hb);have n3_:=Am (bP (by repeat (first|(with_reducible first|exact HB.out|apply oA|apply pN|apply o1|refine bS ?_ Bl.out)|exact HB.out)) hb);clear Bg Ba HB;revert n0_ n1_ n2_ n3_;intro Bg Bh Ba HB;(try clear hb);(try clear hb2);(try clear hk);(try clear hi);(try clear ho0))|((with_reducible refine gate_dst (N:=4) rfl ?_);refine box_event ?hg (N:=4) ?hd (cs:=#[.slice none 0 0,.int .i64 0]) (t:=25) ?hr ?_;(case hd=>rfl);(case hg=>rfl);(case hr=>first|(go_simp;done)|(go_simp;rfl));intro Be hg w12 hbox hb;have n0_:=Am (rB (rL Bg.out) hb);have n1_:=Am (rB (rL Bh.out) hb);have n2_:=Am (bB (g:=Bf) (o:=.cells #[.slice Ao9 t295.length co9,.int .i64 t298] 25 (0,0)) (bL Ba.out) hb);have n3_:=Am (bP (by repeat (first|(with_reducible first|exact HB.out|apply oA|apply pN|apply o1|refine bS ?_ Bl.out)|exact HB.out)) hb);have n4_:=Am (hbox);have n5_:=Am ((by rw [hg];exact (bZ (by repeat (first|(with_reducible first|exact HB.out|apply oA|apply pN|apply o1|refine bS ?_ Bl.out)|exact HB.out))):w.heap.size≤Be));have n6_:=Am ((by rw [hg];exact (bZ (by repeat (first|(with_reducible first|exact HB.out|apply oA|apply pN|apply o1|refine bS ?_ Bl.out)|exact HB.out))):w.heap.size≤Be));have n7_:=Am ((by rw [hg];exact Nat.ne_of_lt (blk_lt (g:=Bf) (o:=.cells #[.slice Ao9 t295.length co9,.int .i64 t298] 25 (0,0)) (bL Ba.out)):Bf≠Be));have n8_:=Am ((by rw [hg];exact Nat.ne_of_gt (blk_lt (g:=Bf) (o:=.cells #[.slice Ao9 t295.length co9,.int .i64 t298] 25 (0,0)) (bL Ba.out)):Be≠Bf));clear Bg Bh Ba HB;revert n0_ n1_ n2_ n3_ n4_ n5_ n6_ n7_ n8_;intro Bg Bh Ba HB Bb Do Bn Br Bt;clear hb hbox hg;obtain ⟨Ao13,co13,eo13⟩:=Kd.R_slice Bh.out;subst eo13;have Dp:=Bt.out;have Dq:=Br.out;have Bz:w12.cell? ⟨Be,0,none⟩=some (.slice none 0 0):=(bC Bb.out 0).trans rfl;have BA:w12.cell? ⟨Be,1,none⟩=some (.int .i64 0):=(bC Bb.out 1).trans rfl;have BB:=bF Bb.out 0;have BC:=bF Bb.out 1;have BD:w12.cell? ⟨Bf,0,none⟩=some (.slice Ao9 t295.length co9):=(bC Ba.out 0).trans rfl;have BE:w12.cell? ⟨Bf,1,none⟩=some (.int .i64 t298):=(bC Ba.out 1).trans rfl;have BF:=bF Ba.out 0;have BG:=bF Ba.out 1)|(go_at_call 22;(with_reducible refine (spec_QueueTick.calls k _ _ t295 t298 t307 t310 t311 t312 _ ?side1 ?side2 A5.out).mono ?_);(case side1=>refine (Kd.R_reads' (e:=40) (base:=w.heap.size) (ok:=fun k_=>(True∧some k_≠(.slice Ao13 t300.length co13:Value).ownBlock)) (n:=t295.length) (c:=co9) ?_).2.2;exact (by (with_reducible repeat (first|apply rA|apply rN|apply rD));exact (rM (rF (p:=⟨Be,1,none⟩) (rF (p:=⟨Be,0,none⟩) (rT Bg.out Bb.out (by decide)) (fun _ hk=>hk.2) (.slice Ao13 t300.length co13)) (fun _ hk=>hk.2) (.int .i64 t303)) (fun _ h_=>h_.1))));(case side2=>exact (Kd.R_reads' Bg.out).2.1);rintro e w17 ⟨v308,rfl,ho0,hb⟩;have n0_:=Am (Kd.R_elder' (by (with_reducible repeat (first|apply rA|apply rN|apply rD));exact (rM (rF (p:=⟨Be,1,none⟩) (rF (p:=⟨Be,0,none⟩) (rT Bg.out Bb.out (by decide)) (fun _ hk=>hk.2) (.slice Ao13 t300.length co13)) (fun _ hk=>hk.2) (.int .i64 t303)) (fun _ h_=>h_.1))) (Kd.R_base ho0) hb);have n1_:=Am (Kd.R_elder' (by (with_reducible repeat (first|apply rA|apply rN|apply rD));exact (rM (rF (p:=⟨Be,1,none⟩) (rF (p:=⟨Be,0,none⟩) (rT Bh.out Bb.out (by decide)) (fun _ hk=>hk.2) (.slice Ao13 t300.length co13)) (fun _ hk=>hk.2) (.int .i64 t303)) (fun _ h_=>h_.1))) (Kd.R_base ho0) hb);have n2_:=Am (Kd.R_lower (Kd.R_new' (Kd.R_new' ho0 (Kd.R_lt (by (with_reducible repeat (first|apply rA|apply rN|apply rD));exact (rM (rF (p:=⟨Be,1,none⟩) (rF (p:=⟨Be,0,none⟩) (rT Bg.out Bb.out (by decide)) (fun _ hk=>hk.2) (.slice Ao13 t300.length co13)) (fun _ hk=>hk.2) (.int .i64 t303)) (fun _ h_=>h_.1))))) (Kd.R_lt (by (with_reducible repeat (first|apply rA|apply rN|apply rD));exact (rM (rF (p:=⟨Be,1,none⟩) (rF (p:=⟨Be,0,none⟩) (rT Bh.out Bb.out (by decide)) (fun _ hk=>hk.2) (.slice Ao13 t300.length co13)) (fun _ hk=>hk.2) (.int .i64 t303)) (fun _ h_=>h_.1))))) (bZ (by repeat (first|(with_reducible first|exact HB.out|apply oA|apply pN|apply o1|refine bS ?_ Bl.out|refine bS ?_ Bn.out)|exact HB.out))));have n3_:=Am (bB (g:=Bf) (o:=.cells #[.slice Ao9 t295.length co9,.int .i64 t298] 25 (0,0)) (by (with_reducible repeat (first|refine bN ?_ _|refine bD ?_|refine bA ?_ _|refine blk_far ?_ Br.out _));exact Ba.out) hb);have n4_:=Am (bB (g:=Be) (o:=.cells #[.slice Ao13 t300.length co13,.int .i64 t303] 25 (0,0)) (by (with_reducible repeat (first|refine bN ?_ _|refine bD ?_|refine bA ?_ _));refine blk_put (cs:=#[.slice Ao13 t300.length co13,.int .i64 0]) ?_ 1 _ rfl;(with_reducible repeat (first|refine bN ?_ _|refine bD ?_|refine bA ?_ _));refine blk_put (cs:=#[.slice none 0 0,.int .i64 0]) ?_ 0 _ rfl;(with_reducible repeat (first|refine bN ?_ _|refine bD ?_|refine bA ?_ _));exact Bb.out) hb);have n5_:=Am (bP (by repeat (first|(with_reducible first|exact HB.out|apply oA|apply pN|apply o1|refine bS ?_ Bl.out|refine bS ?_ Bn.out)|exact HB.out)) hb);clear Bg Bh Ba Bb HB;revert n0_ n1_ n2_ n3_ n4_ n5_;intro Bg Bh Bj Ba Bb HB;(try clear hb);(try clear hb2);(try clear hk);(try clear hi);(try clear ho0))|((with_reducible refine gate_dst (N:=7) rfl ?_);refine box_event ?hg (N:=7) ?hd (cs:=#[.slice none 0 0,.int .i64 0]) (t:=25) ?hr ?_;(case hd=>rfl);(case hg=>rfl);(case hr=>first|(go_simp;done)|(go_simp;rfl));intro Bc hg w18 hbox hb;have n0_:=Am (rB (rL Bg.out) hb);have n1_:=Am (rB (rL Bh.out) hb);have n2_:=Am (rB (rL Bj.out) hb);have n3_:=Am (bB (g:=Bf) (o:=.cells #[.slice Ao9 t295.length co9,.int .i64 t298] 25 (0,0)) (bL Ba.out) hb);have n4_:=Am (bB (g:=Be) (o:=.cells #[.slice Ao13 t300.length co13,.int .i64 t303] 25 (0,0)) (bL Bb.out) hb);have n5_:=Am (bP (by repeat (first|(with_reducible first|exact HB.out|apply oA|apply pN|apply o1|refine bS ?_ Bl.out|refine bS ?_ Bn.out)|exact HB.out)) hb);have n6_:=Am (hbox);have n7_:=Am ((by rw [hg];exact (bZ (by repeat (first|(with_reducible first|exact HB.out|apply oA|apply pN|apply o1|refine bS ?_ Bl.out|refine bS ?_ Bn.out)|exact HB.out))):w.heap.size≤Bc));have n8_:=Am ((by rw [hg];exact (bZ (by repeat (first|(with_reducible first|exact HB.out|apply oA|apply pN|apply o1|refine bS ?_ Bl.out|refine bS ?_ Bn.out)|exact HB.out))):w.heap.size≤Bc));have n9_:=Am ((by rw [hg];exact Nat.ne_of_lt (blk_lt (g:=Bf) (o:=.cells #[.slice Ao9 t295.length co9,.int .i64 t298] 25 (0,0)) (bL Ba.out)):Bf≠Bc));have n10_:=Am ((by rw [hg];exact Nat.ne_of_gt (blk_lt (g:=Bf) (o:=.cells #[.slice Ao9 t295.length co9,.int .i64 t298] 25 (0,0)) (bL Ba.out)):Bc≠Bf));have n11_:=Am ((by rw [hg];exact Nat.ne_of_lt (blk_lt (g:=Be) (o:=.cells #[.slice Ao13 t300.length co13,.int .i64 t303] 25 (0,0)) (bL Bb.out)):Be≠Bc));have n12_:=Am ((by rw [hg];exact Nat.ne_of_gt (blk_lt (g:=Be) (o:=.cells #[.slice Ao13 t300.length co13,.int .i64 t303] 25 (0,0)) (bL Bb.out)):Bc≠Be));clear Bg Bh Bj Ba Bb HB;revert n0_ n1_ n2_ n3_ n4_ n5_ n6_ n7_ n8_ n9_ n10_ n11_ n12_;intro Bg Bh Bj Ba Bb HB Bd Dr Bq Bp Bu Bo Bs;clear hb hbox hg;obtain ⟨Ao19,co19,eo19⟩:=Kd.R_slice Bj.out;subst eo19;have Ds:=Bu.out;have Dt:=Bp.out;have Du:=Bs.out;have Dv:=Bo.out;have BH:w18.cell? ⟨Bc,0,none⟩=some (.slice none 0 0):=(bC Bd.out 0).trans rfl;have BI:w18.cell? ⟨Bc,1,none⟩=some (.int .i64 0):=(bC Bd.out 1).trans rfl;have BJ:=bF Bd.out 0;have BK:=bF Bd.out 1)))
 (try simp only [Act.put,lA,lZ,lS])
 go_cut [10] (fun v10 wc=>∃ (kq:Nat) (x10_5:Bool),v10=.bool x10_5∧Aside0 (laws_FnQueueTick.j0 kq t304 t305 x10_5 t295 t298 t300 t303=some r)∧Aside0 (kq≤k)∧Aside0 (Kd.R k40 40 wc w.heap.size (fun k_=>some k_≠((.slice Ao13 t300.length co13):Value).ownBlock∧some k_≠((.slice Ao19 t307.length co19):Value).ownBlock) (.slice Ao9 t295.length co9) t295)∧Aside0 (Kd.R k40 40 wc w.heap.size (fun k_=>some k_≠((.slice Ao9 t295.length co9):Value).ownBlock∧some k_≠((.slice Ao19 t307.length co19):Value).ownBlock) (.slice Ao13 t300.length co13) t300)∧Aside0 (Kd.R k40 40 wc w.heap.size (fun k_=>some k_≠((.slice Ao9 t295.length co9):Value).ownBlock∧some k_≠((.slice Ao13 t300.length co13):Value).ownBlock) (.slice Ao19 t307.length co19) t307)∧Aside0 (wc.heap[Bf]?=some (.cells #[(.slice Ao9 t295.length co9),.int .i64 t298] 25 (0,0)))∧Aside0 (wc.heap[Be]?=some (.cells #[(.slice Ao13 t300.length co13),.int .i64 t303] 25 (0,0)))∧Aside0 (wc.heap[Bc]?=some (.cells #[(.slice Ao19 t307.length co19),.int .i64 t310] 25 (0,0)))∧Aside0 (Below w.heap.size w wc))
 case first =>
  have H:=HC6.out
  clear HC6
  replace H:=oC H
  obtain ⟨t314,A230,H⟩:=H
  replace H:(if t314=true then (if t304=t311 then (laws_FnQueueTick.j0 k t304 t305 (t305 == t312) t295 t298 t300 t303) else (laws_FnQueueTick.j0 k t304 t305 false t295 t298 t300 t303)) else (laws_FnQueueTick.j0 k t304 t305 false t295 t298 t300 t303))=some r:=H
  have A23:=Am A230
  clear A230
  by_cases c24:t314=true
  rotate_left
  ·replace c24:=Bool.eq_false_iff.mpr c24
   subst c24
   have H1:(laws_FnQueueTick.j0 k t304 t305 false t295 t298 t300 t303)=some r:=by rw [if_neg (show ¬ (false=true) by decide)] at H;exact H
   clear H
   have H:=H1
   clear H1
   have H':=Am H
   clear H
   have D4:=Bt.out
   have D5:=Br.out
   have D6:=Bo.out
   have D7:=Bs.out
   have B1:w18.cell? ⟨Be,0,none⟩=some (.slice Ao13 t300.length co13):=(bC Bb.out 0).trans rfl
   have B2:w18.cell? ⟨Be,1,none⟩=some (.int .i64 t303):=(bC Bb.out 1).trans rfl
   have B3:=bF Bb.out 0
   have B4:=bF Bb.out 1
   have D8:=Bu.out
   have D9:=Bp.out
   have B5:w18.cell? ⟨Bc,0,none⟩=some (.slice none 0 0):=(bC Bd.out 0).trans rfl
   have B6:w18.cell? ⟨Bc,1,none⟩=some (.int .i64 0):=(bC Bd.out 1).trans rfl
   have B7:=bF Bd.out 0
   have B8:=bF Bd.out 1
   go_wp2_with (first|(go_at_call 15;(with_reducible refine (laws_qdQueue.calls k _ _ t300 t303 _ _ t307 t310 false _ ?side1 ?side2 ?side3 ?side4 A23.out).mono ?_);(case side1=>refine (Kd.R_reads' (e:=40) (base:=w.heap.size) (ok:=fun k_=>((True∧some k_≠(.slice Ao9 t295.length co9:Value).ownBlock)∧some k_≠(.slice Ao19 t307.length co19:Value).ownBlock)) (n:=t300.length) (c:=co13) ?_).2.2;exact (by (with_reducible repeat (first|apply rA|apply rN|apply rD));exact (rM (rF (p:=⟨Bc,1,none⟩) (rF (p:=⟨Bc,0,none⟩) (rT Bh.out Bd.out (by decide)) (fun _ hk=>hk.2) (.slice Ao19 t307.length co19)) (fun _ hk=>hk.2) (.int .i64 t310)) (fun _ h_=>h_.1))));(case side2=>exact (Kd.R_reads' Bh.out).2.1);(case side3=>refine (Kd.R_reads' (e:=40) (base:=w.heap.size) (ok:=fun k_=>((True∧some k_≠(.slice Ao9 t295.length co9:Value).ownBlock)∧some k_≠(.slice Ao13 t300.length co13:Value).ownBlock)) (n:=t307.length) (c:=co19) ?_).2.2;exact (by (with_reducible repeat (first|apply rA|apply rN|apply rD));exact (rM (rF (p:=⟨Bc,1,none⟩) (rF (p:=⟨Bc,0,none⟩) (rT Bj.out Bd.out (by decide)) (fun _ hk=>hk.2) (.slice Ao19 t307.length co19)) (fun _ hk=>hk.2) (.int .i64 t310)) (fun _ h_=>h_.1))));(case side4=>exact (Kd.R_reads' Bj.out).2.1);rintro e w43 ⟨rfl,hb⟩;have n0_:=Am (rB (by (with_reducible repeat (first|apply rA|apply rN|apply rD));exact (rM (rF (p:=⟨Bc,1,none⟩) (rF (p:=⟨Bc,0,none⟩) (rT Bg.out Bd.out (by decide)) (fun _ hk=>hk.2) (.slice Ao19 t307.length co19)) (fun _ hk=>hk.2) (.int .i64 t310)) (fun _ h_=>h_.1))) hb);have n1_:=Am (rB (by (with_reducible repeat (first|apply rA|apply rN|apply rD));exact (rM (rF (p:=⟨Bc,1,none⟩) (rF (p:=⟨Bc,0,none⟩) (rT Bh.out Bd.out (by decide)) (fun _ hk=>hk.2) (.slice Ao19 t307.length co19)) (fun _ hk=>hk.2) (.int .i64 t310)) (fun _ h_=>h_.1))) hb);have n2_:=Am (rB (by (with_reducible repeat (first|apply rA|apply rN|apply rD));exact (rM (rF (p:=⟨Bc,1,none⟩) (rF (p:=⟨Bc,0,none⟩) (rT Bj.out Bd.out (by decide)) (fun _ hk=>hk.2) (.slice Ao19 t307.length co19)) (fun _ hk=>hk.2) (.int .i64 t310)) (fun _ h_=>h_.1))) hb);have n3_:=Am (bB (g:=Bf) (o:=.cells #[.slice Ao9 t295.length co9,.int .i64 t298] 25 (0,0)) (by (with_reducible repeat (first|refine bN ?_ _|refine bD ?_|refine bA ?_ _|refine blk_far ?_ Bp.out _));exact Ba.out) hb);have n4_:=Am (bB (g:=Be) (o:=.cells #[.slice Ao13 t300.length co13,.int .i64 t303] 25 (0,0)) (by (with_reducible repeat (first|refine bN ?_ _|refine bD ?_|refine bA ?_ _|refine blk_far ?_ Bo.out _));exact Bb.out) hb);have n5_:=Am (bB (g:=Bc) (o:=.cells #[.slice Ao19 t307.length co19,.int .i64 t310] 25 (0,0)) (by (with_reducible repeat (first|refine bN ?_ _|refine bD ?_|refine bA ?_ _));refine blk_put (cs:=#[.slice Ao19 t307.length co19,.int .i64 0]) ?_ 1 _ rfl;(with_reducible repeat (first|refine bN ?_ _|refine bD ?_|refine bA ?_ _));refine blk_put (cs:=#[.slice none 0 0,.int .i64 0]) ?_ 0 _ rfl;(with_reducible repeat (first|refine bN ?_ _|refine bD ?_|refine bA ?_ _));exact Bd.out) hb);have n6_:=Am (bP (by repeat (first|(with_reducible first|exact HB.out|apply oA|apply pN|apply o1|refine bS ?_ Bl.out|refine bS ?_ Bn.out|refine bS ?_ Bq.out)|exact HB.out)) hb);clear Bg Bh Bj Ba Bb Bd HB;revert n0_ n1_ n2_ n3_ n4_ n5_ n6_;intro Bg Bh Bj Ba Bb Bd HB;(try clear hb);(try clear hb2);(try clear hk);(try clear hi)))
   repeat (go_quiet (first|(go_at_call 15;(with_reducible refine (laws_qdQueue.calls k _ _ t300 t303 _ _ t307 t310 false _ ?side1 ?side2 ?side3 ?side4 A23.out).mono ?_);(case side1=>refine (Kd.R_reads' (e:=40) (base:=w.heap.size) (ok:=fun k_=>((True∧some k_≠(.slice Ao9 t295.length co9:Value).ownBlock)∧some k_≠(.slice Ao19 t307.length co19:Value).ownBlock)) (n:=t300.length) (c:=co13) ?_).2.2;exact (by (with_reducible repeat (first|apply rA|apply rN|apply rD));exact (rM (rF (p:=⟨Bc,1,none⟩) (rF (p:=⟨Bc,0,none⟩) (rT Bh.out Bd.out (by decide)) (fun _ hk=>hk.2) (.slice Ao19 t307.length co19)) (fun _ hk=>hk.2) (.int .i64 t310)) (fun _ h_=>h_.1))));(case side2=>exact (Kd.R_reads' Bh.out).2.1);(case side3=>refine (Kd.R_reads' (e:=40) (base:=w.heap.size) (ok:=fun k_=>((True∧some k_≠(.slice Ao9 t295.length co9:Value).ownBlock)∧some k_≠(.slice Ao13 t300.length co13:Value).ownBlock)) (n:=t307.length) (c:=co19) ?_).2.2;exact (by (with_reducible repeat (first|apply rA|apply rN|apply rD));exact (rM (rF (p:=⟨Bc,1,none⟩) (rF (p:=⟨Bc,0,none⟩) (rT Bj.out Bd.out (by decide)) (fun _ hk=>hk.2) (.slice Ao19 t307.length co19)) (fun _ hk=>hk.2) (.int .i64 t310)) (fun _ h_=>h_.1))));(case side4=>exact (Kd.R_reads' Bj.out).2.1);rintro e w43 ⟨rfl,hb⟩;have n0_:=Am (rB (by (with_reducible repeat (first|apply rA|apply rN|apply rD));exact (rM (rF (p:=⟨Bc,1,none⟩) (rF (p:=⟨Bc,0,none⟩) (rT Bg.out Bd.out (by decide)) (fun _ hk=>hk.2) (.slice Ao19 t307.length co19)) (fun _ hk=>hk.2) (.int .i64 t310)) (fun _ h_=>h_.1))) hb);have n1_:=Am (rB (by (with_reducible repeat (first|apply rA|apply rN|apply rD));exact (rM (rF (p:=⟨Bc,1,none⟩) (rF (p:=⟨Bc,0,none⟩) (rT Bh.out Bd.out (by decide)) (fun _ hk=>hk.2) (.slice Ao19 t307.length co19)) (fun _ hk=>hk.2) (.int .i64 t310)) (fun _ h_=>h_.1))) hb);have n2_:=Am (rB (by (with_reducible repeat (first|apply rA|apply rN|apply rD));exact (rM (rF (p:=⟨Bc,1,none⟩) (rF (p:=⟨Bc,0,none⟩) (rT Bj.out Bd.out (by decide)) (fun _ hk=>hk.2) (.slice Ao19 t307.length co19)) (fun _ hk=>hk.2) (.int .i64 t310)) (fun _ h_=>h_.1))) hb);have n3_:=Am (bB (g:=Bf) (o:=.cells #[.slice Ao9 t295.length co9,.int .i64 t298] 25 (0,0)) (by (with_reducible repeat (first|refine bN ?_ _|refine bD ?_|refine bA ?_ _|refine blk_far ?_ Bp.out _));exact Ba.out) hb);have n4_:=Am (bB (g:=Be) (o:=.cells #[.slice Ao13 t300.length co13,.int .i64 t303] 25 (0,0)) (by (with_reducible repeat (first|refine bN ?_ _|refine bD ?_|refine bA ?_ _|refine blk_far ?_ Bo.out _));exact Bb.out) hb);have n5_:=Am (bB (g:=Bc) (o:=.cells #[.slice Ao19 t307.length co19,.int .i64 t310] 25 (0,0)) (by (with_reducible repeat (first|refine bN ?_ _|refine bD ?_|refine bA ?_ _));refine blk_put (cs:=#[.slice Ao19 t307.length co19,.int .i64 0]) ?_ 1 _ rfl;(with_reducible repeat (first|refine bN ?_ _|refine bD ?_|refine bA ?_ _));refine blk_put (cs:=#[.slice none 0 0,.int .i64 0]) ?_ 0 _ rfl;(with_reducible repeat (first|refine bN ?_ _|refine bD ?_|refine bA ?_ _));exact Bd.out) hb);have n6_:=Am (bP (by repeat (first|(with_reducible first|exact HB.out|apply oA|apply pN|apply o1|refine bS ?_ Bl.out|refine bS ?_ Bn.out|refine bS ?_ Bq.out)|exact HB.out)) hb);clear Bg Bh Bj Ba Bb Bd HB;revert n0_ n1_ n2_ n3_ n4_ n5_ n6_;intro Bg Bh Bj Ba Bb Bd HB;(try clear hb);(try clear hb2);(try clear hk);(try clear hi)));try go_wp2_with (first|(go_at_call 15;(with_reducible refine (laws_qdQueue.calls k _ _ t300 t303 _ _ t307 t310 false _ ?side1 ?side2 ?side3 ?side4 A23.out).mono ?_);(case side1=>refine (Kd.R_reads' (e:=40) (base:=w.heap.size) (ok:=fun k_=>((True∧some k_≠(.slice Ao9 t295.length co9:Value).ownBlock)∧some k_≠(.slice Ao19 t307.length co19:Value).ownBlock)) (n:=t300.length) (c:=co13) ?_).2.2;exact (by (with_reducible repeat (first|apply rA|apply rN|apply rD));exact (rM (rF (p:=⟨Bc,1,none⟩) (rF (p:=⟨Bc,0,none⟩) (rT Bh.out Bd.out (by decide)) (fun _ hk=>hk.2) (.slice Ao19 t307.length co19)) (fun _ hk=>hk.2) (.int .i64 t310)) (fun _ h_=>h_.1))));(case side2=>exact (Kd.R_reads' Bh.out).2.1);(case side3=>refine (Kd.R_reads' (e:=40) (base:=w.heap.size) (ok:=fun k_=>((True∧some k_≠(.slice Ao9 t295.length co9:Value).ownBlock)∧some k_≠(.slice Ao13 t300.length co13:Value).ownBlock)) (n:=t307.length) (c:=co19) ?_).2.2;exact (by (with_reducible repeat (first|apply rA|apply rN|apply rD));exact (rM (rF (p:=⟨Bc,1,none⟩) (rF (p:=⟨Bc,0,none⟩) (rT Bj.out Bd.out (by decide)) (fun _ hk=>hk.2) (.slice Ao19 t307.length co19)) (fun _ hk=>hk.2) (.int .i64 t310)) (fun _ h_=>h_.1))));(case side4=>exact (Kd.R_reads' Bj.out).2.1);rintro e w43 ⟨rfl,hb⟩;have n0_:=Am (rB (by (with_reducible repeat (first|apply rA|apply rN|apply rD));exact (rM (rF (p:=⟨Bc,1,none⟩) (rF (p:=⟨Bc,0,none⟩) (rT Bg.out Bd.out (by decide)) (fun _ hk=>hk.2) (.slice Ao19 t307.length co19)) (fun _ hk=>hk.2) (.int .i64 t310)) (fun _ h_=>h_.1))) hb);have n1_:=Am (rB (by (with_reducible repeat (first|apply rA|apply rN|apply rD));exact (rM (rF (p:=⟨Bc,1,none⟩) (rF (p:=⟨Bc,0,none⟩) (rT Bh.out Bd.out (by decide)) (fun _ hk=>hk.2) (.slice Ao19 t307.length co19)) (fun _ hk=>hk.2) (.int .i64 t310)) (fun _ h_=>h_.1))) hb);have n2_:=Am (rB (by (with_reducible repeat (first|apply rA|apply rN|apply rD));exact (rM (rF (p:=⟨Bc,1,none⟩) (rF (p:=⟨Bc,0,none⟩) (rT Bj.out Bd.out (by decide)) (fun _ hk=>hk.2) (.slice Ao19 t307.length co19)) (fun _ hk=>hk.2) (.int .i64 t310)) (fun _ h_=>h_.1))) hb);have n3_:=Am (bB (g:=Bf) (o:=.cells #[.slice Ao9 t295.length co9,.int .i64 t298] 25 (0,0)) (by (with_reducible repeat (first|refine bN ?_ _|refine bD ?_|refine bA ?_ _|refine blk_far ?_ Bp.out _));exact Ba.out) hb);have n4_:=Am (bB (g:=Be) (o:=.cells #[.slice Ao13 t300.length co13,.int .i64 t303] 25 (0,0)) (by (with_reducible repeat (first|refine bN ?_ _|refine bD ?_|refine bA ?_ _|refine blk_far ?_ Bo.out _));exact Bb.out) hb);have n5_:=Am (bB (g:=Bc) (o:=.cells #[.slice Ao19 t307.length co19,.int .i64 t310] 25 (0,0)) (by (with_reducible repeat (first|refine bN ?_ _|refine bD ?_|refine bA ?_ _));refine blk_put (cs:=#[.slice Ao19 t307.length co19,.int .i64 0]) ?_ 1 _ rfl;(with_reducible repeat (first|refine bN ?_ _|refine bD ?_|refine bA ?_ _));refine blk_put (cs:=#[.slice none 0 0,.int .i64 0]) ?_ 0 _ rfl;(with_reducible repeat (first|refine bN ?_ _|refine bD ?_|refine bA ?_ _));exact Bd.out) hb);have n6_:=Am (bP (by repeat (first|(with_reducible first|exact HB.out|apply oA|apply pN|apply o1|refine bS ?_ Bl.out|refine bS ?_ Bn.out|refine bS ?_ Bq.out)|exact HB.out)) hb);clear Bg Bh Bj Ba Bb Bd HB;revert n0_ n1_ n2_ n3_ n4_ n5_ n6_;intro Bg Bh Bj Ba Bb Bd HB;(try clear hb);(try clear hb2);(try clear hk);(try clear hi))))
   go_meet
   case rel=>exact ⟨_,(false),(by first|rfl|(simp;done)|(simp [*];done)),H',⟨by first|omega|exact Nat.le_refl _⟩,⟨by (with_reducible repeat (first|apply rA|apply rN|apply rD));exact rM Bg.out (fun _ hk=>⟨hk.1.2,hk.2⟩)⟩,⟨by (with_reducible repeat (first|apply rA|apply rN|apply rD));exact rM Bh.out (fun _ hk=>⟨hk.1.2,hk.2⟩)⟩,⟨by (with_reducible repeat (first|apply rA|apply rN|apply rD));exact rM Bj.out (fun _ hk=>⟨hk.1.2,hk.2⟩)⟩,⟨by (with_reducible repeat (first|refine bN ?_ _|refine bD ?_|refine bA ?_ _));exact Ba.out⟩,⟨by (with_reducible repeat (first|refine bN ?_ _|refine bD ?_|refine bA ?_ _));exact Bb.out⟩,⟨by (with_reducible repeat (first|refine bN ?_ _|refine bD ?_|refine bA ?_ _));exact Bd.out⟩,⟨by repeat (first|(with_reducible first|exact HB.out|apply oA|apply pN|apply o1|refine bS ?_ Bl.out|refine bS ?_ Bn.out|refine bS ?_ Bq.out)|exact HB.out)⟩⟩
  subst c24
  have H1:(if t304=t311 then (laws_FnQueueTick.j0 k t304 t305 (t305 == t312) t295 t298 t300 t303) else (laws_FnQueueTick.j0 k t304 t305 false t295 t298 t300 t303))=some r:=by rw [if_pos rfl] at H;exact H
  clear H
  have H:=H1
  clear H1
  by_cases c25:t304=t311
  rotate_left
  ·rw [if_neg c25] at H
   have c25b0:(t304 == t311)=false:=beq_eq_false_iff_ne.mpr c25
   have c25b1:(t304 != t311)=true:=bne_iff_ne.mpr c25
   (first|rw [c25b0]|(simp only [i64_w,i32_w];rw [c25b0])|skip)
   have H':=Am H
   clear H
   have DY:=Bt.out
   have DZ:=Br.out
   have D0:=Bo.out
   have D1:=Bs.out
   have BT:w18.cell? ⟨Be,0,none⟩=some (.slice Ao13 t300.length co13):=(bC Bb.out 0).trans rfl
   have BU:w18.cell? ⟨Be,1,none⟩=some (.int .i64 t303):=(bC Bb.out 1).trans rfl
   have BV:=bF Bb.out 0
   have BW:=bF Bb.out 1
   have D2:=Bu.out
   have D3:=Bp.out
   have BX:w18.cell? ⟨Bc,0,none⟩=some (.slice none 0 0):=(bC Bd.out 0).trans rfl
   have BY:w18.cell? ⟨Bc,1,none⟩=some (.int .i64 0):=(bC Bd.out 1).trans rfl
   have BZ:=bF Bd.out 0
   have B0:=bF Bd.out 1
   go_wp2_with (first|(go_at_call 15;(with_reducible refine (laws_qdQueue.calls k _ _ t300 t303 _ _ t307 t310 true _ ?side1 ?side2 ?side3 ?side4 A23.out).mono ?_);(case side1=>refine (Kd.R_reads' (e:=40) (base:=w.heap.size) (ok:=fun k_=>((True∧some k_≠(.slice Ao9 t295.length co9:Value).ownBlock)∧some k_≠(.slice Ao19 t307.length co19:Value).ownBlock)) (n:=t300.length) (c:=co13) ?_).2.2;exact (by (with_reducible repeat (first|apply rA|apply rN|apply rD));exact (rM (rF (p:=⟨Bc,1,none⟩) (rF (p:=⟨Bc,0,none⟩) (rT Bh.out Bd.out (by decide)) (fun _ hk=>hk.2) (.slice Ao19 t307.length co19)) (fun _ hk=>hk.2) (.int .i64 t310)) (fun _ h_=>h_.1))));(case side2=>exact (Kd.R_reads' Bh.out).2.1);(case side3=>refine (Kd.R_reads' (e:=40) (base:=w.heap.size) (ok:=fun k_=>((True∧some k_≠(.slice Ao9 t295.length co9:Value).ownBlock)∧some k_≠(.slice Ao13 t300.length co13:Value).ownBlock)) (n:=t307.length) (c:=co19) ?_).2.2;exact (by (with_reducible repeat (first|apply rA|apply rN|apply rD));exact (rM (rF (p:=⟨Bc,1,none⟩) (rF (p:=⟨Bc,0,none⟩) (rT Bj.out Bd.out (by decide)) (fun _ hk=>hk.2) (.slice Ao19 t307.length co19)) (fun _ hk=>hk.2) (.int .i64 t310)) (fun _ h_=>h_.1))));(case side4=>exact (Kd.R_reads' Bj.out).2.1);rintro e w37 ⟨rfl,hb⟩;have n0_:=Am (rB (by (with_reducible repeat (first|apply rA|apply rN|apply rD));exact (rM (rF (p:=⟨Bc,1,none⟩) (rF (p:=⟨Bc,0,none⟩) (rT Bg.out Bd.out (by decide)) (fun _ hk=>hk.2) (.slice Ao19 t307.length co19)) (fun _ hk=>hk.2) (.int .i64 t310)) (fun _ h_=>h_.1))) hb);have n1_:=Am (rB (by (with_reducible repeat (first|apply rA|apply rN|apply rD));exact (rM (rF (p:=⟨Bc,1,none⟩) (rF (p:=⟨Bc,0,none⟩) (rT Bh.out Bd.out (by decide)) (fun _ hk=>hk.2) (.slice Ao19 t307.length co19)) (fun _ hk=>hk.2) (.int .i64 t310)) (fun _ h_=>h_.1))) hb);have n2_:=Am (rB (by (with_reducible repeat (first|apply rA|apply rN|apply rD));exact (rM (rF (p:=⟨Bc,1,none⟩) (rF (p:=⟨Bc,0,none⟩) (rT Bj.out Bd.out (by decide)) (fun _ hk=>hk.2) (.slice Ao19 t307.length co19)) (fun _ hk=>hk.2) (.int .i64 t310)) (fun _ h_=>h_.1))) hb);have n3_:=Am (bB (g:=Bf) (o:=.cells #[.slice Ao9 t295.length co9,.int .i64 t298] 25 (0,0)) (by (with_reducible repeat (first|refine bN ?_ _|refine bD ?_|refine bA ?_ _|refine blk_far ?_ Bp.out _));exact Ba.out) hb);have n4_:=Am (bB (g:=Be) (o:=.cells #[.slice Ao13 t300.length co13,.int .i64 t303] 25 (0,0)) (by (with_reducible repeat (first|refine bN ?_ _|refine bD ?_|refine bA ?_ _|refine blk_far ?_ Bo.out _));exact Bb.out) hb);have n5_:=Am (bB (g:=Bc) (o:=.cells #[.slice Ao19 t307.length co19,.int .i64 t310] 25 (0,0)) (by (with_reducible repeat (first|refine bN ?_ _|refine bD ?_|refine bA ?_ _));refine blk_put (cs:=#[.slice Ao19 t307.length co19,.int .i64 0]) ?_ 1 _ rfl;(with_reducible repeat (first|refine bN ?_ _|refine bD ?_|refine bA ?_ _));refine blk_put (cs:=#[.slice none 0 0,.int .i64 0]) ?_ 0 _ rfl;(with_reducible repeat (first|refine bN ?_ _|refine bD ?_|refine bA ?_ _));exact Bd.out) hb);have n6_:=Am (bP (by repeat (first|(with_reducible first|exact HB.out|apply oA|apply pN|apply o1|refine bS ?_ Bl.out|refine bS ?_ Bn.out|refine bS ?_ Bq.out)|exact HB.out)) hb);clear Bg Bh Bj Ba Bb Bd HB;revert n0_ n1_ n2_ n3_ n4_ n5_ n6_;intro Bg Bh Bj Ba Bb Bd HB;(try clear hb);(try clear hb2);(try clear hk);(try clear hi)))
   repeat (go_quiet (first|(go_at_call 15;(with_reducible refine (laws_qdQueue.calls k _ _ t300 t303 _ _ t307 t310 true _ ?side1 ?side2 ?side3 ?side4 A23.out).mono ?_);(case side1=>refine (Kd.R_reads' (e:=40) (base:=w.heap.size) (ok:=fun k_=>((True∧some k_≠(.slice Ao9 t295.length co9:Value).ownBlock)∧some k_≠(.slice Ao19 t307.length co19:Value).ownBlock)) (n:=t300.length) (c:=co13) ?_).2.2;exact (by (with_reducible repeat (first|apply rA|apply rN|apply rD));exact (rM (rF (p:=⟨Bc,1,none⟩) (rF (p:=⟨Bc,0,none⟩) (rT Bh.out Bd.out (by decide)) (fun _ hk=>hk.2) (.slice Ao19 t307.length co19)) (fun _ hk=>hk.2) (.int .i64 t310)) (fun _ h_=>h_.1))));(case side2=>exact (Kd.R_reads' Bh.out).2.1);(case side3=>refine (Kd.R_reads' (e:=40) (base:=w.heap.size) (ok:=fun k_=>((True∧some k_≠(.slice Ao9 t295.length co9:Value).ownBlock)∧some k_≠(.slice Ao13 t300.length co13:Value).ownBlock)) (n:=t307.length) (c:=co19) ?_).2.2;exact (by (with_reducible repeat (first|apply rA|apply rN|apply rD));exact (rM (rF (p:=⟨Bc,1,none⟩) (rF (p:=⟨Bc,0,none⟩) (rT Bj.out Bd.out (by decide)) (fun _ hk=>hk.2) (.slice Ao19 t307.length co19)) (fun _ hk=>hk.2) (.int .i64 t310)) (fun _ h_=>h_.1))));(case side4=>exact (Kd.R_reads' Bj.out).2.1);rintro e w37 ⟨rfl,hb⟩;have n0_:=Am (rB (by (with_reducible repeat (first|apply rA|apply rN|apply rD));exact (rM (rF (p:=⟨Bc,1,none⟩) (rF (p:=⟨Bc,0,none⟩) (rT Bg.out Bd.out (by decide)) (fun _ hk=>hk.2) (.slice Ao19 t307.length co19)) (fun _ hk=>hk.2) (.int .i64 t310)) (fun _ h_=>h_.1))) hb);have n1_:=Am (rB (by (with_reducible repeat (first|apply rA|apply rN|apply rD));exact (rM (rF (p:=⟨Bc,1,none⟩) (rF (p:=⟨Bc,0,none⟩) (rT Bh.out Bd.out (by decide)) (fun _ hk=>hk.2) (.slice Ao19 t307.length co19)) (fun _ hk=>hk.2) (.int .i64 t310)) (fun _ h_=>h_.1))) hb);have n2_:=Am (rB (by (with_reducible repeat (first|apply rA|apply rN|apply rD));exact (rM (rF (p:=⟨Bc,1,none⟩) (rF (p:=⟨Bc,0,none⟩) (rT Bj.out Bd.out (by decide)) (fun _ hk=>hk.2) (.slice Ao19 t307.length co19)) (fun _ hk=>hk.2) (.int .i64 t310)) (fun _ h_=>h_.1))) hb);have n3_:=Am (bB (g:=Bf) (o:=.cells #[.slice Ao9 t295.length co9,.int .i64 t298] 25 (0,0)) (by (with_reducible repeat (first|refine bN ?_ _|refine bD ?_|refine bA ?_ _|refine blk_far ?_ Bp.out _));exact Ba.out) hb);have n4_:=Am (bB (g:=Be) (o:=.cells #[.slice Ao13 t300.length co13,.int .i64 t303] 25 (0,0)) (by (with_reducible repeat (first|refine bN ?_ _|refine bD ?_|refine bA ?_ _|refine blk_far ?_ Bo.out _));exact Bb.out) hb);have n5_:=Am (bB (g:=Bc) (o:=.cells #[.slice Ao19 t307.length co19,.int .i64 t310] 25 (0,0)) (by (with_reducible repeat (first|refine bN ?_ _|refine bD ?_|refine bA ?_ _));refine blk_put (cs:=#[.slice Ao19 t307.length co19,.int .i64 0]) ?_ 1 _ rfl;(with_reducible repeat (first|refine bN ?_ _|refine bD ?_|refine bA ?_ _));refine blk_put (cs:=#[.slice none 0 0,.int .i64 0]) ?_ 0 _ rfl;(with_reducible repeat (first|refine bN ?_ _|refine bD ?_|refine bA ?_ _));exact Bd.out) hb);have n6_:=Am (bP (by repeat (first|(with_reducible first|exact HB.out|apply oA|apply pN|apply o1|refine bS ?_ Bl.out|refine bS ?_ Bn.out|refine bS ?_ Bq.out)|exact HB.out)) hb);clear Bg Bh Bj Ba Bb Bd HB;revert n0_ n1_ n2_ n3_ n4_ n5_ n6_;intro Bg Bh Bj Ba Bb Bd HB;(try clear hb);(try clear hb2);(try clear hk);(try clear hi)));try go_wp2_with (first|(go_at_call 15;(with_reducible refine (laws_qdQueue.calls k _ _ t300 t303 _ _ t307 t310 true _ ?side1 ?side2 ?side3 ?side4 A23.out).mono ?_);(case side1=>refine (Kd.R_reads' (e:=40) (base:=w.heap.size) (ok:=fun k_=>((True∧some k_≠(.slice Ao9 t295.length co9:Value).ownBlock)∧some k_≠(.slice Ao19 t307.length co19:Value).ownBlock)) (n:=t300.length) (c:=co13) ?_).2.2;exact (by (with_reducible repeat (first|apply rA|apply rN|apply rD));exact (rM (rF (p:=⟨Bc,1,none⟩) (rF (p:=⟨Bc,0,none⟩) (rT Bh.out Bd.out (by decide)) (fun _ hk=>hk.2) (.slice Ao19 t307.length co19)) (fun _ hk=>hk.2) (.int .i64 t310)) (fun _ h_=>h_.1))));(case side2=>exact (Kd.R_reads' Bh.out).2.1);(case side3=>refine (Kd.R_reads' (e:=40) (base:=w.heap.size) (ok:=fun k_=>((True∧some k_≠(.slice Ao9 t295.length co9:Value).ownBlock)∧some k_≠(.slice Ao13 t300.length co13:Value).ownBlock)) (n:=t307.length) (c:=co19) ?_).2.2;exact (by (with_reducible repeat (first|apply rA|apply rN|apply rD));exact (rM (rF (p:=⟨Bc,1,none⟩) (rF (p:=⟨Bc,0,none⟩) (rT Bj.out Bd.out (by decide)) (fun _ hk=>hk.2) (.slice Ao19 t307.length co19)) (fun _ hk=>hk.2) (.int .i64 t310)) (fun _ h_=>h_.1))));(case side4=>exact (Kd.R_reads' Bj.out).2.1);rintro e w37 ⟨rfl,hb⟩;have n0_:=Am (rB (by (with_reducible repeat (first|apply rA|apply rN|apply rD));exact (rM (rF (p:=⟨Bc,1,none⟩) (rF (p:=⟨Bc,0,none⟩) (rT Bg.out Bd.out (by decide)) (fun _ hk=>hk.2) (.slice Ao19 t307.length co19)) (fun _ hk=>hk.2) (.int .i64 t310)) (fun _ h_=>h_.1))) hb);have n1_:=Am (rB (by (with_reducible repeat (first|apply rA|apply rN|apply rD));exact (rM (rF (p:=⟨Bc,1,none⟩) (rF (p:=⟨Bc,0,none⟩) (rT Bh.out Bd.out (by decide)) (fun _ hk=>hk.2) (.slice Ao19 t307.length co19)) (fun _ hk=>hk.2) (.int .i64 t310)) (fun _ h_=>h_.1))) hb);have n2_:=Am (rB (by (with_reducible repeat (first|apply rA|apply rN|apply rD));exact (rM (rF (p:=⟨Bc,1,none⟩) (rF (p:=⟨Bc,0,none⟩) (rT Bj.out Bd.out (by decide)) (fun _ hk=>hk.2) (.slice Ao19 t307.length co19)) (fun _ hk=>hk.2) (.int .i64 t310)) (fun _ h_=>h_.1))) hb);have n3_:=Am (bB (g:=Bf) (o:=.cells #[.slice Ao9 t295.length co9,.int .i64 t298] 25 (0,0)) (by (with_reducible repeat (first|refine bN ?_ _|refine bD ?_|refine bA ?_ _|refine blk_far ?_ Bp.out _));exact Ba.out) hb);have n4_:=Am (bB (g:=Be) (o:=.cells #[.slice Ao13 t300.length co13,.int .i64 t303] 25 (0,0)) (by (with_reducible repeat (first|refine bN ?_ _|refine bD ?_|refine bA ?_ _|refine blk_far ?_ Bo.out _));exact Bb.out) hb);have n5_:=Am (bB (g:=Bc) (o:=.cells #[.slice Ao19 t307.length co19,.int .i64 t310] 25 (0,0)) (by (with_reducible repeat (first|refine bN ?_ _|refine bD ?_|refine bA ?_ _));refine blk_put (cs:=#[.slice Ao19 t307.length co19,.int .i64 0]) ?_ 1 _ rfl;(with_reducible repeat (first|refine bN ?_ _|refine bD ?_|refine bA ?_ _));refine blk_put (cs:=#[.slice none 0 0,.int .i64 0]) ?_ 0 _ rfl;(with_reducible repeat (first|refine bN ?_ _|refine bD ?_|refine bA ?_ _));exact Bd.out) hb);have n6_:=Am (bP (by repeat (first|(with_reducible first|exact HB.out|apply oA|apply pN|apply o1|refine bS ?_ Bl.out|refine bS ?_ Bn.out|refine bS ?_ Bq.out)|exact HB.out)) hb);clear Bg Bh Bj Ba Bb Bd HB;revert n0_ n1_ n2_ n3_ n4_ n5_ n6_;intro Bg Bh Bj Ba Bb Bd HB;(try clear hb);(try clear hb2);(try clear hk);(try clear hi))))
   go_meet
   case rel=>exact ⟨_,(false),(by first|rfl|(simp;done)|(simp [*];done)),H',⟨by first|omega|exact Nat.le_refl _⟩,⟨by (with_reducible repeat (first|apply rA|apply rN|apply rD));exact rM Bg.out (fun _ hk=>⟨hk.1.2,hk.2⟩)⟩,⟨by (with_reducible repeat (first|apply rA|apply rN|apply rD));exact rM Bh.out (fun _ hk=>⟨hk.1.2,hk.2⟩)⟩,⟨by (with_reducible repeat (first|apply rA|apply rN|apply rD));exact rM Bj.out (fun _ hk=>⟨hk.1.2,hk.2⟩)⟩,⟨by (with_reducible repeat (first|refine bN ?_ _|refine bD ?_|refine bA ?_ _));exact Ba.out⟩,⟨by (with_reducible repeat (first|refine bN ?_ _|refine bD ?_|refine bA ?_ _));exact Bb.out⟩,⟨by (with_reducible repeat (first|refine bN ?_ _|refine bD ?_|refine bA ?_ _));exact Bd.out⟩,⟨by repeat (first|(with_reducible first|exact HB.out|apply oA|apply pN|apply o1|refine bS ?_ Bl.out|refine bS ?_ Bn.out|refine bS ?_ Bq.out)|exact HB.out)⟩⟩
  rw [if_pos c25] at H
  have c25b0:(t304 == t311)=true:=beq_iff_eq.mpr c25
  have c25b1:(t304 != t311)=false:=bne_eq_false_iff_eq.mpr c25
  clear c25
  (first|rw [c25b0]|(simp only [i64_w,i32_w];rw [c25b0])|skip)
  have H':=Am H
  clear H
  have DS:=Bt.out
  have DT:=Br.out
  have DU:=Bo.out
  have DV:=Bs.out
  have BL:w18.cell? ⟨Be,0,none⟩=some (.slice Ao13 t300.length co13):=(bC Bb.out 0).trans rfl
  have BM:w18.cell? ⟨Be,1,none⟩=some (.int .i64 t303):=(bC Bb.out 1).trans rfl
  have BN:=bF Bb.out 0
  have BO:=bF Bb.out 1
  have DW:=Bu.out
  have DX:=Bp.out
  have BP:w18.cell? ⟨Bc,0,none⟩=some (.slice none 0 0):=(bC Bd.out 0).trans rfl
  have BQ:w18.cell? ⟨Bc,1,none⟩=some (.int .i64 0):=(bC Bd.out 1).trans rfl
  have BR:=bF Bd.out 0
  have BS:=bF Bd.out 1
  go_wp2_with (first|(go_at_call 15;(with_reducible refine (laws_qdQueue.calls k _ _ t300 t303 _ _ t307 t310 true _ ?side1 ?side2 ?side3 ?side4 A23.out).mono ?_);(case side1=>refine (Kd.R_reads' (e:=40) (base:=w.heap.size) (ok:=fun k_=>((True∧some k_≠(.slice Ao9 t295.length co9:Value).ownBlock)∧some k_≠(.slice Ao19 t307.length co19:Value).ownBlock)) (n:=t300.length) (c:=co13) ?_).2.2;exact (by (with_reducible repeat (first|apply rA|apply rN|apply rD));exact (rM (rF (p:=⟨Bc,1,none⟩) (rF (p:=⟨Bc,0,none⟩) (rT Bh.out Bd.out (by decide)) (fun _ hk=>hk.2) (.slice Ao19 t307.length co19)) (fun _ hk=>hk.2) (.int .i64 t310)) (fun _ h_=>h_.1))));(case side2=>exact (Kd.R_reads' Bh.out).2.1);(case side3=>refine (Kd.R_reads' (e:=40) (base:=w.heap.size) (ok:=fun k_=>((True∧some k_≠(.slice Ao9 t295.length co9:Value).ownBlock)∧some k_≠(.slice Ao13 t300.length co13:Value).ownBlock)) (n:=t307.length) (c:=co19) ?_).2.2;exact (by (with_reducible repeat (first|apply rA|apply rN|apply rD));exact (rM (rF (p:=⟨Bc,1,none⟩) (rF (p:=⟨Bc,0,none⟩) (rT Bj.out Bd.out (by decide)) (fun _ hk=>hk.2) (.slice Ao19 t307.length co19)) (fun _ hk=>hk.2) (.int .i64 t310)) (fun _ h_=>h_.1))));(case side4=>exact (Kd.R_reads' Bj.out).2.1);rintro e w31 ⟨rfl,hb⟩;have n0_:=Am (rB (by (with_reducible repeat (first|apply rA|apply rN|apply rD));exact (rM (rF (p:=⟨Bc,1,none⟩) (rF (p:=⟨Bc,0,none⟩) (rT Bg.out Bd.out (by decide)) (fun _ hk=>hk.2) (.slice Ao19 t307.length co19)) (fun _ hk=>hk.2) (.int .i64 t310)) (fun _ h_=>h_.1))) hb);have n1_:=Am (rB (by (with_reducible repeat (first|apply rA|apply rN|apply rD));exact (rM (rF (p:=⟨Bc,1,none⟩) (rF (p:=⟨Bc,0,none⟩) (rT Bh.out Bd.out (by decide)) (fun _ hk=>hk.2) (.slice Ao19 t307.length co19)) (fun _ hk=>hk.2) (.int .i64 t310)) (fun _ h_=>h_.1))) hb);have n2_:=Am (rB (by (with_reducible repeat (first|apply rA|apply rN|apply rD));exact (rM (rF (p:=⟨Bc,1,none⟩) (rF (p:=⟨Bc,0,none⟩) (rT Bj.out Bd.out (by decide)) (fun _ hk=>hk.2) (.slice Ao19 t307.length co19)) (fun _ hk=>hk.2) (.int .i64 t310)) (fun _ h_=>h_.1))) hb);have n3_:=Am (bB (g:=Bf) (o:=.cells #[.slice Ao9 t295.length co9,.int .i64 t298] 25 (0,0)) (by (with_reducible repeat (first|refine bN ?_ _|refine bD ?_|refine bA ?_ _|refine blk_far ?_ Bp.out _));exact Ba.out) hb);have n4_:=Am (bB (g:=Be) (o:=.cells #[.slice Ao13 t300.length co13,.int .i64 t303] 25 (0,0)) (by (with_reducible repeat (first|refine bN ?_ _|refine bD ?_|refine bA ?_ _|refine blk_far ?_ Bo.out _));exact Bb.out) hb);have n5_:=Am (bB (g:=Bc) (o:=.cells #[.slice Ao19 t307.length co19,.int .i64 t310] 25 (0,0)) (by (with_reducible repeat (first|refine bN ?_ _|refine bD ?_|refine bA ?_ _));refine blk_put (cs:=#[.slice Ao19 t307.length co19,.int .i64 0]) ?_ 1 _ rfl;(with_reducible repeat (first|refine bN ?_ _|refine bD ?_|refine bA ?_ _));refine blk_put (cs:=#[.slice none 0 0,.int .i64 0]) ?_ 0 _ rfl;(with_reducible repeat (first|refine bN ?_ _|refine bD ?_|refine bA ?_ _));exact Bd.out) hb);have n6_:=Am (bP (by repeat (first|(with_reducible first|exact HB.out|apply oA|apply pN|apply o1|refine bS ?_ Bl.out|refine bS ?_ Bn.out|refine bS ?_ Bq.out)|exact HB.out)) hb);clear Bg Bh Bj Ba Bb Bd HB;revert n0_ n1_ n2_ n3_ n4_ n5_ n6_;intro Bg Bh Bj Ba Bb Bd HB;(try clear hb);(try clear hb2);(try clear hk);(try clear hi)))
  repeat (go_quiet (first|(go_at_call 15;(with_reducible refine (laws_qdQueue.calls k _ _ t300 t303 _ _ t307 t310 true _ ?side1 ?side2 ?side3 ?side4 A23.out).mono ?_);(case side1=>refine (Kd.R_reads' (e:=40) (base:=w.heap.size) (ok:=fun k_=>((True∧some k_≠(.slice Ao9 t295.length co9:Value).ownBlock)∧some k_≠(.slice Ao19 t307.length co19:Value).ownBlock)) (n:=t300.length) (c:=co13) ?_).2.2;exact (by (with_reducible repeat (first|apply rA|apply rN|apply rD));exact (rM (rF (p:=⟨Bc,1,none⟩) (rF (p:=⟨Bc,0,none⟩) (rT Bh.out Bd.out (by decide)) (fun _ hk=>hk.2) (.slice Ao19 t307.length co19)) (fun _ hk=>hk.2) (.int .i64 t310)) (fun _ h_=>h_.1))));(case side2=>exact (Kd.R_reads' Bh.out).2.1);(case side3=>refine (Kd.R_reads' (e:=40) (base:=w.heap.size) (ok:=fun k_=>((True∧some k_≠(.slice Ao9 t295.length co9:Value).ownBlock)∧some k_≠(.slice Ao13 t300.length co13:Value).ownBlock)) (n:=t307.length) (c:=co19) ?_).2.2;exact (by (with_reducible repeat (first|apply rA|apply rN|apply rD));exact (rM (rF (p:=⟨Bc,1,none⟩) (rF (p:=⟨Bc,0,none⟩) (rT Bj.out Bd.out (by decide)) (fun _ hk=>hk.2) (.slice Ao19 t307.length co19)) (fun _ hk=>hk.2) (.int .i64 t310)) (fun _ h_=>h_.1))));(case side4=>exact (Kd.R_reads' Bj.out).2.1);rintro e w31 ⟨rfl,hb⟩;have n0_:=Am (rB (by (with_reducible repeat (first|apply rA|apply rN|apply rD));exact (rM (rF (p:=⟨Bc,1,none⟩) (rF (p:=⟨Bc,0,none⟩) (rT Bg.out Bd.out (by decide)) (fun _ hk=>hk.2) (.slice Ao19 t307.length co19)) (fun _ hk=>hk.2) (.int .i64 t310)) (fun _ h_=>h_.1))) hb);have n1_:=Am (rB (by (with_reducible repeat (first|apply rA|apply rN|apply rD));exact (rM (rF (p:=⟨Bc,1,none⟩) (rF (p:=⟨Bc,0,none⟩) (rT Bh.out Bd.out (by decide)) (fun _ hk=>hk.2) (.slice Ao19 t307.length co19)) (fun _ hk=>hk.2) (.int .i64 t310)) (fun _ h_=>h_.1))) hb);have n2_:=Am (rB (by (with_reducible repeat (first|apply rA|apply rN|apply rD));exact (rM (rF (p:=⟨Bc,1,none⟩) (rF (p:=⟨Bc,0,none⟩) (rT Bj.out Bd.out (by decide)) (fun _ hk=>hk.2) (.slice Ao19 t307.length co19)) (fun _ hk=>hk.2) (.int .i64 t310)) (fun _ h_=>h_.1))) hb);have n3_:=Am (bB (g:=Bf) (o:=.cells #[.slice Ao9 t295.length co9,.int .i64 t298] 25 (0,0)) (by (with_reducible repeat (first|refine bN ?_ _|refine bD ?_|refine bA ?_ _|refine blk_far ?_ Bp.out _));exact Ba.out) hb);have n4_:=Am (bB (g:=Be) (o:=.cells #[.slice Ao13 t300.length co13,.int .i64 t303] 25 (0,0)) (by (with_reducible repeat (first|refine bN ?_ _|refine bD ?_|refine bA ?_ _|refine blk_far ?_ Bo.out _));exact Bb.out) hb);have n5_:=Am (bB (g:=Bc) (o:=.cells #[.slice Ao19 t307.length co19,.int .i64 t310] 25 (0,0)) (by (with_reducible repeat (first|refine bN ?_ _|refine bD ?_|refine bA ?_ _));refine blk_put (cs:=#[.slice Ao19 t307.length co19,.int .i64 0]) ?_ 1 _ rfl;(with_reducible repeat (first|refine bN ?_ _|refine bD ?_|refine bA ?_ _));refine blk_put (cs:=#[.slice none 0 0,.int .i64 0]) ?_ 0 _ rfl;(with_reducible repeat (first|refine bN ?_ _|refine bD ?_|refine bA ?_ _));exact Bd.out) hb);have n6_:=Am (bP (by repeat (first|(with_reducible first|exact HB.out|apply oA|apply pN|apply o1|refine bS ?_ Bl.out|refine bS ?_ Bn.out|refine bS ?_ Bq.out)|exact HB.out)) hb);clear Bg Bh Bj Ba Bb Bd HB;revert n0_ n1_ n2_ n3_ n4_ n5_ n6_;intro Bg Bh Bj Ba Bb Bd HB;(try clear hb);(try clear hb2);(try clear hk);(try clear hi)));try go_wp2_with (first|(go_at_call 15;(with_reducible refine (laws_qdQueue.calls k _ _ t300 t303 _ _ t307 t310 true _ ?side1 ?side2 ?side3 ?side4 A23.out).mono ?_);(case side1=>refine (Kd.R_reads' (e:=40) (base:=w.heap.size) (ok:=fun k_=>((True∧some k_≠(.slice Ao9 t295.length co9:Value).ownBlock)∧some k_≠(.slice Ao19 t307.length co19:Value).ownBlock)) (n:=t300.length) (c:=co13) ?_).2.2;exact (by (with_reducible repeat (first|apply rA|apply rN|apply rD));exact (rM (rF (p:=⟨Bc,1,none⟩) (rF (p:=⟨Bc,0,none⟩) (rT Bh.out Bd.out (by decide)) (fun _ hk=>hk.2) (.slice Ao19 t307.length co19)) (fun _ hk=>hk.2) (.int .i64 t310)) (fun _ h_=>h_.1))));(case side2=>exact (Kd.R_reads' Bh.out).2.1);(case side3=>refine (Kd.R_reads' (e:=40) (base:=w.heap.size) (ok:=fun k_=>((True∧some k_≠(.slice Ao9 t295.length co9:Value).ownBlock)∧some k_≠(.slice Ao13 t300.length co13:Value).ownBlock)) (n:=t307.length) (c:=co19) ?_).2.2;exact (by (with_reducible repeat (first|apply rA|apply rN|apply rD));exact (rM (rF (p:=⟨Bc,1,none⟩) (rF (p:=⟨Bc,0,none⟩) (rT Bj.out Bd.out (by decide)) (fun _ hk=>hk.2) (.slice Ao19 t307.length co19)) (fun _ hk=>hk.2) (.int .i64 t310)) (fun _ h_=>h_.1))));(case side4=>exact (Kd.R_reads' Bj.out).2.1);rintro e w31 ⟨rfl,hb⟩;have n0_:=Am (rB (by (with_reducible repeat (first|apply rA|apply rN|apply rD));exact (rM (rF (p:=⟨Bc,1,none⟩) (rF (p:=⟨Bc,0,none⟩) (rT Bg.out Bd.out (by decide)) (fun _ hk=>hk.2) (.slice Ao19 t307.length co19)) (fun _ hk=>hk.2) (.int .i64 t310)) (fun _ h_=>h_.1))) hb);have n1_:=Am (rB (by (with_reducible repeat (first|apply rA|apply rN|apply rD));exact (rM (rF (p:=⟨Bc,1,none⟩) (rF (p:=⟨Bc,0,none⟩) (rT Bh.out Bd.out (by decide)) (fun _ hk=>hk.2) (.slice Ao19 t307.length co19)) (fun _ hk=>hk.2) (.int .i64 t310)) (fun _ h_=>h_.1))) hb);have n2_:=Am (rB (by (with_reducible repeat (first|apply rA|apply rN|apply rD));exact (rM (rF (p:=⟨Bc,1,none⟩) (rF (p:=⟨Bc,0,none⟩) (rT Bj.out Bd.out (by decide)) (fun _ hk=>hk.2) (.slice Ao19 t307.length co19)) (fun _ hk=>hk.2) (.int .i64 t310)) (fun _ h_=>h_.1))) hb);have n3_:=Am (bB (g:=Bf) (o:=.cells #[.slice Ao9 t295.length co9,.int .i64 t298] 25 (0,0)) (by (with_reducible repeat (first|refine bN ?_ _|refine bD ?_|refine bA ?_ _|refine blk_far ?_ Bp.out _));exact Ba.out) hb);have n4_:=Am (bB (g:=Be) (o:=.cells #[.slice Ao13 t300.length co13,.int .i64 t303] 25 (0,0)) (by (with_reducible repeat (first|refine bN ?_ _|refine bD ?_|refine bA ?_ _|refine blk_far ?_ Bo.out _));exact Bb.out) hb);have n5_:=Am (bB (g:=Bc) (o:=.cells #[.slice Ao19 t307.length co19,.int .i64 t310] 25 (0,0)) (by (with_reducible repeat (first|refine bN ?_ _|refine bD ?_|refine bA ?_ _));refine blk_put (cs:=#[.slice Ao19 t307.length co19,.int .i64 0]) ?_ 1 _ rfl;(with_reducible repeat (first|refine bN ?_ _|refine bD ?_|refine bA ?_ _));refine blk_put (cs:=#[.slice none 0 0,.int .i64 0]) ?_ 0 _ rfl;(with_reducible repeat (first|refine bN ?_ _|refine bD ?_|refine bA ?_ _));exact Bd.out) hb);have n6_:=Am (bP (by repeat (first|(with_reducible first|exact HB.out|apply oA|apply pN|apply o1|refine bS ?_ Bl.out|refine bS ?_ Bn.out|refine bS ?_ Bq.out)|exact HB.out)) hb);clear Bg Bh Bj Ba Bb Bd HB;revert n0_ n1_ n2_ n3_ n4_ n5_ n6_;intro Bg Bh Bj Ba Bb Bd HB;(try clear hb);(try clear hb2);(try clear hk);(try clear hi))))
  go_meet
  case rel=>exact ⟨_,((t305 == t312)),(by first|rfl|(simp;done)|(simp [*];done)),H',⟨by first|omega|exact Nat.le_refl _⟩,⟨by (with_reducible repeat (first|apply rA|apply rN|apply rD));exact rM Bg.out (fun _ hk=>⟨hk.1.2,hk.2⟩)⟩,⟨by (with_reducible repeat (first|apply rA|apply rN|apply rD));exact rM Bh.out (fun _ hk=>⟨hk.1.2,hk.2⟩)⟩,⟨by (with_reducible repeat (first|apply rA|apply rN|apply rD));exact rM Bj.out (fun _ hk=>⟨hk.1.2,hk.2⟩)⟩,⟨by (with_reducible repeat (first|refine bN ?_ _|refine bD ?_|refine bA ?_ _));exact Ba.out⟩,⟨by (with_reducible repeat (first|refine bN ?_ _|refine bD ?_|refine bA ?_ _));exact Bb.out⟩,⟨by (with_reducible repeat (first|refine bN ?_ _|refine bD ?_|refine bA ?_ _));exact Bd.out⟩,⟨by repeat (first|(with_reducible first|exact HB.out|apply oA|apply pN|apply o1|refine bS ?_ Bl.out|refine bS ?_ Bn.out|refine bS ?_ Bq.out)|exact HB.out)⟩⟩
 case rest =>
  clear HC6
  try clear c1
  try clear c2
  try clear c2b0
  try clear c2b1
  try clear p2
  try clear c3
  try clear c4
  try clear c5
  try clear c14
  try clear c20
  try clear c21
  try clear c24
  try clear c25
  try clear c25b0
  try clear c25b1
  try clear c26
  try clear c27
  try clear c29
  try clear c32
  try clear c33
  try clear c35
  try clear c38
  try clear c39
  try clear c41
  try clear Bv
  try clear Bw
  try clear Bz
  try clear BA
  try clear BD
  try clear BE
  try clear BH
  try clear BI
  try clear BL
  try clear BM
  try clear BP
  try clear BQ
  try clear BT
  try clear BU
  try clear BX
  try clear BY
  try clear B1
  try clear B2
  try clear B5
  try clear B6
  try clear Bx
  try clear By
  try clear BB
  try clear BC
  try clear BF
  try clear BG
  try clear BJ
  try clear BK
  try clear BN
  try clear BO
  try clear BR
  try clear BS
  try clear BV
  try clear BW
  try clear BZ
  try clear B0
  try clear B3
  try clear B4
  try clear B7
  try clear B8
  obtain ⟨kq,x10_5,rfl,HA,B9,Bi,Bk,Bm,Ba,Bb,Bd,HB⟩:=hcut
  cases kq with
 |zero=>exact absurd HA.out (by simp [laws_FnQueueTick.j0])
 |succ kj5 =>
   have H:=HA.out
   clear HA
   simp only [laws_FnQueueTick.j0] at H
   have HC44:=Am H
   clear H
   go_upto_region 7 with (fail)
   repeat (go_quiet (fail);go_upto_region 7 with (fail))
   go_cut [47] (fun v47 wc=>∃ (kq:Nat) (x47_43:Bool),v47=.bool x47_43∧Aside0 (laws_FnQueueTick.j1 kq t304 x10_5 x47_43 t295 t298 t300 t303=some r)∧Aside0 (kq≤kj5)∧Aside0 (Kd.R k40 40 wc w.heap.size (fun k_=>some k_≠((.slice Ao13 t300.length co13):Value).ownBlock∧some k_≠((.slice Ao19 t307.length co19):Value).ownBlock) (.slice Ao9 t295.length co9) t295)∧Aside0 (Kd.R k40 40 wc w.heap.size (fun k_=>some k_≠((.slice Ao9 t295.length co9):Value).ownBlock∧some k_≠((.slice Ao19 t307.length co19):Value).ownBlock) (.slice Ao13 t300.length co13) t300)∧Aside0 (Kd.R k40 40 wc w.heap.size (fun k_=>some k_≠((.slice Ao9 t295.length co9):Value).ownBlock∧some k_≠((.slice Ao13 t300.length co13):Value).ownBlock) (.slice Ao19 t307.length co19) t307)∧Aside0 (wc.heap[Bf]?=some (.cells #[(.slice Ao9 t295.length co9),.int .i64 t298] 25 (0,0)))∧Aside0 (wc.heap[Be]?=some (.cells #[(.slice Ao13 t300.length co13),.int .i64 t303] 25 (0,0)))∧Aside0 (wc.heap[Bc]?=some (.cells #[(.slice Ao19 t307.length co19),.int .i64 t310] 25 (0,0)))∧Aside0 (Below w.heap.size w wc))
   case first =>
    have H:=HC44.out
    clear HC44
    by_cases c45:x10_5=true
    ·subst c45
     have H1:(laws_FnQueueTick.j1 kj5 t304 true (!t305) t295 t298 t300 t303)=some r:=by rw [if_pos rfl] at H;exact H
     clear H
     have H:=H1
     clear H1
     have H':=Am H
     clear H
     go_wp2
     repeat (go_quiet (fail);try go_wp2)
     go_meet
     case rel=>exact ⟨_,(!t305),(by first|rfl|(simp;done)|(simp [*];done)),H',⟨by have:=B9.out;first|omega|exact Nat.le_refl _⟩,⟨by (with_reducible repeat (first|apply rA|apply rN|apply rD));exact Bi.out⟩,⟨by (with_reducible repeat (first|apply rA|apply rN|apply rD));exact Bk.out⟩,⟨by (with_reducible repeat (first|apply rA|apply rN|apply rD));exact Bm.out⟩,⟨by (with_reducible repeat (first|refine bN ?_ _|refine bD ?_|refine bA ?_ _));exact Ba.out⟩,⟨by (with_reducible repeat (first|refine bN ?_ _|refine bD ?_|refine bA ?_ _));exact Bb.out⟩,⟨by (with_reducible repeat (first|refine bN ?_ _|refine bD ?_|refine bA ?_ _));exact Bd.out⟩,⟨by repeat (first|(with_reducible first|exact HB.out|apply oA|apply pN|apply o1|refine bS ?_ Bl.out|refine bS ?_ Bn.out|refine bS ?_ Bq.out)|exact HB.out)⟩⟩
    replace c45:=Bool.eq_false_iff.mpr c45
    subst c45
    have H1:(laws_FnQueueTick.j1 kj5 t304 false true t295 t298 t300 t303)=some r:=by rw [if_neg (show ¬ (false=true) by decide)] at H;exact H
    clear H
    have H:=H1
    clear H1
    have H':=Am H
    clear H
    go_wp2
    repeat (go_quiet (fail);try go_wp2)
    go_meet
    case rel=>exact ⟨_,(true),(by first|rfl|(simp;done)|(simp [*];done)),H',⟨by have:=B9.out;first|omega|exact Nat.le_refl _⟩,⟨by (with_reducible repeat (first|apply rA|apply rN|apply rD));exact Bi.out⟩,⟨by (with_reducible repeat (first|apply rA|apply rN|apply rD));exact Bk.out⟩,⟨by (with_reducible repeat (first|apply rA|apply rN|apply rD));exact Bm.out⟩,⟨by (with_reducible repeat (first|refine bN ?_ _|refine bD ?_|refine bA ?_ _));exact Ba.out⟩,⟨by (with_reducible repeat (first|refine bN ?_ _|refine bD ?_|refine bA ?_ _));exact Bb.out⟩,⟨by (with_reducible repeat (first|refine bN ?_ _|refine bD ?_|refine bA ?_ _));exact Bd.out⟩,⟨by repeat (first|(with_reducible first|exact HB.out|apply oA|apply pN|apply o1|refine bS ?_ Bl.out|refine bS ?_ Bn.out|refine bS ?_ Bq.out)|exact HB.out)⟩⟩
   case rest =>
    clear HC44
    try clear c1
    try clear c2
    try clear c2b0
    try clear c2b1
    try clear p2
    try clear c3
    try clear c4
    try clear c5
    try clear c14
    try clear c20
    try clear c21
    try clear c24
    try clear c25
    try clear c25b0
    try clear c25b1
    try clear c26
    try clear c27
    try clear c29
    try clear c32
    try clear c33
    try clear c35
    try clear c38
    try clear c39
    try clear c41
    try clear c45
    try clear Bv
    try clear Bw
    try clear Bz
    try clear BA
    try clear BD
    try clear BE
    try clear BH
    try clear BI
    try clear BL
    try clear BM
    try clear BP
    try clear BQ
    try clear BT
    try clear BU
    try clear BX
    try clear BY
    try clear B1
    try clear B2
    try clear B5
    try clear B6
    try clear Bx
    try clear By
    try clear BB
    try clear BC
    try clear BF
    try clear BG
    try clear BJ
    try clear BK
    try clear BN
    try clear BO
    try clear BR
    try clear BS
    try clear BV
    try clear BW
    try clear BZ
    try clear B0
    try clear B3
    try clear B4
    try clear B7
    try clear B8
    try clear p2
    obtain ⟨kq,x47_43,rfl,HA,Dm,Bi,Bk,Bm,Ba,Bb,Bd,HB⟩:=hcut
    cases kq with
   |zero=>exact absurd HA.out (by simp [laws_FnQueueTick.j1])
   |succ kj43 =>
     have H:=HA.out
     clear HA
     simp only [laws_FnQueueTick.j1] at H
     by_cases c46:x47_43=true
     ·subst c46
      have H1:(some x10_5)=some r:=by rw [if_pos rfl] at H;exact H
      clear H
      have H:=H1
      clear H1
      obtain rfl:=Option.some.inj H
      go_wp2
      repeat (go_quiet (fail);try go_wp2)
      go_ret
      exact ⟨by first|rfl|(simp [errW_none,errW_some] <;> rfl)|(simp [*,errW_none,errW_some] <;> rfl),by repeat (first|(with_reducible first|exact HB.out|apply oA|apply pN|apply o1|refine bS ?_ Bl.out|refine bS ?_ Bn.out|refine bS ?_ Bq.out)|exact HB.out)⟩
     replace c46:=Bool.eq_false_iff.mpr c46
     subst c46
     have H1:(laws_FnQueueTick.l0 kj43 t304 0 t295 t298 t300 t303)=some r:=by rw [if_neg (show ¬ (false=true) by decide)] at H;exact H
     clear H
     have H:=H1
     clear H1
     have H':=Am H
     clear H
     go_wp2
     repeat (go_quiet (fail);try go_wp2)
     go_loopg [11] kj43 (fun kq v11 w'=>∃ (x11_3:Int),v11=.int .i64 x11_3∧Aside0 (laws_FnQueueTick.l0 kq t304 x11_3 t295 t298 t300 t303=some r)∧Aside0 (kq≤kj43)∧Aside0 (Kd.R k40 40 w' w.heap.size (fun k_=>some k_≠((.slice Ao13 t300.length co13):Value).ownBlock∧some k_≠((.slice Ao19 t307.length co19):Value).ownBlock) (.slice Ao9 t295.length co9) t295)∧Aside0 (Kd.R k40 40 w' w.heap.size (fun k_=>some k_≠((.slice Ao9 t295.length co9):Value).ownBlock∧some k_≠((.slice Ao19 t307.length co19):Value).ownBlock) (.slice Ao13 t300.length co13) t300)∧Aside0 (Kd.R k40 40 w' w.heap.size (fun k_=>some k_≠((.slice Ao9 t295.length co9):Value).ownBlock∧some k_≠((.slice Ao13 t300.length co13):Value).ownBlock) (.slice Ao19 t307.length co19) t307)∧Aside0 (w'.heap[Bf]?=some (.cells #[(.slice Ao9 t295.length co9),.int .i64 t298] 25 (0,0)))∧Aside0 (w'.heap[Be]?=some (.cells #[(.slice Ao13 t300.length co13),.int .i64 t303] 25 (0,0)))∧Aside0 (w'.heap[Bc]?=some (.cells #[(.slice Ao19 t307.length co19),.int .i64 t310] 25 (0,0)))∧Aside0 (Below w.heap.size w w'))
     case atStart=>exact ⟨(0),(by first|rfl|(simp;done)|(simp [*];done)),H',⟨Nat.le_refl _⟩,⟨by (with_reducible repeat (first|apply rA|apply rN|apply rD));exact Bi.out⟩,⟨by (with_reducible repeat (first|apply rA|apply rN|apply rD));exact Bk.out⟩,⟨by (with_reducible repeat (first|apply rA|apply rN|apply rD));exact Bm.out⟩,⟨by (with_reducible repeat (first|refine bN ?_ _|refine bD ?_|refine bA ?_ _));exact Ba.out⟩,⟨by (with_reducible repeat (first|refine bN ?_ _|refine bD ?_|refine bA ?_ _));exact Bb.out⟩,⟨by (with_reducible repeat (first|refine bN ?_ _|refine bD ?_|refine bA ?_ _));exact Bd.out⟩,⟨by repeat (first|(with_reducible first|exact HB.out|apply oA|apply pN|apply o1|refine bS ?_ Bl.out|refine bS ?_ Bn.out|refine bS ?_ Bq.out)|exact HB.out)⟩⟩
     case round =>
      clear H'
      try clear c1
      try clear c2
      try clear c2b0
      try clear c2b1
      try clear p2
      try clear c3
      try clear c4
      try clear c5
      try clear c14
      try clear c20
      try clear c21
      try clear c24
      try clear c25
      try clear c25b0
      try clear c25b1
      try clear c26
      try clear c27
      try clear c29
      try clear c32
      try clear c33
      try clear c35
      try clear c38
      try clear c39
      try clear c41
      try clear c45
      try clear c46
      try clear Bv
      try clear Bw
      try clear Bz
      try clear BA
      try clear BD
      try clear BE
      try clear BH
      try clear BI
      try clear BL
      try clear BM
      try clear BP
      try clear BQ
      try clear BT
      try clear BU
      try clear BX
      try clear BY
      try clear B1
      try clear B2
      try clear B5
      try clear B6
      try clear Bx
      try clear By
      try clear BB
      try clear BC
      try clear BF
      try clear BG
      try clear BJ
      try clear BK
      try clear BN
      try clear BO
      try clear BR
      try clear BS
      try clear BV
      try clear BW
      try clear BZ
      try clear B0
      try clear B3
      try clear B4
      try clear B7
      try clear B8
      try clear p2
      obtain ⟨x11_3,rfl,HA,HK3,Bi,Bk,Bm,Ba,Bb,Bd,HB⟩:=hrel
      cases gk with
     |zero=>exact absurd HA.out (by simp [laws_FnQueueTick.l0])
     |succ k3 =>
       have H:=HA.out
       clear HA
       simp only [laws_FnQueueTick.l0] at H
       by_cases c47:x11_3<(t295.length:Int)
       rotate_left
       ·rw [if_neg c47] at H
        have c47b0:decide (x11_3<(t295.length:Int))=false:=decide_eq_false c47
        clear c47
        replace H:=oC H
        obtain ⟨t323,A650,H⟩:=H
        replace H:(if t304=t323 then ((impl_QueueOk.f k3 t300 t303).bind fun t324=>(if t324=true then (some (decide (t303 ≥ t298))) else (some false))) else (some false))=some r:=H
        have A65:=Am A650
        clear A650
        by_cases c66:t304=t323
        rotate_left
        ·rw [if_neg c66] at H
         have c66b0:(t304 == t323)=false:=beq_eq_false_iff_ne.mpr c66
         have c66b1:(t304 != t323)=true:=bne_iff_ne.mpr c66
         exact absurd ((Option.some.inj H).trans hT_.out) (by decide)

        rw [if_pos c66] at H
        have c66b0:(t304 == t323)=true:=beq_iff_eq.mpr c66
        have c66b1:(t304 != t323)=false:=bne_eq_false_iff_eq.mpr c66
        clear c66
        replace H:=oC H
        obtain ⟨t324,A670,H⟩:=H
        replace H:(if t324=true then (some (decide (t303 ≥ t298))) else (some false))=some r:=H
        have A67:=Am A670
        clear A670
        by_cases c68:t324=true
        rotate_left
        ·replace c68:=Bool.eq_false_iff.mpr c68
         subst c68
         have H1:(some false)=some r:=by rw [if_neg (show ¬ (false=true) by decide)] at H;exact H
         clear H
         have H:=H1
         clear H1
         exact absurd ((Option.some.inj H).trans hT_.out) (by decide)
        subst c68
        have H1:(some (decide (t303 ≥ t298)))=some r:=by rw [if_pos rfl] at H;exact H
        clear H
        have H:=H1
        clear H1
        obtain rfl:=Option.some.inj H
        have Fm:=Br.out
        have Fn:=Bt.out
        have Fo:=Bp.out
        have Fp:=Bu.out
        have DO:wr.cell? ⟨Bf,0,none⟩=some (.slice Ao9 t295.length co9):=(bC Ba.out 0).trans rfl
        have DP:wr.cell? ⟨Bf,1,none⟩=some (.int .i64 t298):=(bC Ba.out 1).trans rfl
        have DQ:=bF Ba.out 0
        have DR:=bF Ba.out 1
        go_wp2_with (first|(go_at_call 23;(with_reducible refine (impl_QueueNext.calls k3 _ _ t295 t298 t323 _ ?side1 ?side2 A65.out).mono ?_);(case side1=>repeat (first|exact (Kd.R_reads' Bi.out).2.2|(with_reducible refine cA ?_ _)|(with_reducible refine cN ?_ _)|(with_reducible refine cD ?_)));(case side2=>exact (Kd.R_reads' Bi.out).2.1);rintro e w72 ⟨rfl,hb⟩;have n0_:=Am (rB (rL Bi.out) hb);have n1_:=Am (rB (rL Bk.out) hb);have n2_:=Am (rB (rL Bm.out) hb);have n3_:=Am (bB (g:=Bf) (o:=.cells #[.slice Ao9 t295.length co9,.int .i64 t298] 25 (0,0)) (bL Ba.out) hb);have n4_:=Am (bB (g:=Be) (o:=.cells #[.slice Ao13 t300.length co13,.int .i64 t303] 25 (0,0)) (bL Bb.out) hb);have n5_:=Am (bB (g:=Bc) (o:=.cells #[.slice Ao19 t307.length co19,.int .i64 t310] 25 (0,0)) (bL Bd.out) hb);have n6_:=Am (bP (by repeat (first|(with_reducible first|exact HB.out|apply oA|apply pN|apply o1|refine bS ?_ Bl.out|refine bS ?_ Bn.out|refine bS ?_ Bq.out)|exact HB.out)) hb);clear Bi Bk Bm Ba Bb Bd HB;revert n0_ n1_ n2_ n3_ n4_ n5_ n6_;intro Bi Bk Bm Ba Bb Bd HB;(try clear hb);(try clear hb2);(try clear hk);(try clear hi);have Dw:=Bo.out;have Dx:=Bs.out;have Da:w72.cell? ⟨Be,0,none⟩=some (.slice Ao13 t300.length co13):=(bC Bb.out 0).trans rfl;have Db:w72.cell? ⟨Be,1,none⟩=some (.int .i64 t303):=(bC Bb.out 1).trans rfl;have Dc:=bF Bb.out 0;have Dd:=bF Bb.out 1)|(go_at_call 16;(with_reducible refine (impl_QueueOk.calls k3 _ _ t300 t303 true _ ?side1 ?side2 A67.out).mono ?_);(case side1=>repeat (first|exact (Kd.R_reads' Bk.out).2.2|(with_reducible refine cA ?_ _)|(with_reducible refine cN ?_ _)|(with_reducible refine cD ?_)));(case side2=>exact (Kd.R_reads' Bk.out).2.1);rintro e w75 ⟨rfl,hb⟩;have n0_:=Am (rB (rL Bi.out) hb);have n1_:=Am (rB (rL Bk.out) hb);have n2_:=Am (rB (rL Bm.out) hb);have n3_:=Am (bB (g:=Bf) (o:=.cells #[.slice Ao9 t295.length co9,.int .i64 t298] 25 (0,0)) (bL Ba.out) hb);have n4_:=Am (bB (g:=Be) (o:=.cells #[.slice Ao13 t300.length co13,.int .i64 t303] 25 (0,0)) (bL Bb.out) hb);have n5_:=Am (bB (g:=Bc) (o:=.cells #[.slice Ao19 t307.length co19,.int .i64 t310] 25 (0,0)) (bL Bd.out) hb);have n6_:=Am (bP (by repeat (first|(with_reducible first|exact HB.out|apply oA|apply pN|apply o1|refine bS ?_ Bl.out|refine bS ?_ Bn.out|refine bS ?_ Bq.out)|exact HB.out)) hb);clear Bi Bk Bm Ba Bb Bd HB;revert n0_ n1_ n2_ n3_ n4_ n5_ n6_;intro Bi Bk Bm Ba Bb Bd HB;(try clear hb);(try clear hb2);(try clear hk);(try clear hi);have De:w75.cell? ⟨Be,0,none⟩=some (.slice Ao13 t300.length co13):=(bC Bb.out 0).trans rfl;have Df:w75.cell? ⟨Be,1,none⟩=some (.int .i64 t303):=(bC Bb.out 1).trans rfl;have Dg:=bF Bb.out 0;have Dh:=bF Bb.out 1;have Di:w75.cell? ⟨Bf,0,none⟩=some (.slice Ao9 t295.length co9):=(bC Ba.out 0).trans rfl;have Dj:w75.cell? ⟨Bf,1,none⟩=some (.int .i64 t298):=(bC Ba.out 1).trans rfl;have Dk:=bF Ba.out 0;have Dl:=bF Ba.out 1))
        repeat (go_quiet (first|(go_at_call 23;(with_reducible refine (impl_QueueNext.calls k3 _ _ t295 t298 t323 _ ?side1 ?side2 A65.out).mono ?_);(case side1=>repeat (first|exact (Kd.R_reads' Bi.out).2.2|(with_reducible refine cA ?_ _)|(with_reducible refine cN ?_ _)|(with_reducible refine cD ?_)));(case side2=>exact (Kd.R_reads' Bi.out).2.1);rintro e w72 ⟨rfl,hb⟩;have n0_:=Am (rB (rL Bi.out) hb);have n1_:=Am (rB (rL Bk.out) hb);have n2_:=Am (rB (rL Bm.out) hb);have n3_:=Am (bB (g:=Bf) (o:=.cells #[.slice Ao9 t295.length co9,.int .i64 t298] 25 (0,0)) (bL Ba.out) hb);have n4_:=Am (bB (g:=Be) (o:=.cells #[.slice Ao13 t300.length co13,.int .i64 t303] 25 (0,0)) (bL Bb.out) hb);have n5_:=Am (bB (g:=Bc) (o:=.cells #[.slice Ao19 t307.length co19,.int .i64 t310] 25 (0,0)) (bL Bd.out) hb);have n6_:=Am (bP (by repeat (first|(with_reducible first|exact HB.out|apply oA|apply pN|apply o1|refine bS ?_ Bl.out|refine bS ?_ Bn.out|refine bS ?_ Bq.out)|exact HB.out)) hb);clear Bi Bk Bm Ba Bb Bd HB;revert n0_ n1_ n2_ n3_ n4_ n5_ n6_;intro Bi Bk Bm Ba Bb Bd HB;(try clear hb);(try clear hb2);(try clear hk);(try clear hi);have Dw:=Bo.out;have Dx:=Bs.out;have Da:w72.cell? ⟨Be,0,none⟩=some (.slice Ao13 t300.length co13):=(bC Bb.out 0).trans rfl;have Db:w72.cell? ⟨Be,1,none⟩=some (.int .i64 t303):=(bC Bb.out 1).trans rfl;have Dc:=bF Bb.out 0;have Dd:=bF Bb.out 1)|(go_at_call 16;(with_reducible refine (impl_QueueOk.calls k3 _ _ t300 t303 true _ ?side1 ?side2 A67.out).mono ?_);(case side1=>repeat (first|exact (Kd.R_reads' Bk.out).2.2|(with_reducible refine cA ?_ _)|(with_reducible refine cN ?_ _)|(with_reducible refine cD ?_)));(case side2=>exact (Kd.R_reads' Bk.out).2.1);rintro e w75 ⟨rfl,hb⟩;have n0_:=Am (rB (rL Bi.out) hb);have n1_:=Am (rB (rL Bk.out) hb);have n2_:=Am (rB (rL Bm.out) hb);have n3_:=Am (bB (g:=Bf) (o:=.cells #[.slice Ao9 t295.length co9,.int .i64 t298] 25 (0,0)) (bL Ba.out) hb);have n4_:=Am (bB (g:=Be) (o:=.cells #[.slice Ao13 t300.length co13,.int .i64 t303] 25 (0,0)) (bL Bb.out) hb);have n5_:=Am (bB (g:=Bc) (o:=.cells #[.slice Ao19 t307.length co19,.int .i64 t310] 25 (0,0)) (bL Bd.out) hb);have n6_:=Am (bP (by repeat (first|(with_reducible first|exact HB.out|apply oA|apply pN|apply o1|refine bS ?_ Bl.out|refine bS ?_ Bn.out|refine bS ?_ Bq.out)|exact HB.out)) hb);clear Bi Bk Bm Ba Bb Bd HB;revert n0_ n1_ n2_ n3_ n4_ n5_ n6_;intro Bi Bk Bm Ba Bb Bd HB;(try clear hb);(try clear hb2);(try clear hk);(try clear hi);have De:w75.cell? ⟨Be,0,none⟩=some (.slice Ao13 t300.length co13):=(bC Bb.out 0).trans rfl;have Df:w75.cell? ⟨Be,1,none⟩=some (.int .i64 t303):=(bC Bb.out 1).trans rfl;have Dg:=bF Bb.out 0;have Dh:=bF Bb.out 1;have Di:w75.cell? ⟨Bf,0,none⟩=some (.slice Ao9 t295.length co9):=(bC Ba.out 0).trans rfl;have Dj:w75.cell? ⟨Bf,1,none⟩=some (.int .i64 t298):=(bC Ba.out 1).trans rfl;have Dk:=bF Ba.out 0;have Dl:=bF Ba.out 1));try go_wp2_with (first|(go_at_call 23;(with_reducible refine (impl_QueueNext.calls k3 _ _ t295 t298 t323 _ ?side1 ?side2 A65.out).mono ?_);(case side1=>repeat (first|exact (Kd.R_reads' Bi.out).2.2|(with_reducible refine cA ?_ _)|(with_reducible refine cN ?_ _)|(with_reducible refine cD ?_)));(case side2=>exact (Kd.R_reads' Bi.out).2.1);rintro e w72 ⟨rfl,hb⟩;have n0_:=Am (rB (rL Bi.out) hb);have n1_:=Am (rB (rL Bk.out) hb);have n2_:=Am (rB (rL Bm.out) hb);have n3_:=Am (bB (g:=Bf) (o:=.cells #[.slice Ao9 t295.length co9,.int .i64 t298] 25 (0,0)) (bL Ba.out) hb);have n4_:=Am (bB (g:=Be) (o:=.cells #[.slice Ao13 t300.length co13,.int .i64 t303] 25 (0,0)) (bL Bb.out) hb);have n5_:=Am (bB (g:=Bc) (o:=.cells #[.slice Ao19 t307.length co19,.int .i64 t310] 25 (0,0)) (bL Bd.out) hb);have n6_:=Am (bP (by repeat (first|(with_reducible first|exact HB.out|apply oA|apply pN|apply o1|refine bS ?_ Bl.out|refine bS ?_ Bn.out|refine bS ?_ Bq.out)|exact HB.out)) hb);clear Bi Bk Bm Ba Bb Bd HB;revert n0_ n1_ n2_ n3_ n4_ n5_ n6_;intro Bi Bk Bm Ba Bb Bd HB;(try clear hb);(try clear hb2);(try clear hk);(try clear hi);have Dw:=Bo.out;have Dx:=Bs.out;have Da:w72.cell? ⟨Be,0,none⟩=some (.slice Ao13 t300.length co13):=(bC Bb.out 0).trans rfl;have Db:w72.cell? ⟨Be,1,none⟩=some (.int .i64 t303):=(bC Bb.out 1).trans rfl;have Dc:=bF Bb.out 0;have Dd:=bF Bb.out 1)|(go_at_call 16;(with_reducible refine (impl_QueueOk.calls k3 _ _ t300 t303 true _ ?side1 ?side2 A67.out).mono ?_);(case side1=>repeat (first|exact (Kd.R_reads' Bk.out).2.2|(with_reducible refine cA ?_ _)|(with_reducible refine cN ?_ _)|(with_reducible refine cD ?_)));(case side2=>exact (Kd.R_reads' Bk.out).2.1);rintro e w75 ⟨rfl,hb⟩;have n0_:=Am (rB (rL Bi.out) hb);have n1_:=Am (rB (rL Bk.out) hb);have n2_:=Am (rB (rL Bm.out) hb);have n3_:=Am (bB (g:=Bf) (o:=.cells #[.slice Ao9 t295.length co9,.int .i64 t298] 25 (0,0)) (bL Ba.out) hb);have n4_:=Am (bB (g:=Be) (o:=.cells #[.slice Ao13 t300.length co13,.int .i64 t303] 25 (0,0)) (bL Bb.out) hb);have n5_:=Am (bB (g:=Bc) (o:=.cells #[.slice Ao19 t307.length co19,.int .i64 t310] 25 (0,0)) (bL Bd.out) hb);have n6_:=Am (bP (by repeat (first|(with_reducible first|exact HB.out|apply oA|apply pN|apply o1|refine bS ?_ Bl.out|refine bS ?_ Bn.out|refine bS ?_ Bq.out)|exact HB.out)) hb);clear Bi Bk Bm Ba Bb Bd HB;revert n0_ n1_ n2_ n3_ n4_ n5_ n6_;intro Bi Bk Bm Ba Bb Bd HB;(try clear hb);(try clear hb2);(try clear hk);(try clear hi);have De:w75.cell? ⟨Be,0,none⟩=some (.slice Ao13 t300.length co13):=(bC Bb.out 0).trans rfl;have Df:w75.cell? ⟨Be,1,none⟩=some (.int .i64 t303):=(bC Bb.out 1).trans rfl;have Dg:=bF Bb.out 0;have Dh:=bF Bb.out 1;have Di:w75.cell? ⟨Bf,0,none⟩=some (.slice Ao9 t295.length co9):=(bC Ba.out 0).trans rfl;have Dj:w75.cell? ⟨Bf,1,none⟩=some (.int .i64 t298):=(bC Ba.out 1).trans rfl;have Dk:=bF Ba.out 0;have Dl:=bF Ba.out 1)))
        go_ret
        exact ⟨by first|rfl|(simp [errW_none,errW_some] <;> rfl)|(simp [*,errW_none,errW_some] <;> rfl),by repeat (first|(with_reducible first|exact HB.out|apply oA|apply pN|apply o1|refine bS ?_ Bl.out|refine bS ?_ Bn.out|refine bS ?_ Bq.out)|exact HB.out)⟩
       rw [if_pos c47] at H
       have c47b0:decide (x11_3<(t295.length:Int))=true:=decide_eq_true c47
       clear c47
       by_cases c48:0≤x11_3
       rotate_left
       ·rw [if_neg c48] at H
        exact absurd H (by simp)
       rw [if_pos c48] at H
       have c48b0:decide (0≤x11_3)=true:=decide_eq_true c48
       clear c48
       by_cases c49:((rd_T40 t295 x11_3).f0)=t304
       rotate_left
       ·rw [if_neg c49] at H
        have c49b0:(((rd_T40 t295 x11_3).f0) == t304)=false:=beq_eq_false_iff_ne.mpr c49
        have c49b1:(((rd_T40 t295 x11_3).f0) != t304)=true:=bne_iff_ne.mpr c49
        by_cases c58:x11_3<(t300.length:Int)
        rotate_left
        ·rw [if_neg c58] at H
         exact absurd H (by simp)
        rw [if_pos c58] at H
        have c58b0:decide (x11_3<(t300.length:Int))=true:=decide_eq_true c58
        clear c58
        by_cases c59:(!(((rd_T40 t300 x11_3).f0) == ((rd_T40 t295 x11_3).f0)) || (!(((rd_T40 t300 x11_3).f1) == ((rd_T40 t295 x11_3).f1)) || (!(((rd_T40 t300 x11_3).f2) == ((rd_T40 t295 x11_3).f2)) || (!(((rd_T40 t300 x11_3).f3) == ((rd_T40 t295 x11_3).f3))))))=true
        ·rw [if_pos c59] at H
         have c59b0:(!(((rd_T40 t300 x11_3).f0) == ((rd_T40 t295 x11_3).f0)) || (!(((rd_T40 t300 x11_3).f1) == ((rd_T40 t295 x11_3).f1)) || (!(((rd_T40 t300 x11_3).f2) == ((rd_T40 t295 x11_3).f2)) || (!(((rd_T40 t300 x11_3).f3) == ((rd_T40 t295 x11_3).f3))))))=true:=c59
         clear c59
         exact absurd ((Option.some.inj H).trans hT_.out) (by decide)
        rw [if_neg c59] at H
        have c59b0:(!(((rd_T40 t300 x11_3).f0) == ((rd_T40 t295 x11_3).f0)) || (!(((rd_T40 t300 x11_3).f1) == ((rd_T40 t295 x11_3).f1)) || (!(((rd_T40 t300 x11_3).f2) == ((rd_T40 t295 x11_3).f2)) || (!(((rd_T40 t300 x11_3).f3) == ((rd_T40 t295 x11_3).f3))))))=false:=by simpa using c59
        clear c59
        have H':=Am H
        clear H
        have Fg:=Br.out
        have Fh:=Bt.out
        have Fi:=Bp.out
        have Fj:=Bu.out
        have DG:wr.cell? ⟨Bf,0,none⟩=some (.slice Ao9 t295.length co9):=(bC Ba.out 0).trans rfl
        have DH:wr.cell? ⟨Bf,1,none⟩=some (.int .i64 t298):=(bC Ba.out 1).trans rfl
        have DI:=bF Ba.out 0
        have DJ:=bF Ba.out 1
        have p315:0≤(x11_3:Int):=of_decide_eq_true (by first|(with_reducible assumption)|assumption)
        have q315:x11_3<(t295.length:Int):=of_decide_eq_true (by first|(with_reducible assumption)|assumption)
        obtain ⟨ad315,e315,hx315_0,hx315_1,hx315_2,hx315_3⟩:=at_T40 (Kd.R_reads' Bi.out).2.2 x11_3 p315 q315
        cases e315
        replace p315:=eq_true p315
        replace q315:=eq_true q315
        have p320:0≤(x11_3:Int):=of_decide_eq_true (by first|(with_reducible assumption)|assumption)
        have q320:x11_3<(t295.length:Int):=of_decide_eq_true (by first|(with_reducible assumption)|assumption)
        obtain ⟨ad320,e320,hx320_0,hx320_1,hx320_2,hx320_3⟩:=at_T40 (Kd.R_reads' Bi.out).2.2 x11_3 p320 q320
        obtain rfl:ad315=ad320:=(by injection e320)
        replace p320:=eq_true p320
        replace q320:=eq_true q320
        have Fk:=Bo.out
        have Fl:=Bs.out
        have DK:wr.cell? ⟨Be,0,none⟩=some (.slice Ao13 t300.length co13):=(bC Bb.out 0).trans rfl
        have DL:wr.cell? ⟨Be,1,none⟩=some (.int .i64 t303):=(bC Bb.out 1).trans rfl
        have DM:=bF Bb.out 0
        have DN:=bF Bb.out 1
        have p321:0≤(x11_3:Int):=of_decide_eq_true (by first|(with_reducible assumption)|assumption)
        have q321:x11_3<(t300.length:Int):=of_decide_eq_true (by first|(with_reducible assumption)|assumption)
        obtain ⟨ad321,e321,hx321_0,hx321_1,hx321_2,hx321_3⟩:=at_T40 (Kd.R_reads' Bk.out).2.2 x11_3 p321 q321
        cases e321
        replace p321:=eq_true p321
        replace q321:=eq_true q321
        have p322:0≤(x11_3:Int):=of_decide_eq_true (by first|(with_reducible assumption)|assumption)
        have q322:x11_3<(t295.length:Int):=of_decide_eq_true (by first|(with_reducible assumption)|assumption)
        obtain ⟨ad322,e322,hx322_0,hx322_1,hx322_2,hx322_3⟩:=at_T40 (Kd.R_reads' Bi.out).2.2 x11_3 p322 q322
        obtain rfl:ad315=ad322:=(by injection e322)
        replace p322:=eq_true p322
        replace q322:=eq_true q322
        go_wp2
        repeat (go_quiet (fail);try go_wp2)
        go_roundg k3
        case measure=>have:=B9.out;have:=Dm.out;have:=HK3.out;omega
        case rel=>exact ⟨(wrap64 (x11_3 + 1)),(by first|rfl|(simp;done)|(simp [*];done)),H',⟨by have:=B9.out;have:=Dm.out;have:=HK3.out;omega⟩,⟨by (with_reducible repeat (first|apply rA|apply rN|apply rD));exact Bi.out⟩,⟨by (with_reducible repeat (first|apply rA|apply rN|apply rD));exact Bk.out⟩,⟨by (with_reducible repeat (first|apply rA|apply rN|apply rD));exact Bm.out⟩,⟨by (with_reducible repeat (first|refine bN ?_ _|refine bD ?_|refine bA ?_ _));exact Ba.out⟩,⟨by (with_reducible repeat (first|refine bN ?_ _|refine bD ?_|refine bA ?_ _));exact Bb.out⟩,⟨by (with_reducible repeat (first|refine bN ?_ _|refine bD ?_|refine bA ?_ _));exact Bd.out⟩,⟨by repeat (first|(with_reducible first|exact HB.out|apply oA|apply pN|apply o1|refine bS ?_ Bl.out|refine bS ?_ Bn.out|refine bS ?_ Bq.out)|exact HB.out)⟩⟩
       rw [if_pos c49] at H
       have c49b0:(((rd_T40 t295 x11_3).f0) == t304)=true:=beq_iff_eq.mpr c49
       have c49b1:(((rd_T40 t295 x11_3).f0) != t304)=false:=bne_eq_false_iff_eq.mpr c49
       clear c49
       by_cases c50:x11_3<(t300.length:Int)
       rotate_left
       ·rw [if_neg c50] at H
        exact absurd H (by simp)
       rw [if_pos c50] at H
       have c50b0:decide (x11_3<(t300.length:Int))=true:=decide_eq_true c50
       clear c50
       by_cases c51:((rd_T40 t295 x11_3).f1)=0
       ·rw [if_pos c51] at H
        exact absurd H (by simp)
       rw [if_neg c51] at H
       have c51b0:(((rd_T40 t295 x11_3).f1) == 0)=false:=beq_eq_false_iff_ne.mpr c51
       have c51b1:(((rd_T40 t295 x11_3).f1) != 0)=true:=bne_iff_ne.mpr c51
       by_cases c52:((rd_T40 t300 x11_3).f2)=(wrap64 (((rd_T40 t295 x11_3).f2) + (wrap64 (Int.tdiv (60:Int) ((rd_T40 t295 x11_3).f1)))))
       rotate_left
       ·rw [if_neg c52] at H
        have c52b0:(((rd_T40 t300 x11_3).f2) == (wrap64 (((rd_T40 t295 x11_3).f2) + (wrap64 (Int.tdiv (60:Int) ((rd_T40 t295 x11_3).f1))))))=false:=beq_eq_false_iff_ne.mpr c52
        have c52b1:(((rd_T40 t300 x11_3).f2) != (wrap64 (((rd_T40 t295 x11_3).f2) + (wrap64 (Int.tdiv (60:Int) ((rd_T40 t295 x11_3).f1))))))=true:=bne_iff_ne.mpr c52
        exact absurd ((Option.some.inj H).trans hT_.out) (by decide)
       rw [if_pos c52] at H
       have c52b0:(((rd_T40 t300 x11_3).f2) == (wrap64 (((rd_T40 t295 x11_3).f2) + (wrap64 (Int.tdiv (60:Int) ((rd_T40 t295 x11_3).f1))))))=true:=beq_iff_eq.mpr c52
       have c52b1:(((rd_T40 t300 x11_3).f2) != (wrap64 (((rd_T40 t295 x11_3).f2) + (wrap64 (Int.tdiv (60:Int) ((rd_T40 t295 x11_3).f1))))))=false:=bne_eq_false_iff_eq.mpr c52
       clear c52
       have H':=Am H
       clear H
       have Fa:=Br.out
       have Fb:=Bt.out
       have Fc:=Bp.out
       have Fd:=Bu.out
       have Dy:wr.cell? ⟨Bf,0,none⟩=some (.slice Ao9 t295.length co9):=(bC Ba.out 0).trans rfl
       have Dz:wr.cell? ⟨Bf,1,none⟩=some (.int .i64 t298):=(bC Ba.out 1).trans rfl
       have DA:=bF Ba.out 0
       have DB:=bF Ba.out 1
       have p315:0≤(x11_3:Int):=of_decide_eq_true (by first|(with_reducible assumption)|assumption)
       have q315:x11_3<(t295.length:Int):=of_decide_eq_true (by first|(with_reducible assumption)|assumption)
       obtain ⟨ad315,e315,hx315_0,hx315_1,hx315_2,hx315_3⟩:=at_T40 (Kd.R_reads' Bi.out).2.2 x11_3 p315 q315
       cases e315
       replace p315:=eq_true p315
       replace q315:=eq_true q315
       have Fe:=Bo.out
       have Ff:=Bs.out
       have DC:wr.cell? ⟨Be,0,none⟩=some (.slice Ao13 t300.length co13):=(bC Bb.out 0).trans rfl
       have DD:wr.cell? ⟨Be,1,none⟩=some (.int .i64 t303):=(bC Bb.out 1).trans rfl
       have DE:=bF Bb.out 0
       have DF:=bF Bb.out 1
       have p316:0≤(x11_3:Int):=of_decide_eq_true (by first|(with_reducible assumption)|assumption)
       have q316:x11_3<(t300.length:Int):=of_decide_eq_true (by first|(with_reducible assumption)|assumption)
       obtain ⟨ad316,e316,hx316_0,hx316_1,hx316_2,hx316_3⟩:=at_T40 (Kd.R_reads' Bk.out).2.2 x11_3 p316 q316
       cases e316
       replace p316:=eq_true p316
       replace q316:=eq_true q316
       have p317:0≤(x11_3:Int):=of_decide_eq_true (by first|(with_reducible assumption)|assumption)
       have q317:x11_3<(t295.length:Int):=of_decide_eq_true (by first|(with_reducible assumption)|assumption)
       obtain ⟨ad317,e317,hx317_0,hx317_1,hx317_2,hx317_3⟩:=at_T40 (Kd.R_reads' Bi.out).2.2 x11_3 p317 q317
       obtain rfl:ad315=ad317:=(by injection e317)
       replace p317:=eq_true p317
       replace q317:=eq_true q317
       have p318:0≤(x11_3:Int):=of_decide_eq_true (by first|(with_reducible assumption)|assumption)
       have q318:x11_3<(t295.length:Int):=of_decide_eq_true (by first|(with_reducible assumption)|assumption)
       obtain ⟨ad318,e318,hx318_0,hx318_1,hx318_2,hx318_3⟩:=at_T40 (Kd.R_reads' Bi.out).2.2 x11_3 p318 q318
       obtain rfl:ad315=ad318:=(by injection e318)
       replace p318:=eq_true p318
       replace q318:=eq_true q318
       have p319:0≤(x11_3:Int):=of_decide_eq_true (by first|(with_reducible assumption)|assumption)
       have q319:x11_3<(t295.length:Int):=of_decide_eq_true (by first|(with_reducible assumption)|assumption)
       obtain ⟨ad319,e319,hx319_0,hx319_1,hx319_2,hx319_3⟩:=at_T40 (Kd.R_reads' Bi.out).2.2 x11_3 p319 q319
       obtain rfl:ad315=ad319:=(by injection e319)
       replace p319:=eq_true p319
       replace q319:=eq_true q319
       go_wp2
       repeat (go_quiet (fail);try go_wp2)
       go_roundg k3
       case measure=>have:=B9.out;have:=Dm.out;have:=HK3.out;omega
       case rel=>exact ⟨(wrap64 (x11_3 + 1)),(by first|rfl|(simp;done)|(simp [*];done)),H',⟨by have:=B9.out;have:=Dm.out;have:=HK3.out;omega⟩,⟨by (with_reducible repeat (first|apply rA|apply rN|apply rD));exact Bi.out⟩,⟨by (with_reducible repeat (first|apply rA|apply rN|apply rD));exact Bk.out⟩,⟨by (with_reducible repeat (first|apply rA|apply rN|apply rD));exact Bm.out⟩,⟨by (with_reducible repeat (first|refine bN ?_ _|refine bD ?_|refine bA ?_ _));exact Ba.out⟩,⟨by (with_reducible repeat (first|refine bN ?_ _|refine bD ?_|refine bA ?_ _));exact Bb.out⟩,⟨by (with_reducible repeat (first|refine bN ?_ _|refine bD ?_|refine bA ?_ _));exact Bd.out⟩,⟨by repeat (first|(with_reducible first|exact HB.out|apply oA|apply pN|apply o1|refine bS ?_ Bl.out|refine bS ?_ Bn.out|refine bS ?_ Bq.out)|exact HB.out)⟩⟩
/-- THE ONE PURE STATEMENT of laws_FnQueueTick: yours. -/
def laws_FnQueueTick.Pure:Prop:=∀ (l0:List Int),l0.length≤maxLen → l0.length * 1≤140737488351232 → (∀ x ∈ l0,(Lit.int .u8 x).wf=true) → ∃ k,laws_FnQueueTick.f k l0=some true
theorem laws_FnQueueTick.walk (P:laws_FnQueueTick.Pure) (a0:Option Addr) (len0 cap0:Nat) (z0:List Int) (w:World) (w0:(a0=none∧len0=0∧cap0=0∧z0=[])∨∃ x,a0=some x∧len0≤cap0∧cap0≤maxLen∧z0.length=cap0∧(∀ i,i<z0.length → w.cell? (x.add i)=some (.int .u8 (z0.getD i 0)))∧∀ n ∈ z0,(Lit.int .u8 n).wf=true) (y0:len0 * 1≤140737488351232) :
  Calls Try.prog 5 #[.slice a0 len0 cap0] w fun e w'=>e=.returned (.bool true)∧Below w.heap.size w w':=by
 obtain ⟨l0,rfl,hr0,hm0,hw0,hc0⟩:=ReadsInt.ofRowC w0
 obtain ⟨k,h⟩:=P l0 hm0 y0 hw0
 refine (laws_FnQueueTick.calls k _ _ l0 true w (Kd.C_of_reads (d:=(0:Int)) (h1:=fun _=>rfl) hr0) hc0 h ⟨rfl⟩).mono ?_
 rintro e w' ⟨rfl,hd⟩
 exact ⟨rfl,hd⟩

end Go.Proofs.Ytfhcgmfodfcpeaa.PFnQueueTick
