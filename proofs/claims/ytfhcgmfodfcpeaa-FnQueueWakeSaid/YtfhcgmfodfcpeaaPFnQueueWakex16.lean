/- Proved here, without a condition beyond those that each theorem states: what the Go functions named below do is what the plain functions of the same names say. Written by xprint.py, a program of this session. -/
import Derived.Test.YtfhcgmfodfcpeaaPFnQueueWakex0
import Derived.Test.YtfhcgmfodfcpeaaPFnQueueWakex8
import Derived.Test.YtfhcgmfodfcpeaaPFnQueueWakex9
import Derived.Test.YtfhcgmfodfcpeaaPFnQueueWakex11
import Derived.Test.YtfhcgmfodfcpeaaPFnQueueWakex14
import Derived.Test.YtfhcgmfodfcpeaaPFnQueueWakex15
namespace Go.Proofs.Ytfhcgmfodfcpeaa.PFnQueueWake
open Go.RowKit Go.Proofs.YtfhcgmfodfcpeaaW.PrintWords Go.Proofs.YtfhcgmfodfcpeaaW.PrintLast Go.Proofs.YtfhcgmfodfcpeaaW.PrintMore
attribute [local go_sem] max2_int min2_int max_two min_two max_three min_three max_four min_four   -- for this text's walks alone
set_option linter.unusedVariables false
set_option linter.unusedSimpArgs false

attribute [local go_sem ↓] isSome_setCell_
/-! ### laws_FnQueueWake: function 3 -/
mutual
def laws_FnQueueWake.j0 : Nat → Int → Bool → Bool → List (S40) → Int → Option (Bool)
|0, _, _, _, _, _ => none
|k + 1, x4, x6, x9, x295000, x295001 => if x9 = true then (laws_FnQueueWake.j1 k x4 x9 (!x6) x295000 x295001) else (laws_FnQueueWake.j1 k x4 x9 true x295000 x295001)
def laws_FnQueueWake.j1 : Nat → Int → Bool → Bool → List (S40) → Int → Option (Bool)
|0, _, _, _, _, _ => none
|k + 1, x4, x9, x45, x295000, x295001 => if x45 = true then (some x9) else ((impl_QueueWake.f k x295000 x295001 x4).bind fun bt302 => ((impl_QueueOk.f k x295000 x295001).bind fun t308 => (if t308 = true then (if bt302.2.2 = true then ((laws_qdQueue.f k bt302.1 bt302.2.1 x295000 x295001).bind fun t309 => (some t309)) else (some false)) else (some false))))
end
def laws_FnQueueWake.f (k : Nat) (l0 : List Int) : Option (Bool) := if (l0.length : Int) > 1048576 then (some true) else ((spec_DrawQueueWake.f k l0).bind fun bt283 => ((impl_QueueWake.f k bt283.1 bt283.2.1 bt283.2.2).bind fun bt289 => ((spec_QueueWake.f k bt283.1 bt283.2.1 bt283.2.2).bind fun bt295 => ((laws_qdQueue.f k bt289.1 bt289.2.1 bt295.1 bt295.2.1).bind fun t301 => (if t301 = true then (laws_FnQueueWake.j0 k bt283.2.2 bt289.2.2 (bt289.2.2 == bt295.2.2) bt289.1 bt289.2.1) else (laws_FnQueueWake.j0 k bt283.2.2 bt289.2.2 false bt289.1 bt289.2.1))))))
theorem laws_FnQueueWake.mono_l : ∀ k, (∀ y0 y1 y2 y3 y4, LeO (laws_FnQueueWake.j0 k y0 y1 y2 y3 y4) (laws_FnQueueWake.j0 (k + 1) y0 y1 y2 y3 y4)) ∧ (∀ y0 y1 y2 y3 y4, LeO (laws_FnQueueWake.j1 k y0 y1 y2 y3 y4) (laws_FnQueueWake.j1 (k + 1) y0 y1 y2 y3 y4))
|0 => ⟨fun _ _ _ _ _ r h => by simp [laws_FnQueueWake.j0] at h, fun _ _ _ _ _ r h => by simp [laws_FnQueueWake.j1] at h⟩
|k + 1 => by
  obtain ⟨ih0, ih1⟩ := laws_FnQueueWake.mono_l k
  refine ⟨?_, ?_⟩
  ·intro y0 y1 y2 y3 y4
   unfold laws_FnQueueWake.j0
   repeat' first
  |(with_reducible exact ih0 _ _ _ _ _)
  |(with_reducible exact ih1 _ _ _ _ _)
  |(with_reducible exact impl_QueueOk.mono _ _ _)
  |(with_reducible exact impl_QueueWake.mono _ _ _ _)
  |(with_reducible exact laws_qdQueue.mono _ _ _ _ _)
  |(with_reducible exact spec_DrawQueueWake.mono _ _)
  |(with_reducible exact spec_QueueWake.mono _ _ _ _)
  |(with_reducible exact LeO.refl _)
  |(with_reducible exact LeO.none _)
  |(with_reducible refine LeO.ite ?_ ?_)
  |(with_reducible refine LeO.bind ?_ (fun _ => ?_))
  |exact ih0 _ _ _ _ _
  |exact ih1 _ _ _ _ _
  |exact impl_QueueOk.mono _ _ _
  |exact impl_QueueWake.mono _ _ _ _
  |exact laws_qdQueue.mono _ _ _ _ _
  |exact spec_DrawQueueWake.mono _ _
  |exact spec_QueueWake.mono _ _ _ _
  |exact LeO.none _
  |refine LeO.ite ?_ ?_
  |refine LeO.bind ?_ (fun _ => ?_)
  ·intro y0 y1 y2 y3 y4
   unfold laws_FnQueueWake.j1
   repeat' first
  |(with_reducible exact ih0 _ _ _ _ _)
  |(with_reducible exact ih1 _ _ _ _ _)
  |(with_reducible exact impl_QueueOk.mono _ _ _)
  |(with_reducible exact impl_QueueWake.mono _ _ _ _)
  |(with_reducible exact laws_qdQueue.mono _ _ _ _ _)
  |(with_reducible exact spec_DrawQueueWake.mono _ _)
  |(with_reducible exact spec_QueueWake.mono _ _ _ _)
  |(with_reducible exact LeO.refl _)
  |(with_reducible exact LeO.none _)
  |(with_reducible refine LeO.ite ?_ ?_)
  |(with_reducible refine LeO.bind ?_ (fun _ => ?_))
  |exact ih0 _ _ _ _ _
  |exact ih1 _ _ _ _ _
  |exact impl_QueueOk.mono _ _ _
  |exact impl_QueueWake.mono _ _ _ _
  |exact laws_qdQueue.mono _ _ _ _ _
  |exact spec_DrawQueueWake.mono _ _
  |exact spec_QueueWake.mono _ _ _ _
  |exact LeO.none _
  |refine LeO.ite ?_ ?_
  |refine LeO.bind ?_ (fun _ => ?_)
theorem laws_FnQueueWake.mono : ∀ a0 k, LeO (laws_FnQueueWake.f k a0) (laws_FnQueueWake.f (k + 1) a0) := by
 intro a0 k
 obtain ⟨ih0, ih1⟩ := laws_FnQueueWake.mono_l k
 unfold laws_FnQueueWake.f
 repeat' first
  |(with_reducible exact ih0 _ _ _ _ _)
  |(with_reducible exact ih1 _ _ _ _ _)
  |(with_reducible exact impl_QueueOk.mono _ _ _)
  |(with_reducible exact impl_QueueWake.mono _ _ _ _)
  |(with_reducible exact laws_qdQueue.mono _ _ _ _ _)
  |(with_reducible exact spec_DrawQueueWake.mono _ _)
  |(with_reducible exact spec_QueueWake.mono _ _ _ _)
  |(with_reducible exact LeO.refl _)
  |(with_reducible exact LeO.none _)
  |(with_reducible refine LeO.ite ?_ ?_)
  |(with_reducible refine LeO.bind ?_ (fun _ => ?_))
  |exact ih0 _ _ _ _ _
  |exact ih1 _ _ _ _ _
  |exact impl_QueueOk.mono _ _ _
  |exact impl_QueueWake.mono _ _ _ _
  |exact laws_qdQueue.mono _ _ _ _ _
  |exact spec_DrawQueueWake.mono _ _
  |exact spec_QueueWake.mono _ _ _ _
  |exact LeO.none _
  |refine LeO.ite ?_ ?_
  |refine LeO.bind ?_ (fun _ => ?_)
set_option maxHeartbeats 2000000 in
set_option maxRecDepth 100000 in
theorem laws_FnQueueWake.calls (k:Nat) (A0:Option Addr) (c0:Nat) (l0:List Int) (r:Bool) (w:World) (hr0:Kd.C (Kd.int .u8) w A0 l0.length l0) (hc0:l0.length≤c0) (h:laws_FnQueueWake.f k l0=some r) (hT_:Aside0 (r=true)) :
  Calls Try.prog 3 #[.slice A0 l0.length c0] w fun e w'=>e=.returned (.bool r)∧Below w.heap.size w w':=by
 have hu25:=Try.underlying25
 have HR0:=Am hr0
 have HC0:=Am hc0
 clear hr0 hc0
 have HB:=Am (Below.refl w.heap.size w)
 have H:(if (l0.length:Int) > 1048576 then (some true) else ((spec_DrawQueueWake.f k l0).bind fun bt283=>((impl_QueueWake.f k bt283.1 bt283.2.1 bt283.2.2).bind fun bt289=>((spec_QueueWake.f k bt283.1 bt283.2.1 bt283.2.2).bind fun bt295=>((laws_qdQueue.f k bt289.1 bt289.2.1 bt295.1 bt295.2.1).bind fun t301=>(if t301=true then (laws_FnQueueWake.j0 k bt283.2.2 bt289.2.2 (bt289.2.2 == bt295.2.2) bt289.1 bt289.2.1) else (laws_FnQueueWake.j0 k bt283.2.2 bt289.2.2 false bt289.1 bt289.2.1)))))))=some r:=h
 clear h
 by_cases c2:(l0.length:Int) > 1048576
 ·rw [if_pos c2] at H
  have c2b0:decide (1048576<(l0.length:Int))=true:=decide_eq_true c2
  have c2b1:decide (1048576<l0.length)=true:=decide_eq_true (by omega)
  clear c2
  obtain rfl:=Option.some.inj H
  go_enter Try.func3,Try.ntmps3
  go_wp2
  go_ret
  exact ⟨by first|rfl|(simp [errW_none,errW_some] <;> rfl)|(simp [*,errW_none,errW_some] <;> rfl),by repeat (first|(with_reducible first|exact HB.out|apply oA|apply pN|apply o1)|exact HB.out)⟩
 rw [if_neg c2] at H
 have c2b0:decide (1048576<(l0.length:Int))=false:=decide_eq_false c2
 have c2b1:decide (1048576<l0.length)=false:=decide_eq_false (by omega)
 clear c2
 replace H:=oC H
 obtain ⟨⟨t283,t286,t287⟩,A30,H⟩:=H
 replace H:((impl_QueueWake.f k t283 t286 t287).bind fun bt289=>((spec_QueueWake.f k t283 t286 t287).bind fun bt295=>((laws_qdQueue.f k bt289.1 bt289.2.1 bt295.1 bt295.2.1).bind fun t301=>(if t301=true then (laws_FnQueueWake.j0 k t287 bt289.2.2 (bt289.2.2 == bt295.2.2) bt289.1 bt289.2.1) else (laws_FnQueueWake.j0 k t287 bt289.2.2 false bt289.1 bt289.2.1)))))=some r:=H
 have A3:=Am A30
 clear A30
 replace H:=oC H
 obtain ⟨⟨t289,t292,t293⟩,A40,H⟩:=H
 replace H:((spec_QueueWake.f k t283 t286 t287).bind fun bt295=>((laws_qdQueue.f k t289 t292 bt295.1 bt295.2.1).bind fun t301=>(if t301=true then (laws_FnQueueWake.j0 k t287 t293 (t293 == bt295.2.2) t289 t292) else (laws_FnQueueWake.j0 k t287 t293 false t289 t292))))=some r:=H
 have A4:=Am A40
 clear A40
 replace H:=oC H
 obtain ⟨⟨t295,t298,t299⟩,A50,H⟩:=H
 replace H:((laws_qdQueue.f k t289 t292 t295 t298).bind fun t301=>(if t301=true then (laws_FnQueueWake.j0 k t287 t293 (t293 == t299) t289 t292) else (laws_FnQueueWake.j0 k t287 t293 false t289 t292)))=some r:=H
 have A5:=Am A50
 clear A50
 have HC6:=Am H
 clear H
 go_enter Try.func3,Try.ntmps3
 go_upto_region 6 with (first|((with_reducible refine gate_callee (f:=12) rfl ?_);refine goesL_ (some 17) rfl rfl Try.func12 (by kernel_rfl) rfl #[.slice A0 l0.length c0] rfl (by (try simp only [lM,lC,lN]);first|done|rfl|(simp only [lD,lT];rfl)) ?_;(with_reducible refine (spec_DrawQueueWake.calls k _ _ l0 t283 t286 t287 _ ?side1 ?side2 A3.out).mono ?_);(case side1=>repeat (first|exact HR0.out|(with_reducible refine cA ?_ _)|(with_reducible refine cN ?_ _)|(with_reducible refine cD ?_)));(case side2=>exact HC0.out);rintro e w7 ⟨v284,rfl,ho0,hb⟩;refine ⟨_,rfl,?_⟩;have n0_:=Am (Kd.R_lower ho0 (bZ (by repeat (first|(with_reducible first|exact HB.out|apply oA|apply pN|apply o1)|exact HB.out))));have n1_:=Am (bP (by repeat (first|(with_reducible first|exact HB.out|apply oA|apply pN|apply o1)|exact HB.out)) hb);clear HB;revert n0_ n1_;intro Bh HB;(try clear hb);(try clear hb2);(try clear hk);(try clear hi);(try clear ho0))|((with_reducible refine gate_dst (N:=3) rfl ?_);refine box_event ?hg (N:=3) ?hd (cs:=#[.slice none 0 0,.int .i64 0]) (t:=25) ?hr ?_;(case hd=>rfl);(case hg=>rfl);(case hr=>first|(go_simp;done)|(go_simp;rfl));intro Bg hg w8 hbox hb;have n0_:=Am (rB (rL Bh.out) hb);have n1_:=Am (bP (by repeat (first|(with_reducible first|exact HB.out|apply oA|apply pN|apply o1)|exact HB.out)) hb);have n2_:=Am (hbox);have n3_:=Am ((by rw [hg];exact (bZ (by repeat (first|(with_reducible first|exact HB.out|apply oA|apply pN|apply o1)|exact HB.out))):w.heap.size≤Bg));have n4_:=Am ((by rw [hg];exact (bZ (by repeat (first|(with_reducible first|exact HB.out|apply oA|apply pN|apply o1)|exact HB.out))):w.heap.size≤Bg));clear Bh HB;revert n0_ n1_ n2_ n3_ n4_;intro Bh HB Bb Dw Bk;clear hb hbox hg;obtain ⟨Ao9,co9,eo9⟩:=Kd.R_slice Bh.out;subst eo9;have BB:w8.cell? ⟨Bg,0,none⟩=some (.slice none 0 0):=(bC Bb.out 0).trans rfl;have BC:w8.cell? ⟨Bg,1,none⟩=some (.int .i64 0):=(bC Bb.out 1).trans rfl;have BD:=bF Bb.out 0;have BE:=bF Bb.out 1)|((with_reducible refine gate_callee (f:=13) rfl ?_);refine goesL_ (some 23) rfl rfl Try.func13 (by kernel_rfl) rfl #[.agg #[.slice Ao9 t283.length co9,.int .i64 t286],.int .i64 t287] rfl (by (try simp only [lM,lC,lN]);first|done|rfl|(simp only [lD,lT];rfl)) ?_;(with_reducible refine (impl_QueueWake.calls k _ _ t283 t286 t287 t289 t292 t293 _ ?side1 ?side2 A4.out).mono ?_);(case side1=>refine (Kd.R_reads' (e:=40) (base:=w.heap.size) (ok:=fun k_=>True) (n:=t283.length) (c:=co9) ?_).2.2;exact (by (with_reducible repeat (first|apply rA|apply rN|apply rD));exact (rM (rF (p:=⟨Bg,1,none⟩) (rF (p:=⟨Bg,0,none⟩) (rT Bh.out Bb.out (by decide)) (fun _ hk=>hk.2) (.slice Ao9 t283.length co9)) (fun _ hk=>hk.2) (.int .i64 t286)) (fun _ h_=>h_.1))));(case side2=>exact (Kd.R_reads' Bh.out).2.1);rintro e w11 ⟨v290,rfl,ho0,hb⟩;refine ⟨_,rfl,?_⟩;have n0_:=Am (Kd.R_elder' (by (with_reducible repeat (first|apply rA|apply rN|apply rD));exact (rM (rF (p:=⟨Bg,1,none⟩) (rF (p:=⟨Bg,0,none⟩) (rT Bh.out Bb.out (by decide)) (fun _ hk=>hk.2) (.slice Ao9 t283.length co9)) (fun _ hk=>hk.2) (.int .i64 t286)) (fun _ h_=>h_.1))) (Kd.R_base ho0) hb);have n1_:=Am (Kd.R_lower (Kd.R_new' ho0 (Kd.R_lt (by (with_reducible repeat (first|apply rA|apply rN|apply rD));exact (rM (rF (p:=⟨Bg,1,none⟩) (rF (p:=⟨Bg,0,none⟩) (rT Bh.out Bb.out (by decide)) (fun _ hk=>hk.2) (.slice Ao9 t283.length co9)) (fun _ hk=>hk.2) (.int .i64 t286)) (fun _ h_=>h_.1))))) (bZ (by repeat (first|(with_reducible first|exact HB.out|apply oA|apply pN|apply o1|refine bS ?_ Bk.out)|exact HB.out))));have n2_:=Am (bB (g:=Bg) (o:=.cells #[.slice Ao9 t283.length co9,.int .i64 t286] 25 (0,0)) (by (with_reducible repeat (first|refine bN ?_ _|refine bD ?_|refine bA ?_ _));refine blk_put (cs:=#[.slice Ao9 t283.length co9,.int .i64 0]) ?_ 1 _ rfl;(with_reducible repeat (first|refine bN ?_ _|refine bD ?_|refine bA ?_ _));refine blk_put (cs:=#[.slice none 0 0,.int .i64 0]) ?_ 0 _ rfl;(with_reducible repeat (first|refine bN ?_ _|refine bD ?_|refine bA ?_ _));exact Bb.out) hb);have n3_:=Am (bP (by repeat (first|(with_reducible first|exact HB.out|apply oA|apply pN|apply o1|refine bS ?_ Bk.out)|exact HB.out)) hb);clear Bh Bb HB;revert n0_ n1_ n2_ n3_;intro Bh Bm Bb HB;(try clear hb);(try clear hb2);(try clear hk);(try clear hi);(try clear ho0))|((with_reducible refine gate_dst (N:=5) rfl ?_);refine box_event ?hg (N:=5) ?hd (cs:=#[.slice none 0 0,.int .i64 0]) (t:=25) ?hr ?_;(case hd=>rfl);(case hg=>rfl);(case hr=>first|(go_simp;done)|(go_simp;rfl));intro Bd hg w12 hbox hb;have n0_:=Am (rB (rL Bh.out) hb);have n1_:=Am (rB (rL Bm.out) hb);have n2_:=Am (bB (g:=Bg) (o:=.cells #[.slice Ao9 t283.length co9,.int .i64 t286] 25 (0,0)) (bL Bb.out) hb);have n3_:=Am (bP (by repeat (first|(with_reducible first|exact HB.out|apply oA|apply pN|apply o1|refine bS ?_ Bk.out)|exact HB.out)) hb);have n4_:=Am (hbox);have n5_:=Am ((by rw [hg];exact (bZ (by repeat (first|(with_reducible first|exact HB.out|apply oA|apply pN|apply o1|refine bS ?_ Bk.out)|exact HB.out))):w.heap.size≤Bd));have n6_:=Am ((by rw [hg];exact (bZ (by repeat (first|(with_reducible first|exact HB.out|apply oA|apply pN|apply o1|refine bS ?_ Bk.out)|exact HB.out))):w.heap.size≤Bd));have n7_:=Am ((by rw [hg];exact Nat.ne_of_lt (blk_lt (g:=Bg) (o:=.cells #[.slice Ao9 t283.length co9,.int .i64 t286] 25 (0,0)) (bL Bb.out)):Bg≠Bd));have n8_:=Am ((by rw [hg];exact Nat.ne_of_gt (blk_lt (g:=Bg) (o:=.cells #[.slice Ao9 t283.length co9,.int .i64 t286] 25 (0,0)) (bL Bb.out)):Bd≠Bg));clear Bh Bm Bb HB;revert n0_ n1_ n2_ n3_ n4_ n5_ n6_ n7_ n8_;intro Bh Bm Bb HB Ba Dx Bn Bt Bv;clear hb hbox hg;obtain ⟨Ao13,co13,eo13⟩:=Kd.R_slice Bm.out;subst eo13;have Dy:=Bv.out;have Dz:=Bt.out;have BF:w12.cell? ⟨Bd,0,none⟩=some (.slice none 0 0):=(bC Ba.out 0).trans rfl;have BG:w12.cell? ⟨Bd,1,none⟩=some (.int .i64 0):=(bC Ba.out 1).trans rfl;have BH:=bF Ba.out 0;have BI:=bF Ba.out 1;have BJ:w12.cell? ⟨Bg,0,none⟩=some (.slice Ao9 t283.length co9):=(bC Bb.out 0).trans rfl;have BK:w12.cell? ⟨Bg,1,none⟩=some (.int .i64 t286):=(bC Bb.out 1).trans rfl;have BL:=bF Bb.out 0;have BM:=bF Bb.out 1)|((with_reducible refine gate_callee (f:=14) rfl ?_);refine goesL_ (some 29) rfl rfl Try.func14 (by kernel_rfl) rfl #[.agg #[.slice Ao9 t283.length co9,.int .i64 t286],.int .i64 t287] rfl (by (try simp only [lM,lC,lN]);first|done|rfl|(simp only [lD,lT];rfl)) ?_;(with_reducible refine (spec_QueueWake.calls k _ _ t283 t286 t287 t295 t298 t299 _ ?side1 ?side2 A5.out).mono ?_);(case side1=>refine (Kd.R_reads' (e:=40) (base:=w.heap.size) (ok:=fun k_=>(True∧some k_≠(.slice Ao13 t289.length co13:Value).ownBlock)) (n:=t283.length) (c:=co9) ?_).2.2;exact (by (with_reducible repeat (first|apply rA|apply rN|apply rD));exact (rM (rF (p:=⟨Bd,1,none⟩) (rF (p:=⟨Bd,0,none⟩) (rT Bh.out Ba.out (by decide)) (fun _ hk=>hk.2) (.slice Ao13 t289.length co13)) (fun _ hk=>hk.2) (.int .i64 t292)) (fun _ h_=>h_.1))));(case side2=>exact (Kd.R_reads' Bh.out).2.1);rintro e w17 ⟨v296,rfl,ho0,hb⟩;refine ⟨_,rfl,?_⟩;have n0_:=Am (Kd.R_elder' (by (with_reducible repeat (first|apply rA|apply rN|apply rD));exact (rM (rF (p:=⟨Bd,1,none⟩) (rF (p:=⟨Bd,0,none⟩) (rT Bh.out Ba.out (by decide)) (fun _ hk=>hk.2) (.slice Ao13 t289.length co13)) (fun _ hk=>hk.2) (.int .i64 t292)) (fun _ h_=>h_.1))) (Kd.R_base ho0) hb);have n1_:=Am (Kd.R_elder' (by (with_reducible repeat (first|apply rA|apply rN|apply rD));exact (rM (rF (p:=⟨Bd,1,none⟩) (rF (p:=⟨Bd,0,none⟩) (rT Bm.out Ba.out (by decide)) (fun _ hk=>hk.2) (.slice Ao13 t289.length co13)) (fun _ hk=>hk.2) (.int .i64 t292)) (fun _ h_=>h_.1))) (Kd.R_base ho0) hb);have n2_:=Am (Kd.R_lower (Kd.R_new' (Kd.R_new' ho0 (Kd.R_lt (by (with_reducible repeat (first|apply rA|apply rN|apply rD));exact (rM (rF (p:=⟨Bd,1,none⟩) (rF (p:=⟨Bd,0,none⟩) (rT Bh.out Ba.out (by decide)) (fun _ hk=>hk.2) (.slice Ao13 t289.length co13)) (fun _ hk=>hk.2) (.int .i64 t292)) (fun _ h_=>h_.1))))) (Kd.R_lt (by (with_reducible repeat (first|apply rA|apply rN|apply rD));exact (rM (rF (p:=⟨Bd,1,none⟩) (rF (p:=⟨Bd,0,none⟩) (rT Bm.out Ba.out (by decide)) (fun _ hk=>hk.2) (.slice Ao13 t289.length co13)) (fun _ hk=>hk.2) (.int .i64 t292)) (fun _ h_=>h_.1))))) (bZ (by repeat (first|(with_reducible first|exact HB.out|apply oA|apply pN|apply o1|refine bS ?_ Bk.out|refine bS ?_ Bn.out)|exact HB.out))));have n3_:=Am (bB (g:=Bg) (o:=.cells #[.slice Ao9 t283.length co9,.int .i64 t286] 25 (0,0)) (by (with_reducible repeat (first|refine bN ?_ _|refine bD ?_|refine bA ?_ _|refine blk_far ?_ Bt.out _));exact Bb.out) hb);have n4_:=Am (bB (g:=Bd) (o:=.cells #[.slice Ao13 t289.length co13,.int .i64 t292] 25 (0,0)) (by (with_reducible repeat (first|refine bN ?_ _|refine bD ?_|refine bA ?_ _));refine blk_put (cs:=#[.slice Ao13 t289.length co13,.int .i64 0]) ?_ 1 _ rfl;(with_reducible repeat (first|refine bN ?_ _|refine bD ?_|refine bA ?_ _));refine blk_put (cs:=#[.slice none 0 0,.int .i64 0]) ?_ 0 _ rfl;(with_reducible repeat (first|refine bN ?_ _|refine bD ?_|refine bA ?_ _));exact Ba.out) hb);have n5_:=Am (bP (by repeat (first|(with_reducible first|exact HB.out|apply oA|apply pN|apply o1|refine bS ?_ Bk.out|refine bS ?_ Bn.out)|exact HB.out)) hb);clear Bh Bm Bb Ba HB;revert n0_ n1_ n2_ n3_ n4_ n5_;intro Bh Bm Bp Bb Ba HB;(try clear hb);(try clear hb2);(try clear hk);(try clear hi);(try clear ho0))|((with_reducible refine gate_dst (N:=7) rfl ?_);refine box_event ?hg (N:=7) ?hd (cs:=#[.slice none 0 0,.int .i64 0]) (t:=25) ?hr ?_;(case hd=>rfl);(case hg=>rfl);(case hr=>first|(go_simp;done)|(go_simp;rfl));intro Be hg w18 hbox hb;have n0_:=Am (rB (rL Bh.out) hb);have n1_:=Am (rB (rL Bm.out) hb);have n2_:=Am (rB (rL Bp.out) hb);have n3_:=Am (bB (g:=Bg) (o:=.cells #[.slice Ao9 t283.length co9,.int .i64 t286] 25 (0,0)) (bL Bb.out) hb);have n4_:=Am (bB (g:=Bd) (o:=.cells #[.slice Ao13 t289.length co13,.int .i64 t292] 25 (0,0)) (bL Ba.out) hb);have n5_:=Am (bP (by repeat (first|(with_reducible first|exact HB.out|apply oA|apply pN|apply o1|refine bS ?_ Bk.out|refine bS ?_ Bn.out)|exact HB.out)) hb);have n6_:=Am (hbox);have n7_:=Am ((by rw [hg];exact (bZ (by repeat (first|(with_reducible first|exact HB.out|apply oA|apply pN|apply o1|refine bS ?_ Bk.out|refine bS ?_ Bn.out)|exact HB.out))):w.heap.size≤Be));have n8_:=Am ((by rw [hg];exact (bZ (by repeat (first|(with_reducible first|exact HB.out|apply oA|apply pN|apply o1|refine bS ?_ Bk.out|refine bS ?_ Bn.out)|exact HB.out))):w.heap.size≤Be));have n9_:=Am ((by rw [hg];exact Nat.ne_of_lt (blk_lt (g:=Bg) (o:=.cells #[.slice Ao9 t283.length co9,.int .i64 t286] 25 (0,0)) (bL Bb.out)):Bg≠Be));have n10_:=Am ((by rw [hg];exact Nat.ne_of_gt (blk_lt (g:=Bg) (o:=.cells #[.slice Ao9 t283.length co9,.int .i64 t286] 25 (0,0)) (bL Bb.out)):Be≠Bg));have n11_:=Am ((by rw [hg];exact Nat.ne_of_lt (blk_lt (g:=Bd) (o:=.cells #[.slice Ao13 t289.length co13,.int .i64 t292] 25 (0,0)) (bL Ba.out)):Bd≠Be));have n12_:=Am ((by rw [hg];exact Nat.ne_of_gt (blk_lt (g:=Bd) (o:=.cells #[.slice Ao13 t289.length co13,.int .i64 t292] 25 (0,0)) (bL Ba.out)):Be≠Bd));clear Bh Bm Bp Bb Ba HB;revert n0_ n1_ n2_ n3_ n4_ n5_ n6_ n7_ n8_ n9_ n10_ n11_ n12_;intro Bh Bm Bp Bb Ba HB Bc DA Bq Bu Bx Bs Bw;clear hb hbox hg;obtain ⟨Ao19,co19,eo19⟩:=Kd.R_slice Bp.out;subst eo19;have DB:=Bx.out;have DC:=Bu.out;have DD:=Bw.out;have DE:=Bs.out;have BN:w18.cell? ⟨Be,0,none⟩=some (.slice none 0 0):=(bC Bc.out 0).trans rfl;have BO:w18.cell? ⟨Be,1,none⟩=some (.int .i64 0):=(bC Bc.out 1).trans rfl;have BP:=bF Bc.out 0;have BQ:=bF Bc.out 1))
 (try simp only [Act.put,lA,lZ,lS])
 go_cut [9] (fun v9 wc=>∃ (kq:Nat) (x9_5:Bool),v9=.bool x9_5∧Aside0 (laws_FnQueueWake.j0 kq t287 t293 x9_5 t289 t292=some r)∧Aside0 (kq≤k)∧Aside0 (Kd.R k40 40 wc w.heap.size (fun k_=>some k_≠((.slice Ao13 t289.length co13):Value).ownBlock∧some k_≠((.slice Ao19 t295.length co19):Value).ownBlock) (.slice Ao9 t283.length co9) t283)∧Aside0 (Kd.R k40 40 wc w.heap.size (fun k_=>some k_≠((.slice Ao9 t283.length co9):Value).ownBlock∧some k_≠((.slice Ao19 t295.length co19):Value).ownBlock) (.slice Ao13 t289.length co13) t289)∧Aside0 (Kd.R k40 40 wc w.heap.size (fun k_=>some k_≠((.slice Ao9 t283.length co9):Value).ownBlock∧some k_≠((.slice Ao13 t289.length co13):Value).ownBlock) (.slice Ao19 t295.length co19) t295)∧Aside0 (wc.heap[Bg]?=some (.cells #[(.slice Ao9 t283.length co9),.int .i64 t286] 25 (0,0)))∧Aside0 (wc.heap[Bd]?=some (.cells #[(.slice Ao13 t289.length co13),.int .i64 t292] 25 (0,0)))∧Aside0 (wc.heap[Be]?=some (.cells #[(.slice Ao19 t295.length co19),.int .i64 t298] 25 (0,0)))∧Aside0 (Below w.heap.size w wc))
 case first =>
  have H:=HC6.out
  clear HC6
  replace H:=oC H
  obtain ⟨t301,A230,H⟩:=H
  replace H:(if t301=true then (laws_FnQueueWake.j0 k t287 t293 (t293 == t299) t289 t292) else (laws_FnQueueWake.j0 k t287 t293 false t289 t292))=some r:=H
  have A23:=Am A230
  clear A230
  by_cases c24:t301=true
  ·subst c24
   have H1:(laws_FnQueueWake.j0 k t287 t293 (t293 == t299) t289 t292)=some r:=by rw [if_pos rfl] at H;exact H
   clear H
   have H:=H1
   clear H1
   have H':=Am H
   clear H
   have DF:=Bv.out
   have DG:=Bt.out
   have DH:=Bs.out
   have DI:=Bw.out
   have BR:w18.cell? ⟨Bd,0,none⟩=some (.slice Ao13 t289.length co13):=(bC Ba.out 0).trans rfl
   have BS:w18.cell? ⟨Bd,1,none⟩=some (.int .i64 t292):=(bC Ba.out 1).trans rfl
   have BT:=bF Ba.out 0
   have BU:=bF Ba.out 1
   have DJ:=Bx.out
   have DK:=Bu.out
   have BV:w18.cell? ⟨Be,0,none⟩=some (.slice none 0 0):=(bC Bc.out 0).trans rfl
   have BW:w18.cell? ⟨Be,1,none⟩=some (.int .i64 0):=(bC Bc.out 1).trans rfl
   have BX:=bF Bc.out 0
   have BY:=bF Bc.out 1
   go_wp2_with (first|((with_reducible refine gate_callee (f:=15) rfl ?_);refine goesL_ (some 34) rfl rfl Try.func15 (by kernel_rfl) rfl #[.agg #[.slice Ao13 t289.length co13,.int .i64 t292],.agg #[.slice Ao19 t295.length co19,.int .i64 t298]] rfl (by (try simp only [lM,lC,lN]);first|done|rfl|(simp only [lD,lT];rfl)) ?_;(with_reducible refine (laws_qdQueue.calls k _ _ t289 t292 _ _ t295 t298 true _ ?side1 ?side2 ?side3 ?side4 A23.out).mono ?_);(case side1=>refine (Kd.R_reads' (e:=40) (base:=w.heap.size) (ok:=fun k_=>((True∧some k_≠(.slice Ao9 t283.length co9:Value).ownBlock)∧some k_≠(.slice Ao19 t295.length co19:Value).ownBlock)) (n:=t289.length) (c:=co13) ?_).2.2;exact (by (with_reducible repeat (first|apply rA|apply rN|apply rD));exact (rM (rF (p:=⟨Be,1,none⟩) (rF (p:=⟨Be,0,none⟩) (rT Bm.out Bc.out (by decide)) (fun _ hk=>hk.2) (.slice Ao19 t295.length co19)) (fun _ hk=>hk.2) (.int .i64 t298)) (fun _ h_=>h_.1))));(case side2=>exact (Kd.R_reads' Bm.out).2.1);(case side3=>refine (Kd.R_reads' (e:=40) (base:=w.heap.size) (ok:=fun k_=>((True∧some k_≠(.slice Ao9 t283.length co9:Value).ownBlock)∧some k_≠(.slice Ao13 t289.length co13:Value).ownBlock)) (n:=t295.length) (c:=co19) ?_).2.2;exact (by (with_reducible repeat (first|apply rA|apply rN|apply rD));exact (rM (rF (p:=⟨Be,1,none⟩) (rF (p:=⟨Be,0,none⟩) (rT Bp.out Bc.out (by decide)) (fun _ hk=>hk.2) (.slice Ao19 t295.length co19)) (fun _ hk=>hk.2) (.int .i64 t298)) (fun _ h_=>h_.1))));(case side4=>exact (Kd.R_reads' Bp.out).2.1);rintro e w30 ⟨rfl,hb⟩;refine ⟨_,rfl,?_⟩;have n0_:=Am (rB (by (with_reducible repeat (first|apply rA|apply rN|apply rD));exact (rM (rF (p:=⟨Be,1,none⟩) (rF (p:=⟨Be,0,none⟩) (rT Bh.out Bc.out (by decide)) (fun _ hk=>hk.2) (.slice Ao19 t295.length co19)) (fun _ hk=>hk.2) (.int .i64 t298)) (fun _ h_=>h_.1))) hb);have n1_:=Am (rB (by (with_reducible repeat (first|apply rA|apply rN|apply rD));exact (rM (rF (p:=⟨Be,1,none⟩) (rF (p:=⟨Be,0,none⟩) (rT Bm.out Bc.out (by decide)) (fun _ hk=>hk.2) (.slice Ao19 t295.length co19)) (fun _ hk=>hk.2) (.int .i64 t298)) (fun _ h_=>h_.1))) hb);have n2_:=Am (rB (by (with_reducible repeat (first|apply rA|apply rN|apply rD));exact (rM (rF (p:=⟨Be,1,none⟩) (rF (p:=⟨Be,0,none⟩) (rT Bp.out Bc.out (by decide)) (fun _ hk=>hk.2) (.slice Ao19 t295.length co19)) (fun _ hk=>hk.2) (.int .i64 t298)) (fun _ h_=>h_.1))) hb);have n3_:=Am (bB (g:=Bg) (o:=.cells #[.slice Ao9 t283.length co9,.int .i64 t286] 25 (0,0)) (by (with_reducible repeat (first|refine bN ?_ _|refine bD ?_|refine bA ?_ _|refine blk_far ?_ Bu.out _));exact Bb.out) hb);have n4_:=Am (bB (g:=Bd) (o:=.cells #[.slice Ao13 t289.length co13,.int .i64 t292] 25 (0,0)) (by (with_reducible repeat (first|refine bN ?_ _|refine bD ?_|refine bA ?_ _|refine blk_far ?_ Bs.out _));exact Ba.out) hb);have n5_:=Am (bB (g:=Be) (o:=.cells #[.slice Ao19 t295.length co19,.int .i64 t298] 25 (0,0)) (by (with_reducible repeat (first|refine bN ?_ _|refine bD ?_|refine bA ?_ _));refine blk_put (cs:=#[.slice Ao19 t295.length co19,.int .i64 0]) ?_ 1 _ rfl;(with_reducible repeat (first|refine bN ?_ _|refine bD ?_|refine bA ?_ _));refine blk_put (cs:=#[.slice none 0 0,.int .i64 0]) ?_ 0 _ rfl;(with_reducible repeat (first|refine bN ?_ _|refine bD ?_|refine bA ?_ _));exact Bc.out) hb);have n6_:=Am (bP (by repeat (first|(with_reducible first|exact HB.out|apply oA|apply pN|apply o1|refine bS ?_ Bk.out|refine bS ?_ Bn.out|refine bS ?_ Bq.out)|exact HB.out)) hb);clear Bh Bm Bp Bb Ba Bc HB;revert n0_ n1_ n2_ n3_ n4_ n5_ n6_;intro Bh Bm Bp Bb Ba Bc HB;(try clear hb);(try clear hb2);(try clear hk);(try clear hi)))
   go_meet
   case rel=>exact ⟨_,((t293 == t299)),(by first|rfl|(simp;done)|(simp [*];done)),H',⟨by first|omega|exact Nat.le_refl _⟩,⟨by (with_reducible repeat (first|apply rA|apply rN|apply rD));exact rM Bh.out (fun _ hk=>⟨hk.1.2,hk.2⟩)⟩,⟨by (with_reducible repeat (first|apply rA|apply rN|apply rD));exact rM Bm.out (fun _ hk=>⟨hk.1.2,hk.2⟩)⟩,⟨by (with_reducible repeat (first|apply rA|apply rN|apply rD));exact rM Bp.out (fun _ hk=>⟨hk.1.2,hk.2⟩)⟩,⟨by (with_reducible repeat (first|refine bN ?_ _|refine bD ?_|refine bA ?_ _));exact Bb.out⟩,⟨by (with_reducible repeat (first|refine bN ?_ _|refine bD ?_|refine bA ?_ _));exact Ba.out⟩,⟨by (with_reducible repeat (first|refine bN ?_ _|refine bD ?_|refine bA ?_ _));exact Bc.out⟩,⟨by repeat (first|(with_reducible first|exact HB.out|apply oA|apply pN|apply o1|refine bS ?_ Bk.out|refine bS ?_ Bn.out|refine bS ?_ Bq.out)|exact HB.out)⟩⟩
  replace c24:=Bool.eq_false_iff.mpr c24
  subst c24
  have H1:(laws_FnQueueWake.j0 k t287 t293 false t289 t292)=some r:=by rw [if_neg (show ¬ (false=true) by decide)] at H;exact H
  clear H
  have H:=H1
  clear H1
  have H':=Am H
  clear H
  have DL:=Bv.out
  have DM:=Bt.out
  have DN:=Bs.out
  have DO:=Bw.out
  have BZ:w18.cell? ⟨Bd,0,none⟩=some (.slice Ao13 t289.length co13):=(bC Ba.out 0).trans rfl
  have B0:w18.cell? ⟨Bd,1,none⟩=some (.int .i64 t292):=(bC Ba.out 1).trans rfl
  have B1:=bF Ba.out 0
  have B2:=bF Ba.out 1
  have DP:=Bx.out
  have DQ:=Bu.out
  have B3:w18.cell? ⟨Be,0,none⟩=some (.slice none 0 0):=(bC Bc.out 0).trans rfl
  have B4:w18.cell? ⟨Be,1,none⟩=some (.int .i64 0):=(bC Bc.out 1).trans rfl
  have B5:=bF Bc.out 0
  have B6:=bF Bc.out 1
  go_wp2_with (first|((with_reducible refine gate_callee (f:=15) rfl ?_);refine goesL_ (some 34) rfl rfl Try.func15 (by kernel_rfl) rfl #[.agg #[.slice Ao13 t289.length co13,.int .i64 t292],.agg #[.slice Ao19 t295.length co19,.int .i64 t298]] rfl (by (try simp only [lM,lC,lN]);first|done|rfl|(simp only [lD,lT];rfl)) ?_;(with_reducible refine (laws_qdQueue.calls k _ _ t289 t292 _ _ t295 t298 false _ ?side1 ?side2 ?side3 ?side4 A23.out).mono ?_);(case side1=>refine (Kd.R_reads' (e:=40) (base:=w.heap.size) (ok:=fun k_=>((True∧some k_≠(.slice Ao9 t283.length co9:Value).ownBlock)∧some k_≠(.slice Ao19 t295.length co19:Value).ownBlock)) (n:=t289.length) (c:=co13) ?_).2.2;exact (by (with_reducible repeat (first|apply rA|apply rN|apply rD));exact (rM (rF (p:=⟨Be,1,none⟩) (rF (p:=⟨Be,0,none⟩) (rT Bm.out Bc.out (by decide)) (fun _ hk=>hk.2) (.slice Ao19 t295.length co19)) (fun _ hk=>hk.2) (.int .i64 t298)) (fun _ h_=>h_.1))));(case side2=>exact (Kd.R_reads' Bm.out).2.1);(case side3=>refine (Kd.R_reads' (e:=40) (base:=w.heap.size) (ok:=fun k_=>((True∧some k_≠(.slice Ao9 t283.length co9:Value).ownBlock)∧some k_≠(.slice Ao13 t289.length co13:Value).ownBlock)) (n:=t295.length) (c:=co19) ?_).2.2;exact (by (with_reducible repeat (first|apply rA|apply rN|apply rD));exact (rM (rF (p:=⟨Be,1,none⟩) (rF (p:=⟨Be,0,none⟩) (rT Bp.out Bc.out (by decide)) (fun _ hk=>hk.2) (.slice Ao19 t295.length co19)) (fun _ hk=>hk.2) (.int .i64 t298)) (fun _ h_=>h_.1))));(case side4=>exact (Kd.R_reads' Bp.out).2.1);rintro e w36 ⟨rfl,hb⟩;refine ⟨_,rfl,?_⟩;have n0_:=Am (rB (by (with_reducible repeat (first|apply rA|apply rN|apply rD));exact (rM (rF (p:=⟨Be,1,none⟩) (rF (p:=⟨Be,0,none⟩) (rT Bh.out Bc.out (by decide)) (fun _ hk=>hk.2) (.slice Ao19 t295.length co19)) (fun _ hk=>hk.2) (.int .i64 t298)) (fun _ h_=>h_.1))) hb);have n1_:=Am (rB (by (with_reducible repeat (first|apply rA|apply rN|apply rD));exact (rM (rF (p:=⟨Be,1,none⟩) (rF (p:=⟨Be,0,none⟩) (rT Bm.out Bc.out (by decide)) (fun _ hk=>hk.2) (.slice Ao19 t295.length co19)) (fun _ hk=>hk.2) (.int .i64 t298)) (fun _ h_=>h_.1))) hb);have n2_:=Am (rB (by (with_reducible repeat (first|apply rA|apply rN|apply rD));exact (rM (rF (p:=⟨Be,1,none⟩) (rF (p:=⟨Be,0,none⟩) (rT Bp.out Bc.out (by decide)) (fun _ hk=>hk.2) (.slice Ao19 t295.length co19)) (fun _ hk=>hk.2) (.int .i64 t298)) (fun _ h_=>h_.1))) hb);have n3_:=Am (bB (g:=Bg) (o:=.cells #[.slice Ao9 t283.length co9,.int .i64 t286] 25 (0,0)) (by (with_reducible repeat (first|refine bN ?_ _|refine bD ?_|refine bA ?_ _|refine blk_far ?_ Bu.out _));exact Bb.out) hb);have n4_:=Am (bB (g:=Bd) (o:=.cells #[.slice Ao13 t289.length co13,.int .i64 t292] 25 (0,0)) (by (with_reducible repeat (first|refine bN ?_ _|refine bD ?_|refine bA ?_ _|refine blk_far ?_ Bs.out _));exact Ba.out) hb);have n5_:=Am (bB (g:=Be) (o:=.cells #[.slice Ao19 t295.length co19,.int .i64 t298] 25 (0,0)) (by (with_reducible repeat (first|refine bN ?_ _|refine bD ?_|refine bA ?_ _));refine blk_put (cs:=#[.slice Ao19 t295.length co19,.int .i64 0]) ?_ 1 _ rfl;(with_reducible repeat (first|refine bN ?_ _|refine bD ?_|refine bA ?_ _));refine blk_put (cs:=#[.slice none 0 0,.int .i64 0]) ?_ 0 _ rfl;(with_reducible repeat (first|refine bN ?_ _|refine bD ?_|refine bA ?_ _));exact Bc.out) hb);have n6_:=Am (bP (by repeat (first|(with_reducible first|exact HB.out|apply oA|apply pN|apply o1|refine bS ?_ Bk.out|refine bS ?_ Bn.out|refine bS ?_ Bq.out)|exact HB.out)) hb);clear Bh Bm Bp Bb Ba Bc HB;revert n0_ n1_ n2_ n3_ n4_ n5_ n6_;intro Bh Bm Bp Bb Ba Bc HB;(try clear hb);(try clear hb2);(try clear hk);(try clear hi)))
  go_meet
  case rel=>exact ⟨_,(false),(by first|rfl|(simp;done)|(simp [*];done)),H',⟨by first|omega|exact Nat.le_refl _⟩,⟨by (with_reducible repeat (first|apply rA|apply rN|apply rD));exact rM Bh.out (fun _ hk=>⟨hk.1.2,hk.2⟩)⟩,⟨by (with_reducible repeat (first|apply rA|apply rN|apply rD));exact rM Bm.out (fun _ hk=>⟨hk.1.2,hk.2⟩)⟩,⟨by (with_reducible repeat (first|apply rA|apply rN|apply rD));exact rM Bp.out (fun _ hk=>⟨hk.1.2,hk.2⟩)⟩,⟨by (with_reducible repeat (first|refine bN ?_ _|refine bD ?_|refine bA ?_ _));exact Bb.out⟩,⟨by (with_reducible repeat (first|refine bN ?_ _|refine bD ?_|refine bA ?_ _));exact Ba.out⟩,⟨by (with_reducible repeat (first|refine bN ?_ _|refine bD ?_|refine bA ?_ _));exact Bc.out⟩,⟨by repeat (first|(with_reducible first|exact HB.out|apply oA|apply pN|apply o1|refine bS ?_ Bk.out|refine bS ?_ Bn.out|refine bS ?_ Bq.out)|exact HB.out)⟩⟩
 case rest =>
  clear HC6
  try clear c1
  try clear c2
  try clear c2b0
  try clear c2b1
  try clear p2
  try clear c3
  try clear c12
  try clear c13
  try clear c14
  try clear c15
  try clear c20
  try clear c21
  try clear c24
  try clear c25
  try clear c26
  try clear c28
  try clear c31
  try clear c32
  try clear c34
  try clear BB
  try clear BC
  try clear BF
  try clear BG
  try clear BJ
  try clear BK
  try clear BN
  try clear BO
  try clear BR
  try clear BS
  try clear BV
  try clear BW
  try clear BZ
  try clear B0
  try clear B3
  try clear B4
  try clear BD
  try clear BE
  try clear BH
  try clear BI
  try clear BL
  try clear BM
  try clear BP
  try clear BQ
  try clear BT
  try clear BU
  try clear BX
  try clear BY
  try clear B1
  try clear B2
  try clear B5
  try clear B6
  obtain ⟨kq,x9_5,rfl,HA,Db,Bi,Bf,Bj,Bb,Ba,Bc,HB⟩:=hcut
  cases kq with
 |zero=>exact absurd HA.out (by simp [laws_FnQueueWake.j0])
 |succ kj5 =>
   have H:=HA.out
   clear HA
   simp only [laws_FnQueueWake.j0] at H
   have HC37:=Am H
   clear H
   go_upto_region 7 with (fail)
   go_cut [45] (fun v45 wc=>∃ (kq:Nat) (x45_36:Bool),v45=.bool x45_36∧Aside0 (laws_FnQueueWake.j1 kq t287 x9_5 x45_36 t289 t292=some r)∧Aside0 (kq≤kj5)∧Aside0 (Kd.R k40 40 wc w.heap.size (fun k_=>some k_≠((.slice Ao13 t289.length co13):Value).ownBlock∧some k_≠((.slice Ao19 t295.length co19):Value).ownBlock) (.slice Ao9 t283.length co9) t283)∧Aside0 (Kd.R k40 40 wc w.heap.size (fun k_=>some k_≠((.slice Ao9 t283.length co9):Value).ownBlock∧some k_≠((.slice Ao19 t295.length co19):Value).ownBlock) (.slice Ao13 t289.length co13) t289)∧Aside0 (Kd.R k40 40 wc w.heap.size (fun k_=>some k_≠((.slice Ao9 t283.length co9):Value).ownBlock∧some k_≠((.slice Ao13 t289.length co13):Value).ownBlock) (.slice Ao19 t295.length co19) t295)∧Aside0 (wc.heap[Bg]?=some (.cells #[(.slice Ao9 t283.length co9),.int .i64 t286] 25 (0,0)))∧Aside0 (wc.heap[Bd]?=some (.cells #[(.slice Ao13 t289.length co13),.int .i64 t292] 25 (0,0)))∧Aside0 (wc.heap[Be]?=some (.cells #[(.slice Ao19 t295.length co19),.int .i64 t298] 25 (0,0)))∧Aside0 (Below w.heap.size w wc))
   case first =>
    have H:=HC37.out
    clear HC37
    by_cases c38:x9_5=true
    ·subst c38
     have H1:(laws_FnQueueWake.j1 kj5 t287 true (!t293) t289 t292)=some r:=by rw [if_pos rfl] at H;exact H
     clear H
     have H:=H1
     clear H1
     have H':=Am H
     clear H
     go_wp2
     go_meet
     case rel=>exact ⟨_,(!t293),(by first|rfl|(simp;done)|(simp [*];done)),H',⟨by have:=Db.out;first|omega|exact Nat.le_refl _⟩,⟨by (with_reducible repeat (first|apply rA|apply rN|apply rD));exact Bi.out⟩,⟨by (with_reducible repeat (first|apply rA|apply rN|apply rD));exact Bf.out⟩,⟨by (with_reducible repeat (first|apply rA|apply rN|apply rD));exact Bj.out⟩,⟨by (with_reducible repeat (first|refine bN ?_ _|refine bD ?_|refine bA ?_ _));exact Bb.out⟩,⟨by (with_reducible repeat (first|refine bN ?_ _|refine bD ?_|refine bA ?_ _));exact Ba.out⟩,⟨by (with_reducible repeat (first|refine bN ?_ _|refine bD ?_|refine bA ?_ _));exact Bc.out⟩,⟨by repeat (first|(with_reducible first|exact HB.out|apply oA|apply pN|apply o1|refine bS ?_ Bk.out|refine bS ?_ Bn.out|refine bS ?_ Bq.out)|exact HB.out)⟩⟩
    replace c38:=Bool.eq_false_iff.mpr c38
    subst c38
    have H1:(laws_FnQueueWake.j1 kj5 t287 false true t289 t292)=some r:=by rw [if_neg (show ¬ (false=true) by decide)] at H;exact H
    clear H
    have H:=H1
    clear H1
    have H':=Am H
    clear H
    go_wp2
    go_meet
    case rel=>exact ⟨_,(true),(by first|rfl|(simp;done)|(simp [*];done)),H',⟨by have:=Db.out;first|omega|exact Nat.le_refl _⟩,⟨by (with_reducible repeat (first|apply rA|apply rN|apply rD));exact Bi.out⟩,⟨by (with_reducible repeat (first|apply rA|apply rN|apply rD));exact Bf.out⟩,⟨by (with_reducible repeat (first|apply rA|apply rN|apply rD));exact Bj.out⟩,⟨by (with_reducible repeat (first|refine bN ?_ _|refine bD ?_|refine bA ?_ _));exact Bb.out⟩,⟨by (with_reducible repeat (first|refine bN ?_ _|refine bD ?_|refine bA ?_ _));exact Ba.out⟩,⟨by (with_reducible repeat (first|refine bN ?_ _|refine bD ?_|refine bA ?_ _));exact Bc.out⟩,⟨by repeat (first|(with_reducible first|exact HB.out|apply oA|apply pN|apply o1|refine bS ?_ Bk.out|refine bS ?_ Bn.out|refine bS ?_ Bq.out)|exact HB.out)⟩⟩
   case rest =>
    clear HC37
    try clear c1
    try clear c2
    try clear c2b0
    try clear c2b1
    try clear p2
    try clear c3
    try clear c12
    try clear c13
    try clear c14
    try clear c15
    try clear c20
    try clear c21
    try clear c24
    try clear c25
    try clear c26
    try clear c28
    try clear c31
    try clear c32
    try clear c34
    try clear c38
    try clear BB
    try clear BC
    try clear BF
    try clear BG
    try clear BJ
    try clear BK
    try clear BN
    try clear BO
    try clear BR
    try clear BS
    try clear BV
    try clear BW
    try clear BZ
    try clear B0
    try clear B3
    try clear B4
    try clear BD
    try clear BE
    try clear BH
    try clear BI
    try clear BL
    try clear BM
    try clear BP
    try clear BQ
    try clear BT
    try clear BU
    try clear BX
    try clear BY
    try clear B1
    try clear B2
    try clear B5
    try clear B6
    try clear p2
    obtain ⟨kq,x45_36,rfl,HA,D2,Bi,Bf,Bj,Bb,Ba,Bc,HB⟩:=hcut
    cases kq with
   |zero=>exact absurd HA.out (by simp [laws_FnQueueWake.j1])
   |succ kj36 =>
     have H:=HA.out
     clear HA
     simp only [laws_FnQueueWake.j1] at H
     by_cases c39:x45_36=true
     ·subst c39
      have H1:(some x9_5)=some r:=by rw [if_pos rfl] at H;exact H
      clear H
      have H:=H1
      clear H1
      obtain rfl:=Option.some.inj H
      go_wp2
      go_ret
      exact ⟨by first|rfl|(simp [errW_none,errW_some] <;> rfl)|(simp [*,errW_none,errW_some] <;> rfl),by repeat (first|(with_reducible first|exact HB.out|apply oA|apply pN|apply o1|refine bS ?_ Bk.out|refine bS ?_ Bn.out|refine bS ?_ Bq.out)|exact HB.out)⟩
     replace c39:=Bool.eq_false_iff.mpr c39
     subst c39
     have H1:((impl_QueueWake.f kj36 t289 t292 t287).bind fun bt302=>((impl_QueueOk.f kj36 t289 t292).bind fun t308=>(if t308=true then (if bt302.2.2=true then ((laws_qdQueue.f kj36 bt302.1 bt302.2.1 t289 t292).bind fun t309=>(some t309)) else (some false)) else (some false))))=some r:=by rw [if_neg (show ¬ (false=true) by decide)] at H;exact H
     clear H
     have H:=H1
     clear H1
     replace H:=oC H
     obtain ⟨⟨t302,t305,t306⟩,A400,H⟩:=H
     replace H:((impl_QueueOk.f kj36 t289 t292).bind fun t308=>(if t308=true then (if t306=true then ((laws_qdQueue.f kj36 t302 t305 t289 t292).bind fun t309=>(some t309)) else (some false)) else (some false)))=some r:=H
     have A40:=Am A400
     clear A400
     replace H:=oC H
     obtain ⟨t308,A410,H⟩:=H
     replace H:(if t308=true then (if t306=true then ((laws_qdQueue.f kj36 t302 t305 t289 t292).bind fun t309=>(some t309)) else (some false)) else (some false))=some r:=H
     have A41:=Am A410
     clear A410
     by_cases c42:t308=true
     rotate_left
     ·replace c42:=Bool.eq_false_iff.mpr c42
      subst c42
      have H1:(some false)=some r:=by rw [if_neg (show ¬ (false=true) by decide)] at H;exact H
      clear H
      have H:=H1
      clear H1
      exact absurd ((Option.some.inj H).trans hT_.out) (by decide)

     subst c42
     have H1:(if t306=true then ((laws_qdQueue.f kj36 t302 t305 t289 t292).bind fun t309=>(some t309)) else (some false))=some r:=by rw [if_pos rfl] at H;exact H
     clear H
     have H:=H1
     clear H1
     by_cases c43:t306=true
     rotate_left
     ·replace c43:=Bool.eq_false_iff.mpr c43
      subst c43
      have H1:(some false)=some r:=by rw [if_neg (show ¬ (false=true) by decide)] at H;exact H
      clear H
      have H:=H1
      clear H1
      exact absurd ((Option.some.inj H).trans hT_.out) (by decide)
     subst c43
     have H1:((laws_qdQueue.f kj36 t302 t305 t289 t292).bind fun t309=>(some t309))=some r:=by rw [if_pos rfl] at H;exact H
     clear H
     have H:=H1
     clear H1
     replace H:=oC H
     obtain ⟨t309,A440,H⟩:=H
     replace H:(some t309)=some r:=H
     have A44:=Am A440
     clear A440
     obtain rfl:=Option.some.inj H
     have DR:=Bv.out
     have DS:=Bt.out
     have DT:=Bs.out
     have DU:=Bw.out
     have Dc:wc.cell? ⟨Bd,0,none⟩=some (.slice Ao13 t289.length co13):=(bC Ba.out 0).trans rfl
     have Dd:wc.cell? ⟨Bd,1,none⟩=some (.int .i64 t292):=(bC Ba.out 1).trans rfl
     have De:=bF Ba.out 0
     have Df:=bF Ba.out 1
     go_wp2_with (first|((with_reducible refine gate_callee (f:=13) rfl ?_);refine goesL_ (some 50) rfl rfl Try.func13 (by kernel_rfl) rfl #[.agg #[.slice Ao13 t289.length co13,.int .i64 t292],.int .i64 t287] rfl (by (try simp only [lM,lC,lN]);first|done|rfl|(simp only [lD,lT];rfl)) ?_;(with_reducible refine (impl_QueueWake.calls kj36 _ _ t289 t292 t287 t302 t305 true _ ?side1 ?side2 A40.out).mono ?_);(case side1=>repeat (first|exact (Kd.R_reads' Bf.out).2.2|(with_reducible refine cA ?_ _)|(with_reducible refine cN ?_ _)|(with_reducible refine cD ?_)));(case side2=>exact (Kd.R_reads' Bf.out).2.1);rintro e w48 ⟨v303,rfl,ho0,hb⟩;refine ⟨_,rfl,?_⟩;have n0_:=Am (Kd.R_elder' (rL Bi.out) (Kd.R_base ho0) hb);have n1_:=Am (Kd.R_elder' (rL Bf.out) (Kd.R_base ho0) hb);have n2_:=Am (Kd.R_elder' (rL Bj.out) (Kd.R_base ho0) hb);have n3_:=Am (Kd.R_lower (Kd.R_new' (Kd.R_new' (Kd.R_new' ho0 (Kd.R_lt (rL Bi.out))) (Kd.R_lt (rL Bf.out))) (Kd.R_lt (rL Bj.out))) (bZ (by repeat (first|(with_reducible first|exact HB.out|apply oA|apply pN|apply o1|refine bS ?_ Bk.out|refine bS ?_ Bn.out|refine bS ?_ Bq.out)|exact HB.out))));have n4_:=Am (bB (g:=Bg) (o:=.cells #[.slice Ao9 t283.length co9,.int .i64 t286] 25 (0,0)) (bL Bb.out) hb);have n5_:=Am (bB (g:=Bd) (o:=.cells #[.slice Ao13 t289.length co13,.int .i64 t292] 25 (0,0)) (bL Ba.out) hb);have n6_:=Am (bB (g:=Be) (o:=.cells #[.slice Ao19 t295.length co19,.int .i64 t298] 25 (0,0)) (bL Bc.out) hb);have n7_:=Am (bP (by repeat (first|(with_reducible first|exact HB.out|apply oA|apply pN|apply o1|refine bS ?_ Bk.out|refine bS ?_ Bn.out|refine bS ?_ Bq.out)|exact HB.out)) hb);clear Bi Bf Bj Bb Ba Bc HB;revert n0_ n1_ n2_ n3_ n4_ n5_ n6_ n7_;intro Bi Bf Bj Br Bb Ba Bc HB;(try clear hb);(try clear hb2);(try clear hk);(try clear hi);(try clear ho0))|((with_reducible refine gate_dst (N:=10) rfl ?_);refine box_event ?hg (N:=10) ?hd (cs:=#[.slice none 0 0,.int .i64 0]) (t:=25) ?hr ?_;(case hd=>rfl);(case hg=>rfl);(case hr=>first|(go_simp;done)|(go_simp;rfl));intro Bl hg w49 hbox hb;have n0_:=Am (rB (rL Bi.out) hb);have n1_:=Am (rB (rL Bf.out) hb);have n2_:=Am (rB (rL Bj.out) hb);have n3_:=Am (rB (rL Br.out) hb);have n4_:=Am (bB (g:=Bg) (o:=.cells #[.slice Ao9 t283.length co9,.int .i64 t286] 25 (0,0)) (bL Bb.out) hb);have n5_:=Am (bB (g:=Bd) (o:=.cells #[.slice Ao13 t289.length co13,.int .i64 t292] 25 (0,0)) (bL Ba.out) hb);have n6_:=Am (bB (g:=Be) (o:=.cells #[.slice Ao19 t295.length co19,.int .i64 t298] 25 (0,0)) (bL Bc.out) hb);have n7_:=Am (bP (by repeat (first|(with_reducible first|exact HB.out|apply oA|apply pN|apply o1|refine bS ?_ Bk.out|refine bS ?_ Bn.out|refine bS ?_ Bq.out)|exact HB.out)) hb);have n8_:=Am (hbox);have n9_:=Am ((by rw [hg];exact (bZ (by repeat (first|(with_reducible first|exact HB.out|apply oA|apply pN|apply o1|refine bS ?_ Bk.out|refine bS ?_ Bn.out|refine bS ?_ Bq.out)|exact HB.out))):w.heap.size≤Bl));have n10_:=Am ((by rw [hg];exact (bZ (by repeat (first|(with_reducible first|exact HB.out|apply oA|apply pN|apply o1|refine bS ?_ Bk.out|refine bS ?_ Bn.out|refine bS ?_ Bq.out)|exact HB.out))):w.heap.size≤Bl));have n11_:=Am ((by rw [hg];exact Nat.ne_of_lt (blk_lt (g:=Bg) (o:=.cells #[.slice Ao9 t283.length co9,.int .i64 t286] 25 (0,0)) (bL Bb.out)):Bg≠Bl));have n12_:=Am ((by rw [hg];exact Nat.ne_of_gt (blk_lt (g:=Bg) (o:=.cells #[.slice Ao9 t283.length co9,.int .i64 t286] 25 (0,0)) (bL Bb.out)):Bl≠Bg));have n13_:=Am ((by rw [hg];exact Nat.ne_of_lt (blk_lt (g:=Bd) (o:=.cells #[.slice Ao13 t289.length co13,.int .i64 t292] 25 (0,0)) (bL Ba.out)):Bd≠Bl));have n14_:=Am ((by rw [hg];exact Nat.ne_of_gt (blk_lt (g:=Bd) (o:=.cells #[.slice Ao13 t289.length co13,.int .i64 t292] 25 (0,0)) (bL Ba.out)):Bl≠Bd));have n15_:=Am ((by rw [hg];exact Nat.ne_of_lt (blk_lt (g:=Be) (o:=.cells #[.slice Ao19 t295.length co19,.int .i64 t298] 25 (0,0)) (bL Bc.out)):Be≠Bl));have n16_:=Am ((by rw [hg];exact Nat.ne_of_gt (blk_lt (g:=Be) (o:=.cells #[.slice Ao19 t295.length co19,.int .i64 t298] 25 (0,0)) (bL Bc.out)):Bl≠Be));clear Bi Bf Bj Br Bb Ba Bc HB;revert n0_ n1_ n2_ n3_ n4_ n5_ n6_ n7_ n8_ n9_ n10_ n11_ n12_ n13_ n14_ n15_ n16_;intro Bi Bf Bj Br Bb Ba Bc HB Bo DV B7 By B8 Bz B9 BA Da;clear hb hbox hg;obtain ⟨Ao50,co50,eo50⟩:=Kd.R_slice Br.out;subst eo50;have DW:=B8.out;have DX:=By.out;have DY:=B9.out;have DZ:=Bz.out;have D0:=Da.out;have D1:=BA.out;have Dg:w49.cell? ⟨Bl,0,none⟩=some (.slice none 0 0):=(bC Bo.out 0).trans rfl;have Dh:w49.cell? ⟨Bl,1,none⟩=some (.int .i64 0):=(bC Bo.out 1).trans rfl;have Di:=bF Bo.out 0;have Dj:=bF Bo.out 1;have Dk:w49.cell? ⟨Bd,0,none⟩=some (.slice Ao13 t289.length co13):=(bC Ba.out 0).trans rfl;have Dl:w49.cell? ⟨Bd,1,none⟩=some (.int .i64 t292):=(bC Ba.out 1).trans rfl;have Dm:=bF Ba.out 0;have Dn:=bF Ba.out 1)|((with_reducible refine gate_callee (f:=16) rfl ?_);refine goesL_ (some 54) rfl rfl Try.func16 (by kernel_rfl) rfl #[.agg #[.slice Ao13 t289.length co13,.int .i64 t292]] rfl (by (try simp only [lM,lC,lN]);first|done|rfl|(simp only [lD,lT];rfl)) ?_;(with_reducible refine (impl_QueueOk.calls kj36 _ _ t289 t292 true _ ?side1 ?side2 A41.out).mono ?_);(case side1=>refine (Kd.R_reads' (e:=40) (base:=w.heap.size) (ok:=fun k_=>((some k_≠(.slice Ao9 t283.length co9:Value).ownBlock∧some k_≠(.slice Ao19 t295.length co19:Value).ownBlock)∧some k_≠(.slice Ao50 t302.length co50:Value).ownBlock)) (n:=t289.length) (c:=co13) ?_).2.2;exact (by (with_reducible repeat (first|apply rA|apply rN|apply rD));exact (rM (rF (p:=⟨Bl,1,none⟩) (rF (p:=⟨Bl,0,none⟩) (rT Bf.out Bo.out (by decide)) (fun _ hk=>hk.2) (.slice Ao50 t302.length co50)) (fun _ hk=>hk.2) (.int .i64 t305)) (fun _ h_=>h_.1))));(case side2=>exact (Kd.R_reads' Bf.out).2.1);rintro e w56 ⟨rfl,hb⟩;refine ⟨_,rfl,?_⟩;have n0_:=Am (rB (by (with_reducible repeat (first|apply rA|apply rN|apply rD));exact (rM (rF (p:=⟨Bl,1,none⟩) (rF (p:=⟨Bl,0,none⟩) (rT Bi.out Bo.out (by decide)) (fun _ hk=>hk.2) (.slice Ao50 t302.length co50)) (fun _ hk=>hk.2) (.int .i64 t305)) (fun _ h_=>h_.1))) hb);have n1_:=Am (rB (by (with_reducible repeat (first|apply rA|apply rN|apply rD));exact (rM (rF (p:=⟨Bl,1,none⟩) (rF (p:=⟨Bl,0,none⟩) (rT Bf.out Bo.out (by decide)) (fun _ hk=>hk.2) (.slice Ao50 t302.length co50)) (fun _ hk=>hk.2) (.int .i64 t305)) (fun _ h_=>h_.1))) hb);have n2_:=Am (rB (by (with_reducible repeat (first|apply rA|apply rN|apply rD));exact (rM (rF (p:=⟨Bl,1,none⟩) (rF (p:=⟨Bl,0,none⟩) (rT Bj.out Bo.out (by decide)) (fun _ hk=>hk.2) (.slice Ao50 t302.length co50)) (fun _ hk=>hk.2) (.int .i64 t305)) (fun _ h_=>h_.1))) hb);have n3_:=Am (rB (by (with_reducible repeat (first|apply rA|apply rN|apply rD));exact (rM (rF (p:=⟨Bl,1,none⟩) (rF (p:=⟨Bl,0,none⟩) (rT Br.out Bo.out (by decide)) (fun _ hk=>hk.2) (.slice Ao50 t302.length co50)) (fun _ hk=>hk.2) (.int .i64 t305)) (fun _ h_=>h_.1))) hb);have n4_:=Am (bB (g:=Bg) (o:=.cells #[.slice Ao9 t283.length co9,.int .i64 t286] 25 (0,0)) (by (with_reducible repeat (first|refine bN ?_ _|refine bD ?_|refine bA ?_ _|refine blk_far ?_ By.out _));exact Bb.out) hb);have n5_:=Am (bB (g:=Bd) (o:=.cells #[.slice Ao13 t289.length co13,.int .i64 t292] 25 (0,0)) (by (with_reducible repeat (first|refine bN ?_ _|refine bD ?_|refine bA ?_ _|refine blk_far ?_ Bz.out _));exact Ba.out) hb);have n6_:=Am (bB (g:=Be) (o:=.cells #[.slice Ao19 t295.length co19,.int .i64 t298] 25 (0,0)) (by (with_reducible repeat (first|refine bN ?_ _|refine bD ?_|refine bA ?_ _|refine blk_far ?_ BA.out _));exact Bc.out) hb);have n7_:=Am (bB (g:=Bl) (o:=.cells #[.slice Ao50 t302.length co50,.int .i64 t305] 25 (0,0)) (by (with_reducible repeat (first|refine bN ?_ _|refine bD ?_|refine bA ?_ _));refine blk_put (cs:=#[.slice Ao50 t302.length co50,.int .i64 0]) ?_ 1 _ rfl;(with_reducible repeat (first|refine bN ?_ _|refine bD ?_|refine bA ?_ _));refine blk_put (cs:=#[.slice none 0 0,.int .i64 0]) ?_ 0 _ rfl;(with_reducible repeat (first|refine bN ?_ _|refine bD ?_|refine bA ?_ _));exact Bo.out) hb);have n8_:=Am (bP (by repeat (first|(with_reducible first|exact HB.out|apply oA|apply pN|apply o1|refine bS ?_ Bk.out|refine bS ?_ Bn.out|refine bS ?_ Bq.out|refine bS ?_ B7.out)|exact HB.out)) hb);clear Bi Bf Bj Br Bb Ba Bc Bo HB;revert n0_ n1_ n2_ n3_ n4_ n5_ n6_ n7_ n8_;intro Bi Bf Bj Br Bb Ba Bc Bo HB;(try clear hb);(try clear hb2);(try clear hk);(try clear hi);have Do:w56.cell? ⟨Bl,0,none⟩=some (.slice Ao50 t302.length co50):=(bC Bo.out 0).trans rfl;have Dp:w56.cell? ⟨Bl,1,none⟩=some (.int .i64 t305):=(bC Bo.out 1).trans rfl;have Dq:=bF Bo.out 0;have Dr:=bF Bo.out 1;have Ds:w56.cell? ⟨Bd,0,none⟩=some (.slice Ao13 t289.length co13):=(bC Ba.out 0).trans rfl;have Dt:w56.cell? ⟨Bd,1,none⟩=some (.int .i64 t292):=(bC Ba.out 1).trans rfl;have Du:=bF Ba.out 0;have Dv:=bF Ba.out 1)|(go_at_call 15;(with_reducible refine (laws_qdQueue.calls kj36 _ _ t302 t305 _ _ t289 t292 t309 _ ?side1 ?side2 ?side3 ?side4 A44.out).mono ?_);(case side1=>repeat (first|exact (Kd.R_reads' Br.out).2.2|(with_reducible refine cA ?_ _)|(with_reducible refine cN ?_ _)|(with_reducible refine cD ?_)));(case side2=>exact (Kd.R_reads' Br.out).2.1);(case side3=>repeat (first|exact (Kd.R_reads' Bf.out).2.2|(with_reducible refine cA ?_ _)|(with_reducible refine cN ?_ _)|(with_reducible refine cD ?_)));(case side4=>exact (Kd.R_reads' Bf.out).2.1);rintro e w59 ⟨rfl,hb⟩;have n0_:=Am (rB (rL Bi.out) hb);have n1_:=Am (rB (rL Bf.out) hb);have n2_:=Am (rB (rL Bj.out) hb);have n3_:=Am (rB (rL Br.out) hb);have n4_:=Am (bB (g:=Bg) (o:=.cells #[.slice Ao9 t283.length co9,.int .i64 t286] 25 (0,0)) (bL Bb.out) hb);have n5_:=Am (bB (g:=Bd) (o:=.cells #[.slice Ao13 t289.length co13,.int .i64 t292] 25 (0,0)) (bL Ba.out) hb);have n6_:=Am (bB (g:=Be) (o:=.cells #[.slice Ao19 t295.length co19,.int .i64 t298] 25 (0,0)) (bL Bc.out) hb);have n7_:=Am (bB (g:=Bl) (o:=.cells #[.slice Ao50 t302.length co50,.int .i64 t305] 25 (0,0)) (bL Bo.out) hb);have n8_:=Am (bP (by repeat (first|(with_reducible first|exact HB.out|apply oA|apply pN|apply o1|refine bS ?_ Bk.out|refine bS ?_ Bn.out|refine bS ?_ Bq.out|refine bS ?_ B7.out)|exact HB.out)) hb);clear Bi Bf Bj Br Bb Ba Bc Bo HB;revert n0_ n1_ n2_ n3_ n4_ n5_ n6_ n7_ n8_;intro Bi Bf Bj Br Bb Ba Bc Bo HB;(try clear hb);(try clear hb2);(try clear hk);(try clear hi)))
     go_ret
     exact ⟨by first|rfl|(simp [errW_none,errW_some] <;> rfl)|(simp [*,errW_none,errW_some] <;> rfl),by repeat (first|(with_reducible first|exact HB.out|apply oA|apply pN|apply o1|refine bS ?_ Bk.out|refine bS ?_ Bn.out|refine bS ?_ Bq.out|refine bS ?_ B7.out)|exact HB.out)⟩
/-- THE ONE PURE STATEMENT of laws_FnQueueWake: yours. -/
def laws_FnQueueWake.Pure:Prop:=∀ (l0:List Int),l0.length≤maxLen → l0.length * 1≤140737488351232 → (∀ x ∈ l0,(Lit.int .u8 x).wf=true) → ∃ k,laws_FnQueueWake.f k l0=some true
theorem laws_FnQueueWake.walk (P:laws_FnQueueWake.Pure) (a0:Option Addr) (len0 cap0:Nat) (z0:List Int) (w:World) (w0:(a0=none∧len0=0∧cap0=0∧z0=[])∨∃ x,a0=some x∧len0≤cap0∧cap0≤maxLen∧z0.length=cap0∧(∀ i,i<z0.length → w.cell? (x.add i)=some (.int .u8 (z0.getD i 0)))∧∀ n ∈ z0,(Lit.int .u8 n).wf=true) (y0:len0 * 1≤140737488351232) :
  Calls Try.prog 3 #[.slice a0 len0 cap0] w fun e w'=>e=.returned (.bool true)∧Below w.heap.size w w':=by
 obtain ⟨l0,rfl,hr0,hm0,hw0,hc0⟩:=ReadsInt.ofRowC w0
 obtain ⟨k,h⟩:=P l0 hm0 y0 hw0
 refine (laws_FnQueueWake.calls k _ _ l0 true w (Kd.C_of_reads (d:=(0:Int)) (h1:=fun _=>rfl) hr0) hc0 h ⟨rfl⟩).mono ?_
 rintro e w' ⟨rfl,hd⟩
 exact ⟨rfl,hd⟩

end Go.Proofs.Ytfhcgmfodfcpeaa.PFnQueueWake
