/- Proved here, without a condition beyond those that each theorem states: what the Go functions named below do is what the plain functions of the same names say. Written by xprint.py, a program of this session. -/
import Derived.Test.YtfhcgmfodfcpeaaPFnQueueOkx0
import Derived.Test.YtfhcgmfodfcpeaaPFnQueueOkx2
import Derived.Test.YtfhcgmfodfcpeaaPFnQueueOkx3
import Derived.Test.YtfhcgmfodfcpeaaPFnQueueOkx10
import Derived.Test.YtfhcgmfodfcpeaaPFnQueueOkx11
import Derived.Test.YtfhcgmfodfcpeaaPFnQueueOkx14
namespace Go.Proofs.Ytfhcgmfodfcpeaa.PFnQueueOk
open Go.RowKit Go.Proofs.YtfhcgmfodfcpeaaW.PrintWords Go.Proofs.YtfhcgmfodfcpeaaW.PrintLast Go.Proofs.YtfhcgmfodfcpeaaW.PrintMore
attribute [local go_sem] max2_int min2_int max_two min_two max_three min_three max_four min_four   -- for this text's walks alone
set_option linter.unusedVariables false
set_option linter.unusedSimpArgs false

attribute [local go_sem ↓] isSome_setCell_
/-! ### laws_FnQueueOk: function 4 -/
def laws_FnQueueOk.f (k : Nat) (l0 : List Int) : Option (Bool) := if (l0.length : Int) > 1048576 then (some true) else ((spec_DrawQueueOk.f k l0).bind fun bt292 => ((impl_QueueOk.f k bt292.1 bt292.2).bind fun t297 => ((spec_QueueOk.f k bt292.1 bt292.2).bind fun t298 => (if ((t297 == t298) = true) then ((impl_QueueRun.f k bt292.1 bt292.2 0).bind fun bt299 => (if (t297 == bt299.2.2.2) = true then (if (bt299.2.2.1.length : Int) = 0 then (if t297 = true then ((laws_qdQueue.f k bt299.1 bt299.2.1 bt292.1 bt292.2).bind fun t308 => (some t308)) else (some true)) else (some false)) else (some false))) else (some false)))))
theorem laws_FnQueueOk.mono : ∀ a0 k, LeO (laws_FnQueueOk.f k a0) (laws_FnQueueOk.f (k + 1) a0) := by
 intro a0 k
 unfold laws_FnQueueOk.f
 repeat' first
  |(with_reducible exact impl_QueueOk.mono _ _ _)
  |(with_reducible exact impl_QueueRun.mono _ _ _ _)
  |(with_reducible exact laws_qdQueue.mono _ _ _ _ _)
  |(with_reducible exact spec_DrawQueueOk.mono _ _)
  |(with_reducible exact spec_QueueOk.mono _ _ _)
  |(with_reducible exact LeO.refl _)
  |(with_reducible exact LeO.none _)
  |(with_reducible refine LeO.ite ?_ ?_)
  |(with_reducible refine LeO.bind ?_ (fun _ => ?_))
  |exact impl_QueueOk.mono _ _ _
  |exact impl_QueueRun.mono _ _ _ _
  |exact laws_qdQueue.mono _ _ _ _ _
  |exact spec_DrawQueueOk.mono _ _
  |exact spec_QueueOk.mono _ _ _
  |exact LeO.none _
  |refine LeO.ite ?_ ?_
  |refine LeO.bind ?_ (fun _ => ?_)
set_option maxHeartbeats 2000000 in
set_option maxRecDepth 100000 in
theorem laws_FnQueueOk.calls (k:Nat) (A0:Option Addr) (c0:Nat) (l0:List Int) (r:Bool) (w:World) (hr0:Kd.C (Kd.int .u8) w A0 l0.length l0) (hc0:l0.length≤c0) (h:laws_FnQueueOk.f k l0=some r) (hT_:Aside0 (r=true)) :
  Calls Try.prog 4 #[.slice A0 l0.length c0] w fun e w'=>e=.returned (.bool r)∧Below w.heap.size w w':=by
 have hu25:=Try.underlying25
 have HR0:=Am hr0
 have HC0:=Am hc0
 clear hr0 hc0
 have HB:=Am (Below.refl w.heap.size w)
 have H:(if (l0.length:Int) > 1048576 then (some true) else ((spec_DrawQueueOk.f k l0).bind fun bt292=>((impl_QueueOk.f k bt292.1 bt292.2).bind fun t297=>((spec_QueueOk.f k bt292.1 bt292.2).bind fun t298=>(if ((t297 == t298)=true) then ((impl_QueueRun.f k bt292.1 bt292.2 0).bind fun bt299=>(if (t297 == bt299.2.2.2)=true then (if (bt299.2.2.1.length:Int)=0 then (if t297=true then ((laws_qdQueue.f k bt299.1 bt299.2.1 bt292.1 bt292.2).bind fun t308=>(some t308)) else (some true)) else (some false)) else (some false))) else (some false))))))=some r:=h
 clear h
 by_cases c2:(l0.length:Int) > 1048576
 ·rw [if_pos c2] at H
  have c2b0:decide (1048576<(l0.length:Int))=true:=decide_eq_true c2
  have c2b1:decide (1048576<l0.length)=true:=decide_eq_true (by omega)
  clear c2
  obtain rfl:=Option.some.inj H
  go_enter Try.func4,Try.ntmps4
  go_wp2
  go_ret
  exact ⟨by first|rfl|(simp [errW_none,errW_some] <;> rfl)|(simp [*,errW_none,errW_some] <;> rfl),by repeat (first|(with_reducible first|exact HB.out|apply oA|apply pN|apply o1)|exact HB.out)⟩
 rw [if_neg c2] at H
 have c2b0:decide (1048576<(l0.length:Int))=false:=decide_eq_false c2
 have c2b1:decide (1048576<l0.length)=false:=decide_eq_false (by omega)
 clear c2
 replace H:=oC H
 obtain ⟨⟨t292,t295⟩,A30,H⟩:=H
 replace H:((impl_QueueOk.f k t292 t295).bind fun t297=>((spec_QueueOk.f k t292 t295).bind fun t298=>(if ((t297 == t298)=true) then ((impl_QueueRun.f k t292 t295 0).bind fun bt299=>(if (t297 == bt299.2.2.2)=true then (if (bt299.2.2.1.length:Int)=0 then (if t297=true then ((laws_qdQueue.f k bt299.1 bt299.2.1 t292 t295).bind fun t308=>(some t308)) else (some true)) else (some false)) else (some false))) else (some false))))=some r:=H
 have A3:=Am A30
 clear A30
 replace H:=oC H
 obtain ⟨t297,A40,H⟩:=H
 replace H:((spec_QueueOk.f k t292 t295).bind fun t298=>(if ((t297 == t298)=true) then ((impl_QueueRun.f k t292 t295 0).bind fun bt299=>(if (t297 == bt299.2.2.2)=true then (if (bt299.2.2.1.length:Int)=0 then (if t297=true then ((laws_qdQueue.f k bt299.1 bt299.2.1 t292 t295).bind fun t308=>(some t308)) else (some true)) else (some false)) else (some false))) else (some false)))=some r:=H
 have A4:=Am A40
 clear A40
 replace H:=oC H
 obtain ⟨t298,A50,H⟩:=H
 replace H:(if ((t297 == t298)=true) then ((impl_QueueRun.f k t292 t295 0).bind fun bt299=>(if (t297 == bt299.2.2.2)=true then (if (bt299.2.2.1.length:Int)=0 then (if t297=true then ((laws_qdQueue.f k bt299.1 bt299.2.1 t292 t295).bind fun t308=>(some t308)) else (some true)) else (some false)) else (some false))) else (some false))=some r:=H
 have A5:=Am A50
 clear A50
 by_cases c6:((t297 == t298)=true)
 rotate_left
 ·rw [if_neg c6] at H
  have c6b0:(t297 == t298)=false:=by simpa using c6
  (try (have c6b1:decide (t297=t298)=false:=by simpa using c6))
  (try (have c6b2:(t297 == t298)=false:=by simpa using c6))
  (try (have c6b3:¬ (t297=t298):=by simpa using c6))
  clear c6
  exact absurd ((Option.some.inj H).trans hT_.out) (by decide)

 rw [if_pos c6] at H
 have c6b0:(t297 == t298)=true:=c6
 (try (have c6b1:decide (t297=t298)=true:=by simpa using c6))
 (try (have c6b2:(t297 == t298)=true:=by simpa using c6))
 clear c6
 replace H:=oC H
 obtain ⟨⟨t299,t302,t303,t306⟩,A70,H⟩:=H
 replace H:(if (t297 == t306)=true then (if (t303.length:Int)=0 then (if t297=true then ((laws_qdQueue.f k t299 t302 t292 t295).bind fun t308=>(some t308)) else (some true)) else (some false)) else (some false))=some r:=H
 have A7:=Am A70
 clear A70
 by_cases c8:(t297 == t306)=true
 rotate_left
 ·rw [if_neg c8] at H
  have c8b0:(t297 == t306)=false:=by simpa using c8
  (try (have c8b1:decide (t297=t306)=false:=by simpa using c8))
  (try (have c8b2:(t297 == t306)=false:=by simpa using c8))
  (try (have c8b3:¬ (t297=t306):=by simpa using c8))
  clear c8
  exact absurd ((Option.some.inj H).trans hT_.out) (by decide)
 rw [if_pos c8] at H
 have c8b0:(t297 == t306)=true:=c8
 (try (have c8b1:decide (t297=t306)=true:=by simpa using c8))
 (try (have c8b2:(t297 == t306)=true:=by simpa using c8))
 clear c8
 by_cases c9:(t303.length:Int)=0
 rotate_left
 ·rw [if_neg c9] at H
  have c9b0:((t303.length:Int) == 0)=false:=beq_eq_false_iff_ne.mpr c9
  have c9b1:((t303.length:Int) != 0)=true:=bne_iff_ne.mpr c9
  have c9b2:¬ (t303=[]):=fun h_=>c9 (by rw [h_];rfl)
  exact absurd ((Option.some.inj H).trans hT_.out) (by decide)
 rw [if_pos c9] at H
 have c9b0:((t303.length:Int) == 0)=true:=beq_iff_eq.mpr c9
 have c9b1:((t303.length:Int) != 0)=false:=bne_eq_false_iff_eq.mpr c9
 clear c9
 by_cases c10:t297=true
 rotate_left
 ·replace c10:=Bool.eq_false_iff.mpr c10
  subst c10
  have H1:(some true)=some r:=by rw [if_neg (show ¬ (false=true) by decide)] at H;exact H
  clear H
  have H:=H1
  clear H1
  obtain rfl:=Option.some.inj H
  go_enter Try.func4,Try.ntmps4
  go_wp2_with (first|((with_reducible refine gate_callee (f:=17) rfl ?_);refine goesL_ (some 14) rfl rfl Try.func17 (by kernel_rfl) rfl #[.slice A0 l0.length c0] rfl (by (try simp only [lM,lC,lN]);first|done|rfl|(simp only [lD,lT];rfl)) ?_;(with_reducible refine (spec_DrawQueueOk.calls k _ _ l0 t292 t295 _ ?side1 ?side2 A3.out).mono ?_);(case side1=>repeat (first|exact HR0.out|(with_reducible refine cA ?_ _)|(with_reducible refine cN ?_ _)|(with_reducible refine cD ?_)));(case side2=>exact HC0.out);rintro e w28 ⟨v293,rfl,ho0,hb⟩;refine ⟨_,rfl,?_⟩;have n0_:=Am (Kd.R_lower ho0 (bZ (by repeat (first|(with_reducible first|exact HB.out|apply oA|apply pN|apply o1)|exact HB.out))));have n1_:=Am (bP (by repeat (first|(with_reducible first|exact HB.out|apply oA|apply pN|apply o1)|exact HB.out)) hb);clear HB;revert n0_ n1_;intro Bb HB;(try clear hb);(try clear hb2);(try clear hk);(try clear hi);(try clear ho0))|((with_reducible refine gate_dst (N:=3) rfl ?_);(try (refine gate_guard (by rfl) ?_;dsimp only));refine box_event ?hg (N:=3) ?hd (cs:=#[.slice none 0 0,.int .i64 0]) (t:=25) ?hr ?_;(case hd=>rfl);(case hg=>rfl);(case hr=>first|(go_simp;done)|(go_simp;rfl));intro Bc hg w29 hbox hb;have n0_:=Am (rB (rL Bb.out) hb);have n1_:=Am (bP (by repeat (first|(with_reducible first|exact HB.out|apply oA|apply pN|apply o1)|exact HB.out)) hb);have n2_:=Am (hbox);have n3_:=Am ((by rw [hg];exact (bZ (by repeat (first|(with_reducible first|exact HB.out|apply oA|apply pN|apply o1)|exact HB.out))):w.heap.size≤Bc));have n4_:=Am ((by rw [hg];exact (bZ (by repeat (first|(with_reducible first|exact HB.out|apply oA|apply pN|apply o1)|exact HB.out))):w.heap.size≤Bc));clear Bb HB;revert n0_ n1_ n2_ n3_ n4_;intro Bb HB Ba Bl Be;clear hb hbox hg;obtain ⟨Ao30,co30,eo30⟩:=Kd.R_slice Bb.out;subst eo30;have BH:w29.cell? ⟨Bc,0,none⟩=some (.slice none 0 0):=(bC Ba.out 0).trans rfl;have BI:w29.cell? ⟨Bc,1,none⟩=some (.int .i64 0):=(bC Ba.out 1).trans rfl;have BJ:=bF Ba.out 0;have BK:=bF Ba.out 1)|((with_reducible refine gate_callee (f:=16) rfl ?_);refine goesL_ (some 16) rfl rfl Try.func16 (by kernel_rfl) rfl #[.agg #[.slice Ao30 t292.length co30,.int .i64 t295]] rfl (by (try simp only [lM,lC,lN]);first|done|rfl|(simp only [lD,lT];rfl)) ?_;(with_reducible refine (impl_QueueOk.calls k _ _ t292 t295 false _ ?side1 ?side2 A4.out).mono ?_);(case side1=>refine (Kd.R_reads' (e:=40) (base:=w.heap.size) (ok:=fun k_=>True) (n:=t292.length) (c:=co30) ?_).2.2;exact (by (with_reducible repeat (first|apply rA|apply rN|apply rD));exact (rM (rF (p:=⟨Bc,1,none⟩) (rF (p:=⟨Bc,0,none⟩) (rT Bb.out Ba.out (by decide)) (fun _ hk=>hk.2) (.slice Ao30 t292.length co30)) (fun _ hk=>hk.2) (.int .i64 t295)) (fun _ h_=>h_.1))));(case side2=>exact (Kd.R_reads' Bb.out).2.1);rintro e w32 ⟨rfl,hb⟩;refine ⟨_,rfl,?_⟩;have n0_:=Am (rB (by (with_reducible repeat (first|apply rA|apply rN|apply rD));exact (rM (rF (p:=⟨Bc,1,none⟩) (rF (p:=⟨Bc,0,none⟩) (rT Bb.out Ba.out (by decide)) (fun _ hk=>hk.2) (.slice Ao30 t292.length co30)) (fun _ hk=>hk.2) (.int .i64 t295)) (fun _ h_=>h_.1))) hb);have n1_:=Am (bB (g:=Bc) (o:=.cells #[.slice Ao30 t292.length co30,.int .i64 t295] 25 (0,0)) (by (with_reducible repeat (first|refine bN ?_ _|refine bD ?_|refine bA ?_ _));refine blk_put (cs:=#[.slice Ao30 t292.length co30,.int .i64 0]) ?_ 1 _ rfl;(with_reducible repeat (first|refine bN ?_ _|refine bD ?_|refine bA ?_ _));refine blk_put (cs:=#[.slice none 0 0,.int .i64 0]) ?_ 0 _ rfl;(with_reducible repeat (first|refine bN ?_ _|refine bD ?_|refine bA ?_ _));exact Ba.out) hb);have n2_:=Am (bP (by repeat (first|(with_reducible first|exact HB.out|apply oA|apply pN|apply o1|refine bS ?_ Be.out)|exact HB.out)) hb);clear Bb Ba HB;revert n0_ n1_ n2_;intro Bb Ba HB;(try clear hb);(try clear hb2);(try clear hk);(try clear hi);have BL:w32.cell? ⟨Bc,0,none⟩=some (.slice Ao30 t292.length co30):=(bC Ba.out 0).trans rfl;have BM:w32.cell? ⟨Bc,1,none⟩=some (.int .i64 t295):=(bC Ba.out 1).trans rfl;have BN:=bF Ba.out 0;have BO:=bF Ba.out 1)|((with_reducible refine gate_callee (f:=18) rfl ?_);refine goesL_ (some 18) rfl rfl Try.func18 (by kernel_rfl) rfl #[.agg #[.slice Ao30 t292.length co30,.int .i64 t295]] rfl (by (try simp only [lM,lC,lN]);first|done|rfl|(simp only [lD,lT];rfl)) ?_;(with_reducible refine (spec_QueueOk.calls k _ _ t292 t295 t298 _ ?side1 ?side2 A5.out).mono ?_);(case side1=>repeat (first|exact (Kd.R_reads' Bb.out).2.2|(with_reducible refine cA ?_ _)|(with_reducible refine cN ?_ _)|(with_reducible refine cD ?_)));(case side2=>exact (Kd.R_reads' Bb.out).2.1);rintro e w34 ⟨rfl,hb⟩;refine ⟨_,rfl,?_⟩;have n0_:=Am (rB (rL Bb.out) hb);have n1_:=Am (bB (g:=Bc) (o:=.cells #[.slice Ao30 t292.length co30,.int .i64 t295] 25 (0,0)) (bL Ba.out) hb);have n2_:=Am (bP (by repeat (first|(with_reducible first|exact HB.out|apply oA|apply pN|apply o1|refine bS ?_ Be.out)|exact HB.out)) hb);clear Bb Ba HB;revert n0_ n1_ n2_;intro Bb Ba HB;(try clear hb);(try clear hb2);(try clear hk);(try clear hi);have BP:w34.cell? ⟨Bc,0,none⟩=some (.slice Ao30 t292.length co30):=(bC Ba.out 0).trans rfl;have BQ:w34.cell? ⟨Bc,1,none⟩=some (.int .i64 t295):=(bC Ba.out 1).trans rfl;have BR:=bF Ba.out 0;have BS:=bF Ba.out 1)|((with_reducible refine gate_callee (f:=19) rfl ?_);refine goesL_ (some 26) rfl rfl Try.func19 (by kernel_rfl) rfl #[.agg #[.slice Ao30 t292.length co30,.int .i64 t295],.int .i64 0] rfl (by (try simp only [lM,lC,lN]);first|done|rfl|(simp only [lD,lT];rfl)) ?_;(with_reducible refine (impl_QueueRun.calls k _ _ t292 t295 0 t299 t302 t303 t306 _ ?side1 ?side2 A7.out).mono ?_);(case side1=>repeat (first|exact (Kd.R_reads' Bb.out).2.2|(with_reducible refine cA ?_ _)|(with_reducible refine cN ?_ _)|(with_reducible refine cD ?_)));(case side2=>exact (Kd.R_reads' Bb.out).2.1);rintro e w36 ⟨v300,v304,rfl,ho0,ho1,hb⟩;refine ⟨_,rfl,?_⟩;have n0_:=Am (Kd.R_elder' (rL Bb.out) (Kd.R_base ho0) hb);have n1_:=Am (Kd.R_lower (Kd.R_new' ho0 (Kd.R_lt (rL Bb.out))) (bZ (by repeat (first|(with_reducible first|exact HB.out|apply oA|apply pN|apply o1|refine bS ?_ Be.out)|exact HB.out))));have n2_:=Am (Kd.R_lower ho1 (bZ (by repeat (first|(with_reducible first|exact HB.out|apply oA|apply pN|apply o1|refine bS ?_ Be.out)|exact HB.out))));have n3_:=Am (bB (g:=Bc) (o:=.cells #[.slice Ao30 t292.length co30,.int .i64 t295] 25 (0,0)) (bL Ba.out) hb);have n4_:=Am (bP (by repeat (first|(with_reducible first|exact HB.out|apply oA|apply pN|apply o1|refine bS ?_ Be.out)|exact HB.out)) hb);clear Bb Ba HB;revert n0_ n1_ n2_ n3_ n4_;intro Bb Bg Bh Ba HB;(try clear hb);(try clear hb2);(try clear hk);(try clear hi);(try clear ho0);(try clear ho1))|((with_reducible refine gate_dst (N:=7) rfl ?_);(try (refine gate_guard (by rfl) ?_;dsimp only));refine box_event ?hg (N:=7) ?hd (cs:=#[.slice none 0 0,.int .i64 0]) (t:=25) ?hr ?_;(case hd=>rfl);(case hg=>rfl);(case hr=>first|(go_simp;done)|(go_simp;rfl));intro Bd hg w37 hbox hb;have n0_:=Am (rB (rL Bb.out) hb);have n1_:=Am (rB (rL Bg.out) hb);have n2_:=Am (rB (rL Bh.out) hb);have n3_:=Am (bB (g:=Bc) (o:=.cells #[.slice Ao30 t292.length co30,.int .i64 t295] 25 (0,0)) (bL Ba.out) hb);have n4_:=Am (bP (by repeat (first|(with_reducible first|exact HB.out|apply oA|apply pN|apply o1|refine bS ?_ Be.out)|exact HB.out)) hb);have n5_:=Am (hbox);have n6_:=Am ((by rw [hg];exact (bZ (by repeat (first|(with_reducible first|exact HB.out|apply oA|apply pN|apply o1|refine bS ?_ Be.out)|exact HB.out))):w.heap.size≤Bd));have n7_:=Am ((by rw [hg];exact (bZ (by repeat (first|(with_reducible first|exact HB.out|apply oA|apply pN|apply o1|refine bS ?_ Be.out)|exact HB.out))):w.heap.size≤Bd));have n8_:=Am ((by rw [hg];exact Nat.ne_of_lt (blk_lt (g:=Bc) (o:=.cells #[.slice Ao30 t292.length co30,.int .i64 t295] 25 (0,0)) (bL Ba.out)):Bc≠Bd));have n9_:=Am ((by rw [hg];exact Nat.ne_of_gt (blk_lt (g:=Bc) (o:=.cells #[.slice Ao30 t292.length co30,.int .i64 t295] 25 (0,0)) (bL Ba.out)):Bd≠Bc));clear Bb Bg Bh Ba HB;revert n0_ n1_ n2_ n3_ n4_ n5_ n6_ n7_ n8_ n9_;intro Bb Bg Bh Ba HB Bf Bm Bk Bi Bj;clear hb hbox hg;obtain ⟨Ao38,co38,eo38⟩:=Kd.R_slice Bg.out;subst eo38;have BZ:=Bj.out;have B0:=Bi.out;have BT:w37.cell? ⟨Bd,0,none⟩=some (.slice none 0 0):=(bC Bf.out 0).trans rfl;have BU:w37.cell? ⟨Bd,1,none⟩=some (.int .i64 0):=(bC Bf.out 1).trans rfl;have BV:=bF Bf.out 0;have BW:=bF Bf.out 1;obtain ⟨Ao41,co41,eo41⟩:=Kd.R_slice Bh.out;subst eo41))
  go_ret
  exact ⟨by first|rfl|(simp [errW_none,errW_some] <;> rfl)|(simp [*,errW_none,errW_some] <;> rfl),by repeat (first|(with_reducible first|exact HB.out|apply oA|apply pN|apply o1|refine bS ?_ Be.out|refine bS ?_ Bk.out)|exact HB.out)⟩
 subst c10
 have H1:((laws_qdQueue.f k t299 t302 t292 t295).bind fun t308=>(some t308))=some r:=by rw [if_pos rfl] at H;exact H
 clear H
 have H:=H1
 clear H1
 replace H:=oC H
 obtain ⟨t308,A110,H⟩:=H
 replace H:(some t308)=some r:=H
 have A11:=Am A110
 clear A110
 obtain rfl:=Option.some.inj H
 go_enter Try.func4,Try.ntmps4
 go_wp2_with (first|((with_reducible refine gate_callee (f:=17) rfl ?_);refine goesL_ (some 14) rfl rfl Try.func17 (by kernel_rfl) rfl #[.slice A0 l0.length c0] rfl (by (try simp only [lM,lC,lN]);first|done|rfl|(simp only [lD,lT];rfl)) ?_;(with_reducible refine (spec_DrawQueueOk.calls k _ _ l0 t292 t295 _ ?side1 ?side2 A3.out).mono ?_);(case side1=>repeat (first|exact HR0.out|(with_reducible refine cA ?_ _)|(with_reducible refine cN ?_ _)|(with_reducible refine cD ?_)));(case side2=>exact HC0.out);rintro e w12 ⟨v293,rfl,ho0,hb⟩;refine ⟨_,rfl,?_⟩;have n0_:=Am (Kd.R_lower ho0 (bZ (by repeat (first|(with_reducible first|exact HB.out|apply oA|apply pN|apply o1)|exact HB.out))));have n1_:=Am (bP (by repeat (first|(with_reducible first|exact HB.out|apply oA|apply pN|apply o1)|exact HB.out)) hb);clear HB;revert n0_ n1_;intro Bb HB;(try clear hb);(try clear hb2);(try clear hk);(try clear hi);(try clear ho0))|((with_reducible refine gate_dst (N:=3) rfl ?_);(try (refine gate_guard (by rfl) ?_;dsimp only));refine box_event ?hg (N:=3) ?hd (cs:=#[.slice none 0 0,.int .i64 0]) (t:=25) ?hr ?_;(case hd=>rfl);(case hg=>rfl);(case hr=>first|(go_simp;done)|(go_simp;rfl));intro Bc hg w13 hbox hb;have n0_:=Am (rB (rL Bb.out) hb);have n1_:=Am (bP (by repeat (first|(with_reducible first|exact HB.out|apply oA|apply pN|apply o1)|exact HB.out)) hb);have n2_:=Am (hbox);have n3_:=Am ((by rw [hg];exact (bZ (by repeat (first|(with_reducible first|exact HB.out|apply oA|apply pN|apply o1)|exact HB.out))):w.heap.size≤Bc));have n4_:=Am ((by rw [hg];exact (bZ (by repeat (first|(with_reducible first|exact HB.out|apply oA|apply pN|apply o1)|exact HB.out))):w.heap.size≤Bc));clear Bb HB;revert n0_ n1_ n2_ n3_ n4_;intro Bb HB Ba Bl Be;clear hb hbox hg;obtain ⟨Ao14,co14,eo14⟩:=Kd.R_slice Bb.out;subst eo14;have Bn:w13.cell? ⟨Bc,0,none⟩=some (.slice none 0 0):=(bC Ba.out 0).trans rfl;have Bo:w13.cell? ⟨Bc,1,none⟩=some (.int .i64 0):=(bC Ba.out 1).trans rfl;have Bp:=bF Ba.out 0;have Bq:=bF Ba.out 1)|((with_reducible refine gate_callee (f:=16) rfl ?_);refine goesL_ (some 16) rfl rfl Try.func16 (by kernel_rfl) rfl #[.agg #[.slice Ao14 t292.length co14,.int .i64 t295]] rfl (by (try simp only [lM,lC,lN]);first|done|rfl|(simp only [lD,lT];rfl)) ?_;(with_reducible refine (impl_QueueOk.calls k _ _ t292 t295 true _ ?side1 ?side2 A4.out).mono ?_);(case side1=>refine (Kd.R_reads' (e:=40) (base:=w.heap.size) (ok:=fun k_=>True) (n:=t292.length) (c:=co14) ?_).2.2;exact (by (with_reducible repeat (first|apply rA|apply rN|apply rD));exact (rM (rF (p:=⟨Bc,1,none⟩) (rF (p:=⟨Bc,0,none⟩) (rT Bb.out Ba.out (by decide)) (fun _ hk=>hk.2) (.slice Ao14 t292.length co14)) (fun _ hk=>hk.2) (.int .i64 t295)) (fun _ h_=>h_.1))));(case side2=>exact (Kd.R_reads' Bb.out).2.1);rintro e w16 ⟨rfl,hb⟩;refine ⟨_,rfl,?_⟩;have n0_:=Am (rB (by (with_reducible repeat (first|apply rA|apply rN|apply rD));exact (rM (rF (p:=⟨Bc,1,none⟩) (rF (p:=⟨Bc,0,none⟩) (rT Bb.out Ba.out (by decide)) (fun _ hk=>hk.2) (.slice Ao14 t292.length co14)) (fun _ hk=>hk.2) (.int .i64 t295)) (fun _ h_=>h_.1))) hb);have n1_:=Am (bB (g:=Bc) (o:=.cells #[.slice Ao14 t292.length co14,.int .i64 t295] 25 (0,0)) (by (with_reducible repeat (first|refine bN ?_ _|refine bD ?_|refine bA ?_ _));refine blk_put (cs:=#[.slice Ao14 t292.length co14,.int .i64 0]) ?_ 1 _ rfl;(with_reducible repeat (first|refine bN ?_ _|refine bD ?_|refine bA ?_ _));refine blk_put (cs:=#[.slice none 0 0,.int .i64 0]) ?_ 0 _ rfl;(with_reducible repeat (first|refine bN ?_ _|refine bD ?_|refine bA ?_ _));exact Ba.out) hb);have n2_:=Am (bP (by repeat (first|(with_reducible first|exact HB.out|apply oA|apply pN|apply o1|refine bS ?_ Be.out)|exact HB.out)) hb);clear Bb Ba HB;revert n0_ n1_ n2_;intro Bb Ba HB;(try clear hb);(try clear hb2);(try clear hk);(try clear hi);have Br:w16.cell? ⟨Bc,0,none⟩=some (.slice Ao14 t292.length co14):=(bC Ba.out 0).trans rfl;have Bs:w16.cell? ⟨Bc,1,none⟩=some (.int .i64 t295):=(bC Ba.out 1).trans rfl;have Bt:=bF Ba.out 0;have Bu:=bF Ba.out 1)|((with_reducible refine gate_callee (f:=18) rfl ?_);refine goesL_ (some 18) rfl rfl Try.func18 (by kernel_rfl) rfl #[.agg #[.slice Ao14 t292.length co14,.int .i64 t295]] rfl (by (try simp only [lM,lC,lN]);first|done|rfl|(simp only [lD,lT];rfl)) ?_;(with_reducible refine (spec_QueueOk.calls k _ _ t292 t295 t298 _ ?side1 ?side2 A5.out).mono ?_);(case side1=>repeat (first|exact (Kd.R_reads' Bb.out).2.2|(with_reducible refine cA ?_ _)|(with_reducible refine cN ?_ _)|(with_reducible refine cD ?_)));(case side2=>exact (Kd.R_reads' Bb.out).2.1);rintro e w18 ⟨rfl,hb⟩;refine ⟨_,rfl,?_⟩;have n0_:=Am (rB (rL Bb.out) hb);have n1_:=Am (bB (g:=Bc) (o:=.cells #[.slice Ao14 t292.length co14,.int .i64 t295] 25 (0,0)) (bL Ba.out) hb);have n2_:=Am (bP (by repeat (first|(with_reducible first|exact HB.out|apply oA|apply pN|apply o1|refine bS ?_ Be.out)|exact HB.out)) hb);clear Bb Ba HB;revert n0_ n1_ n2_;intro Bb Ba HB;(try clear hb);(try clear hb2);(try clear hk);(try clear hi);have Bv:w18.cell? ⟨Bc,0,none⟩=some (.slice Ao14 t292.length co14):=(bC Ba.out 0).trans rfl;have Bw:w18.cell? ⟨Bc,1,none⟩=some (.int .i64 t295):=(bC Ba.out 1).trans rfl;have Bx:=bF Ba.out 0;have By:=bF Ba.out 1)|((with_reducible refine gate_callee (f:=19) rfl ?_);refine goesL_ (some 26) rfl rfl Try.func19 (by kernel_rfl) rfl #[.agg #[.slice Ao14 t292.length co14,.int .i64 t295],.int .i64 0] rfl (by (try simp only [lM,lC,lN]);first|done|rfl|(simp only [lD,lT];rfl)) ?_;(with_reducible refine (impl_QueueRun.calls k _ _ t292 t295 0 t299 t302 t303 t306 _ ?side1 ?side2 A7.out).mono ?_);(case side1=>repeat (first|exact (Kd.R_reads' Bb.out).2.2|(with_reducible refine cA ?_ _)|(with_reducible refine cN ?_ _)|(with_reducible refine cD ?_)));(case side2=>exact (Kd.R_reads' Bb.out).2.1);rintro e w20 ⟨v300,v304,rfl,ho0,ho1,hb⟩;refine ⟨_,rfl,?_⟩;have n0_:=Am (Kd.R_elder' (rL Bb.out) (Kd.R_base ho0) hb);have n1_:=Am (Kd.R_lower (Kd.R_new' ho0 (Kd.R_lt (rL Bb.out))) (bZ (by repeat (first|(with_reducible first|exact HB.out|apply oA|apply pN|apply o1|refine bS ?_ Be.out)|exact HB.out))));have n2_:=Am (Kd.R_lower ho1 (bZ (by repeat (first|(with_reducible first|exact HB.out|apply oA|apply pN|apply o1|refine bS ?_ Be.out)|exact HB.out))));have n3_:=Am (bB (g:=Bc) (o:=.cells #[.slice Ao14 t292.length co14,.int .i64 t295] 25 (0,0)) (bL Ba.out) hb);have n4_:=Am (bP (by repeat (first|(with_reducible first|exact HB.out|apply oA|apply pN|apply o1|refine bS ?_ Be.out)|exact HB.out)) hb);clear Bb Ba HB;revert n0_ n1_ n2_ n3_ n4_;intro Bb Bg Bh Ba HB;(try clear hb);(try clear hb2);(try clear hk);(try clear hi);(try clear ho0);(try clear ho1))|((with_reducible refine gate_dst (N:=7) rfl ?_);(try (refine gate_guard (by rfl) ?_;dsimp only));refine box_event ?hg (N:=7) ?hd (cs:=#[.slice none 0 0,.int .i64 0]) (t:=25) ?hr ?_;(case hd=>rfl);(case hg=>rfl);(case hr=>first|(go_simp;done)|(go_simp;rfl));intro Bd hg w21 hbox hb;have n0_:=Am (rB (rL Bb.out) hb);have n1_:=Am (rB (rL Bg.out) hb);have n2_:=Am (rB (rL Bh.out) hb);have n3_:=Am (bB (g:=Bc) (o:=.cells #[.slice Ao14 t292.length co14,.int .i64 t295] 25 (0,0)) (bL Ba.out) hb);have n4_:=Am (bP (by repeat (first|(with_reducible first|exact HB.out|apply oA|apply pN|apply o1|refine bS ?_ Be.out)|exact HB.out)) hb);have n5_:=Am (hbox);have n6_:=Am ((by rw [hg];exact (bZ (by repeat (first|(with_reducible first|exact HB.out|apply oA|apply pN|apply o1|refine bS ?_ Be.out)|exact HB.out))):w.heap.size≤Bd));have n7_:=Am ((by rw [hg];exact (bZ (by repeat (first|(with_reducible first|exact HB.out|apply oA|apply pN|apply o1|refine bS ?_ Be.out)|exact HB.out))):w.heap.size≤Bd));have n8_:=Am ((by rw [hg];exact Nat.ne_of_lt (blk_lt (g:=Bc) (o:=.cells #[.slice Ao14 t292.length co14,.int .i64 t295] 25 (0,0)) (bL Ba.out)):Bc≠Bd));have n9_:=Am ((by rw [hg];exact Nat.ne_of_gt (blk_lt (g:=Bc) (o:=.cells #[.slice Ao14 t292.length co14,.int .i64 t295] 25 (0,0)) (bL Ba.out)):Bd≠Bc));clear Bb Bg Bh Ba HB;revert n0_ n1_ n2_ n3_ n4_ n5_ n6_ n7_ n8_ n9_;intro Bb Bg Bh Ba HB Bf Bm Bk Bi Bj;clear hb hbox hg;obtain ⟨Ao22,co22,eo22⟩:=Kd.R_slice Bg.out;subst eo22;have BX:=Bj.out;have BY:=Bi.out;have Bz:w21.cell? ⟨Bd,0,none⟩=some (.slice none 0 0):=(bC Bf.out 0).trans rfl;have BA:w21.cell? ⟨Bd,1,none⟩=some (.int .i64 0):=(bC Bf.out 1).trans rfl;have BB:=bF Bf.out 0;have BC:=bF Bf.out 1;obtain ⟨Ao25,co25,eo25⟩:=Kd.R_slice Bh.out;subst eo25;have BD:w21.cell? ⟨Bc,0,none⟩=some (.slice Ao14 t292.length co14):=(bC Ba.out 0).trans rfl;have BE:w21.cell? ⟨Bc,1,none⟩=some (.int .i64 t295):=(bC Ba.out 1).trans rfl;have BF:=bF Ba.out 0;have BG:=bF Ba.out 1)|(go_at_call 15;(with_reducible refine (laws_qdQueue.calls k _ _ t299 t302 _ _ t292 t295 t308 _ ?side1 ?side2 ?side3 ?side4 A11.out).mono ?_);(case side1=>refine (Kd.R_reads' (e:=40) (base:=w.heap.size) (ok:=fun k_=>(True∧some k_≠(.slice Ao14 t292.length co14:Value).ownBlock)) (n:=t299.length) (c:=co22) ?_).2.2;exact (by (with_reducible repeat (first|apply rA|apply rN|apply rD));exact (rM (rF (p:=⟨Bd,1,none⟩) (rF (p:=⟨Bd,0,none⟩) (rT Bg.out Bf.out (by decide)) (fun _ hk=>hk.2) (.slice Ao22 t299.length co22)) (fun _ hk=>hk.2) (.int .i64 t302)) (fun _ h_=>h_.1))));(case side2=>exact (Kd.R_reads' Bg.out).2.1);(case side3=>refine (Kd.R_reads' (e:=40) (base:=w.heap.size) (ok:=fun k_=>(True∧some k_≠(.slice Ao22 t299.length co22:Value).ownBlock)) (n:=t292.length) (c:=co14) ?_).2.2;exact (by (with_reducible repeat (first|apply rA|apply rN|apply rD));exact (rM (rF (p:=⟨Bd,1,none⟩) (rF (p:=⟨Bd,0,none⟩) (rT Bb.out Bf.out (by decide)) (fun _ hk=>hk.2) (.slice Ao22 t299.length co22)) (fun _ hk=>hk.2) (.int .i64 t302)) (fun _ h_=>h_.1))));(case side4=>exact (Kd.R_reads' Bb.out).2.1);rintro e w27 ⟨rfl,hb⟩;have n0_:=Am (rB (by (with_reducible repeat (first|apply rA|apply rN|apply rD));exact (rM (rF (p:=⟨Bd,1,none⟩) (rF (p:=⟨Bd,0,none⟩) (rT Bb.out Bf.out (by decide)) (fun _ hk=>hk.2) (.slice Ao22 t299.length co22)) (fun _ hk=>hk.2) (.int .i64 t302)) (fun _ h_=>h_.1))) hb);have n1_:=Am (rB (by (with_reducible repeat (first|apply rA|apply rN|apply rD));exact (rM (rF (p:=⟨Bd,1,none⟩) (rF (p:=⟨Bd,0,none⟩) (rT Bg.out Bf.out (by decide)) (fun _ hk=>hk.2) (.slice Ao22 t299.length co22)) (fun _ hk=>hk.2) (.int .i64 t302)) (fun _ h_=>h_.1))) hb);have n2_:=Am (rB (by (with_reducible repeat (first|apply rA|apply rN|apply rD));exact (rM (rF (p:=⟨Bd,1,none⟩) (rF (p:=⟨Bd,0,none⟩) (rT Bh.out Bf.out (by decide)) (fun _ hk=>hk.2) (.slice Ao22 t299.length co22)) (fun _ hk=>hk.2) (.int .i64 t302)) (fun _ h_=>h_.1))) hb);have n3_:=Am (bB (g:=Bc) (o:=.cells #[.slice Ao14 t292.length co14,.int .i64 t295] 25 (0,0)) (by (with_reducible repeat (first|refine bN ?_ _|refine bD ?_|refine bA ?_ _|refine blk_far ?_ Bi.out _));exact Ba.out) hb);have n4_:=Am (bB (g:=Bd) (o:=.cells #[.slice Ao22 t299.length co22,.int .i64 t302] 25 (0,0)) (by (with_reducible repeat (first|refine bN ?_ _|refine bD ?_|refine bA ?_ _));refine blk_put (cs:=#[.slice Ao22 t299.length co22,.int .i64 0]) ?_ 1 _ rfl;(with_reducible repeat (first|refine bN ?_ _|refine bD ?_|refine bA ?_ _));refine blk_put (cs:=#[.slice none 0 0,.int .i64 0]) ?_ 0 _ rfl;(with_reducible repeat (first|refine bN ?_ _|refine bD ?_|refine bA ?_ _));exact Bf.out) hb);have n5_:=Am (bP (by repeat (first|(with_reducible first|exact HB.out|apply oA|apply pN|apply o1|refine bS ?_ Be.out|refine bS ?_ Bk.out)|exact HB.out)) hb);clear Bb Bg Bh Ba Bf HB;revert n0_ n1_ n2_ n3_ n4_ n5_;intro Bb Bg Bh Ba Bf HB;(try clear hb);(try clear hb2);(try clear hk);(try clear hi)))
 go_ret
 exact ⟨by first|rfl|(simp [errW_none,errW_some] <;> rfl)|(simp [*,errW_none,errW_some] <;> rfl),by repeat (first|(with_reducible first|exact HB.out|apply oA|apply pN|apply o1|refine bS ?_ Be.out|refine bS ?_ Bk.out)|exact HB.out)⟩
/-- THE ONE PURE STATEMENT of laws_FnQueueOk: yours. -/
def laws_FnQueueOk.Pure:Prop:=∀ (l0:List Int),l0.length≤maxLen → l0.length * 1≤140737488351232 → (∀ x ∈ l0,(Lit.int .u8 x).wf=true) → ∃ k,laws_FnQueueOk.f k l0=some true
theorem laws_FnQueueOk.walk (P:laws_FnQueueOk.Pure) (a0:Option Addr) (len0 cap0:Nat) (z0:List Int) (w:World) (w0:(a0=none∧len0=0∧cap0=0∧z0=[])∨∃ x,a0=some x∧len0≤cap0∧cap0≤maxLen∧z0.length=cap0∧(∀ i,i<z0.length → w.cell? (x.add i)=some (.int .u8 (z0.getD i 0)))∧∀ n ∈ z0,(Lit.int .u8 n).wf=true) (y0:len0 * 1≤140737488351232) :
  Calls Try.prog 4 #[.slice a0 len0 cap0] w fun e w'=>e=.returned (.bool true)∧Below w.heap.size w w':=by
 obtain ⟨l0,rfl,hr0,hm0,hw0,hc0⟩:=ReadsInt.ofRowC w0
 obtain ⟨k,h⟩:=P l0 hm0 y0 hw0
 refine (laws_FnQueueOk.calls k _ _ l0 true w (Kd.C_of_reads (d:=(0:Int)) (h1:=fun _=>rfl) hr0) hc0 h ⟨rfl⟩).mono ?_
 rintro e w' ⟨rfl,hd⟩
 exact ⟨rfl,hd⟩

end Go.Proofs.Ytfhcgmfodfcpeaa.PFnQueueOk
