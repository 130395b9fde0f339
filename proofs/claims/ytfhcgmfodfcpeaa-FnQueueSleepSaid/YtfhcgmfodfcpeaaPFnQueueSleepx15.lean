/- Proved here, without a condition beyond those that each theorem states: what the Go functions named below do is what the plain functions of the same names say. Written by xprint.py, a program of this session. -/
import Derived.Test.YtfhcgmfodfcpeaaPFnQueueSleepx0
import Derived.Test.YtfhcgmfodfcpeaaPFnQueueSleepx2
import Derived.Test.YtfhcgmfodfcpeaaPFnQueueSleepx3
import Derived.Test.YtfhcgmfodfcpeaaPFnQueueSleepx4
import Derived.Test.YtfhcgmfodfcpeaaPFnQueueSleepx11
import Derived.Test.YtfhcgmfodfcpeaaPFnQueueSleepx12
import Derived.Test.YtfhcgmfodfcpeaaPFnQueueSleepx14
namespace Go.Proofs.Ytfhcgmfodfcpeaa.PFnQueueSleep
open Go.RowKit Go.Proofs.YtfhcgmfodfcpeaaW.PrintWords Go.Proofs.YtfhcgmfodfcpeaaW.PrintLast Go.Proofs.YtfhcgmfodfcpeaaW.PrintMore
attribute [local go_sem] max2_int min2_int max_two min_two max_three min_three max_four min_four   -- for this text's walks alone
set_option linter.unusedVariables false
set_option linter.unusedSimpArgs false

attribute [local go_sem ↓] isSome_setCell_
/-! ### laws_FnQueueSleep: function 6 -/
mutual
def laws_FnQueueSleep.j0 : Nat → Int → Bool → Bool → List (S40) → Int → List (S40) → Int → Option (Bool)
|0, _, _, _, _, _, _, _ => none
|k + 1, x4, x6, x9, x293000, x293001, x299000, x299001 => if x9 = true then (laws_FnQueueSleep.j1 k x4 x9 (!x6) x293000 x293001 x299000 x299001) else (laws_FnQueueSleep.j1 k x4 x9 true x293000 x293001 x299000 x299001)
def laws_FnQueueSleep.j1 : Nat → Int → Bool → Bool → List (S40) → Int → List (S40) → Int → Option (Bool)
|0, _, _, _, _, _, _, _ => none
|k + 1, x4, x9, x43, x293000, x293001, x299000, x299001 => if x43 = true then (some x9) else ((impl_QueueOk.f k x299000 x299001).bind fun t306 => (if t306 = true then ((impl_QueueNext.f k x299000 x299001).bind fun t307 => (if t307 = x4 then (some false) else (some (x299001 == x293001)))) else (some false)))
end
def laws_FnQueueSleep.f (k : Nat) (l0 : List Int) : Option (Bool) := if (l0.length : Int) > 1048576 then (some true) else ((spec_DrawQueueSleep.f k l0).bind fun bt287 => ((impl_QueueSleep.f k bt287.1 bt287.2.1 bt287.2.2).bind fun bt293 => ((spec_QueueSleep.f k bt287.1 bt287.2.1 bt287.2.2).bind fun bt299 => ((laws_qdQueue.f k bt293.1 bt293.2.1 bt299.1 bt299.2.1).bind fun t305 => (if t305 = true then (laws_FnQueueSleep.j0 k bt287.2.2 bt293.2.2 (bt293.2.2 == bt299.2.2) bt287.1 bt287.2.1 bt293.1 bt293.2.1) else (laws_FnQueueSleep.j0 k bt287.2.2 bt293.2.2 false bt287.1 bt287.2.1 bt293.1 bt293.2.1))))))
theorem laws_FnQueueSleep.mono_l : ∀ k, (∀ y0 y1 y2 y3 y4 y5 y6, LeO (laws_FnQueueSleep.j0 k y0 y1 y2 y3 y4 y5 y6) (laws_FnQueueSleep.j0 (k + 1) y0 y1 y2 y3 y4 y5 y6)) ∧ (∀ y0 y1 y2 y3 y4 y5 y6, LeO (laws_FnQueueSleep.j1 k y0 y1 y2 y3 y4 y5 y6) (laws_FnQueueSleep.j1 (k + 1) y0 y1 y2 y3 y4 y5 y6))
|0 => ⟨fun _ _ _ _ _ _ _ r h => by simp [laws_FnQueueSleep.j0] at h, fun _ _ _ _ _ _ _ r h => by simp [laws_FnQueueSleep.j1] at h⟩
|k + 1 => by
  obtain ⟨ih0, ih1⟩ := laws_FnQueueSleep.mono_l k
  refine ⟨?_, ?_⟩
  ·intro y0 y1 y2 y3 y4 y5 y6
   unfold laws_FnQueueSleep.j0
   repeat' first
  |(with_reducible exact ih0 _ _ _ _ _ _ _)
  |(with_reducible exact ih1 _ _ _ _ _ _ _)
  |(with_reducible exact impl_QueueNext.mono _ _ _)
  |(with_reducible exact impl_QueueOk.mono _ _ _)
  |(with_reducible exact impl_QueueSleep.mono _ _ _ _)
  |(with_reducible exact laws_qdQueue.mono _ _ _ _ _)
  |(with_reducible exact spec_DrawQueueSleep.mono _ _)
  |(with_reducible exact spec_QueueSleep.mono _ _ _ _)
  |(with_reducible exact LeO.refl _)
  |(with_reducible exact LeO.none _)
  |(with_reducible refine LeO.ite ?_ ?_)
  |(with_reducible refine LeO.bind ?_ (fun _ => ?_))
  |exact ih0 _ _ _ _ _ _ _
  |exact ih1 _ _ _ _ _ _ _
  |exact impl_QueueNext.mono _ _ _
  |exact impl_QueueOk.mono _ _ _
  |exact impl_QueueSleep.mono _ _ _ _
  |exact laws_qdQueue.mono _ _ _ _ _
  |exact spec_DrawQueueSleep.mono _ _
  |exact spec_QueueSleep.mono _ _ _ _
  |exact LeO.none _
  |refine LeO.ite ?_ ?_
  |refine LeO.bind ?_ (fun _ => ?_)
  ·intro y0 y1 y2 y3 y4 y5 y6
   unfold laws_FnQueueSleep.j1
   repeat' first
  |(with_reducible exact ih0 _ _ _ _ _ _ _)
  |(with_reducible exact ih1 _ _ _ _ _ _ _)
  |(with_reducible exact impl_QueueNext.mono _ _ _)
  |(with_reducible exact impl_QueueOk.mono _ _ _)
  |(with_reducible exact impl_QueueSleep.mono _ _ _ _)
  |(with_reducible exact laws_qdQueue.mono _ _ _ _ _)
  |(with_reducible exact spec_DrawQueueSleep.mono _ _)
  |(with_reducible exact spec_QueueSleep.mono _ _ _ _)
  |(with_reducible exact LeO.refl _)
  |(with_reducible exact LeO.none _)
  |(with_reducible refine LeO.ite ?_ ?_)
  |(with_reducible refine LeO.bind ?_ (fun _ => ?_))
  |exact ih0 _ _ _ _ _ _ _
  |exact ih1 _ _ _ _ _ _ _
  |exact impl_QueueNext.mono _ _ _
  |exact impl_QueueOk.mono _ _ _
  |exact impl_QueueSleep.mono _ _ _ _
  |exact laws_qdQueue.mono _ _ _ _ _
  |exact spec_DrawQueueSleep.mono _ _
  |exact spec_QueueSleep.mono _ _ _ _
  |exact LeO.none _
  |refine LeO.ite ?_ ?_
  |refine LeO.bind ?_ (fun _ => ?_)
theorem laws_FnQueueSleep.mono : ∀ a0 k, LeO (laws_FnQueueSleep.f k a0) (laws_FnQueueSleep.f (k + 1) a0) := by
 intro a0 k
 obtain ⟨ih0, ih1⟩ := laws_FnQueueSleep.mono_l k
 unfold laws_FnQueueSleep.f
 repeat' first
  |(with_reducible exact ih0 _ _ _ _ _ _ _)
  |(with_reducible exact ih1 _ _ _ _ _ _ _)
  |(with_reducible exact impl_QueueNext.mono _ _ _)
  |(with_reducible exact impl_QueueOk.mono _ _ _)
  |(with_reducible exact impl_QueueSleep.mono _ _ _ _)
  |(with_reducible exact laws_qdQueue.mono _ _ _ _ _)
  |(with_reducible exact spec_DrawQueueSleep.mono _ _)
  |(with_reducible exact spec_QueueSleep.mono _ _ _ _)
  |(with_reducible exact LeO.refl _)
  |(with_reducible exact LeO.none _)
  |(with_reducible refine LeO.ite ?_ ?_)
  |(with_reducible refine LeO.bind ?_ (fun _ => ?_))
  |exact ih0 _ _ _ _ _ _ _
  |exact ih1 _ _ _ _ _ _ _
  |exact impl_QueueNext.mono _ _ _
  |exact impl_QueueOk.mono _ _ _
  |exact impl_QueueSleep.mono _ _ _ _
  |exact laws_qdQueue.mono _ _ _ _ _
  |exact spec_DrawQueueSleep.mono _ _
  |exact spec_QueueSleep.mono _ _ _ _
  |exact LeO.none _
  |refine LeO.ite ?_ ?_
  |refine LeO.bind ?_ (fun _ => ?_)
set_option maxHeartbeats 2000000 in
set_option maxRecDepth 100000 in
theorem laws_FnQueueSleep.calls (k:Nat) (A0:Option Addr) (c0:Nat) (l0:List Int) (r:Bool) (w:World) (hr0:Kd.C (Kd.int .u8) w A0 l0.length l0) (hc0:l0.length≤c0) (h:laws_FnQueueSleep.f k l0=some r) (hT_:Aside0 (r=true)) :
  Calls Try.prog 6 #[.slice A0 l0.length c0] w fun e w'=>e=.returned (.bool r)∧Below w.heap.size w w':=by
 have hu25:=Try.underlying25
 have HR0:=Am hr0
 have HC0:=Am hc0
 clear hr0 hc0
 have HB:=Am (Below.refl w.heap.size w)
 have H:(if (l0.length:Int) > 1048576 then (some true) else ((spec_DrawQueueSleep.f k l0).bind fun bt287=>((impl_QueueSleep.f k bt287.1 bt287.2.1 bt287.2.2).bind fun bt293=>((spec_QueueSleep.f k bt287.1 bt287.2.1 bt287.2.2).bind fun bt299=>((laws_qdQueue.f k bt293.1 bt293.2.1 bt299.1 bt299.2.1).bind fun t305=>(if t305=true then (laws_FnQueueSleep.j0 k bt287.2.2 bt293.2.2 (bt293.2.2 == bt299.2.2) bt287.1 bt287.2.1 bt293.1 bt293.2.1) else (laws_FnQueueSleep.j0 k bt287.2.2 bt293.2.2 false bt287.1 bt287.2.1 bt293.1 bt293.2.1)))))))=some r:=h
 clear h
 by_cases c2:(l0.length:Int) > 1048576
 ·rw [if_pos c2] at H
  have c2b0:decide (1048576<(l0.length:Int))=true:=decide_eq_true c2
  have c2b1:decide (1048576<l0.length)=true:=decide_eq_true (by omega)
  clear c2
  obtain rfl:=Option.some.inj H
  go_enter Try.func6,Try.ntmps6
  go_wp2
  go_ret
  exact ⟨by first|rfl|(simp [errW_none,errW_some] <;> rfl)|(simp [*,errW_none,errW_some] <;> rfl),by repeat (first|(with_reducible first|exact HB.out|apply oA|apply pN|apply o1)|exact HB.out)⟩
 rw [if_neg c2] at H
 have c2b0:decide (1048576<(l0.length:Int))=false:=decide_eq_false c2
 have c2b1:decide (1048576<l0.length)=false:=decide_eq_false (by omega)
 clear c2
 replace H:=oC H
 obtain ⟨⟨t287,t290,t291⟩,A30,H⟩:=H
 replace H:((impl_QueueSleep.f k t287 t290 t291).bind fun bt293=>((spec_QueueSleep.f k t287 t290 t291).bind fun bt299=>((laws_qdQueue.f k bt293.1 bt293.2.1 bt299.1 bt299.2.1).bind fun t305=>(if t305=true then (laws_FnQueueSleep.j0 k t291 bt293.2.2 (bt293.2.2 == bt299.2.2) t287 t290 bt293.1 bt293.2.1) else (laws_FnQueueSleep.j0 k t291 bt293.2.2 false t287 t290 bt293.1 bt293.2.1)))))=some r:=H
 have A3:=Am A30
 clear A30
 replace H:=oC H
 obtain ⟨⟨t293,t296,t297⟩,A40,H⟩:=H
 replace H:((spec_QueueSleep.f k t287 t290 t291).bind fun bt299=>((laws_qdQueue.f k t293 t296 bt299.1 bt299.2.1).bind fun t305=>(if t305=true then (laws_FnQueueSleep.j0 k t291 t297 (t297 == bt299.2.2) t287 t290 t293 t296) else (laws_FnQueueSleep.j0 k t291 t297 false t287 t290 t293 t296))))=some r:=H
 have A4:=Am A40
 clear A40
 replace H:=oC H
 obtain ⟨⟨t299,t302,t303⟩,A50,H⟩:=H
 replace H:((laws_qdQueue.f k t293 t296 t299 t302).bind fun t305=>(if t305=true then (laws_FnQueueSleep.j0 k t291 t297 (t297 == t303) t287 t290 t293 t296) else (laws_FnQueueSleep.j0 k t291 t297 false t287 t290 t293 t296)))=some r:=H
 have A5:=Am A50
 clear A50
 have HC6:=Am H
 clear H
 go_enter Try.func6,Try.ntmps6
 go_upto_region 6 with (first|((with_reducible refine gate_callee (f:=24) rfl ?_);refine goesL_ (some 15) rfl rfl Try.func24 (by kernel_rfl) rfl #[.slice A0 l0.length c0] rfl (by (try simp only [lM,lC,lN]);first|done|rfl|(simp only [lD,lT];rfl)) ?_;(with_reducible refine (spec_DrawQueueSleep.calls k _ _ l0 t287 t290 t291 _ ?side1 ?side2 A3.out).mono ?_);(case side1=>repeat (first|exact HR0.out|(with_reducible refine cA ?_ _)|(with_reducible refine cN ?_ _)|(with_reducible refine cD ?_)));(case side2=>exact HC0.out);rintro e w7 ⟨v288,rfl,ho0,hb⟩;refine ⟨_,rfl,?_⟩;have n0_:=Am (Kd.R_lower ho0 (bZ (by repeat (first|(with_reducible first|exact HB.out|apply oA|apply pN|apply o1)|exact HB.out))));have n1_:=Am (bP (by repeat (first|(with_reducible first|exact HB.out|apply oA|apply pN|apply o1)|exact HB.out)) hb);clear HB;revert n0_ n1_;intro Bg HB;(try clear hb);(try clear hb2);(try clear hk);(try clear hi);(try clear ho0))|((with_reducible refine gate_dst (N:=3) rfl ?_);refine box_event ?hg (N:=3) ?hd (cs:=#[.slice none 0 0,.int .i64 0]) (t:=25) ?hr ?_;(case hd=>rfl);(case hg=>rfl);(case hr=>first|(go_simp;done)|(go_simp;rfl));intro Bf hg w8 hbox hb;have n0_:=Am (rB (rL Bg.out) hb);have n1_:=Am (bP (by repeat (first|(with_reducible first|exact HB.out|apply oA|apply pN|apply o1)|exact HB.out)) hb);have n2_:=Am (hbox);have n3_:=Am ((by rw [hg];exact (bZ (by repeat (first|(with_reducible first|exact HB.out|apply oA|apply pN|apply o1)|exact HB.out))):w.heap.size≤Bf));have n4_:=Am ((by rw [hg];exact (bZ (by repeat (first|(with_reducible first|exact HB.out|apply oA|apply pN|apply o1)|exact HB.out))):w.heap.size≤Bf));clear Bg HB;revert n0_ n1_ n2_ n3_ n4_;intro Bg HB Bb Di Bj;clear hb hbox hg;obtain ⟨Ao9,co9,eo9⟩:=Kd.R_slice Bg.out;subst eo9;have Bv:w8.cell? ⟨Bf,0,none⟩=some (.slice none 0 0):=(bC Bb.out 0).trans rfl;have Bw:w8.cell? ⟨Bf,1,none⟩=some (.int .i64 0):=(bC Bb.out 1).trans rfl;have Bx:=bF Bb.out 0;have By:=bF Bb.out 1)|((with_reducible refine gate_callee (f:=25) rfl ?_);refine goesL_ (some 21) rfl rfl Try.func25 (by kernel_rfl) rfl #[.agg #[.slice Ao9 t287.length co9,.int .i64 t290],.int .i64 t291] rfl (by (try simp only [lM,lC,lN]);first|done|rfl|(simp only [lD,lT];rfl)) ?_;(with_reducible refine (impl_QueueSleep.calls k _ _ t287 t290 t291 t293 t296 t297 _ ?side1 ?side2 A4.out).mono ?_);(case side1=>refine (Kd.R_reads' (e:=40) (base:=w.heap.size) (ok:=fun k_=>True) (n:=t287.length) (c:=co9) ?_).2.2;exact (by (with_reducible repeat (first|apply rA|apply rN|apply rD));exact (rM (rF (p:=⟨Bf,1,none⟩) (rF (p:=⟨Bf,0,none⟩) (rT Bg.out Bb.out (by decide)) (fun _ hk=>hk.2) (.slice Ao9 t287.length co9)) (fun _ hk=>hk.2) (.int .i64 t290)) (fun _ h_=>h_.1))));(case side2=>exact (Kd.R_reads' Bg.out).2.1);rintro e w11 ⟨v294,rfl,ho0,hb⟩;refine ⟨_,rfl,?_⟩;have n0_:=Am (Kd.R_elder' (by (with_reducible repeat (first|apply rA|apply rN|apply rD));exact (rM (rF (p:=⟨Bf,1,none⟩) (rF (p:=⟨Bf,0,none⟩) (rT Bg.out Bb.out (by decide)) (fun _ hk=>hk.2) (.slice Ao9 t287.length co9)) (fun _ hk=>hk.2) (.int .i64 t290)) (fun _ h_=>h_.1))) (Kd.R_base ho0) hb);have n1_:=Am (Kd.R_lower (Kd.R_new' ho0 (Kd.R_lt (by (with_reducible repeat (first|apply rA|apply rN|apply rD));exact (rM (rF (p:=⟨Bf,1,none⟩) (rF (p:=⟨Bf,0,none⟩) (rT Bg.out Bb.out (by decide)) (fun _ hk=>hk.2) (.slice Ao9 t287.length co9)) (fun _ hk=>hk.2) (.int .i64 t290)) (fun _ h_=>h_.1))))) (bZ (by repeat (first|(with_reducible first|exact HB.out|apply oA|apply pN|apply o1|refine bS ?_ Bj.out)|exact HB.out))));have n2_:=Am (bB (g:=Bf) (o:=.cells #[.slice Ao9 t287.length co9,.int .i64 t290] 25 (0,0)) (by (with_reducible repeat (first|refine bN ?_ _|refine bD ?_|refine bA ?_ _));refine blk_put (cs:=#[.slice Ao9 t287.length co9,.int .i64 0]) ?_ 1 _ rfl;(with_reducible repeat (first|refine bN ?_ _|refine bD ?_|refine bA ?_ _));refine blk_put (cs:=#[.slice none 0 0,.int .i64 0]) ?_ 0 _ rfl;(with_reducible repeat (first|refine bN ?_ _|refine bD ?_|refine bA ?_ _));exact Bb.out) hb);have n3_:=Am (bP (by repeat (first|(with_reducible first|exact HB.out|apply oA|apply pN|apply o1|refine bS ?_ Bj.out)|exact HB.out)) hb);clear Bg Bb HB;revert n0_ n1_ n2_ n3_;intro Bg Bi Bb HB;(try clear hb);(try clear hb2);(try clear hk);(try clear hi);(try clear ho0))|((with_reducible refine gate_dst (N:=5) rfl ?_);refine box_event ?hg (N:=5) ?hd (cs:=#[.slice none 0 0,.int .i64 0]) (t:=25) ?hr ?_;(case hd=>rfl);(case hg=>rfl);(case hr=>first|(go_simp;done)|(go_simp;rfl));intro Bd hg w12 hbox hb;have n0_:=Am (rB (rL Bg.out) hb);have n1_:=Am (rB (rL Bi.out) hb);have n2_:=Am (bB (g:=Bf) (o:=.cells #[.slice Ao9 t287.length co9,.int .i64 t290] 25 (0,0)) (bL Bb.out) hb);have n3_:=Am (bP (by repeat (first|(with_reducible first|exact HB.out|apply oA|apply pN|apply o1|refine bS ?_ Bj.out)|exact HB.out)) hb);have n4_:=Am (hbox);have n5_:=Am ((by rw [hg];exact (bZ (by repeat (first|(with_reducible first|exact HB.out|apply oA|apply pN|apply o1|refine bS ?_ Bj.out)|exact HB.out))):w.heap.size≤Bd));have n6_:=Am ((by rw [hg];exact (bZ (by repeat (first|(with_reducible first|exact HB.out|apply oA|apply pN|apply o1|refine bS ?_ Bj.out)|exact HB.out))):w.heap.size≤Bd));have n7_:=Am ((by rw [hg];exact Nat.ne_of_lt (blk_lt (g:=Bf) (o:=.cells #[.slice Ao9 t287.length co9,.int .i64 t290] 25 (0,0)) (bL Bb.out)):Bf≠Bd));have n8_:=Am ((by rw [hg];exact Nat.ne_of_gt (blk_lt (g:=Bf) (o:=.cells #[.slice Ao9 t287.length co9,.int .i64 t290] 25 (0,0)) (bL Bb.out)):Bd≠Bf));clear Bg Bi Bb HB;revert n0_ n1_ n2_ n3_ n4_ n5_ n6_ n7_ n8_;intro Bg Bi Bb HB Ba Dj Bn Br Bs;clear hb hbox hg;obtain ⟨Ao13,co13,eo13⟩:=Kd.R_slice Bi.out;subst eo13;have Dk:=Bs.out;have Dl:=Br.out;have Bz:w12.cell? ⟨Bd,0,none⟩=some (.slice none 0 0):=(bC Ba.out 0).trans rfl;have BA:w12.cell? ⟨Bd,1,none⟩=some (.int .i64 0):=(bC Ba.out 1).trans rfl;have BB:=bF Ba.out 0;have BC:=bF Ba.out 1;have BD:w12.cell? ⟨Bf,0,none⟩=some (.slice Ao9 t287.length co9):=(bC Bb.out 0).trans rfl;have BE:w12.cell? ⟨Bf,1,none⟩=some (.int .i64 t290):=(bC Bb.out 1).trans rfl;have BF:=bF Bb.out 0;have BG:=bF Bb.out 1)|((with_reducible refine gate_callee (f:=26) rfl ?_);refine goesL_ (some 27) rfl rfl Try.func26 (by kernel_rfl) rfl #[.agg #[.slice Ao9 t287.length co9,.int .i64 t290],.int .i64 t291] rfl (by (try simp only [lM,lC,lN]);first|done|rfl|(simp only [lD,lT];rfl)) ?_;(with_reducible refine (spec_QueueSleep.calls k _ _ t287 t290 t291 t299 t302 t303 _ ?side1 ?side2 A5.out).mono ?_);(case side1=>refine (Kd.R_reads' (e:=40) (base:=w.heap.size) (ok:=fun k_=>(True∧some k_≠(.slice Ao13 t293.length co13:Value).ownBlock)) (n:=t287.length) (c:=co9) ?_).2.2;exact (by (with_reducible repeat (first|apply rA|apply rN|apply rD));exact (rM (rF (p:=⟨Bd,1,none⟩) (rF (p:=⟨Bd,0,none⟩) (rT Bg.out Ba.out (by decide)) (fun _ hk=>hk.2) (.slice Ao13 t293.length co13)) (fun _ hk=>hk.2) (.int .i64 t296)) (fun _ h_=>h_.1))));(case side2=>exact (Kd.R_reads' Bg.out).2.1);rintro e w17 ⟨v300,rfl,ho0,hb⟩;refine ⟨_,rfl,?_⟩;have n0_:=Am (Kd.R_elder' (by (with_reducible repeat (first|apply rA|apply rN|apply rD));exact (rM (rF (p:=⟨Bd,1,none⟩) (rF (p:=⟨Bd,0,none⟩) (rT Bg.out Ba.out (by decide)) (fun _ hk=>hk.2) (.slice Ao13 t293.length co13)) (fun _ hk=>hk.2) (.int .i64 t296)) (fun _ h_=>h_.1))) (Kd.R_base ho0) hb);have n1_:=Am (Kd.R_elder' (by (with_reducible repeat (first|apply rA|apply rN|apply rD));exact (rM (rF (p:=⟨Bd,1,none⟩) (rF (p:=⟨Bd,0,none⟩) (rT Bi.out Ba.out (by decide)) (fun _ hk=>hk.2) (.slice Ao13 t293.length co13)) (fun _ hk=>hk.2) (.int .i64 t296)) (fun _ h_=>h_.1))) (Kd.R_base ho0) hb);have n2_:=Am (Kd.R_lower (Kd.R_new' (Kd.R_new' ho0 (Kd.R_lt (by (with_reducible repeat (first|apply rA|apply rN|apply rD));exact (rM (rF (p:=⟨Bd,1,none⟩) (rF (p:=⟨Bd,0,none⟩) (rT Bg.out Ba.out (by decide)) (fun _ hk=>hk.2) (.slice Ao13 t293.length co13)) (fun _ hk=>hk.2) (.int .i64 t296)) (fun _ h_=>h_.1))))) (Kd.R_lt (by (with_reducible repeat (first|apply rA|apply rN|apply rD));exact (rM (rF (p:=⟨Bd,1,none⟩) (rF (p:=⟨Bd,0,none⟩) (rT Bi.out Ba.out (by decide)) (fun _ hk=>hk.2) (.slice Ao13 t293.length co13)) (fun _ hk=>hk.2) (.int .i64 t296)) (fun _ h_=>h_.1))))) (bZ (by repeat (first|(with_reducible first|exact HB.out|apply oA|apply pN|apply o1|refine bS ?_ Bj.out|refine bS ?_ Bn.out)|exact HB.out))));have n3_:=Am (bB (g:=Bf) (o:=.cells #[.slice Ao9 t287.length co9,.int .i64 t290] 25 (0,0)) (by (with_reducible repeat (first|refine bN ?_ _|refine bD ?_|refine bA ?_ _|refine blk_far ?_ Br.out _));exact Bb.out) hb);have n4_:=Am (bB (g:=Bd) (o:=.cells #[.slice Ao13 t293.length co13,.int .i64 t296] 25 (0,0)) (by (with_reducible repeat (first|refine bN ?_ _|refine bD ?_|refine bA ?_ _));refine blk_put (cs:=#[.slice Ao13 t293.length co13,.int .i64 0]) ?_ 1 _ rfl;(with_reducible repeat (first|refine bN ?_ _|refine bD ?_|refine bA ?_ _));refine blk_put (cs:=#[.slice none 0 0,.int .i64 0]) ?_ 0 _ rfl;(with_reducible repeat (first|refine bN ?_ _|refine bD ?_|refine bA ?_ _));exact Ba.out) hb);have n5_:=Am (bP (by repeat (first|(with_reducible first|exact HB.out|apply oA|apply pN|apply o1|refine bS ?_ Bj.out|refine bS ?_ Bn.out)|exact HB.out)) hb);clear Bg Bi Bb Ba HB;revert n0_ n1_ n2_ n3_ n4_ n5_;intro Bg Bi Bm Bb Ba HB;(try clear hb);(try clear hb2);(try clear hk);(try clear hi);(try clear ho0))|((with_reducible refine gate_dst (N:=7) rfl ?_);refine box_event ?hg (N:=7) ?hd (cs:=#[.slice none 0 0,.int .i64 0]) (t:=25) ?hr ?_;(case hd=>rfl);(case hg=>rfl);(case hr=>first|(go_simp;done)|(go_simp;rfl));intro Be hg w18 hbox hb;have n0_:=Am (rB (rL Bg.out) hb);have n1_:=Am (rB (rL Bi.out) hb);have n2_:=Am (rB (rL Bm.out) hb);have n3_:=Am (bB (g:=Bf) (o:=.cells #[.slice Ao9 t287.length co9,.int .i64 t290] 25 (0,0)) (bL Bb.out) hb);have n4_:=Am (bB (g:=Bd) (o:=.cells #[.slice Ao13 t293.length co13,.int .i64 t296] 25 (0,0)) (bL Ba.out) hb);have n5_:=Am (bP (by repeat (first|(with_reducible first|exact HB.out|apply oA|apply pN|apply o1|refine bS ?_ Bj.out|refine bS ?_ Bn.out)|exact HB.out)) hb);have n6_:=Am (hbox);have n7_:=Am ((by rw [hg];exact (bZ (by repeat (first|(with_reducible first|exact HB.out|apply oA|apply pN|apply o1|refine bS ?_ Bj.out|refine bS ?_ Bn.out)|exact HB.out))):w.heap.size≤Be));have n8_:=Am ((by rw [hg];exact (bZ (by repeat (first|(with_reducible first|exact HB.out|apply oA|apply pN|apply o1|refine bS ?_ Bj.out|refine bS ?_ Bn.out)|exact HB.out))):w.heap.size≤Be));have n9_:=Am ((by rw [hg];exact Nat.ne_of_lt (blk_lt (g:=Bf) (o:=.cells #[.slice Ao9 t287.length co9,.int .i64 t290] 25 (0,0)) (bL Bb.out)):Bf≠Be));have n10_:=Am ((by rw [hg];exact Nat.ne_of_gt (blk_lt (g:=Bf) (o:=.cells #[.slice Ao9 t287.length co9,.int .i64 t290] 25 (0,0)) (bL Bb.out)):Be≠Bf));have n11_:=Am ((by rw [hg];exact Nat.ne_of_lt (blk_lt (g:=Bd) (o:=.cells #[.slice Ao13 t293.length co13,.int .i64 t296] 25 (0,0)) (bL Ba.out)):Bd≠Be));have n12_:=Am ((by rw [hg];exact Nat.ne_of_gt (blk_lt (g:=Bd) (o:=.cells #[.slice Ao13 t293.length co13,.int .i64 t296] 25 (0,0)) (bL Ba.out)):Be≠Bd));clear Bg Bi Bm Bb Ba HB;revert n0_ n1_ n2_ n3_ n4_ n5_ n6_ n7_ n8_ n9_ n10_ n11_ n12_;intro Bg Bi Bm Bb Ba HB Bc Dm Bq Bo Bt Bp Bu;clear hb hbox hg;obtain ⟨Ao19,co19,eo19⟩:=Kd.R_slice Bm.out;subst eo19;have Dn:=Bt.out;have Do:=Bo.out;have Dp:=Bu.out;have Dq:=Bp.out;have BH:w18.cell? ⟨Be,0,none⟩=some (.slice none 0 0):=(bC Bc.out 0).trans rfl;have BI:w18.cell? ⟨Be,1,none⟩=some (.int .i64 0):=(bC Bc.out 1).trans rfl;have BJ:=bF Bc.out 0;have BK:=bF Bc.out 1))
 (try simp only [Act.put,lA,lZ,lS])
 go_cut [9] (fun v9 wc=>∃ (kq:Nat) (x9_5:Bool),v9=.bool x9_5∧Aside0 (laws_FnQueueSleep.j0 kq t291 t297 x9_5 t287 t290 t293 t296=some r)∧Aside0 (kq≤k)∧Aside0 (Kd.R k40 40 wc w.heap.size (fun k_=>some k_≠((.slice Ao13 t293.length co13):Value).ownBlock∧some k_≠((.slice Ao19 t299.length co19):Value).ownBlock) (.slice Ao9 t287.length co9) t287)∧Aside0 (Kd.R k40 40 wc w.heap.size (fun k_=>some k_≠((.slice Ao9 t287.length co9):Value).ownBlock∧some k_≠((.slice Ao19 t299.length co19):Value).ownBlock) (.slice Ao13 t293.length co13) t293)∧Aside0 (Kd.R k40 40 wc w.heap.size (fun k_=>some k_≠((.slice Ao9 t287.length co9):Value).ownBlock∧some k_≠((.slice Ao13 t293.length co13):Value).ownBlock) (.slice Ao19 t299.length co19) t299)∧Aside0 (wc.heap[Bf]?=some (.cells #[(.slice Ao9 t287.length co9),.int .i64 t290] 25 (0,0)))∧Aside0 (wc.heap[Bd]?=some (.cells #[(.slice Ao13 t293.length co13),.int .i64 t296] 25 (0,0)))∧Aside0 (wc.heap[Be]?=some (.cells #[(.slice Ao19 t299.length co19),.int .i64 t302] 25 (0,0)))∧Aside0 (Below w.heap.size w wc))
 case first =>
  have H:=HC6.out
  clear HC6
  replace H:=oC H
  obtain ⟨t305,A230,H⟩:=H
  replace H:(if t305=true then (laws_FnQueueSleep.j0 k t291 t297 (t297 == t303) t287 t290 t293 t296) else (laws_FnQueueSleep.j0 k t291 t297 false t287 t290 t293 t296))=some r:=H
  have A23:=Am A230
  clear A230
  by_cases c24:t305=true
  ·subst c24
   have H1:(laws_FnQueueSleep.j0 k t291 t297 (t297 == t303) t287 t290 t293 t296)=some r:=by rw [if_pos rfl] at H;exact H
   clear H
   have H:=H1
   clear H1
   have H':=Am H
   clear H
   have Dr:=Bs.out
   have Ds:=Br.out
   have Dt:=Bp.out
   have Du:=Bu.out
   have BL:w18.cell? ⟨Bd,0,none⟩=some (.slice Ao13 t293.length co13):=(bC Ba.out 0).trans rfl
   have BM:w18.cell? ⟨Bd,1,none⟩=some (.int .i64 t296):=(bC Ba.out 1).trans rfl
   have BN:=bF Ba.out 0
   have BO:=bF Ba.out 1
   have Dv:=Bt.out
   have Dw:=Bo.out
   have BP:w18.cell? ⟨Be,0,none⟩=some (.slice none 0 0):=(bC Bc.out 0).trans rfl
   have BQ:w18.cell? ⟨Be,1,none⟩=some (.int .i64 0):=(bC Bc.out 1).trans rfl
   have BR:=bF Bc.out 0
   have BS:=bF Bc.out 1
   go_wp2_with (first|((with_reducible refine gate_callee (f:=15) rfl ?_);refine goesL_ (some 32) rfl rfl Try.func15 (by kernel_rfl) rfl #[.agg #[.slice Ao13 t293.length co13,.int .i64 t296],.agg #[.slice Ao19 t299.length co19,.int .i64 t302]] rfl (by (try simp only [lM,lC,lN]);first|done|rfl|(simp only [lD,lT];rfl)) ?_;(with_reducible refine (laws_qdQueue.calls k _ _ t293 t296 _ _ t299 t302 true _ ?side1 ?side2 ?side3 ?side4 A23.out).mono ?_);(case side1=>refine (Kd.R_reads' (e:=40) (base:=w.heap.size) (ok:=fun k_=>((True∧some k_≠(.slice Ao9 t287.length co9:Value).ownBlock)∧some k_≠(.slice Ao19 t299.length co19:Value).ownBlock)) (n:=t293.length) (c:=co13) ?_).2.2;exact (by (with_reducible repeat (first|apply rA|apply rN|apply rD));exact (rM (rF (p:=⟨Be,1,none⟩) (rF (p:=⟨Be,0,none⟩) (rT Bi.out Bc.out (by decide)) (fun _ hk=>hk.2) (.slice Ao19 t299.length co19)) (fun _ hk=>hk.2) (.int .i64 t302)) (fun _ h_=>h_.1))));(case side2=>exact (Kd.R_reads' Bi.out).2.1);(case side3=>refine (Kd.R_reads' (e:=40) (base:=w.heap.size) (ok:=fun k_=>((True∧some k_≠(.slice Ao9 t287.length co9:Value).ownBlock)∧some k_≠(.slice Ao13 t293.length co13:Value).ownBlock)) (n:=t299.length) (c:=co19) ?_).2.2;exact (by (with_reducible repeat (first|apply rA|apply rN|apply rD));exact (rM (rF (p:=⟨Be,1,none⟩) (rF (p:=⟨Be,0,none⟩) (rT Bm.out Bc.out (by decide)) (fun _ hk=>hk.2) (.slice Ao19 t299.length co19)) (fun _ hk=>hk.2) (.int .i64 t302)) (fun _ h_=>h_.1))));(case side4=>exact (Kd.R_reads' Bm.out).2.1);rintro e w30 ⟨rfl,hb⟩;refine ⟨_,rfl,?_⟩;have n0_:=Am (rB (by (with_reducible repeat (first|apply rA|apply rN|apply rD));exact (rM (rF (p:=⟨Be,1,none⟩) (rF (p:=⟨Be,0,none⟩) (rT Bg.out Bc.out (by decide)) (fun _ hk=>hk.2) (.slice Ao19 t299.length co19)) (fun _ hk=>hk.2) (.int .i64 t302)) (fun _ h_=>h_.1))) hb);have n1_:=Am (rB (by (with_reducible repeat (first|apply rA|apply rN|apply rD));exact (rM (rF (p:=⟨Be,1,none⟩) (rF (p:=⟨Be,0,none⟩) (rT Bi.out Bc.out (by decide)) (fun _ hk=>hk.2) (.slice Ao19 t299.length co19)) (fun _ hk=>hk.2) (.int .i64 t302)) (fun _ h_=>h_.1))) hb);have n2_:=Am (rB (by (with_reducible repeat (first|apply rA|apply rN|apply rD));exact (rM (rF (p:=⟨Be,1,none⟩) (rF (p:=⟨Be,0,none⟩) (rT Bm.out Bc.out (by decide)) (fun _ hk=>hk.2) (.slice Ao19 t299.length co19)) (fun _ hk=>hk.2) (.int .i64 t302)) (fun _ h_=>h_.1))) hb);have n3_:=Am (bB (g:=Bf) (o:=.cells #[.slice Ao9 t287.length co9,.int .i64 t290] 25 (0,0)) (by (with_reducible repeat (first|refine bN ?_ _|refine bD ?_|refine bA ?_ _|refine blk_far ?_ Bo.out _));exact Bb.out) hb);have n4_:=Am (bB (g:=Bd) (o:=.cells #[.slice Ao13 t293.length co13,.int .i64 t296] 25 (0,0)) (by (with_reducible repeat (first|refine bN ?_ _|refine bD ?_|refine bA ?_ _|refine blk_far ?_ Bp.out _));exact Ba.out) hb);have n5_:=Am (bB (g:=Be) (o:=.cells #[.slice Ao19 t299.length co19,.int .i64 t302] 25 (0,0)) (by (with_reducible repeat (first|refine bN ?_ _|refine bD ?_|refine bA ?_ _));refine blk_put (cs:=#[.slice Ao19 t299.length co19,.int .i64 0]) ?_ 1 _ rfl;(with_reducible repeat (first|refine bN ?_ _|refine bD ?_|refine bA ?_ _));refine blk_put (cs:=#[.slice none 0 0,.int .i64 0]) ?_ 0 _ rfl;(with_reducible repeat (first|refine bN ?_ _|refine bD ?_|refine bA ?_ _));exact Bc.out) hb);have n6_:=Am (bP (by repeat (first|(with_reducible first|exact HB.out|apply oA|apply pN|apply o1|refine bS ?_ Bj.out|refine bS ?_ Bn.out|refine bS ?_ Bq.out)|exact HB.out)) hb);clear Bg Bi Bm Bb Ba Bc HB;revert n0_ n1_ n2_ n3_ n4_ n5_ n6_;intro Bg Bi Bm Bb Ba Bc HB;(try clear hb);(try clear hb2);(try clear hk);(try clear hi)))
   go_meet
   case rel=>exact ⟨_,((t297 == t303)),(by first|rfl|(simp;done)|(simp [*];done)),H',⟨by first|omega|exact Nat.le_refl _⟩,⟨by (with_reducible repeat (first|apply rA|apply rN|apply rD));exact rM Bg.out (fun _ hk=>⟨hk.1.2,hk.2⟩)⟩,⟨by (with_reducible repeat (first|apply rA|apply rN|apply rD));exact rM Bi.out (fun _ hk=>⟨hk.1.2,hk.2⟩)⟩,⟨by (with_reducible repeat (first|apply rA|apply rN|apply rD));exact rM Bm.out (fun _ hk=>⟨hk.1.2,hk.2⟩)⟩,⟨by (with_reducible repeat (first|refine bN ?_ _|refine bD ?_|refine bA ?_ _));exact Bb.out⟩,⟨by (with_reducible repeat (first|refine bN ?_ _|refine bD ?_|refine bA ?_ _));exact Ba.out⟩,⟨by (with_reducible repeat (first|refine bN ?_ _|refine bD ?_|refine bA ?_ _));exact Bc.out⟩,⟨by repeat (first|(with_reducible first|exact HB.out|apply oA|apply pN|apply o1|refine bS ?_ Bj.out|refine bS ?_ Bn.out|refine bS ?_ Bq.out)|exact HB.out)⟩⟩
  replace c24:=Bool.eq_false_iff.mpr c24
  subst c24
  have H1:(laws_FnQueueSleep.j0 k t291 t297 false t287 t290 t293 t296)=some r:=by rw [if_neg (show ¬ (false=true) by decide)] at H;exact H
  clear H
  have H:=H1
  clear H1
  have H':=Am H
  clear H
  have Dx:=Bs.out
  have Dy:=Br.out
  have Dz:=Bp.out
  have DA:=Bu.out
  have BT:w18.cell? ⟨Bd,0,none⟩=some (.slice Ao13 t293.length co13):=(bC Ba.out 0).trans rfl
  have BU:w18.cell? ⟨Bd,1,none⟩=some (.int .i64 t296):=(bC Ba.out 1).trans rfl
  have BV:=bF Ba.out 0
  have BW:=bF Ba.out 1
  have DB:=Bt.out
  have DC:=Bo.out
  have BX:w18.cell? ⟨Be,0,none⟩=some (.slice none 0 0):=(bC Bc.out 0).trans rfl
  have BY:w18.cell? ⟨Be,1,none⟩=some (.int .i64 0):=(bC Bc.out 1).trans rfl
  have BZ:=bF Bc.out 0
  have B0:=bF Bc.out 1
  go_wp2_with (first|((with_reducible refine gate_callee (f:=15) rfl ?_);refine goesL_ (some 32) rfl rfl Try.func15 (by kernel_rfl) rfl #[.agg #[.slice Ao13 t293.length co13,.int .i64 t296],.agg #[.slice Ao19 t299.length co19,.int .i64 t302]] rfl (by (try simp only [lM,lC,lN]);first|done|rfl|(simp only [lD,lT];rfl)) ?_;(with_reducible refine (laws_qdQueue.calls k _ _ t293 t296 _ _ t299 t302 false _ ?side1 ?side2 ?side3 ?side4 A23.out).mono ?_);(case side1=>refine (Kd.R_reads' (e:=40) (base:=w.heap.size) (ok:=fun k_=>((True∧some k_≠(.slice Ao9 t287.length co9:Value).ownBlock)∧some k_≠(.slice Ao19 t299.length co19:Value).ownBlock)) (n:=t293.length) (c:=co13) ?_).2.2;exact (by (with_reducible repeat (first|apply rA|apply rN|apply rD));exact (rM (rF (p:=⟨Be,1,none⟩) (rF (p:=⟨Be,0,none⟩) (rT Bi.out Bc.out (by decide)) (fun _ hk=>hk.2) (.slice Ao19 t299.length co19)) (fun _ hk=>hk.2) (.int .i64 t302)) (fun _ h_=>h_.1))));(case side2=>exact (Kd.R_reads' Bi.out).2.1);(case side3=>refine (Kd.R_reads' (e:=40) (base:=w.heap.size) (ok:=fun k_=>((True∧some k_≠(.slice Ao9 t287.length co9:Value).ownBlock)∧some k_≠(.slice Ao13 t293.length co13:Value).ownBlock)) (n:=t299.length) (c:=co19) ?_).2.2;exact (by (with_reducible repeat (first|apply rA|apply rN|apply rD));exact (rM (rF (p:=⟨Be,1,none⟩) (rF (p:=⟨Be,0,none⟩) (rT Bm.out Bc.out (by decide)) (fun _ hk=>hk.2) (.slice Ao19 t299.length co19)) (fun _ hk=>hk.2) (.int .i64 t302)) (fun _ h_=>h_.1))));(case side4=>exact (Kd.R_reads' Bm.out).2.1);rintro e w36 ⟨rfl,hb⟩;refine ⟨_,rfl,?_⟩;have n0_:=Am (rB (by (with_reducible repeat (first|apply rA|apply rN|apply rD));exact (rM (rF (p:=⟨Be,1,none⟩) (rF (p:=⟨Be,0,none⟩) (rT Bg.out Bc.out (by decide)) (fun _ hk=>hk.2) (.slice Ao19 t299.length co19)) (fun _ hk=>hk.2) (.int .i64 t302)) (fun _ h_=>h_.1))) hb);have n1_:=Am (rB (by (with_reducible repeat (first|apply rA|apply rN|apply rD));exact (rM (rF (p:=⟨Be,1,none⟩) (rF (p:=⟨Be,0,none⟩) (rT Bi.out Bc.out (by decide)) (fun _ hk=>hk.2) (.slice Ao19 t299.length co19)) (fun _ hk=>hk.2) (.int .i64 t302)) (fun _ h_=>h_.1))) hb);have n2_:=Am (rB (by (with_reducible repeat (first|apply rA|apply rN|apply rD));exact (rM (rF (p:=⟨Be,1,none⟩) (rF (p:=⟨Be,0,none⟩) (rT Bm.out Bc.out (by decide)) (fun _ hk=>hk.2) (.slice Ao19 t299.length co19)) (fun _ hk=>hk.2) (.int .i64 t302)) (fun _ h_=>h_.1))) hb);have n3_:=Am (bB (g:=Bf) (o:=.cells #[.slice Ao9 t287.length co9,.int .i64 t290] 25 (0,0)) (by (with_reducible repeat (first|refine bN ?_ _|refine bD ?_|refine bA ?_ _|refine blk_far ?_ Bo.out _));exact Bb.out) hb);have n4_:=Am (bB (g:=Bd) (o:=.cells #[.slice Ao13 t293.length co13,.int .i64 t296] 25 (0,0)) (by (with_reducible repeat (first|refine bN ?_ _|refine bD ?_|refine bA ?_ _|refine blk_far ?_ Bp.out _));exact Ba.out) hb);have n5_:=Am (bB (g:=Be) (o:=.cells #[.slice Ao19 t299.length co19,.int .i64 t302] 25 (0,0)) (by (with_reducible repeat (first|refine bN ?_ _|refine bD ?_|refine bA ?_ _));refine blk_put (cs:=#[.slice Ao19 t299.length co19,.int .i64 0]) ?_ 1 _ rfl;(with_reducible repeat (first|refine bN ?_ _|refine bD ?_|refine bA ?_ _));refine blk_put (cs:=#[.slice none 0 0,.int .i64 0]) ?_ 0 _ rfl;(with_reducible repeat (first|refine bN ?_ _|refine bD ?_|refine bA ?_ _));exact Bc.out) hb);have n6_:=Am (bP (by repeat (first|(with_reducible first|exact HB.out|apply oA|apply pN|apply o1|refine bS ?_ Bj.out|refine bS ?_ Bn.out|refine bS ?_ Bq.out)|exact HB.out)) hb);clear Bg Bi Bm Bb Ba Bc HB;revert n0_ n1_ n2_ n3_ n4_ n5_ n6_;intro Bg Bi Bm Bb Ba Bc HB;(try clear hb);(try clear hb2);(try clear hk);(try clear hi)))
  go_meet
  case rel=>exact ⟨_,(false),(by first|rfl|(simp;done)|(simp [*];done)),H',⟨by first|omega|exact Nat.le_refl _⟩,⟨by (with_reducible repeat (first|apply rA|apply rN|apply rD));exact rM Bg.out (fun _ hk=>⟨hk.1.2,hk.2⟩)⟩,⟨by (with_reducible repeat (first|apply rA|apply rN|apply rD));exact rM Bi.out (fun _ hk=>⟨hk.1.2,hk.2⟩)⟩,⟨by (with_reducible repeat (first|apply rA|apply rN|apply rD));exact rM Bm.out (fun _ hk=>⟨hk.1.2,hk.2⟩)⟩,⟨by (with_reducible repeat (first|refine bN ?_ _|refine bD ?_|refine bA ?_ _));exact Bb.out⟩,⟨by (with_reducible repeat (first|refine bN ?_ _|refine bD ?_|refine bA ?_ _));exact Ba.out⟩,⟨by (with_reducible repeat (first|refine bN ?_ _|refine bD ?_|refine bA ?_ _));exact Bc.out⟩,⟨by repeat (first|(with_reducible first|exact HB.out|apply oA|apply pN|apply o1|refine bS ?_ Bj.out|refine bS ?_ Bn.out|refine bS ?_ Bq.out)|exact HB.out)⟩⟩
 case rest =>
  clear HC6
  try clear c1
  try clear c2
  try clear c2b0
  try clear c2b1
  try clear p2
  try clear c3
  try clear c6
  try clear c14
  try clear c15
  try clear c20
  try clear c21
  try clear c24
  try clear c25
  try clear c26
  try clear c28
  try clear c31
  try clear c32
  try clear c34
  try clear Bv
  try clear Bw
  try clear Bz
  try clear BA
  try clear BD
  try clear BE
  try clear BH
  try clear BI
  try clear BL
  try clear BM
  try clear BP
  try clear BQ
  try clear BT
  try clear BU
  try clear BX
  try clear BY
  try clear Bx
  try clear By
  try clear BB
  try clear BC
  try clear BF
  try clear BG
  try clear BJ
  try clear BK
  try clear BN
  try clear BO
  try clear BR
  try clear BS
  try clear BV
  try clear BW
  try clear BZ
  try clear B0
  obtain ⟨kq,x9_5,rfl,HA,B1,Bk,Bh,Bl,Bb,Ba,Bc,HB⟩:=hcut
  cases kq with
 |zero=>exact absurd HA.out (by simp [laws_FnQueueSleep.j0])
 |succ kj5 =>
   have H:=HA.out
   clear HA
   simp only [laws_FnQueueSleep.j0] at H
   have HC37:=Am H
   clear H
   go_upto_region 7 with (fail)
   go_cut [43] (fun v43 wc=>∃ (kq:Nat) (x43_36:Bool),v43=.bool x43_36∧Aside0 (laws_FnQueueSleep.j1 kq t291 x9_5 x43_36 t287 t290 t293 t296=some r)∧Aside0 (kq≤kj5)∧Aside0 (Kd.R k40 40 wc w.heap.size (fun k_=>some k_≠((.slice Ao13 t293.length co13):Value).ownBlock∧some k_≠((.slice Ao19 t299.length co19):Value).ownBlock) (.slice Ao9 t287.length co9) t287)∧Aside0 (Kd.R k40 40 wc w.heap.size (fun k_=>some k_≠((.slice Ao9 t287.length co9):Value).ownBlock∧some k_≠((.slice Ao19 t299.length co19):Value).ownBlock) (.slice Ao13 t293.length co13) t293)∧Aside0 (Kd.R k40 40 wc w.heap.size (fun k_=>some k_≠((.slice Ao9 t287.length co9):Value).ownBlock∧some k_≠((.slice Ao13 t293.length co13):Value).ownBlock) (.slice Ao19 t299.length co19) t299)∧Aside0 (wc.heap[Bf]?=some (.cells #[(.slice Ao9 t287.length co9),.int .i64 t290] 25 (0,0)))∧Aside0 (wc.heap[Bd]?=some (.cells #[(.slice Ao13 t293.length co13),.int .i64 t296] 25 (0,0)))∧Aside0 (wc.heap[Be]?=some (.cells #[(.slice Ao19 t299.length co19),.int .i64 t302] 25 (0,0)))∧Aside0 (Below w.heap.size w wc))
   case first =>
    have H:=HC37.out
    clear HC37
    by_cases c38:x9_5=true
    ·subst c38
     have H1:(laws_FnQueueSleep.j1 kj5 t291 true (!t297) t287 t290 t293 t296)=some r:=by rw [if_pos rfl] at H;exact H
     clear H
     have H:=H1
     clear H1
     have H':=Am H
     clear H
     go_wp2
     go_meet
     case rel=>exact ⟨_,(!t297),(by first|rfl|(simp;done)|(simp [*];done)),H',⟨by have:=B1.out;first|omega|exact Nat.le_refl _⟩,⟨by (with_reducible repeat (first|apply rA|apply rN|apply rD));exact Bk.out⟩,⟨by (with_reducible repeat (first|apply rA|apply rN|apply rD));exact Bh.out⟩,⟨by (with_reducible repeat (first|apply rA|apply rN|apply rD));exact Bl.out⟩,⟨by (with_reducible repeat (first|refine bN ?_ _|refine bD ?_|refine bA ?_ _));exact Bb.out⟩,⟨by (with_reducible repeat (first|refine bN ?_ _|refine bD ?_|refine bA ?_ _));exact Ba.out⟩,⟨by (with_reducible repeat (first|refine bN ?_ _|refine bD ?_|refine bA ?_ _));exact Bc.out⟩,⟨by repeat (first|(with_reducible first|exact HB.out|apply oA|apply pN|apply o1|refine bS ?_ Bj.out|refine bS ?_ Bn.out|refine bS ?_ Bq.out)|exact HB.out)⟩⟩
    replace c38:=Bool.eq_false_iff.mpr c38
    subst c38
    have H1:(laws_FnQueueSleep.j1 kj5 t291 false true t287 t290 t293 t296)=some r:=by rw [if_neg (show ¬ (false=true) by decide)] at H;exact H
    clear H
    have H:=H1
    clear H1
    have H':=Am H
    clear H
    go_wp2
    go_meet
    case rel=>exact ⟨_,(true),(by first|rfl|(simp;done)|(simp [*];done)),H',⟨by have:=B1.out;first|omega|exact Nat.le_refl _⟩,⟨by (with_reducible repeat (first|apply rA|apply rN|apply rD));exact Bk.out⟩,⟨by (with_reducible repeat (first|apply rA|apply rN|apply rD));exact Bh.out⟩,⟨by (with_reducible repeat (first|apply rA|apply rN|apply rD));exact Bl.out⟩,⟨by (with_reducible repeat (first|refine bN ?_ _|refine bD ?_|refine bA ?_ _));exact Bb.out⟩,⟨by (with_reducible repeat (first|refine bN ?_ _|refine bD ?_|refine bA ?_ _));exact Ba.out⟩,⟨by (with_reducible repeat (first|refine bN ?_ _|refine bD ?_|refine bA ?_ _));exact Bc.out⟩,⟨by repeat (first|(with_reducible first|exact HB.out|apply oA|apply pN|apply o1|refine bS ?_ Bj.out|refine bS ?_ Bn.out|refine bS ?_ Bq.out)|exact HB.out)⟩⟩
   case rest =>
    clear HC37
    try clear c1
    try clear c2
    try clear c2b0
    try clear c2b1
    try clear p2
    try clear c3
    try clear c6
    try clear c14
    try clear c15
    try clear c20
    try clear c21
    try clear c24
    try clear c25
    try clear c26
    try clear c28
    try clear c31
    try clear c32
    try clear c34
    try clear c38
    try clear Bv
    try clear Bw
    try clear Bz
    try clear BA
    try clear BD
    try clear BE
    try clear BH
    try clear BI
    try clear BL
    try clear BM
    try clear BP
    try clear BQ
    try clear BT
    try clear BU
    try clear BX
    try clear BY
    try clear Bx
    try clear By
    try clear BB
    try clear BC
    try clear BF
    try clear BG
    try clear BJ
    try clear BK
    try clear BN
    try clear BO
    try clear BR
    try clear BS
    try clear BV
    try clear BW
    try clear BZ
    try clear B0
    try clear p2
    obtain ⟨kq,x43_36,rfl,HA,DJ,Bk,Bh,Bl,Bb,Ba,Bc,HB⟩:=hcut
    cases kq with
   |zero=>exact absurd HA.out (by simp [laws_FnQueueSleep.j1])
   |succ kj36 =>
     have H:=HA.out
     clear HA
     simp only [laws_FnQueueSleep.j1] at H
     by_cases c39:x43_36=true
     ·subst c39
      have H1:(some x9_5)=some r:=by rw [if_pos rfl] at H;exact H
      clear H
      have H:=H1
      clear H1
      obtain rfl:=Option.some.inj H
      go_wp2
      go_ret
      exact ⟨by first|rfl|(simp [errW_none,errW_some] <;> rfl)|(simp [*,errW_none,errW_some] <;> rfl),by repeat (first|(with_reducible first|exact HB.out|apply oA|apply pN|apply o1|refine bS ?_ Bj.out|refine bS ?_ Bn.out|refine bS ?_ Bq.out)|exact HB.out)⟩
     replace c39:=Bool.eq_false_iff.mpr c39
     subst c39
     have H1:((impl_QueueOk.f kj36 t293 t296).bind fun t306=>(if t306=true then ((impl_QueueNext.f kj36 t293 t296).bind fun t307=>(if t307=t291 then (some false) else (some (t296 == t290)))) else (some false)))=some r:=by rw [if_neg (show ¬ (false=true) by decide)] at H;exact H
     clear H
     have H:=H1
     clear H1
     replace H:=oC H
     obtain ⟨t306,A400,H⟩:=H
     replace H:(if t306=true then ((impl_QueueNext.f kj36 t293 t296).bind fun t307=>(if t307=t291 then (some false) else (some (t296 == t290)))) else (some false))=some r:=H
     have A40:=Am A400
     clear A400
     by_cases c41:t306=true
     rotate_left
     ·replace c41:=Bool.eq_false_iff.mpr c41
      subst c41
      have H1:(some false)=some r:=by rw [if_neg (show ¬ (false=true) by decide)] at H;exact H
      clear H
      have H:=H1
      clear H1
      exact absurd ((Option.some.inj H).trans hT_.out) (by decide)

     subst c41
     have H1:((impl_QueueNext.f kj36 t293 t296).bind fun t307=>(if t307=t291 then (some false) else (some (t296 == t290))))=some r:=by rw [if_pos rfl] at H;exact H
     clear H
     have H:=H1
     clear H1
     replace H:=oC H
     obtain ⟨t307,A420,H⟩:=H
     replace H:(if t307=t291 then (some false) else (some (t296 == t290)))=some r:=H
     have A42:=Am A420
     clear A420
     by_cases c43:t307=t291
     ·rw [if_pos c43] at H
      have c43b0:(t307 == t291)=true:=beq_iff_eq.mpr c43
      have c43b1:(t307 != t291)=false:=bne_eq_false_iff_eq.mpr c43
      clear c43
      exact absurd ((Option.some.inj H).trans hT_.out) (by decide)
     rw [if_neg c43] at H
     have c43b0:(t307 == t291)=false:=beq_eq_false_iff_ne.mpr c43
     have c43b1:(t307 != t291)=true:=bne_iff_ne.mpr c43
     obtain rfl:=Option.some.inj H
     have DD:=Bs.out
     have DE:=Br.out
     have DF:=Bp.out
     have DG:=Bu.out
     have B2:wc.cell? ⟨Bd,0,none⟩=some (.slice Ao13 t293.length co13):=(bC Ba.out 0).trans rfl
     have B3:wc.cell? ⟨Bd,1,none⟩=some (.int .i64 t296):=(bC Ba.out 1).trans rfl
     have B4:=bF Ba.out 0
     have B5:=bF Ba.out 1
     go_wp2_with (first|((with_reducible refine gate_callee (f:=16) rfl ?_);refine goesL_ (some 46) rfl rfl Try.func16 (by kernel_rfl) rfl #[.agg #[.slice Ao13 t293.length co13,.int .i64 t296]] rfl (by (try simp only [lM,lC,lN]);first|done|rfl|(simp only [lD,lT];rfl)) ?_;(with_reducible refine (impl_QueueOk.calls kj36 _ _ t293 t296 true _ ?side1 ?side2 A40.out).mono ?_);(case side1=>repeat (first|exact (Kd.R_reads' Bh.out).2.2|(with_reducible refine cA ?_ _)|(with_reducible refine cN ?_ _)|(with_reducible refine cD ?_)));(case side2=>exact (Kd.R_reads' Bh.out).2.1);rintro e w47 ⟨rfl,hb⟩;refine ⟨_,rfl,?_⟩;have n0_:=Am (rB (rL Bk.out) hb);have n1_:=Am (rB (rL Bh.out) hb);have n2_:=Am (rB (rL Bl.out) hb);have n3_:=Am (bB (g:=Bf) (o:=.cells #[.slice Ao9 t287.length co9,.int .i64 t290] 25 (0,0)) (bL Bb.out) hb);have n4_:=Am (bB (g:=Bd) (o:=.cells #[.slice Ao13 t293.length co13,.int .i64 t296] 25 (0,0)) (bL Ba.out) hb);have n5_:=Am (bB (g:=Be) (o:=.cells #[.slice Ao19 t299.length co19,.int .i64 t302] 25 (0,0)) (bL Bc.out) hb);have n6_:=Am (bP (by repeat (first|(with_reducible first|exact HB.out|apply oA|apply pN|apply o1|refine bS ?_ Bj.out|refine bS ?_ Bn.out|refine bS ?_ Bq.out)|exact HB.out)) hb);clear Bk Bh Bl Bb Ba Bc HB;revert n0_ n1_ n2_ n3_ n4_ n5_ n6_;intro Bk Bh Bl Bb Ba Bc HB;(try clear hb);(try clear hb2);(try clear hk);(try clear hi);have B6:w47.cell? ⟨Bd,0,none⟩=some (.slice Ao13 t293.length co13):=(bC Ba.out 0).trans rfl;have B7:w47.cell? ⟨Bd,1,none⟩=some (.int .i64 t296):=(bC Ba.out 1).trans rfl;have B8:=bF Ba.out 0;have B9:=bF Ba.out 1)|(go_at_call 23;(with_reducible refine (impl_QueueNext.calls kj36 _ _ t293 t296 t307 _ ?side1 ?side2 A42.out).mono ?_);(case side1=>repeat (first|exact (Kd.R_reads' Bh.out).2.2|(with_reducible refine cA ?_ _)|(with_reducible refine cN ?_ _)|(with_reducible refine cD ?_)));(case side2=>exact (Kd.R_reads' Bh.out).2.1);rintro e w49 ⟨rfl,hb⟩;have n0_:=Am (rB (rL Bk.out) hb);have n1_:=Am (rB (rL Bh.out) hb);have n2_:=Am (rB (rL Bl.out) hb);have n3_:=Am (bB (g:=Bf) (o:=.cells #[.slice Ao9 t287.length co9,.int .i64 t290] 25 (0,0)) (bL Bb.out) hb);have n4_:=Am (bB (g:=Bd) (o:=.cells #[.slice Ao13 t293.length co13,.int .i64 t296] 25 (0,0)) (bL Ba.out) hb);have n5_:=Am (bB (g:=Be) (o:=.cells #[.slice Ao19 t299.length co19,.int .i64 t302] 25 (0,0)) (bL Bc.out) hb);have n6_:=Am (bP (by repeat (first|(with_reducible first|exact HB.out|apply oA|apply pN|apply o1|refine bS ?_ Bj.out|refine bS ?_ Bn.out|refine bS ?_ Bq.out)|exact HB.out)) hb);clear Bk Bh Bl Bb Ba Bc HB;revert n0_ n1_ n2_ n3_ n4_ n5_ n6_;intro Bk Bh Bl Bb Ba Bc HB;(try clear hb);(try clear hb2);(try clear hk);(try clear hi);have Da:w49.cell? ⟨Bd,0,none⟩=some (.slice Ao13 t293.length co13):=(bC Ba.out 0).trans rfl;have Db:w49.cell? ⟨Bd,1,none⟩=some (.int .i64 t296):=(bC Ba.out 1).trans rfl;have Dc:=bF Ba.out 0;have Dd:=bF Ba.out 1;have DH:=Bo.out;have DI:=Bt.out;have De:w49.cell? ⟨Bf,0,none⟩=some (.slice Ao9 t287.length co9):=(bC Bb.out 0).trans rfl;have Df:w49.cell? ⟨Bf,1,none⟩=some (.int .i64 t290):=(bC Bb.out 1).trans rfl;have Dg:=bF Bb.out 0;have Dh:=bF Bb.out 1))
     go_ret
     exact ⟨by first|rfl|(simp [errW_none,errW_some] <;> rfl)|(simp [*,errW_none,errW_some] <;> rfl),by repeat (first|(with_reducible first|exact HB.out|apply oA|apply pN|apply o1|refine bS ?_ Bj.out|refine bS ?_ Bn.out|refine bS ?_ Bq.out)|exact HB.out)⟩
/-- THE ONE PURE STATEMENT of laws_FnQueueSleep: yours. -/
def laws_FnQueueSleep.Pure:Prop:=∀ (l0:List Int),l0.length≤maxLen → l0.length * 1≤140737488351232 → (∀ x ∈ l0,(Lit.int .u8 x).wf=true) → ∃ k,laws_FnQueueSleep.f k l0=some true
theorem laws_FnQueueSleep.walk (P:laws_FnQueueSleep.Pure) (a0:Option Addr) (len0 cap0:Nat) (z0:List Int) (w:World) (w0:(a0=none∧len0=0∧cap0=0∧z0=[])∨∃ x,a0=some x∧len0≤cap0∧cap0≤maxLen∧z0.length=cap0∧(∀ i,i<z0.length → w.cell? (x.add i)=some (.int .u8 (z0.getD i 0)))∧∀ n ∈ z0,(Lit.int .u8 n).wf=true) (y0:len0 * 1≤140737488351232) :
  Calls Try.prog 6 #[.slice a0 len0 cap0] w fun e w'=>e=.returned (.bool true)∧Below w.heap.size w w':=by
 obtain ⟨l0,rfl,hr0,hm0,hw0,hc0⟩:=ReadsInt.ofRowC w0
 obtain ⟨k,h⟩:=P l0 hm0 y0 hw0
 refine (laws_FnQueueSleep.calls k _ _ l0 true w (Kd.C_of_reads (d:=(0:Int)) (h1:=fun _=>rfl) hr0) hc0 h ⟨rfl⟩).mono ?_
 rintro e w' ⟨rfl,hd⟩
 exact ⟨rfl,hd⟩

end Go.Proofs.Ytfhcgmfodfcpeaa.PFnQueueSleep
