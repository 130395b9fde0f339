/- Proved here, without a condition beyond those that each theorem states: what the Go functions named below do is what the plain functions of the same names say. Written by xprint.py, a program of this session. -/
import Derived.Test.YtfhcgmfodfcpeaaPFnQueueLessx0
import Derived.Test.YtfhcgmfodfcpeaaPFnQueueLessx2
import Derived.Test.YtfhcgmfodfcpeaaPFnQueueLessx3
import Derived.Test.YtfhcgmfodfcpeaaPFnQueueLessx4
import Derived.Test.YtfhcgmfodfcpeaaPFnQueueLessx11
import Derived.Test.YtfhcgmfodfcpeaaPFnQueueLessx12
import Derived.Test.YtfhcgmfodfcpeaaPFnQueueLessx15
namespace Go.Proofs.Ytfhcgmfodfcpeaa.PFnQueueLess
open Go.RowKit Go.Proofs.YtfhcgmfodfcpeaaW.PrintWords Go.Proofs.YtfhcgmfodfcpeaaW.PrintLast Go.Proofs.YtfhcgmfodfcpeaaW.PrintMore
attribute [local go_sem] max2_int min2_int max_two min_two max_three min_three max_four min_four   -- for this text's walks alone
set_option linter.unusedVariables false
set_option linter.unusedSimpArgs false

attribute [local go_sem ↓] isSome_setCell_
/-! ### laws_FnQueueLess: function 7 -/
mutual
def laws_FnQueueLess.j0 : Nat → Int → Bool → Bool → List (S40) → Int → List (S40) → Int → Option (Bool)
|0, _, _, _, _, _, _, _ => none
|k + 1, x4, x6, x9, x312000, x312001, x318000, x318001 => if x9 = true then (laws_FnQueueLess.j1 k x4 x9 (!x6) x312000 x312001 x318000 x318001) else (laws_FnQueueLess.j1 k x4 x9 true x312000 x312001 x318000 x318001)
def laws_FnQueueLess.j1 : Nat → Int → Bool → Bool → List (S40) → Int → List (S40) → Int → Option (Bool)
|0, _, _, _, _, _, _, _ => none
|k + 1, x4, x9, x43, x312000, x312001, x318000, x318001 => if x43 = true then (some x9) else ((impl_QueueOk.f k x318000 x318001).bind fun t325 => (if t325 = true then (if (x318000.length : Int) = (wrap64 ((x312000.length : Int) - 1)) then ((impl_QueueNext.f k x318000 x318001).bind fun t326 => (some (t326 != x4))) else (some false)) else (some false)))
end
def laws_FnQueueLess.f (k : Nat) (l0 : List Int) : Option (Bool) := if (l0.length : Int) > 1048576 then (some true) else ((spec_DrawQueueLess.f k l0).bind fun bt306 => ((impl_QueueLess.f k bt306.1 bt306.2.1 bt306.2.2).bind fun bt312 => ((spec_QueueLess.f k bt306.1 bt306.2.1 bt306.2.2).bind fun bt318 => ((laws_qdQueue.f k bt312.1 bt312.2.1 bt318.1 bt318.2.1).bind fun t324 => (if t324 = true then (laws_FnQueueLess.j0 k bt306.2.2 bt312.2.2 (bt312.2.2 == bt318.2.2) bt306.1 bt306.2.1 bt312.1 bt312.2.1) else (laws_FnQueueLess.j0 k bt306.2.2 bt312.2.2 false bt306.1 bt306.2.1 bt312.1 bt312.2.1))))))
theorem laws_FnQueueLess.mono_l : ∀ k, (∀ y0 y1 y2 y3 y4 y5 y6, LeO (laws_FnQueueLess.j0 k y0 y1 y2 y3 y4 y5 y6) (laws_FnQueueLess.j0 (k + 1) y0 y1 y2 y3 y4 y5 y6)) ∧ (∀ y0 y1 y2 y3 y4 y5 y6, LeO (laws_FnQueueLess.j1 k y0 y1 y2 y3 y4 y5 y6) (laws_FnQueueLess.j1 (k + 1) y0 y1 y2 y3 y4 y5 y6))
|0 => ⟨fun _ _ _ _ _ _ _ r h => by simp [laws_FnQueueLess.j0] at h, fun _ _ _ _ _ _ _ r h => by simp [laws_FnQueueLess.j1] at h⟩
|k + 1 => by
  obtain ⟨ih0, ih1⟩ := laws_FnQueueLess.mono_l k
  refine ⟨?_, ?_⟩
  ·intro y0 y1 y2 y3 y4 y5 y6
   unfold laws_FnQueueLess.j0
   repeat' first
  |(with_reducible exact ih0 _ _ _ _ _ _ _)
  |(with_reducible exact ih1 _ _ _ _ _ _ _)
  |(with_reducible exact impl_QueueLess.mono _ _ _ _)
  |(with_reducible exact impl_QueueNext.mono _ _ _)
  |(with_reducible exact impl_QueueOk.mono _ _ _)
  |(with_reducible exact laws_qdQueue.mono _ _ _ _ _)
  |(with_reducible exact spec_DrawQueueLess.mono _ _)
  |(with_reducible exact spec_QueueLess.mono _ _ _ _)
  |(with_reducible exact LeO.refl _)
  |(with_reducible exact LeO.none _)
  |(with_reducible refine LeO.ite ?_ ?_)
  |(with_reducible refine LeO.bind ?_ (fun _ => ?_))
  |exact ih0 _ _ _ _ _ _ _
  |exact ih1 _ _ _ _ _ _ _
  |exact impl_QueueLess.mono _ _ _ _
  |exact impl_QueueNext.mono _ _ _
  |exact impl_QueueOk.mono _ _ _
  |exact laws_qdQueue.mono _ _ _ _ _
  |exact spec_DrawQueueLess.mono _ _
  |exact spec_QueueLess.mono _ _ _ _
  |exact LeO.none _
  |refine LeO.ite ?_ ?_
  |refine LeO.bind ?_ (fun _ => ?_)
  ·intro y0 y1 y2 y3 y4 y5 y6
   unfold laws_FnQueueLess.j1
   repeat' first
  |(with_reducible exact ih0 _ _ _ _ _ _ _)
  |(with_reducible exact ih1 _ _ _ _ _ _ _)
  |(with_reducible exact impl_QueueLess.mono _ _ _ _)
  |(with_reducible exact impl_QueueNext.mono _ _ _)
  |(with_reducible exact impl_QueueOk.mono _ _ _)
  |(with_reducible exact laws_qdQueue.mono _ _ _ _ _)
  |(with_reducible exact spec_DrawQueueLess.mono _ _)
  |(with_reducible exact spec_QueueLess.mono _ _ _ _)
  |(with_reducible exact LeO.refl _)
  |(with_reducible exact LeO.none _)
  |(with_reducible refine LeO.ite ?_ ?_)
  |(with_reducible refine LeO.bind ?_ (fun _ => ?_))
  |exact ih0 _ _ _ _ _ _ _
  |exact ih1 _ _ _ _ _ _ _
  |exact impl_QueueLess.mono _ _ _ _
  |exact impl_QueueNext.mono _ _ _
  |exact impl_QueueOk.mono _ _ _
  |exact laws_qdQueue.mono _ _ _ _ _
  |exact spec_DrawQueueLess.mono _ _
  |exact spec_QueueLess.mono _ _ _ _
  |exact LeO.none _
  |refine LeO.ite ?_ ?_
  |refine LeO.bind ?_ (fun _ => ?_)
theorem laws_FnQueueLess.mono : ∀ a0 k, LeO (laws_FnQueueLess.f k a0) (laws_FnQueueLess.f (k + 1) a0) := by
 intro a0 k
 obtain ⟨ih0, ih1⟩ := laws_FnQueueLess.mono_l k
 unfold laws_FnQueueLess.f
 repeat' first
  |(with_reducible exact ih0 _ _ _ _ _ _ _)
  |(with_reducible exact ih1 _ _ _ _ _ _ _)
  |(with_reducible exact impl_QueueLess.mono _ _ _ _)
  |(with_reducible exact impl_QueueNext.mono _ _ _)
  |(with_reducible exact impl_QueueOk.mono _ _ _)
  |(with_reducible exact laws_qdQueue.mono _ _ _ _ _)
  |(with_reducible exact spec_DrawQueueLess.mono _ _)
  |(with_reducible exact spec_QueueLess.mono _ _ _ _)
  |(with_reducible exact LeO.refl _)
  |(with_reducible exact LeO.none _)
  |(with_reducible refine LeO.ite ?_ ?_)
  |(with_reducible refine LeO.bind ?_ (fun _ => ?_))
  |exact ih0 _ _ _ _ _ _ _
  |exact ih1 _ _ _ _ _ _ _
  |exact impl_QueueLess.mono _ _ _ _
  |exact impl_QueueNext.mono _ _ _
  |exact impl_QueueOk.mono _ _ _
  |exact laws_qdQueue.mono _ _ _ _ _
  |exact spec_DrawQueueLess.mono _ _
  |exact spec_QueueLess.mono _ _ _ _
  |exact LeO.none _
  |refine LeO.ite ?_ ?_
  |refine LeO.bind ?_ (fun _ => ?_)
set_option maxHeartbeats 2000000 in
set_option maxRecDepth 100000 in
theorem laws_FnQueueLess.calls (k:Nat) (A0:Option Addr) (c0:Nat) (l0:List Int) (r:Bool) (w:World) (hr0:Kd.C (Kd.int .u8) w A0 l0.length l0) (hc0:l0.length≤c0) (h:laws_FnQueueLess.f k l0=some r) (hT_:Aside0 (r=true)) :
  Calls Try.prog 7 #[.slice A0 l0.length c0] w fun e w'=>e=.returned (.bool r)∧Below w.heap.size w w':=by
 have hu25:=Try.underlying25
 have HR0:=Am hr0
 have HC0:=Am hc0
 clear hr0 hc0
 have HB:=Am (Below.refl w.heap.size w)
 have H:(if (l0.length:Int) > 1048576 then (some true) else ((spec_DrawQueueLess.f k l0).bind fun bt306=>((impl_QueueLess.f k bt306.1 bt306.2.1 bt306.2.2).bind fun bt312=>((spec_QueueLess.f k bt306.1 bt306.2.1 bt306.2.2).bind fun bt318=>((laws_qdQueue.f k bt312.1 bt312.2.1 bt318.1 bt318.2.1).bind fun t324=>(if t324=true then (laws_FnQueueLess.j0 k bt306.2.2 bt312.2.2 (bt312.2.2 == bt318.2.2) bt306.1 bt306.2.1 bt312.1 bt312.2.1) else (laws_FnQueueLess.j0 k bt306.2.2 bt312.2.2 false bt306.1 bt306.2.1 bt312.1 bt312.2.1)))))))=some r:=h
 clear h
 by_cases c2:(l0.length:Int) > 1048576
 ·rw [if_pos c2] at H
  have c2b0:decide (1048576<(l0.length:Int))=true:=decide_eq_true c2
  have c2b1:decide (1048576<l0.length)=true:=decide_eq_true (by omega)
  clear c2
  obtain rfl:=Option.some.inj H
  go_enter Try.func7,Try.ntmps7
  go_wp2
  go_ret
  exact ⟨by first|rfl|(simp [errW_none,errW_some] <;> rfl)|(simp [*,errW_none,errW_some] <;> rfl),by repeat (first|(with_reducible first|exact HB.out|apply oA|apply pN|apply o1)|exact HB.out)⟩
 rw [if_neg c2] at H
 have c2b0:decide (1048576<(l0.length:Int))=false:=decide_eq_false c2
 have c2b1:decide (1048576<l0.length)=false:=decide_eq_false (by omega)
 clear c2
 replace H:=oC H
 obtain ⟨⟨t306,t309,t310⟩,A30,H⟩:=H
 replace H:((impl_QueueLess.f k t306 t309 t310).bind fun bt312=>((spec_QueueLess.f k t306 t309 t310).bind fun bt318=>((laws_qdQueue.f k bt312.1 bt312.2.1 bt318.1 bt318.2.1).bind fun t324=>(if t324=true then (laws_FnQueueLess.j0 k t310 bt312.2.2 (bt312.2.2 == bt318.2.2) t306 t309 bt312.1 bt312.2.1) else (laws_FnQueueLess.j0 k t310 bt312.2.2 false t306 t309 bt312.1 bt312.2.1)))))=some r:=H
 have A3:=Am A30
 clear A30
 replace H:=oC H
 obtain ⟨⟨t312,t315,t316⟩,A40,H⟩:=H
 replace H:((spec_QueueLess.f k t306 t309 t310).bind fun bt318=>((laws_qdQueue.f k t312 t315 bt318.1 bt318.2.1).bind fun t324=>(if t324=true then (laws_FnQueueLess.j0 k t310 t316 (t316 == bt318.2.2) t306 t309 t312 t315) else (laws_FnQueueLess.j0 k t310 t316 false t306 t309 t312 t315))))=some r:=H
 have A4:=Am A40
 clear A40
 replace H:=oC H
 obtain ⟨⟨t318,t321,t322⟩,A50,H⟩:=H
 replace H:((laws_qdQueue.f k t312 t315 t318 t321).bind fun t324=>(if t324=true then (laws_FnQueueLess.j0 k t310 t316 (t316 == t322) t306 t309 t312 t315) else (laws_FnQueueLess.j0 k t310 t316 false t306 t309 t312 t315)))=some r:=H
 have A5:=Am A50
 clear A50
 have HC6:=Am H
 clear H
 go_enter Try.func7,Try.ntmps7
 go_upto_region 6 with (first|((with_reducible refine gate_callee (f:=27) rfl ?_);refine goesL_ (some 15) rfl rfl Try.func27 (by kernel_rfl) rfl #[.slice A0 l0.length c0] rfl (by (try simp only [lM,lC,lN]);first|done|rfl|(simp only [lD,lT];rfl)) ?_;(with_reducible refine (spec_DrawQueueLess.calls k _ _ l0 t306 t309 t310 _ ?side1 ?side2 A3.out).mono ?_);(case side1=>exact cL HR0.out);(case side2=>exact HC0.out);rintro e w7 ⟨v307,rfl,ho0,hb⟩;refine ⟨_,rfl,?_⟩;have n0_:=Am (Kd.R_lower ho0 (bZ (by repeat (first|(with_reducible first|exact HB.out|apply oA|apply pN|apply o1)|exact HB.out))));have n1_:=Am (bP (by repeat (first|(with_reducible first|exact HB.out|apply oA|apply pN|apply o1)|exact HB.out)) hb);clear HB;revert n0_ n1_;intro Bg HB;(try clear hb);(try clear hb2);(try clear hk);(try clear hi);(try clear ho0))|((with_reducible refine gate_dst (N:=3) rfl ?_);(try (refine gate_guard (by rfl) ?_;dsimp only));refine box_event ?hg (N:=3) ?hd (cs:=#[.slice none 0 0,.int .i64 0]) (t:=25) ?hr ?_;(case hd=>rfl);(case hg=>rfl);(case hr=>first|(go_simp;done)|(go_simp;rfl));intro Bf hg w8 hbox hb;have n0_:=Am (rB (rL Bg.out) hb);have n1_:=Am (bP (by repeat (first|(with_reducible first|exact HB.out|apply oA|apply pN|apply o1)|exact HB.out)) hb);have n2_:=Am (hbox);have n3_:=Am ((by rw [hg];exact (bZ (by repeat (first|(with_reducible first|exact HB.out|apply oA|apply pN|apply o1)|exact HB.out))):w.heap.size≤Bf));have n4_:=Am ((by rw [hg];exact (bZ (by repeat (first|(with_reducible first|exact HB.out|apply oA|apply pN|apply o1)|exact HB.out))):w.heap.size≤Bf));clear Bg HB;revert n0_ n1_ n2_ n3_ n4_;intro Bg HB Bb De Bj;clear hb hbox hg;obtain ⟨Ao9,co9,eo9⟩:=Kd.R_slice Bg.out;subst eo9;have Bv:=cz0 Bb.out;have Bw:=cz1 Bb.out;have Bx:=bF Bb.out 0;have By:=bF Bb.out 1)|((with_reducible refine gate_callee (f:=28) rfl ?_);refine goesL_ (some 21) rfl rfl Try.func28 (by kernel_rfl) rfl #[.agg #[.slice Ao9 t306.length co9,.int .i64 t309],.int .i64 t310] rfl (by (try simp only [lM,lC,lN]);first|done|rfl|(simp only [lD,lT];rfl)) ?_;(with_reducible refine (impl_QueueLess.calls k _ _ t306 t309 t310 t312 t315 t316 _ ?side1 ?side2 A4.out).mono ?_);(case side1=>refine (Kd.R_reads' (e:=40) (base:=w.heap.size) (ok:=fun k_=>True) (n:=t306.length) (c:=co9) ?_).2.2;exact (by (with_reducible repeat (first|apply rA|apply rN|apply rD));exact (rM (rF (p:=⟨Bf,1,none⟩) (rF (p:=⟨Bf,0,none⟩) (rT Bg.out Bb.out (by decide)) (fun _ hk=>hk.2) (.slice Ao9 t306.length co9)) (fun _ hk=>hk.2) (.int .i64 t309)) (fun _ h_=>h_.1))));(case side2=>exact (Kd.R_reads' Bg.out).2.1);rintro e w11 ⟨v313,rfl,ho0,hb⟩;refine ⟨_,rfl,?_⟩;have n0_:=Am (Kd.R_elder' (by (with_reducible repeat (first|apply rA|apply rN|apply rD));exact (rM (rF (p:=⟨Bf,1,none⟩) (rF (p:=⟨Bf,0,none⟩) (rT Bg.out Bb.out (by decide)) (fun _ hk=>hk.2) (.slice Ao9 t306.length co9)) (fun _ hk=>hk.2) (.int .i64 t309)) (fun _ h_=>h_.1))) (Kd.R_base ho0) hb);have n1_:=Am (Kd.R_lower (Kd.R_new' ho0 (Kd.R_lt (by (with_reducible repeat (first|apply rA|apply rN|apply rD));exact (rM (rF (p:=⟨Bf,1,none⟩) (rF (p:=⟨Bf,0,none⟩) (rT Bg.out Bb.out (by decide)) (fun _ hk=>hk.2) (.slice Ao9 t306.length co9)) (fun _ hk=>hk.2) (.int .i64 t309)) (fun _ h_=>h_.1))))) (bZ (by repeat (first|(with_reducible first|exact HB.out|apply oA|apply pN|apply o1|refine bS ?_ Bj.out)|exact HB.out))));have n2_:=Am (bB (g:=Bf) (o:=.cells #[.slice Ao9 t306.length co9,.int .i64 t309] 25 (0,0)) (by (with_reducible repeat (first|refine bN ?_ _|refine bD ?_|refine bA ?_ _));refine blk_put (cs:=#[.slice Ao9 t306.length co9,.int .i64 0]) ?_ 1 _ rfl;(with_reducible repeat (first|refine bN ?_ _|refine bD ?_|refine bA ?_ _));refine blk_put (cs:=#[.slice none 0 0,.int .i64 0]) ?_ 0 _ rfl;(with_reducible repeat (first|refine bN ?_ _|refine bD ?_|refine bA ?_ _));exact Bb.out) hb);have n3_:=Am (bP (by repeat (first|(with_reducible first|exact HB.out|apply oA|apply pN|apply o1|refine bS ?_ Bj.out)|exact HB.out)) hb);clear Bg Bb HB;revert n0_ n1_ n2_ n3_;intro Bg Bi Bb HB;(try clear hb);(try clear hb2);(try clear hk);(try clear hi);(try clear ho0))|((with_reducible refine gate_dst (N:=5) rfl ?_);(try (refine gate_guard (by rfl) ?_;dsimp only));refine box_event ?hg (N:=5) ?hd (cs:=#[.slice none 0 0,.int .i64 0]) (t:=25) ?hr ?_;(case hd=>rfl);(case hg=>rfl);(case hr=>first|(go_simp;done)|(go_simp;rfl));intro Be hg w12 hbox hb;have n0_:=Am (rB (rL Bg.out) hb);have n1_:=Am (rB (rL Bi.out) hb);have n2_:=Am (bX Bb.out hb);have n3_:=Am (bP (by repeat (first|(with_reducible first|exact HB.out|apply oA|apply pN|apply o1|refine bS ?_ Bj.out)|exact HB.out)) hb);have n4_:=Am (hbox);have n5_:=Am ((by rw [hg];exact (bZ (by repeat (first|(with_reducible first|exact HB.out|apply oA|apply pN|apply o1|refine bS ?_ Bj.out)|exact HB.out))):w.heap.size≤Be));have n6_:=Am ((by rw [hg];exact (bZ (by repeat (first|(with_reducible first|exact HB.out|apply oA|apply pN|apply o1|refine bS ?_ Bj.out)|exact HB.out))):w.heap.size≤Be));have n7_:=Am ((nL Bb.out hg));have n8_:=Am ((nG Bb.out hg));clear Bg Bi Bb HB;revert n0_ n1_ n2_ n3_ n4_ n5_ n6_ n7_ n8_;intro Bg Bi Bb HB Ba Df Bn Br Bs;clear hb hbox hg;obtain ⟨Ao13,co13,eo13⟩:=Kd.R_slice Bi.out;subst eo13;have Dg:=Bs.out;have Dh:=Br.out;have Bz:=cz0 Ba.out;have BA:=cz1 Ba.out;have BB:=bF Ba.out 0;have BC:=bF Ba.out 1;have BD:=cz0 Bb.out;have BE:=cz1 Bb.out;have BF:=bF Bb.out 0;have BG:=bF Bb.out 1)|((with_reducible refine gate_callee (f:=29) rfl ?_);refine goesL_ (some 27) rfl rfl Try.func29 (by kernel_rfl) rfl #[.agg #[.slice Ao9 t306.length co9,.int .i64 t309],.int .i64 t310] rfl (by (try simp only [lM,lC,lN]);first|done|rfl|(simp only [lD,lT];rfl)) ?_;(with_reducible refine (spec_QueueLess.calls k _ _ t306 t309 t310 t318 t321 t322 _ ?side1 ?side2 A5.out).mono ?_);(case side1=>refine (Kd.R_reads' (e:=40) (base:=w.heap.size) (ok:=fun k_=>(True∧some k_≠(.slice Ao13 t312.length co13:Value).ownBlock)) (n:=t306.length) (c:=co9) ?_).2.2;exact (by (with_reducible repeat (first|apply rA|apply rN|apply rD));exact (rM (rF (p:=⟨Be,1,none⟩) (rF (p:=⟨Be,0,none⟩) (rT Bg.out Ba.out (by decide)) (fun _ hk=>hk.2) (.slice Ao13 t312.length co13)) (fun _ hk=>hk.2) (.int .i64 t315)) (fun _ h_=>h_.1))));(case side2=>exact (Kd.R_reads' Bg.out).2.1);rintro e w17 ⟨v319,rfl,ho0,hb⟩;refine ⟨_,rfl,?_⟩;have n0_:=Am (Kd.R_elder' (by (with_reducible repeat (first|apply rA|apply rN|apply rD));exact (rM (rF (p:=⟨Be,1,none⟩) (rF (p:=⟨Be,0,none⟩) (rT Bg.out Ba.out (by decide)) (fun _ hk=>hk.2) (.slice Ao13 t312.length co13)) (fun _ hk=>hk.2) (.int .i64 t315)) (fun _ h_=>h_.1))) (Kd.R_base ho0) hb);have n1_:=Am (Kd.R_elder' (by (with_reducible repeat (first|apply rA|apply rN|apply rD));exact (rM (rF (p:=⟨Be,1,none⟩) (rF (p:=⟨Be,0,none⟩) (rT Bi.out Ba.out (by decide)) (fun _ hk=>hk.2) (.slice Ao13 t312.length co13)) (fun _ hk=>hk.2) (.int .i64 t315)) (fun _ h_=>h_.1))) (Kd.R_base ho0) hb);have n2_:=Am (Kd.R_lower (Kd.R_new' (Kd.R_new' ho0 (Kd.R_lt (by (with_reducible repeat (first|apply rA|apply rN|apply rD));exact (rM (rF (p:=⟨Be,1,none⟩) (rF (p:=⟨Be,0,none⟩) (rT Bg.out Ba.out (by decide)) (fun _ hk=>hk.2) (.slice Ao13 t312.length co13)) (fun _ hk=>hk.2) (.int .i64 t315)) (fun _ h_=>h_.1))))) (Kd.R_lt (by (with_reducible repeat (first|apply rA|apply rN|apply rD));exact (rM (rF (p:=⟨Be,1,none⟩) (rF (p:=⟨Be,0,none⟩) (rT Bi.out Ba.out (by decide)) (fun _ hk=>hk.2) (.slice Ao13 t312.length co13)) (fun _ hk=>hk.2) (.int .i64 t315)) (fun _ h_=>h_.1))))) (bZ (by repeat (first|(with_reducible first|exact HB.out|apply oA|apply pN|apply o1|refine bS ?_ Bj.out|refine bS ?_ Bn.out)|exact HB.out))));have n3_:=Am (bB (g:=Bf) (o:=.cells #[.slice Ao9 t306.length co9,.int .i64 t309] 25 (0,0)) (by (with_reducible repeat (first|refine bN ?_ _|refine bD ?_|refine bA ?_ _|refine blk_far ?_ Br.out _));exact Bb.out) hb);have n4_:=Am (bB (g:=Be) (o:=.cells #[.slice Ao13 t312.length co13,.int .i64 t315] 25 (0,0)) (by (with_reducible repeat (first|refine bN ?_ _|refine bD ?_|refine bA ?_ _));refine blk_put (cs:=#[.slice Ao13 t312.length co13,.int .i64 0]) ?_ 1 _ rfl;(with_reducible repeat (first|refine bN ?_ _|refine bD ?_|refine bA ?_ _));refine blk_put (cs:=#[.slice none 0 0,.int .i64 0]) ?_ 0 _ rfl;(with_reducible repeat (first|refine bN ?_ _|refine bD ?_|refine bA ?_ _));exact Ba.out) hb);have n5_:=Am (bP (by repeat (first|(with_reducible first|exact HB.out|apply oA|apply pN|apply o1|refine bS ?_ Bj.out|refine bS ?_ Bn.out)|exact HB.out)) hb);clear Bg Bi Bb Ba HB;revert n0_ n1_ n2_ n3_ n4_ n5_;intro Bg Bi Bm Bb Ba HB;(try clear hb);(try clear hb2);(try clear hk);(try clear hi);(try clear ho0))|((with_reducible refine gate_dst (N:=7) rfl ?_);(try (refine gate_guard (by rfl) ?_;dsimp only));refine box_event ?hg (N:=7) ?hd (cs:=#[.slice none 0 0,.int .i64 0]) (t:=25) ?hr ?_;(case hd=>rfl);(case hg=>rfl);(case hr=>first|(go_simp;done)|(go_simp;rfl));intro Bd hg w18 hbox hb;have n0_:=Am (rB (rL Bg.out) hb);have n1_:=Am (rB (rL Bi.out) hb);have n2_:=Am (rB (rL Bm.out) hb);have n3_:=Am (bX Bb.out hb);have n4_:=Am (bX Ba.out hb);have n5_:=Am (bP (by repeat (first|(with_reducible first|exact HB.out|apply oA|apply pN|apply o1|refine bS ?_ Bj.out|refine bS ?_ Bn.out)|exact HB.out)) hb);have n6_:=Am (hbox);have n7_:=Am ((by rw [hg];exact (bZ (by repeat (first|(with_reducible first|exact HB.out|apply oA|apply pN|apply o1|refine bS ?_ Bj.out|refine bS ?_ Bn.out)|exact HB.out))):w.heap.size≤Bd));have n8_:=Am ((by rw [hg];exact (bZ (by repeat (first|(with_reducible first|exact HB.out|apply oA|apply pN|apply o1|refine bS ?_ Bj.out|refine bS ?_ Bn.out)|exact HB.out))):w.heap.size≤Bd));have n9_:=Am ((nL Bb.out hg));have n10_:=Am ((nG Bb.out hg));have n11_:=Am ((nL Ba.out hg));have n12_:=Am ((nG Ba.out hg));clear Bg Bi Bm Bb Ba HB;revert n0_ n1_ n2_ n3_ n4_ n5_ n6_ n7_ n8_ n9_ n10_ n11_ n12_;intro Bg Bi Bm Bb Ba HB Bc Di Bq Bo Bt Bp Bu;clear hb hbox hg;obtain ⟨Ao19,co19,eo19⟩:=Kd.R_slice Bm.out;subst eo19;have Dj:=Bt.out;have Dk:=Bo.out;have Dl:=Bu.out;have Dm:=Bp.out;have BH:=cz0 Bc.out;have BI:=cz1 Bc.out;have BJ:=bF Bc.out 0;have BK:=bF Bc.out 1))
 (try simp only [Act.put,lA,lZ,lS])
 go_cut [9] (fun v9 wc=>∃ (kq:Nat) (x9_5:Bool),v9=.bool x9_5∧Aside0 (laws_FnQueueLess.j0 kq t310 t316 x9_5 t306 t309 t312 t315=some r)∧Aside0 (kq≤k)∧Aside0 (Kd.R k40 40 wc w.heap.size (fun k_=>some k_≠((.slice Ao13 t312.length co13):Value).ownBlock∧some k_≠((.slice Ao19 t318.length co19):Value).ownBlock) (.slice Ao9 t306.length co9) t306)∧Aside0 (Kd.R k40 40 wc w.heap.size (fun k_=>some k_≠((.slice Ao9 t306.length co9):Value).ownBlock∧some k_≠((.slice Ao19 t318.length co19):Value).ownBlock) (.slice Ao13 t312.length co13) t312)∧Aside0 (Kd.R k40 40 wc w.heap.size (fun k_=>some k_≠((.slice Ao9 t306.length co9):Value).ownBlock∧some k_≠((.slice Ao13 t312.length co13):Value).ownBlock) (.slice Ao19 t318.length co19) t318)∧Aside0 (wc.heap[Bf]?=some (.cells #[(.slice Ao9 t306.length co9),.int .i64 t309] 25 (0,0)))∧Aside0 (wc.heap[Be]?=some (.cells #[(.slice Ao13 t312.length co13),.int .i64 t315] 25 (0,0)))∧Aside0 (wc.heap[Bd]?=some (.cells #[(.slice Ao19 t318.length co19),.int .i64 t321] 25 (0,0)))∧Aside0 (Below w.heap.size w wc))
 case first =>
  have H:=HC6.out
  clear HC6
  replace H:=oC H
  obtain ⟨t324,A230,H⟩:=H
  replace H:(if t324=true then (laws_FnQueueLess.j0 k t310 t316 (t316 == t322) t306 t309 t312 t315) else (laws_FnQueueLess.j0 k t310 t316 false t306 t309 t312 t315))=some r:=H
  have A23:=Am A230
  clear A230
  by_cases c24:t324=true
  ·subst c24
   have H1:(laws_FnQueueLess.j0 k t310 t316 (t316 == t322) t306 t309 t312 t315)=some r:=by rw [if_pos rfl] at H;exact H
   clear H
   have H:=H1
   clear H1
   have H':=Am H
   clear H
   have Dn:=Bs.out
   have Do:=Br.out
   have Dp:=Bp.out
   have Dq:=Bu.out
   have BL:=cz0 Ba.out
   have BM:=cz1 Ba.out
   have BN:=bF Ba.out 0
   have BO:=bF Ba.out 1
   have Dr:=Bt.out
   have Ds:=Bo.out
   have BP:=cz0 Bc.out
   have BQ:=cz1 Bc.out
   have BR:=bF Bc.out 0
   have BS:=bF Bc.out 1
   go_wp2_with (first|((with_reducible refine gate_callee (f:=15) rfl ?_);refine goesL_ (some 32) rfl rfl Try.func15 (by kernel_rfl) rfl #[.agg #[.slice Ao13 t312.length co13,.int .i64 t315],.agg #[.slice Ao19 t318.length co19,.int .i64 t321]] rfl (by (try simp only [lM,lC,lN]);first|done|rfl|(simp only [lD,lT];rfl)) ?_;(with_reducible refine (laws_qdQueue.calls k _ _ t312 t315 _ _ t318 t321 true _ ?side1 ?side2 ?side3 ?side4 A23.out).mono ?_);(case side1=>refine (Kd.R_reads' (e:=40) (base:=w.heap.size) (ok:=fun k_=>((True∧some k_≠(.slice Ao9 t306.length co9:Value).ownBlock)∧some k_≠(.slice Ao19 t318.length co19:Value).ownBlock)) (n:=t312.length) (c:=co13) ?_).2.2;exact (by (with_reducible repeat (first|apply rA|apply rN|apply rD));exact (rM (rF (p:=⟨Bd,1,none⟩) (rF (p:=⟨Bd,0,none⟩) (rT Bi.out Bc.out (by decide)) (fun _ hk=>hk.2) (.slice Ao19 t318.length co19)) (fun _ hk=>hk.2) (.int .i64 t321)) (fun _ h_=>h_.1))));(case side2=>exact (Kd.R_reads' Bi.out).2.1);(case side3=>refine (Kd.R_reads' (e:=40) (base:=w.heap.size) (ok:=fun k_=>((True∧some k_≠(.slice Ao9 t306.length co9:Value).ownBlock)∧some k_≠(.slice Ao13 t312.length co13:Value).ownBlock)) (n:=t318.length) (c:=co19) ?_).2.2;exact (by (with_reducible repeat (first|apply rA|apply rN|apply rD));exact (rM (rF (p:=⟨Bd,1,none⟩) (rF (p:=⟨Bd,0,none⟩) (rT Bm.out Bc.out (by decide)) (fun _ hk=>hk.2) (.slice Ao19 t318.length co19)) (fun _ hk=>hk.2) (.int .i64 t321)) (fun _ h_=>h_.1))));(case side4=>exact (Kd.R_reads' Bm.out).2.1);rintro e w30 ⟨rfl,hb⟩;refine ⟨_,rfl,?_⟩;have n0_:=Am (rB (by (with_reducible repeat (first|apply rA|apply rN|apply rD));exact (rM (rF (p:=⟨Bd,1,none⟩) (rF (p:=⟨Bd,0,none⟩) (rT Bg.out Bc.out (by decide)) (fun _ hk=>hk.2) (.slice Ao19 t318.length co19)) (fun _ hk=>hk.2) (.int .i64 t321)) (fun _ h_=>h_.1))) hb);have n1_:=Am (rB (by (with_reducible repeat (first|apply rA|apply rN|apply rD));exact (rM (rF (p:=⟨Bd,1,none⟩) (rF (p:=⟨Bd,0,none⟩) (rT Bi.out Bc.out (by decide)) (fun _ hk=>hk.2) (.slice Ao19 t318.length co19)) (fun _ hk=>hk.2) (.int .i64 t321)) (fun _ h_=>h_.1))) hb);have n2_:=Am (rB (by (with_reducible repeat (first|apply rA|apply rN|apply rD));exact (rM (rF (p:=⟨Bd,1,none⟩) (rF (p:=⟨Bd,0,none⟩) (rT Bm.out Bc.out (by decide)) (fun _ hk=>hk.2) (.slice Ao19 t318.length co19)) (fun _ hk=>hk.2) (.int .i64 t321)) (fun _ h_=>h_.1))) hb);have n3_:=Am (bB (g:=Bf) (o:=.cells #[.slice Ao9 t306.length co9,.int .i64 t309] 25 (0,0)) (by (with_reducible repeat (first|refine bN ?_ _|refine bD ?_|refine bA ?_ _|refine blk_far ?_ Bo.out _));exact Bb.out) hb);have n4_:=Am (bB (g:=Be) (o:=.cells #[.slice Ao13 t312.length co13,.int .i64 t315] 25 (0,0)) (by (with_reducible repeat (first|refine bN ?_ _|refine bD ?_|refine bA ?_ _|refine blk_far ?_ Bp.out _));exact Ba.out) hb);have n5_:=Am (bB (g:=Bd) (o:=.cells #[.slice Ao19 t318.length co19,.int .i64 t321] 25 (0,0)) (by (with_reducible repeat (first|refine bN ?_ _|refine bD ?_|refine bA ?_ _));refine blk_put (cs:=#[.slice Ao19 t318.length co19,.int .i64 0]) ?_ 1 _ rfl;(with_reducible repeat (first|refine bN ?_ _|refine bD ?_|refine bA ?_ _));refine blk_put (cs:=#[.slice none 0 0,.int .i64 0]) ?_ 0 _ rfl;(with_reducible repeat (first|refine bN ?_ _|refine bD ?_|refine bA ?_ _));exact Bc.out) hb);have n6_:=Am (bP (by repeat (first|(with_reducible first|exact HB.out|apply oA|apply pN|apply o1|refine bS ?_ Bj.out|refine bS ?_ Bn.out|refine bS ?_ Bq.out)|exact HB.out)) hb);clear Bg Bi Bm Bb Ba Bc HB;revert n0_ n1_ n2_ n3_ n4_ n5_ n6_;intro Bg Bi Bm Bb Ba Bc HB;(try clear hb);(try clear hb2);(try clear hk);(try clear hi)))
   go_meet
   case rel=>exact ⟨_,((t316 == t322)),(by first|rfl|(simp;done)|(simp [*];done)),H',⟨by first|omega|exact Nat.le_refl _⟩,⟨by (with_reducible repeat (first|apply rA|apply rN|apply rD));exact rM Bg.out (fun _ hk=>⟨hk.1.2,hk.2⟩)⟩,⟨by (with_reducible repeat (first|apply rA|apply rN|apply rD));exact rM Bi.out (fun _ hk=>⟨hk.1.2,hk.2⟩)⟩,⟨by (with_reducible repeat (first|apply rA|apply rN|apply rD));exact rM Bm.out (fun _ hk=>⟨hk.1.2,hk.2⟩)⟩,⟨by (with_reducible repeat (first|refine bN ?_ _|refine bD ?_|refine bA ?_ _));exact Bb.out⟩,⟨by (with_reducible repeat (first|refine bN ?_ _|refine bD ?_|refine bA ?_ _));exact Ba.out⟩,⟨by (with_reducible repeat (first|refine bN ?_ _|refine bD ?_|refine bA ?_ _));exact Bc.out⟩,⟨by repeat (first|(with_reducible first|exact HB.out|apply oA|apply pN|apply o1|refine bS ?_ Bj.out|refine bS ?_ Bn.out|refine bS ?_ Bq.out)|exact HB.out)⟩⟩
  replace c24:=Bool.eq_false_iff.mpr c24
  subst c24
  have H1:(laws_FnQueueLess.j0 k t310 t316 false t306 t309 t312 t315)=some r:=by rw [if_neg (show ¬ (false=true) by decide)] at H;exact H
  clear H
  have H:=H1
  clear H1
  have H':=Am H
  clear H
  have Dt:=Bs.out
  have Du:=Br.out
  have Dv:=Bp.out
  have Dw:=Bu.out
  have BT:=cz0 Ba.out
  have BU:=cz1 Ba.out
  have BV:=bF Ba.out 0
  have BW:=bF Ba.out 1
  have Dx:=Bt.out
  have Dy:=Bo.out
  have BX:=cz0 Bc.out
  have BY:=cz1 Bc.out
  have BZ:=bF Bc.out 0
  have B0:=bF Bc.out 1
  go_wp2_with (first|((with_reducible refine gate_callee (f:=15) rfl ?_);refine goesL_ (some 32) rfl rfl Try.func15 (by kernel_rfl) rfl #[.agg #[.slice Ao13 t312.length co13,.int .i64 t315],.agg #[.slice Ao19 t318.length co19,.int .i64 t321]] rfl (by (try simp only [lM,lC,lN]);first|done|rfl|(simp only [lD,lT];rfl)) ?_;(with_reducible refine (laws_qdQueue.calls k _ _ t312 t315 _ _ t318 t321 false _ ?side1 ?side2 ?side3 ?side4 A23.out).mono ?_);(case side1=>refine (Kd.R_reads' (e:=40) (base:=w.heap.size) (ok:=fun k_=>((True∧some k_≠(.slice Ao9 t306.length co9:Value).ownBlock)∧some k_≠(.slice Ao19 t318.length co19:Value).ownBlock)) (n:=t312.length) (c:=co13) ?_).2.2;exact (by (with_reducible repeat (first|apply rA|apply rN|apply rD));exact (rM (rF (p:=⟨Bd,1,none⟩) (rF (p:=⟨Bd,0,none⟩) (rT Bi.out Bc.out (by decide)) (fun _ hk=>hk.2) (.slice Ao19 t318.length co19)) (fun _ hk=>hk.2) (.int .i64 t321)) (fun _ h_=>h_.1))));(case side2=>exact (Kd.R_reads' Bi.out).2.1);(case side3=>refine (Kd.R_reads' (e:=40) (base:=w.heap.size) (ok:=fun k_=>((True∧some k_≠(.slice Ao9 t306.length co9:Value).ownBlock)∧some k_≠(.slice Ao13 t312.length co13:Value).ownBlock)) (n:=t318.length) (c:=co19) ?_).2.2;exact (by (with_reducible repeat (first|apply rA|apply rN|apply rD));exact (rM (rF (p:=⟨Bd,1,none⟩) (rF (p:=⟨Bd,0,none⟩) (rT Bm.out Bc.out (by decide)) (fun _ hk=>hk.2) (.slice Ao19 t318.length co19)) (fun _ hk=>hk.2) (.int .i64 t321)) (fun _ h_=>h_.1))));(case side4=>exact (Kd.R_reads' Bm.out).2.1);rintro e w36 ⟨rfl,hb⟩;refine ⟨_,rfl,?_⟩;have n0_:=Am (rB (by (with_reducible repeat (first|apply rA|apply rN|apply rD));exact (rM (rF (p:=⟨Bd,1,none⟩) (rF (p:=⟨Bd,0,none⟩) (rT Bg.out Bc.out (by decide)) (fun _ hk=>hk.2) (.slice Ao19 t318.length co19)) (fun _ hk=>hk.2) (.int .i64 t321)) (fun _ h_=>h_.1))) hb);have n1_:=Am (rB (by (with_reducible repeat (first|apply rA|apply rN|apply rD));exact (rM (rF (p:=⟨Bd,1,none⟩) (rF (p:=⟨Bd,0,none⟩) (rT Bi.out Bc.out (by decide)) (fun _ hk=>hk.2) (.slice Ao19 t318.length co19)) (fun _ hk=>hk.2) (.int .i64 t321)) (fun _ h_=>h_.1))) hb);have n2_:=Am (rB (by (with_reducible repeat (first|apply rA|apply rN|apply rD));exact (rM (rF (p:=⟨Bd,1,none⟩) (rF (p:=⟨Bd,0,none⟩) (rT Bm.out Bc.out (by decide)) (fun _ hk=>hk.2) (.slice Ao19 t318.length co19)) (fun _ hk=>hk.2) (.int .i64 t321)) (fun _ h_=>h_.1))) hb);have n3_:=Am (bB (g:=Bf) (o:=.cells #[.slice Ao9 t306.length co9,.int .i64 t309] 25 (0,0)) (by (with_reducible repeat (first|refine bN ?_ _|refine bD ?_|refine bA ?_ _|refine blk_far ?_ Bo.out _));exact Bb.out) hb);have n4_:=Am (bB (g:=Be) (o:=.cells #[.slice Ao13 t312.length co13,.int .i64 t315] 25 (0,0)) (by (with_reducible repeat (first|refine bN ?_ _|refine bD ?_|refine bA ?_ _|refine blk_far ?_ Bp.out _));exact Ba.out) hb);have n5_:=Am (bB (g:=Bd) (o:=.cells #[.slice Ao19 t318.length co19,.int .i64 t321] 25 (0,0)) (by (with_reducible repeat (first|refine bN ?_ _|refine bD ?_|refine bA ?_ _));refine blk_put (cs:=#[.slice Ao19 t318.length co19,.int .i64 0]) ?_ 1 _ rfl;(with_reducible repeat (first|refine bN ?_ _|refine bD ?_|refine bA ?_ _));refine blk_put (cs:=#[.slice none 0 0,.int .i64 0]) ?_ 0 _ rfl;(with_reducible repeat (first|refine bN ?_ _|refine bD ?_|refine bA ?_ _));exact Bc.out) hb);have n6_:=Am (bP (by repeat (first|(with_reducible first|exact HB.out|apply oA|apply pN|apply o1|refine bS ?_ Bj.out|refine bS ?_ Bn.out|refine bS ?_ Bq.out)|exact HB.out)) hb);clear Bg Bi Bm Bb Ba Bc HB;revert n0_ n1_ n2_ n3_ n4_ n5_ n6_;intro Bg Bi Bm Bb Ba Bc HB;(try clear hb);(try clear hb2);(try clear hk);(try clear hi)))
  go_meet
  case rel=>exact ⟨_,(false),(by first|rfl|(simp;done)|(simp [*];done)),H',⟨by first|omega|exact Nat.le_refl _⟩,⟨by (with_reducible repeat (first|apply rA|apply rN|apply rD));exact rM Bg.out (fun _ hk=>⟨hk.1.2,hk.2⟩)⟩,⟨by (with_reducible repeat (first|apply rA|apply rN|apply rD));exact rM Bi.out (fun _ hk=>⟨hk.1.2,hk.2⟩)⟩,⟨by (with_reducible repeat (first|apply rA|apply rN|apply rD));exact rM Bm.out (fun _ hk=>⟨hk.1.2,hk.2⟩)⟩,⟨by (with_reducible repeat (first|refine bN ?_ _|refine bD ?_|refine bA ?_ _));exact Bb.out⟩,⟨by (with_reducible repeat (first|refine bN ?_ _|refine bD ?_|refine bA ?_ _));exact Ba.out⟩,⟨by (with_reducible repeat (first|refine bN ?_ _|refine bD ?_|refine bA ?_ _));exact Bc.out⟩,⟨by repeat (first|(with_reducible first|exact HB.out|apply oA|apply pN|apply o1|refine bS ?_ Bj.out|refine bS ?_ Bn.out|refine bS ?_ Bq.out)|exact HB.out)⟩⟩
 case rest =>
  clear HC6
  try clear c1
  try clear c2
  try clear c2b0
  try clear c2b1
  try clear p2
  try clear c3
  try clear c7
  try clear c14
  try clear c15
  try clear c20
  try clear c21
  try clear c24
  try clear c25
  try clear c26
  try clear c27
  try clear c28
  try clear c29
  try clear c31
  try clear c32
  try clear c34
  try clear Bv
  try clear Bw
  try clear Bz
  try clear BA
  try clear BD
  try clear BE
  try clear BH
  try clear BI
  try clear BL
  try clear BM
  try clear BP
  try clear BQ
  try clear BT
  try clear BU
  try clear BX
  try clear BY
  try clear Bx
  try clear By
  try clear BB
  try clear BC
  try clear BF
  try clear BG
  try clear BJ
  try clear BK
  try clear BN
  try clear BO
  try clear BR
  try clear BS
  try clear BV
  try clear BW
  try clear BZ
  try clear B0
  obtain ⟨kq,x9_5,rfl,HA,B1,Bk,Bh,Bl,Bb,Ba,Bc,HB⟩:=hcut
  cases kq with
 |zero=>exact absurd HA.out (by simp [laws_FnQueueLess.j0])
 |succ kj5 =>
   have H:=HA.out
   clear HA
   simp only [laws_FnQueueLess.j0] at H
   have HC37:=Am H
   clear H
   go_upto_region 7 with (fail)
   go_cut [43] (fun v43 wc=>∃ (kq:Nat) (x43_36:Bool),v43=.bool x43_36∧Aside0 (laws_FnQueueLess.j1 kq t310 x9_5 x43_36 t306 t309 t312 t315=some r)∧Aside0 (kq≤kj5)∧Aside0 (Kd.R k40 40 wc w.heap.size (fun k_=>some k_≠((.slice Ao13 t312.length co13):Value).ownBlock∧some k_≠((.slice Ao19 t318.length co19):Value).ownBlock) (.slice Ao9 t306.length co9) t306)∧Aside0 (Kd.R k40 40 wc w.heap.size (fun k_=>some k_≠((.slice Ao9 t306.length co9):Value).ownBlock∧some k_≠((.slice Ao19 t318.length co19):Value).ownBlock) (.slice Ao13 t312.length co13) t312)∧Aside0 (Kd.R k40 40 wc w.heap.size (fun k_=>some k_≠((.slice Ao9 t306.length co9):Value).ownBlock∧some k_≠((.slice Ao13 t312.length co13):Value).ownBlock) (.slice Ao19 t318.length co19) t318)∧Aside0 (wc.heap[Bf]?=some (.cells #[(.slice Ao9 t306.length co9),.int .i64 t309] 25 (0,0)))∧Aside0 (wc.heap[Be]?=some (.cells #[(.slice Ao13 t312.length co13),.int .i64 t315] 25 (0,0)))∧Aside0 (wc.heap[Bd]?=some (.cells #[(.slice Ao19 t318.length co19),.int .i64 t321] 25 (0,0)))∧Aside0 (Below w.heap.size w wc))
   case first =>
    have H:=HC37.out
    clear HC37
    by_cases c38:x9_5=true
    ·subst c38
     have H1:(laws_FnQueueLess.j1 kj5 t310 true (!t316) t306 t309 t312 t315)=some r:=by rw [if_pos rfl] at H;exact H
     clear H
     have H:=H1
     clear H1
     have H':=Am H
     clear H
     go_wp2
     go_meet
     case rel=>exact ⟨_,(!t316),(by first|rfl|(simp;done)|(simp [*];done)),H',⟨by have:=B1.out;first|omega|exact Nat.le_refl _⟩,⟨by (with_reducible repeat (first|apply rA|apply rN|apply rD));exact Bk.out⟩,⟨by (with_reducible repeat (first|apply rA|apply rN|apply rD));exact Bh.out⟩,⟨by (with_reducible repeat (first|apply rA|apply rN|apply rD));exact Bl.out⟩,⟨by (with_reducible repeat (first|refine bN ?_ _|refine bD ?_|refine bA ?_ _));exact Bb.out⟩,⟨by (with_reducible repeat (first|refine bN ?_ _|refine bD ?_|refine bA ?_ _));exact Ba.out⟩,⟨by (with_reducible repeat (first|refine bN ?_ _|refine bD ?_|refine bA ?_ _));exact Bc.out⟩,⟨by repeat (first|(with_reducible first|exact HB.out|apply oA|apply pN|apply o1|refine bS ?_ Bj.out|refine bS ?_ Bn.out|refine bS ?_ Bq.out)|exact HB.out)⟩⟩
    replace c38:=Bool.eq_false_iff.mpr c38
    subst c38
    have H1:(laws_FnQueueLess.j1 kj5 t310 false true t306 t309 t312 t315)=some r:=by rw [if_neg (show ¬ (false=true) by decide)] at H;exact H
    clear H
    have H:=H1
    clear H1
    have H':=Am H
    clear H
    go_wp2
    go_meet
    case rel=>exact ⟨_,(true),(by first|rfl|(simp;done)|(simp [*];done)),H',⟨by have:=B1.out;first|omega|exact Nat.le_refl _⟩,⟨by (with_reducible repeat (first|apply rA|apply rN|apply rD));exact Bk.out⟩,⟨by (with_reducible repeat (first|apply rA|apply rN|apply rD));exact Bh.out⟩,⟨by (with_reducible repeat (first|apply rA|apply rN|apply rD));exact Bl.out⟩,⟨by (with_reducible repeat (first|refine bN ?_ _|refine bD ?_|refine bA ?_ _));exact Bb.out⟩,⟨by (with_reducible repeat (first|refine bN ?_ _|refine bD ?_|refine bA ?_ _));exact Ba.out⟩,⟨by (with_reducible repeat (first|refine bN ?_ _|refine bD ?_|refine bA ?_ _));exact Bc.out⟩,⟨by repeat (first|(with_reducible first|exact HB.out|apply oA|apply pN|apply o1|refine bS ?_ Bj.out|refine bS ?_ Bn.out|refine bS ?_ Bq.out)|exact HB.out)⟩⟩
   case rest =>
    clear HC37
    try clear c1
    try clear c2
    try clear c2b0
    try clear c2b1
    try clear p2
    try clear c3
    try clear c7
    try clear c14
    try clear c15
    try clear c20
    try clear c21
    try clear c24
    try clear c25
    try clear c26
    try clear c27
    try clear c28
    try clear c29
    try clear c31
    try clear c32
    try clear c34
    try clear c38
    try clear Bv
    try clear Bw
    try clear Bz
    try clear BA
    try clear BD
    try clear BE
    try clear BH
    try clear BI
    try clear BL
    try clear BM
    try clear BP
    try clear BQ
    try clear BT
    try clear BU
    try clear BX
    try clear BY
    try clear Bx
    try clear By
    try clear BB
    try clear BC
    try clear BF
    try clear BG
    try clear BJ
    try clear BK
    try clear BN
    try clear BO
    try clear BR
    try clear BS
    try clear BV
    try clear BW
    try clear BZ
    try clear B0
    try clear p2
    obtain ⟨kq,x43_36,rfl,HA,DF,Bk,Bh,Bl,Bb,Ba,Bc,HB⟩:=hcut
    cases kq with
   |zero=>exact absurd HA.out (by simp [laws_FnQueueLess.j1])
   |succ kj36 =>
     have H:=HA.out
     clear HA
     simp only [laws_FnQueueLess.j1] at H
     by_cases c39:x43_36=true
     ·subst c39
      have H1:(some x9_5)=some r:=by rw [if_pos rfl] at H;exact H
      clear H
      have H:=H1
      clear H1
      obtain rfl:=Option.some.inj H
      go_wp2
      go_ret
      exact ⟨by first|rfl|(simp [errW_none,errW_some] <;> rfl)|(simp [*,errW_none,errW_some] <;> rfl),by repeat (first|(with_reducible first|exact HB.out|apply oA|apply pN|apply o1|refine bS ?_ Bj.out|refine bS ?_ Bn.out|refine bS ?_ Bq.out)|exact HB.out)⟩
     replace c39:=Bool.eq_false_iff.mpr c39
     subst c39
     have H1:((impl_QueueOk.f kj36 t312 t315).bind fun t325=>(if t325=true then (if (t312.length:Int)=(wrap64 ((t306.length:Int) - 1)) then ((impl_QueueNext.f kj36 t312 t315).bind fun t326=>(some (t326 != t310))) else (some false)) else (some false)))=some r:=by rw [if_neg (show ¬ (false=true) by decide)] at H;exact H
     clear H
     have H:=H1
     clear H1
     replace H:=oC H
     obtain ⟨t325,A400,H⟩:=H
     replace H:(if t325=true then (if (t312.length:Int)=(wrap64 ((t306.length:Int) - 1)) then ((impl_QueueNext.f kj36 t312 t315).bind fun t326=>(some (t326 != t310))) else (some false)) else (some false))=some r:=H
     have A40:=Am A400
     clear A400
     by_cases c41:t325=true
     rotate_left
     ·replace c41:=Bool.eq_false_iff.mpr c41
      subst c41
      have H1:(some false)=some r:=by rw [if_neg (show ¬ (false=true) by decide)] at H;exact H
      clear H
      have H:=H1
      clear H1
      exact absurd ((Option.some.inj H).trans hT_.out) (by decide)

     subst c41
     have H1:(if (t312.length:Int)=(wrap64 ((t306.length:Int) - 1)) then ((impl_QueueNext.f kj36 t312 t315).bind fun t326=>(some (t326 != t310))) else (some false))=some r:=by rw [if_pos rfl] at H;exact H
     clear H
     have H:=H1
     clear H1
     by_cases c42:(t312.length:Int)=(wrap64 ((t306.length:Int) - 1))
     rotate_left
     ·rw [if_neg c42] at H
      have c42b0:((t312.length:Int) == (wrap64 ((t306.length:Int) - 1)))=false:=beq_eq_false_iff_ne.mpr c42
      have c42b1:((t312.length:Int) != (wrap64 ((t306.length:Int) - 1)))=true:=bne_iff_ne.mpr c42
      exact absurd ((Option.some.inj H).trans hT_.out) (by decide)
     rw [if_pos c42] at H
     have c42b0:((t312.length:Int) == (wrap64 ((t306.length:Int) - 1)))=true:=beq_iff_eq.mpr c42
     have c42b1:((t312.length:Int) != (wrap64 ((t306.length:Int) - 1)))=false:=bne_eq_false_iff_eq.mpr c42
     clear c42
     replace H:=oC H
     obtain ⟨t326,A430,H⟩:=H
     replace H:(some (t326 != t310))=some r:=H
     have A43:=Am A430
     clear A430
     obtain rfl:=Option.some.inj H
     have Dz:=Bs.out
     have DA:=Br.out
     have DB:=Bp.out
     have DC:=Bu.out
     have B2:=cz0 Ba.out
     have B3:=cz1 Ba.out
     have B4:=bF Ba.out 0
     have B5:=bF Ba.out 1
     go_wp2_with (first|((with_reducible refine gate_callee (f:=16) rfl ?_);refine goesL_ (some 46) rfl rfl Try.func16 (by kernel_rfl) rfl #[.agg #[.slice Ao13 t312.length co13,.int .i64 t315]] rfl (by (try simp only [lM,lC,lN]);first|done|rfl|(simp only [lD,lT];rfl)) ?_;(with_reducible refine (impl_QueueOk.calls kj36 _ _ t312 t315 true _ ?side1 ?side2 A40.out).mono ?_);(case side1=>exact cL (Kd.R_reads' Bh.out).2.2);(case side2=>exact (Kd.R_reads' Bh.out).2.1);rintro e w47 ⟨rfl,hb⟩;refine ⟨_,rfl,?_⟩;have n0_:=Am (rB (rL Bk.out) hb);have n1_:=Am (rB (rL Bh.out) hb);have n2_:=Am (rB (rL Bl.out) hb);have n3_:=Am (bX Bb.out hb);have n4_:=Am (bX Ba.out hb);have n5_:=Am (bX Bc.out hb);have n6_:=Am (bP (by repeat (first|(with_reducible first|exact HB.out|apply oA|apply pN|apply o1|refine bS ?_ Bj.out|refine bS ?_ Bn.out|refine bS ?_ Bq.out)|exact HB.out)) hb);clear Bk Bh Bl Bb Ba Bc HB;revert n0_ n1_ n2_ n3_ n4_ n5_ n6_;intro Bk Bh Bl Bb Ba Bc HB;(try clear hb);(try clear hb2);(try clear hk);(try clear hi);have B6:=cz0 Ba.out;have B7:=cz1 Ba.out;have B8:=bF Ba.out 0;have B9:=bF Ba.out 1;have DD:=Bo.out;have DE:=Bt.out;have Da:=cz0 Bb.out;have Db:=cz1 Bb.out;have Dc:=bF Bb.out 0;have Dd:=bF Bb.out 1)|(go_at_call 23;(with_reducible refine (impl_QueueNext.calls kj36 _ _ t312 t315 t326 _ ?side1 ?side2 A43.out).mono ?_);(case side1=>exact cL (Kd.R_reads' Bh.out).2.2);(case side2=>exact (Kd.R_reads' Bh.out).2.1);rintro e w51 ⟨rfl,hb⟩;have n0_:=Am (rB (rL Bk.out) hb);have n1_:=Am (rB (rL Bh.out) hb);have n2_:=Am (rB (rL Bl.out) hb);have n3_:=Am (bX Bb.out hb);have n4_:=Am (bX Ba.out hb);have n5_:=Am (bX Bc.out hb);have n6_:=Am (bP (by repeat (first|(with_reducible first|exact HB.out|apply oA|apply pN|apply o1|refine bS ?_ Bj.out|refine bS ?_ Bn.out|refine bS ?_ Bq.out)|exact HB.out)) hb);clear Bk Bh Bl Bb Ba Bc HB;revert n0_ n1_ n2_ n3_ n4_ n5_ n6_;intro Bk Bh Bl Bb Ba Bc HB;(try clear hb);(try clear hb2);(try clear hk);(try clear hi)))
     go_ret
     exact ⟨by first|rfl|(simp [errW_none,errW_some] <;> rfl)|(simp [*,errW_none,errW_some] <;> rfl),by repeat (first|(with_reducible first|exact HB.out|apply oA|apply pN|apply o1|refine bS ?_ Bj.out|refine bS ?_ Bn.out|refine bS ?_ Bq.out)|exact HB.out)⟩
/-- THE ONE PURE STATEMENT of laws_FnQueueLess: yours. -/
def laws_FnQueueLess.Pure:Prop:=∀ (l0:List Int),l0.length≤maxLen → l0.length * 1≤140737488351232 → (∀ x ∈ l0,(Lit.int .u8 x).wf=true) → ∃ k,laws_FnQueueLess.f k l0=some true
theorem laws_FnQueueLess.walk (P:laws_FnQueueLess.Pure) (a0:Option Addr) (len0 cap0:Nat) (z0:List Int) (w:World) (w0:(a0=none∧len0=0∧cap0=0∧z0=[])∨∃ x,a0=some x∧len0≤cap0∧cap0≤maxLen∧z0.length=cap0∧(∀ i,i<z0.length → w.cell? (x.add i)=some (.int .u8 (z0.getD i 0)))∧∀ n ∈ z0,(Lit.int .u8 n).wf=true) (y0:len0 * 1≤140737488351232) :
  Calls Try.prog 7 #[.slice a0 len0 cap0] w fun e w'=>e=.returned (.bool true)∧Below w.heap.size w w':=by
 obtain ⟨l0,rfl,hr0,hm0,hw0,hc0⟩:=ReadsInt.ofRowC w0
 obtain ⟨k,h⟩:=P l0 hm0 y0 hw0
 refine (laws_FnQueueLess.calls k _ _ l0 true w (Kd.C_of_reads (d:=(0:Int)) (h1:=fun _=>rfl) hr0) hc0 h ⟨rfl⟩).mono ?_
 rintro e w' ⟨rfl,hd⟩
 exact ⟨rfl,hd⟩

end Go.Proofs.Ytfhcgmfodfcpeaa.PFnQueueLess
