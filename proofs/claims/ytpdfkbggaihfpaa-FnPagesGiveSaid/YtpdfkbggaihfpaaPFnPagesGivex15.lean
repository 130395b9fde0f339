/- Proved here, without a condition beyond those that each theorem states: what the Go functions named below do is what the plain functions of the same names say. Written by xprint.py, a program of this session. -/
import Derived.Test.YtpdfkbggaihfpaaPFnPagesGivex0
import Derived.Test.YtpdfkbggaihfpaaPFnPagesGivex1
import Derived.Test.YtpdfkbggaihfpaaPFnPagesGivex2
import Derived.Test.YtpdfkbggaihfpaaPFnPagesGivex3
import Derived.Test.YtpdfkbggaihfpaaPFnPagesGivex5
import Derived.Test.YtpdfkbggaihfpaaPFnPagesGivex10
import Derived.Test.YtpdfkbggaihfpaaPFnPagesGivex14
namespace Go.Proofs.Ytpdfkbggaihfpaa.PFnPagesGive
open Go.RowKit Go.Proofs.YtpdfkbggaihfpaaW.PrintWords Go.Proofs.YtpdfkbggaihfpaaW.PrintLast Go.Proofs.YtpdfkbggaihfpaaW.PrintMore
attribute [local go_sem] max2_int min2_int max_two min_two max_three min_three max_four min_four   -- for this text's walks alone
set_option linter.unusedVariables false
set_option linter.unusedSimpArgs false

attribute [local go_sem ↓] isSome_setCell_
/-! ### laws_FnPagesGive: function 6 -/
mutual
def laws_FnPagesGive.j0 : Nat → Int → Bool → Bool → List ByteArray → List Int → List ByteArray → List Int → Option (Bool)
|0, _, _, _, _, _, _, _ => none
|k + 1, x4, x6, x9, x314000, x314001, x322000, x322001 => if x9 = true then (laws_FnPagesGive.j1 k x4 x9 (!x6) x314000 x314001 x322000 x322001) else (laws_FnPagesGive.j1 k x4 x9 true x314000 x314001 x322000 x322001)
def laws_FnPagesGive.j1 : Nat → Int → Bool → Bool → List ByteArray → List Int → List ByteArray → List Int → Option (Bool)
|0, _, _, _, _, _, _, _ => none
|k + 1, x4, x9, x44, x314000, x314001, x322000, x322001 => if x44 = true then (some x9) else (if 0 ≤ x4 then (if x4 < (x314001.length : Int) then (if (rd x314001 x4) = 1 then (laws_FnPagesGive.j2 k 1 x314000 x314001 x322000 x322001) else (laws_FnPagesGive.j2 k 0 x314000 x314001 x322000 x322001)) else (none)) else (none))
def laws_FnPagesGive.j2 : Nat → Int → List ByteArray → List Int → List ByteArray → List Int → Option (Bool)
|0, _, _, _, _, _ => none
|k + 1, x10, x314000, x314001, x322000, x322001 => (impl_PagesOk.f k x322000 x322001).bind fun t332 => (if t332 = true then ((laws_qdSum.f k x322001).bind fun t333 => ((laws_qdSum.f k x314001).bind fun t334 => (if t333 = (wrap64 (t334 - 1)) then ((impl_PagesRoom.f k x322000 x322001).bind fun t335 => ((impl_PagesRoom.f k x314000 x314001).bind fun t336 => (some (t335 == (wrap64 (t336 + x10)))))) else (some false)))) else (some false))
end
def laws_FnPagesGive.f (k : Nat) (l0 : List Int) : Option (Bool) := if (l0.length : Int) > 1048576 then (some true) else ((spec_DrawPagesGive.f k l0).bind fun bt306 => ((impl_PagesGive.f k bt306.1 bt306.2.1 bt306.2.2).bind fun bt314 => ((spec_PagesGive.f k bt306.1 bt306.2.1 bt306.2.2).bind fun bt322 => ((laws_qdPages.f k bt314.1 bt314.2.1 bt322.1 bt322.2.1).bind fun t330 => (if t330 = true then (laws_FnPagesGive.j0 k bt306.2.2 bt314.2.2 (bt314.2.2 == bt322.2.2) bt306.1 bt306.2.1 bt314.1 bt314.2.1) else (laws_FnPagesGive.j0 k bt306.2.2 bt314.2.2 false bt306.1 bt306.2.1 bt314.1 bt314.2.1))))))
theorem laws_FnPagesGive.mono_l : ∀ k, (∀ y0 y1 y2 y3 y4 y5 y6, LeO (laws_FnPagesGive.j0 k y0 y1 y2 y3 y4 y5 y6) (laws_FnPagesGive.j0 (k + 1) y0 y1 y2 y3 y4 y5 y6)) ∧ (∀ y0 y1 y2 y3 y4 y5 y6, LeO (laws_FnPagesGive.j1 k y0 y1 y2 y3 y4 y5 y6) (laws_FnPagesGive.j1 (k + 1) y0 y1 y2 y3 y4 y5 y6)) ∧ (∀ y0 y1 y2 y3 y4, LeO (laws_FnPagesGive.j2 k y0 y1 y2 y3 y4) (laws_FnPagesGive.j2 (k + 1) y0 y1 y2 y3 y4))
|0 => ⟨fun _ _ _ _ _ _ _ r h => by simp [laws_FnPagesGive.j0] at h, fun _ _ _ _ _ _ _ r h => by simp [laws_FnPagesGive.j1] at h, fun _ _ _ _ _ r h => by simp [laws_FnPagesGive.j2] at h⟩
|k + 1 => by
  obtain ⟨ih0, ih1, ih2⟩ := laws_FnPagesGive.mono_l k
  refine ⟨?_, ?_, ?_⟩
  ·intro y0 y1 y2 y3 y4 y5 y6
   unfold laws_FnPagesGive.j0
   repeat' first
  |(with_reducible exact ih0 _ _ _ _ _ _ _)
  |(with_reducible exact ih1 _ _ _ _ _ _ _)
  |(with_reducible exact ih2 _ _ _ _ _)
  |(with_reducible exact impl_PagesGive.mono _ _ _ _)
  |(with_reducible exact impl_PagesOk.mono _ _ _)
  |(with_reducible exact impl_PagesRoom.mono _ _ _)
  |(with_reducible exact laws_qdPages.mono _ _ _ _ _)
  |(with_reducible exact laws_qdSum.mono _ _)
  |(with_reducible exact spec_DrawPagesGive.mono _ _)
  |(with_reducible exact spec_PagesGive.mono _ _ _ _)
  |(with_reducible exact LeO.refl _)
  |(with_reducible exact LeO.none _)
  |(with_reducible refine LeO.ite ?_ ?_)
  |(with_reducible refine LeO.bind ?_ (fun _ => ?_))
  |exact ih0 _ _ _ _ _ _ _
  |exact ih1 _ _ _ _ _ _ _
  |exact ih2 _ _ _ _ _
  |exact impl_PagesGive.mono _ _ _ _
  |exact impl_PagesOk.mono _ _ _
  |exact impl_PagesRoom.mono _ _ _
  |exact laws_qdPages.mono _ _ _ _ _
  |exact laws_qdSum.mono _ _
  |exact spec_DrawPagesGive.mono _ _
  |exact spec_PagesGive.mono _ _ _ _
  |exact LeO.none _
  |refine LeO.ite ?_ ?_
  |refine LeO.bind ?_ (fun _ => ?_)
  ·intro y0 y1 y2 y3 y4 y5 y6
   unfold laws_FnPagesGive.j1
   repeat' first
  |(with_reducible exact ih0 _ _ _ _ _ _ _)
  |(with_reducible exact ih1 _ _ _ _ _ _ _)
  |(with_reducible exact ih2 _ _ _ _ _)
  |(with_reducible exact impl_PagesGive.mono _ _ _ _)
  |(with_reducible exact impl_PagesOk.mono _ _ _)
  |(with_reducible exact impl_PagesRoom.mono _ _ _)
  |(with_reducible exact laws_qdPages.mono _ _ _ _ _)
  |(with_reducible exact laws_qdSum.mono _ _)
  |(with_reducible exact spec_DrawPagesGive.mono _ _)
  |(with_reducible exact spec_PagesGive.mono _ _ _ _)
  |(with_reducible exact LeO.refl _)
  |(with_reducible exact LeO.none _)
  |(with_reducible refine LeO.ite ?_ ?_)
  |(with_reducible refine LeO.bind ?_ (fun _ => ?_))
  |exact ih0 _ _ _ _ _ _ _
  |exact ih1 _ _ _ _ _ _ _
  |exact ih2 _ _ _ _ _
  |exact impl_PagesGive.mono _ _ _ _
  |exact impl_PagesOk.mono _ _ _
  |exact impl_PagesRoom.mono _ _ _
  |exact laws_qdPages.mono _ _ _ _ _
  |exact laws_qdSum.mono _ _
  |exact spec_DrawPagesGive.mono _ _
  |exact spec_PagesGive.mono _ _ _ _
  |exact LeO.none _
  |refine LeO.ite ?_ ?_
  |refine LeO.bind ?_ (fun _ => ?_)
  ·intro y0 y1 y2 y3 y4
   unfold laws_FnPagesGive.j2
   repeat' first
  |(with_reducible exact ih0 _ _ _ _ _ _ _)
  |(with_reducible exact ih1 _ _ _ _ _ _ _)
  |(with_reducible exact ih2 _ _ _ _ _)
  |(with_reducible exact impl_PagesGive.mono _ _ _ _)
  |(with_reducible exact impl_PagesOk.mono _ _ _)
  |(with_reducible exact impl_PagesRoom.mono _ _ _)
  |(with_reducible exact laws_qdPages.mono _ _ _ _ _)
  |(with_reducible exact laws_qdSum.mono _ _)
  |(with_reducible exact spec_DrawPagesGive.mono _ _)
  |(with_reducible exact spec_PagesGive.mono _ _ _ _)
  |(with_reducible exact LeO.refl _)
  |(with_reducible exact LeO.none _)
  |(with_reducible refine LeO.ite ?_ ?_)
  |(with_reducible refine LeO.bind ?_ (fun _ => ?_))
  |exact ih0 _ _ _ _ _ _ _
  |exact ih1 _ _ _ _ _ _ _
  |exact ih2 _ _ _ _ _
  |exact impl_PagesGive.mono _ _ _ _
  |exact impl_PagesOk.mono _ _ _
  |exact impl_PagesRoom.mono _ _ _
  |exact laws_qdPages.mono _ _ _ _ _
  |exact laws_qdSum.mono _ _
  |exact spec_DrawPagesGive.mono _ _
  |exact spec_PagesGive.mono _ _ _ _
  |exact LeO.none _
  |refine LeO.ite ?_ ?_
  |refine LeO.bind ?_ (fun _ => ?_)
theorem laws_FnPagesGive.mono : ∀ a0 k, LeO (laws_FnPagesGive.f k a0) (laws_FnPagesGive.f (k + 1) a0) := by
 intro a0 k
 obtain ⟨ih0, ih1, ih2⟩ := laws_FnPagesGive.mono_l k
 unfold laws_FnPagesGive.f
 repeat' first
  |(with_reducible exact ih0 _ _ _ _ _ _ _)
  |(with_reducible exact ih1 _ _ _ _ _ _ _)
  |(with_reducible exact ih2 _ _ _ _ _)
  |(with_reducible exact impl_PagesGive.mono _ _ _ _)
  |(with_reducible exact impl_PagesOk.mono _ _ _)
  |(with_reducible exact impl_PagesRoom.mono _ _ _)
  |(with_reducible exact laws_qdPages.mono _ _ _ _ _)
  |(with_reducible exact laws_qdSum.mono _ _)
  |(with_reducible exact spec_DrawPagesGive.mono _ _)
  |(with_reducible exact spec_PagesGive.mono _ _ _ _)
  |(with_reducible exact LeO.refl _)
  |(with_reducible exact LeO.none _)
  |(with_reducible refine LeO.ite ?_ ?_)
  |(with_reducible refine LeO.bind ?_ (fun _ => ?_))
  |exact ih0 _ _ _ _ _ _ _
  |exact ih1 _ _ _ _ _ _ _
  |exact ih2 _ _ _ _ _
  |exact impl_PagesGive.mono _ _ _ _
  |exact impl_PagesOk.mono _ _ _
  |exact impl_PagesRoom.mono _ _ _
  |exact laws_qdPages.mono _ _ _ _ _
  |exact laws_qdSum.mono _ _
  |exact spec_DrawPagesGive.mono _ _
  |exact spec_PagesGive.mono _ _ _ _
  |exact LeO.none _
  |refine LeO.ite ?_ ?_
  |refine LeO.bind ?_ (fun _ => ?_)
def laws_FnPagesGive.T12 : Bool × List (List Nat × List Nat) := (true, [([], []), ([0], [0]), ([1, 1], [1]), ([2], [2]), ([3, 2], [2, 3]), ([4, 2, 2], [2, 4]), ([2], [2]), ([6, 2], [2, 6]), ([7, 5, 2], [2, 7]), ([8, 2], [2, 8]), ([5, 9, 2], [2, 5, 9]), ([2, 10], [2, 10]), ([11, 8], [11]), ([12], [12]), ([13, 12, 12], [12, 13]), ([12], [12]), ([15, 14, 12], [12, 15]), ([12], [12]), ([16, 17, 12], [12, 16, 17]), ([14, 18, 12], [12, 14, 18]), ([12, 19], [12, 19]), ([20, 16, 0, 1, 2, 3, 4, 5, 6, 7, 8, 9, 10, 11, 12, 13, 14, 15, 16, 17, 18, 19, 20], [20])])
def laws_FnPagesGive.B12 : List Nat := [0, 1, 3, 7, 15, 31, 7, 71, 255, 511, 1023, 2047, 4095, 8191, 16383, 8191, 65535, 8191, 262143, 524287, 1048575, 2097151]
theorem laws_FnPagesGive.tab12 : rtab .any (opsOf Try.f6 12) = laws_FnPagesGive.T12 := by kernel_rfl
theorem laws_FnPagesGive.bits12 : waitsOk laws_FnPagesGive.T12.2 laws_FnPagesGive.B12 = true := by kernel_rfl
abbrev z6q0 : Array Bool := bQ 22 0
abbrev z6q1 : Array Bool := bQ 22 1
abbrev z6q2 : Array Bool := bQ 22 3
abbrev z6q3 : Array Bool := bQ 22 7
abbrev z6q4 : Array Bool := bQ 22 15
abbrev z6q5 : Array Bool := bQ 22 79
abbrev z6q6 : Array Bool := bQ 22 95
abbrev z6q7 : Array Bool := bQ 22 223
abbrev z6q8 : Array Bool := bQ 22 255
abbrev z6q9 : Array Bool := bQ 22 511
abbrev z6q10 : Array Bool := bQ 22 1023
abbrev z6q11 : Array Bool := bQ 22 2047
abbrev z6q12 : Array Bool := bQ 22 4095
abbrev z6q13 : Array Bool := bQ 22 8191
abbrev z6q14 : Array Bool := bQ 22 139263
abbrev z6q15 : Array Bool := bQ 22 147455
abbrev z6q16 : Array Bool := bQ 22 180223
abbrev z6q17 : Array Bool := bQ 22 196607
abbrev z6q18 : Array Bool := bQ 22 262143
abbrev z6q19 : Array Bool := bQ 22 524287
abbrev z6q20 : Array Bool := bQ 22 1048575
abbrev z6q21 : Array Bool := bQ 22 2097151
abbrev z6q22 : Array Bool := bQ 22 4194303
set_option maxHeartbeats 2000000 in
set_option maxRecDepth 100000 in
theorem laws_FnPagesGive.calls (k:Nat) (A0:Option Addr) (c0:Nat) (l0:List Int) (r:Bool) (w:World) (hr0:Kd.C (Kd.int .u8) w A0 l0.length l0) (hc0:l0.length≤c0) (h:laws_FnPagesGive.f k l0=some r) (hT_:Aside0 (r=true)) :
  Calls Try.prog 6 #[.slice A0 l0.length c0] w fun e w'=>e=.returned (.bool r)∧Below w.heap.size w w':=by
 have hu26:=Try.underlying26
 have HR0:=Am hr0
 have HC0:=Am hc0
 clear hr0 hc0
 have HB:=Am (Below.refl w.heap.size w)
 have H:(if (l0.length:Int) > 1048576 then (some true) else ((spec_DrawPagesGive.f k l0).bind fun bt306=>((impl_PagesGive.f k bt306.1 bt306.2.1 bt306.2.2).bind fun bt314=>((spec_PagesGive.f k bt306.1 bt306.2.1 bt306.2.2).bind fun bt322=>((laws_qdPages.f k bt314.1 bt314.2.1 bt322.1 bt322.2.1).bind fun t330=>(if t330=true then (laws_FnPagesGive.j0 k bt306.2.2 bt314.2.2 (bt314.2.2 == bt322.2.2) bt306.1 bt306.2.1 bt314.1 bt314.2.1) else (laws_FnPagesGive.j0 k bt306.2.2 bt314.2.2 false bt306.1 bt306.2.1 bt314.1 bt314.2.1)))))))=some r:=h
 clear h
 by_cases c2:(l0.length:Int) > 1048576
 ·rw [if_pos c2] at H
  have c2b0:decide (1048576<(l0.length:Int))=true:=decide_eq_true c2
  have c2b1:decide (1048576<l0.length)=true:=decide_eq_true (by omega)
  clear c2
  obtain rfl:=Option.some.inj H
  go_enter Try.func6,Try.ntmps6
  go_wp2
  go_ret
  exact ⟨by first|rfl|(simp [errW_none,errW_some] <;> rfl)|(simp [*,errW_none,errW_some] <;> rfl),by repeat (first|(with_reducible first|exact HB.out|apply oA|apply pN|apply o1)|exact HB.out)⟩
 rw [if_neg c2] at H
 have c2b0:decide (1048576<(l0.length:Int))=false:=decide_eq_false c2
 have c2b1:decide (1048576<l0.length)=false:=decide_eq_false (by omega)
 clear c2
 replace H:=oC H
 obtain ⟨⟨t306,t309,t312⟩,A30,H⟩:=H
 replace H:((impl_PagesGive.f k t306 t309 t312).bind fun bt314=>((spec_PagesGive.f k t306 t309 t312).bind fun bt322=>((laws_qdPages.f k bt314.1 bt314.2.1 bt322.1 bt322.2.1).bind fun t330=>(if t330=true then (laws_FnPagesGive.j0 k t312 bt314.2.2 (bt314.2.2 == bt322.2.2) t306 t309 bt314.1 bt314.2.1) else (laws_FnPagesGive.j0 k t312 bt314.2.2 false t306 t309 bt314.1 bt314.2.1)))))=some r:=H
 have A3:=Am A30
 clear A30
 replace H:=oC H
 obtain ⟨⟨t314,t317,t320⟩,A40,H⟩:=H
 replace H:((spec_PagesGive.f k t306 t309 t312).bind fun bt322=>((laws_qdPages.f k t314 t317 bt322.1 bt322.2.1).bind fun t330=>(if t330=true then (laws_FnPagesGive.j0 k t312 t320 (t320 == bt322.2.2) t306 t309 t314 t317) else (laws_FnPagesGive.j0 k t312 t320 false t306 t309 t314 t317))))=some r:=H
 have A4:=Am A40
 clear A40
 replace H:=oC H
 obtain ⟨⟨t322,t325,t328⟩,A50,H⟩:=H
 replace H:((laws_qdPages.f k t314 t317 t322 t325).bind fun t330=>(if t330=true then (laws_FnPagesGive.j0 k t312 t320 (t320 == t328) t306 t309 t314 t317) else (laws_FnPagesGive.j0 k t312 t320 false t306 t309 t314 t317)))=some r:=H
 have A5:=Am A50
 clear A50
 have HC6:=Am H
 clear H
 go_enter Try.func6,Try.ntmps6
 go_upto_region 6 with (first|((with_reducible refine gate_callee (f:=27) rfl ?_);refine goesL_ (some 16) rfl rfl Try.func27 (by kernel_rfl) rfl #[.slice A0 l0.length c0] rfl (by (try simp only [lM,lC,lN]);first|done|rfl|(simp only [lD,lT];rfl)) ?_;(with_reducible refine (spec_DrawPagesGive.calls k _ _ l0 t306 t309 t312 _ ?side1 ?side2 A3.out).mono ?_);(case side1=>exact cL HR0.out);(case side2=>exact HC0.out);rintro e w7 ⟨v307,v310,rfl,ho0,ho1,hb⟩;refine ⟨_,rfl,?_⟩;have n0_:=Am (Kd.R_lower ho0 (bZ (by repeat (first|(with_reducible first|exact HB.out|apply oA|apply pN|apply o1)|exact HB.out))));have n1_:=Am (Kd.R_lower ho1 (bZ (by repeat (first|(with_reducible first|exact HB.out|apply oA|apply pN|apply o1)|exact HB.out))));have n2_:=Am (bP (by repeat (first|(with_reducible first|exact HB.out|apply oA|apply pN|apply o1)|exact HB.out)) hb);clear HB;revert n0_ n1_ n2_;intro Bm Bn HB;(try clear hb);(try clear hb2);(try clear hk);(try clear hi);(try clear ho0);(try clear ho1))|((with_reducible refine gate_dst (N:=3) rfl ?_);refine box_event ?hg (N:=3) ?hd (cs:=#[.slice none 0 0,.slice none 0 0]) (t:=26) ?hr ?_;(case hd=>rfl);(case hg=>rfl);(case hr=>first|(go_simp;done)|(go_simp;rfl));intro Bi hg w8 hbox hb;have n0_:=Am (rB (rL Bm.out) hb);have n1_:=Am (rB (rL Bn.out) hb);have n2_:=Am (bP (by repeat (first|(with_reducible first|exact HB.out|apply oA|apply pN|apply o1)|exact HB.out)) hb);have n3_:=Am (hbox);have n4_:=Am ((by rw [hg];exact (bZ (by repeat (first|(with_reducible first|exact HB.out|apply oA|apply pN|apply o1)|exact HB.out))):w.heap.size≤Bi));have n5_:=Am ((by rw [hg];exact (bZ (by repeat (first|(with_reducible first|exact HB.out|apply oA|apply pN|apply o1)|exact HB.out))):w.heap.size≤Bi));clear Bm Bn HB;revert n0_ n1_ n2_ n3_ n4_ n5_;intro Bm Bn HB Ba Dd Bo;clear hb hbox hg;obtain ⟨Ao9,co9,eo9⟩:=Kd.R_slice Bm.out;subst eo9;have BB:=cz0 Ba.out;have BC:=cz1 Ba.out;have BD:=bF Ba.out 0;have BE:=bF Ba.out 1;obtain ⟨Ao11,co11,eo11⟩:=Kd.R_slice Bn.out;subst eo11)|((with_reducible refine gate_callee (f:=24) rfl ?_);refine goesL_ (some 22) rfl rfl Try.func24 (by kernel_rfl) rfl #[.agg #[.slice Ao9 t306.length co9,.slice Ao11 t309.length co11],.int .i64 t312] rfl (by (try simp only [lM,lC,lN]);first|done|rfl|(simp only [lD,lT];rfl)) ?_;(with_reducible refine (impl_PagesGive.calls k _ _ t306 _ _ t309 t312 t314 t317 t320 _ ?side1 ?side2 ?side3 ?side4 A4.out).mono ?_);(case side1=>refine (Kd.R_reads' (e:=9) (base:=w.heap.size) (ok:=fun k_=>True) (n:=t306.length) (c:=co9) ?_).2.2;exact (by (with_reducible repeat (first|apply rA|apply rN|apply rD));exact (rM (rF (p:=⟨Bi,1,none⟩) (rF (p:=⟨Bi,0,none⟩) (rT Bm.out Ba.out (by decide)) (fun _ hk=>hk.2) (.slice Ao9 t306.length co9)) (fun _ hk=>hk.2) (.slice Ao11 t309.length co11)) (fun _ h_=>h_.1))));(case side2=>exact (Kd.R_reads' Bm.out).2.1);(case side3=>refine (Kd.R_reads' (e:=3) (base:=w.heap.size) (ok:=fun k_=>True) (n:=t309.length) (c:=co11) ?_).2.2;exact (by (with_reducible repeat (first|apply rA|apply rN|apply rD));exact (rM (rF (p:=⟨Bi,1,none⟩) (rF (p:=⟨Bi,0,none⟩) (rT Bn.out Ba.out (by decide)) (fun _ hk=>hk.2) (.slice Ao9 t306.length co9)) (fun _ hk=>hk.2) (.slice Ao11 t309.length co11)) (fun _ h_=>h_.1))));(case side4=>exact (Kd.R_reads' Bn.out).2.1);rintro e w12 ⟨v315,v318,rfl,ho0,ho1,hb⟩;refine ⟨_,rfl,?_⟩;have n0_:=Am (Kd.R_elder' (by (with_reducible repeat (first|apply rA|apply rN|apply rD));exact (rM (rF (p:=⟨Bi,1,none⟩) (rF (p:=⟨Bi,0,none⟩) (rT Bm.out Ba.out (by decide)) (fun _ hk=>hk.2) (.slice Ao9 t306.length co9)) (fun _ hk=>hk.2) (.slice Ao11 t309.length co11)) (fun _ h_=>h_.1))) (Kd.R_base ho0) hb);have n1_:=Am (Kd.R_elder' (by (with_reducible repeat (first|apply rA|apply rN|apply rD));exact (rM (rF (p:=⟨Bi,1,none⟩) (rF (p:=⟨Bi,0,none⟩) (rT Bn.out Ba.out (by decide)) (fun _ hk=>hk.2) (.slice Ao9 t306.length co9)) (fun _ hk=>hk.2) (.slice Ao11 t309.length co11)) (fun _ h_=>h_.1))) (Kd.R_base ho1) hb);have n2_:=Am (Kd.R_lower (Kd.R_new' ho0 (Kd.R_lt (by (with_reducible repeat (first|apply rA|apply rN|apply rD));exact (rM (rF (p:=⟨Bi,1,none⟩) (rF (p:=⟨Bi,0,none⟩) (rT Bm.out Ba.out (by decide)) (fun _ hk=>hk.2) (.slice Ao9 t306.length co9)) (fun _ hk=>hk.2) (.slice Ao11 t309.length co11)) (fun _ h_=>h_.1))))) (bZ (by repeat (first|(with_reducible first|exact HB.out|apply oA|apply pN|apply o1|refine bS ?_ Bo.out)|exact HB.out))));have n3_:=Am (Kd.R_lower (Kd.R_new' ho1 (Kd.R_lt (by (with_reducible repeat (first|apply rA|apply rN|apply rD));exact (rM (rF (p:=⟨Bi,1,none⟩) (rF (p:=⟨Bi,0,none⟩) (rT Bn.out Ba.out (by decide)) (fun _ hk=>hk.2) (.slice Ao9 t306.length co9)) (fun _ hk=>hk.2) (.slice Ao11 t309.length co11)) (fun _ h_=>h_.1))))) (bZ (by repeat (first|(with_reducible first|exact HB.out|apply oA|apply pN|apply o1|refine bS ?_ Bo.out)|exact HB.out))));have n4_:=Am (bB (g:=Bi) (o:=.cells #[.slice Ao9 t306.length co9,.slice Ao11 t309.length co11] 26 (0,0)) (by (with_reducible repeat (first|refine bN ?_ _|refine bD ?_|refine bA ?_ _));refine blk_put (cs:=#[.slice Ao9 t306.length co9,.slice none 0 0]) ?_ 1 _ rfl;(with_reducible repeat (first|refine bN ?_ _|refine bD ?_|refine bA ?_ _));refine blk_put (cs:=#[.slice none 0 0,.slice none 0 0]) ?_ 0 _ rfl;(with_reducible repeat (first|refine bN ?_ _|refine bD ?_|refine bA ?_ _));exact Ba.out) hb);have n5_:=Am (bP (by repeat (first|(with_reducible first|exact HB.out|apply oA|apply pN|apply o1|refine bS ?_ Bo.out)|exact HB.out)) hb);clear Bm Bn Ba HB;revert n0_ n1_ n2_ n3_ n4_ n5_;intro Bm Bn Bp Bq Ba HB;(try clear hb);(try clear hb2);(try clear hk);(try clear hi);(try clear ho0);(try clear ho1))|((with_reducible refine gate_dst (N:=5) rfl ?_);refine box_event ?hg (N:=5) ?hd (cs:=#[.slice none 0 0,.slice none 0 0]) (t:=26) ?hr ?_;(case hd=>rfl);(case hg=>rfl);(case hr=>first|(go_simp;done)|(go_simp;rfl));intro Be hg w13 hbox hb;have n0_:=Am (rB (rL Bm.out) hb);have n1_:=Am (rB (rL Bn.out) hb);have n2_:=Am (rB (rL Bp.out) hb);have n3_:=Am (rB (rL Bq.out) hb);have n4_:=Am (bX Ba.out hb);have n5_:=Am (bP (by repeat (first|(with_reducible first|exact HB.out|apply oA|apply pN|apply o1|refine bS ?_ Bo.out)|exact HB.out)) hb);have n6_:=Am (hbox);have n7_:=Am ((by rw [hg];exact (bZ (by repeat (first|(with_reducible first|exact HB.out|apply oA|apply pN|apply o1|refine bS ?_ Bo.out)|exact HB.out))):w.heap.size≤Be));have n8_:=Am ((by rw [hg];exact (bZ (by repeat (first|(with_reducible first|exact HB.out|apply oA|apply pN|apply o1|refine bS ?_ Bo.out)|exact HB.out))):w.heap.size≤Be));have n9_:=Am ((nL Ba.out hg));have n10_:=Am ((nG Ba.out hg));clear Bm Bn Bp Bq Ba HB;revert n0_ n1_ n2_ n3_ n4_ n5_ n6_ n7_ n8_ n9_ n10_;intro Bm Bn Bp Bq Ba HB Bb De Br Bw By;clear hb hbox hg;obtain ⟨Ao14,co14,eo14⟩:=Kd.R_slice Bp.out;subst eo14;have Df:=By.out;have Dg:=Bw.out;have BF:=cz0 Bb.out;have BG:=cz1 Bb.out;have BH:=bF Bb.out 0;have BI:=bF Bb.out 1;obtain ⟨Ao17,co17,eo17⟩:=Kd.R_slice Bq.out;subst eo17;have BJ:=cz0 Ba.out;have BK:=cz1 Ba.out;have BL:=bF Ba.out 0;have BM:=bF Ba.out 1)|((with_reducible refine gate_callee (f:=28) rfl ?_);refine goesL_ (some 28) rfl rfl Try.func28 (by kernel_rfl) rfl #[.agg #[.slice Ao9 t306.length co9,.slice Ao11 t309.length co11],.int .i64 t312] rfl (by (try simp only [lM,lC,lN]);first|done|rfl|(simp only [lD,lT];rfl)) ?_;(with_reducible refine (spec_PagesGive.calls k _ _ t306 _ _ t309 t312 t322 t325 t328 _ ?side1 ?side2 ?side3 ?side4 A5.out).mono ?_);(case side1=>refine (Kd.R_reads' (e:=9) (base:=w.heap.size) (ok:=fun k_=>(True∧some k_≠(.slice Ao14 t314.length co14:Value).ownBlock)) (n:=t306.length) (c:=co9) ?_).2.2;exact (by (with_reducible repeat (first|apply rA|apply rN|apply rD));exact (rM (rF (p:=⟨Be,1,none⟩) (rF (p:=⟨Be,0,none⟩) (rT Bm.out Bb.out (by decide)) (fun _ hk=>hk.2) (.slice Ao14 t314.length co14)) (fun _ hk=>hk.2) (.slice Ao17 t317.length co17)) (fun _ h_=>h_.1))));(case side2=>exact (Kd.R_reads' Bm.out).2.1);(case side3=>refine (Kd.R_reads' (e:=3) (base:=w.heap.size) (ok:=fun k_=>(True∧some k_≠(.slice Ao17 t317.length co17:Value).ownBlock)) (n:=t309.length) (c:=co11) ?_).2.2;exact (by (with_reducible repeat (first|apply rA|apply rN|apply rD));exact (rM (rF (p:=⟨Be,1,none⟩) (rF (p:=⟨Be,0,none⟩) (rT Bn.out Bb.out (by decide)) (fun _ hk=>hk.2) (.slice Ao14 t314.length co14)) (fun _ hk=>hk.2) (.slice Ao17 t317.length co17)) (fun _ h_=>h_.1))));(case side4=>exact (Kd.R_reads' Bn.out).2.1);rintro e w19 ⟨v323,v326,rfl,ho0,ho1,hb⟩;refine ⟨_,rfl,?_⟩;have n0_:=Am (Kd.R_elder' (by (with_reducible repeat (first|apply rA|apply rN|apply rD));exact (rM (rF (p:=⟨Be,1,none⟩) (rF (p:=⟨Be,0,none⟩) (rT Bm.out Bb.out (by decide)) (fun _ hk=>hk.2) (.slice Ao14 t314.length co14)) (fun _ hk=>hk.2) (.slice Ao17 t317.length co17)) (fun _ h_=>h_.1))) (Kd.R_base ho0) hb);have n1_:=Am (Kd.R_elder' (by (with_reducible repeat (first|apply rA|apply rN|apply rD));exact (rM (rF (p:=⟨Be,1,none⟩) (rF (p:=⟨Be,0,none⟩) (rT Bn.out Bb.out (by decide)) (fun _ hk=>hk.2) (.slice Ao14 t314.length co14)) (fun _ hk=>hk.2) (.slice Ao17 t317.length co17)) (fun _ h_=>h_.1))) (Kd.R_base ho1) hb);have n2_:=Am (Kd.R_elder' (by (with_reducible repeat (first|apply rA|apply rN|apply rD));exact (rM (rF (p:=⟨Be,1,none⟩) (rF (p:=⟨Be,0,none⟩) (rT Bp.out Bb.out (by decide)) (fun _ hk=>hk.2) (.slice Ao14 t314.length co14)) (fun _ hk=>hk.2) (.slice Ao17 t317.length co17)) (fun _ h_=>h_.1))) (Kd.R_base ho0) hb);have n3_:=Am (Kd.R_elder' (by (with_reducible repeat (first|apply rA|apply rN|apply rD));exact (rM (rF (p:=⟨Be,1,none⟩) (rF (p:=⟨Be,0,none⟩) (rT Bq.out Bb.out (by decide)) (fun _ hk=>hk.2) (.slice Ao14 t314.length co14)) (fun _ hk=>hk.2) (.slice Ao17 t317.length co17)) (fun _ h_=>h_.1))) (Kd.R_base ho1) hb);have n4_:=Am (Kd.R_lower (Kd.R_new' (Kd.R_new' ho0 (Kd.R_lt (by (with_reducible repeat (first|apply rA|apply rN|apply rD));exact (rM (rF (p:=⟨Be,1,none⟩) (rF (p:=⟨Be,0,none⟩) (rT Bm.out Bb.out (by decide)) (fun _ hk=>hk.2) (.slice Ao14 t314.length co14)) (fun _ hk=>hk.2) (.slice Ao17 t317.length co17)) (fun _ h_=>h_.1))))) (Kd.R_lt (by (with_reducible repeat (first|apply rA|apply rN|apply rD));exact (rM (rF (p:=⟨Be,1,none⟩) (rF (p:=⟨Be,0,none⟩) (rT Bp.out Bb.out (by decide)) (fun _ hk=>hk.2) (.slice Ao14 t314.length co14)) (fun _ hk=>hk.2) (.slice Ao17 t317.length co17)) (fun _ h_=>h_.1))))) (bZ (by repeat (first|(with_reducible first|exact HB.out|apply oA|apply pN|apply o1|refine bS ?_ Bo.out|refine bS ?_ Br.out)|exact HB.out))));have n5_:=Am (Kd.R_lower (Kd.R_new' (Kd.R_new' ho1 (Kd.R_lt (by (with_reducible repeat (first|apply rA|apply rN|apply rD));exact (rM (rF (p:=⟨Be,1,none⟩) (rF (p:=⟨Be,0,none⟩) (rT Bn.out Bb.out (by decide)) (fun _ hk=>hk.2) (.slice Ao14 t314.length co14)) (fun _ hk=>hk.2) (.slice Ao17 t317.length co17)) (fun _ h_=>h_.1))))) (Kd.R_lt (by (with_reducible repeat (first|apply rA|apply rN|apply rD));exact (rM (rF (p:=⟨Be,1,none⟩) (rF (p:=⟨Be,0,none⟩) (rT Bq.out Bb.out (by decide)) (fun _ hk=>hk.2) (.slice Ao14 t314.length co14)) (fun _ hk=>hk.2) (.slice Ao17 t317.length co17)) (fun _ h_=>h_.1))))) (bZ (by repeat (first|(with_reducible first|exact HB.out|apply oA|apply pN|apply o1|refine bS ?_ Bo.out|refine bS ?_ Br.out)|exact HB.out))));have n6_:=Am (bB (g:=Bi) (o:=.cells #[.slice Ao9 t306.length co9,.slice Ao11 t309.length co11] 26 (0,0)) (by (with_reducible repeat (first|refine bN ?_ _|refine bD ?_|refine bA ?_ _|refine blk_far ?_ Bw.out _));exact Ba.out) hb);have n7_:=Am (bB (g:=Be) (o:=.cells #[.slice Ao14 t314.length co14,.slice Ao17 t317.length co17] 26 (0,0)) (by (with_reducible repeat (first|refine bN ?_ _|refine bD ?_|refine bA ?_ _));refine blk_put (cs:=#[.slice Ao14 t314.length co14,.slice none 0 0]) ?_ 1 _ rfl;(with_reducible repeat (first|refine bN ?_ _|refine bD ?_|refine bA ?_ _));refine blk_put (cs:=#[.slice none 0 0,.slice none 0 0]) ?_ 0 _ rfl;(with_reducible repeat (first|refine bN ?_ _|refine bD ?_|refine bA ?_ _));exact Bb.out) hb);have n8_:=Am (bP (by repeat (first|(with_reducible first|exact HB.out|apply oA|apply pN|apply o1|refine bS ?_ Bo.out|refine bS ?_ Br.out)|exact HB.out)) hb);clear Bm Bn Bp Bq Ba Bb HB;revert n0_ n1_ n2_ n3_ n4_ n5_ n6_ n7_ n8_;intro Bm Bn Bp Bq Bs Bt Ba Bb HB;(try clear hb);(try clear hb2);(try clear hk);(try clear hi);(try clear ho0);(try clear ho1))|((with_reducible refine gate_dst (N:=7) rfl ?_);refine box_event ?hg (N:=7) ?hd (cs:=#[.slice none 0 0,.slice none 0 0]) (t:=26) ?hr ?_;(case hd=>rfl);(case hg=>rfl);(case hr=>first|(go_simp;done)|(go_simp;rfl));intro Bc hg w20 hbox hb;have n0_:=Am (rB (rL Bm.out) hb);have n1_:=Am (rB (rL Bn.out) hb);have n2_:=Am (rB (rL Bp.out) hb);have n3_:=Am (rB (rL Bq.out) hb);have n4_:=Am (rB (rL Bs.out) hb);have n5_:=Am (rB (rL Bt.out) hb);have n6_:=Am (bX Ba.out hb);have n7_:=Am (bX Bb.out hb);have n8_:=Am (bP (by repeat (first|(with_reducible first|exact HB.out|apply oA|apply pN|apply o1|refine bS ?_ Bo.out|refine bS ?_ Br.out)|exact HB.out)) hb);have n9_:=Am (hbox);have n10_:=Am ((by rw [hg];exact (bZ (by repeat (first|(with_reducible first|exact HB.out|apply oA|apply pN|apply o1|refine bS ?_ Bo.out|refine bS ?_ Br.out)|exact HB.out))):w.heap.size≤Bc));have n11_:=Am ((by rw [hg];exact (bZ (by repeat (first|(with_reducible first|exact HB.out|apply oA|apply pN|apply o1|refine bS ?_ Bo.out|refine bS ?_ Br.out)|exact HB.out))):w.heap.size≤Bc));have n12_:=Am ((nL Ba.out hg));have n13_:=Am ((nG Ba.out hg));have n14_:=Am ((nL Bb.out hg));have n15_:=Am ((nG Bb.out hg));clear Bm Bn Bp Bq Bs Bt Ba Bb HB;revert n0_ n1_ n2_ n3_ n4_ n5_ n6_ n7_ n8_ n9_ n10_ n11_ n12_ n13_ n14_ n15_;intro Bm Bn Bp Bq Bs Bt Ba Bb HB Bd Dh Bu Bv Bz Bx BA;clear hb hbox hg;obtain ⟨Ao21,co21,eo21⟩:=Kd.R_slice Bs.out;subst eo21;have Di:=Bz.out;have Dj:=Bv.out;have Dk:=BA.out;have Dl:=Bx.out;have BN:=cz0 Bd.out;have BO:=cz1 Bd.out;have BP:=bF Bd.out 0;have BQ:=bF Bd.out 1;obtain ⟨Ao25,co25,eo25⟩:=Kd.R_slice Bt.out;subst eo25))
 (try simp only [Act.put,lA,lZ,lS])
 go_cut [9] (fun v9 wc=>∃ (kq:Nat) (x9_5:Bool),v9=.bool x9_5∧Aside0 (laws_FnPagesGive.j0 kq t312 t320 x9_5 t306 t309 t314 t317=some r)∧Aside0 (kq≤k)∧Aside0 (Kd.R Kd.string 9 wc w.heap.size (fun k_=>some k_≠((.slice Ao14 t314.length co14):Value).ownBlock∧some k_≠((.slice Ao21 t322.length co21):Value).ownBlock) (.slice Ao9 t306.length co9) t306)∧Aside0 (Kd.R (Kd.int .i64) 3 wc w.heap.size (fun k_=>some k_≠((.slice Ao17 t317.length co17):Value).ownBlock∧some k_≠((.slice Ao25 t325.length co25):Value).ownBlock) (.slice Ao11 t309.length co11) t309)∧Aside0 (Kd.R Kd.string 9 wc w.heap.size (fun k_=>some k_≠((.slice Ao9 t306.length co9):Value).ownBlock∧some k_≠((.slice Ao21 t322.length co21):Value).ownBlock) (.slice Ao14 t314.length co14) t314)∧Aside0 (Kd.R (Kd.int .i64) 3 wc w.heap.size (fun k_=>some k_≠((.slice Ao11 t309.length co11):Value).ownBlock∧some k_≠((.slice Ao25 t325.length co25):Value).ownBlock) (.slice Ao17 t317.length co17) t317)∧Aside0 (Kd.R Kd.string 9 wc w.heap.size (fun k_=>some k_≠((.slice Ao9 t306.length co9):Value).ownBlock∧some k_≠((.slice Ao14 t314.length co14):Value).ownBlock) (.slice Ao21 t322.length co21) t322)∧Aside0 (Kd.R (Kd.int .i64) 3 wc w.heap.size (fun k_=>some k_≠((.slice Ao11 t309.length co11):Value).ownBlock∧some k_≠((.slice Ao17 t317.length co17):Value).ownBlock) (.slice Ao25 t325.length co25) t325)∧Aside0 (wc.heap[Bi]?=some (.cells #[(.slice Ao9 t306.length co9),(.slice Ao11 t309.length co11)] 26 (0,0)))∧Aside0 (wc.heap[Be]?=some (.cells #[(.slice Ao14 t314.length co14),(.slice Ao17 t317.length co17)] 26 (0,0)))∧Aside0 (wc.heap[Bc]?=some (.cells #[(.slice Ao21 t322.length co21),(.slice Ao25 t325.length co25)] 26 (0,0)))∧Aside0 (Below w.heap.size w wc))
 case first =>
  have H:=HC6.out
  clear HC6
  replace H:=oC H
  obtain ⟨t330,A260,H⟩:=H
  replace H:(if t330=true then (laws_FnPagesGive.j0 k t312 t320 (t320 == t328) t306 t309 t314 t317) else (laws_FnPagesGive.j0 k t312 t320 false t306 t309 t314 t317))=some r:=H
  have A26:=Am A260
  clear A260
  by_cases c27:t330=true
  ·subst c27
   have H1:(laws_FnPagesGive.j0 k t312 t320 (t320 == t328) t306 t309 t314 t317)=some r:=by rw [if_pos rfl] at H;exact H
   clear H
   have H:=H1
   clear H1
   have H':=Am H
   clear H
   have Dm:=By.out
   have Dn:=Bw.out
   have Do:=Bx.out
   have Dp:=BA.out
   have BR:=cz0 Bb.out
   have BS:=cz1 Bb.out
   have BT:=bF Bb.out 0
   have BU:=bF Bb.out 1
   have Dq:=Bz.out
   have Dr:=Bv.out
   have BV:=cz0 Bd.out
   have BW:=cz1 Bd.out
   have BX:=bF Bd.out 0
   have BY:=bF Bd.out 1
   go_wp2_with (first|((with_reducible refine gate_callee (f:=19) rfl ?_);refine goesL_ (some 33) rfl rfl Try.func19 (by kernel_rfl) rfl #[.agg #[.slice Ao14 t314.length co14,.slice Ao17 t317.length co17],.agg #[.slice Ao21 t322.length co21,.slice Ao25 t325.length co25]] rfl (by (try simp only [lM,lC,lN]);first|done|rfl|(simp only [lD,lT];rfl)) ?_;(with_reducible refine (laws_qdPages.calls k _ _ t314 _ _ t317 _ _ t322 _ _ t325 true _ ?side1 ?side2 ?side3 ?side4 ?side5 ?side6 ?side7 ?side8 A26.out).mono ?_);(case side1=>refine (Kd.R_reads' (e:=9) (base:=w.heap.size) (ok:=fun k_=>((True∧some k_≠(.slice Ao9 t306.length co9:Value).ownBlock)∧some k_≠(.slice Ao21 t322.length co21:Value).ownBlock)) (n:=t314.length) (c:=co14) ?_).2.2;exact (by (with_reducible repeat (first|apply rA|apply rN|apply rD));exact (rM (rF (p:=⟨Bc,1,none⟩) (rF (p:=⟨Bc,0,none⟩) (rT Bp.out Bd.out (by decide)) (fun _ hk=>hk.2) (.slice Ao21 t322.length co21)) (fun _ hk=>hk.2) (.slice Ao25 t325.length co25)) (fun _ h_=>h_.1))));(case side2=>exact (Kd.R_reads' Bp.out).2.1);(case side3=>refine (Kd.R_reads' (e:=3) (base:=w.heap.size) (ok:=fun k_=>((True∧some k_≠(.slice Ao11 t309.length co11:Value).ownBlock)∧some k_≠(.slice Ao25 t325.length co25:Value).ownBlock)) (n:=t317.length) (c:=co17) ?_).2.2;exact (by (with_reducible repeat (first|apply rA|apply rN|apply rD));exact (rM (rF (p:=⟨Bc,1,none⟩) (rF (p:=⟨Bc,0,none⟩) (rT Bq.out Bd.out (by decide)) (fun _ hk=>hk.2) (.slice Ao21 t322.length co21)) (fun _ hk=>hk.2) (.slice Ao25 t325.length co25)) (fun _ h_=>h_.1))));(case side4=>exact (Kd.R_reads' Bq.out).2.1);(case side5=>refine (Kd.R_reads' (e:=9) (base:=w.heap.size) (ok:=fun k_=>((True∧some k_≠(.slice Ao9 t306.length co9:Value).ownBlock)∧some k_≠(.slice Ao14 t314.length co14:Value).ownBlock)) (n:=t322.length) (c:=co21) ?_).2.2;exact (by (with_reducible repeat (first|apply rA|apply rN|apply rD));exact (rM (rF (p:=⟨Bc,1,none⟩) (rF (p:=⟨Bc,0,none⟩) (rT Bs.out Bd.out (by decide)) (fun _ hk=>hk.2) (.slice Ao21 t322.length co21)) (fun _ hk=>hk.2) (.slice Ao25 t325.length co25)) (fun _ h_=>h_.1))));(case side6=>exact (Kd.R_reads' Bs.out).2.1);(case side7=>refine (Kd.R_reads' (e:=3) (base:=w.heap.size) (ok:=fun k_=>((True∧some k_≠(.slice Ao11 t309.length co11:Value).ownBlock)∧some k_≠(.slice Ao17 t317.length co17:Value).ownBlock)) (n:=t325.length) (c:=co25) ?_).2.2;exact (by (with_reducible repeat (first|apply rA|apply rN|apply rD));exact (rM (rF (p:=⟨Bc,1,none⟩) (rF (p:=⟨Bc,0,none⟩) (rT Bt.out Bd.out (by decide)) (fun _ hk=>hk.2) (.slice Ao21 t322.length co21)) (fun _ hk=>hk.2) (.slice Ao25 t325.length co25)) (fun _ h_=>h_.1))));(case side8=>exact (Kd.R_reads' Bt.out).2.1);rintro e w33 ⟨rfl,hb⟩;refine ⟨_,rfl,?_⟩;have n0_:=Am (rB (by (with_reducible repeat (first|apply rA|apply rN|apply rD));exact (rM (rF (p:=⟨Bc,1,none⟩) (rF (p:=⟨Bc,0,none⟩) (rT Bm.out Bd.out (by decide)) (fun _ hk=>hk.2) (.slice Ao21 t322.length co21)) (fun _ hk=>hk.2) (.slice Ao25 t325.length co25)) (fun _ h_=>h_.1))) hb);have n1_:=Am (rB (by (with_reducible repeat (first|apply rA|apply rN|apply rD));exact (rM (rF (p:=⟨Bc,1,none⟩) (rF (p:=⟨Bc,0,none⟩) (rT Bn.out Bd.out (by decide)) (fun _ hk=>hk.2) (.slice Ao21 t322.length co21)) (fun _ hk=>hk.2) (.slice Ao25 t325.length co25)) (fun _ h_=>h_.1))) hb);have n2_:=Am (rB (by (with_reducible repeat (first|apply rA|apply rN|apply rD));exact (rM (rF (p:=⟨Bc,1,none⟩) (rF (p:=⟨Bc,0,none⟩) (rT Bp.out Bd.out (by decide)) (fun _ hk=>hk.2) (.slice Ao21 t322.length co21)) (fun _ hk=>hk.2) (.slice Ao25 t325.length co25)) (fun _ h_=>h_.1))) hb);have n3_:=Am (rB (by (with_reducible repeat (first|apply rA|apply rN|apply rD));exact (rM (rF (p:=⟨Bc,1,none⟩) (rF (p:=⟨Bc,0,none⟩) (rT Bq.out Bd.out (by decide)) (fun _ hk=>hk.2) (.slice Ao21 t322.length co21)) (fun _ hk=>hk.2) (.slice Ao25 t325.length co25)) (fun _ h_=>h_.1))) hb);have n4_:=Am (rB (by (with_reducible repeat (first|apply rA|apply rN|apply rD));exact (rM (rF (p:=⟨Bc,1,none⟩) (rF (p:=⟨Bc,0,none⟩) (rT Bs.out Bd.out (by decide)) (fun _ hk=>hk.2) (.slice Ao21 t322.length co21)) (fun _ hk=>hk.2) (.slice Ao25 t325.length co25)) (fun _ h_=>h_.1))) hb);have n5_:=Am (rB (by (with_reducible repeat (first|apply rA|apply rN|apply rD));exact (rM (rF (p:=⟨Bc,1,none⟩) (rF (p:=⟨Bc,0,none⟩) (rT Bt.out Bd.out (by decide)) (fun _ hk=>hk.2) (.slice Ao21 t322.length co21)) (fun _ hk=>hk.2) (.slice Ao25 t325.length co25)) (fun _ h_=>h_.1))) hb);have n6_:=Am (bB (g:=Bi) (o:=.cells #[.slice Ao9 t306.length co9,.slice Ao11 t309.length co11] 26 (0,0)) (by (with_reducible repeat (first|refine bN ?_ _|refine bD ?_|refine bA ?_ _|refine blk_far ?_ Bv.out _));exact Ba.out) hb);have n7_:=Am (bB (g:=Be) (o:=.cells #[.slice Ao14 t314.length co14,.slice Ao17 t317.length co17] 26 (0,0)) (by (with_reducible repeat (first|refine bN ?_ _|refine bD ?_|refine bA ?_ _|refine blk_far ?_ Bx.out _));exact Bb.out) hb);have n8_:=Am (bB (g:=Bc) (o:=.cells #[.slice Ao21 t322.length co21,.slice Ao25 t325.length co25] 26 (0,0)) (by (with_reducible repeat (first|refine bN ?_ _|refine bD ?_|refine bA ?_ _));refine blk_put (cs:=#[.slice Ao21 t322.length co21,.slice none 0 0]) ?_ 1 _ rfl;(with_reducible repeat (first|refine bN ?_ _|refine bD ?_|refine bA ?_ _));refine blk_put (cs:=#[.slice none 0 0,.slice none 0 0]) ?_ 0 _ rfl;(with_reducible repeat (first|refine bN ?_ _|refine bD ?_|refine bA ?_ _));exact Bd.out) hb);have n9_:=Am (bP (by repeat (first|(with_reducible first|exact HB.out|apply oA|apply pN|apply o1|refine bS ?_ Bo.out|refine bS ?_ Br.out|refine bS ?_ Bu.out)|exact HB.out)) hb);clear Bm Bn Bp Bq Bs Bt Ba Bb Bd HB;revert n0_ n1_ n2_ n3_ n4_ n5_ n6_ n7_ n8_ n9_;intro Bm Bn Bp Bq Bs Bt Ba Bb Bd HB;(try clear hb);(try clear hb2);(try clear hk);(try clear hi)))
   go_meet
   case rel=>exact ⟨_,((t320 == t328)),(by first|rfl|(simp;done)|(simp [*];done)),H',⟨by first|omega|exact Nat.le_refl _⟩,⟨by (with_reducible repeat (first|apply rA|apply rN|apply rD));exact rM Bm.out (fun _ hk=>⟨hk.1.2,hk.2⟩)⟩,⟨by (with_reducible repeat (first|apply rA|apply rN|apply rD));exact rM Bn.out (fun _ hk=>⟨hk.1.2,hk.2⟩)⟩,⟨by (with_reducible repeat (first|apply rA|apply rN|apply rD));exact rM Bp.out (fun _ hk=>⟨hk.1.2,hk.2⟩)⟩,⟨by (with_reducible repeat (first|apply rA|apply rN|apply rD));exact rM Bq.out (fun _ hk=>⟨hk.1.2,hk.2⟩)⟩,⟨by (with_reducible repeat (first|apply rA|apply rN|apply rD));exact rM Bs.out (fun _ hk=>⟨hk.1.2,hk.2⟩)⟩,⟨by (with_reducible repeat (first|apply rA|apply rN|apply rD));exact rM Bt.out (fun _ hk=>⟨hk.1.2,hk.2⟩)⟩,⟨by (with_reducible repeat (first|refine bN ?_ _|refine bD ?_|refine bA ?_ _));exact Ba.out⟩,⟨by (with_reducible repeat (first|refine bN ?_ _|refine bD ?_|refine bA ?_ _));exact Bb.out⟩,⟨by (with_reducible repeat (first|refine bN ?_ _|refine bD ?_|refine bA ?_ _));exact Bd.out⟩,⟨by repeat (first|(with_reducible first|exact HB.out|apply oA|apply pN|apply o1|refine bS ?_ Bo.out|refine bS ?_ Br.out|refine bS ?_ Bu.out)|exact HB.out)⟩⟩
  replace c27:=Bool.eq_false_iff.mpr c27
  subst c27
  have H1:(laws_FnPagesGive.j0 k t312 t320 false t306 t309 t314 t317)=some r:=by rw [if_neg (show ¬ (false=true) by decide)] at H;exact H
  clear H
  have H:=H1
  clear H1
  have H':=Am H
  clear H
  have Ds:=By.out
  have Dt:=Bw.out
  have Du:=Bx.out
  have Dv:=BA.out
  have BZ:=cz0 Bb.out
  have B0:=cz1 Bb.out
  have B1:=bF Bb.out 0
  have B2:=bF Bb.out 1
  have Dw:=Bz.out
  have Dx:=Bv.out
  have B3:=cz0 Bd.out
  have B4:=cz1 Bd.out
  have B5:=bF Bd.out 0
  have B6:=bF Bd.out 1
  go_wp2_with (first|((with_reducible refine gate_callee (f:=19) rfl ?_);refine goesL_ (some 33) rfl rfl Try.func19 (by kernel_rfl) rfl #[.agg #[.slice Ao14 t314.length co14,.slice Ao17 t317.length co17],.agg #[.slice Ao21 t322.length co21,.slice Ao25 t325.length co25]] rfl (by (try simp only [lM,lC,lN]);first|done|rfl|(simp only [lD,lT];rfl)) ?_;(with_reducible refine (laws_qdPages.calls k _ _ t314 _ _ t317 _ _ t322 _ _ t325 false _ ?side1 ?side2 ?side3 ?side4 ?side5 ?side6 ?side7 ?side8 A26.out).mono ?_);(case side1=>refine (Kd.R_reads' (e:=9) (base:=w.heap.size) (ok:=fun k_=>((True∧some k_≠(.slice Ao9 t306.length co9:Value).ownBlock)∧some k_≠(.slice Ao21 t322.length co21:Value).ownBlock)) (n:=t314.length) (c:=co14) ?_).2.2;exact (by (with_reducible repeat (first|apply rA|apply rN|apply rD));exact (rM (rF (p:=⟨Bc,1,none⟩) (rF (p:=⟨Bc,0,none⟩) (rT Bp.out Bd.out (by decide)) (fun _ hk=>hk.2) (.slice Ao21 t322.length co21)) (fun _ hk=>hk.2) (.slice Ao25 t325.length co25)) (fun _ h_=>h_.1))));(case side2=>exact (Kd.R_reads' Bp.out).2.1);(case side3=>refine (Kd.R_reads' (e:=3) (base:=w.heap.size) (ok:=fun k_=>((True∧some k_≠(.slice Ao11 t309.length co11:Value).ownBlock)∧some k_≠(.slice Ao25 t325.length co25:Value).ownBlock)) (n:=t317.length) (c:=co17) ?_).2.2;exact (by (with_reducible repeat (first|apply rA|apply rN|apply rD));exact (rM (rF (p:=⟨Bc,1,none⟩) (rF (p:=⟨Bc,0,none⟩) (rT Bq.out Bd.out (by decide)) (fun _ hk=>hk.2) (.slice Ao21 t322.length co21)) (fun _ hk=>hk.2) (.slice Ao25 t325.length co25)) (fun _ h_=>h_.1))));(case side4=>exact (Kd.R_reads' Bq.out).2.1);(case side5=>refine (Kd.R_reads' (e:=9) (base:=w.heap.size) (ok:=fun k_=>((True∧some k_≠(.slice Ao9 t306.length co9:Value).ownBlock)∧some k_≠(.slice Ao14 t314.length co14:Value).ownBlock)) (n:=t322.length) (c:=co21) ?_).2.2;exact (by (with_reducible repeat (first|apply rA|apply rN|apply rD));exact (rM (rF (p:=⟨Bc,1,none⟩) (rF (p:=⟨Bc,0,none⟩) (rT Bs.out Bd.out (by decide)) (fun _ hk=>hk.2) (.slice Ao21 t322.length co21)) (fun _ hk=>hk.2) (.slice Ao25 t325.length co25)) (fun _ h_=>h_.1))));(case side6=>exact (Kd.R_reads' Bs.out).2.1);(case side7=>refine (Kd.R_reads' (e:=3) (base:=w.heap.size) (ok:=fun k_=>((True∧some k_≠(.slice Ao11 t309.length co11:Value).ownBlock)∧some k_≠(.slice Ao17 t317.length co17:Value).ownBlock)) (n:=t325.length) (c:=co25) ?_).2.2;exact (by (with_reducible repeat (first|apply rA|apply rN|apply rD));exact (rM (rF (p:=⟨Bc,1,none⟩) (rF (p:=⟨Bc,0,none⟩) (rT Bt.out Bd.out (by decide)) (fun _ hk=>hk.2) (.slice Ao21 t322.length co21)) (fun _ hk=>hk.2) (.slice Ao25 t325.length co25)) (fun _ h_=>h_.1))));(case side8=>exact (Kd.R_reads' Bt.out).2.1);rintro e w39 ⟨rfl,hb⟩;refine ⟨_,rfl,?_⟩;have n0_:=Am (rB (by (with_reducible repeat (first|apply rA|apply rN|apply rD));exact (rM (rF (p:=⟨Bc,1,none⟩) (rF (p:=⟨Bc,0,none⟩) (rT Bm.out Bd.out (by decide)) (fun _ hk=>hk.2) (.slice Ao21 t322.length co21)) (fun _ hk=>hk.2) (.slice Ao25 t325.length co25)) (fun _ h_=>h_.1))) hb);have n1_:=Am (rB (by (with_reducible repeat (first|apply rA|apply rN|apply rD));exact (rM (rF (p:=⟨Bc,1,none⟩) (rF (p:=⟨Bc,0,none⟩) (rT Bn.out Bd.out (by decide)) (fun _ hk=>hk.2) (.slice Ao21 t322.length co21)) (fun _ hk=>hk.2) (.slice Ao25 t325.length co25)) (fun _ h_=>h_.1))) hb);have n2_:=Am (rB (by (with_reducible repeat (first|apply rA|apply rN|apply rD));exact (rM (rF (p:=⟨Bc,1,none⟩) (rF (p:=⟨Bc,0,none⟩) (rT Bp.out Bd.out (by decide)) (fun _ hk=>hk.2) (.slice Ao21 t322.length co21)) (fun _ hk=>hk.2) (.slice Ao25 t325.length co25)) (fun _ h_=>h_.1))) hb);have n3_:=Am (rB (by (with_reducible repeat (first|apply rA|apply rN|apply rD));exact (rM (rF (p:=⟨Bc,1,none⟩) (rF (p:=⟨Bc,0,none⟩) (rT Bq.out Bd.out (by decide)) (fun _ hk=>hk.2) (.slice Ao21 t322.length co21)) (fun _ hk=>hk.2) (.slice Ao25 t325.length co25)) (fun _ h_=>h_.1))) hb);have n4_:=Am (rB (by (with_reducible repeat (first|apply rA|apply rN|apply rD));exact (rM (rF (p:=⟨Bc,1,none⟩) (rF (p:=⟨Bc,0,none⟩) (rT Bs.out Bd.out (by decide)) (fun _ hk=>hk.2) (.slice Ao21 t322.length co21)) (fun _ hk=>hk.2) (.slice Ao25 t325.length co25)) (fun _ h_=>h_.1))) hb);have n5_:=Am (rB (by (with_reducible repeat (first|apply rA|apply rN|apply rD));exact (rM (rF (p:=⟨Bc,1,none⟩) (rF (p:=⟨Bc,0,none⟩) (rT Bt.out Bd.out (by decide)) (fun _ hk=>hk.2) (.slice Ao21 t322.length co21)) (fun _ hk=>hk.2) (.slice Ao25 t325.length co25)) (fun _ h_=>h_.1))) hb);have n6_:=Am (bB (g:=Bi) (o:=.cells #[.slice Ao9 t306.length co9,.slice Ao11 t309.length co11] 26 (0,0)) (by (with_reducible repeat (first|refine bN ?_ _|refine bD ?_|refine bA ?_ _|refine blk_far ?_ Bv.out _));exact Ba.out) hb);have n7_:=Am (bB (g:=Be) (o:=.cells #[.slice Ao14 t314.length co14,.slice Ao17 t317.length co17] 26 (0,0)) (by (with_reducible repeat (first|refine bN ?_ _|refine bD ?_|refine bA ?_ _|refine blk_far ?_ Bx.out _));exact Bb.out) hb);have n8_:=Am (bB (g:=Bc) (o:=.cells #[.slice Ao21 t322.length co21,.slice Ao25 t325.length co25] 26 (0,0)) (by (with_reducible repeat (first|refine bN ?_ _|refine bD ?_|refine bA ?_ _));refine blk_put (cs:=#[.slice Ao21 t322.length co21,.slice none 0 0]) ?_ 1 _ rfl;(with_reducible repeat (first|refine bN ?_ _|refine bD ?_|refine bA ?_ _));refine blk_put (cs:=#[.slice none 0 0,.slice none 0 0]) ?_ 0 _ rfl;(with_reducible repeat (first|refine bN ?_ _|refine bD ?_|refine bA ?_ _));exact Bd.out) hb);have n9_:=Am (bP (by repeat (first|(with_reducible first|exact HB.out|apply oA|apply pN|apply o1|refine bS ?_ Bo.out|refine bS ?_ Br.out|refine bS ?_ Bu.out)|exact HB.out)) hb);clear Bm Bn Bp Bq Bs Bt Ba Bb Bd HB;revert n0_ n1_ n2_ n3_ n4_ n5_ n6_ n7_ n8_ n9_;intro Bm Bn Bp Bq Bs Bt Ba Bb Bd HB;(try clear hb);(try clear hb2);(try clear hk);(try clear hi)))
  go_meet
  case rel=>exact ⟨_,(false),(by first|rfl|(simp;done)|(simp [*];done)),H',⟨by first|omega|exact Nat.le_refl _⟩,⟨by (with_reducible repeat (first|apply rA|apply rN|apply rD));exact rM Bm.out (fun _ hk=>⟨hk.1.2,hk.2⟩)⟩,⟨by (with_reducible repeat (first|apply rA|apply rN|apply rD));exact rM Bn.out (fun _ hk=>⟨hk.1.2,hk.2⟩)⟩,⟨by (with_reducible repeat (first|apply rA|apply rN|apply rD));exact rM Bp.out (fun _ hk=>⟨hk.1.2,hk.2⟩)⟩,⟨by (with_reducible repeat (first|apply rA|apply rN|apply rD));exact rM Bq.out (fun _ hk=>⟨hk.1.2,hk.2⟩)⟩,⟨by (with_reducible repeat (first|apply rA|apply rN|apply rD));exact rM Bs.out (fun _ hk=>⟨hk.1.2,hk.2⟩)⟩,⟨by (with_reducible repeat (first|apply rA|apply rN|apply rD));exact rM Bt.out (fun _ hk=>⟨hk.1.2,hk.2⟩)⟩,⟨by (with_reducible repeat (first|refine bN ?_ _|refine bD ?_|refine bA ?_ _));exact Ba.out⟩,⟨by (with_reducible repeat (first|refine bN ?_ _|refine bD ?_|refine bA ?_ _));exact Bb.out⟩,⟨by (with_reducible repeat (first|refine bN ?_ _|refine bD ?_|refine bA ?_ _));exact Bd.out⟩,⟨by repeat (first|(with_reducible first|exact HB.out|apply oA|apply pN|apply o1|refine bS ?_ Bo.out|refine bS ?_ Br.out|refine bS ?_ Bu.out)|exact HB.out)⟩⟩
 case rest =>
  clear HC6
  try clear c1
  try clear c2
  try clear c2b0
  try clear c2b1
  try clear p2
  try clear c3
  try clear c6
  try clear c15
  try clear c19
  try clear c22
  try clear c23
  try clear c24
  try clear c27
  try clear c28
  try clear c29
  try clear c31
  try clear c34
  try clear c35
  try clear c37
  try clear BB
  try clear BC
  try clear BF
  try clear BG
  try clear BJ
  try clear BK
  try clear BN
  try clear BO
  try clear BR
  try clear BS
  try clear BV
  try clear BW
  try clear BZ
  try clear B0
  try clear B3
  try clear B4
  try clear BD
  try clear BE
  try clear BH
  try clear BI
  try clear BL
  try clear BM
  try clear BP
  try clear BQ
  try clear BT
  try clear BU
  try clear BX
  try clear BY
  try clear B1
  try clear B2
  try clear B5
  try clear B6
  obtain ⟨kq,x9_5,rfl,HA,B7,Bj,Bg,Bh,Bf,Bk,Bl,Ba,Bb,Bd,HB⟩:=hcut
  cases kq with
 |zero=>exact absurd HA.out (by simp [laws_FnPagesGive.j0])
 |succ kj5 =>
   have H:=HA.out
   clear HA
   simp only [laws_FnPagesGive.j0] at H
   have HC40:=Am H
   clear H
   go_upto_region 7 with (fail)
   go_cut [44] (fun v44 wc=>∃ (kq:Nat) (x44_39:Bool),v44=.bool x44_39∧Aside0 (laws_FnPagesGive.j1 kq t312 x9_5 x44_39 t306 t309 t314 t317=some r)∧Aside0 (kq≤kj5)∧Aside0 (Kd.R Kd.string 9 wc w.heap.size (fun k_=>some k_≠((.slice Ao14 t314.length co14):Value).ownBlock∧some k_≠((.slice Ao21 t322.length co21):Value).ownBlock) (.slice Ao9 t306.length co9) t306)∧Aside0 (Kd.R (Kd.int .i64) 3 wc w.heap.size (fun k_=>some k_≠((.slice Ao17 t317.length co17):Value).ownBlock∧some k_≠((.slice Ao25 t325.length co25):Value).ownBlock) (.slice Ao11 t309.length co11) t309)∧Aside0 (Kd.R Kd.string 9 wc w.heap.size (fun k_=>some k_≠((.slice Ao9 t306.length co9):Value).ownBlock∧some k_≠((.slice Ao21 t322.length co21):Value).ownBlock) (.slice Ao14 t314.length co14) t314)∧Aside0 (Kd.R (Kd.int .i64) 3 wc w.heap.size (fun k_=>some k_≠((.slice Ao11 t309.length co11):Value).ownBlock∧some k_≠((.slice Ao25 t325.length co25):Value).ownBlock) (.slice Ao17 t317.length co17) t317)∧Aside0 (Kd.R Kd.string 9 wc w.heap.size (fun k_=>some k_≠((.slice Ao9 t306.length co9):Value).ownBlock∧some k_≠((.slice Ao14 t314.length co14):Value).ownBlock) (.slice Ao21 t322.length co21) t322)∧Aside0 (Kd.R (Kd.int .i64) 3 wc w.heap.size (fun k_=>some k_≠((.slice Ao11 t309.length co11):Value).ownBlock∧some k_≠((.slice Ao17 t317.length co17):Value).ownBlock) (.slice Ao25 t325.length co25) t325)∧Aside0 (wc.heap[Bi]?=some (.cells #[(.slice Ao9 t306.length co9),(.slice Ao11 t309.length co11)] 26 (0,0)))∧Aside0 (wc.heap[Be]?=some (.cells #[(.slice Ao14 t314.length co14),(.slice Ao17 t317.length co17)] 26 (0,0)))∧Aside0 (wc.heap[Bc]?=some (.cells #[(.slice Ao21 t322.length co21),(.slice Ao25 t325.length co25)] 26 (0,0)))∧Aside0 (Below w.heap.size w wc))
   case first =>
    have H:=HC40.out
    clear HC40
    by_cases c41:x9_5=true
    ·subst c41
     have H1:(laws_FnPagesGive.j1 kj5 t312 true (!t320) t306 t309 t314 t317)=some r:=by rw [if_pos rfl] at H;exact H
     clear H
     have H:=H1
     clear H1
     have H':=Am H
     clear H
     go_wp2
     go_meet
     case rel=>exact ⟨_,(!t320),(by first|rfl|(simp;done)|(simp [*];done)),H',⟨by have:=B7.out;first|omega|exact Nat.le_refl _⟩,⟨by (with_reducible repeat (first|apply rA|apply rN|apply rD));exact Bj.out⟩,⟨by (with_reducible repeat (first|apply rA|apply rN|apply rD));exact Bg.out⟩,⟨by (with_reducible repeat (first|apply rA|apply rN|apply rD));exact Bh.out⟩,⟨by (with_reducible repeat (first|apply rA|apply rN|apply rD));exact Bf.out⟩,⟨by (with_reducible repeat (first|apply rA|apply rN|apply rD));exact Bk.out⟩,⟨by (with_reducible repeat (first|apply rA|apply rN|apply rD));exact Bl.out⟩,⟨by (with_reducible repeat (first|refine bN ?_ _|refine bD ?_|refine bA ?_ _));exact Ba.out⟩,⟨by (with_reducible repeat (first|refine bN ?_ _|refine bD ?_|refine bA ?_ _));exact Bb.out⟩,⟨by (with_reducible repeat (first|refine bN ?_ _|refine bD ?_|refine bA ?_ _));exact Bd.out⟩,⟨by repeat (first|(with_reducible first|exact HB.out|apply oA|apply pN|apply o1|refine bS ?_ Bo.out|refine bS ?_ Br.out|refine bS ?_ Bu.out)|exact HB.out)⟩⟩
    replace c41:=Bool.eq_false_iff.mpr c41
    subst c41
    have H1:(laws_FnPagesGive.j1 kj5 t312 false true t306 t309 t314 t317)=some r:=by rw [if_neg (show ¬ (false=true) by decide)] at H;exact H
    clear H
    have H:=H1
    clear H1
    have H':=Am H
    clear H
    go_wp2
    go_meet
    case rel=>exact ⟨_,(true),(by first|rfl|(simp;done)|(simp [*];done)),H',⟨by have:=B7.out;first|omega|exact Nat.le_refl _⟩,⟨by (with_reducible repeat (first|apply rA|apply rN|apply rD));exact Bj.out⟩,⟨by (with_reducible repeat (first|apply rA|apply rN|apply rD));exact Bg.out⟩,⟨by (with_reducible repeat (first|apply rA|apply rN|apply rD));exact Bh.out⟩,⟨by (with_reducible repeat (first|apply rA|apply rN|apply rD));exact Bf.out⟩,⟨by (with_reducible repeat (first|apply rA|apply rN|apply rD));exact Bk.out⟩,⟨by (with_reducible repeat (first|apply rA|apply rN|apply rD));exact Bl.out⟩,⟨by (with_reducible repeat (first|refine bN ?_ _|refine bD ?_|refine bA ?_ _));exact Ba.out⟩,⟨by (with_reducible repeat (first|refine bN ?_ _|refine bD ?_|refine bA ?_ _));exact Bb.out⟩,⟨by (with_reducible repeat (first|refine bN ?_ _|refine bD ?_|refine bA ?_ _));exact Bd.out⟩,⟨by repeat (first|(with_reducible first|exact HB.out|apply oA|apply pN|apply o1|refine bS ?_ Bo.out|refine bS ?_ Br.out|refine bS ?_ Bu.out)|exact HB.out)⟩⟩
   case rest =>
    clear HC40
    try clear c1
    try clear c2
    try clear c2b0
    try clear c2b1
    try clear p2
    try clear c3
    try clear c4
    try clear c6
    try clear c15
    try clear c19
    try clear c22
    try clear c23
    try clear c24
    try clear c27
    try clear c28
    try clear c29
    try clear c31
    try clear c34
    try clear c35
    try clear c37
    try clear c41
    try clear BB
    try clear BC
    try clear BF
    try clear BG
    try clear BJ
    try clear BK
    try clear BN
    try clear BO
    try clear BR
    try clear BS
    try clear BV
    try clear BW
    try clear BZ
    try clear B0
    try clear B3
    try clear B4
    try clear BD
    try clear BE
    try clear BH
    try clear BI
    try clear BL
    try clear BM
    try clear BP
    try clear BQ
    try clear BT
    try clear BU
    try clear BX
    try clear BY
    try clear B1
    try clear B2
    try clear B5
    try clear B6
    try clear p2
    obtain ⟨kq,x44_39,rfl,HA,Dc,Bj,Bg,Bh,Bf,Bk,Bl,Ba,Bb,Bd,HB⟩:=hcut
    cases kq with
   |zero=>exact absurd HA.out (by simp [laws_FnPagesGive.j1])
   |succ kj39 =>
     have H:=HA.out
     clear HA
     simp only [laws_FnPagesGive.j1] at H
     by_cases c42:x44_39=true
     ·subst c42
      have H1:(some x9_5)=some r:=by rw [if_pos rfl] at H;exact H
      clear H
      have H:=H1
      clear H1
      obtain rfl:=Option.some.inj H
      go_wp2
      go_ret
      exact ⟨by first|rfl|(simp [errW_none,errW_some] <;> rfl)|(simp [*,errW_none,errW_some] <;> rfl),by repeat (first|(with_reducible first|exact HB.out|apply oA|apply pN|apply o1|refine bS ?_ Bo.out|refine bS ?_ Br.out|refine bS ?_ Bu.out)|exact HB.out)⟩
     replace c42:=Bool.eq_false_iff.mpr c42
     subst c42
     have H1:(if 0≤t312 then (if t312<(t309.length:Int) then (if (rd t309 t312)=1 then (laws_FnPagesGive.j2 kj39 1 t306 t309 t314 t317) else (laws_FnPagesGive.j2 kj39 0 t306 t309 t314 t317)) else (none)) else (none))=some r:=by rw [if_neg (show ¬ (false=true) by decide)] at H;exact H
     clear H
     have H:=H1
     clear H1
     by_cases c43:0≤t312
     rotate_left
     ·rw [if_neg c43] at H
      exact absurd H (by simp)

     rw [if_pos c43] at H
     have c43b0:decide (0≤t312)=true:=decide_eq_true c43
     clear c43
     by_cases c44:t312<(t309.length:Int)
     rotate_left
     ·rw [if_neg c44] at H
      exact absurd H (by simp)
     rw [if_pos c44] at H
     have c44b0:decide (t312<(t309.length:Int))=true:=decide_eq_true c44
     clear c44
     have HC45:=Am H
     clear H
     have Dy:=Bw.out
     have Dz:=By.out
     have DA:=Bv.out
     have DB:=Bz.out
     have B8:=cz0 Ba.out
     have B9:=cz1 Ba.out
     have Da:=bF Ba.out 0
     have Db:=bF Ba.out 1
     have p331:0≤(t312:Int):=of_decide_eq_true (by first|(with_reducible assumption)|assumption)
     have q331:t312<(t309.length:Int):=of_decide_eq_true (by first|(with_reducible assumption)|assumption)
     obtain ⟨ad331,e331,hx331_0⟩:=Kd.at_int (Kd.R_reads' Bg.out).2.2 t312 p331 q331
     cases e331
     replace p331:=eq_true p331
     replace q331:=eq_true q331
     go_upto_if 51 with (fail)
     go_cut [10] (fun v10 wc=>∃ (kq:Nat) (x10_44:Int),v10=.int .i64 x10_44∧Aside0 (laws_FnPagesGive.j2 kq x10_44 t306 t309 t314 t317=some r)∧Aside0 (kq≤kj39)∧Aside0 (Kd.R Kd.string 9 wc w.heap.size (fun k_=>some k_≠((.slice Ao14 t314.length co14):Value).ownBlock∧some k_≠((.slice Ao21 t322.length co21):Value).ownBlock) (.slice Ao9 t306.length co9) t306)∧Aside0 (Kd.R (Kd.int .i64) 3 wc w.heap.size (fun k_=>some k_≠((.slice Ao17 t317.length co17):Value).ownBlock∧some k_≠((.slice Ao25 t325.length co25):Value).ownBlock) (.slice (some ad331) t309.length co11) t309)∧Aside0 (Kd.R Kd.string 9 wc w.heap.size (fun k_=>some k_≠((.slice Ao9 t306.length co9):Value).ownBlock∧some k_≠((.slice Ao21 t322.length co21):Value).ownBlock) (.slice Ao14 t314.length co14) t314)∧Aside0 (Kd.R (Kd.int .i64) 3 wc w.heap.size (fun k_=>some k_≠((.slice (some ad331) t309.length co11):Value).ownBlock∧some k_≠((.slice Ao25 t325.length co25):Value).ownBlock) (.slice Ao17 t317.length co17) t317)∧Aside0 (Kd.R Kd.string 9 wc w.heap.size (fun k_=>some k_≠((.slice Ao9 t306.length co9):Value).ownBlock∧some k_≠((.slice Ao14 t314.length co14):Value).ownBlock) (.slice Ao21 t322.length co21) t322)∧Aside0 (Kd.R (Kd.int .i64) 3 wc w.heap.size (fun k_=>some k_≠((.slice (some ad331) t309.length co11):Value).ownBlock∧some k_≠((.slice Ao17 t317.length co17):Value).ownBlock) (.slice Ao25 t325.length co25) t325)∧Aside0 (wc.heap[Bi]?=some (.cells #[(.slice Ao9 t306.length co9),(.slice (some ad331) t309.length co11)] 26 (0,0)))∧Aside0 (wc.heap[Be]?=some (.cells #[(.slice Ao14 t314.length co14),(.slice Ao17 t317.length co17)] 26 (0,0)))∧Aside0 (wc.heap[Bc]?=some (.cells #[(.slice Ao21 t322.length co21),(.slice Ao25 t325.length co25)] 26 (0,0)))∧Aside0 (Below w.heap.size w wc))
     case first =>
      have H:=HC45.out
      clear HC45
      by_cases c49:(rd t309 t312)=1
      rotate_left
      ·rw [if_neg c49] at H
       have c49b0:((rd t309 t312) == 1)=false:=beq_eq_false_iff_ne.mpr c49
       have c49b1:((rd t309 t312) != 1)=true:=bne_iff_ne.mpr c49
       (first|rw [c49b0]|(simp only [i64_w,i32_w];rw [c49b0])|skip)
       have H':=Am H
       clear H
       go_wp2
       go_meet
       case rel=>exact ⟨_,(0),(by first|rfl|(simp;done)|(simp [*];done)),H',⟨by have:=B7.out;have:=Dc.out;first|omega|exact Nat.le_refl _⟩,⟨by (with_reducible repeat (first|apply rA|apply rN|apply rD));exact Bj.out⟩,⟨by (with_reducible repeat (first|apply rA|apply rN|apply rD));exact Bg.out⟩,⟨by (with_reducible repeat (first|apply rA|apply rN|apply rD));exact Bh.out⟩,⟨by (with_reducible repeat (first|apply rA|apply rN|apply rD));exact Bf.out⟩,⟨by (with_reducible repeat (first|apply rA|apply rN|apply rD));exact Bk.out⟩,⟨by (with_reducible repeat (first|apply rA|apply rN|apply rD));exact Bl.out⟩,⟨by (with_reducible repeat (first|refine bN ?_ _|refine bD ?_|refine bA ?_ _));exact Ba.out⟩,⟨by (with_reducible repeat (first|refine bN ?_ _|refine bD ?_|refine bA ?_ _));exact Bb.out⟩,⟨by (with_reducible repeat (first|refine bN ?_ _|refine bD ?_|refine bA ?_ _));exact Bd.out⟩,⟨by repeat (first|(with_reducible first|exact HB.out|apply oA|apply pN|apply o1|refine bS ?_ Bo.out|refine bS ?_ Br.out|refine bS ?_ Bu.out)|exact HB.out)⟩⟩
      rw [if_pos c49] at H
      have c49b0:((rd t309 t312) == 1)=true:=beq_iff_eq.mpr c49
      have c49b1:((rd t309 t312) != 1)=false:=bne_eq_false_iff_eq.mpr c49
      clear c49
      (first|rw [c49b0]|(simp only [i64_w,i32_w];rw [c49b0])|skip)
      have H':=Am H
      clear H
      go_wp2
      go_meet
      case rel=>exact ⟨_,(1),(by first|rfl|(simp;done)|(simp [*];done)),H',⟨by have:=B7.out;have:=Dc.out;first|omega|exact Nat.le_refl _⟩,⟨by (with_reducible repeat (first|apply rA|apply rN|apply rD));exact Bj.out⟩,⟨by (with_reducible repeat (first|apply rA|apply rN|apply rD));exact Bg.out⟩,⟨by (with_reducible repeat (first|apply rA|apply rN|apply rD));exact Bh.out⟩,⟨by (with_reducible repeat (first|apply rA|apply rN|apply rD));exact Bf.out⟩,⟨by (with_reducible repeat (first|apply rA|apply rN|apply rD));exact Bk.out⟩,⟨by (with_reducible repeat (first|apply rA|apply rN|apply rD));exact Bl.out⟩,⟨by (with_reducible repeat (first|refine bN ?_ _|refine bD ?_|refine bA ?_ _));exact Ba.out⟩,⟨by (with_reducible repeat (first|refine bN ?_ _|refine bD ?_|refine bA ?_ _));exact Bb.out⟩,⟨by (with_reducible repeat (first|refine bN ?_ _|refine bD ?_|refine bA ?_ _));exact Bd.out⟩,⟨by repeat (first|(with_reducible first|exact HB.out|apply oA|apply pN|apply o1|refine bS ?_ Bo.out|refine bS ?_ Br.out|refine bS ?_ Bu.out)|exact HB.out)⟩⟩
     case rest =>
      clear HC45
      try clear c1
      try clear c2
      try clear c2b0
      try clear c2b1
      try clear p2
      try clear c3
      try clear p3
      try clear q3
      try clear hx3
      try clear c4
      try clear c6
      try clear c15
      try clear c19
      try clear c22
      try clear c23
      try clear c24
      try clear c27
      try clear c28
      try clear c29
      try clear c31
      try clear p33
      try clear q33
      try clear hx33
      try clear c34
      try clear c35
      try clear c37
      try clear c41
      try clear c42
      try clear c43
      try clear c43b0
      try clear c44
      try clear c44b0
      try clear c46
      try clear c47
      try clear c49
      try clear c49b0
      try clear c49b1
      try clear BB
      try clear BC
      try clear BF
      try clear BG
      try clear BJ
      try clear BK
      try clear BN
      try clear BO
      try clear BR
      try clear BS
      try clear BV
      try clear BW
      try clear BZ
      try clear B0
      try clear B3
      try clear B4
      try clear B8
      try clear B9
      try clear BD
      try clear BE
      try clear BH
      try clear BI
      try clear BL
      try clear BM
      try clear BP
      try clear BQ
      try clear BT
      try clear BU
      try clear BX
      try clear BY
      try clear B1
      try clear B2
      try clear B5
      try clear B6
      try clear Da
      try clear Db
      try clear hx331_0
      try clear p2
      try clear p331
      try clear q331
      obtain ⟨kq,x10_44,rfl,HA,DC,Bj,Bg,Bh,Bf,Bk,Bl,Ba,Bb,Bd,HB⟩:=hcut
      cases kq with
     |zero=>exact absurd HA.out (by simp [laws_FnPagesGive.j2])
     |succ kj44 =>
       have H:=HA.out
       clear HA
       simp only [laws_FnPagesGive.j2] at H
       replace H:=oC H
       obtain ⟨t332,A500,H⟩:=H
       replace H:(if t332=true then ((laws_qdSum.f kj44 t317).bind fun t333=>((laws_qdSum.f kj44 t309).bind fun t334=>(if t333=(wrap64 (t334 - 1)) then ((impl_PagesRoom.f kj44 t314 t317).bind fun t335=>((impl_PagesRoom.f kj44 t306 t309).bind fun t336=>(some (t335 == (wrap64 (t336 + x10_44)))))) else (some false)))) else (some false))=some r:=H
       have A50:=Am A500
       clear A500
       by_cases c51:t332=true
       rotate_left
       ·replace c51:=Bool.eq_false_iff.mpr c51
        subst c51
        have H1:(some false)=some r:=by rw [if_neg (show ¬ (false=true) by decide)] at H;exact H
        clear H
        have H:=H1
        clear H1
        exact absurd ((Option.some.inj H).trans hT_.out) (by decide)
       subst c51
       have H1:((laws_qdSum.f kj44 t317).bind fun t333=>((laws_qdSum.f kj44 t309).bind fun t334=>(if t333=(wrap64 (t334 - 1)) then ((impl_PagesRoom.f kj44 t314 t317).bind fun t335=>((impl_PagesRoom.f kj44 t306 t309).bind fun t336=>(some (t335 == (wrap64 (t336 + x10_44)))))) else (some false))))=some r:=by rw [if_pos rfl] at H;exact H
       clear H
       have H:=H1
       clear H1
       replace H:=oC H
       obtain ⟨t333,A520,H⟩:=H
       replace H:((laws_qdSum.f kj44 t309).bind fun t334=>(if t333=(wrap64 (t334 - 1)) then ((impl_PagesRoom.f kj44 t314 t317).bind fun t335=>((impl_PagesRoom.f kj44 t306 t309).bind fun t336=>(some (t335 == (wrap64 (t336 + x10_44)))))) else (some false)))=some r:=H
       have A52:=Am A520
       clear A520
       replace H:=oC H
       obtain ⟨t334,A530,H⟩:=H
       replace H:(if t333=(wrap64 (t334 - 1)) then ((impl_PagesRoom.f kj44 t314 t317).bind fun t335=>((impl_PagesRoom.f kj44 t306 t309).bind fun t336=>(some (t335 == (wrap64 (t336 + x10_44)))))) else (some false))=some r:=H
       have A53:=Am A530
       clear A530
       by_cases c54:t333=(wrap64 (t334 - 1))
       rotate_left
       ·rw [if_neg c54] at H
        have c54b0:(t333 == (wrap64 (t334 - 1)))=false:=beq_eq_false_iff_ne.mpr c54
        have c54b1:(t333 != (wrap64 (t334 - 1)))=true:=bne_iff_ne.mpr c54
        exact absurd ((Option.some.inj H).trans hT_.out) (by decide)
       rw [if_pos c54] at H
       have c54b0:(t333 == (wrap64 (t334 - 1)))=true:=beq_iff_eq.mpr c54
       have c54b1:(t333 != (wrap64 (t334 - 1)))=false:=bne_eq_false_iff_eq.mpr c54
       clear c54
       replace H:=oC H
       obtain ⟨t335,A550,H⟩:=H
       replace H:((impl_PagesRoom.f kj44 t306 t309).bind fun t336=>(some (t335 == (wrap64 (t336 + x10_44)))))=some r:=H
       have A55:=Am A550
       clear A550
       replace H:=oC H
       obtain ⟨t336,A560,H⟩:=H
       replace H:(some (t335 == (wrap64 (t336 + x10_44))))=some r:=H
       have A56:=Am A560
       clear A560
       obtain rfl:=Option.some.inj H
       try go_wp2
       have n0_:=Am (rD Bj.out)
       have n1_:=Am (rD Bg.out)
       have n2_:=Am (rD Bh.out)
       have n3_:=Am (rD Bf.out)
       have n4_:=Am (rD Bk.out)
       have n5_:=Am (rD Bl.out)
       have n6_:=Am (bD Ba.out)
       have n7_:=Am (bD Bb.out)
       have n8_:=Am (bD Bd.out)
       have n9_:=Am (o1 HB.out)
       clear Bj
       clear Bg
       clear Bh
       clear Bf
       clear Bk
       clear Bl
       clear Ba
       clear Bb
       clear Bd
       clear HB
       have Bj:=n0_
       have Bg:=n1_
       have Bh:=n2_
       have Bf:=n3_
       have Bk:=n4_
       have Bl:=n5_
       have Ba:=n6_
       have Bb:=n7_
       have Bd:=n8_
       have HB:=n9_
       clear n0_ n1_ n2_ n3_ n4_ n5_ n6_ n7_ n8_ n9_
       refine start_ (n:=22) (S:=fun w'=>w'.cell? ⟨Be,0,none⟩=some (.slice Ao14 t314.length co14)∧w'.cell? ⟨Be,1,none⟩=some (.slice Ao17 t317.length co17)∧w'.cell? ⟨Bi,0,none⟩=some (.slice Ao9 t306.length co9)∧w'.cell? ⟨Bi,1,none⟩=some (.slice (some ad331) t309.length co11)) (ds:=[]) z6q0 (by kernel_rfl) rfl rfl ⟨(bC Bb.out 0).trans rfl,(bC Bb.out 1).trans rfl,(bC Ba.out 0).trans rfl,(bC Ba.out 1).trans rfl⟩ (fun hHeld=>?_);refine with_st laws_FnPagesGive.tab12 laws_FnPagesGive.bits12 (fun _ _ _ _ _ h=>h) (fun HT_=>?_)
       generalize wc.drew=w57 at Bj Bg Bh Bf Bk Bl Ba Bb Bd HB hHeld ⊢
       refine tS 0 52 z6q1 HT_ hHeld rfl rfl (by kernel_rfl) (by rfl) (by rintro w' ⟨s0,s1,s2,s3⟩;go_simp;with_reducible rfl) (by simp only [Act.put,lA,lZ,lS,iw,jw];rfl) ?_
       refine oS 1 53 z6q2 HT_ rfl rfl (by kernel_rfl) (by decide) (fun K hK=>?_)
       refine goes_ Try.func29 (by kernel_rfl) rfl #[.agg #[.slice Ao14 t314.length co14,.slice Ao17 t317.length co17]] (by rfl) rfl rfl (by (try simp only [lM,lC,lN]);first|done|rfl|(simp only [lD,lT];rfl)) ?_
       with_reducible refine (impl_PagesOk.calls kj44 _ _ t314 _ _ t317 true _ ?side1 ?side2 ?side3 ?side4 A50.out).mono ?_
       (case side1=>exact cL (Kd.R_reads' Bh.out).2.2)
       (case side2=>exact (Kd.R_reads' Bh.out).2.1)
       (case side3=>exact cL (Kd.R_reads' Bf.out).2.2)
       (case side4=>exact (Kd.R_reads' Bf.out).2.1)
       rintro e w58 ⟨rfl,hb⟩
       refine ⟨_,rfl,?_⟩
       have n0_:=Am (rB (rL Bj.out) hb)
       have n1_:=Am (rB (rL Bg.out) hb)
       have n2_:=Am (rB (rL Bh.out) hb)
       have n3_:=Am (rB (rL Bf.out) hb)
       have n4_:=Am (rB (rL Bk.out) hb)
       have n5_:=Am (rB (rL Bl.out) hb)
       have n6_:=Am (bX Ba.out hb)
       have n7_:=Am (bX Bb.out hb)
       have n8_:=Am (bX Bd.out hb)
       have n9_:=Am (bP (by repeat (first|(with_reducible first|exact HB.out|apply oA|apply pN|apply o1|refine bS ?_ Bo.out|refine bS ?_ Br.out|refine bS ?_ Bu.out)|exact HB.out)) hb)
       clear Bj
       clear Bg
       clear Bh
       clear Bf
       clear Bk
       clear Bl
       clear Ba
       clear Bb
       clear Bd
       clear HB
       have Bj:=n0_
       have Bg:=n1_
       have Bh:=n2_
       have Bf:=n3_
       have Bk:=n4_
       have Bl:=n5_
       have Ba:=n6_
       have Bb:=n7_
       have Bd:=n8_
       have HB:=n9_
       clear n0_ n1_ n2_ n3_ n4_ n5_ n6_ n7_ n8_ n9_
       (try clear hb)
       (try clear hb2)
       (try clear hk)
       (try clear hi)
       refine hK.out _ _ ⟨(bC Bb.out 0).trans rfl,(bC Bb.out 1).trans rfl,(bC Ba.out 0).trans rfl,(bC Ba.out 1).trans rfl⟩ (fun hHeld=>?_)
       clear hK K
       refine norm_ (by show Act.put _ (some 53) _=_;simp only [Act.put,lA,lZ,lS,iw,jw];rfl) ?_
       refine pS 2 54 z6q3 HT_ rfl rfl (by kernel_rfl) (by rfl) (by intro w';go_simp;with_reducible rfl) (by simp only [Act.put,lA,lZ,lS,iw,jw];rfl) ?_
       refine pS 3 55 z6q4 HT_ rfl rfl (by kernel_rfl) (by rfl) (by intro w';go_simp;with_reducible rfl) (by simp only [Act.put,lA,lZ,lS,iw,jw];rfl) ?_
       refine pS 6 58 z6q5 HT_ rfl rfl (by kernel_rfl) (by rfl) (by intro w';go_simp;with_reducible rfl) (by simp only [Act.put,lA,lZ,lS,iw,jw];rfl) ?_
       refine tS 4 56 z6q6 HT_ hHeld rfl rfl (by kernel_rfl) (by rfl) (by rintro w' ⟨s0,s1,s2,s3⟩;go_simp;with_reducible rfl) (by simp only [Act.put,lA,lZ,lS,iw,jw];rfl) ?_
       refine tS 7 59 z6q7 HT_ hHeld rfl rfl (by kernel_rfl) (by rfl) (by rintro w' ⟨s0,s1,s2,s3⟩;go_simp;with_reducible rfl) (by simp only [Act.put,lA,lZ,lS,iw,jw];rfl) ?_
       refine oS 5 57 z6q8 HT_ rfl rfl (by kernel_rfl) (by decide) (fun K hK=>?_)
       refine goes_ Try.func26 (by kernel_rfl) rfl #[.slice Ao17 t317.length co17] (by rfl) rfl rfl (by (try simp only [lM,lC,lN]);first|done|rfl|(simp only [lD,lT];rfl)) ?_
       with_reducible refine (laws_qdSum.calls kj44 _ _ t317 t333 _ ?side1 ?side2 A52.out).mono ?_
       (case side1=>exact cL (Kd.R_reads' Bf.out).2.2)
       (case side2=>exact (Kd.R_reads' Bf.out).2.1)
       rintro e w' ⟨rfl,⟨nd,rfl⟩⟩
       refine ⟨_,rfl,?_⟩
       refine hK.out _ _ ⟨(bC Bb.out 0).trans rfl,(bC Bb.out 1).trans rfl,(bC Ba.out 0).trans rfl,(bC Ba.out 1).trans rfl⟩ (fun hHeld=>?_)
       clear hK K
       refine norm_ (by show Act.put _ (some 57) _=_;simp only [Act.put,lA,lZ,lS,iw,jw];rfl) ?_
       refine oS 8 60 z6q9 HT_ rfl rfl (by kernel_rfl) (by decide) (fun K hK=>?_)
       refine goes_ Try.func26 (by kernel_rfl) rfl #[.slice (some ad331) t309.length co11] (by rfl) rfl rfl (by (try simp only [lM,lC,lN]);first|done|rfl|(simp only [lD,lT];rfl)) ?_
       with_reducible refine (laws_qdSum.calls kj44 _ _ t309 t334 _ ?side1 ?side2 A53.out).mono ?_
       (case side1=>exact cL (Kd.R_reads' Bg.out).2.2)
       (case side2=>exact (Kd.R_reads' Bg.out).2.1)
       rintro e w' ⟨rfl,⟨nd,rfl⟩⟩
       refine ⟨_,rfl,?_⟩
       refine hK.out _ _ ⟨(bC Bb.out 0).trans rfl,(bC Bb.out 1).trans rfl,(bC Ba.out 0).trans rfl,(bC Ba.out 1).trans rfl⟩ (fun hHeld=>?_)
       clear hK K
       refine norm_ (by show Act.put _ (some 60) _=_;simp only [Act.put,lA,lZ,lS,iw,jw];rfl) ?_
       refine pS 9 61 z6q10 HT_ rfl rfl (by kernel_rfl) (by rfl) (by intro w';go_simp;with_reducible rfl) (by simp only [Act.put,lA,lZ,lS,iw,jw];rfl) ?_
       refine pS 10 62 z6q11 HT_ rfl rfl (by kernel_rfl) (by rfl) (by intro w';go_simp;with_reducible rfl) (by simp only [Act.put,lA,lZ,lS,iw,jw];rfl) ?_
       refine pS 11 63 z6q12 HT_ rfl rfl (by kernel_rfl) (by rfl) (by intro w';go_simp;with_reducible rfl) (by simp only [Act.put,lA,lZ,lS,iw,jw];rfl) ?_
       refine pS 12 64 z6q13 HT_ rfl rfl (by kernel_rfl) (by rfl) (by intro w';go_simp;with_reducible rfl) (by simp only [Act.put,lA,lZ,lS,iw,jw];rfl) ?_
       refine pS 17 69 z6q14 HT_ rfl rfl (by kernel_rfl) (by rfl) (by intro w';go_simp;with_reducible rfl) (by simp only [Act.put,lA,lZ,lS,iw,jw];rfl) ?_
       refine tS 13 65 z6q15 HT_ hHeld rfl rfl (by kernel_rfl) (by rfl) (by rintro w' ⟨s0,s1,s2,s3⟩;go_simp;with_reducible rfl) (by simp only [Act.put,lA,lZ,lS,iw,jw];rfl) ?_
       refine tS 15 67 z6q16 HT_ hHeld rfl rfl (by kernel_rfl) (by rfl) (by rintro w' ⟨s0,s1,s2,s3⟩;go_simp;with_reducible rfl) (by simp only [Act.put,lA,lZ,lS,iw,jw];rfl) ?_
       refine oS 14 66 z6q17 HT_ rfl rfl (by kernel_rfl) (by decide) (fun K hK=>?_)
       refine goes_ Try.func13 (by kernel_rfl) rfl #[.agg #[.slice Ao14 t314.length co14,.slice Ao17 t317.length co17]] (by rfl) rfl rfl (by (try simp only [lM,lC,lN]);first|done|rfl|(simp only [lD,lT];rfl)) ?_
       with_reducible refine (impl_PagesRoom.calls kj44 _ _ t314 _ _ t317 t335 _ ?side1 ?side2 ?side3 ?side4 A55.out).mono ?_
       (case side1=>exact cL (Kd.R_reads' Bh.out).2.2)
       (case side2=>exact (Kd.R_reads' Bh.out).2.1)
       (case side3=>exact cL (Kd.R_reads' Bf.out).2.2)
       (case side4=>exact (Kd.R_reads' Bf.out).2.1)
       rintro e w59 ⟨rfl,hb⟩
       refine ⟨_,rfl,?_⟩
       have n0_:=Am (rB (rL Bj.out) hb)
       have n1_:=Am (rB (rL Bg.out) hb)
       have n2_:=Am (rB (rL Bh.out) hb)
       have n3_:=Am (rB (rL Bf.out) hb)
       have n4_:=Am (rB (rL Bk.out) hb)
       have n5_:=Am (rB (rL Bl.out) hb)
       have n6_:=Am (bX Ba.out hb)
       have n7_:=Am (bX Bb.out hb)
       have n8_:=Am (bX Bd.out hb)
       have n9_:=Am (bP (by repeat (first|(with_reducible first|exact HB.out|apply oA|apply pN|apply o1|refine bS ?_ Bo.out|refine bS ?_ Br.out|refine bS ?_ Bu.out)|exact HB.out)) hb)
       clear Bj
       clear Bg
       clear Bh
       clear Bf
       clear Bk
       clear Bl
       clear Ba
       clear Bb
       clear Bd
       clear HB
       have Bj:=n0_
       have Bg:=n1_
       have Bh:=n2_
       have Bf:=n3_
       have Bk:=n4_
       have Bl:=n5_
       have Ba:=n6_
       have Bb:=n7_
       have Bd:=n8_
       have HB:=n9_
       clear n0_ n1_ n2_ n3_ n4_ n5_ n6_ n7_ n8_ n9_
       (try clear hb)
       (try clear hb2)
       (try clear hk)
       (try clear hi)
       refine hK.out _ _ ⟨(bC Bb.out 0).trans rfl,(bC Bb.out 1).trans rfl,(bC Ba.out 0).trans rfl,(bC Ba.out 1).trans rfl⟩ (fun hHeld=>?_)
       clear hK K
       refine norm_ (by show Act.put _ (some 66) _=_;simp only [Act.put,lA,lZ,lS,iw,jw];rfl) ?_
       refine oS 16 68 z6q18 HT_ rfl rfl (by kernel_rfl) (by decide) (fun K hK=>?_)
       refine goes_ Try.func13 (by kernel_rfl) rfl #[.agg #[.slice Ao9 t306.length co9,.slice (some ad331) t309.length co11]] (by rfl) rfl rfl (by (try simp only [lM,lC,lN]);first|done|rfl|(simp only [lD,lT];rfl)) ?_
       with_reducible refine (impl_PagesRoom.calls kj44 _ _ t306 _ _ t309 t336 _ ?side1 ?side2 ?side3 ?side4 A56.out).mono ?_
       (case side1=>exact cL (Kd.R_reads' Bj.out).2.2)
       (case side2=>exact (Kd.R_reads' Bj.out).2.1)
       (case side3=>exact cL (Kd.R_reads' Bg.out).2.2)
       (case side4=>exact (Kd.R_reads' Bg.out).2.1)
       rintro e w60 ⟨rfl,hb⟩
       refine ⟨_,rfl,?_⟩
       have n0_:=Am (rB (rL Bj.out) hb)
       have n1_:=Am (rB (rL Bg.out) hb)
       have n2_:=Am (rB (rL Bh.out) hb)
       have n3_:=Am (rB (rL Bf.out) hb)
       have n4_:=Am (rB (rL Bk.out) hb)
       have n5_:=Am (rB (rL Bl.out) hb)
       have n6_:=Am (bX Ba.out hb)
       have n7_:=Am (bX Bb.out hb)
       have n8_:=Am (bX Bd.out hb)
       have n9_:=Am (bP (by repeat (first|(with_reducible first|exact HB.out|apply oA|apply pN|apply o1|refine bS ?_ Bo.out|refine bS ?_ Br.out|refine bS ?_ Bu.out)|exact HB.out)) hb)
       clear Bj
       clear Bg
       clear Bh
       clear Bf
       clear Bk
       clear Bl
       clear Ba
       clear Bb
       clear Bd
       clear HB
       have Bj:=n0_
       have Bg:=n1_
       have Bh:=n2_
       have Bf:=n3_
       have Bk:=n4_
       have Bl:=n5_
       have Ba:=n6_
       have Bb:=n7_
       have Bd:=n8_
       have HB:=n9_
       clear n0_ n1_ n2_ n3_ n4_ n5_ n6_ n7_ n8_ n9_
       (try clear hb)
       (try clear hb2)
       (try clear hk)
       (try clear hi)
       refine hK.out _ _ ⟨(bC Bb.out 0).trans rfl,(bC Bb.out 1).trans rfl,(bC Ba.out 0).trans rfl,(bC Ba.out 1).trans rfl⟩ (fun hHeld=>?_)
       clear hK K
       refine norm_ (by show Act.put _ (some 68) _=_;simp only [Act.put,lA,lZ,lS,iw,jw];rfl) ?_
       refine pS 18 70 z6q19 HT_ rfl rfl (by kernel_rfl) (by rfl) (by intro w';go_simp;with_reducible rfl) (by simp only [Act.put,lA,lZ,lS,iw,jw];rfl) ?_
       refine pS 19 71 z6q20 HT_ rfl rfl (by kernel_rfl) (by rfl) (by intro w';go_simp;with_reducible rfl) (by simp only [Act.put,lA,lZ,lS,iw,jw];rfl) ?_
       refine pS 20 72 z6q21 HT_ rfl rfl (by kernel_rfl) (by rfl) (by intro w';go_simp;with_reducible rfl) (by simp only [Act.put,lA,lZ,lS,iw,jw];rfl) ?_
       refine pS 21 2 z6q22 HT_ rfl rfl (by kernel_rfl) (by rfl) (by intro w';go_simp;with_reducible rfl) (by simp only [Act.put,lA,lZ,lS,iw,jw];rfl) ?_
       refine done_ (done_of HT_.out (by kernel_rfl)) ?_
       try go_wp2
       go_ret
       exact ⟨by first|rfl|(simp [errW_none,errW_some] <;> rfl)|(simp [*,errW_none,errW_some] <;> rfl),by repeat (first|(with_reducible first|exact HB.out|apply oA|apply pN|apply o1|refine bS ?_ Bo.out|refine bS ?_ Br.out|refine bS ?_ Bu.out)|exact HB.out)⟩
/-- THE ONE PURE STATEMENT of laws_FnPagesGive: yours. -/
def laws_FnPagesGive.Pure:Prop:=∀ (l0:List Int),l0.length≤maxLen → l0.length * 1≤140737488351232 → (∀ x ∈ l0,(Lit.int .u8 x).wf=true) → ∃ k,laws_FnPagesGive.f k l0=some true
theorem laws_FnPagesGive.walk (P:laws_FnPagesGive.Pure) (a0:Option Addr) (len0 cap0:Nat) (z0:List Int) (w:World) (w0:(a0=none∧len0=0∧cap0=0∧z0=[])∨∃ x,a0=some x∧len0≤cap0∧cap0≤maxLen∧z0.length=cap0∧(∀ i,i<z0.length → w.cell? (x.add i)=some (.int .u8 (z0.getD i 0)))∧∀ n ∈ z0,(Lit.int .u8 n).wf=true) (y0:len0 * 1≤140737488351232) :
  Calls Try.prog 6 #[.slice a0 len0 cap0] w fun e w'=>e=.returned (.bool true)∧Below w.heap.size w w':=by
 obtain ⟨l0,rfl,hr0,hm0,hw0,hc0⟩:=ReadsInt.ofRowC w0
 obtain ⟨k,h⟩:=P l0 hm0 y0 hw0
 refine (laws_FnPagesGive.calls k _ _ l0 true w (Kd.C_of_reads (d:=(0:Int)) (h1:=fun _=>rfl) hr0) hc0 h ⟨rfl⟩).mono ?_
 rintro e w' ⟨rfl,hd⟩
 exact ⟨rfl,hd⟩

end Go.Proofs.Ytpdfkbggaihfpaa.PFnPagesGive
