/- Proved here, without a condition beyond those that each theorem states: what the Go functions named below do is what the plain functions of the same names say. Written by xprint.py, a program of this session. -/
import Derived.Test.YtpdfkbggaihfpaaPFnPagesKeepx0
import Derived.Test.YtpdfkbggaihfpaaPFnPagesKeepx1
import Derived.Test.YtpdfkbggaihfpaaPFnPagesKeepx6
import Derived.Test.YtpdfkbggaihfpaaPFnPagesKeepx9
import Derived.Test.YtpdfkbggaihfpaaPFnPagesKeepx12
import Derived.Test.YtpdfkbggaihfpaaPFnPagesKeepx13
namespace Go.Proofs.Ytpdfkbggaihfpaa.PFnPagesKeep
open Go.RowKit Go.Proofs.YtpdfkbggaihfpaaW.PrintWords Go.Proofs.YtpdfkbggaihfpaaW.PrintLast Go.Proofs.YtpdfkbggaihfpaaW.PrintMore
attribute [local go_sem] max2_int min2_int max_two min_two max_three min_three max_four min_four   -- for this text's walks alone
set_option linter.unusedVariables false
set_option linter.unusedSimpArgs false

attribute [local go_sem ↓] isSome_setCell_
/-! ### laws_FnPagesKeep: function 5 -/
mutual
def laws_FnPagesKeep.j0 : Nat → Int → Bool → Bool → List ByteArray → List Int → List ByteArray → List Int → Option (Bool)
|0, _, _, _, _, _, _, _ => none
|k + 1, x4, x6, x9, x317000, x317001, x325000, x325001 => if x9 = true then (laws_FnPagesKeep.j1 k x4 x9 (!x6) x317000 x317001 x325000 x325001) else (laws_FnPagesKeep.j1 k x4 x9 true x317000 x317001 x325000 x325001)
def laws_FnPagesKeep.j1 : Nat → Int → Bool → Bool → List ByteArray → List Int → List ByteArray → List Int → Option (Bool)
|0, _, _, _, _, _, _, _ => none
|k + 1, x4, x9, x45, x317000, x317001, x325000, x325001 => if x45 = true then (some x9) else ((impl_PagesGive.f k x325000 x325001 x4).bind fun bt334 => (if bt334.2.2 = true then ((laws_qdPages.f k bt334.1 bt334.2.1 x317000 x317001).bind fun t342 => (if t342 = true then ((laws_qdTexts.f k x325000 x317000).bind fun t343 => (if t343 = true then ((laws_qdSum.f k x325001).bind fun t344 => ((laws_qdSum.f k x317001).bind fun t345 => (some (t344 == (wrap64 (t345 + 1)))))) else (some false))) else (some false))) else (some false)))
end
def laws_FnPagesKeep.f (k : Nat) (l0 : List Int) : Option (Bool) := if (l0.length : Int) > 1048576 then (some true) else ((spec_DrawPagesKeep.f k l0).bind fun bt309 => ((impl_PagesKeep.f k bt309.1 bt309.2.1 bt309.2.2).bind fun bt317 => ((spec_PagesKeep.f k bt309.1 bt309.2.1 bt309.2.2).bind fun bt325 => ((laws_qdPages.f k bt317.1 bt317.2.1 bt325.1 bt325.2.1).bind fun t333 => (if t333 = true then (laws_FnPagesKeep.j0 k bt309.2.2 bt317.2.2 (bt317.2.2 == bt325.2.2) bt309.1 bt309.2.1 bt317.1 bt317.2.1) else (laws_FnPagesKeep.j0 k bt309.2.2 bt317.2.2 false bt309.1 bt309.2.1 bt317.1 bt317.2.1))))))
theorem laws_FnPagesKeep.mono_l : ∀ k, (∀ y0 y1 y2 y3 y4 y5 y6, LeO (laws_FnPagesKeep.j0 k y0 y1 y2 y3 y4 y5 y6) (laws_FnPagesKeep.j0 (k + 1) y0 y1 y2 y3 y4 y5 y6)) ∧ (∀ y0 y1 y2 y3 y4 y5 y6, LeO (laws_FnPagesKeep.j1 k y0 y1 y2 y3 y4 y5 y6) (laws_FnPagesKeep.j1 (k + 1) y0 y1 y2 y3 y4 y5 y6))
|0 => ⟨fun _ _ _ _ _ _ _ r h => by simp [laws_FnPagesKeep.j0] at h, fun _ _ _ _ _ _ _ r h => by simp [laws_FnPagesKeep.j1] at h⟩
|k + 1 => by
  obtain ⟨ih0, ih1⟩ := laws_FnPagesKeep.mono_l k
  refine ⟨?_, ?_⟩
  ·intro y0 y1 y2 y3 y4 y5 y6
   unfold laws_FnPagesKeep.j0
   repeat' first
  |(with_reducible exact ih0 _ _ _ _ _ _ _)
  |(with_reducible exact ih1 _ _ _ _ _ _ _)
  |(with_reducible exact impl_PagesGive.mono _ _ _ _)
  |(with_reducible exact impl_PagesKeep.mono _ _ _ _)
  |(with_reducible exact laws_qdPages.mono _ _ _ _ _)
  |(with_reducible exact laws_qdSum.mono _ _)
  |(with_reducible exact laws_qdTexts.mono _ _ _)
  |(with_reducible exact spec_DrawPagesKeep.mono _ _)
  |(with_reducible exact spec_PagesKeep.mono _ _ _ _)
  |(with_reducible exact LeO.refl _)
  |(with_reducible exact LeO.none _)
  |(with_reducible refine LeO.ite ?_ ?_)
  |(with_reducible refine LeO.bind ?_ (fun _ => ?_))
  |exact ih0 _ _ _ _ _ _ _
  |exact ih1 _ _ _ _ _ _ _
  |exact impl_PagesGive.mono _ _ _ _
  |exact impl_PagesKeep.mono _ _ _ _
  |exact laws_qdPages.mono _ _ _ _ _
  |exact laws_qdSum.mono _ _
  |exact laws_qdTexts.mono _ _ _
  |exact spec_DrawPagesKeep.mono _ _
  |exact spec_PagesKeep.mono _ _ _ _
  |exact LeO.none _
  |refine LeO.ite ?_ ?_
  |refine LeO.bind ?_ (fun _ => ?_)
  ·intro y0 y1 y2 y3 y4 y5 y6
   unfold laws_FnPagesKeep.j1
   repeat' first
  |(with_reducible exact ih0 _ _ _ _ _ _ _)
  |(with_reducible exact ih1 _ _ _ _ _ _ _)
  |(with_reducible exact impl_PagesGive.mono _ _ _ _)
  |(with_reducible exact impl_PagesKeep.mono _ _ _ _)
  |(with_reducible exact laws_qdPages.mono _ _ _ _ _)
  |(with_reducible exact laws_qdSum.mono _ _)
  |(with_reducible exact laws_qdTexts.mono _ _ _)
  |(with_reducible exact spec_DrawPagesKeep.mono _ _)
  |(with_reducible exact spec_PagesKeep.mono _ _ _ _)
  |(with_reducible exact LeO.refl _)
  |(with_reducible exact LeO.none _)
  |(with_reducible refine LeO.ite ?_ ?_)
  |(with_reducible refine LeO.bind ?_ (fun _ => ?_))
  |exact ih0 _ _ _ _ _ _ _
  |exact ih1 _ _ _ _ _ _ _
  |exact impl_PagesGive.mono _ _ _ _
  |exact impl_PagesKeep.mono _ _ _ _
  |exact laws_qdPages.mono _ _ _ _ _
  |exact laws_qdSum.mono _ _
  |exact laws_qdTexts.mono _ _ _
  |exact spec_DrawPagesKeep.mono _ _
  |exact spec_PagesKeep.mono _ _ _ _
  |exact LeO.none _
  |refine LeO.ite ?_ ?_
  |refine LeO.bind ?_ (fun _ => ?_)
theorem laws_FnPagesKeep.mono : ∀ a0 k, LeO (laws_FnPagesKeep.f k a0) (laws_FnPagesKeep.f (k + 1) a0) := by
 intro a0 k
 obtain ⟨ih0, ih1⟩ := laws_FnPagesKeep.mono_l k
 unfold laws_FnPagesKeep.f
 repeat' first
  |(with_reducible exact ih0 _ _ _ _ _ _ _)
  |(with_reducible exact ih1 _ _ _ _ _ _ _)
  |(with_reducible exact impl_PagesGive.mono _ _ _ _)
  |(with_reducible exact impl_PagesKeep.mono _ _ _ _)
  |(with_reducible exact laws_qdPages.mono _ _ _ _ _)
  |(with_reducible exact laws_qdSum.mono _ _)
  |(with_reducible exact laws_qdTexts.mono _ _ _)
  |(with_reducible exact spec_DrawPagesKeep.mono _ _)
  |(with_reducible exact spec_PagesKeep.mono _ _ _ _)
  |(with_reducible exact LeO.refl _)
  |(with_reducible exact LeO.none _)
  |(with_reducible refine LeO.ite ?_ ?_)
  |(with_reducible refine LeO.bind ?_ (fun _ => ?_))
  |exact ih0 _ _ _ _ _ _ _
  |exact ih1 _ _ _ _ _ _ _
  |exact impl_PagesGive.mono _ _ _ _
  |exact impl_PagesKeep.mono _ _ _ _
  |exact laws_qdPages.mono _ _ _ _ _
  |exact laws_qdSum.mono _ _
  |exact laws_qdTexts.mono _ _ _
  |exact spec_DrawPagesKeep.mono _ _
  |exact spec_PagesKeep.mono _ _ _ _
  |exact LeO.none _
  |refine LeO.ite ?_ ?_
  |refine LeO.bind ?_ (fun _ => ?_)
def laws_FnPagesKeep.T10 : Bool × List (List Nat × List Nat) := (true, [([], []), ([0], [0]), ([1], [1]), ([1], [1]), ([2, 3, 1, 1], [1, 2, 3]), ([1, 4], [1, 4]), ([5, 4], [5]), ([6], [6]), ([7, 6], [6, 7]), ([6], [6]), ([9, 6], [6, 9]), ([8, 10, 6, 6], [6, 8, 10]), ([6, 11], [6, 11]), ([12, 11], [12]), ([13], [13]), ([14, 13], [13, 14]), ([15, 13, 13], [13, 15]), ([13], [13]), ([17, 13], [13, 17]), ([18, 16, 13], [13, 18]), ([19, 13], [13, 19]), ([16, 20, 13], [13, 16, 20]), ([13, 21], [13, 21]), ([22, 19, 0, 1, 2, 3, 4, 5, 6, 7, 8, 9, 10, 11, 12, 13, 14, 15, 16, 17, 18, 19, 20, 21, 22], [22])])
def laws_FnPagesKeep.B10 : List Nat := [0, 1, 3, 3, 15, 31, 63, 127, 255, 127, 639, 2047, 4095, 8191, 16383, 32767, 65535, 16383, 147455, 524287, 1048575, 2097151, 4194303, 8388607]
theorem laws_FnPagesKeep.tab10 : rtab .any (opsOf Try.f5 10) = laws_FnPagesKeep.T10 := by kernel_rfl
theorem laws_FnPagesKeep.bits10 : waitsOk laws_FnPagesKeep.T10.2 laws_FnPagesKeep.B10 = true := by kernel_rfl
abbrev z5q0 : Array Bool := bQ 24 0
abbrev z5q1 : Array Bool := bQ 24 1
abbrev z5q2 : Array Bool := bQ 24 3
abbrev z5q3 : Array Bool := bQ 24 7
abbrev z5q4 : Array Bool := bQ 24 15
abbrev z5q5 : Array Bool := bQ 24 31
abbrev z5q6 : Array Bool := bQ 24 63
abbrev z5q7 : Array Bool := bQ 24 127
abbrev z5q8 : Array Bool := bQ 24 255
abbrev z5q9 : Array Bool := bQ 24 767
abbrev z5q10 : Array Bool := bQ 24 1023
abbrev z5q11 : Array Bool := bQ 24 2047
abbrev z5q12 : Array Bool := bQ 24 4095
abbrev z5q13 : Array Bool := bQ 24 8191
abbrev z5q14 : Array Bool := bQ 24 16383
abbrev z5q15 : Array Bool := bQ 24 32767
abbrev z5q16 : Array Bool := bQ 24 163839
abbrev z5q17 : Array Bool := bQ 24 196607
abbrev z5q18 : Array Bool := bQ 24 458751
abbrev z5q19 : Array Bool := bQ 24 524287
abbrev z5q20 : Array Bool := bQ 24 1048575
abbrev z5q21 : Array Bool := bQ 24 2097151
abbrev z5q22 : Array Bool := bQ 24 4194303
abbrev z5q23 : Array Bool := bQ 24 8388607
abbrev z5q24 : Array Bool := bQ 24 16777215
set_option maxHeartbeats 2000000 in
set_option maxRecDepth 100000 in
theorem laws_FnPagesKeep.calls (k:Nat) (A0:Option Addr) (c0:Nat) (l0:List Int) (r:Bool) (w:World) (hr0:Kd.C (Kd.int .u8) w A0 l0.length l0) (hc0:l0.length≤c0) (h:laws_FnPagesKeep.f k l0=some r) (hT_:Aside0 (r=true)) :
  Calls Try.prog 5 #[.slice A0 l0.length c0] w fun e w'=>e=.returned (.bool r)∧Below w.heap.size w w':=by
 have hu26:=Try.underlying26
 have HR0:=Am hr0
 have HC0:=Am hc0
 clear hr0 hc0
 have HB:=Am (Below.refl w.heap.size w)
 have H:(if (l0.length:Int) > 1048576 then (some true) else ((spec_DrawPagesKeep.f k l0).bind fun bt309=>((impl_PagesKeep.f k bt309.1 bt309.2.1 bt309.2.2).bind fun bt317=>((spec_PagesKeep.f k bt309.1 bt309.2.1 bt309.2.2).bind fun bt325=>((laws_qdPages.f k bt317.1 bt317.2.1 bt325.1 bt325.2.1).bind fun t333=>(if t333=true then (laws_FnPagesKeep.j0 k bt309.2.2 bt317.2.2 (bt317.2.2 == bt325.2.2) bt309.1 bt309.2.1 bt317.1 bt317.2.1) else (laws_FnPagesKeep.j0 k bt309.2.2 bt317.2.2 false bt309.1 bt309.2.1 bt317.1 bt317.2.1)))))))=some r:=h
 clear h
 by_cases c2:(l0.length:Int) > 1048576
 ·rw [if_pos c2] at H
  have c2b0:decide (1048576<(l0.length:Int))=true:=decide_eq_true c2
  have c2b1:decide (1048576<l0.length)=true:=decide_eq_true (by omega)
  clear c2
  obtain rfl:=Option.some.inj H
  go_enter Try.func5,Try.ntmps5
  go_wp2
  go_ret
  exact ⟨by first|rfl|(simp [errW_none,errW_some] <;> rfl)|(simp [*,errW_none,errW_some] <;> rfl),by repeat (first|(with_reducible first|exact HB.out|apply oA|apply pN|apply o1)|exact HB.out)⟩
 rw [if_neg c2] at H
 have c2b0:decide (1048576<(l0.length:Int))=false:=decide_eq_false c2
 have c2b1:decide (1048576<l0.length)=false:=decide_eq_false (by omega)
 clear c2
 replace H:=oC H
 obtain ⟨⟨t309,t312,t315⟩,A30,H⟩:=H
 replace H:((impl_PagesKeep.f k t309 t312 t315).bind fun bt317=>((spec_PagesKeep.f k t309 t312 t315).bind fun bt325=>((laws_qdPages.f k bt317.1 bt317.2.1 bt325.1 bt325.2.1).bind fun t333=>(if t333=true then (laws_FnPagesKeep.j0 k t315 bt317.2.2 (bt317.2.2 == bt325.2.2) t309 t312 bt317.1 bt317.2.1) else (laws_FnPagesKeep.j0 k t315 bt317.2.2 false t309 t312 bt317.1 bt317.2.1)))))=some r:=H
 have A3:=Am A30
 clear A30
 replace H:=oC H
 obtain ⟨⟨t317,t320,t323⟩,A40,H⟩:=H
 replace H:((spec_PagesKeep.f k t309 t312 t315).bind fun bt325=>((laws_qdPages.f k t317 t320 bt325.1 bt325.2.1).bind fun t333=>(if t333=true then (laws_FnPagesKeep.j0 k t315 t323 (t323 == bt325.2.2) t309 t312 t317 t320) else (laws_FnPagesKeep.j0 k t315 t323 false t309 t312 t317 t320))))=some r:=H
 have A4:=Am A40
 clear A40
 replace H:=oC H
 obtain ⟨⟨t325,t328,t331⟩,A50,H⟩:=H
 replace H:((laws_qdPages.f k t317 t320 t325 t328).bind fun t333=>(if t333=true then (laws_FnPagesKeep.j0 k t315 t323 (t323 == t331) t309 t312 t317 t320) else (laws_FnPagesKeep.j0 k t315 t323 false t309 t312 t317 t320)))=some r:=H
 have A5:=Am A50
 clear A50
 have HC6:=Am H
 clear H
 go_enter Try.func5,Try.ntmps5
 go_upto_region 6 with (first|((with_reducible refine gate_callee (f:=21) rfl ?_);refine goesL_ (some 17) rfl rfl Try.func21 (by kernel_rfl) rfl #[.slice A0 l0.length c0] rfl (by (try simp only [lM,lC,lN]);first|done|rfl|(simp only [lD,lT];rfl)) ?_;(with_reducible refine (spec_DrawPagesKeep.calls k _ _ l0 t309 t312 t315 _ ?side1 ?side2 A3.out).mono ?_);(case side1=>exact cL HR0.out);(case side2=>exact HC0.out);rintro e w7 ⟨v310,v313,rfl,ho0,ho1,hb⟩;refine ⟨_,rfl,?_⟩;have n0_:=Am (Kd.R_lower ho0 (bZ (by repeat (first|(with_reducible first|exact HB.out|apply oA|apply pN|apply o1)|exact HB.out))));have n1_:=Am (Kd.R_lower ho1 (bZ (by repeat (first|(with_reducible first|exact HB.out|apply oA|apply pN|apply o1)|exact HB.out))));have n2_:=Am (bP (by repeat (first|(with_reducible first|exact HB.out|apply oA|apply pN|apply o1)|exact HB.out)) hb);clear HB;revert n0_ n1_ n2_;intro Bo Bp HB;(try clear hb);(try clear hb2);(try clear hk);(try clear hi);(try clear ho0);(try clear ho1))|((with_reducible refine gate_dst (N:=3) rfl ?_);refine box_event ?hg (N:=3) ?hd (cs:=#[.slice none 0 0,.slice none 0 0]) (t:=26) ?hr ?_;(case hd=>rfl);(case hg=>rfl);(case hr=>first|(go_simp;done)|(go_simp;rfl));intro Bg hg w8 hbox hb;have n0_:=Am (rB (rL Bo.out) hb);have n1_:=Am (rB (rL Bp.out) hb);have n2_:=Am (bP (by repeat (first|(with_reducible first|exact HB.out|apply oA|apply pN|apply o1)|exact HB.out)) hb);have n3_:=Am (hbox);have n4_:=Am ((by rw [hg];exact (bZ (by repeat (first|(with_reducible first|exact HB.out|apply oA|apply pN|apply o1)|exact HB.out))):w.heap.size≤Bg));have n5_:=Am ((by rw [hg];exact (bZ (by repeat (first|(with_reducible first|exact HB.out|apply oA|apply pN|apply o1)|exact HB.out))):w.heap.size≤Bg));clear Bo Bp HB;revert n0_ n1_ n2_ n3_ n4_ n5_;intro Bo Bp HB Bb Dr Bq;clear hb hbox hg;obtain ⟨Ao9,co9,eo9⟩:=Kd.R_slice Bo.out;subst eo9;have BI:=cz0 Bb.out;have BJ:=cz1 Bb.out;have BK:=bF Bb.out 0;have BL:=bF Bb.out 1;obtain ⟨Ao11,co11,eo11⟩:=Kd.R_slice Bp.out;subst eo11)|((with_reducible refine gate_callee (f:=22) rfl ?_);refine goesL_ (some 23) rfl rfl Try.func22 (by kernel_rfl) rfl #[.agg #[.slice Ao9 t309.length co9,.slice Ao11 t312.length co11],.int .i64 t315] rfl (by (try simp only [lM,lC,lN]);first|done|rfl|(simp only [lD,lT];rfl)) ?_;(with_reducible refine (impl_PagesKeep.calls k _ _ t309 _ _ t312 t315 t317 t320 t323 _ ?side1 ?side2 ?side3 ?side4 A4.out).mono ?_);(case side1=>refine (Kd.R_reads' (e:=9) (base:=w.heap.size) (ok:=fun k_=>True) (n:=t309.length) (c:=co9) ?_).2.2;exact (by (with_reducible repeat (first|apply rA|apply rN|apply rD));exact (rM (rF (p:=⟨Bg,1,none⟩) (rF (p:=⟨Bg,0,none⟩) (rT Bo.out Bb.out (by decide)) (fun _ hk=>hk.2) (.slice Ao9 t309.length co9)) (fun _ hk=>hk.2) (.slice Ao11 t312.length co11)) (fun _ h_=>h_.1))));(case side2=>exact (Kd.R_reads' Bo.out).2.1);(case side3=>refine (Kd.R_reads' (e:=3) (base:=w.heap.size) (ok:=fun k_=>True) (n:=t312.length) (c:=co11) ?_).2.2;exact (by (with_reducible repeat (first|apply rA|apply rN|apply rD));exact (rM (rF (p:=⟨Bg,1,none⟩) (rF (p:=⟨Bg,0,none⟩) (rT Bp.out Bb.out (by decide)) (fun _ hk=>hk.2) (.slice Ao9 t309.length co9)) (fun _ hk=>hk.2) (.slice Ao11 t312.length co11)) (fun _ h_=>h_.1))));(case side4=>exact (Kd.R_reads' Bp.out).2.1);rintro e w12 ⟨v318,v321,rfl,ho0,ho1,hb⟩;refine ⟨_,rfl,?_⟩;have n0_:=Am (Kd.R_elder' (by (with_reducible repeat (first|apply rA|apply rN|apply rD));exact (rM (rF (p:=⟨Bg,1,none⟩) (rF (p:=⟨Bg,0,none⟩) (rT Bo.out Bb.out (by decide)) (fun _ hk=>hk.2) (.slice Ao9 t309.length co9)) (fun _ hk=>hk.2) (.slice Ao11 t312.length co11)) (fun _ h_=>h_.1))) (Kd.R_base ho0) hb);have n1_:=Am (Kd.R_elder' (by (with_reducible repeat (first|apply rA|apply rN|apply rD));exact (rM (rF (p:=⟨Bg,1,none⟩) (rF (p:=⟨Bg,0,none⟩) (rT Bp.out Bb.out (by decide)) (fun _ hk=>hk.2) (.slice Ao9 t309.length co9)) (fun _ hk=>hk.2) (.slice Ao11 t312.length co11)) (fun _ h_=>h_.1))) (Kd.R_base ho1) hb);have n2_:=Am (Kd.R_lower (Kd.R_new' ho0 (Kd.R_lt (by (with_reducible repeat (first|apply rA|apply rN|apply rD));exact (rM (rF (p:=⟨Bg,1,none⟩) (rF (p:=⟨Bg,0,none⟩) (rT Bo.out Bb.out (by decide)) (fun _ hk=>hk.2) (.slice Ao9 t309.length co9)) (fun _ hk=>hk.2) (.slice Ao11 t312.length co11)) (fun _ h_=>h_.1))))) (bZ (by repeat (first|(with_reducible first|exact HB.out|apply oA|apply pN|apply o1|refine bS ?_ Bq.out)|exact HB.out))));have n3_:=Am (Kd.R_lower (Kd.R_new' ho1 (Kd.R_lt (by (with_reducible repeat (first|apply rA|apply rN|apply rD));exact (rM (rF (p:=⟨Bg,1,none⟩) (rF (p:=⟨Bg,0,none⟩) (rT Bp.out Bb.out (by decide)) (fun _ hk=>hk.2) (.slice Ao9 t309.length co9)) (fun _ hk=>hk.2) (.slice Ao11 t312.length co11)) (fun _ h_=>h_.1))))) (bZ (by repeat (first|(with_reducible first|exact HB.out|apply oA|apply pN|apply o1|refine bS ?_ Bq.out)|exact HB.out))));have n4_:=Am (bB (g:=Bg) (o:=.cells #[.slice Ao9 t309.length co9,.slice Ao11 t312.length co11] 26 (0,0)) (by (with_reducible repeat (first|refine bN ?_ _|refine bD ?_|refine bA ?_ _));refine blk_put (cs:=#[.slice Ao9 t309.length co9,.slice none 0 0]) ?_ 1 _ rfl;(with_reducible repeat (first|refine bN ?_ _|refine bD ?_|refine bA ?_ _));refine blk_put (cs:=#[.slice none 0 0,.slice none 0 0]) ?_ 0 _ rfl;(with_reducible repeat (first|refine bN ?_ _|refine bD ?_|refine bA ?_ _));exact Bb.out) hb);have n5_:=Am (bP (by repeat (first|(with_reducible first|exact HB.out|apply oA|apply pN|apply o1|refine bS ?_ Bq.out)|exact HB.out)) hb);clear Bo Bp Bb HB;revert n0_ n1_ n2_ n3_ n4_ n5_;intro Bo Bp Br Bs Bb HB;(try clear hb);(try clear hb2);(try clear hk);(try clear hi);(try clear ho0);(try clear ho1))|((with_reducible refine gate_dst (N:=5) rfl ?_);refine box_event ?hg (N:=5) ?hd (cs:=#[.slice none 0 0,.slice none 0 0]) (t:=26) ?hr ?_;(case hd=>rfl);(case hg=>rfl);(case hr=>first|(go_simp;done)|(go_simp;rfl));intro Bf hg w13 hbox hb;have n0_:=Am (rB (rL Bo.out) hb);have n1_:=Am (rB (rL Bp.out) hb);have n2_:=Am (rB (rL Br.out) hb);have n3_:=Am (rB (rL Bs.out) hb);have n4_:=Am (bX Bb.out hb);have n5_:=Am (bP (by repeat (first|(with_reducible first|exact HB.out|apply oA|apply pN|apply o1|refine bS ?_ Bq.out)|exact HB.out)) hb);have n6_:=Am (hbox);have n7_:=Am ((by rw [hg];exact (bZ (by repeat (first|(with_reducible first|exact HB.out|apply oA|apply pN|apply o1|refine bS ?_ Bq.out)|exact HB.out))):w.heap.size≤Bf));have n8_:=Am ((by rw [hg];exact (bZ (by repeat (first|(with_reducible first|exact HB.out|apply oA|apply pN|apply o1|refine bS ?_ Bq.out)|exact HB.out))):w.heap.size≤Bf));have n9_:=Am ((nL Bb.out hg));have n10_:=Am ((nG Bb.out hg));clear Bo Bp Br Bs Bb HB;revert n0_ n1_ n2_ n3_ n4_ n5_ n6_ n7_ n8_ n9_ n10_;intro Bo Bp Br Bs Bb HB Ba Ds Bt BA BC;clear hb hbox hg;obtain ⟨Ao14,co14,eo14⟩:=Kd.R_slice Br.out;subst eo14;have Dt:=BC.out;have Du:=BA.out;have BM:=cz0 Ba.out;have BN:=cz1 Ba.out;have BO:=bF Ba.out 0;have BP:=bF Ba.out 1;obtain ⟨Ao17,co17,eo17⟩:=Kd.R_slice Bs.out;subst eo17;have BQ:=cz0 Bb.out;have BR:=cz1 Bb.out;have BS:=bF Bb.out 0;have BT:=bF Bb.out 1)|((with_reducible refine gate_callee (f:=23) rfl ?_);refine goesL_ (some 29) rfl rfl Try.func23 (by kernel_rfl) rfl #[.agg #[.slice Ao9 t309.length co9,.slice Ao11 t312.length co11],.int .i64 t315] rfl (by (try simp only [lM,lC,lN]);first|done|rfl|(simp only [lD,lT];rfl)) ?_;(with_reducible refine (spec_PagesKeep.calls k _ _ t309 _ _ t312 t315 t325 t328 t331 _ ?side1 ?side2 ?side3 ?side4 A5.out).mono ?_);(case side1=>refine (Kd.R_reads' (e:=9) (base:=w.heap.size) (ok:=fun k_=>(True∧some k_≠(.slice Ao14 t317.length co14:Value).ownBlock)) (n:=t309.length) (c:=co9) ?_).2.2;exact (by (with_reducible repeat (first|apply rA|apply rN|apply rD));exact (rM (rF (p:=⟨Bf,1,none⟩) (rF (p:=⟨Bf,0,none⟩) (rT Bo.out Ba.out (by decide)) (fun _ hk=>hk.2) (.slice Ao14 t317.length co14)) (fun _ hk=>hk.2) (.slice Ao17 t320.length co17)) (fun _ h_=>h_.1))));(case side2=>exact (Kd.R_reads' Bo.out).2.1);(case side3=>refine (Kd.R_reads' (e:=3) (base:=w.heap.size) (ok:=fun k_=>(True∧some k_≠(.slice Ao17 t320.length co17:Value).ownBlock)) (n:=t312.length) (c:=co11) ?_).2.2;exact (by (with_reducible repeat (first|apply rA|apply rN|apply rD));exact (rM (rF (p:=⟨Bf,1,none⟩) (rF (p:=⟨Bf,0,none⟩) (rT Bp.out Ba.out (by decide)) (fun _ hk=>hk.2) (.slice Ao14 t317.length co14)) (fun _ hk=>hk.2) (.slice Ao17 t320.length co17)) (fun _ h_=>h_.1))));(case side4=>exact (Kd.R_reads' Bp.out).2.1);rintro e w19 ⟨v326,v329,rfl,ho0,ho1,hb⟩;refine ⟨_,rfl,?_⟩;have n0_:=Am (Kd.R_elder' (by (with_reducible repeat (first|apply rA|apply rN|apply rD));exact (rM (rF (p:=⟨Bf,1,none⟩) (rF (p:=⟨Bf,0,none⟩) (rT Bo.out Ba.out (by decide)) (fun _ hk=>hk.2) (.slice Ao14 t317.length co14)) (fun _ hk=>hk.2) (.slice Ao17 t320.length co17)) (fun _ h_=>h_.1))) (Kd.R_base ho0) hb);have n1_:=Am (Kd.R_elder' (by (with_reducible repeat (first|apply rA|apply rN|apply rD));exact (rM (rF (p:=⟨Bf,1,none⟩) (rF (p:=⟨Bf,0,none⟩) (rT Bp.out Ba.out (by decide)) (fun _ hk=>hk.2) (.slice Ao14 t317.length co14)) (fun _ hk=>hk.2) (.slice Ao17 t320.length co17)) (fun _ h_=>h_.1))) (Kd.R_base ho1) hb);have n2_:=Am (Kd.R_elder' (by (with_reducible repeat (first|apply rA|apply rN|apply rD));exact (rM (rF (p:=⟨Bf,1,none⟩) (rF (p:=⟨Bf,0,none⟩) (rT Br.out Ba.out (by decide)) (fun _ hk=>hk.2) (.slice Ao14 t317.length co14)) (fun _ hk=>hk.2) (.slice Ao17 t320.length co17)) (fun _ h_=>h_.1))) (Kd.R_base ho0) hb);have n3_:=Am (Kd.R_elder' (by (with_reducible repeat (first|apply rA|apply rN|apply rD));exact (rM (rF (p:=⟨Bf,1,none⟩) (rF (p:=⟨Bf,0,none⟩) (rT Bs.out Ba.out (by decide)) (fun _ hk=>hk.2) (.slice Ao14 t317.length co14)) (fun _ hk=>hk.2) (.slice Ao17 t320.length co17)) (fun _ h_=>h_.1))) (Kd.R_base ho1) hb);have n4_:=Am (Kd.R_lower (Kd.R_new' (Kd.R_new' ho0 (Kd.R_lt (by (with_reducible repeat (first|apply rA|apply rN|apply rD));exact (rM (rF (p:=⟨Bf,1,none⟩) (rF (p:=⟨Bf,0,none⟩) (rT Bo.out Ba.out (by decide)) (fun _ hk=>hk.2) (.slice Ao14 t317.length co14)) (fun _ hk=>hk.2) (.slice Ao17 t320.length co17)) (fun _ h_=>h_.1))))) (Kd.R_lt (by (with_reducible repeat (first|apply rA|apply rN|apply rD));exact (rM (rF (p:=⟨Bf,1,none⟩) (rF (p:=⟨Bf,0,none⟩) (rT Br.out Ba.out (by decide)) (fun _ hk=>hk.2) (.slice Ao14 t317.length co14)) (fun _ hk=>hk.2) (.slice Ao17 t320.length co17)) (fun _ h_=>h_.1))))) (bZ (by repeat (first|(with_reducible first|exact HB.out|apply oA|apply pN|apply o1|refine bS ?_ Bq.out|refine bS ?_ Bt.out)|exact HB.out))));have n5_:=Am (Kd.R_lower (Kd.R_new' (Kd.R_new' ho1 (Kd.R_lt (by (with_reducible repeat (first|apply rA|apply rN|apply rD));exact (rM (rF (p:=⟨Bf,1,none⟩) (rF (p:=⟨Bf,0,none⟩) (rT Bp.out Ba.out (by decide)) (fun _ hk=>hk.2) (.slice Ao14 t317.length co14)) (fun _ hk=>hk.2) (.slice Ao17 t320.length co17)) (fun _ h_=>h_.1))))) (Kd.R_lt (by (with_reducible repeat (first|apply rA|apply rN|apply rD));exact (rM (rF (p:=⟨Bf,1,none⟩) (rF (p:=⟨Bf,0,none⟩) (rT Bs.out Ba.out (by decide)) (fun _ hk=>hk.2) (.slice Ao14 t317.length co14)) (fun _ hk=>hk.2) (.slice Ao17 t320.length co17)) (fun _ h_=>h_.1))))) (bZ (by repeat (first|(with_reducible first|exact HB.out|apply oA|apply pN|apply o1|refine bS ?_ Bq.out|refine bS ?_ Bt.out)|exact HB.out))));have n6_:=Am (bB (g:=Bg) (o:=.cells #[.slice Ao9 t309.length co9,.slice Ao11 t312.length co11] 26 (0,0)) (by (with_reducible repeat (first|refine bN ?_ _|refine bD ?_|refine bA ?_ _|refine blk_far ?_ BA.out _));exact Bb.out) hb);have n7_:=Am (bB (g:=Bf) (o:=.cells #[.slice Ao14 t317.length co14,.slice Ao17 t320.length co17] 26 (0,0)) (by (with_reducible repeat (first|refine bN ?_ _|refine bD ?_|refine bA ?_ _));refine blk_put (cs:=#[.slice Ao14 t317.length co14,.slice none 0 0]) ?_ 1 _ rfl;(with_reducible repeat (first|refine bN ?_ _|refine bD ?_|refine bA ?_ _));refine blk_put (cs:=#[.slice none 0 0,.slice none 0 0]) ?_ 0 _ rfl;(with_reducible repeat (first|refine bN ?_ _|refine bD ?_|refine bA ?_ _));exact Ba.out) hb);have n8_:=Am (bP (by repeat (first|(with_reducible first|exact HB.out|apply oA|apply pN|apply o1|refine bS ?_ Bq.out|refine bS ?_ Bt.out)|exact HB.out)) hb);clear Bo Bp Br Bs Bb Ba HB;revert n0_ n1_ n2_ n3_ n4_ n5_ n6_ n7_ n8_;intro Bo Bp Br Bs Bu Bv Bb Ba HB;(try clear hb);(try clear hb2);(try clear hk);(try clear hi);(try clear ho0);(try clear ho1))|((with_reducible refine gate_dst (N:=7) rfl ?_);refine box_event ?hg (N:=7) ?hd (cs:=#[.slice none 0 0,.slice none 0 0]) (t:=26) ?hr ?_;(case hd=>rfl);(case hg=>rfl);(case hr=>first|(go_simp;done)|(go_simp;rfl));intro Bc hg w20 hbox hb;have n0_:=Am (rB (rL Bo.out) hb);have n1_:=Am (rB (rL Bp.out) hb);have n2_:=Am (rB (rL Br.out) hb);have n3_:=Am (rB (rL Bs.out) hb);have n4_:=Am (rB (rL Bu.out) hb);have n5_:=Am (rB (rL Bv.out) hb);have n6_:=Am (bX Bb.out hb);have n7_:=Am (bX Ba.out hb);have n8_:=Am (bP (by repeat (first|(with_reducible first|exact HB.out|apply oA|apply pN|apply o1|refine bS ?_ Bq.out|refine bS ?_ Bt.out)|exact HB.out)) hb);have n9_:=Am (hbox);have n10_:=Am ((by rw [hg];exact (bZ (by repeat (first|(with_reducible first|exact HB.out|apply oA|apply pN|apply o1|refine bS ?_ Bq.out|refine bS ?_ Bt.out)|exact HB.out))):w.heap.size≤Bc));have n11_:=Am ((by rw [hg];exact (bZ (by repeat (first|(with_reducible first|exact HB.out|apply oA|apply pN|apply o1|refine bS ?_ Bq.out|refine bS ?_ Bt.out)|exact HB.out))):w.heap.size≤Bc));have n12_:=Am ((nL Bb.out hg));have n13_:=Am ((nG Bb.out hg));have n14_:=Am ((nL Ba.out hg));have n15_:=Am ((nG Ba.out hg));clear Bo Bp Br Bs Bu Bv Bb Ba HB;revert n0_ n1_ n2_ n3_ n4_ n5_ n6_ n7_ n8_ n9_ n10_ n11_ n12_ n13_ n14_ n15_;intro Bo Bp Br Bs Bu Bv Bb Ba HB Bd Dv Bw BB BE Bz BD;clear hb hbox hg;obtain ⟨Ao21,co21,eo21⟩:=Kd.R_slice Bu.out;subst eo21;have Dw:=BE.out;have Dx:=BB.out;have Dy:=BD.out;have Dz:=Bz.out;have BU:=cz0 Bd.out;have BV:=cz1 Bd.out;have BW:=bF Bd.out 0;have BX:=bF Bd.out 1;obtain ⟨Ao25,co25,eo25⟩:=Kd.R_slice Bv.out;subst eo25))
 (try simp only [Act.put,lA,lZ,lS])
 go_cut [9] (fun v9 wc=>∃ (kq:Nat) (x9_5:Bool),v9=.bool x9_5∧Aside0 (laws_FnPagesKeep.j0 kq t315 t323 x9_5 t309 t312 t317 t320=some r)∧Aside0 (kq≤k)∧Aside0 (Kd.R Kd.string 9 wc w.heap.size (fun k_=>some k_≠((.slice Ao14 t317.length co14):Value).ownBlock∧some k_≠((.slice Ao21 t325.length co21):Value).ownBlock) (.slice Ao9 t309.length co9) t309)∧Aside0 (Kd.R (Kd.int .i64) 3 wc w.heap.size (fun k_=>some k_≠((.slice Ao17 t320.length co17):Value).ownBlock∧some k_≠((.slice Ao25 t328.length co25):Value).ownBlock) (.slice Ao11 t312.length co11) t312)∧Aside0 (Kd.R Kd.string 9 wc w.heap.size (fun k_=>some k_≠((.slice Ao9 t309.length co9):Value).ownBlock∧some k_≠((.slice Ao21 t325.length co21):Value).ownBlock) (.slice Ao14 t317.length co14) t317)∧Aside0 (Kd.R (Kd.int .i64) 3 wc w.heap.size (fun k_=>some k_≠((.slice Ao11 t312.length co11):Value).ownBlock∧some k_≠((.slice Ao25 t328.length co25):Value).ownBlock) (.slice Ao17 t320.length co17) t320)∧Aside0 (Kd.R Kd.string 9 wc w.heap.size (fun k_=>some k_≠((.slice Ao9 t309.length co9):Value).ownBlock∧some k_≠((.slice Ao14 t317.length co14):Value).ownBlock) (.slice Ao21 t325.length co21) t325)∧Aside0 (Kd.R (Kd.int .i64) 3 wc w.heap.size (fun k_=>some k_≠((.slice Ao11 t312.length co11):Value).ownBlock∧some k_≠((.slice Ao17 t320.length co17):Value).ownBlock) (.slice Ao25 t328.length co25) t328)∧Aside0 (wc.heap[Bg]?=some (.cells #[(.slice Ao9 t309.length co9),(.slice Ao11 t312.length co11)] 26 (0,0)))∧Aside0 (wc.heap[Bf]?=some (.cells #[(.slice Ao14 t317.length co14),(.slice Ao17 t320.length co17)] 26 (0,0)))∧Aside0 (wc.heap[Bc]?=some (.cells #[(.slice Ao21 t325.length co21),(.slice Ao25 t328.length co25)] 26 (0,0)))∧Aside0 (Below w.heap.size w wc))
 case first =>
  have H:=HC6.out
  clear HC6
  replace H:=oC H
  obtain ⟨t333,A260,H⟩:=H
  replace H:(if t333=true then (laws_FnPagesKeep.j0 k t315 t323 (t323 == t331) t309 t312 t317 t320) else (laws_FnPagesKeep.j0 k t315 t323 false t309 t312 t317 t320))=some r:=H
  have A26:=Am A260
  clear A260
  by_cases c27:t333=true
  ·subst c27
   have H1:(laws_FnPagesKeep.j0 k t315 t323 (t323 == t331) t309 t312 t317 t320)=some r:=by rw [if_pos rfl] at H;exact H
   clear H
   have H:=H1
   clear H1
   have H':=Am H
   clear H
   have DA:=BC.out
   have DB:=BA.out
   have DC:=Bz.out
   have DD:=BD.out
   have BY:=cz0 Ba.out
   have BZ:=cz1 Ba.out
   have B0:=bF Ba.out 0
   have B1:=bF Ba.out 1
   have DE:=BE.out
   have DF:=BB.out
   have B2:=cz0 Bd.out
   have B3:=cz1 Bd.out
   have B4:=bF Bd.out 0
   have B5:=bF Bd.out 1
   go_wp2_with (first|((with_reducible refine gate_callee (f:=19) rfl ?_);refine goesL_ (some 34) rfl rfl Try.func19 (by kernel_rfl) rfl #[.agg #[.slice Ao14 t317.length co14,.slice Ao17 t320.length co17],.agg #[.slice Ao21 t325.length co21,.slice Ao25 t328.length co25]] rfl (by (try simp only [lM,lC,lN]);first|done|rfl|(simp only [lD,lT];rfl)) ?_;(with_reducible refine (laws_qdPages.calls k _ _ t317 _ _ t320 _ _ t325 _ _ t328 true _ ?side1 ?side2 ?side3 ?side4 ?side5 ?side6 ?side7 ?side8 A26.out).mono ?_);(case side1=>refine (Kd.R_reads' (e:=9) (base:=w.heap.size) (ok:=fun k_=>((True∧some k_≠(.slice Ao9 t309.length co9:Value).ownBlock)∧some k_≠(.slice Ao21 t325.length co21:Value).ownBlock)) (n:=t317.length) (c:=co14) ?_).2.2;exact (by (with_reducible repeat (first|apply rA|apply rN|apply rD));exact (rM (rF (p:=⟨Bc,1,none⟩) (rF (p:=⟨Bc,0,none⟩) (rT Br.out Bd.out (by decide)) (fun _ hk=>hk.2) (.slice Ao21 t325.length co21)) (fun _ hk=>hk.2) (.slice Ao25 t328.length co25)) (fun _ h_=>h_.1))));(case side2=>exact (Kd.R_reads' Br.out).2.1);(case side3=>refine (Kd.R_reads' (e:=3) (base:=w.heap.size) (ok:=fun k_=>((True∧some k_≠(.slice Ao11 t312.length co11:Value).ownBlock)∧some k_≠(.slice Ao25 t328.length co25:Value).ownBlock)) (n:=t320.length) (c:=co17) ?_).2.2;exact (by (with_reducible repeat (first|apply rA|apply rN|apply rD));exact (rM (rF (p:=⟨Bc,1,none⟩) (rF (p:=⟨Bc,0,none⟩) (rT Bs.out Bd.out (by decide)) (fun _ hk=>hk.2) (.slice Ao21 t325.length co21)) (fun _ hk=>hk.2) (.slice Ao25 t328.length co25)) (fun _ h_=>h_.1))));(case side4=>exact (Kd.R_reads' Bs.out).2.1);(case side5=>refine (Kd.R_reads' (e:=9) (base:=w.heap.size) (ok:=fun k_=>((True∧some k_≠(.slice Ao9 t309.length co9:Value).ownBlock)∧some k_≠(.slice Ao14 t317.length co14:Value).ownBlock)) (n:=t325.length) (c:=co21) ?_).2.2;exact (by (with_reducible repeat (first|apply rA|apply rN|apply rD));exact (rM (rF (p:=⟨Bc,1,none⟩) (rF (p:=⟨Bc,0,none⟩) (rT Bu.out Bd.out (by decide)) (fun _ hk=>hk.2) (.slice Ao21 t325.length co21)) (fun _ hk=>hk.2) (.slice Ao25 t328.length co25)) (fun _ h_=>h_.1))));(case side6=>exact (Kd.R_reads' Bu.out).2.1);(case side7=>refine (Kd.R_reads' (e:=3) (base:=w.heap.size) (ok:=fun k_=>((True∧some k_≠(.slice Ao11 t312.length co11:Value).ownBlock)∧some k_≠(.slice Ao17 t320.length co17:Value).ownBlock)) (n:=t328.length) (c:=co25) ?_).2.2;exact (by (with_reducible repeat (first|apply rA|apply rN|apply rD));exact (rM (rF (p:=⟨Bc,1,none⟩) (rF (p:=⟨Bc,0,none⟩) (rT Bv.out Bd.out (by decide)) (fun _ hk=>hk.2) (.slice Ao21 t325.length co21)) (fun _ hk=>hk.2) (.slice Ao25 t328.length co25)) (fun _ h_=>h_.1))));(case side8=>exact (Kd.R_reads' Bv.out).2.1);rintro e w33 ⟨rfl,hb⟩;refine ⟨_,rfl,?_⟩;have n0_:=Am (rB (by (with_reducible repeat (first|apply rA|apply rN|apply rD));exact (rM (rF (p:=⟨Bc,1,none⟩) (rF (p:=⟨Bc,0,none⟩) (rT Bo.out Bd.out (by decide)) (fun _ hk=>hk.2) (.slice Ao21 t325.length co21)) (fun _ hk=>hk.2) (.slice Ao25 t328.length co25)) (fun _ h_=>h_.1))) hb);have n1_:=Am (rB (by (with_reducible repeat (first|apply rA|apply rN|apply rD));exact (rM (rF (p:=⟨Bc,1,none⟩) (rF (p:=⟨Bc,0,none⟩) (rT Bp.out Bd.out (by decide)) (fun _ hk=>hk.2) (.slice Ao21 t325.length co21)) (fun _ hk=>hk.2) (.slice Ao25 t328.length co25)) (fun _ h_=>h_.1))) hb);have n2_:=Am (rB (by (with_reducible repeat (first|apply rA|apply rN|apply rD));exact (rM (rF (p:=⟨Bc,1,none⟩) (rF (p:=⟨Bc,0,none⟩) (rT Br.out Bd.out (by decide)) (fun _ hk=>hk.2) (.slice Ao21 t325.length co21)) (fun _ hk=>hk.2) (.slice Ao25 t328.length co25)) (fun _ h_=>h_.1))) hb);have n3_:=Am (rB (by (with_reducible repeat (first|apply rA|apply rN|apply rD));exact (rM (rF (p:=⟨Bc,1,none⟩) (rF (p:=⟨Bc,0,none⟩) (rT Bs.out Bd.out (by decide)) (fun _ hk=>hk.2) (.slice Ao21 t325.length co21)) (fun _ hk=>hk.2) (.slice Ao25 t328.length co25)) (fun _ h_=>h_.1))) hb);have n4_:=Am (rB (by (with_reducible repeat (first|apply rA|apply rN|apply rD));exact (rM (rF (p:=⟨Bc,1,none⟩) (rF (p:=⟨Bc,0,none⟩) (rT Bu.out Bd.out (by decide)) (fun _ hk=>hk.2) (.slice Ao21 t325.length co21)) (fun _ hk=>hk.2) (.slice Ao25 t328.length co25)) (fun _ h_=>h_.1))) hb);have n5_:=Am (rB (by (with_reducible repeat (first|apply rA|apply rN|apply rD));exact (rM (rF (p:=⟨Bc,1,none⟩) (rF (p:=⟨Bc,0,none⟩) (rT Bv.out Bd.out (by decide)) (fun _ hk=>hk.2) (.slice Ao21 t325.length co21)) (fun _ hk=>hk.2) (.slice Ao25 t328.length co25)) (fun _ h_=>h_.1))) hb);have n6_:=Am (bB (g:=Bg) (o:=.cells #[.slice Ao9 t309.length co9,.slice Ao11 t312.length co11] 26 (0,0)) (by (with_reducible repeat (first|refine bN ?_ _|refine bD ?_|refine bA ?_ _|refine blk_far ?_ BB.out _));exact Bb.out) hb);have n7_:=Am (bB (g:=Bf) (o:=.cells #[.slice Ao14 t317.length co14,.slice Ao17 t320.length co17] 26 (0,0)) (by (with_reducible repeat (first|refine bN ?_ _|refine bD ?_|refine bA ?_ _|refine blk_far ?_ Bz.out _));exact Ba.out) hb);have n8_:=Am (bB (g:=Bc) (o:=.cells #[.slice Ao21 t325.length co21,.slice Ao25 t328.length co25] 26 (0,0)) (by (with_reducible repeat (first|refine bN ?_ _|refine bD ?_|refine bA ?_ _));refine blk_put (cs:=#[.slice Ao21 t325.length co21,.slice none 0 0]) ?_ 1 _ rfl;(with_reducible repeat (first|refine bN ?_ _|refine bD ?_|refine bA ?_ _));refine blk_put (cs:=#[.slice none 0 0,.slice none 0 0]) ?_ 0 _ rfl;(with_reducible repeat (first|refine bN ?_ _|refine bD ?_|refine bA ?_ _));exact Bd.out) hb);have n9_:=Am (bP (by repeat (first|(with_reducible first|exact HB.out|apply oA|apply pN|apply o1|refine bS ?_ Bq.out|refine bS ?_ Bt.out|refine bS ?_ Bw.out)|exact HB.out)) hb);clear Bo Bp Br Bs Bu Bv Bb Ba Bd HB;revert n0_ n1_ n2_ n3_ n4_ n5_ n6_ n7_ n8_ n9_;intro Bo Bp Br Bs Bu Bv Bb Ba Bd HB;(try clear hb);(try clear hb2);(try clear hk);(try clear hi)))
   go_meet
   case rel=>exact ⟨_,((t323 == t331)),(by first|rfl|(simp;done)|(simp [*];done)),H',⟨by first|omega|exact Nat.le_refl _⟩,⟨by (with_reducible repeat (first|apply rA|apply rN|apply rD));exact rM Bo.out (fun _ hk=>⟨hk.1.2,hk.2⟩)⟩,⟨by (with_reducible repeat (first|apply rA|apply rN|apply rD));exact rM Bp.out (fun _ hk=>⟨hk.1.2,hk.2⟩)⟩,⟨by (with_reducible repeat (first|apply rA|apply rN|apply rD));exact rM Br.out (fun _ hk=>⟨hk.1.2,hk.2⟩)⟩,⟨by (with_reducible repeat (first|apply rA|apply rN|apply rD));exact rM Bs.out (fun _ hk=>⟨hk.1.2,hk.2⟩)⟩,⟨by (with_reducible repeat (first|apply rA|apply rN|apply rD));exact rM Bu.out (fun _ hk=>⟨hk.1.2,hk.2⟩)⟩,⟨by (with_reducible repeat (first|apply rA|apply rN|apply rD));exact rM Bv.out (fun _ hk=>⟨hk.1.2,hk.2⟩)⟩,⟨by (with_reducible repeat (first|refine bN ?_ _|refine bD ?_|refine bA ?_ _));exact Bb.out⟩,⟨by (with_reducible repeat (first|refine bN ?_ _|refine bD ?_|refine bA ?_ _));exact Ba.out⟩,⟨by (with_reducible repeat (first|refine bN ?_ _|refine bD ?_|refine bA ?_ _));exact Bd.out⟩,⟨by repeat (first|(with_reducible first|exact HB.out|apply oA|apply pN|apply o1|refine bS ?_ Bq.out|refine bS ?_ Bt.out|refine bS ?_ Bw.out)|exact HB.out)⟩⟩
  replace c27:=Bool.eq_false_iff.mpr c27
  subst c27
  have H1:(laws_FnPagesKeep.j0 k t315 t323 false t309 t312 t317 t320)=some r:=by rw [if_neg (show ¬ (false=true) by decide)] at H;exact H
  clear H
  have H:=H1
  clear H1
  have H':=Am H
  clear H
  have DG:=BC.out
  have DH:=BA.out
  have DI:=Bz.out
  have DJ:=BD.out
  have B6:=cz0 Ba.out
  have B7:=cz1 Ba.out
  have B8:=bF Ba.out 0
  have B9:=bF Ba.out 1
  have DK:=BE.out
  have DL:=BB.out
  have Da:=cz0 Bd.out
  have Db:=cz1 Bd.out
  have Dc:=bF Bd.out 0
  have Dd:=bF Bd.out 1
  go_wp2_with (first|((with_reducible refine gate_callee (f:=19) rfl ?_);refine goesL_ (some 34) rfl rfl Try.func19 (by kernel_rfl) rfl #[.agg #[.slice Ao14 t317.length co14,.slice Ao17 t320.length co17],.agg #[.slice Ao21 t325.length co21,.slice Ao25 t328.length co25]] rfl (by (try simp only [lM,lC,lN]);first|done|rfl|(simp only [lD,lT];rfl)) ?_;(with_reducible refine (laws_qdPages.calls k _ _ t317 _ _ t320 _ _ t325 _ _ t328 false _ ?side1 ?side2 ?side3 ?side4 ?side5 ?side6 ?side7 ?side8 A26.out).mono ?_);(case side1=>refine (Kd.R_reads' (e:=9) (base:=w.heap.size) (ok:=fun k_=>((True∧some k_≠(.slice Ao9 t309.length co9:Value).ownBlock)∧some k_≠(.slice Ao21 t325.length co21:Value).ownBlock)) (n:=t317.length) (c:=co14) ?_).2.2;exact (by (with_reducible repeat (first|apply rA|apply rN|apply rD));exact (rM (rF (p:=⟨Bc,1,none⟩) (rF (p:=⟨Bc,0,none⟩) (rT Br.out Bd.out (by decide)) (fun _ hk=>hk.2) (.slice Ao21 t325.length co21)) (fun _ hk=>hk.2) (.slice Ao25 t328.length co25)) (fun _ h_=>h_.1))));(case side2=>exact (Kd.R_reads' Br.out).2.1);(case side3=>refine (Kd.R_reads' (e:=3) (base:=w.heap.size) (ok:=fun k_=>((True∧some k_≠(.slice Ao11 t312.length co11:Value).ownBlock)∧some k_≠(.slice Ao25 t328.length co25:Value).ownBlock)) (n:=t320.length) (c:=co17) ?_).2.2;exact (by (with_reducible repeat (first|apply rA|apply rN|apply rD));exact (rM (rF (p:=⟨Bc,1,none⟩) (rF (p:=⟨Bc,0,none⟩) (rT Bs.out Bd.out (by decide)) (fun _ hk=>hk.2) (.slice Ao21 t325.length co21)) (fun _ hk=>hk.2) (.slice Ao25 t328.length co25)) (fun _ h_=>h_.1))));(case side4=>exact (Kd.R_reads' Bs.out).2.1);(case side5=>refine (Kd.R_reads' (e:=9) (base:=w.heap.size) (ok:=fun k_=>((True∧some k_≠(.slice Ao9 t309.length co9:Value).ownBlock)∧some k_≠(.slice Ao14 t317.length co14:Value).ownBlock)) (n:=t325.length) (c:=co21) ?_).2.2;exact (by (with_reducible repeat (first|apply rA|apply rN|apply rD));exact (rM (rF (p:=⟨Bc,1,none⟩) (rF (p:=⟨Bc,0,none⟩) (rT Bu.out Bd.out (by decide)) (fun _ hk=>hk.2) (.slice Ao21 t325.length co21)) (fun _ hk=>hk.2) (.slice Ao25 t328.length co25)) (fun _ h_=>h_.1))));(case side6=>exact (Kd.R_reads' Bu.out).2.1);(case side7=>refine (Kd.R_reads' (e:=3) (base:=w.heap.size) (ok:=fun k_=>((True∧some k_≠(.slice Ao11 t312.length co11:Value).ownBlock)∧some k_≠(.slice Ao17 t320.length co17:Value).ownBlock)) (n:=t328.length) (c:=co25) ?_).2.2;exact (by (with_reducible repeat (first|apply rA|apply rN|apply rD));exact (rM (rF (p:=⟨Bc,1,none⟩) (rF (p:=⟨Bc,0,none⟩) (rT Bv.out Bd.out (by decide)) (fun _ hk=>hk.2) (.slice Ao21 t325.length co21)) (fun _ hk=>hk.2) (.slice Ao25 t328.length co25)) (fun _ h_=>h_.1))));(case side8=>exact (Kd.R_reads' Bv.out).2.1);rintro e w39 ⟨rfl,hb⟩;refine ⟨_,rfl,?_⟩;have n0_:=Am (rB (by (with_reducible repeat (first|apply rA|apply rN|apply rD));exact (rM (rF (p:=⟨Bc,1,none⟩) (rF (p:=⟨Bc,0,none⟩) (rT Bo.out Bd.out (by decide)) (fun _ hk=>hk.2) (.slice Ao21 t325.length co21)) (fun _ hk=>hk.2) (.slice Ao25 t328.length co25)) (fun _ h_=>h_.1))) hb);have n1_:=Am (rB (by (with_reducible repeat (first|apply rA|apply rN|apply rD));exact (rM (rF (p:=⟨Bc,1,none⟩) (rF (p:=⟨Bc,0,none⟩) (rT Bp.out Bd.out (by decide)) (fun _ hk=>hk.2) (.slice Ao21 t325.length co21)) (fun _ hk=>hk.2) (.slice Ao25 t328.length co25)) (fun _ h_=>h_.1))) hb);have n2_:=Am (rB (by (with_reducible repeat (first|apply rA|apply rN|apply rD));exact (rM (rF (p:=⟨Bc,1,none⟩) (rF (p:=⟨Bc,0,none⟩) (rT Br.out Bd.out (by decide)) (fun _ hk=>hk.2) (.slice Ao21 t325.length co21)) (fun _ hk=>hk.2) (.slice Ao25 t328.length co25)) (fun _ h_=>h_.1))) hb);have n3_:=Am (rB (by (with_reducible repeat (first|apply rA|apply rN|apply rD));exact (rM (rF (p:=⟨Bc,1,none⟩) (rF (p:=⟨Bc,0,none⟩) (rT Bs.out Bd.out (by decide)) (fun _ hk=>hk.2) (.slice Ao21 t325.length co21)) (fun _ hk=>hk.2) (.slice Ao25 t328.length co25)) (fun _ h_=>h_.1))) hb);have n4_:=Am (rB (by (with_reducible repeat (first|apply rA|apply rN|apply rD));exact (rM (rF (p:=⟨Bc,1,none⟩) (rF (p:=⟨Bc,0,none⟩) (rT Bu.out Bd.out (by decide)) (fun _ hk=>hk.2) (.slice Ao21 t325.length co21)) (fun _ hk=>hk.2) (.slice Ao25 t328.length co25)) (fun _ h_=>h_.1))) hb);have n5_:=Am (rB (by (with_reducible repeat (first|apply rA|apply rN|apply rD));exact (rM (rF (p:=⟨Bc,1,none⟩) (rF (p:=⟨Bc,0,none⟩) (rT Bv.out Bd.out (by decide)) (fun _ hk=>hk.2) (.slice Ao21 t325.length co21)) (fun _ hk=>hk.2) (.slice Ao25 t328.length co25)) (fun _ h_=>h_.1))) hb);have n6_:=Am (bB (g:=Bg) (o:=.cells #[.slice Ao9 t309.length co9,.slice Ao11 t312.length co11] 26 (0,0)) (by (with_reducible repeat (first|refine bN ?_ _|refine bD ?_|refine bA ?_ _|refine blk_far ?_ BB.out _));exact Bb.out) hb);have n7_:=Am (bB (g:=Bf) (o:=.cells #[.slice Ao14 t317.length co14,.slice Ao17 t320.length co17] 26 (0,0)) (by (with_reducible repeat (first|refine bN ?_ _|refine bD ?_|refine bA ?_ _|refine blk_far ?_ Bz.out _));exact Ba.out) hb);have n8_:=Am (bB (g:=Bc) (o:=.cells #[.slice Ao21 t325.length co21,.slice Ao25 t328.length co25] 26 (0,0)) (by (with_reducible repeat (first|refine bN ?_ _|refine bD ?_|refine bA ?_ _));refine blk_put (cs:=#[.slice Ao21 t325.length co21,.slice none 0 0]) ?_ 1 _ rfl;(with_reducible repeat (first|refine bN ?_ _|refine bD ?_|refine bA ?_ _));refine blk_put (cs:=#[.slice none 0 0,.slice none 0 0]) ?_ 0 _ rfl;(with_reducible repeat (first|refine bN ?_ _|refine bD ?_|refine bA ?_ _));exact Bd.out) hb);have n9_:=Am (bP (by repeat (first|(with_reducible first|exact HB.out|apply oA|apply pN|apply o1|refine bS ?_ Bq.out|refine bS ?_ Bt.out|refine bS ?_ Bw.out)|exact HB.out)) hb);clear Bo Bp Br Bs Bu Bv Bb Ba Bd HB;revert n0_ n1_ n2_ n3_ n4_ n5_ n6_ n7_ n8_ n9_;intro Bo Bp Br Bs Bu Bv Bb Ba Bd HB;(try clear hb);(try clear hb2);(try clear hk);(try clear hi)))
  go_meet
  case rel=>exact ⟨_,(false),(by first|rfl|(simp;done)|(simp [*];done)),H',⟨by first|omega|exact Nat.le_refl _⟩,⟨by (with_reducible repeat (first|apply rA|apply rN|apply rD));exact rM Bo.out (fun _ hk=>⟨hk.1.2,hk.2⟩)⟩,⟨by (with_reducible repeat (first|apply rA|apply rN|apply rD));exact rM Bp.out (fun _ hk=>⟨hk.1.2,hk.2⟩)⟩,⟨by (with_reducible repeat (first|apply rA|apply rN|apply rD));exact rM Br.out (fun _ hk=>⟨hk.1.2,hk.2⟩)⟩,⟨by (with_reducible repeat (first|apply rA|apply rN|apply rD));exact rM Bs.out (fun _ hk=>⟨hk.1.2,hk.2⟩)⟩,⟨by (with_reducible repeat (first|apply rA|apply rN|apply rD));exact rM Bu.out (fun _ hk=>⟨hk.1.2,hk.2⟩)⟩,⟨by (with_reducible repeat (first|apply rA|apply rN|apply rD));exact rM Bv.out (fun _ hk=>⟨hk.1.2,hk.2⟩)⟩,⟨by (with_reducible repeat (first|refine bN ?_ _|refine bD ?_|refine bA ?_ _));exact Bb.out⟩,⟨by (with_reducible repeat (first|refine bN ?_ _|refine bD ?_|refine bA ?_ _));exact Ba.out⟩,⟨by (with_reducible repeat (first|refine bN ?_ _|refine bD ?_|refine bA ?_ _));exact Bd.out⟩,⟨by repeat (first|(with_reducible first|exact HB.out|apply oA|apply pN|apply o1|refine bS ?_ Bq.out|refine bS ?_ Bt.out|refine bS ?_ Bw.out)|exact HB.out)⟩⟩
 case rest =>
  clear HC6
  try clear c1
  try clear c2
  try clear c2b0
  try clear c2b1
  try clear p2
  try clear c3
  try clear c5
  try clear c15
  try clear c19
  try clear c21
  try clear c22
  try clear c23
  try clear c27
  try clear c28
  try clear c29
  try clear c31
  try clear c34
  try clear c35
  try clear c37
  try clear BI
  try clear BJ
  try clear BM
  try clear BN
  try clear BQ
  try clear BR
  try clear BU
  try clear BV
  try clear BY
  try clear BZ
  try clear B2
  try clear B3
  try clear B6
  try clear B7
  try clear Da
  try clear Db
  try clear BK
  try clear BL
  try clear BO
  try clear BP
  try clear BS
  try clear BT
  try clear BW
  try clear BX
  try clear B0
  try clear B1
  try clear B4
  try clear B5
  try clear B8
  try clear B9
  try clear Dc
  try clear Dd
  obtain ⟨kq,x9_5,rfl,HA,Di,Bh,Bi,Bj,Bk,Bl,Bm,Bb,Ba,Bd,HB⟩:=hcut
  cases kq with
 |zero=>exact absurd HA.out (by simp [laws_FnPagesKeep.j0])
 |succ kj5 =>
   have H:=HA.out
   clear HA
   simp only [laws_FnPagesKeep.j0] at H
   have HC40:=Am H
   clear H
   go_upto_region 7 with (fail)
   go_cut [45] (fun v45 wc=>∃ (kq:Nat) (x45_39:Bool),v45=.bool x45_39∧Aside0 (laws_FnPagesKeep.j1 kq t315 x9_5 x45_39 t309 t312 t317 t320=some r)∧Aside0 (kq≤kj5)∧Aside0 (Kd.R Kd.string 9 wc w.heap.size (fun k_=>some k_≠((.slice Ao14 t317.length co14):Value).ownBlock∧some k_≠((.slice Ao21 t325.length co21):Value).ownBlock) (.slice Ao9 t309.length co9) t309)∧Aside0 (Kd.R (Kd.int .i64) 3 wc w.heap.size (fun k_=>some k_≠((.slice Ao17 t320.length co17):Value).ownBlock∧some k_≠((.slice Ao25 t328.length co25):Value).ownBlock) (.slice Ao11 t312.length co11) t312)∧Aside0 (Kd.R Kd.string 9 wc w.heap.size (fun k_=>some k_≠((.slice Ao9 t309.length co9):Value).ownBlock∧some k_≠((.slice Ao21 t325.length co21):Value).ownBlock) (.slice Ao14 t317.length co14) t317)∧Aside0 (Kd.R (Kd.int .i64) 3 wc w.heap.size (fun k_=>some k_≠((.slice Ao11 t312.length co11):Value).ownBlock∧some k_≠((.slice Ao25 t328.length co25):Value).ownBlock) (.slice Ao17 t320.length co17) t320)∧Aside0 (Kd.R Kd.string 9 wc w.heap.size (fun k_=>some k_≠((.slice Ao9 t309.length co9):Value).ownBlock∧some k_≠((.slice Ao14 t317.length co14):Value).ownBlock) (.slice Ao21 t325.length co21) t325)∧Aside0 (Kd.R (Kd.int .i64) 3 wc w.heap.size (fun k_=>some k_≠((.slice Ao11 t312.length co11):Value).ownBlock∧some k_≠((.slice Ao17 t320.length co17):Value).ownBlock) (.slice Ao25 t328.length co25) t328)∧Aside0 (wc.heap[Bg]?=some (.cells #[(.slice Ao9 t309.length co9),(.slice Ao11 t312.length co11)] 26 (0,0)))∧Aside0 (wc.heap[Bf]?=some (.cells #[(.slice Ao14 t317.length co14),(.slice Ao17 t320.length co17)] 26 (0,0)))∧Aside0 (wc.heap[Bc]?=some (.cells #[(.slice Ao21 t325.length co21),(.slice Ao25 t328.length co25)] 26 (0,0)))∧Aside0 (Below w.heap.size w wc))
   case first =>
    have H:=HC40.out
    clear HC40
    by_cases c41:x9_5=true
    ·subst c41
     have H1:(laws_FnPagesKeep.j1 kj5 t315 true (!t323) t309 t312 t317 t320)=some r:=by rw [if_pos rfl] at H;exact H
     clear H
     have H:=H1
     clear H1
     have H':=Am H
     clear H
     go_wp2
     go_meet
     case rel=>exact ⟨_,(!t323),(by first|rfl|(simp;done)|(simp [*];done)),H',⟨by have:=Di.out;first|omega|exact Nat.le_refl _⟩,⟨by (with_reducible repeat (first|apply rA|apply rN|apply rD));exact Bh.out⟩,⟨by (with_reducible repeat (first|apply rA|apply rN|apply rD));exact Bi.out⟩,⟨by (with_reducible repeat (first|apply rA|apply rN|apply rD));exact Bj.out⟩,⟨by (with_reducible repeat (first|apply rA|apply rN|apply rD));exact Bk.out⟩,⟨by (with_reducible repeat (first|apply rA|apply rN|apply rD));exact Bl.out⟩,⟨by (with_reducible repeat (first|apply rA|apply rN|apply rD));exact Bm.out⟩,⟨by (with_reducible repeat (first|refine bN ?_ _|refine bD ?_|refine bA ?_ _));exact Bb.out⟩,⟨by (with_reducible repeat (first|refine bN ?_ _|refine bD ?_|refine bA ?_ _));exact Ba.out⟩,⟨by (with_reducible repeat (first|refine bN ?_ _|refine bD ?_|refine bA ?_ _));exact Bd.out⟩,⟨by repeat (first|(with_reducible first|exact HB.out|apply oA|apply pN|apply o1|refine bS ?_ Bq.out|refine bS ?_ Bt.out|refine bS ?_ Bw.out)|exact HB.out)⟩⟩
    replace c41:=Bool.eq_false_iff.mpr c41
    subst c41
    have H1:(laws_FnPagesKeep.j1 kj5 t315 false true t309 t312 t317 t320)=some r:=by rw [if_neg (show ¬ (false=true) by decide)] at H;exact H
    clear H
    have H:=H1
    clear H1
    have H':=Am H
    clear H
    go_wp2
    go_meet
    case rel=>exact ⟨_,(true),(by first|rfl|(simp;done)|(simp [*];done)),H',⟨by have:=Di.out;first|omega|exact Nat.le_refl _⟩,⟨by (with_reducible repeat (first|apply rA|apply rN|apply rD));exact Bh.out⟩,⟨by (with_reducible repeat (first|apply rA|apply rN|apply rD));exact Bi.out⟩,⟨by (with_reducible repeat (first|apply rA|apply rN|apply rD));exact Bj.out⟩,⟨by (with_reducible repeat (first|apply rA|apply rN|apply rD));exact Bk.out⟩,⟨by (with_reducible repeat (first|apply rA|apply rN|apply rD));exact Bl.out⟩,⟨by (with_reducible repeat (first|apply rA|apply rN|apply rD));exact Bm.out⟩,⟨by (with_reducible repeat (first|refine bN ?_ _|refine bD ?_|refine bA ?_ _));exact Bb.out⟩,⟨by (with_reducible repeat (first|refine bN ?_ _|refine bD ?_|refine bA ?_ _));exact Ba.out⟩,⟨by (with_reducible repeat (first|refine bN ?_ _|refine bD ?_|refine bA ?_ _));exact Bd.out⟩,⟨by repeat (first|(with_reducible first|exact HB.out|apply oA|apply pN|apply o1|refine bS ?_ Bq.out|refine bS ?_ Bt.out|refine bS ?_ Bw.out)|exact HB.out)⟩⟩
   case rest =>
    clear HC40
    try clear c1
    try clear c2
    try clear c2b0
    try clear c2b1
    try clear p2
    try clear c3
    try clear c4
    try clear c5
    try clear c15
    try clear c19
    try clear c21
    try clear c22
    try clear c23
    try clear c27
    try clear c28
    try clear c29
    try clear c31
    try clear c34
    try clear c35
    try clear c37
    try clear c41
    try clear BI
    try clear BJ
    try clear BM
    try clear BN
    try clear BQ
    try clear BR
    try clear BU
    try clear BV
    try clear BY
    try clear BZ
    try clear B2
    try clear B3
    try clear B6
    try clear B7
    try clear Da
    try clear Db
    try clear BK
    try clear BL
    try clear BO
    try clear BP
    try clear BS
    try clear BT
    try clear BW
    try clear BX
    try clear B0
    try clear B1
    try clear B4
    try clear B5
    try clear B8
    try clear B9
    try clear Dc
    try clear Dd
    try clear p2
    obtain ⟨kq,x45_39,rfl,HA,DX,Bh,Bi,Bj,Bk,Bl,Bm,Bb,Ba,Bd,HB⟩:=hcut
    cases kq with
   |zero=>exact absurd HA.out (by simp [laws_FnPagesKeep.j1])
   |succ kj39 =>
     have H:=HA.out
     clear HA
     simp only [laws_FnPagesKeep.j1] at H
     by_cases c42:x45_39=true
     ·subst c42
      have H1:(some x9_5)=some r:=by rw [if_pos rfl] at H;exact H
      clear H
      have H:=H1
      clear H1
      obtain rfl:=Option.some.inj H
      go_wp2
      go_ret
      exact ⟨by first|rfl|(simp [errW_none,errW_some] <;> rfl)|(simp [*,errW_none,errW_some] <;> rfl),by repeat (first|(with_reducible first|exact HB.out|apply oA|apply pN|apply o1|refine bS ?_ Bq.out|refine bS ?_ Bt.out|refine bS ?_ Bw.out)|exact HB.out)⟩
     replace c42:=Bool.eq_false_iff.mpr c42
     subst c42
     have H1:((impl_PagesGive.f kj39 t317 t320 t315).bind fun bt334=>(if bt334.2.2=true then ((laws_qdPages.f kj39 bt334.1 bt334.2.1 t309 t312).bind fun t342=>(if t342=true then ((laws_qdTexts.f kj39 t317 t309).bind fun t343=>(if t343=true then ((laws_qdSum.f kj39 t320).bind fun t344=>((laws_qdSum.f kj39 t312).bind fun t345=>(some (t344 == (wrap64 (t345 + 1)))))) else (some false))) else (some false))) else (some false)))=some r:=by rw [if_neg (show ¬ (false=true) by decide)] at H;exact H
     clear H
     have H:=H1
     clear H1
     replace H:=oC H
     obtain ⟨⟨t334,t337,t340⟩,A430,H⟩:=H
     replace H:(if t340=true then ((laws_qdPages.f kj39 t334 t337 t309 t312).bind fun t342=>(if t342=true then ((laws_qdTexts.f kj39 t317 t309).bind fun t343=>(if t343=true then ((laws_qdSum.f kj39 t320).bind fun t344=>((laws_qdSum.f kj39 t312).bind fun t345=>(some (t344 == (wrap64 (t345 + 1)))))) else (some false))) else (some false))) else (some false))=some r:=H
     have A43:=Am A430
     clear A430
     by_cases c44:t340=true
     rotate_left
     ·replace c44:=Bool.eq_false_iff.mpr c44
      subst c44
      have H1:(some false)=some r:=by rw [if_neg (show ¬ (false=true) by decide)] at H;exact H
      clear H
      have H:=H1
      clear H1
      exact absurd ((Option.some.inj H).trans hT_.out) (by decide)

     subst c44
     have H1:((laws_qdPages.f kj39 t334 t337 t309 t312).bind fun t342=>(if t342=true then ((laws_qdTexts.f kj39 t317 t309).bind fun t343=>(if t343=true then ((laws_qdSum.f kj39 t320).bind fun t344=>((laws_qdSum.f kj39 t312).bind fun t345=>(some (t344 == (wrap64 (t345 + 1)))))) else (some false))) else (some false)))=some r:=by rw [if_pos rfl] at H;exact H
     clear H
     have H:=H1
     clear H1
     replace H:=oC H
     obtain ⟨t342,A450,H⟩:=H
     replace H:(if t342=true then ((laws_qdTexts.f kj39 t317 t309).bind fun t343=>(if t343=true then ((laws_qdSum.f kj39 t320).bind fun t344=>((laws_qdSum.f kj39 t312).bind fun t345=>(some (t344 == (wrap64 (t345 + 1)))))) else (some false))) else (some false))=some r:=H
     have A45:=Am A450
     clear A450
     by_cases c46:t342=true
     rotate_left
     ·replace c46:=Bool.eq_false_iff.mpr c46
      subst c46
      have H1:(some false)=some r:=by rw [if_neg (show ¬ (false=true) by decide)] at H;exact H
      clear H
      have H:=H1
      clear H1
      exact absurd ((Option.some.inj H).trans hT_.out) (by decide)
     subst c46
     have H1:((laws_qdTexts.f kj39 t317 t309).bind fun t343=>(if t343=true then ((laws_qdSum.f kj39 t320).bind fun t344=>((laws_qdSum.f kj39 t312).bind fun t345=>(some (t344 == (wrap64 (t345 + 1)))))) else (some false)))=some r:=by rw [if_pos rfl] at H;exact H
     clear H
     have H:=H1
     clear H1
     replace H:=oC H
     obtain ⟨t343,A470,H⟩:=H
     replace H:(if t343=true then ((laws_qdSum.f kj39 t320).bind fun t344=>((laws_qdSum.f kj39 t312).bind fun t345=>(some (t344 == (wrap64 (t345 + 1)))))) else (some false))=some r:=H
     have A47:=Am A470
     clear A470
     by_cases c48:t343=true
     rotate_left
     ·replace c48:=Bool.eq_false_iff.mpr c48
      subst c48
      have H1:(some false)=some r:=by rw [if_neg (show ¬ (false=true) by decide)] at H;exact H
      clear H
      have H:=H1
      clear H1
      exact absurd ((Option.some.inj H).trans hT_.out) (by decide)
     subst c48
     have H1:((laws_qdSum.f kj39 t320).bind fun t344=>((laws_qdSum.f kj39 t312).bind fun t345=>(some (t344 == (wrap64 (t345 + 1))))))=some r:=by rw [if_pos rfl] at H;exact H
     clear H
     have H:=H1
     clear H1
     replace H:=oC H
     obtain ⟨t344,A490,H⟩:=H
     replace H:((laws_qdSum.f kj39 t312).bind fun t345=>(some (t344 == (wrap64 (t345 + 1)))))=some r:=H
     have A49:=Am A490
     clear A490
     replace H:=oC H
     obtain ⟨t345,A500,H⟩:=H
     replace H:(some (t344 == (wrap64 (t345 + 1))))=some r:=H
     have A50:=Am A500
     clear A500
     obtain rfl:=Option.some.inj H
     have DM:=BC.out
     have DN:=BA.out
     have DO:=Bz.out
     have DP:=BD.out
     have Dj:=cz0 Ba.out
     have Dk:=cz1 Ba.out
     have Dl:=bF Ba.out 0
     have Dm:=bF Ba.out 1
     try go_wp2_with (first|((with_reducible refine gate_callee (f:=24) rfl ?_);refine goesL_ (some 50) rfl rfl Try.func24 (by kernel_rfl) rfl #[.agg #[.slice Ao14 t317.length co14,.slice Ao17 t320.length co17],.int .i64 t315] rfl (by (try simp only [lM,lC,lN]);first|done|rfl|(simp only [lD,lT];rfl)) ?_;(with_reducible refine (impl_PagesGive.calls kj39 _ _ t317 _ _ t320 t315 t334 t337 true _ ?side1 ?side2 ?side3 ?side4 A43.out).mono ?_);(case side1=>exact cL (Kd.R_reads' Bj.out).2.2);(case side2=>exact (Kd.R_reads' Bj.out).2.1);(case side3=>exact cL (Kd.R_reads' Bk.out).2.2);(case side4=>exact (Kd.R_reads' Bk.out).2.1);rintro e w54 ⟨v335,v338,rfl,ho0,ho1,hb⟩;refine ⟨_,rfl,?_⟩;have n0_:=Am (Kd.R_elder' (rL Bh.out) (Kd.R_base ho0) hb);have n1_:=Am (Kd.R_elder' (rL Bi.out) (Kd.R_base ho1) hb);have n2_:=Am (Kd.R_elder' (rL Bj.out) (Kd.R_base ho0) hb);have n3_:=Am (Kd.R_elder' (rL Bk.out) (Kd.R_base ho1) hb);have n4_:=Am (Kd.R_elder' (rL Bl.out) (Kd.R_base ho0) hb);have n5_:=Am (Kd.R_elder' (rL Bm.out) (Kd.R_base ho1) hb);have n6_:=Am (Kd.R_lower (Kd.R_new' (Kd.R_new' (Kd.R_new' ho0 (Kd.R_lt (rL Bh.out))) (Kd.R_lt (rL Bj.out))) (Kd.R_lt (rL Bl.out))) (bZ (by repeat (first|(with_reducible first|exact HB.out|apply oA|apply pN|apply o1|refine bS ?_ Bq.out|refine bS ?_ Bt.out|refine bS ?_ Bw.out)|exact HB.out))));have n7_:=Am (Kd.R_lower (Kd.R_new' (Kd.R_new' (Kd.R_new' ho1 (Kd.R_lt (rL Bi.out))) (Kd.R_lt (rL Bk.out))) (Kd.R_lt (rL Bm.out))) (bZ (by repeat (first|(with_reducible first|exact HB.out|apply oA|apply pN|apply o1|refine bS ?_ Bq.out|refine bS ?_ Bt.out|refine bS ?_ Bw.out)|exact HB.out))));have n8_:=Am (bX Bb.out hb);have n9_:=Am (bX Ba.out hb);have n10_:=Am (bX Bd.out hb);have n11_:=Am (bP (by repeat (first|(with_reducible first|exact HB.out|apply oA|apply pN|apply o1|refine bS ?_ Bq.out|refine bS ?_ Bt.out|refine bS ?_ Bw.out)|exact HB.out)) hb);clear Bh Bi Bj Bk Bl Bm Bb Ba Bd HB;revert n0_ n1_ n2_ n3_ n4_ n5_ n6_ n7_ n8_ n9_ n10_ n11_;intro Bh Bi Bj Bk Bl Bm Bx By Bb Ba Bd HB;(try clear hb);(try clear hb2);(try clear hk);(try clear hi);(try clear ho0);(try clear ho1))|((with_reducible refine gate_dst (N:=10) rfl ?_);refine box_event ?hg (N:=10) ?hd (cs:=#[.slice none 0 0,.slice none 0 0]) (t:=26) ?hr ?_;(case hd=>rfl);(case hg=>rfl);(case hr=>first|(go_simp;done)|(go_simp;rfl));intro Be hg w55 hbox hb;have n0_:=Am (rB (rL Bh.out) hb);have n1_:=Am (rB (rL Bi.out) hb);have n2_:=Am (rB (rL Bj.out) hb);have n3_:=Am (rB (rL Bk.out) hb);have n4_:=Am (rB (rL Bl.out) hb);have n5_:=Am (rB (rL Bm.out) hb);have n6_:=Am (rB (rL Bx.out) hb);have n7_:=Am (rB (rL By.out) hb);have n8_:=Am (bX Bb.out hb);have n9_:=Am (bX Ba.out hb);have n10_:=Am (bX Bd.out hb);have n11_:=Am (bP (by repeat (first|(with_reducible first|exact HB.out|apply oA|apply pN|apply o1|refine bS ?_ Bq.out|refine bS ?_ Bt.out|refine bS ?_ Bw.out)|exact HB.out)) hb);have n12_:=Am (hbox);have n13_:=Am ((by rw [hg];exact (bZ (by repeat (first|(with_reducible first|exact HB.out|apply oA|apply pN|apply o1|refine bS ?_ Bq.out|refine bS ?_ Bt.out|refine bS ?_ Bw.out)|exact HB.out))):w.heap.size≤Be));have n14_:=Am ((by rw [hg];exact (bZ (by repeat (first|(with_reducible first|exact HB.out|apply oA|apply pN|apply o1|refine bS ?_ Bq.out|refine bS ?_ Bt.out|refine bS ?_ Bw.out)|exact HB.out))):w.heap.size≤Be));have n15_:=Am ((nL Bb.out hg));have n16_:=Am ((nG Bb.out hg));have n17_:=Am ((nL Ba.out hg));have n18_:=Am ((nG Ba.out hg));have n19_:=Am ((nL Bd.out hg));have n20_:=Am ((nG Bd.out hg));clear Bh Bi Bj Bk Bl Bm Bx By Bb Ba Bd HB;revert n0_ n1_ n2_ n3_ n4_ n5_ n6_ n7_ n8_ n9_ n10_ n11_ n12_ n13_ n14_ n15_ n16_ n17_ n18_ n19_ n20_;intro Bh Bi Bj Bk Bl Bm Bx By Bb Ba Bd HB Bn DQ De BF Df BG Dg BH Dh;clear hb hbox hg;obtain ⟨Ao56,co56,eo56⟩:=Kd.R_slice Bx.out;subst eo56;have DR:=Df.out;have DS:=BF.out;have DT:=Dg.out;have DU:=BG.out;have DV:=Dh.out;have DW:=BH.out;have Dn:=cz0 Bn.out;have Do:=cz1 Bn.out;have Dp:=bF Bn.out 0;have Dq:=bF Bn.out 1;obtain ⟨Ao61,co61,eo61⟩:=Kd.R_slice By.out;subst eo61))
     have n0_:Aside0 (Kd.R Kd.string 9 ((w55.setCell ⟨Be,0,none⟩ (.slice Ao56 t334.length co56)).setCell ⟨Be,1,none⟩ (.slice Ao61 t337.length co61)) w.heap.size (fun k_=>some k_≠(.slice Ao14 t317.length co14:Value).ownBlock∧some k_≠(.slice Ao21 t325.length co21:Value).ownBlock∧some k_≠(.slice Ao56 t334.length co56:Value).ownBlock) (.slice Ao9 t309.length co9) t309):=⟨by (with_reducible repeat (first|apply rA|apply rN|apply rD));exact rM (rF (p:=⟨Be,1,none⟩) (rF (p:=⟨Be,0,none⟩) (rT Bh.out Bn.out (by decide)) (fun _ hk=>hk.2) (.slice Ao56 t334.length co56)) (fun _ hk=>hk.2) (.slice Ao61 t337.length co61)) (fun _ hk=>⟨hk.1.1.1,⟨hk.1.1.2,hk.1.2⟩⟩)⟩
     have n1_:Aside0 (Kd.R (Kd.int .i64) 3 ((w55.setCell ⟨Be,0,none⟩ (.slice Ao56 t334.length co56)).setCell ⟨Be,1,none⟩ (.slice Ao61 t337.length co61)) w.heap.size (fun k_=>some k_≠(.slice Ao17 t320.length co17:Value).ownBlock∧some k_≠(.slice Ao25 t328.length co25:Value).ownBlock∧some k_≠(.slice Ao61 t337.length co61:Value).ownBlock) (.slice Ao11 t312.length co11) t312):=⟨by (with_reducible repeat (first|apply rA|apply rN|apply rD));exact rM (rF (p:=⟨Be,1,none⟩) (rF (p:=⟨Be,0,none⟩) (rT Bi.out Bn.out (by decide)) (fun _ hk=>hk.2) (.slice Ao56 t334.length co56)) (fun _ hk=>hk.2) (.slice Ao61 t337.length co61)) (fun _ hk=>⟨hk.1.1.1,⟨hk.1.1.2,hk.1.2⟩⟩)⟩
     have n2_:Aside0 (Kd.R Kd.string 9 ((w55.setCell ⟨Be,0,none⟩ (.slice Ao56 t334.length co56)).setCell ⟨Be,1,none⟩ (.slice Ao61 t337.length co61)) w.heap.size (fun k_=>some k_≠(.slice Ao9 t309.length co9:Value).ownBlock∧some k_≠(.slice Ao21 t325.length co21:Value).ownBlock∧some k_≠(.slice Ao56 t334.length co56:Value).ownBlock) (.slice Ao14 t317.length co14) t317):=⟨by (with_reducible repeat (first|apply rA|apply rN|apply rD));exact rM (rF (p:=⟨Be,1,none⟩) (rF (p:=⟨Be,0,none⟩) (rT Bj.out Bn.out (by decide)) (fun _ hk=>hk.2) (.slice Ao56 t334.length co56)) (fun _ hk=>hk.2) (.slice Ao61 t337.length co61)) (fun _ hk=>⟨hk.1.1.1,⟨hk.1.1.2,hk.1.2⟩⟩)⟩
     have n3_:Aside0 (Kd.R (Kd.int .i64) 3 ((w55.setCell ⟨Be,0,none⟩ (.slice Ao56 t334.length co56)).setCell ⟨Be,1,none⟩ (.slice Ao61 t337.length co61)) w.heap.size (fun k_=>some k_≠(.slice Ao11 t312.length co11:Value).ownBlock∧some k_≠(.slice Ao25 t328.length co25:Value).ownBlock∧some k_≠(.slice Ao61 t337.length co61:Value).ownBlock) (.slice Ao17 t320.length co17) t320):=⟨by (with_reducible repeat (first|apply rA|apply rN|apply rD));exact rM (rF (p:=⟨Be,1,none⟩) (rF (p:=⟨Be,0,none⟩) (rT Bk.out Bn.out (by decide)) (fun _ hk=>hk.2) (.slice Ao56 t334.length co56)) (fun _ hk=>hk.2) (.slice Ao61 t337.length co61)) (fun _ hk=>⟨hk.1.1.1,⟨hk.1.1.2,hk.1.2⟩⟩)⟩
     have n4_:Aside0 (Kd.R Kd.string 9 ((w55.setCell ⟨Be,0,none⟩ (.slice Ao56 t334.length co56)).setCell ⟨Be,1,none⟩ (.slice Ao61 t337.length co61)) w.heap.size (fun k_=>some k_≠(.slice Ao9 t309.length co9:Value).ownBlock∧some k_≠(.slice Ao14 t317.length co14:Value).ownBlock∧some k_≠(.slice Ao56 t334.length co56:Value).ownBlock) (.slice Ao21 t325.length co21) t325):=⟨by (with_reducible repeat (first|apply rA|apply rN|apply rD));exact rM (rF (p:=⟨Be,1,none⟩) (rF (p:=⟨Be,0,none⟩) (rT Bl.out Bn.out (by decide)) (fun _ hk=>hk.2) (.slice Ao56 t334.length co56)) (fun _ hk=>hk.2) (.slice Ao61 t337.length co61)) (fun _ hk=>⟨hk.1.1.1,⟨hk.1.1.2,hk.1.2⟩⟩)⟩
     have n5_:Aside0 (Kd.R (Kd.int .i64) 3 ((w55.setCell ⟨Be,0,none⟩ (.slice Ao56 t334.length co56)).setCell ⟨Be,1,none⟩ (.slice Ao61 t337.length co61)) w.heap.size (fun k_=>some k_≠(.slice Ao11 t312.length co11:Value).ownBlock∧some k_≠(.slice Ao17 t320.length co17:Value).ownBlock∧some k_≠(.slice Ao61 t337.length co61:Value).ownBlock) (.slice Ao25 t328.length co25) t328):=⟨by (with_reducible repeat (first|apply rA|apply rN|apply rD));exact rM (rF (p:=⟨Be,1,none⟩) (rF (p:=⟨Be,0,none⟩) (rT Bm.out Bn.out (by decide)) (fun _ hk=>hk.2) (.slice Ao56 t334.length co56)) (fun _ hk=>hk.2) (.slice Ao61 t337.length co61)) (fun _ hk=>⟨hk.1.1.1,⟨hk.1.1.2,hk.1.2⟩⟩)⟩
     have n6_:Aside0 (Kd.R Kd.string 9 ((w55.setCell ⟨Be,0,none⟩ (.slice Ao56 t334.length co56)).setCell ⟨Be,1,none⟩ (.slice Ao61 t337.length co61)) w.heap.size (fun k_=>some k_≠(.slice Ao9 t309.length co9:Value).ownBlock∧some k_≠(.slice Ao14 t317.length co14:Value).ownBlock∧some k_≠(.slice Ao21 t325.length co21:Value).ownBlock) (.slice Ao56 t334.length co56) t334):=⟨by (with_reducible repeat (first|apply rA|apply rN|apply rD));exact rM (rF (p:=⟨Be,1,none⟩) (rF (p:=⟨Be,0,none⟩) (rT Bx.out Bn.out (by decide)) (fun _ hk=>hk.2) (.slice Ao56 t334.length co56)) (fun _ hk=>hk.2) (.slice Ao61 t337.length co61)) (fun _ hk=>⟨hk.1.1.1.2,⟨hk.1.1.2,hk.1.2⟩⟩)⟩
     have n7_:Aside0 (Kd.R (Kd.int .i64) 3 ((w55.setCell ⟨Be,0,none⟩ (.slice Ao56 t334.length co56)).setCell ⟨Be,1,none⟩ (.slice Ao61 t337.length co61)) w.heap.size (fun k_=>some k_≠(.slice Ao11 t312.length co11:Value).ownBlock∧some k_≠(.slice Ao17 t320.length co17:Value).ownBlock∧some k_≠(.slice Ao25 t328.length co25:Value).ownBlock) (.slice Ao61 t337.length co61) t337):=⟨by (with_reducible repeat (first|apply rA|apply rN|apply rD));exact rM (rF (p:=⟨Be,1,none⟩) (rF (p:=⟨Be,0,none⟩) (rT By.out Bn.out (by decide)) (fun _ hk=>hk.2) (.slice Ao56 t334.length co56)) (fun _ hk=>hk.2) (.slice Ao61 t337.length co61)) (fun _ hk=>⟨hk.1.1.1.2,⟨hk.1.1.2,hk.1.2⟩⟩)⟩
     have n8_:Aside0 (((w55.setCell ⟨Be,0,none⟩ (.slice Ao56 t334.length co56)).setCell ⟨Be,1,none⟩ (.slice Ao61 t337.length co61)).heap[Bg]?=some (.cells #[.slice Ao9 t309.length co9,.slice Ao11 t312.length co11] 26 (0,0))):=⟨by (with_reducible repeat (first|refine bN ?_ _|refine bD ?_|refine bA ?_ _|refine blk_far ?_ BF.out _));exact Bb.out⟩
     have n9_:Aside0 (((w55.setCell ⟨Be,0,none⟩ (.slice Ao56 t334.length co56)).setCell ⟨Be,1,none⟩ (.slice Ao61 t337.length co61)).heap[Bf]?=some (.cells #[.slice Ao14 t317.length co14,.slice Ao17 t320.length co17] 26 (0,0))):=⟨by (with_reducible repeat (first|refine bN ?_ _|refine bD ?_|refine bA ?_ _|refine blk_far ?_ BG.out _));exact Ba.out⟩
     have n10_:Aside0 (((w55.setCell ⟨Be,0,none⟩ (.slice Ao56 t334.length co56)).setCell ⟨Be,1,none⟩ (.slice Ao61 t337.length co61)).heap[Bc]?=some (.cells #[.slice Ao21 t325.length co21,.slice Ao25 t328.length co25] 26 (0,0))):=⟨by (with_reducible repeat (first|refine bN ?_ _|refine bD ?_|refine bA ?_ _|refine blk_far ?_ BH.out _));exact Bd.out⟩
     have n11_:Aside0 (((w55.setCell ⟨Be,0,none⟩ (.slice Ao56 t334.length co56)).setCell ⟨Be,1,none⟩ (.slice Ao61 t337.length co61)).heap[Be]?=some (.cells #[.slice Ao56 t334.length co56,.slice Ao61 t337.length co61] 26 (0,0))):=⟨by (with_reducible repeat (first|refine bN ?_ _|refine bD ?_|refine bA ?_ _));refine blk_put (cs:=#[.slice Ao56 t334.length co56,.slice none 0 0]) ?_ 1 _ rfl;(with_reducible repeat (first|refine bN ?_ _|refine bD ?_|refine bA ?_ _));refine blk_put (cs:=#[.slice none 0 0,.slice none 0 0]) ?_ 0 _ rfl;(with_reducible repeat (first|refine bN ?_ _|refine bD ?_|refine bA ?_ _));exact Bn.out⟩
     have n12_:Aside0 (Below w.heap.size w ((w55.setCell ⟨Be,0,none⟩ (.slice Ao56 t334.length co56)).setCell ⟨Be,1,none⟩ (.slice Ao61 t337.length co61))):=⟨by repeat (first|(with_reducible first|exact HB.out|apply oA|apply pN|apply o1|refine bS ?_ Bq.out|refine bS ?_ Bt.out|refine bS ?_ Bw.out|refine bS ?_ De.out)|exact HB.out)⟩
     (try clear Bh)
     (try clear Bi)
     (try clear Bj)
     (try clear Bk)
     (try clear Bl)
     (try clear Bm)
     (try clear Bx)
     (try clear By)
     (try clear Bb)
     (try clear Ba)
     (try clear Bd)
     (try clear Bn)
     (try clear HB)
     generalize ((w55.setCell ⟨Be,0,none⟩ (.slice Ao56 t334.length co56)).setCell ⟨Be,1,none⟩ (.slice Ao61 t337.length co61))=w62 at n0_ n1_ n2_ n3_ n4_ n5_ n6_ n7_ n8_ n9_ n10_ n11_ n12_ ⊢
     have Bh:=n0_
     have Bi:=n1_
     have Bj:=n2_
     have Bk:=n3_
     have Bl:=n4_
     have Bm:=n5_
     have Bx:=n6_
     have By:=n7_
     have Bb:=n8_
     have Ba:=n9_
     have Bd:=n10_
     have Bn:=n11_
     have HB:=n12_
     clear n0_ n1_ n2_ n3_ n4_ n5_ n6_ n7_ n8_ n9_ n10_ n11_ n12_
     have n0_:=Am (rD Bh.out)
     have n1_:=Am (rD Bi.out)
     have n2_:=Am (rD Bj.out)
     have n3_:=Am (rD Bk.out)
     have n4_:=Am (rD Bl.out)
     have n5_:=Am (rD Bm.out)
     have n6_:=Am (rD Bx.out)
     have n7_:=Am (rD By.out)
     have n8_:=Am (bD Bb.out)
     have n9_:=Am (bD Ba.out)
     have n10_:=Am (bD Bd.out)
     have n11_:=Am (bD Bn.out)
     have n12_:=Am (o1 HB.out)
     clear Bh
     clear Bi
     clear Bj
     clear Bk
     clear Bl
     clear Bm
     clear Bx
     clear By
     clear Bb
     clear Ba
     clear Bd
     clear Bn
     clear HB
     have Bh:=n0_
     have Bi:=n1_
     have Bj:=n2_
     have Bk:=n3_
     have Bl:=n4_
     have Bm:=n5_
     have Bx:=n6_
     have By:=n7_
     have Bb:=n8_
     have Ba:=n9_
     have Bd:=n10_
     have Bn:=n11_
     have HB:=n12_
     clear n0_ n1_ n2_ n3_ n4_ n5_ n6_ n7_ n8_ n9_ n10_ n11_ n12_
     refine start_ (n:=24) (S:=fun w'=>w'.cell? ⟨Be,0,none⟩=some (.slice Ao56 t334.length co56)∧w'.cell? ⟨Be,1,none⟩=some (.slice Ao61 t337.length co61)∧w'.cell? ⟨Bg,0,none⟩=some (.slice Ao9 t309.length co9)∧w'.cell? ⟨Bg,1,none⟩=some (.slice Ao11 t312.length co11)∧w'.cell? ⟨Bf,0,none⟩=some (.slice Ao14 t317.length co14)∧w'.cell? ⟨Bf,1,none⟩=some (.slice Ao17 t320.length co17)) (ds:=[]) z5q0 (by kernel_rfl) rfl rfl ⟨(bC Bn.out 0).trans rfl,(bC Bn.out 1).trans rfl,(bC Bb.out 0).trans rfl,(bC Bb.out 1).trans rfl,(bC Ba.out 0).trans rfl,(bC Ba.out 1).trans rfl⟩ (fun hHeld=>?_);refine with_st laws_FnPagesKeep.tab10 laws_FnPagesKeep.bits10 (fun _ _ _ _ _ h=>h) (fun HT_=>?_)
     generalize w62.drew=w63 at Bh Bi Bj Bk Bl Bm Bx By Bb Ba Bd Bn HB hHeld ⊢
     refine pS 0 53 z5q1 HT_ rfl rfl (by kernel_rfl) (by rfl) (by intro w';go_simp;with_reducible rfl) (by simp only [Act.put,lA,lZ,lS,iw,jw];rfl) ?_
     refine pS 1 54 z5q2 HT_ rfl rfl (by kernel_rfl) (by rfl) (by intro w';go_simp;with_reducible rfl) (by simp only [Act.put,lA,lZ,lS,iw,jw];rfl) ?_
     refine tS 2 55 z5q3 HT_ hHeld rfl rfl (by kernel_rfl) (by rfl) (by rintro w' ⟨s0,s1,s2,s3,s4,s5⟩;go_simp;with_reducible rfl) (by simp only [Act.put,lA,lZ,lS,iw,jw];rfl) ?_
     refine tS 3 56 z5q4 HT_ hHeld rfl rfl (by kernel_rfl) (by rfl) (by rintro w' ⟨s0,s1,s2,s3,s4,s5⟩;go_simp;with_reducible rfl) (by simp only [Act.put,lA,lZ,lS,iw,jw];rfl) ?_
     refine oS 4 57 z5q5 HT_ rfl rfl (by kernel_rfl) (by decide) (fun K hK=>?_)
     refine goes_ Try.func19 (by kernel_rfl) rfl #[.agg #[.slice Ao56 t334.length co56,.slice Ao61 t337.length co61],.agg #[.slice Ao9 t309.length co9,.slice Ao11 t312.length co11]] (by rfl) rfl rfl (by (try simp only [lM,lC,lN]);first|done|rfl|(simp only [lD,lT];rfl)) ?_
     with_reducible refine (laws_qdPages.calls kj39 _ _ t334 _ _ t337 _ _ t309 _ _ t312 true _ ?side1 ?side2 ?side3 ?side4 ?side5 ?side6 ?side7 ?side8 A45.out).mono ?_
     (case side1=>exact cL (Kd.R_reads' Bx.out).2.2)
     (case side2=>exact (Kd.R_reads' Bx.out).2.1)
     (case side3=>exact cL (Kd.R_reads' By.out).2.2)
     (case side4=>exact (Kd.R_reads' By.out).2.1)
     (case side5=>exact cL (Kd.R_reads' Bh.out).2.2)
     (case side6=>exact (Kd.R_reads' Bh.out).2.1)
     (case side7=>exact cL (Kd.R_reads' Bi.out).2.2)
     (case side8=>exact (Kd.R_reads' Bi.out).2.1)
     rintro e w64 ⟨rfl,hb⟩
     refine ⟨_,rfl,?_⟩
     have n0_:=Am (rB (rL Bh.out) hb)
     have n1_:=Am (rB (rL Bi.out) hb)
     have n2_:=Am (rB (rL Bj.out) hb)
     have n3_:=Am (rB (rL Bk.out) hb)
     have n4_:=Am (rB (rL Bl.out) hb)
     have n5_:=Am (rB (rL Bm.out) hb)
     have n6_:=Am (rB (rL Bx.out) hb)
     have n7_:=Am (rB (rL By.out) hb)
     have n8_:=Am (bX Bb.out hb)
     have n9_:=Am (bX Ba.out hb)
     have n10_:=Am (bX Bd.out hb)
     have n11_:=Am (bX Bn.out hb)
     have n12_:=Am (bP (by repeat (first|(with_reducible first|exact HB.out|apply oA|apply pN|apply o1|refine bS ?_ Bq.out|refine bS ?_ Bt.out|refine bS ?_ Bw.out|refine bS ?_ De.out)|exact HB.out)) hb)
     clear Bh
     clear Bi
     clear Bj
     clear Bk
     clear Bl
     clear Bm
     clear Bx
     clear By
     clear Bb
     clear Ba
     clear Bd
     clear Bn
     clear HB
     have Bh:=n0_
     have Bi:=n1_
     have Bj:=n2_
     have Bk:=n3_
     have Bl:=n4_
     have Bm:=n5_
     have Bx:=n6_
     have By:=n7_
     have Bb:=n8_
     have Ba:=n9_
     have Bd:=n10_
     have Bn:=n11_
     have HB:=n12_
     clear n0_ n1_ n2_ n3_ n4_ n5_ n6_ n7_ n8_ n9_ n10_ n11_ n12_
     (try clear hb)
     (try clear hb2)
     (try clear hk)
     (try clear hi)
     refine hK.out _ _ ⟨(bC Bn.out 0).trans rfl,(bC Bn.out 1).trans rfl,(bC Bb.out 0).trans rfl,(bC Bb.out 1).trans rfl,(bC Ba.out 0).trans rfl,(bC Ba.out 1).trans rfl⟩ (fun hHeld=>?_)
     clear hK K
     refine norm_ (by show Act.put _ (some 57) _=_;simp only [Act.put,lA,lZ,lS,iw,jw];rfl) ?_
     refine pS 5 58 z5q6 HT_ rfl rfl (by kernel_rfl) (by rfl) (by intro w';go_simp;with_reducible rfl) (by simp only [Act.put,lA,lZ,lS,iw,jw];rfl) ?_
     refine pS 6 59 z5q7 HT_ rfl rfl (by kernel_rfl) (by rfl) (by intro w';go_simp;with_reducible rfl) (by simp only [Act.put,lA,lZ,lS,iw,jw];rfl) ?_
     refine pS 7 60 z5q8 HT_ rfl rfl (by kernel_rfl) (by rfl) (by intro w';go_simp;with_reducible rfl) (by simp only [Act.put,lA,lZ,lS,iw,jw];rfl) ?_
     refine pS 9 62 z5q9 HT_ rfl rfl (by kernel_rfl) (by rfl) (by intro w';go_simp;with_reducible rfl) (by simp only [Act.put,lA,lZ,lS,iw,jw];rfl) ?_
     refine tS 8 61 z5q10 HT_ hHeld rfl rfl (by kernel_rfl) (by rfl) (by rintro w' ⟨s0,s1,s2,s3,s4,s5⟩;go_simp;with_reducible rfl) (by simp only [Act.put,lA,lZ,lS,iw,jw];rfl) ?_
     refine tS 10 63 z5q11 HT_ hHeld rfl rfl (by kernel_rfl) (by rfl) (by rintro w' ⟨s0,s1,s2,s3,s4,s5⟩;go_simp;with_reducible rfl) (by simp only [Act.put,lA,lZ,lS,iw,jw];rfl) ?_
     refine oS 11 64 z5q12 HT_ rfl rfl (by kernel_rfl) (by decide) (fun K hK=>?_)
     refine goes_ Try.func25 (by kernel_rfl) rfl #[.slice Ao14 t317.length co14,.slice Ao9 t309.length co9] (by rfl) rfl rfl (by (try simp only [lM,lC,lN]);first|done|rfl|(simp only [lD,lT];rfl)) ?_
     with_reducible refine (laws_qdTexts.calls kj39 _ _ t317 _ _ t309 true _ ?side1 ?side2 ?side3 ?side4 A47.out).mono ?_
     (case side1=>exact cL (Kd.R_reads' Bj.out).2.2)
     (case side2=>exact (Kd.R_reads' Bj.out).2.1)
     (case side3=>exact cL (Kd.R_reads' Bh.out).2.2)
     (case side4=>exact (Kd.R_reads' Bh.out).2.1)
     rintro e w' ⟨rfl,⟨nd,rfl⟩⟩
     refine ⟨_,rfl,?_⟩
     refine hK.out _ _ ⟨(bC Bn.out 0).trans rfl,(bC Bn.out 1).trans rfl,(bC Bb.out 0).trans rfl,(bC Bb.out 1).trans rfl,(bC Ba.out 0).trans rfl,(bC Ba.out 1).trans rfl⟩ (fun hHeld=>?_)
     clear hK K
     refine norm_ (by show Act.put _ (some 64) _=_;simp only [Act.put,lA,lZ,lS,iw,jw];rfl) ?_
     refine pS 12 65 z5q13 HT_ rfl rfl (by kernel_rfl) (by rfl) (by intro w';go_simp;with_reducible rfl) (by simp only [Act.put,lA,lZ,lS,iw,jw];rfl) ?_
     refine pS 13 66 z5q14 HT_ rfl rfl (by kernel_rfl) (by rfl) (by intro w';go_simp;with_reducible rfl) (by simp only [Act.put,lA,lZ,lS,iw,jw];rfl) ?_
     refine pS 14 67 z5q15 HT_ rfl rfl (by kernel_rfl) (by rfl) (by intro w';go_simp;with_reducible rfl) (by simp only [Act.put,lA,lZ,lS,iw,jw];rfl) ?_
     refine pS 17 70 z5q16 HT_ rfl rfl (by kernel_rfl) (by rfl) (by intro w';go_simp;with_reducible rfl) (by simp only [Act.put,lA,lZ,lS,iw,jw];rfl) ?_
     refine tS 15 68 z5q17 HT_ hHeld rfl rfl (by kernel_rfl) (by rfl) (by rintro w' ⟨s0,s1,s2,s3,s4,s5⟩;go_simp;with_reducible rfl) (by simp only [Act.put,lA,lZ,lS,iw,jw];rfl) ?_
     refine tS 18 71 z5q18 HT_ hHeld rfl rfl (by kernel_rfl) (by rfl) (by rintro w' ⟨s0,s1,s2,s3,s4,s5⟩;go_simp;with_reducible rfl) (by simp only [Act.put,lA,lZ,lS,iw,jw];rfl) ?_
     refine oS 16 69 z5q19 HT_ rfl rfl (by kernel_rfl) (by decide) (fun K hK=>?_)
     refine goes_ Try.func26 (by kernel_rfl) rfl #[.slice Ao17 t320.length co17] (by rfl) rfl rfl (by (try simp only [lM,lC,lN]);first|done|rfl|(simp only [lD,lT];rfl)) ?_
     with_reducible refine (laws_qdSum.calls kj39 _ _ t320 t344 _ ?side1 ?side2 A49.out).mono ?_
     (case side1=>exact cL (Kd.R_reads' Bk.out).2.2)
     (case side2=>exact (Kd.R_reads' Bk.out).2.1)
     rintro e w' ⟨rfl,⟨nd,rfl⟩⟩
     refine ⟨_,rfl,?_⟩
     refine hK.out _ _ ⟨(bC Bn.out 0).trans rfl,(bC Bn.out 1).trans rfl,(bC Bb.out 0).trans rfl,(bC Bb.out 1).trans rfl,(bC Ba.out 0).trans rfl,(bC Ba.out 1).trans rfl⟩ (fun hHeld=>?_)
     clear hK K
     refine norm_ (by show Act.put _ (some 69) _=_;simp only [Act.put,lA,lZ,lS,iw,jw];rfl) ?_
     refine oS 19 72 z5q20 HT_ rfl rfl (by kernel_rfl) (by decide) (fun K hK=>?_)
     refine goes_ Try.func26 (by kernel_rfl) rfl #[.slice Ao11 t312.length co11] (by rfl) rfl rfl (by (try simp only [lM,lC,lN]);first|done|rfl|(simp only [lD,lT];rfl)) ?_
     with_reducible refine (laws_qdSum.calls kj39 _ _ t312 t345 _ ?side1 ?side2 A50.out).mono ?_
     (case side1=>exact cL (Kd.R_reads' Bi.out).2.2)
     (case side2=>exact (Kd.R_reads' Bi.out).2.1)
     rintro e w' ⟨rfl,⟨nd,rfl⟩⟩
     refine ⟨_,rfl,?_⟩
     refine hK.out _ _ ⟨(bC Bn.out 0).trans rfl,(bC Bn.out 1).trans rfl,(bC Bb.out 0).trans rfl,(bC Bb.out 1).trans rfl,(bC Ba.out 0).trans rfl,(bC Ba.out 1).trans rfl⟩ (fun hHeld=>?_)
     clear hK K
     refine norm_ (by show Act.put _ (some 72) _=_;simp only [Act.put,lA,lZ,lS,iw,jw];rfl) ?_
     refine pS 20 73 z5q21 HT_ rfl rfl (by kernel_rfl) (by rfl) (by intro w';go_simp;with_reducible rfl) (by simp only [Act.put,lA,lZ,lS,iw,jw];rfl) ?_
     refine pS 21 74 z5q22 HT_ rfl rfl (by kernel_rfl) (by rfl) (by intro w';go_simp;with_reducible rfl) (by simp only [Act.put,lA,lZ,lS,iw,jw];rfl) ?_
     refine pS 22 75 z5q23 HT_ rfl rfl (by kernel_rfl) (by rfl) (by intro w';go_simp;with_reducible rfl) (by simp only [Act.put,lA,lZ,lS,iw,jw];rfl) ?_
     refine pS 23 2 z5q24 HT_ rfl rfl (by kernel_rfl) (by rfl) (by intro w';go_simp;with_reducible rfl) (by simp only [Act.put,lA,lZ,lS,iw,jw];rfl) ?_
     refine done_ (done_of HT_.out (by kernel_rfl)) ?_
     try go_wp2
     go_ret
     exact ⟨by first|rfl|(simp [errW_none,errW_some] <;> rfl)|(simp [*,errW_none,errW_some] <;> rfl),by repeat (first|(with_reducible first|exact HB.out|apply oA|apply pN|apply o1|refine bS ?_ Bq.out|refine bS ?_ Bt.out|refine bS ?_ Bw.out|refine bS ?_ De.out)|exact HB.out)⟩
/-- THE ONE PURE STATEMENT of laws_FnPagesKeep: yours. -/
def laws_FnPagesKeep.Pure:Prop:=∀ (l0:List Int),l0.length≤maxLen → l0.length * 1≤140737488351232 → (∀ x ∈ l0,(Lit.int .u8 x).wf=true) → ∃ k,laws_FnPagesKeep.f k l0=some true
theorem laws_FnPagesKeep.walk (P:laws_FnPagesKeep.Pure) (a0:Option Addr) (len0 cap0:Nat) (z0:List Int) (w:World) (w0:(a0=none∧len0=0∧cap0=0∧z0=[])∨∃ x,a0=some x∧len0≤cap0∧cap0≤maxLen∧z0.length=cap0∧(∀ i,i<z0.length → w.cell? (x.add i)=some (.int .u8 (z0.getD i 0)))∧∀ n ∈ z0,(Lit.int .u8 n).wf=true) (y0:len0 * 1≤140737488351232) :
  Calls Try.prog 5 #[.slice a0 len0 cap0] w fun e w'=>e=.returned (.bool true)∧Below w.heap.size w w':=by
 obtain ⟨l0,rfl,hr0,hm0,hw0,hc0⟩:=ReadsInt.ofRowC w0
 obtain ⟨k,h⟩:=P l0 hm0 y0 hw0
 refine (laws_FnPagesKeep.calls k _ _ l0 true w (Kd.C_of_reads (d:=(0:Int)) (h1:=fun _=>rfl) hr0) hc0 h ⟨rfl⟩).mono ?_
 rintro e w' ⟨rfl,hd⟩
 exact ⟨rfl,hd⟩

end Go.Proofs.Ytpdfkbggaihfpaa.PFnPagesKeep
