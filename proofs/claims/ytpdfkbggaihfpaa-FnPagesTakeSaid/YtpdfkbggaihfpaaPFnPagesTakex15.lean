/- Proved here, without a condition beyond those that each theorem states: what the Go functions named below do is what the plain functions of the same names say. Written by xprint.py, a program of this session. -/
import Derived.Test.YtpdfkbggaihfpaaPFnPagesTakex0
import Derived.Test.YtpdfkbggaihfpaaPFnPagesTakex2
import Derived.Test.YtpdfkbggaihfpaaPFnPagesTakex4
import Derived.Test.YtpdfkbggaihfpaaPFnPagesTakex5
import Derived.Test.YtpdfkbggaihfpaaPFnPagesTakex6
import Derived.Test.YtpdfkbggaihfpaaPFnPagesTakex11
import Derived.Test.YtpdfkbggaihfpaaPFnPagesTakex14
namespace Go.Proofs.Ytpdfkbggaihfpaa.PFnPagesTake
open Go.RowKit Go.Proofs.YtpdfkbggaihfpaaW.PrintWords Go.Proofs.YtpdfkbggaihfpaaW.PrintLast Go.Proofs.YtpdfkbggaihfpaaW.PrintMore
attribute [local go_sem] max2_int min2_int max_two min_two max_three min_three max_four min_four   -- for this text's walks alone
set_option linter.unusedVariables false
set_option linter.unusedSimpArgs false

attribute [local go_sem ↓] isSome_setCell_
/-! ### laws_FnPagesTake: function 7 -/
mutual
def laws_FnPagesTake.j0 : Nat → ByteArray → Int → Bool → Bool → List ByteArray → List Int → List ByteArray → List Int → Option (Bool)
|0, _, _, _, _, _, _, _, _ => none
|k + 1, x4, x6, x7, x11, x324000, x324001, x333000, x333001 => if x11 = true then (laws_FnPagesTake.j1 k x4 x6 x11 (!x7) x324000 x324001 x333000 x333001) else (laws_FnPagesTake.j1 k x4 x6 x11 true x324000 x324001 x333000 x333001)
def laws_FnPagesTake.j1 : Nat → ByteArray → Int → Bool → Bool → List ByteArray → List Int → List ByteArray → List Int → Option (Bool)
|0, _, _, _, _, _, _, _, _ => none
|k + 1, x4, x6, x11, x56, x324000, x324001, x333000, x333001 => if x56 = true then (some x11) else ((impl_PagesGet.f k x333000 x333001 x6).bind fun bt343 => ((impl_PagesGive.f k x333000 x333001 x6).bind fun bt345 => (if bt343.2 = true then (if bt343.1.toList = x4.toList then (if bt345.2.2 = true then ((laws_qdPages.f k bt345.1 bt345.2.1 x324000 x324001).bind fun t353 => (if t353 = true then ((impl_PagesRoom.f k x333000 x333001).bind fun t354 => ((impl_PagesRoom.f k x324000 x324001).bind fun t355 => (some (t354 == (wrap64 (t355 - 1)))))) else (some false))) else (some false)) else (some false)) else (some false))))
end
def laws_FnPagesTake.f (k : Nat) (l0 : List Int) : Option (Bool) := if (l0.length : Int) > 1048576 then (some true) else ((spec_DrawPagesTake.f k l0).bind fun bt316 => ((impl_PagesTake.f k bt316.1 bt316.2.1 bt316.2.2).bind fun bt324 => ((spec_PagesTake.f k bt316.1 bt316.2.1 bt316.2.2).bind fun bt333 => ((laws_qdPages.f k bt324.1 bt324.2.1 bt333.1 bt333.2.1).bind fun t342 => (if t342 = true then (if bt324.2.2.1 = bt333.2.2.1 then (laws_FnPagesTake.j0 k bt316.2.2 bt324.2.2.1 bt324.2.2.2 (bt324.2.2.2 == bt333.2.2.2) bt316.1 bt316.2.1 bt324.1 bt324.2.1) else (laws_FnPagesTake.j0 k bt316.2.2 bt324.2.2.1 bt324.2.2.2 false bt316.1 bt316.2.1 bt324.1 bt324.2.1)) else (laws_FnPagesTake.j0 k bt316.2.2 bt324.2.2.1 bt324.2.2.2 false bt316.1 bt316.2.1 bt324.1 bt324.2.1))))))
theorem laws_FnPagesTake.mono_l : ∀ k, (∀ y0 y1 y2 y3 y4 y5 y6 y7, LeO (laws_FnPagesTake.j0 k y0 y1 y2 y3 y4 y5 y6 y7) (laws_FnPagesTake.j0 (k + 1) y0 y1 y2 y3 y4 y5 y6 y7)) ∧ (∀ y0 y1 y2 y3 y4 y5 y6 y7, LeO (laws_FnPagesTake.j1 k y0 y1 y2 y3 y4 y5 y6 y7) (laws_FnPagesTake.j1 (k + 1) y0 y1 y2 y3 y4 y5 y6 y7))
|0 => ⟨fun _ _ _ _ _ _ _ _ r h => by simp [laws_FnPagesTake.j0] at h, fun _ _ _ _ _ _ _ _ r h => by simp [laws_FnPagesTake.j1] at h⟩
|k + 1 => by
  obtain ⟨ih0, ih1⟩ := laws_FnPagesTake.mono_l k
  refine ⟨?_, ?_⟩
  ·intro y0 y1 y2 y3 y4 y5 y6 y7
   unfold laws_FnPagesTake.j0
   repeat' first
  |(with_reducible exact ih0 _ _ _ _ _ _ _ _)
  |(with_reducible exact ih1 _ _ _ _ _ _ _ _)
  |(with_reducible exact impl_PagesGet.mono _ _ _ _)
  |(with_reducible exact impl_PagesGive.mono _ _ _ _)
  |(with_reducible exact impl_PagesRoom.mono _ _ _)
  |(with_reducible exact impl_PagesTake.mono _ _ _ _)
  |(with_reducible exact laws_qdPages.mono _ _ _ _ _)
  |(with_reducible exact spec_DrawPagesTake.mono _ _)
  |(with_reducible exact spec_PagesTake.mono _ _ _ _)
  |(with_reducible exact LeO.refl _)
  |(with_reducible exact LeO.none _)
  |(with_reducible refine LeO.ite ?_ ?_)
  |(with_reducible refine LeO.bind ?_ (fun _ => ?_))
  |exact ih0 _ _ _ _ _ _ _ _
  |exact ih1 _ _ _ _ _ _ _ _
  |exact impl_PagesGet.mono _ _ _ _
  |exact impl_PagesGive.mono _ _ _ _
  |exact impl_PagesRoom.mono _ _ _
  |exact impl_PagesTake.mono _ _ _ _
  |exact laws_qdPages.mono _ _ _ _ _
  |exact spec_DrawPagesTake.mono _ _
  |exact spec_PagesTake.mono _ _ _ _
  |exact LeO.none _
  |refine LeO.ite ?_ ?_
  |refine LeO.bind ?_ (fun _ => ?_)
  ·intro y0 y1 y2 y3 y4 y5 y6 y7
   unfold laws_FnPagesTake.j1
   repeat' first
  |(with_reducible exact ih0 _ _ _ _ _ _ _ _)
  |(with_reducible exact ih1 _ _ _ _ _ _ _ _)
  |(with_reducible exact impl_PagesGet.mono _ _ _ _)
  |(with_reducible exact impl_PagesGive.mono _ _ _ _)
  |(with_reducible exact impl_PagesRoom.mono _ _ _)
  |(with_reducible exact impl_PagesTake.mono _ _ _ _)
  |(with_reducible exact laws_qdPages.mono _ _ _ _ _)
  |(with_reducible exact spec_DrawPagesTake.mono _ _)
  |(with_reducible exact spec_PagesTake.mono _ _ _ _)
  |(with_reducible exact LeO.refl _)
  |(with_reducible exact LeO.none _)
  |(with_reducible refine LeO.ite ?_ ?_)
  |(with_reducible refine LeO.bind ?_ (fun _ => ?_))
  |exact ih0 _ _ _ _ _ _ _ _
  |exact ih1 _ _ _ _ _ _ _ _
  |exact impl_PagesGet.mono _ _ _ _
  |exact impl_PagesGive.mono _ _ _ _
  |exact impl_PagesRoom.mono _ _ _
  |exact impl_PagesTake.mono _ _ _ _
  |exact laws_qdPages.mono _ _ _ _ _
  |exact spec_DrawPagesTake.mono _ _
  |exact spec_PagesTake.mono _ _ _ _
  |exact LeO.none _
  |refine LeO.ite ?_ ?_
  |refine LeO.bind ?_ (fun _ => ?_)
theorem laws_FnPagesTake.mono : ∀ a0 k, LeO (laws_FnPagesTake.f k a0) (laws_FnPagesTake.f (k + 1) a0) := by
 intro a0 k
 obtain ⟨ih0, ih1⟩ := laws_FnPagesTake.mono_l k
 unfold laws_FnPagesTake.f
 repeat' first
  |(with_reducible exact ih0 _ _ _ _ _ _ _ _)
  |(with_reducible exact ih1 _ _ _ _ _ _ _ _)
  |(with_reducible exact impl_PagesGet.mono _ _ _ _)
  |(with_reducible exact impl_PagesGive.mono _ _ _ _)
  |(with_reducible exact impl_PagesRoom.mono _ _ _)
  |(with_reducible exact impl_PagesTake.mono _ _ _ _)
  |(with_reducible exact laws_qdPages.mono _ _ _ _ _)
  |(with_reducible exact spec_DrawPagesTake.mono _ _)
  |(with_reducible exact spec_PagesTake.mono _ _ _ _)
  |(with_reducible exact LeO.refl _)
  |(with_reducible exact LeO.none _)
  |(with_reducible refine LeO.ite ?_ ?_)
  |(with_reducible refine LeO.bind ?_ (fun _ => ?_))
  |exact ih0 _ _ _ _ _ _ _ _
  |exact ih1 _ _ _ _ _ _ _ _
  |exact impl_PagesGet.mono _ _ _ _
  |exact impl_PagesGive.mono _ _ _ _
  |exact impl_PagesRoom.mono _ _ _
  |exact impl_PagesTake.mono _ _ _ _
  |exact laws_qdPages.mono _ _ _ _ _
  |exact spec_DrawPagesTake.mono _ _
  |exact spec_PagesTake.mono _ _ _ _
  |exact LeO.none _
  |refine LeO.ite ?_ ?_
  |refine LeO.bind ?_ (fun _ => ?_)
def laws_FnPagesTake.T11 : Bool × List (List Nat × List Nat) := (true, [([], []), ([0], [0]), ([1], [1]), ([1], [1]), ([2, 3, 1], [1, 2, 3]), ([1, 4], [1, 4]), ([5, 1], [5]), ([6], [6]), ([6, 7], [6, 7]), ([8, 6], [8]), ([9], [9]), ([9], [9]), ([10, 11, 9, 9], [9, 10, 11]), ([9, 12], [9, 12]), ([13, 12], [13]), ([14], [14]), ([15, 14, 14], [14, 15]), ([14], [14]), ([17, 16, 14], [14, 17]), ([18, 14], [14, 18]), ([16, 19, 14], [14, 16, 19]), ([14, 20], [14, 20]), ([21, 18, 0, 1, 2, 3, 4, 5, 6, 7, 8, 9, 10, 11, 12, 13, 14, 15, 16, 17, 18, 19, 20, 21], [21])])
def laws_FnPagesTake.B11 : List Nat := [0, 1, 3, 3, 15, 31, 63, 127, 255, 511, 1023, 1023, 4095, 8191, 16383, 32767, 65535, 32767, 262143, 524287, 1048575, 2097151, 4194303]
theorem laws_FnPagesTake.tab11 : rtab .any (opsOf Try.f7 11) = laws_FnPagesTake.T11 := by kernel_rfl
theorem laws_FnPagesTake.bits11 : waitsOk laws_FnPagesTake.T11.2 laws_FnPagesTake.B11 = true := by kernel_rfl
abbrev z7q0 : Array Bool := bQ 23 0
abbrev z7q1 : Array Bool := bQ 23 1
abbrev z7q2 : Array Bool := bQ 23 3
abbrev z7q3 : Array Bool := bQ 23 7
abbrev z7q4 : Array Bool := bQ 23 15
abbrev z7q5 : Array Bool := bQ 23 31
abbrev z7q6 : Array Bool := bQ 23 63
abbrev z7q7 : Array Bool := bQ 23 127
abbrev z7q8 : Array Bool := bQ 23 255
abbrev z7q9 : Array Bool := bQ 23 511
abbrev z7q10 : Array Bool := bQ 23 1023
abbrev z7q11 : Array Bool := bQ 23 2047
abbrev z7q12 : Array Bool := bQ 23 4095
abbrev z7q13 : Array Bool := bQ 23 8191
abbrev z7q14 : Array Bool := bQ 23 16383
abbrev z7q15 : Array Bool := bQ 23 32767
abbrev z7q16 : Array Bool := bQ 23 65535
abbrev z7q17 : Array Bool := bQ 23 196607
abbrev z7q18 : Array Bool := bQ 23 262143
abbrev z7q19 : Array Bool := bQ 23 524287
abbrev z7q20 : Array Bool := bQ 23 1048575
abbrev z7q21 : Array Bool := bQ 23 2097151
abbrev z7q22 : Array Bool := bQ 23 4194303
abbrev z7q23 : Array Bool := bQ 23 8388607
set_option maxHeartbeats 2000000 in
set_option maxRecDepth 100000 in
theorem laws_FnPagesTake.calls (k:Nat) (A0:Option Addr) (c0:Nat) (l0:List Int) (r:Bool) (w:World) (hr0:Kd.C (Kd.int .u8) w A0 l0.length l0) (hc0:l0.length≤c0) (h:laws_FnPagesTake.f k l0=some r) (hT_:Aside0 (r=true)) :
  Calls Try.prog 7 #[.slice A0 l0.length c0] w fun e w'=>e=.returned (.bool r)∧Below w.heap.size w w':=by
 have hu26:=Try.underlying26
 have HR0:=Am hr0
 have HC0:=Am hc0
 clear hr0 hc0
 have HB:=Am (bJ w.heap.size w)
 have H:(if (l0.length:Int) > 1048576 then (some true) else ((spec_DrawPagesTake.f k l0).bind fun bt316=>((impl_PagesTake.f k bt316.1 bt316.2.1 bt316.2.2).bind fun bt324=>((spec_PagesTake.f k bt316.1 bt316.2.1 bt316.2.2).bind fun bt333=>((laws_qdPages.f k bt324.1 bt324.2.1 bt333.1 bt333.2.1).bind fun t342=>(if t342=true then (if bt324.2.2.1=bt333.2.2.1 then (laws_FnPagesTake.j0 k bt316.2.2 bt324.2.2.1 bt324.2.2.2 (bt324.2.2.2 == bt333.2.2.2) bt316.1 bt316.2.1 bt324.1 bt324.2.1) else (laws_FnPagesTake.j0 k bt316.2.2 bt324.2.2.1 bt324.2.2.2 false bt316.1 bt316.2.1 bt324.1 bt324.2.1)) else (laws_FnPagesTake.j0 k bt316.2.2 bt324.2.2.1 bt324.2.2.2 false bt316.1 bt316.2.1 bt324.1 bt324.2.1)))))))=some r:=h
 clear h
 by_cases c2:(l0.length:Int) > 1048576
 ·rw [if_pos c2] at H
  have c2b0:decide (1048576<(l0.length:Int))=true:=dT c2
  have c2b1:decide (1048576<l0.length)=true:=dT (by omega)
  clear c2
  obtain rfl:=oJ H
  go_enter Try.func7,Try.ntmps7
  go_wp2
  go_ret
  exact ⟨by first|rfl|(simp [errW_none,errW_some] <;> rfl)|(simp [*,errW_none,errW_some] <;> rfl),by repeat (first|(with_reducible first|exact HB.out|apply oA|apply pN|apply o1)|exact HB.out)⟩
 rw [if_neg c2] at H
 have c2b0:decide (1048576<(l0.length:Int))=false:=dF c2
 have c2b1:decide (1048576<l0.length)=false:=dF (by omega)
 clear c2
 replace H:=oC H
 obtain ⟨⟨t316,t319,t322⟩,A30,H⟩:=H
 replace H:((impl_PagesTake.f k t316 t319 t322).bind fun bt324=>((spec_PagesTake.f k t316 t319 t322).bind fun bt333=>((laws_qdPages.f k bt324.1 bt324.2.1 bt333.1 bt333.2.1).bind fun t342=>(if t342=true then (if bt324.2.2.1=bt333.2.2.1 then (laws_FnPagesTake.j0 k t322 bt324.2.2.1 bt324.2.2.2 (bt324.2.2.2 == bt333.2.2.2) t316 t319 bt324.1 bt324.2.1) else (laws_FnPagesTake.j0 k t322 bt324.2.2.1 bt324.2.2.2 false t316 t319 bt324.1 bt324.2.1)) else (laws_FnPagesTake.j0 k t322 bt324.2.2.1 bt324.2.2.2 false t316 t319 bt324.1 bt324.2.1)))))=some r:=H
 have A3:=Am A30
 clear A30
 replace H:=oC H
 obtain ⟨⟨t324,t327,t330,t331⟩,A40,H⟩:=H
 replace H:((spec_PagesTake.f k t316 t319 t322).bind fun bt333=>((laws_qdPages.f k t324 t327 bt333.1 bt333.2.1).bind fun t342=>(if t342=true then (if t330=bt333.2.2.1 then (laws_FnPagesTake.j0 k t322 t330 t331 (t331 == bt333.2.2.2) t316 t319 t324 t327) else (laws_FnPagesTake.j0 k t322 t330 t331 false t316 t319 t324 t327)) else (laws_FnPagesTake.j0 k t322 t330 t331 false t316 t319 t324 t327))))=some r:=H
 have A4:=Am A40
 clear A40
 replace H:=oC H
 obtain ⟨⟨t333,t336,t339,t340⟩,A50,H⟩:=H
 replace H:((laws_qdPages.f k t324 t327 t333 t336).bind fun t342=>(if t342=true then (if t330=t339 then (laws_FnPagesTake.j0 k t322 t330 t331 (t331 == t340) t316 t319 t324 t327) else (laws_FnPagesTake.j0 k t322 t330 t331 false t316 t319 t324 t327)) else (laws_FnPagesTake.j0 k t322 t330 t331 false t316 t319 t324 t327)))=some r:=H
 have A5:=Am A50
 clear A50
 have HC6:=Am H
 clear H
 go_enter Try.func7,Try.ntmps7
 go_upto_region 6 with (first|((with_reducible refine gC (f:=30) rfl ?_);refine goesL_ (some 21) rfl rfl Try.func30 (by kernel_rfl) rfl #[.slice A0 l0.length c0] rfl (by (try simp only [lM,lC,lN]);first|done|rfl|(simp only [lD,lT];rfl)) ?_;(with_reducible refine (spec_DrawPagesTake.calls k _ _ l0 t316 t319 t322 _ ?side1 ?side2 A3.out).mono ?_);(case side1=>exact cL HR0.out);(case side2=>exact HC0.out);rintro e w7 ⟨v317,v320,rfl,ho0,ho1,hb⟩;refine ⟨_,rfl,?_⟩;have n0_:=Am (rW ho0 (bZ (by repeat (first|(with_reducible first|exact HB.out|apply oA|apply pN|apply o1)|exact HB.out))));have n1_:=Am (rW ho1 (bZ (by repeat (first|(with_reducible first|exact HB.out|apply oA|apply pN|apply o1)|exact HB.out))));have n2_:=Am (bP (by repeat (first|(with_reducible first|exact HB.out|apply oA|apply pN|apply o1)|exact HB.out)) hb);clear HB;revert n0_ n1_ n2_;intro Bo Bp HB;(try clear hb);(try clear hb2);(try clear hk);(try clear hi);(try clear ho0);(try clear ho1))|((with_reducible refine gD (N:=3) rfl ?_);refine bI ?hg (N:=3) ?hd (cs:=#[.slice none 0 0,.slice none 0 0]) (t:=26) ?hr ?_;(case hd=>rfl);(case hg=>rfl);(case hr=>first|(go_simp;done)|(go_simp;rfl));intro Bm hg w8 hbox hb;have n0_:=Am (rB (rL Bo.out) hb);have n1_:=Am (rB (rL Bp.out) hb);have n2_:=Am (bP (by repeat (first|(with_reducible first|exact HB.out|apply oA|apply pN|apply o1)|exact HB.out)) hb);have n3_:=Am (hbox);have n4_:=Am ((by rw [hg];exact (bZ (by repeat (first|(with_reducible first|exact HB.out|apply oA|apply pN|apply o1)|exact HB.out))):w.heap.size≤Bm));have n5_:=Am ((by rw [hg];exact (bZ (by repeat (first|(with_reducible first|exact HB.out|apply oA|apply pN|apply o1)|exact HB.out))):w.heap.size≤Bm));clear Bo Bp HB;revert n0_ n1_ n2_ n3_ n4_ n5_;intro Bo Bp HB Bd DD Bq;clear hb hbox hg;obtain ⟨Ao9,co9,eo9⟩:=rC Bo.out;subst eo9;have BJ:=cz0 Bd.out;have BK:=cz1 Bd.out;have BL:=bF Bd.out 0;have BM:=bF Bd.out 1;obtain ⟨Ao11,co11,eo11⟩:=rC Bp.out;subst eo11)|((with_reducible refine gC (f:=15) rfl ?_);refine goesL_ (some 27) rfl rfl Try.func15 (by kernel_rfl) rfl #[.agg #[.slice Ao9 t316.length co9,.slice Ao11 t319.length co11],.string t322] rfl (by (try simp only [lM,lC,lN]);first|done|rfl|(simp only [lD,lT];rfl)) ?_;(with_reducible refine (impl_PagesTake.calls k _ _ t316 _ _ t319 t322 t324 t327 t330 t331 _ ?side1 ?side2 ?side3 ?side4 A4.out).mono ?_);(case side1=>refine (rR (e:=9) (base:=w.heap.size) (ok:=fun k_=>True) (n:=t316.length) (c:=co9) ?_).2.2;exact (by (with_reducible repeat (first|apply rA|apply rN|apply rD));exact (rM (rF (p:=⟨Bm,1,none⟩) (rF (p:=⟨Bm,0,none⟩) (rT Bo.out Bd.out (by decide)) (fun _ hk=>hk.2) (.slice Ao9 t316.length co9)) (fun _ hk=>hk.2) (.slice Ao11 t319.length co11)) (fun _ h_=>h_.1))));(case side2=>exact (rR Bo.out).2.1);(case side3=>refine (rR (e:=3) (base:=w.heap.size) (ok:=fun k_=>True) (n:=t319.length) (c:=co11) ?_).2.2;exact (by (with_reducible repeat (first|apply rA|apply rN|apply rD));exact (rM (rF (p:=⟨Bm,1,none⟩) (rF (p:=⟨Bm,0,none⟩) (rT Bp.out Bd.out (by decide)) (fun _ hk=>hk.2) (.slice Ao9 t316.length co9)) (fun _ hk=>hk.2) (.slice Ao11 t319.length co11)) (fun _ h_=>h_.1))));(case side4=>exact (rR Bp.out).2.1);rintro e w12 ⟨v325,v328,rfl,ho0,ho1,hb⟩;refine ⟨_,rfl,?_⟩;have n0_:=Am (rX (by (with_reducible repeat (first|apply rA|apply rN|apply rD));exact (rM (rF (p:=⟨Bm,1,none⟩) (rF (p:=⟨Bm,0,none⟩) (rT Bo.out Bd.out (by decide)) (fun _ hk=>hk.2) (.slice Ao9 t316.length co9)) (fun _ hk=>hk.2) (.slice Ao11 t319.length co11)) (fun _ h_=>h_.1))) (rZ ho0) hb);have n1_:=Am (rX (by (with_reducible repeat (first|apply rA|apply rN|apply rD));exact (rM (rF (p:=⟨Bm,1,none⟩) (rF (p:=⟨Bm,0,none⟩) (rT Bp.out Bd.out (by decide)) (fun _ hk=>hk.2) (.slice Ao9 t316.length co9)) (fun _ hk=>hk.2) (.slice Ao11 t319.length co11)) (fun _ h_=>h_.1))) (rZ ho1) hb);have n2_:=Am (rW (rQ ho0 (rI (by (with_reducible repeat (first|apply rA|apply rN|apply rD));exact (rM (rF (p:=⟨Bm,1,none⟩) (rF (p:=⟨Bm,0,none⟩) (rT Bo.out Bd.out (by decide)) (fun _ hk=>hk.2) (.slice Ao9 t316.length co9)) (fun _ hk=>hk.2) (.slice Ao11 t319.length co11)) (fun _ h_=>h_.1))))) (bZ (by repeat (first|(with_reducible first|exact HB.out|apply oA|apply pN|apply o1|refine bS ?_ Bq.out)|exact HB.out))));have n3_:=Am (rW (rQ ho1 (rI (by (with_reducible repeat (first|apply rA|apply rN|apply rD));exact (rM (rF (p:=⟨Bm,1,none⟩) (rF (p:=⟨Bm,0,none⟩) (rT Bp.out Bd.out (by decide)) (fun _ hk=>hk.2) (.slice Ao9 t316.length co9)) (fun _ hk=>hk.2) (.slice Ao11 t319.length co11)) (fun _ h_=>h_.1))))) (bZ (by repeat (first|(with_reducible first|exact HB.out|apply oA|apply pN|apply o1|refine bS ?_ Bq.out)|exact HB.out))));have n4_:=Am (bB (g:=Bm) (o:=.cells #[.slice Ao9 t316.length co9,.slice Ao11 t319.length co11] 26 (0,0)) (by (with_reducible repeat (first|refine bN ?_ _|refine bD ?_|refine bA ?_ _));refine bT (cs:=#[.slice Ao9 t316.length co9,.slice none 0 0]) ?_ 1 _ rfl;(with_reducible repeat (first|refine bN ?_ _|refine bD ?_|refine bA ?_ _));refine bT (cs:=#[.slice none 0 0,.slice none 0 0]) ?_ 0 _ rfl;(with_reducible repeat (first|refine bN ?_ _|refine bD ?_|refine bA ?_ _));exact Bd.out) hb);have n5_:=Am (bP (by repeat (first|(with_reducible first|exact HB.out|apply oA|apply pN|apply o1|refine bS ?_ Bq.out)|exact HB.out)) hb);clear Bo Bp Bd HB;revert n0_ n1_ n2_ n3_ n4_ n5_;intro Bo Bp Br Bs Bd HB;(try clear hb);(try clear hb2);(try clear hk);(try clear hi);(try clear ho0);(try clear ho1))|((with_reducible refine gD (N:=5) rfl ?_);refine bI ?hg (N:=5) ?hd (cs:=#[.slice none 0 0,.slice none 0 0]) (t:=26) ?hr ?_;(case hd=>rfl);(case hg=>rfl);(case hr=>first|(go_simp;done)|(go_simp;rfl));intro Bi hg w13 hbox hb;have n0_:=Am (rB (rL Bo.out) hb);have n1_:=Am (rB (rL Bp.out) hb);have n2_:=Am (rB (rL Br.out) hb);have n3_:=Am (rB (rL Bs.out) hb);have n4_:=Am (bX Bd.out hb);have n5_:=Am (bP (by repeat (first|(with_reducible first|exact HB.out|apply oA|apply pN|apply o1|refine bS ?_ Bq.out)|exact HB.out)) hb);have n6_:=Am (hbox);have n7_:=Am ((by rw [hg];exact (bZ (by repeat (first|(with_reducible first|exact HB.out|apply oA|apply pN|apply o1|refine bS ?_ Bq.out)|exact HB.out))):w.heap.size≤Bi));have n8_:=Am ((by rw [hg];exact (bZ (by repeat (first|(with_reducible first|exact HB.out|apply oA|apply pN|apply o1|refine bS ?_ Bq.out)|exact HB.out))):w.heap.size≤Bi));have n9_:=Am ((nL Bd.out hg));have n10_:=Am ((nG Bd.out hg));clear Bo Bp Br Bs Bd HB;revert n0_ n1_ n2_ n3_ n4_ n5_ n6_ n7_ n8_ n9_ n10_;intro Bo Bp Br Bs Bd HB Ba DE Bt BB BC;clear hb hbox hg;obtain ⟨Ao14,co14,eo14⟩:=rC Br.out;subst eo14;have DF:=BC.out;have DG:=BB.out;have BN:=cz0 Ba.out;have BO:=cz1 Ba.out;have BP:=bF Ba.out 0;have BQ:=bF Ba.out 1;obtain ⟨Ao17,co17,eo17⟩:=rC Bs.out;subst eo17;have BR:=cz0 Bd.out;have BS:=cz1 Bd.out;have BT:=bF Bd.out 0;have BU:=bF Bd.out 1)|((with_reducible refine gC (f:=31) rfl ?_);refine goesL_ (some 34) rfl rfl Try.func31 (by kernel_rfl) rfl #[.agg #[.slice Ao9 t316.length co9,.slice Ao11 t319.length co11],.string t322] rfl (by (try simp only [lM,lC,lN]);first|done|rfl|(simp only [lD,lT];rfl)) ?_;(with_reducible refine (spec_PagesTake.calls k _ _ t316 _ _ t319 t322 t333 t336 t339 t340 _ ?side1 ?side2 ?side3 ?side4 A5.out).mono ?_);(case side1=>refine (rR (e:=9) (base:=w.heap.size) (ok:=fun k_=>(True∧some k_≠(.slice Ao14 t324.length co14:Value).ownBlock)) (n:=t316.length) (c:=co9) ?_).2.2;exact (by (with_reducible repeat (first|apply rA|apply rN|apply rD));exact (rM (rF (p:=⟨Bi,1,none⟩) (rF (p:=⟨Bi,0,none⟩) (rT Bo.out Ba.out (by decide)) (fun _ hk=>hk.2) (.slice Ao14 t324.length co14)) (fun _ hk=>hk.2) (.slice Ao17 t327.length co17)) (fun _ h_=>h_.1))));(case side2=>exact (rR Bo.out).2.1);(case side3=>refine (rR (e:=3) (base:=w.heap.size) (ok:=fun k_=>(True∧some k_≠(.slice Ao17 t327.length co17:Value).ownBlock)) (n:=t319.length) (c:=co11) ?_).2.2;exact (by (with_reducible repeat (first|apply rA|apply rN|apply rD));exact (rM (rF (p:=⟨Bi,1,none⟩) (rF (p:=⟨Bi,0,none⟩) (rT Bp.out Ba.out (by decide)) (fun _ hk=>hk.2) (.slice Ao14 t324.length co14)) (fun _ hk=>hk.2) (.slice Ao17 t327.length co17)) (fun _ h_=>h_.1))));(case side4=>exact (rR Bp.out).2.1);rintro e w19 ⟨v334,v337,rfl,ho0,ho1,hb⟩;refine ⟨_,rfl,?_⟩;have n0_:=Am (rX (by (with_reducible repeat (first|apply rA|apply rN|apply rD));exact (rM (rF (p:=⟨Bi,1,none⟩) (rF (p:=⟨Bi,0,none⟩) (rT Bo.out Ba.out (by decide)) (fun _ hk=>hk.2) (.slice Ao14 t324.length co14)) (fun _ hk=>hk.2) (.slice Ao17 t327.length co17)) (fun _ h_=>h_.1))) (rZ ho0) hb);have n1_:=Am (rX (by (with_reducible repeat (first|apply rA|apply rN|apply rD));exact (rM (rF (p:=⟨Bi,1,none⟩) (rF (p:=⟨Bi,0,none⟩) (rT Bp.out Ba.out (by decide)) (fun _ hk=>hk.2) (.slice Ao14 t324.length co14)) (fun _ hk=>hk.2) (.slice Ao17 t327.length co17)) (fun _ h_=>h_.1))) (rZ ho1) hb);have n2_:=Am (rX (by (with_reducible repeat (first|apply rA|apply rN|apply rD));exact (rM (rF (p:=⟨Bi,1,none⟩) (rF (p:=⟨Bi,0,none⟩) (rT Br.out Ba.out (by decide)) (fun _ hk=>hk.2) (.slice Ao14 t324.length co14)) (fun _ hk=>hk.2) (.slice Ao17 t327.length co17)) (fun _ h_=>h_.1))) (rZ ho0) hb);have n3_:=Am (rX (by (with_reducible repeat (first|apply rA|apply rN|apply rD));exact (rM (rF (p:=⟨Bi,1,none⟩) (rF (p:=⟨Bi,0,none⟩) (rT Bs.out Ba.out (by decide)) (fun _ hk=>hk.2) (.slice Ao14 t324.length co14)) (fun _ hk=>hk.2) (.slice Ao17 t327.length co17)) (fun _ h_=>h_.1))) (rZ ho1) hb);have n4_:=Am (rW (rQ (rQ ho0 (rI (by (with_reducible repeat (first|apply rA|apply rN|apply rD));exact (rM (rF (p:=⟨Bi,1,none⟩) (rF (p:=⟨Bi,0,none⟩) (rT Bo.out Ba.out (by decide)) (fun _ hk=>hk.2) (.slice Ao14 t324.length co14)) (fun _ hk=>hk.2) (.slice Ao17 t327.length co17)) (fun _ h_=>h_.1))))) (rI (by (with_reducible repeat (first|apply rA|apply rN|apply rD));exact (rM (rF (p:=⟨Bi,1,none⟩) (rF (p:=⟨Bi,0,none⟩) (rT Br.out Ba.out (by decide)) (fun _ hk=>hk.2) (.slice Ao14 t324.length co14)) (fun _ hk=>hk.2) (.slice Ao17 t327.length co17)) (fun _ h_=>h_.1))))) (bZ (by repeat (first|(with_reducible first|exact HB.out|apply oA|apply pN|apply o1|refine bS ?_ Bq.out|refine bS ?_ Bt.out)|exact HB.out))));have n5_:=Am (rW (rQ (rQ ho1 (rI (by (with_reducible repeat (first|apply rA|apply rN|apply rD));exact (rM (rF (p:=⟨Bi,1,none⟩) (rF (p:=⟨Bi,0,none⟩) (rT Bp.out Ba.out (by decide)) (fun _ hk=>hk.2) (.slice Ao14 t324.length co14)) (fun _ hk=>hk.2) (.slice Ao17 t327.length co17)) (fun _ h_=>h_.1))))) (rI (by (with_reducible repeat (first|apply rA|apply rN|apply rD));exact (rM (rF (p:=⟨Bi,1,none⟩) (rF (p:=⟨Bi,0,none⟩) (rT Bs.out Ba.out (by decide)) (fun _ hk=>hk.2) (.slice Ao14 t324.length co14)) (fun _ hk=>hk.2) (.slice Ao17 t327.length co17)) (fun _ h_=>h_.1))))) (bZ (by repeat (first|(with_reducible first|exact HB.out|apply oA|apply pN|apply o1|refine bS ?_ Bq.out|refine bS ?_ Bt.out)|exact HB.out))));have n6_:=Am (bB (g:=Bm) (o:=.cells #[.slice Ao9 t316.length co9,.slice Ao11 t319.length co11] 26 (0,0)) (by (with_reducible repeat (first|refine bN ?_ _|refine bD ?_|refine bA ?_ _|refine bE ?_ BB.out _));exact Bd.out) hb);have n7_:=Am (bB (g:=Bi) (o:=.cells #[.slice Ao14 t324.length co14,.slice Ao17 t327.length co17] 26 (0,0)) (by (with_reducible repeat (first|refine bN ?_ _|refine bD ?_|refine bA ?_ _));refine bT (cs:=#[.slice Ao14 t324.length co14,.slice none 0 0]) ?_ 1 _ rfl;(with_reducible repeat (first|refine bN ?_ _|refine bD ?_|refine bA ?_ _));refine bT (cs:=#[.slice none 0 0,.slice none 0 0]) ?_ 0 _ rfl;(with_reducible repeat (first|refine bN ?_ _|refine bD ?_|refine bA ?_ _));exact Ba.out) hb);have n8_:=Am (bP (by repeat (first|(with_reducible first|exact HB.out|apply oA|apply pN|apply o1|refine bS ?_ Bq.out|refine bS ?_ Bt.out)|exact HB.out)) hb);clear Bo Bp Br Bs Bd Ba HB;revert n0_ n1_ n2_ n3_ n4_ n5_ n6_ n7_ n8_;intro Bo Bp Br Bs Bu Bv Bd Ba HB;(try clear hb);(try clear hb2);(try clear hk);(try clear hi);(try clear ho0);(try clear ho1))|((with_reducible refine gD (N:=8) rfl ?_);refine bI ?hg (N:=8) ?hd (cs:=#[.slice none 0 0,.slice none 0 0]) (t:=26) ?hr ?_;(case hd=>rfl);(case hg=>rfl);(case hr=>first|(go_simp;done)|(go_simp;rfl));intro Bb hg w20 hbox hb;have n0_:=Am (rB (rL Bo.out) hb);have n1_:=Am (rB (rL Bp.out) hb);have n2_:=Am (rB (rL Br.out) hb);have n3_:=Am (rB (rL Bs.out) hb);have n4_:=Am (rB (rL Bu.out) hb);have n5_:=Am (rB (rL Bv.out) hb);have n6_:=Am (bX Bd.out hb);have n7_:=Am (bX Ba.out hb);have n8_:=Am (bP (by repeat (first|(with_reducible first|exact HB.out|apply oA|apply pN|apply o1|refine bS ?_ Bq.out|refine bS ?_ Bt.out)|exact HB.out)) hb);have n9_:=Am (hbox);have n10_:=Am ((by rw [hg];exact (bZ (by repeat (first|(with_reducible first|exact HB.out|apply oA|apply pN|apply o1|refine bS ?_ Bq.out|refine bS ?_ Bt.out)|exact HB.out))):w.heap.size≤Bb));have n11_:=Am ((by rw [hg];exact (bZ (by repeat (first|(with_reducible first|exact HB.out|apply oA|apply pN|apply o1|refine bS ?_ Bq.out|refine bS ?_ Bt.out)|exact HB.out))):w.heap.size≤Bb));have n12_:=Am ((nL Bd.out hg));have n13_:=Am ((nG Bd.out hg));have n14_:=Am ((nL Ba.out hg));have n15_:=Am ((nG Ba.out hg));clear Bo Bp Br Bs Bu Bv Bd Ba HB;revert n0_ n1_ n2_ n3_ n4_ n5_ n6_ n7_ n8_ n9_ n10_ n11_ n12_ n13_ n14_ n15_;intro Bo Bp Br Bs Bu Bv Bd Ba HB Bc DH By BA BE Bz BD;clear hb hbox hg;obtain ⟨Ao21,co21,eo21⟩:=rC Bu.out;subst eo21;have DI:=BE.out;have DJ:=BA.out;have DK:=BD.out;have DL:=Bz.out;have BV:=cz0 Bc.out;have BW:=cz1 Bc.out;have BX:=bF Bc.out 0;have BY:=bF Bc.out 1;obtain ⟨Ao25,co25,eo25⟩:=rC Bv.out;subst eo25))
 (try simp only [Act.put,lA,lZ,lS])
 go_cut [11] (fun v11 wc=>∃ (kq:Nat) (x11_5:Bool),v11=.bool x11_5∧Aside0 (laws_FnPagesTake.j0 kq t322 t330 t331 x11_5 t316 t319 t324 t327=some r)∧Aside0 (kq≤k)∧Aside0 (Kd.R Kd.string 9 wc w.heap.size (fun k_=>some k_≠((.slice Ao14 t324.length co14):Value).ownBlock∧some k_≠((.slice Ao21 t333.length co21):Value).ownBlock) (.slice Ao9 t316.length co9) t316)∧Aside0 (Kd.R (Kd.int .i64) 3 wc w.heap.size (fun k_=>some k_≠((.slice Ao17 t327.length co17):Value).ownBlock∧some k_≠((.slice Ao25 t336.length co25):Value).ownBlock) (.slice Ao11 t319.length co11) t319)∧Aside0 (Kd.R Kd.string 9 wc w.heap.size (fun k_=>some k_≠((.slice Ao9 t316.length co9):Value).ownBlock∧some k_≠((.slice Ao21 t333.length co21):Value).ownBlock) (.slice Ao14 t324.length co14) t324)∧Aside0 (Kd.R (Kd.int .i64) 3 wc w.heap.size (fun k_=>some k_≠((.slice Ao11 t319.length co11):Value).ownBlock∧some k_≠((.slice Ao25 t336.length co25):Value).ownBlock) (.slice Ao17 t327.length co17) t327)∧Aside0 (Kd.R Kd.string 9 wc w.heap.size (fun k_=>some k_≠((.slice Ao9 t316.length co9):Value).ownBlock∧some k_≠((.slice Ao14 t324.length co14):Value).ownBlock) (.slice Ao21 t333.length co21) t333)∧Aside0 (Kd.R (Kd.int .i64) 3 wc w.heap.size (fun k_=>some k_≠((.slice Ao11 t319.length co11):Value).ownBlock∧some k_≠((.slice Ao17 t327.length co17):Value).ownBlock) (.slice Ao25 t336.length co25) t336)∧Aside0 (wc.heap[Bm]?=some (.cells #[(.slice Ao9 t316.length co9),(.slice Ao11 t319.length co11)] 26 (0,0)))∧Aside0 (wc.heap[Bi]?=some (.cells #[(.slice Ao14 t324.length co14),(.slice Ao17 t327.length co17)] 26 (0,0)))∧Aside0 (wc.heap[Bb]?=some (.cells #[(.slice Ao21 t333.length co21),(.slice Ao25 t336.length co25)] 26 (0,0)))∧Aside0 (Below w.heap.size w wc))
 case first =>
  have H:=HC6.out
  clear HC6
  replace H:=oC H
  obtain ⟨t342,A260,H⟩:=H
  replace H:(if t342=true then (if t330=t339 then (laws_FnPagesTake.j0 k t322 t330 t331 (t331 == t340) t316 t319 t324 t327) else (laws_FnPagesTake.j0 k t322 t330 t331 false t316 t319 t324 t327)) else (laws_FnPagesTake.j0 k t322 t330 t331 false t316 t319 t324 t327))=some r:=H
  have A26:=Am A260
  clear A260
  by_cases c27:t342=true
  rotate_left
  ·replace c27:=Bool.eq_false_iff.mpr c27
   subst c27
   have H1:(laws_FnPagesTake.j0 k t322 t330 t331 false t316 t319 t324 t327)=some r:=by rw [if_neg (show ¬ (false=true) by decide)] at H;exact H
   clear H
   have H:=H1
   clear H1
   have H':=Am H
   clear H
   have DY:=BC.out
   have DZ:=BB.out
   have D0:=Bz.out
   have D1:=BD.out
   have Df:=cz0 Ba.out
   have Dg:=cz1 Ba.out
   have Dh:=bF Ba.out 0
   have Di:=bF Ba.out 1
   have D2:=BE.out
   have D3:=BA.out
   have Dj:=cz0 Bc.out
   have Dk:=cz1 Bc.out
   have Dl:=bF Bc.out 0
   have Dm:=bF Bc.out 1
   go_wp2_with (first|((with_reducible refine gC (f:=19) rfl ?_);refine goesL_ (some 40) rfl rfl Try.func19 (by kernel_rfl) rfl #[.agg #[.slice Ao14 t324.length co14,.slice Ao17 t327.length co17],.agg #[.slice Ao21 t333.length co21,.slice Ao25 t336.length co25]] rfl (by (try simp only [lM,lC,lN]);first|done|rfl|(simp only [lD,lT];rfl)) ?_;(with_reducible refine (laws_qdPages.calls k _ _ t324 _ _ t327 _ _ t333 _ _ t336 false _ ?side1 ?side2 ?side3 ?side4 ?side5 ?side6 ?side7 ?side8 A26.out).mono ?_);(case side1=>refine (rR (e:=9) (base:=w.heap.size) (ok:=fun k_=>((True∧some k_≠(.slice Ao9 t316.length co9:Value).ownBlock)∧some k_≠(.slice Ao21 t333.length co21:Value).ownBlock)) (n:=t324.length) (c:=co14) ?_).2.2;exact (by (with_reducible repeat (first|apply rA|apply rN|apply rD));exact (rM (rF (p:=⟨Bb,1,none⟩) (rF (p:=⟨Bb,0,none⟩) (rT Br.out Bc.out (by decide)) (fun _ hk=>hk.2) (.slice Ao21 t333.length co21)) (fun _ hk=>hk.2) (.slice Ao25 t336.length co25)) (fun _ h_=>h_.1))));(case side2=>exact (rR Br.out).2.1);(case side3=>refine (rR (e:=3) (base:=w.heap.size) (ok:=fun k_=>((True∧some k_≠(.slice Ao11 t319.length co11:Value).ownBlock)∧some k_≠(.slice Ao25 t336.length co25:Value).ownBlock)) (n:=t327.length) (c:=co17) ?_).2.2;exact (by (with_reducible repeat (first|apply rA|apply rN|apply rD));exact (rM (rF (p:=⟨Bb,1,none⟩) (rF (p:=⟨Bb,0,none⟩) (rT Bs.out Bc.out (by decide)) (fun _ hk=>hk.2) (.slice Ao21 t333.length co21)) (fun _ hk=>hk.2) (.slice Ao25 t336.length co25)) (fun _ h_=>h_.1))));(case side4=>exact (rR Bs.out).2.1);(case side5=>refine (rR (e:=9) (base:=w.heap.size) (ok:=fun k_=>((True∧some k_≠(.slice Ao9 t316.length co9:Value).ownBlock)∧some k_≠(.slice Ao14 t324.length co14:Value).ownBlock)) (n:=t333.length) (c:=co21) ?_).2.2;exact (by (with_reducible repeat (first|apply rA|apply rN|apply rD));exact (rM (rF (p:=⟨Bb,1,none⟩) (rF (p:=⟨Bb,0,none⟩) (rT Bu.out Bc.out (by decide)) (fun _ hk=>hk.2) (.slice Ao21 t333.length co21)) (fun _ hk=>hk.2) (.slice Ao25 t336.length co25)) (fun _ h_=>h_.1))));(case side6=>exact (rR Bu.out).2.1);(case side7=>refine (rR (e:=3) (base:=w.heap.size) (ok:=fun k_=>((True∧some k_≠(.slice Ao11 t319.length co11:Value).ownBlock)∧some k_≠(.slice Ao17 t327.length co17:Value).ownBlock)) (n:=t336.length) (c:=co25) ?_).2.2;exact (by (with_reducible repeat (first|apply rA|apply rN|apply rD));exact (rM (rF (p:=⟨Bb,1,none⟩) (rF (p:=⟨Bb,0,none⟩) (rT Bv.out Bc.out (by decide)) (fun _ hk=>hk.2) (.slice Ao21 t333.length co21)) (fun _ hk=>hk.2) (.slice Ao25 t336.length co25)) (fun _ h_=>h_.1))));(case side8=>exact (rR Bv.out).2.1);rintro e w46 ⟨rfl,hb⟩;refine ⟨_,rfl,?_⟩;have n0_:=Am (rB (by (with_reducible repeat (first|apply rA|apply rN|apply rD));exact (rM (rF (p:=⟨Bb,1,none⟩) (rF (p:=⟨Bb,0,none⟩) (rT Bo.out Bc.out (by decide)) (fun _ hk=>hk.2) (.slice Ao21 t333.length co21)) (fun _ hk=>hk.2) (.slice Ao25 t336.length co25)) (fun _ h_=>h_.1))) hb);have n1_:=Am (rB (by (with_reducible repeat (first|apply rA|apply rN|apply rD));exact (rM (rF (p:=⟨Bb,1,none⟩) (rF (p:=⟨Bb,0,none⟩) (rT Bp.out Bc.out (by decide)) (fun _ hk=>hk.2) (.slice Ao21 t333.length co21)) (fun _ hk=>hk.2) (.slice Ao25 t336.length co25)) (fun _ h_=>h_.1))) hb);have n2_:=Am (rB (by (with_reducible repeat (first|apply rA|apply rN|apply rD));exact (rM (rF (p:=⟨Bb,1,none⟩) (rF (p:=⟨Bb,0,none⟩) (rT Br.out Bc.out (by decide)) (fun _ hk=>hk.2) (.slice Ao21 t333.length co21)) (fun _ hk=>hk.2) (.slice Ao25 t336.length co25)) (fun _ h_=>h_.1))) hb);have n3_:=Am (rB (by (with_reducible repeat (first|apply rA|apply rN|apply rD));exact (rM (rF (p:=⟨Bb,1,none⟩) (rF (p:=⟨Bb,0,none⟩) (rT Bs.out Bc.out (by decide)) (fun _ hk=>hk.2) (.slice Ao21 t333.length co21)) (fun _ hk=>hk.2) (.slice Ao25 t336.length co25)) (fun _ h_=>h_.1))) hb);have n4_:=Am (rB (by (with_reducible repeat (first|apply rA|apply rN|apply rD));exact (rM (rF (p:=⟨Bb,1,none⟩) (rF (p:=⟨Bb,0,none⟩) (rT Bu.out Bc.out (by decide)) (fun _ hk=>hk.2) (.slice Ao21 t333.length co21)) (fun _ hk=>hk.2) (.slice Ao25 t336.length co25)) (fun _ h_=>h_.1))) hb);have n5_:=Am (rB (by (with_reducible repeat (first|apply rA|apply rN|apply rD));exact (rM (rF (p:=⟨Bb,1,none⟩) (rF (p:=⟨Bb,0,none⟩) (rT Bv.out Bc.out (by decide)) (fun _ hk=>hk.2) (.slice Ao21 t333.length co21)) (fun _ hk=>hk.2) (.slice Ao25 t336.length co25)) (fun _ h_=>h_.1))) hb);have n6_:=Am (bB (g:=Bm) (o:=.cells #[.slice Ao9 t316.length co9,.slice Ao11 t319.length co11] 26 (0,0)) (by (with_reducible repeat (first|refine bN ?_ _|refine bD ?_|refine bA ?_ _|refine bE ?_ BA.out _));exact Bd.out) hb);have n7_:=Am (bB (g:=Bi) (o:=.cells #[.slice Ao14 t324.length co14,.slice Ao17 t327.length co17] 26 (0,0)) (by (with_reducible repeat (first|refine bN ?_ _|refine bD ?_|refine bA ?_ _|refine bE ?_ Bz.out _));exact Ba.out) hb);have n8_:=Am (bB (g:=Bb) (o:=.cells #[.slice Ao21 t333.length co21,.slice Ao25 t336.length co25] 26 (0,0)) (by (with_reducible repeat (first|refine bN ?_ _|refine bD ?_|refine bA ?_ _));refine bT (cs:=#[.slice Ao21 t333.length co21,.slice none 0 0]) ?_ 1 _ rfl;(with_reducible repeat (first|refine bN ?_ _|refine bD ?_|refine bA ?_ _));refine bT (cs:=#[.slice none 0 0,.slice none 0 0]) ?_ 0 _ rfl;(with_reducible repeat (first|refine bN ?_ _|refine bD ?_|refine bA ?_ _));exact Bc.out) hb);have n9_:=Am (bP (by repeat (first|(with_reducible first|exact HB.out|apply oA|apply pN|apply o1|refine bS ?_ Bq.out|refine bS ?_ Bt.out|refine bS ?_ By.out)|exact HB.out)) hb);clear Bo Bp Br Bs Bu Bv Bd Ba Bc HB;revert n0_ n1_ n2_ n3_ n4_ n5_ n6_ n7_ n8_ n9_;intro Bo Bp Br Bs Bu Bv Bd Ba Bc HB;(try clear hb);(try clear hb2);(try clear hk);(try clear hi)))
   go_meet
   case rel=>exact ⟨_,(false),(by first|rfl|(simp;done)|(simp [*];done)),H',⟨by first|omega|exact nR _⟩,⟨by (with_reducible repeat (first|apply rA|apply rN|apply rD));exact rM Bo.out (fun _ hk=>⟨hk.1.2,hk.2⟩)⟩,⟨by (with_reducible repeat (first|apply rA|apply rN|apply rD));exact rM Bp.out (fun _ hk=>⟨hk.1.2,hk.2⟩)⟩,⟨by (with_reducible repeat (first|apply rA|apply rN|apply rD));exact rM Br.out (fun _ hk=>⟨hk.1.2,hk.2⟩)⟩,⟨by (with_reducible repeat (first|apply rA|apply rN|apply rD));exact rM Bs.out (fun _ hk=>⟨hk.1.2,hk.2⟩)⟩,⟨by (with_reducible repeat (first|apply rA|apply rN|apply rD));exact rM Bu.out (fun _ hk=>⟨hk.1.2,hk.2⟩)⟩,⟨by (with_reducible repeat (first|apply rA|apply rN|apply rD));exact rM Bv.out (fun _ hk=>⟨hk.1.2,hk.2⟩)⟩,⟨by (with_reducible repeat (first|refine bN ?_ _|refine bD ?_|refine bA ?_ _));exact Bd.out⟩,⟨by (with_reducible repeat (first|refine bN ?_ _|refine bD ?_|refine bA ?_ _));exact Ba.out⟩,⟨by (with_reducible repeat (first|refine bN ?_ _|refine bD ?_|refine bA ?_ _));exact Bc.out⟩,⟨by repeat (first|(with_reducible first|exact HB.out|apply oA|apply pN|apply o1|refine bS ?_ Bq.out|refine bS ?_ Bt.out|refine bS ?_ By.out)|exact HB.out)⟩⟩
  subst c27
  have H1:(if t330=t339 then (laws_FnPagesTake.j0 k t322 t330 t331 (t331 == t340) t316 t319 t324 t327) else (laws_FnPagesTake.j0 k t322 t330 t331 false t316 t319 t324 t327))=some r:=by rw [if_pos rfl] at H;exact H
  clear H
  have H:=H1
  clear H1
  by_cases c28:t330=t339
  rotate_left
  ·rw [if_neg c28] at H
   have c28b0:(t330 == t339)=false:=beq_eq_false_iff_ne.mpr c28
   have c28b1:(t330 != t339)=true:=bne_iff_ne.mpr c28
   (first|rw [c28b0]|(simp only [i64_w,i32_w];rw [c28b0])|skip)
   have H':=Am H
   clear H
   have DS:=BC.out
   have DT:=BB.out
   have DU:=Bz.out
   have DV:=BD.out
   have B7:=cz0 Ba.out
   have B8:=cz1 Ba.out
   have B9:=bF Ba.out 0
   have Da:=bF Ba.out 1
   have DW:=BE.out
   have DX:=BA.out
   have Db:=cz0 Bc.out
   have Dc:=cz1 Bc.out
   have Dd:=bF Bc.out 0
   have De:=bF Bc.out 1
   go_wp2_with (first|((with_reducible refine gC (f:=19) rfl ?_);refine goesL_ (some 40) rfl rfl Try.func19 (by kernel_rfl) rfl #[.agg #[.slice Ao14 t324.length co14,.slice Ao17 t327.length co17],.agg #[.slice Ao21 t333.length co21,.slice Ao25 t336.length co25]] rfl (by (try simp only [lM,lC,lN]);first|done|rfl|(simp only [lD,lT];rfl)) ?_;(with_reducible refine (laws_qdPages.calls k _ _ t324 _ _ t327 _ _ t333 _ _ t336 true _ ?side1 ?side2 ?side3 ?side4 ?side5 ?side6 ?side7 ?side8 A26.out).mono ?_);(case side1=>refine (rR (e:=9) (base:=w.heap.size) (ok:=fun k_=>((True∧some k_≠(.slice Ao9 t316.length co9:Value).ownBlock)∧some k_≠(.slice Ao21 t333.length co21:Value).ownBlock)) (n:=t324.length) (c:=co14) ?_).2.2;exact (by (with_reducible repeat (first|apply rA|apply rN|apply rD));exact (rM (rF (p:=⟨Bb,1,none⟩) (rF (p:=⟨Bb,0,none⟩) (rT Br.out Bc.out (by decide)) (fun _ hk=>hk.2) (.slice Ao21 t333.length co21)) (fun _ hk=>hk.2) (.slice Ao25 t336.length co25)) (fun _ h_=>h_.1))));(case side2=>exact (rR Br.out).2.1);(case side3=>refine (rR (e:=3) (base:=w.heap.size) (ok:=fun k_=>((True∧some k_≠(.slice Ao11 t319.length co11:Value).ownBlock)∧some k_≠(.slice Ao25 t336.length co25:Value).ownBlock)) (n:=t327.length) (c:=co17) ?_).2.2;exact (by (with_reducible repeat (first|apply rA|apply rN|apply rD));exact (rM (rF (p:=⟨Bb,1,none⟩) (rF (p:=⟨Bb,0,none⟩) (rT Bs.out Bc.out (by decide)) (fun _ hk=>hk.2) (.slice Ao21 t333.length co21)) (fun _ hk=>hk.2) (.slice Ao25 t336.length co25)) (fun _ h_=>h_.1))));(case side4=>exact (rR Bs.out).2.1);(case side5=>refine (rR (e:=9) (base:=w.heap.size) (ok:=fun k_=>((True∧some k_≠(.slice Ao9 t316.length co9:Value).ownBlock)∧some k_≠(.slice Ao14 t324.length co14:Value).ownBlock)) (n:=t333.length) (c:=co21) ?_).2.2;exact (by (with_reducible repeat (first|apply rA|apply rN|apply rD));exact (rM (rF (p:=⟨Bb,1,none⟩) (rF (p:=⟨Bb,0,none⟩) (rT Bu.out Bc.out (by decide)) (fun _ hk=>hk.2) (.slice Ao21 t333.length co21)) (fun _ hk=>hk.2) (.slice Ao25 t336.length co25)) (fun _ h_=>h_.1))));(case side6=>exact (rR Bu.out).2.1);(case side7=>refine (rR (e:=3) (base:=w.heap.size) (ok:=fun k_=>((True∧some k_≠(.slice Ao11 t319.length co11:Value).ownBlock)∧some k_≠(.slice Ao17 t327.length co17:Value).ownBlock)) (n:=t336.length) (c:=co25) ?_).2.2;exact (by (with_reducible repeat (first|apply rA|apply rN|apply rD));exact (rM (rF (p:=⟨Bb,1,none⟩) (rF (p:=⟨Bb,0,none⟩) (rT Bv.out Bc.out (by decide)) (fun _ hk=>hk.2) (.slice Ao21 t333.length co21)) (fun _ hk=>hk.2) (.slice Ao25 t336.length co25)) (fun _ h_=>h_.1))));(case side8=>exact (rR Bv.out).2.1);rintro e w40 ⟨rfl,hb⟩;refine ⟨_,rfl,?_⟩;have n0_:=Am (rB (by (with_reducible repeat (first|apply rA|apply rN|apply rD));exact (rM (rF (p:=⟨Bb,1,none⟩) (rF (p:=⟨Bb,0,none⟩) (rT Bo.out Bc.out (by decide)) (fun _ hk=>hk.2) (.slice Ao21 t333.length co21)) (fun _ hk=>hk.2) (.slice Ao25 t336.length co25)) (fun _ h_=>h_.1))) hb);have n1_:=Am (rB (by (with_reducible repeat (first|apply rA|apply rN|apply rD));exact (rM (rF (p:=⟨Bb,1,none⟩) (rF (p:=⟨Bb,0,none⟩) (rT Bp.out Bc.out (by decide)) (fun _ hk=>hk.2) (.slice Ao21 t333.length co21)) (fun _ hk=>hk.2) (.slice Ao25 t336.length co25)) (fun _ h_=>h_.1))) hb);have n2_:=Am (rB (by (with_reducible repeat (first|apply rA|apply rN|apply rD));exact (rM (rF (p:=⟨Bb,1,none⟩) (rF (p:=⟨Bb,0,none⟩) (rT Br.out Bc.out (by decide)) (fun _ hk=>hk.2) (.slice Ao21 t333.length co21)) (fun _ hk=>hk.2) (.slice Ao25 t336.length co25)) (fun _ h_=>h_.1))) hb);have n3_:=Am (rB (by (with_reducible repeat (first|apply rA|apply rN|apply rD));exact (rM (rF (p:=⟨Bb,1,none⟩) (rF (p:=⟨Bb,0,none⟩) (rT Bs.out Bc.out (by decide)) (fun _ hk=>hk.2) (.slice Ao21 t333.length co21)) (fun _ hk=>hk.2) (.slice Ao25 t336.length co25)) (fun _ h_=>h_.1))) hb);have n4_:=Am (rB (by (with_reducible repeat (first|apply rA|apply rN|apply rD));exact (rM (rF (p:=⟨Bb,1,none⟩) (rF (p:=⟨Bb,0,none⟩) (rT Bu.out Bc.out (by decide)) (fun _ hk=>hk.2) (.slice Ao21 t333.length co21)) (fun _ hk=>hk.2) (.slice Ao25 t336.length co25)) (fun _ h_=>h_.1))) hb);have n5_:=Am (rB (by (with_reducible repeat (first|apply rA|apply rN|apply rD));exact (rM (rF (p:=⟨Bb,1,none⟩) (rF (p:=⟨Bb,0,none⟩) (rT Bv.out Bc.out (by decide)) (fun _ hk=>hk.2) (.slice Ao21 t333.length co21)) (fun _ hk=>hk.2) (.slice Ao25 t336.length co25)) (fun _ h_=>h_.1))) hb);have n6_:=Am (bB (g:=Bm) (o:=.cells #[.slice Ao9 t316.length co9,.slice Ao11 t319.length co11] 26 (0,0)) (by (with_reducible repeat (first|refine bN ?_ _|refine bD ?_|refine bA ?_ _|refine bE ?_ BA.out _));exact Bd.out) hb);have n7_:=Am (bB (g:=Bi) (o:=.cells #[.slice Ao14 t324.length co14,.slice Ao17 t327.length co17] 26 (0,0)) (by (with_reducible repeat (first|refine bN ?_ _|refine bD ?_|refine bA ?_ _|refine bE ?_ Bz.out _));exact Ba.out) hb);have n8_:=Am (bB (g:=Bb) (o:=.cells #[.slice Ao21 t333.length co21,.slice Ao25 t336.length co25] 26 (0,0)) (by (with_reducible repeat (first|refine bN ?_ _|refine bD ?_|refine bA ?_ _));refine bT (cs:=#[.slice Ao21 t333.length co21,.slice none 0 0]) ?_ 1 _ rfl;(with_reducible repeat (first|refine bN ?_ _|refine bD ?_|refine bA ?_ _));refine bT (cs:=#[.slice none 0 0,.slice none 0 0]) ?_ 0 _ rfl;(with_reducible repeat (first|refine bN ?_ _|refine bD ?_|refine bA ?_ _));exact Bc.out) hb);have n9_:=Am (bP (by repeat (first|(with_reducible first|exact HB.out|apply oA|apply pN|apply o1|refine bS ?_ Bq.out|refine bS ?_ Bt.out|refine bS ?_ By.out)|exact HB.out)) hb);clear Bo Bp Br Bs Bu Bv Bd Ba Bc HB;revert n0_ n1_ n2_ n3_ n4_ n5_ n6_ n7_ n8_ n9_;intro Bo Bp Br Bs Bu Bv Bd Ba Bc HB;(try clear hb);(try clear hb2);(try clear hk);(try clear hi)))
   go_meet
   case rel=>exact ⟨_,(false),(by first|rfl|(simp;done)|(simp [*];done)),H',⟨by first|omega|exact nR _⟩,⟨by (with_reducible repeat (first|apply rA|apply rN|apply rD));exact rM Bo.out (fun _ hk=>⟨hk.1.2,hk.2⟩)⟩,⟨by (with_reducible repeat (first|apply rA|apply rN|apply rD));exact rM Bp.out (fun _ hk=>⟨hk.1.2,hk.2⟩)⟩,⟨by (with_reducible repeat (first|apply rA|apply rN|apply rD));exact rM Br.out (fun _ hk=>⟨hk.1.2,hk.2⟩)⟩,⟨by (with_reducible repeat (first|apply rA|apply rN|apply rD));exact rM Bs.out (fun _ hk=>⟨hk.1.2,hk.2⟩)⟩,⟨by (with_reducible repeat (first|apply rA|apply rN|apply rD));exact rM Bu.out (fun _ hk=>⟨hk.1.2,hk.2⟩)⟩,⟨by (with_reducible repeat (first|apply rA|apply rN|apply rD));exact rM Bv.out (fun _ hk=>⟨hk.1.2,hk.2⟩)⟩,⟨by (with_reducible repeat (first|refine bN ?_ _|refine bD ?_|refine bA ?_ _));exact Bd.out⟩,⟨by (with_reducible repeat (first|refine bN ?_ _|refine bD ?_|refine bA ?_ _));exact Ba.out⟩,⟨by (with_reducible repeat (first|refine bN ?_ _|refine bD ?_|refine bA ?_ _));exact Bc.out⟩,⟨by repeat (first|(with_reducible first|exact HB.out|apply oA|apply pN|apply o1|refine bS ?_ Bq.out|refine bS ?_ Bt.out|refine bS ?_ By.out)|exact HB.out)⟩⟩
  rw [if_pos c28] at H
  have c28b0:(t330 == t339)=true:=beq_iff_eq.mpr c28
  have c28b1:(t330 != t339)=false:=bne_eq_false_iff_eq.mpr c28
  clear c28
  (first|rw [c28b0]|(simp only [i64_w,i32_w];rw [c28b0])|skip)
  have H':=Am H
  clear H
  have DM:=BC.out
  have DN:=BB.out
  have DO:=Bz.out
  have DP:=BD.out
  have BZ:=cz0 Ba.out
  have B0:=cz1 Ba.out
  have B1:=bF Ba.out 0
  have B2:=bF Ba.out 1
  have DQ:=BE.out
  have DR:=BA.out
  have B3:=cz0 Bc.out
  have B4:=cz1 Bc.out
  have B5:=bF Bc.out 0
  have B6:=bF Bc.out 1
  go_wp2_with (first|((with_reducible refine gC (f:=19) rfl ?_);refine goesL_ (some 40) rfl rfl Try.func19 (by kernel_rfl) rfl #[.agg #[.slice Ao14 t324.length co14,.slice Ao17 t327.length co17],.agg #[.slice Ao21 t333.length co21,.slice Ao25 t336.length co25]] rfl (by (try simp only [lM,lC,lN]);first|done|rfl|(simp only [lD,lT];rfl)) ?_;(with_reducible refine (laws_qdPages.calls k _ _ t324 _ _ t327 _ _ t333 _ _ t336 true _ ?side1 ?side2 ?side3 ?side4 ?side5 ?side6 ?side7 ?side8 A26.out).mono ?_);(case side1=>refine (rR (e:=9) (base:=w.heap.size) (ok:=fun k_=>((True∧some k_≠(.slice Ao9 t316.length co9:Value).ownBlock)∧some k_≠(.slice Ao21 t333.length co21:Value).ownBlock)) (n:=t324.length) (c:=co14) ?_).2.2;exact (by (with_reducible repeat (first|apply rA|apply rN|apply rD));exact (rM (rF (p:=⟨Bb,1,none⟩) (rF (p:=⟨Bb,0,none⟩) (rT Br.out Bc.out (by decide)) (fun _ hk=>hk.2) (.slice Ao21 t333.length co21)) (fun _ hk=>hk.2) (.slice Ao25 t336.length co25)) (fun _ h_=>h_.1))));(case side2=>exact (rR Br.out).2.1);(case side3=>refine (rR (e:=3) (base:=w.heap.size) (ok:=fun k_=>((True∧some k_≠(.slice Ao11 t319.length co11:Value).ownBlock)∧some k_≠(.slice Ao25 t336.length co25:Value).ownBlock)) (n:=t327.length) (c:=co17) ?_).2.2;exact (by (with_reducible repeat (first|apply rA|apply rN|apply rD));exact (rM (rF (p:=⟨Bb,1,none⟩) (rF (p:=⟨Bb,0,none⟩) (rT Bs.out Bc.out (by decide)) (fun _ hk=>hk.2) (.slice Ao21 t333.length co21)) (fun _ hk=>hk.2) (.slice Ao25 t336.length co25)) (fun _ h_=>h_.1))));(case side4=>exact (rR Bs.out).2.1);(case side5=>refine (rR (e:=9) (base:=w.heap.size) (ok:=fun k_=>((True∧some k_≠(.slice Ao9 t316.length co9:Value).ownBlock)∧some k_≠(.slice Ao14 t324.length co14:Value).ownBlock)) (n:=t333.length) (c:=co21) ?_).2.2;exact (by (with_reducible repeat (first|apply rA|apply rN|apply rD));exact (rM (rF (p:=⟨Bb,1,none⟩) (rF (p:=⟨Bb,0,none⟩) (rT Bu.out Bc.out (by decide)) (fun _ hk=>hk.2) (.slice Ao21 t333.length co21)) (fun _ hk=>hk.2) (.slice Ao25 t336.length co25)) (fun _ h_=>h_.1))));(case side6=>exact (rR Bu.out).2.1);(case side7=>refine (rR (e:=3) (base:=w.heap.size) (ok:=fun k_=>((True∧some k_≠(.slice Ao11 t319.length co11:Value).ownBlock)∧some k_≠(.slice Ao17 t327.length co17:Value).ownBlock)) (n:=t336.length) (c:=co25) ?_).2.2;exact (by (with_reducible repeat (first|apply rA|apply rN|apply rD));exact (rM (rF (p:=⟨Bb,1,none⟩) (rF (p:=⟨Bb,0,none⟩) (rT Bv.out Bc.out (by decide)) (fun _ hk=>hk.2) (.slice Ao21 t333.length co21)) (fun _ hk=>hk.2) (.slice Ao25 t336.length co25)) (fun _ h_=>h_.1))));(case side8=>exact (rR Bv.out).2.1);rintro e w34 ⟨rfl,hb⟩;refine ⟨_,rfl,?_⟩;have n0_:=Am (rB (by (with_reducible repeat (first|apply rA|apply rN|apply rD));exact (rM (rF (p:=⟨Bb,1,none⟩) (rF (p:=⟨Bb,0,none⟩) (rT Bo.out Bc.out (by decide)) (fun _ hk=>hk.2) (.slice Ao21 t333.length co21)) (fun _ hk=>hk.2) (.slice Ao25 t336.length co25)) (fun _ h_=>h_.1))) hb);have n1_:=Am (rB (by (with_reducible repeat (first|apply rA|apply rN|apply rD));exact (rM (rF (p:=⟨Bb,1,none⟩) (rF (p:=⟨Bb,0,none⟩) (rT Bp.out Bc.out (by decide)) (fun _ hk=>hk.2) (.slice Ao21 t333.length co21)) (fun _ hk=>hk.2) (.slice Ao25 t336.length co25)) (fun _ h_=>h_.1))) hb);have n2_:=Am (rB (by (with_reducible repeat (first|apply rA|apply rN|apply rD));exact (rM (rF (p:=⟨Bb,1,none⟩) (rF (p:=⟨Bb,0,none⟩) (rT Br.out Bc.out (by decide)) (fun _ hk=>hk.2) (.slice Ao21 t333.length co21)) (fun _ hk=>hk.2) (.slice Ao25 t336.length co25)) (fun _ h_=>h_.1))) hb);have n3_:=Am (rB (by (with_reducible repeat (first|apply rA|apply rN|apply rD));exact (rM (rF (p:=⟨Bb,1,none⟩) (rF (p:=⟨Bb,0,none⟩) (rT Bs.out Bc.out (by decide)) (fun _ hk=>hk.2) (.slice Ao21 t333.length co21)) (fun _ hk=>hk.2) (.slice Ao25 t336.length co25)) (fun _ h_=>h_.1))) hb);have n4_:=Am (rB (by (with_reducible repeat (first|apply rA|apply rN|apply rD));exact (rM (rF (p:=⟨Bb,1,none⟩) (rF (p:=⟨Bb,0,none⟩) (rT Bu.out Bc.out (by decide)) (fun _ hk=>hk.2) (.slice Ao21 t333.length co21)) (fun _ hk=>hk.2) (.slice Ao25 t336.length co25)) (fun _ h_=>h_.1))) hb);have n5_:=Am (rB (by (with_reducible repeat (first|apply rA|apply rN|apply rD));exact (rM (rF (p:=⟨Bb,1,none⟩) (rF (p:=⟨Bb,0,none⟩) (rT Bv.out Bc.out (by decide)) (fun _ hk=>hk.2) (.slice Ao21 t333.length co21)) (fun _ hk=>hk.2) (.slice Ao25 t336.length co25)) (fun _ h_=>h_.1))) hb);have n6_:=Am (bB (g:=Bm) (o:=.cells #[.slice Ao9 t316.length co9,.slice Ao11 t319.length co11] 26 (0,0)) (by (with_reducible repeat (first|refine bN ?_ _|refine bD ?_|refine bA ?_ _|refine bE ?_ BA.out _));exact Bd.out) hb);have n7_:=Am (bB (g:=Bi) (o:=.cells #[.slice Ao14 t324.length co14,.slice Ao17 t327.length co17] 26 (0,0)) (by (with_reducible repeat (first|refine bN ?_ _|refine bD ?_|refine bA ?_ _|refine bE ?_ Bz.out _));exact Ba.out) hb);have n8_:=Am (bB (g:=Bb) (o:=.cells #[.slice Ao21 t333.length co21,.slice Ao25 t336.length co25] 26 (0,0)) (by (with_reducible repeat (first|refine bN ?_ _|refine bD ?_|refine bA ?_ _));refine bT (cs:=#[.slice Ao21 t333.length co21,.slice none 0 0]) ?_ 1 _ rfl;(with_reducible repeat (first|refine bN ?_ _|refine bD ?_|refine bA ?_ _));refine bT (cs:=#[.slice none 0 0,.slice none 0 0]) ?_ 0 _ rfl;(with_reducible repeat (first|refine bN ?_ _|refine bD ?_|refine bA ?_ _));exact Bc.out) hb);have n9_:=Am (bP (by repeat (first|(with_reducible first|exact HB.out|apply oA|apply pN|apply o1|refine bS ?_ Bq.out|refine bS ?_ Bt.out|refine bS ?_ By.out)|exact HB.out)) hb);clear Bo Bp Br Bs Bu Bv Bd Ba Bc HB;revert n0_ n1_ n2_ n3_ n4_ n5_ n6_ n7_ n8_ n9_;intro Bo Bp Br Bs Bu Bv Bd Ba Bc HB;(try clear hb);(try clear hb2);(try clear hk);(try clear hi)))
  go_meet
  case rel=>exact ⟨_,((t331 == t340)),(by first|rfl|(simp;done)|(simp [*];done)),H',⟨by first|omega|exact nR _⟩,⟨by (with_reducible repeat (first|apply rA|apply rN|apply rD));exact rM Bo.out (fun _ hk=>⟨hk.1.2,hk.2⟩)⟩,⟨by (with_reducible repeat (first|apply rA|apply rN|apply rD));exact rM Bp.out (fun _ hk=>⟨hk.1.2,hk.2⟩)⟩,⟨by (with_reducible repeat (first|apply rA|apply rN|apply rD));exact rM Br.out (fun _ hk=>⟨hk.1.2,hk.2⟩)⟩,⟨by (with_reducible repeat (first|apply rA|apply rN|apply rD));exact rM Bs.out (fun _ hk=>⟨hk.1.2,hk.2⟩)⟩,⟨by (with_reducible repeat (first|apply rA|apply rN|apply rD));exact rM Bu.out (fun _ hk=>⟨hk.1.2,hk.2⟩)⟩,⟨by (with_reducible repeat (first|apply rA|apply rN|apply rD));exact rM Bv.out (fun _ hk=>⟨hk.1.2,hk.2⟩)⟩,⟨by (with_reducible repeat (first|refine bN ?_ _|refine bD ?_|refine bA ?_ _));exact Bd.out⟩,⟨by (with_reducible repeat (first|refine bN ?_ _|refine bD ?_|refine bA ?_ _));exact Ba.out⟩,⟨by (with_reducible repeat (first|refine bN ?_ _|refine bD ?_|refine bA ?_ _));exact Bc.out⟩,⟨by repeat (first|(with_reducible first|exact HB.out|apply oA|apply pN|apply o1|refine bS ?_ Bq.out|refine bS ?_ Bt.out|refine bS ?_ By.out)|exact HB.out)⟩⟩
 case rest =>
  clear HC6
  try clear c1
  try clear c2
  try clear c2b0
  try clear c2b1
  try clear p2
  try clear c3
  try clear c4
  try clear c7
  try clear c15
  try clear c19
  try clear c22
  try clear c23
  try clear c27
  try clear c28
  try clear c28b0
  try clear c28b1
  try clear c29
  try clear c30
  try clear c31
  try clear c32
  try clear c35
  try clear c36
  try clear c38
  try clear c41
  try clear c42
  try clear c44
  try clear BJ
  try clear BK
  try clear BN
  try clear BO
  try clear BR
  try clear BS
  try clear BV
  try clear BW
  try clear BZ
  try clear B0
  try clear B3
  try clear B4
  try clear B7
  try clear B8
  try clear Db
  try clear Dc
  try clear Df
  try clear Dg
  try clear Dj
  try clear Dk
  try clear BL
  try clear BM
  try clear BP
  try clear BQ
  try clear BT
  try clear BU
  try clear BX
  try clear BY
  try clear B1
  try clear B2
  try clear B5
  try clear B6
  try clear B9
  try clear Da
  try clear Dd
  try clear De
  try clear Dh
  try clear Di
  try clear Dl
  try clear Dm
  obtain ⟨kq,x11_5,rfl,HA,Dq,Bg,Bh,Be,Bf,Bk,Bl,Bd,Ba,Bc,HB⟩:=hcut
  cases kq with
 |zero=>exact absurd HA.out (by simp [laws_FnPagesTake.j0])
 |succ kj5 =>
   have H:=HA.out
   clear HA
   simp only [laws_FnPagesTake.j0] at H
   have HC47:=Am H
   clear H
   go_upto_region 7 with (fail)
   go_cut [56] (fun v56 wc=>∃ (kq:Nat) (x56_46:Bool),v56=.bool x56_46∧Aside0 (laws_FnPagesTake.j1 kq t322 t330 x11_5 x56_46 t316 t319 t324 t327=some r)∧Aside0 (kq≤kj5)∧Aside0 (Kd.R Kd.string 9 wc w.heap.size (fun k_=>some k_≠((.slice Ao14 t324.length co14):Value).ownBlock∧some k_≠((.slice Ao21 t333.length co21):Value).ownBlock) (.slice Ao9 t316.length co9) t316)∧Aside0 (Kd.R (Kd.int .i64) 3 wc w.heap.size (fun k_=>some k_≠((.slice Ao17 t327.length co17):Value).ownBlock∧some k_≠((.slice Ao25 t336.length co25):Value).ownBlock) (.slice Ao11 t319.length co11) t319)∧Aside0 (Kd.R Kd.string 9 wc w.heap.size (fun k_=>some k_≠((.slice Ao9 t316.length co9):Value).ownBlock∧some k_≠((.slice Ao21 t333.length co21):Value).ownBlock) (.slice Ao14 t324.length co14) t324)∧Aside0 (Kd.R (Kd.int .i64) 3 wc w.heap.size (fun k_=>some k_≠((.slice Ao11 t319.length co11):Value).ownBlock∧some k_≠((.slice Ao25 t336.length co25):Value).ownBlock) (.slice Ao17 t327.length co17) t327)∧Aside0 (Kd.R Kd.string 9 wc w.heap.size (fun k_=>some k_≠((.slice Ao9 t316.length co9):Value).ownBlock∧some k_≠((.slice Ao14 t324.length co14):Value).ownBlock) (.slice Ao21 t333.length co21) t333)∧Aside0 (Kd.R (Kd.int .i64) 3 wc w.heap.size (fun k_=>some k_≠((.slice Ao11 t319.length co11):Value).ownBlock∧some k_≠((.slice Ao17 t327.length co17):Value).ownBlock) (.slice Ao25 t336.length co25) t336)∧Aside0 (wc.heap[Bm]?=some (.cells #[(.slice Ao9 t316.length co9),(.slice Ao11 t319.length co11)] 26 (0,0)))∧Aside0 (wc.heap[Bi]?=some (.cells #[(.slice Ao14 t324.length co14),(.slice Ao17 t327.length co17)] 26 (0,0)))∧Aside0 (wc.heap[Bb]?=some (.cells #[(.slice Ao21 t333.length co21),(.slice Ao25 t336.length co25)] 26 (0,0)))∧Aside0 (Below w.heap.size w wc))
   case first =>
    have H:=HC47.out
    clear HC47
    by_cases c48:x11_5=true
    ·subst c48
     have H1:(laws_FnPagesTake.j1 kj5 t322 t330 true (!t331) t316 t319 t324 t327)=some r:=by rw [if_pos rfl] at H;exact H
     clear H
     have H:=H1
     clear H1
     have H':=Am H
     clear H
     go_wp2
     go_meet
     case rel=>exact ⟨_,(!t331),(by first|rfl|(simp;done)|(simp [*];done)),H',⟨by have:=Dq.out;first|omega|exact nR _⟩,⟨by (with_reducible repeat (first|apply rA|apply rN|apply rD));exact Bg.out⟩,⟨by (with_reducible repeat (first|apply rA|apply rN|apply rD));exact Bh.out⟩,⟨by (with_reducible repeat (first|apply rA|apply rN|apply rD));exact Be.out⟩,⟨by (with_reducible repeat (first|apply rA|apply rN|apply rD));exact Bf.out⟩,⟨by (with_reducible repeat (first|apply rA|apply rN|apply rD));exact Bk.out⟩,⟨by (with_reducible repeat (first|apply rA|apply rN|apply rD));exact Bl.out⟩,⟨by (with_reducible repeat (first|refine bN ?_ _|refine bD ?_|refine bA ?_ _));exact Bd.out⟩,⟨by (with_reducible repeat (first|refine bN ?_ _|refine bD ?_|refine bA ?_ _));exact Ba.out⟩,⟨by (with_reducible repeat (first|refine bN ?_ _|refine bD ?_|refine bA ?_ _));exact Bc.out⟩,⟨by repeat (first|(with_reducible first|exact HB.out|apply oA|apply pN|apply o1|refine bS ?_ Bq.out|refine bS ?_ Bt.out|refine bS ?_ By.out)|exact HB.out)⟩⟩
    replace c48:=Bool.eq_false_iff.mpr c48
    subst c48
    have H1:(laws_FnPagesTake.j1 kj5 t322 t330 false true t316 t319 t324 t327)=some r:=by rw [if_neg (show ¬ (false=true) by decide)] at H;exact H
    clear H
    have H:=H1
    clear H1
    have H':=Am H
    clear H
    go_wp2
    go_meet
    case rel=>exact ⟨_,(true),(by first|rfl|(simp;done)|(simp [*];done)),H',⟨by have:=Dq.out;first|omega|exact nR _⟩,⟨by (with_reducible repeat (first|apply rA|apply rN|apply rD));exact Bg.out⟩,⟨by (with_reducible repeat (first|apply rA|apply rN|apply rD));exact Bh.out⟩,⟨by (with_reducible repeat (first|apply rA|apply rN|apply rD));exact Be.out⟩,⟨by (with_reducible repeat (first|apply rA|apply rN|apply rD));exact Bf.out⟩,⟨by (with_reducible repeat (first|apply rA|apply rN|apply rD));exact Bk.out⟩,⟨by (with_reducible repeat (first|apply rA|apply rN|apply rD));exact Bl.out⟩,⟨by (with_reducible repeat (first|refine bN ?_ _|refine bD ?_|refine bA ?_ _));exact Bd.out⟩,⟨by (with_reducible repeat (first|refine bN ?_ _|refine bD ?_|refine bA ?_ _));exact Ba.out⟩,⟨by (with_reducible repeat (first|refine bN ?_ _|refine bD ?_|refine bA ?_ _));exact Bc.out⟩,⟨by repeat (first|(with_reducible first|exact HB.out|apply oA|apply pN|apply o1|refine bS ?_ Bq.out|refine bS ?_ Bt.out|refine bS ?_ By.out)|exact HB.out)⟩⟩
   case rest =>
    clear HC47
    try clear c1
    try clear c2
    try clear c2b0
    try clear c2b1
    try clear p2
    try clear c3
    try clear c4
    try clear c7
    try clear c15
    try clear c19
    try clear c22
    try clear c23
    try clear c27
    try clear c28
    try clear c28b0
    try clear c28b1
    try clear c29
    try clear c30
    try clear c31
    try clear c32
    try clear c35
    try clear c36
    try clear c38
    try clear c41
    try clear c42
    try clear c44
    try clear c48
    try clear BJ
    try clear BK
    try clear BN
    try clear BO
    try clear BR
    try clear BS
    try clear BV
    try clear BW
    try clear BZ
    try clear B0
    try clear B3
    try clear B4
    try clear B7
    try clear B8
    try clear Db
    try clear Dc
    try clear Df
    try clear Dg
    try clear Dj
    try clear Dk
    try clear BL
    try clear BM
    try clear BP
    try clear BQ
    try clear BT
    try clear BU
    try clear BX
    try clear BY
    try clear B1
    try clear B2
    try clear B5
    try clear B6
    try clear B9
    try clear Da
    try clear Dd
    try clear De
    try clear Dh
    try clear Di
    try clear Dl
    try clear Dm
    try clear p2
    obtain ⟨kq,x56_46,rfl,HA,Ff,Bg,Bh,Be,Bf,Bk,Bl,Bd,Ba,Bc,HB⟩:=hcut
    cases kq with
   |zero=>exact absurd HA.out (by simp [laws_FnPagesTake.j1])
   |succ kj46 =>
     have H:=HA.out
     clear HA
     simp only [laws_FnPagesTake.j1] at H
     by_cases c49:x56_46=true
     ·subst c49
      have H1:(some x11_5)=some r:=by rw [if_pos rfl] at H;exact H
      clear H
      have H:=H1
      clear H1
      obtain rfl:=oJ H
      go_wp2
      go_ret
      exact ⟨by first|rfl|(simp [errW_none,errW_some] <;> rfl)|(simp [*,errW_none,errW_some] <;> rfl),by repeat (first|(with_reducible first|exact HB.out|apply oA|apply pN|apply o1|refine bS ?_ Bq.out|refine bS ?_ Bt.out|refine bS ?_ By.out)|exact HB.out)⟩
     replace c49:=Bool.eq_false_iff.mpr c49
     subst c49
     have H1:((impl_PagesGet.f kj46 t324 t327 t330).bind fun bt343=>((impl_PagesGive.f kj46 t324 t327 t330).bind fun bt345=>(if bt343.2=true then (if bt343.1.toList=t322.toList then (if bt345.2.2=true then ((laws_qdPages.f kj46 bt345.1 bt345.2.1 t316 t319).bind fun t353=>(if t353=true then ((impl_PagesRoom.f kj46 t324 t327).bind fun t354=>((impl_PagesRoom.f kj46 t316 t319).bind fun t355=>(some (t354 == (wrap64 (t355 - 1)))))) else (some false))) else (some false)) else (some false)) else (some false))))=some r:=by rw [if_neg (show ¬ (false=true) by decide)] at H;exact H
     clear H
     have H:=H1
     clear H1
     replace H:=oC H
     obtain ⟨⟨t343,t344⟩,A500,H⟩:=H
     replace H:((impl_PagesGive.f kj46 t324 t327 t330).bind fun bt345=>(if t344=true then (if t343.toList=t322.toList then (if bt345.2.2=true then ((laws_qdPages.f kj46 bt345.1 bt345.2.1 t316 t319).bind fun t353=>(if t353=true then ((impl_PagesRoom.f kj46 t324 t327).bind fun t354=>((impl_PagesRoom.f kj46 t316 t319).bind fun t355=>(some (t354 == (wrap64 (t355 - 1)))))) else (some false))) else (some false)) else (some false)) else (some false)))=some r:=H
     have A50:=Am A500
     clear A500
     replace H:=oC H
     obtain ⟨⟨t345,t348,t351⟩,A510,H⟩:=H
     replace H:(if t344=true then (if t343.toList=t322.toList then (if t351=true then ((laws_qdPages.f kj46 t345 t348 t316 t319).bind fun t353=>(if t353=true then ((impl_PagesRoom.f kj46 t324 t327).bind fun t354=>((impl_PagesRoom.f kj46 t316 t319).bind fun t355=>(some (t354 == (wrap64 (t355 - 1)))))) else (some false))) else (some false)) else (some false)) else (some false))=some r:=H
     have A51:=Am A510
     clear A510
     by_cases c52:t344=true
     rotate_left
     ·replace c52:=Bool.eq_false_iff.mpr c52
      subst c52
      have H1:(some false)=some r:=by rw [if_neg (show ¬ (false=true) by decide)] at H;exact H
      clear H
      have H:=H1
      clear H1
      exact absurd ((oJ H).trans hT_.out) (by decide)

     subst c52
     have H1:(if t343.toList=t322.toList then (if t351=true then ((laws_qdPages.f kj46 t345 t348 t316 t319).bind fun t353=>(if t353=true then ((impl_PagesRoom.f kj46 t324 t327).bind fun t354=>((impl_PagesRoom.f kj46 t316 t319).bind fun t355=>(some (t354 == (wrap64 (t355 - 1)))))) else (some false))) else (some false)) else (some false))=some r:=by rw [if_pos rfl] at H;exact H
     clear H
     have H:=H1
     clear H1
     by_cases c53:t343.toList=t322.toList
     rotate_left
     ·rw [if_neg c53] at H
      have c53b0:(t343.toList == t322.toList)=false:=beq_eq_false_iff_ne.mpr c53
      have c53b1:(t343.toList != t322.toList)=true:=bne_iff_ne.mpr c53
      exact absurd ((oJ H).trans hT_.out) (by decide)
     rw [if_pos c53] at H
     have c53b0:(t343.toList == t322.toList)=true:=beq_iff_eq.mpr c53
     have c53b1:(t343.toList != t322.toList)=false:=bne_eq_false_iff_eq.mpr c53
     clear c53
     by_cases c54:t351=true
     rotate_left
     ·replace c54:=Bool.eq_false_iff.mpr c54
      subst c54
      have H1:(some false)=some r:=by rw [if_neg (show ¬ (false=true) by decide)] at H;exact H
      clear H
      have H:=H1
      clear H1
      exact absurd ((oJ H).trans hT_.out) (by decide)
     subst c54
     have H1:((laws_qdPages.f kj46 t345 t348 t316 t319).bind fun t353=>(if t353=true then ((impl_PagesRoom.f kj46 t324 t327).bind fun t354=>((impl_PagesRoom.f kj46 t316 t319).bind fun t355=>(some (t354 == (wrap64 (t355 - 1)))))) else (some false)))=some r:=by rw [if_pos rfl] at H;exact H
     clear H
     have H:=H1
     clear H1
     replace H:=oC H
     obtain ⟨t353,A550,H⟩:=H
     replace H:(if t353=true then ((impl_PagesRoom.f kj46 t324 t327).bind fun t354=>((impl_PagesRoom.f kj46 t316 t319).bind fun t355=>(some (t354 == (wrap64 (t355 - 1)))))) else (some false))=some r:=H
     have A55:=Am A550
     clear A550
     by_cases c56:t353=true
     rotate_left
     ·replace c56:=Bool.eq_false_iff.mpr c56
      subst c56
      have H1:(some false)=some r:=by rw [if_neg (show ¬ (false=true) by decide)] at H;exact H
      clear H
      have H:=H1
      clear H1
      exact absurd ((oJ H).trans hT_.out) (by decide)
     subst c56
     have H1:((impl_PagesRoom.f kj46 t324 t327).bind fun t354=>((impl_PagesRoom.f kj46 t316 t319).bind fun t355=>(some (t354 == (wrap64 (t355 - 1))))))=some r:=by rw [if_pos rfl] at H;exact H
     clear H
     have H:=H1
     clear H1
     replace H:=oC H
     obtain ⟨t354,A570,H⟩:=H
     replace H:((impl_PagesRoom.f kj46 t316 t319).bind fun t355=>(some (t354 == (wrap64 (t355 - 1)))))=some r:=H
     have A57:=Am A570
     clear A570
     replace H:=oC H
     obtain ⟨t355,A580,H⟩:=H
     replace H:(some (t354 == (wrap64 (t355 - 1))))=some r:=H
     have A58:=Am A580
     clear A580
     obtain rfl:=oJ H
     have D4:=BC.out
     have D5:=BB.out
     have D6:=Bz.out
     have D7:=BD.out
     have Dr:=cz0 Ba.out
     have Ds:=cz1 Ba.out
     have Dt:=bF Ba.out 0
     have Du:=bF Ba.out 1
     try go_wp2_with (first|((with_reducible refine gC (f:=20) rfl ?_);refine goesL_ (some 61) rfl rfl Try.func20 (by kernel_rfl) rfl #[.agg #[.slice Ao14 t324.length co14,.slice Ao17 t327.length co17],.int .i64 t330] rfl (by (try simp only [lM,lC,lN]);first|done|rfl|(simp only [lD,lT];rfl)) ?_;(with_reducible refine (impl_PagesGet.calls kj46 _ _ t324 _ _ t327 t330 t343 true _ ?side1 ?side2 ?side3 ?side4 A50.out).mono ?_);(case side1=>exact cL (rR Be.out).2.2);(case side2=>exact (rR Be.out).2.1);(case side3=>exact cL (rR Bf.out).2.2);(case side4=>exact (rR Bf.out).2.1);rintro e w62 ⟨rfl,hb⟩;refine ⟨_,rfl,?_⟩;have n0_:=Am (rB (rL Bg.out) hb);have n1_:=Am (rB (rL Bh.out) hb);have n2_:=Am (rB (rL Be.out) hb);have n3_:=Am (rB (rL Bf.out) hb);have n4_:=Am (rB (rL Bk.out) hb);have n5_:=Am (rB (rL Bl.out) hb);have n6_:=Am (bX Bd.out hb);have n7_:=Am (bX Ba.out hb);have n8_:=Am (bX Bc.out hb);have n9_:=Am (bP (by repeat (first|(with_reducible first|exact HB.out|apply oA|apply pN|apply o1|refine bS ?_ Bq.out|refine bS ?_ Bt.out|refine bS ?_ By.out)|exact HB.out)) hb);clear Bg Bh Be Bf Bk Bl Bd Ba Bc HB;revert n0_ n1_ n2_ n3_ n4_ n5_ n6_ n7_ n8_ n9_;intro Bg Bh Be Bf Bk Bl Bd Ba Bc HB;(try clear hb);(try clear hb2);(try clear hk);(try clear hi);have Dv:=cz0 Ba.out;have Dw:=cz1 Ba.out;have Dx:=bF Ba.out 0;have Dy:=bF Ba.out 1)|((with_reducible refine gC (f:=24) rfl ?_);refine goesL_ (some 67) rfl rfl Try.func24 (by kernel_rfl) rfl #[.agg #[.slice Ao14 t324.length co14,.slice Ao17 t327.length co17],.int .i64 t330] rfl (by (try simp only [lM,lC,lN]);first|done|rfl|(simp only [lD,lT];rfl)) ?_;(with_reducible refine (impl_PagesGive.calls kj46 _ _ t324 _ _ t327 t330 t345 t348 true _ ?side1 ?side2 ?side3 ?side4 A51.out).mono ?_);(case side1=>exact cL (rR Be.out).2.2);(case side2=>exact (rR Be.out).2.1);(case side3=>exact cL (rR Bf.out).2.2);(case side4=>exact (rR Bf.out).2.1);rintro e w64 ⟨v346,v349,rfl,ho0,ho1,hb⟩;refine ⟨_,rfl,?_⟩;have n0_:=Am (rX (rL Bg.out) (rZ ho0) hb);have n1_:=Am (rX (rL Bh.out) (rZ ho1) hb);have n2_:=Am (rX (rL Be.out) (rZ ho0) hb);have n3_:=Am (rX (rL Bf.out) (rZ ho1) hb);have n4_:=Am (rX (rL Bk.out) (rZ ho0) hb);have n5_:=Am (rX (rL Bl.out) (rZ ho1) hb);have n6_:=Am (rW (rQ (rQ (rQ ho0 (rI (rL Bg.out))) (rI (rL Be.out))) (rI (rL Bk.out))) (bZ (by repeat (first|(with_reducible first|exact HB.out|apply oA|apply pN|apply o1|refine bS ?_ Bq.out|refine bS ?_ Bt.out|refine bS ?_ By.out)|exact HB.out))));have n7_:=Am (rW (rQ (rQ (rQ ho1 (rI (rL Bh.out))) (rI (rL Bf.out))) (rI (rL Bl.out))) (bZ (by repeat (first|(with_reducible first|exact HB.out|apply oA|apply pN|apply o1|refine bS ?_ Bq.out|refine bS ?_ Bt.out|refine bS ?_ By.out)|exact HB.out))));have n8_:=Am (bX Bd.out hb);have n9_:=Am (bX Ba.out hb);have n10_:=Am (bX Bc.out hb);have n11_:=Am (bP (by repeat (first|(with_reducible first|exact HB.out|apply oA|apply pN|apply o1|refine bS ?_ Bq.out|refine bS ?_ Bt.out|refine bS ?_ By.out)|exact HB.out)) hb);clear Bg Bh Be Bf Bk Bl Bd Ba Bc HB;revert n0_ n1_ n2_ n3_ n4_ n5_ n6_ n7_ n8_ n9_ n10_ n11_;intro Bg Bh Be Bf Bk Bl Bw Bx Bd Ba Bc HB;(try clear hb);(try clear hb2);(try clear hk);(try clear hi);(try clear ho0);(try clear ho1))|((with_reducible refine gD (N:=14) rfl ?_);refine bI ?hg (N:=14) ?hd (cs:=#[.slice none 0 0,.slice none 0 0]) (t:=26) ?hr ?_;(case hd=>rfl);(case hg=>rfl);(case hr=>first|(go_simp;done)|(go_simp;rfl));intro Bj hg w65 hbox hb;have n0_:=Am (rB (rL Bg.out) hb);have n1_:=Am (rB (rL Bh.out) hb);have n2_:=Am (rB (rL Be.out) hb);have n3_:=Am (rB (rL Bf.out) hb);have n4_:=Am (rB (rL Bk.out) hb);have n5_:=Am (rB (rL Bl.out) hb);have n6_:=Am (rB (rL Bw.out) hb);have n7_:=Am (rB (rL Bx.out) hb);have n8_:=Am (bX Bd.out hb);have n9_:=Am (bX Ba.out hb);have n10_:=Am (bX Bc.out hb);have n11_:=Am (bP (by repeat (first|(with_reducible first|exact HB.out|apply oA|apply pN|apply o1|refine bS ?_ Bq.out|refine bS ?_ Bt.out|refine bS ?_ By.out)|exact HB.out)) hb);have n12_:=Am (hbox);have n13_:=Am ((by rw [hg];exact (bZ (by repeat (first|(with_reducible first|exact HB.out|apply oA|apply pN|apply o1|refine bS ?_ Bq.out|refine bS ?_ Bt.out|refine bS ?_ By.out)|exact HB.out))):w.heap.size≤Bj));have n14_:=Am ((by rw [hg];exact (bZ (by repeat (first|(with_reducible first|exact HB.out|apply oA|apply pN|apply o1|refine bS ?_ Bq.out|refine bS ?_ Bt.out|refine bS ?_ By.out)|exact HB.out))):w.heap.size≤Bj));have n15_:=Am ((nL Bd.out hg));have n16_:=Am ((nG Bd.out hg));have n17_:=Am ((nL Ba.out hg));have n18_:=Am ((nG Ba.out hg));have n19_:=Am ((nL Bc.out hg));have n20_:=Am ((nG Bc.out hg));clear Bg Bh Be Bf Bk Bl Bw Bx Bd Ba Bc HB;revert n0_ n1_ n2_ n3_ n4_ n5_ n6_ n7_ n8_ n9_ n10_ n11_ n12_ n13_ n14_ n15_ n16_ n17_ n18_ n19_ n20_;intro Bg Bh Be Bf Bk Bl Bw Bx Bd Ba Bc HB Bn D8 BF BG Dn BH Do BI Dp;clear hb hbox hg;obtain ⟨Ao66,co66,eo66⟩:=rC Bw.out;subst eo66;have D9:=Dn.out;have Fa:=BG.out;have Fb:=Do.out;have Fc:=BH.out;have Fd:=Dp.out;have Fe:=BI.out;have Dz:=cz0 Bn.out;have DA:=cz1 Bn.out;have DB:=bF Bn.out 0;have DC:=bF Bn.out 1;obtain ⟨Ao71,co71,eo71⟩:=rC Bx.out;subst eo71))
     have n0_:Aside0 (Kd.R Kd.string 9 ((w65.setCell ⟨Bj,0,none⟩ (.slice Ao66 t345.length co66)).setCell ⟨Bj,1,none⟩ (.slice Ao71 t348.length co71)) w.heap.size (fun k_=>some k_≠(.slice Ao14 t324.length co14:Value).ownBlock∧some k_≠(.slice Ao21 t333.length co21:Value).ownBlock∧some k_≠(.slice Ao66 t345.length co66:Value).ownBlock) (.slice Ao9 t316.length co9) t316):=⟨by (with_reducible repeat (first|apply rA|apply rN|apply rD));exact rM (rF (p:=⟨Bj,1,none⟩) (rF (p:=⟨Bj,0,none⟩) (rT Bg.out Bn.out (by decide)) (fun _ hk=>hk.2) (.slice Ao66 t345.length co66)) (fun _ hk=>hk.2) (.slice Ao71 t348.length co71)) (fun _ hk=>⟨hk.1.1.1,⟨hk.1.1.2,hk.1.2⟩⟩)⟩
     have n1_:Aside0 (Kd.R (Kd.int .i64) 3 ((w65.setCell ⟨Bj,0,none⟩ (.slice Ao66 t345.length co66)).setCell ⟨Bj,1,none⟩ (.slice Ao71 t348.length co71)) w.heap.size (fun k_=>some k_≠(.slice Ao17 t327.length co17:Value).ownBlock∧some k_≠(.slice Ao25 t336.length co25:Value).ownBlock∧some k_≠(.slice Ao71 t348.length co71:Value).ownBlock) (.slice Ao11 t319.length co11) t319):=⟨by (with_reducible repeat (first|apply rA|apply rN|apply rD));exact rM (rF (p:=⟨Bj,1,none⟩) (rF (p:=⟨Bj,0,none⟩) (rT Bh.out Bn.out (by decide)) (fun _ hk=>hk.2) (.slice Ao66 t345.length co66)) (fun _ hk=>hk.2) (.slice Ao71 t348.length co71)) (fun _ hk=>⟨hk.1.1.1,⟨hk.1.1.2,hk.1.2⟩⟩)⟩
     have n2_:Aside0 (Kd.R Kd.string 9 ((w65.setCell ⟨Bj,0,none⟩ (.slice Ao66 t345.length co66)).setCell ⟨Bj,1,none⟩ (.slice Ao71 t348.length co71)) w.heap.size (fun k_=>some k_≠(.slice Ao9 t316.length co9:Value).ownBlock∧some k_≠(.slice Ao21 t333.length co21:Value).ownBlock∧some k_≠(.slice Ao66 t345.length co66:Value).ownBlock) (.slice Ao14 t324.length co14) t324):=⟨by (with_reducible repeat (first|apply rA|apply rN|apply rD));exact rM (rF (p:=⟨Bj,1,none⟩) (rF (p:=⟨Bj,0,none⟩) (rT Be.out Bn.out (by decide)) (fun _ hk=>hk.2) (.slice Ao66 t345.length co66)) (fun _ hk=>hk.2) (.slice Ao71 t348.length co71)) (fun _ hk=>⟨hk.1.1.1,⟨hk.1.1.2,hk.1.2⟩⟩)⟩
     have n3_:Aside0 (Kd.R (Kd.int .i64) 3 ((w65.setCell ⟨Bj,0,none⟩ (.slice Ao66 t345.length co66)).setCell ⟨Bj,1,none⟩ (.slice Ao71 t348.length co71)) w.heap.size (fun k_=>some k_≠(.slice Ao11 t319.length co11:Value).ownBlock∧some k_≠(.slice Ao25 t336.length co25:Value).ownBlock∧some k_≠(.slice Ao71 t348.length co71:Value).ownBlock) (.slice Ao17 t327.length co17) t327):=⟨by (with_reducible repeat (first|apply rA|apply rN|apply rD));exact rM (rF (p:=⟨Bj,1,none⟩) (rF (p:=⟨Bj,0,none⟩) (rT Bf.out Bn.out (by decide)) (fun _ hk=>hk.2) (.slice Ao66 t345.length co66)) (fun _ hk=>hk.2) (.slice Ao71 t348.length co71)) (fun _ hk=>⟨hk.1.1.1,⟨hk.1.1.2,hk.1.2⟩⟩)⟩
     have n4_:Aside0 (Kd.R Kd.string 9 ((w65.setCell ⟨Bj,0,none⟩ (.slice Ao66 t345.length co66)).setCell ⟨Bj,1,none⟩ (.slice Ao71 t348.length co71)) w.heap.size (fun k_=>some k_≠(.slice Ao9 t316.length co9:Value).ownBlock∧some k_≠(.slice Ao14 t324.length co14:Value).ownBlock∧some k_≠(.slice Ao66 t345.length co66:Value).ownBlock) (.slice Ao21 t333.length co21) t333):=⟨by (with_reducible repeat (first|apply rA|apply rN|apply rD));exact rM (rF (p:=⟨Bj,1,none⟩) (rF (p:=⟨Bj,0,none⟩) (rT Bk.out Bn.out (by decide)) (fun _ hk=>hk.2) (.slice Ao66 t345.length co66)) (fun _ hk=>hk.2) (.slice Ao71 t348.length co71)) (fun _ hk=>⟨hk.1.1.1,⟨hk.1.1.2,hk.1.2⟩⟩)⟩
     have n5_:Aside0 (Kd.R (Kd.int .i64) 3 ((w65.setCell ⟨Bj,0,none⟩ (.slice Ao66 t345.length co66)).setCell ⟨Bj,1,none⟩ (.slice Ao71 t348.length co71)) w.heap.size (fun k_=>some k_≠(.slice Ao11 t319.length co11:Value).ownBlock∧some k_≠(.slice Ao17 t327.length co17:Value).ownBlock∧some k_≠(.slice Ao71 t348.length co71:Value).ownBlock) (.slice Ao25 t336.length co25) t336):=⟨by (with_reducible repeat (first|apply rA|apply rN|apply rD));exact rM (rF (p:=⟨Bj,1,none⟩) (rF (p:=⟨Bj,0,none⟩) (rT Bl.out Bn.out (by decide)) (fun _ hk=>hk.2) (.slice Ao66 t345.length co66)) (fun _ hk=>hk.2) (.slice Ao71 t348.length co71)) (fun _ hk=>⟨hk.1.1.1,⟨hk.1.1.2,hk.1.2⟩⟩)⟩
     have n6_:Aside0 (Kd.R Kd.string 9 ((w65.setCell ⟨Bj,0,none⟩ (.slice Ao66 t345.length co66)).setCell ⟨Bj,1,none⟩ (.slice Ao71 t348.length co71)) w.heap.size (fun k_=>some k_≠(.slice Ao9 t316.length co9:Value).ownBlock∧some k_≠(.slice Ao14 t324.length co14:Value).ownBlock∧some k_≠(.slice Ao21 t333.length co21:Value).ownBlock) (.slice Ao66 t345.length co66) t345):=⟨by (with_reducible repeat (first|apply rA|apply rN|apply rD));exact rM (rF (p:=⟨Bj,1,none⟩) (rF (p:=⟨Bj,0,none⟩) (rT Bw.out Bn.out (by decide)) (fun _ hk=>hk.2) (.slice Ao66 t345.length co66)) (fun _ hk=>hk.2) (.slice Ao71 t348.length co71)) (fun _ hk=>⟨hk.1.1.1.2,⟨hk.1.1.2,hk.1.2⟩⟩)⟩
     have n7_:Aside0 (Kd.R (Kd.int .i64) 3 ((w65.setCell ⟨Bj,0,none⟩ (.slice Ao66 t345.length co66)).setCell ⟨Bj,1,none⟩ (.slice Ao71 t348.length co71)) w.heap.size (fun k_=>some k_≠(.slice Ao11 t319.length co11:Value).ownBlock∧some k_≠(.slice Ao17 t327.length co17:Value).ownBlock∧some k_≠(.slice Ao25 t336.length co25:Value).ownBlock) (.slice Ao71 t348.length co71) t348):=⟨by (with_reducible repeat (first|apply rA|apply rN|apply rD));exact rM (rF (p:=⟨Bj,1,none⟩) (rF (p:=⟨Bj,0,none⟩) (rT Bx.out Bn.out (by decide)) (fun _ hk=>hk.2) (.slice Ao66 t345.length co66)) (fun _ hk=>hk.2) (.slice Ao71 t348.length co71)) (fun _ hk=>⟨hk.1.1.1.2,⟨hk.1.1.2,hk.1.2⟩⟩)⟩
     have n8_:Aside0 (((w65.setCell ⟨Bj,0,none⟩ (.slice Ao66 t345.length co66)).setCell ⟨Bj,1,none⟩ (.slice Ao71 t348.length co71)).heap[Bm]?=some (.cells #[.slice Ao9 t316.length co9,.slice Ao11 t319.length co11] 26 (0,0))):=⟨by (with_reducible repeat (first|refine bN ?_ _|refine bD ?_|refine bA ?_ _|refine bE ?_ BG.out _));exact Bd.out⟩
     have n9_:Aside0 (((w65.setCell ⟨Bj,0,none⟩ (.slice Ao66 t345.length co66)).setCell ⟨Bj,1,none⟩ (.slice Ao71 t348.length co71)).heap[Bi]?=some (.cells #[.slice Ao14 t324.length co14,.slice Ao17 t327.length co17] 26 (0,0))):=⟨by (with_reducible repeat (first|refine bN ?_ _|refine bD ?_|refine bA ?_ _|refine bE ?_ BH.out _));exact Ba.out⟩
     have n10_:Aside0 (((w65.setCell ⟨Bj,0,none⟩ (.slice Ao66 t345.length co66)).setCell ⟨Bj,1,none⟩ (.slice Ao71 t348.length co71)).heap[Bb]?=some (.cells #[.slice Ao21 t333.length co21,.slice Ao25 t336.length co25] 26 (0,0))):=⟨by (with_reducible repeat (first|refine bN ?_ _|refine bD ?_|refine bA ?_ _|refine bE ?_ BI.out _));exact Bc.out⟩
     have n11_:Aside0 (((w65.setCell ⟨Bj,0,none⟩ (.slice Ao66 t345.length co66)).setCell ⟨Bj,1,none⟩ (.slice Ao71 t348.length co71)).heap[Bj]?=some (.cells #[.slice Ao66 t345.length co66,.slice Ao71 t348.length co71] 26 (0,0))):=⟨by (with_reducible repeat (first|refine bN ?_ _|refine bD ?_|refine bA ?_ _));refine bT (cs:=#[.slice Ao66 t345.length co66,.slice none 0 0]) ?_ 1 _ rfl;(with_reducible repeat (first|refine bN ?_ _|refine bD ?_|refine bA ?_ _));refine bT (cs:=#[.slice none 0 0,.slice none 0 0]) ?_ 0 _ rfl;(with_reducible repeat (first|refine bN ?_ _|refine bD ?_|refine bA ?_ _));exact Bn.out⟩
     have n12_:Aside0 (Below w.heap.size w ((w65.setCell ⟨Bj,0,none⟩ (.slice Ao66 t345.length co66)).setCell ⟨Bj,1,none⟩ (.slice Ao71 t348.length co71))):=⟨by repeat (first|(with_reducible first|exact HB.out|apply oA|apply pN|apply o1|refine bS ?_ Bq.out|refine bS ?_ Bt.out|refine bS ?_ By.out|refine bS ?_ BF.out)|exact HB.out)⟩
     (try clear Bg)
     (try clear Bh)
     (try clear Be)
     (try clear Bf)
     (try clear Bk)
     (try clear Bl)
     (try clear Bw)
     (try clear Bx)
     (try clear Bd)
     (try clear Ba)
     (try clear Bc)
     (try clear Bn)
     (try clear HB)
     generalize ((w65.setCell ⟨Bj,0,none⟩ (.slice Ao66 t345.length co66)).setCell ⟨Bj,1,none⟩ (.slice Ao71 t348.length co71))=w72 at n0_ n1_ n2_ n3_ n4_ n5_ n6_ n7_ n8_ n9_ n10_ n11_ n12_ ⊢
     have Bg:=n0_
     have Bh:=n1_
     have Be:=n2_
     have Bf:=n3_
     have Bk:=n4_
     have Bl:=n5_
     have Bw:=n6_
     have Bx:=n7_
     have Bd:=n8_
     have Ba:=n9_
     have Bc:=n10_
     have Bn:=n11_
     have HB:=n12_
     clear n0_ n1_ n2_ n3_ n4_ n5_ n6_ n7_ n8_ n9_ n10_ n11_ n12_
     have n0_:=Am (rD Bg.out)
     have n1_:=Am (rD Bh.out)
     have n2_:=Am (rD Be.out)
     have n3_:=Am (rD Bf.out)
     have n4_:=Am (rD Bk.out)
     have n5_:=Am (rD Bl.out)
     have n6_:=Am (rD Bw.out)
     have n7_:=Am (rD Bx.out)
     have n8_:=Am (bD Bd.out)
     have n9_:=Am (bD Ba.out)
     have n10_:=Am (bD Bc.out)
     have n11_:=Am (bD Bn.out)
     have n12_:=Am (o1 HB.out)
     clear Bg
     clear Bh
     clear Be
     clear Bf
     clear Bk
     clear Bl
     clear Bw
     clear Bx
     clear Bd
     clear Ba
     clear Bc
     clear Bn
     clear HB
     have Bg:=n0_
     have Bh:=n1_
     have Be:=n2_
     have Bf:=n3_
     have Bk:=n4_
     have Bl:=n5_
     have Bw:=n6_
     have Bx:=n7_
     have Bd:=n8_
     have Ba:=n9_
     have Bc:=n10_
     have Bn:=n11_
     have HB:=n12_
     clear n0_ n1_ n2_ n3_ n4_ n5_ n6_ n7_ n8_ n9_ n10_ n11_ n12_
     refine start_ (n:=23) (S:=fun w'=>w'.cell? ⟨Bj,0,none⟩=some (.slice Ao66 t345.length co66)∧w'.cell? ⟨Bj,1,none⟩=some (.slice Ao71 t348.length co71)∧w'.cell? ⟨Bm,0,none⟩=some (.slice Ao9 t316.length co9)∧w'.cell? ⟨Bm,1,none⟩=some (.slice Ao11 t319.length co11)∧w'.cell? ⟨Bi,0,none⟩=some (.slice Ao14 t324.length co14)∧w'.cell? ⟨Bi,1,none⟩=some (.slice Ao17 t327.length co17)) (ds:=[]) z7q0 (by kernel_rfl) rfl rfl ⟨(bC Bn.out 0).trans rfl,(bC Bn.out 1).trans rfl,(bC Bd.out 0).trans rfl,(bC Bd.out 1).trans rfl,(bC Ba.out 0).trans rfl,(bC Ba.out 1).trans rfl⟩ (fun hHeld=>?_);refine with_st laws_FnPagesTake.tab11 laws_FnPagesTake.bits11 (fun _ _ _ _ _ h=>h) (fun HT_=>?_)
     generalize w72.drew=w73 at Bg Bh Be Bf Bk Bl Bw Bx Bd Ba Bc Bn HB hHeld ⊢
     refine pS 0 70 z7q1 HT_ rfl rfl (by kernel_rfl) (by rfl) (by intro w';go_simp;with_reducible rfl) (by simp only [Act.put,lA,lZ,lS,iw,jw];rfl) ?_
     refine pS 1 71 z7q2 HT_ rfl rfl (by kernel_rfl) (by rfl) (by intro w';go_simp;with_reducible rfl) (by simp only [Act.put,lA,lZ,lS,iw,jw];rfl) ?_
     refine pS 2 72 z7q3 HT_ rfl rfl (by kernel_rfl) (by rfl) (by intro w';go_simp;with_reducible rfl) (by simp only [Act.put,lA,lZ,lS,iw,jw];rfl) ?_
     refine pS 3 73 z7q4 HT_ rfl rfl (by kernel_rfl) (by rfl) (by intro w';go_simp;with_reducible rfl) (by simp only [Act.put,lA,lZ,lS,iw,jw];rfl) ?_
     refine pS 4 74 z7q5 HT_ rfl rfl (by kernel_rfl) (by rfl) (by intro w';go_simp;with_reducible rfl) (by simp only [Act.put,lA,lZ,lS,iw,jw];rfl) ?_
     refine pS 5 75 z7q6 HT_ rfl rfl (by kernel_rfl) (by rfl) (by intro w';go_simp;with_reducible rfl) (by simp only [Act.put,lA,lZ,lS,iw,jw];rfl) ?_
     refine pS 6 76 z7q7 HT_ rfl rfl (by kernel_rfl) (by rfl) (by intro w';go_simp;with_reducible rfl) (by simp only [Act.put,lA,lZ,lS,iw,jw];rfl) ?_
     refine pS 7 77 z7q8 HT_ rfl rfl (by kernel_rfl) (by rfl) (by intro w';go_simp;with_reducible rfl) (by simp only [Act.put,lA,lZ,lS,iw,jw];rfl) ?_
     refine pS 8 78 z7q9 HT_ rfl rfl (by kernel_rfl) (by rfl) (by intro w';go_simp;with_reducible rfl) (by simp only [Act.put,lA,lZ,lS,iw,jw];rfl) ?_
     refine pS 9 79 z7q10 HT_ rfl rfl (by kernel_rfl) (by rfl) (by intro w';go_simp;with_reducible rfl) (by simp only [Act.put,lA,lZ,lS,iw,jw];rfl) ?_
     refine tS 10 80 z7q11 HT_ hHeld rfl rfl (by kernel_rfl) (by rfl) (by rintro w' ⟨s0,s1,s2,s3,s4,s5⟩;go_simp;with_reducible rfl) (by simp only [Act.put,lA,lZ,lS,iw,jw];rfl) ?_
     refine tS 11 81 z7q12 HT_ hHeld rfl rfl (by kernel_rfl) (by rfl) (by rintro w' ⟨s0,s1,s2,s3,s4,s5⟩;go_simp;with_reducible rfl) (by simp only [Act.put,lA,lZ,lS,iw,jw];rfl) ?_
     refine oS 12 82 z7q13 HT_ rfl rfl (by kernel_rfl) (by decide) (fun K hK=>?_)
     refine goes_ Try.func19 (by kernel_rfl) rfl #[.agg #[.slice Ao66 t345.length co66,.slice Ao71 t348.length co71],.agg #[.slice Ao9 t316.length co9,.slice Ao11 t319.length co11]] (by rfl) rfl rfl (by (try simp only [lM,lC,lN]);first|done|rfl|(simp only [lD,lT];rfl)) ?_
     with_reducible refine (laws_qdPages.calls kj46 _ _ t345 _ _ t348 _ _ t316 _ _ t319 true _ ?side1 ?side2 ?side3 ?side4 ?side5 ?side6 ?side7 ?side8 A55.out).mono ?_
     (case side1=>exact cL (rR Bw.out).2.2)
     (case side2=>exact (rR Bw.out).2.1)
     (case side3=>exact cL (rR Bx.out).2.2)
     (case side4=>exact (rR Bx.out).2.1)
     (case side5=>exact cL (rR Bg.out).2.2)
     (case side6=>exact (rR Bg.out).2.1)
     (case side7=>exact cL (rR Bh.out).2.2)
     (case side8=>exact (rR Bh.out).2.1)
     rintro e w74 ⟨rfl,hb⟩
     refine ⟨_,rfl,?_⟩
     have n0_:=Am (rB (rL Bg.out) hb)
     have n1_:=Am (rB (rL Bh.out) hb)
     have n2_:=Am (rB (rL Be.out) hb)
     have n3_:=Am (rB (rL Bf.out) hb)
     have n4_:=Am (rB (rL Bk.out) hb)
     have n5_:=Am (rB (rL Bl.out) hb)
     have n6_:=Am (rB (rL Bw.out) hb)
     have n7_:=Am (rB (rL Bx.out) hb)
     have n8_:=Am (bX Bd.out hb)
     have n9_:=Am (bX Ba.out hb)
     have n10_:=Am (bX Bc.out hb)
     have n11_:=Am (bX Bn.out hb)
     have n12_:=Am (bP (by repeat (first|(with_reducible first|exact HB.out|apply oA|apply pN|apply o1|refine bS ?_ Bq.out|refine bS ?_ Bt.out|refine bS ?_ By.out|refine bS ?_ BF.out)|exact HB.out)) hb)
     clear Bg
     clear Bh
     clear Be
     clear Bf
     clear Bk
     clear Bl
     clear Bw
     clear Bx
     clear Bd
     clear Ba
     clear Bc
     clear Bn
     clear HB
     have Bg:=n0_
     have Bh:=n1_
     have Be:=n2_
     have Bf:=n3_
     have Bk:=n4_
     have Bl:=n5_
     have Bw:=n6_
     have Bx:=n7_
     have Bd:=n8_
     have Ba:=n9_
     have Bc:=n10_
     have Bn:=n11_
     have HB:=n12_
     clear n0_ n1_ n2_ n3_ n4_ n5_ n6_ n7_ n8_ n9_ n10_ n11_ n12_
     (try clear hb)
     (try clear hb2)
     (try clear hk)
     (try clear hi)
     refine hK.out _ _ ⟨(bC Bn.out 0).trans rfl,(bC Bn.out 1).trans rfl,(bC Bd.out 0).trans rfl,(bC Bd.out 1).trans rfl,(bC Ba.out 0).trans rfl,(bC Ba.out 1).trans rfl⟩ (fun hHeld=>?_)
     clear hK K
     refine norm_ (by show Act.put _ (some 82) _=_;simp only [Act.put,lA,lZ,lS,iw,jw];rfl) ?_
     refine pS 13 83 z7q14 HT_ rfl rfl (by kernel_rfl) (by rfl) (by intro w';go_simp;with_reducible rfl) (by simp only [Act.put,lA,lZ,lS,iw,jw];rfl) ?_
     refine pS 14 84 z7q15 HT_ rfl rfl (by kernel_rfl) (by rfl) (by intro w';go_simp;with_reducible rfl) (by simp only [Act.put,lA,lZ,lS,iw,jw];rfl) ?_
     refine tS 15 85 z7q16 HT_ hHeld rfl rfl (by kernel_rfl) (by rfl) (by rintro w' ⟨s0,s1,s2,s3,s4,s5⟩;go_simp;with_reducible rfl) (by simp only [Act.put,lA,lZ,lS,iw,jw];rfl) ?_
     refine tS 17 87 z7q17 HT_ hHeld rfl rfl (by kernel_rfl) (by rfl) (by rintro w' ⟨s0,s1,s2,s3,s4,s5⟩;go_simp;with_reducible rfl) (by simp only [Act.put,lA,lZ,lS,iw,jw];rfl) ?_
     refine oS 16 86 z7q18 HT_ rfl rfl (by kernel_rfl) (by decide) (fun K hK=>?_)
     refine goes_ Try.func13 (by kernel_rfl) rfl #[.agg #[.slice Ao14 t324.length co14,.slice Ao17 t327.length co17]] (by rfl) rfl rfl (by (try simp only [lM,lC,lN]);first|done|rfl|(simp only [lD,lT];rfl)) ?_
     with_reducible refine (impl_PagesRoom.calls kj46 _ _ t324 _ _ t327 t354 _ ?side1 ?side2 ?side3 ?side4 A57.out).mono ?_
     (case side1=>exact cL (rR Be.out).2.2)
     (case side2=>exact (rR Be.out).2.1)
     (case side3=>exact cL (rR Bf.out).2.2)
     (case side4=>exact (rR Bf.out).2.1)
     rintro e w75 ⟨rfl,hb⟩
     refine ⟨_,rfl,?_⟩
     have n0_:=Am (rB (rL Bg.out) hb)
     have n1_:=Am (rB (rL Bh.out) hb)
     have n2_:=Am (rB (rL Be.out) hb)
     have n3_:=Am (rB (rL Bf.out) hb)
     have n4_:=Am (rB (rL Bk.out) hb)
     have n5_:=Am (rB (rL Bl.out) hb)
     have n6_:=Am (rB (rL Bw.out) hb)
     have n7_:=Am (rB (rL Bx.out) hb)
     have n8_:=Am (bX Bd.out hb)
     have n9_:=Am (bX Ba.out hb)
     have n10_:=Am (bX Bc.out hb)
     have n11_:=Am (bX Bn.out hb)
     have n12_:=Am (bP (by repeat (first|(with_reducible first|exact HB.out|apply oA|apply pN|apply o1|refine bS ?_ Bq.out|refine bS ?_ Bt.out|refine bS ?_ By.out|refine bS ?_ BF.out)|exact HB.out)) hb)
     clear Bg
     clear Bh
     clear Be
     clear Bf
     clear Bk
     clear Bl
     clear Bw
     clear Bx
     clear Bd
     clear Ba
     clear Bc
     clear Bn
     clear HB
     have Bg:=n0_
     have Bh:=n1_
     have Be:=n2_
     have Bf:=n3_
     have Bk:=n4_
     have Bl:=n5_
     have Bw:=n6_
     have Bx:=n7_
     have Bd:=n8_
     have Ba:=n9_
     have Bc:=n10_
     have Bn:=n11_
     have HB:=n12_
     clear n0_ n1_ n2_ n3_ n4_ n5_ n6_ n7_ n8_ n9_ n10_ n11_ n12_
     (try clear hb)
     (try clear hb2)
     (try clear hk)
     (try clear hi)
     refine hK.out _ _ ⟨(bC Bn.out 0).trans rfl,(bC Bn.out 1).trans rfl,(bC Bd.out 0).trans rfl,(bC Bd.out 1).trans rfl,(bC Ba.out 0).trans rfl,(bC Ba.out 1).trans rfl⟩ (fun hHeld=>?_)
     clear hK K
     refine norm_ (by show Act.put _ (some 86) _=_;simp only [Act.put,lA,lZ,lS,iw,jw];rfl) ?_
     refine oS 18 88 z7q19 HT_ rfl rfl (by kernel_rfl) (by decide) (fun K hK=>?_)
     refine goes_ Try.func13 (by kernel_rfl) rfl #[.agg #[.slice Ao9 t316.length co9,.slice Ao11 t319.length co11]] (by rfl) rfl rfl (by (try simp only [lM,lC,lN]);first|done|rfl|(simp only [lD,lT];rfl)) ?_
     with_reducible refine (impl_PagesRoom.calls kj46 _ _ t316 _ _ t319 t355 _ ?side1 ?side2 ?side3 ?side4 A58.out).mono ?_
     (case side1=>exact cL (rR Bg.out).2.2)
     (case side2=>exact (rR Bg.out).2.1)
     (case side3=>exact cL (rR Bh.out).2.2)
     (case side4=>exact (rR Bh.out).2.1)
     rintro e w76 ⟨rfl,hb⟩
     refine ⟨_,rfl,?_⟩
     have n0_:=Am (rB (rL Bg.out) hb)
     have n1_:=Am (rB (rL Bh.out) hb)
     have n2_:=Am (rB (rL Be.out) hb)
     have n3_:=Am (rB (rL Bf.out) hb)
     have n4_:=Am (rB (rL Bk.out) hb)
     have n5_:=Am (rB (rL Bl.out) hb)
     have n6_:=Am (rB (rL Bw.out) hb)
     have n7_:=Am (rB (rL Bx.out) hb)
     have n8_:=Am (bX Bd.out hb)
     have n9_:=Am (bX Ba.out hb)
     have n10_:=Am (bX Bc.out hb)
     have n11_:=Am (bX Bn.out hb)
     have n12_:=Am (bP (by repeat (first|(with_reducible first|exact HB.out|apply oA|apply pN|apply o1|refine bS ?_ Bq.out|refine bS ?_ Bt.out|refine bS ?_ By.out|refine bS ?_ BF.out)|exact HB.out)) hb)
     clear Bg
     clear Bh
     clear Be
     clear Bf
     clear Bk
     clear Bl
     clear Bw
     clear Bx
     clear Bd
     clear Ba
     clear Bc
     clear Bn
     clear HB
     have Bg:=n0_
     have Bh:=n1_
     have Be:=n2_
     have Bf:=n3_
     have Bk:=n4_
     have Bl:=n5_
     have Bw:=n6_
     have Bx:=n7_
     have Bd:=n8_
     have Ba:=n9_
     have Bc:=n10_
     have Bn:=n11_
     have HB:=n12_
     clear n0_ n1_ n2_ n3_ n4_ n5_ n6_ n7_ n8_ n9_ n10_ n11_ n12_
     (try clear hb)
     (try clear hb2)
     (try clear hk)
     (try clear hi)
     refine hK.out _ _ ⟨(bC Bn.out 0).trans rfl,(bC Bn.out 1).trans rfl,(bC Bd.out 0).trans rfl,(bC Bd.out 1).trans rfl,(bC Ba.out 0).trans rfl,(bC Ba.out 1).trans rfl⟩ (fun hHeld=>?_)
     clear hK K
     refine norm_ (by show Act.put _ (some 88) _=_;simp only [Act.put,lA,lZ,lS,iw,jw];rfl) ?_
     refine pS 19 89 z7q20 HT_ rfl rfl (by kernel_rfl) (by rfl) (by intro w';go_simp;with_reducible rfl) (by simp only [Act.put,lA,lZ,lS,iw,jw];rfl) ?_
     refine pS 20 90 z7q21 HT_ rfl rfl (by kernel_rfl) (by rfl) (by intro w';go_simp;with_reducible rfl) (by simp only [Act.put,lA,lZ,lS,iw,jw];rfl) ?_
     refine pS 21 91 z7q22 HT_ rfl rfl (by kernel_rfl) (by rfl) (by intro w';go_simp;with_reducible rfl) (by simp only [Act.put,lA,lZ,lS,iw,jw];rfl) ?_
     refine pS 22 2 z7q23 HT_ rfl rfl (by kernel_rfl) (by rfl) (by intro w';go_simp;with_reducible rfl) (by simp only [Act.put,lA,lZ,lS,iw,jw];rfl) ?_
     refine done_ (done_of HT_.out (by kernel_rfl)) ?_
     try go_wp2
     go_ret
     exact ⟨by first|rfl|(simp [errW_none,errW_some] <;> rfl)|(simp [*,errW_none,errW_some] <;> rfl),by repeat (first|(with_reducible first|exact HB.out|apply oA|apply pN|apply o1|refine bS ?_ Bq.out|refine bS ?_ Bt.out|refine bS ?_ By.out|refine bS ?_ BF.out)|exact HB.out)⟩
/-- THE ONE PURE STATEMENT of laws_FnPagesTake: yours. -/
def laws_FnPagesTake.Pure:Prop:=∀ (l0:List Int),l0.length≤maxLen → l0.length * 1≤140737488351232 → (∀ x ∈ l0,(Lit.int .u8 x).wf=true) → ∃ k,laws_FnPagesTake.f k l0=some true
theorem laws_FnPagesTake.walk (P:laws_FnPagesTake.Pure) (a0:Option Addr) (len0 cap0:Nat) (z0:List Int) (w:World) (w0:(a0=none∧len0=0∧cap0=0∧z0=[])∨∃ x,a0=some x∧len0≤cap0∧cap0≤maxLen∧z0.length=cap0∧(∀ i,i<z0.length → w.cell? (x.add i)=some (.int .u8 (z0.getD i 0)))∧∀ n ∈ z0,(Lit.int .u8 n).wf=true) (y0:len0 * 1≤140737488351232) :
  Calls Try.prog 7 #[.slice a0 len0 cap0] w fun e w'=>e=.returned (.bool true)∧Below w.heap.size w w':=by
 obtain ⟨l0,rfl,hr0,hm0,hw0,hc0⟩:=ReadsInt.ofRowC w0
 obtain ⟨k,h⟩:=P l0 hm0 y0 hw0
 refine (laws_FnPagesTake.calls k _ _ l0 true w (Kd.C_of_reads (d:=(0:Int)) (h1:=fun _=>rfl) hr0) hc0 h ⟨rfl⟩).mono ?_
 rintro e w' ⟨rfl,hd⟩
 exact ⟨rfl,hd⟩

end Go.Proofs.Ytpdfkbggaihfpaa.PFnPagesTake
