/- Proved here, without a condition beyond those that each theorem states: what the Go functions named below do is what the plain functions of the same names say. Written by xprint.py, a program of this session. -/
import Derived.Test.YtpacdakadkblgaaCD
import Derived.Test.YtpacdakadkblgaaCE
import Derived.Test.YtpacdakadkblgaaCF
import Derived.Test.YtpacdakadkblgaaPFnClockDropx0
import Derived.Test.YtpacdakadkblgaaPFnClockDropx9
import Derived.Test.YtpacdakadkblgaaPFnClockDropx10
import Derived.Test.YtpacdakadkblgaaPFnClockDropx11
namespace Go.Proofs.Ytpacdakadkblgaa.PFnClockDrop
open Go.RowKit Go.Proofs.YtpacdakadkblgaaW.PrintWords Go.Proofs.YtpacdakadkblgaaW.PrintLast Go.Proofs.YtpacdakadkblgaaW.PrintMore
attribute [local go_sem] max2_int min2_int max_two min_two max_three min_three max_four min_four   -- for this text's walks alone
set_option linter.unusedVariables false
set_option linter.unusedSimpArgs false

attribute [local go_sem ↓] isSome_setCell_
/-! ### laws_FnClockDrop: function 3 -/
mutual
def laws_FnClockDrop.j0 : Nat → Int → Bool → Bool → Int → List (S35) → Int → List (S35) → Option (Bool)
|0, _, _, _, _, _, _, _ => none
|k + 1, x4, x6, x9, x273000, x273001, x279000, x279001 => if x9 = true then (laws_FnClockDrop.j1 k x4 x9 (!x6) x273000 x273001 x279000 x279001) else (laws_FnClockDrop.j1 k x4 x9 true x273000 x273001 x279000 x279001)
def laws_FnClockDrop.j1 : Nat → Int → Bool → Bool → Int → List (S35) → Int → List (S35) → Option (Bool)
|0, _, _, _, _, _, _, _ => none
|k + 1, x4, x9, x50, x273000, x273001, x279000, x279001 => if x50 = true then (some x9) else ((impl_ClockTick.f k x279000 x279001 100).bind fun bt286 => (laws_FnClockDrop.l0 k x4 bt286.2.2.1 0 x273000 x273001 x279000 x279001))
def laws_FnClockDrop.l0 : Nat → Int → List Int → Int → Int → List (S35) → Int → List (S35) → Option (Bool)
|0, _, _, _, _, _, _, _ => none
|k + 1, x4, x11, x13, x273000, x273001, x279000, x279001 => if x13 < (x11.length : Int) then (if 0 ≤ x13 then (if (rd x11 x13) = x4 then (some false) else (laws_FnClockDrop.l0 k x4 x11 (wrap64 (x13 + 1)) x273000 x273001 x279000 x279001)) else (none)) else (laws_FnClockDrop.l1 k x4 0 x273000 x273001 x279000 x279001)
def laws_FnClockDrop.l1 : Nat → Int → Int → Int → List (S35) → Int → List (S35) → Option (Bool)
|0, _, _, _, _, _, _ => none
|k + 1, x4, x14, x273000, x273001, x279000, x279001 => if x14 < (x273001.length : Int) then (if 0 ≤ x14 then (if ((rd_T35 x273001 x14).f0) = x4 then ((impl_ClockSet.f x279000 x279001 x4 (wrap64 (((rd_T35 x273001 x14).f1) - x273000)) ((rd_T35 x273001 x14).f2)).bind fun bt299 => (if bt299.2.2 = true then ((laws_qdClock.f k bt299.1 bt299.2.1 x273000 x273001).bind fun t305 => (if t305 = true then ((impl_ClockOk.f x279000 x279001).bind fun t306 => (some t306)) else (some false))) else (some false))) else (laws_FnClockDrop.l1 k x4 (wrap64 (x14 + 1)) x273000 x273001 x279000 x279001)) else (none)) else (some false)
end
def laws_FnClockDrop.f (k : Nat) (l0 : List Int) : Option (Bool) := if (l0.length : Int) > 1048576 then (some true) else ((spec_DrawClockDrop.f k l0).bind fun bt267 => ((impl_ClockDrop.f bt267.1 bt267.2.1 bt267.2.2).bind fun bt273 => ((spec_ClockDrop.f k bt267.1 bt267.2.1 bt267.2.2).bind fun bt279 => ((laws_qdClock.f k bt273.1 bt273.2.1 bt279.1 bt279.2.1).bind fun t285 => (if t285 = true then (laws_FnClockDrop.j0 k bt267.2.2 bt273.2.2 (bt273.2.2 == bt279.2.2) bt267.1 bt267.2.1 bt273.1 bt273.2.1) else (laws_FnClockDrop.j0 k bt267.2.2 bt273.2.2 false bt267.1 bt267.2.1 bt273.1 bt273.2.1))))))
theorem laws_FnClockDrop.mono_l : ∀ k, (∀ y0 y1 y2 y3 y4 y5 y6, LeO (laws_FnClockDrop.j0 k y0 y1 y2 y3 y4 y5 y6) (laws_FnClockDrop.j0 (k + 1) y0 y1 y2 y3 y4 y5 y6)) ∧ (∀ y0 y1 y2 y3 y4 y5 y6, LeO (laws_FnClockDrop.j1 k y0 y1 y2 y3 y4 y5 y6) (laws_FnClockDrop.j1 (k + 1) y0 y1 y2 y3 y4 y5 y6)) ∧ (∀ y0 y1 y2 y3 y4 y5 y6, LeO (laws_FnClockDrop.l0 k y0 y1 y2 y3 y4 y5 y6) (laws_FnClockDrop.l0 (k + 1) y0 y1 y2 y3 y4 y5 y6)) ∧ (∀ y0 y1 y2 y3 y4 y5, LeO (laws_FnClockDrop.l1 k y0 y1 y2 y3 y4 y5) (laws_FnClockDrop.l1 (k + 1) y0 y1 y2 y3 y4 y5))
|0 => ⟨fun _ _ _ _ _ _ _ r h => by simp [laws_FnClockDrop.j0] at h, fun _ _ _ _ _ _ _ r h => by simp [laws_FnClockDrop.j1] at h, fun _ _ _ _ _ _ _ r h => by simp [laws_FnClockDrop.l0] at h, fun _ _ _ _ _ _ r h => by simp [laws_FnClockDrop.l1] at h⟩
|k + 1 => by
  obtain ⟨ih0, ih1, ih2, ih3⟩ := laws_FnClockDrop.mono_l k
  refine ⟨?_, ?_, ?_, ?_⟩
  ·intro y0 y1 y2 y3 y4 y5 y6
   unfold laws_FnClockDrop.j0
   repeat' first
  |(with_reducible exact ih0 _ _ _ _ _ _ _)
  |(with_reducible exact ih1 _ _ _ _ _ _ _)
  |(with_reducible exact ih2 _ _ _ _ _ _ _)
  |(with_reducible exact ih3 _ _ _ _ _ _)
  |(with_reducible exact impl_ClockTick.mono _ _ _ _)
  |(with_reducible exact laws_qdClock.mono _ _ _ _ _)
  |(with_reducible exact spec_ClockDrop.mono _ _ _ _)
  |(with_reducible exact spec_DrawClockDrop.mono _ _)
  |(with_reducible exact LeO.refl _)
  |(with_reducible exact LeO.none _)
  |(with_reducible refine LeO.ite ?_ ?_)
  |(with_reducible refine LeO.bind ?_ (fun _ => ?_))
  |exact ih0 _ _ _ _ _ _ _
  |exact ih1 _ _ _ _ _ _ _
  |exact ih2 _ _ _ _ _ _ _
  |exact ih3 _ _ _ _ _ _
  |exact impl_ClockTick.mono _ _ _ _
  |exact laws_qdClock.mono _ _ _ _ _
  |exact spec_ClockDrop.mono _ _ _ _
  |exact spec_DrawClockDrop.mono _ _
  |exact LeO.none _
  |refine LeO.ite ?_ ?_
  |refine LeO.bind ?_ (fun _ => ?_)
  ·intro y0 y1 y2 y3 y4 y5 y6
   unfold laws_FnClockDrop.j1
   repeat' first
  |(with_reducible exact ih0 _ _ _ _ _ _ _)
  |(with_reducible exact ih1 _ _ _ _ _ _ _)
  |(with_reducible exact ih2 _ _ _ _ _ _ _)
  |(with_reducible exact ih3 _ _ _ _ _ _)
  |(with_reducible exact impl_ClockTick.mono _ _ _ _)
  |(with_reducible exact laws_qdClock.mono _ _ _ _ _)
  |(with_reducible exact spec_ClockDrop.mono _ _ _ _)
  |(with_reducible exact spec_DrawClockDrop.mono _ _)
  |(with_reducible exact LeO.refl _)
  |(with_reducible exact LeO.none _)
  |(with_reducible refine LeO.ite ?_ ?_)
  |(with_reducible refine LeO.bind ?_ (fun _ => ?_))
  |exact ih0 _ _ _ _ _ _ _
  |exact ih1 _ _ _ _ _ _ _
  |exact ih2 _ _ _ _ _ _ _
  |exact ih3 _ _ _ _ _ _
  |exact impl_ClockTick.mono _ _ _ _
  |exact laws_qdClock.mono _ _ _ _ _
  |exact spec_ClockDrop.mono _ _ _ _
  |exact spec_DrawClockDrop.mono _ _
  |exact LeO.none _
  |refine LeO.ite ?_ ?_
  |refine LeO.bind ?_ (fun _ => ?_)
  ·intro y0 y1 y2 y3 y4 y5 y6
   unfold laws_FnClockDrop.l0
   repeat' first
  |(with_reducible exact ih0 _ _ _ _ _ _ _)
  |(with_reducible exact ih1 _ _ _ _ _ _ _)
  |(with_reducible exact ih2 _ _ _ _ _ _ _)
  |(with_reducible exact ih3 _ _ _ _ _ _)
  |(with_reducible exact impl_ClockTick.mono _ _ _ _)
  |(with_reducible exact laws_qdClock.mono _ _ _ _ _)
  |(with_reducible exact spec_ClockDrop.mono _ _ _ _)
  |(with_reducible exact spec_DrawClockDrop.mono _ _)
  |(with_reducible exact LeO.refl _)
  |(with_reducible exact LeO.none _)
  |(with_reducible refine LeO.ite ?_ ?_)
  |(with_reducible refine LeO.bind ?_ (fun _ => ?_))
  |exact ih0 _ _ _ _ _ _ _
  |exact ih1 _ _ _ _ _ _ _
  |exact ih2 _ _ _ _ _ _ _
  |exact ih3 _ _ _ _ _ _
  |exact impl_ClockTick.mono _ _ _ _
  |exact laws_qdClock.mono _ _ _ _ _
  |exact spec_ClockDrop.mono _ _ _ _
  |exact spec_DrawClockDrop.mono _ _
  |exact LeO.none _
  |refine LeO.ite ?_ ?_
  |refine LeO.bind ?_ (fun _ => ?_)
  ·intro y0 y1 y2 y3 y4 y5
   unfold laws_FnClockDrop.l1
   repeat' first
  |(with_reducible exact ih0 _ _ _ _ _ _ _)
  |(with_reducible exact ih1 _ _ _ _ _ _ _)
  |(with_reducible exact ih2 _ _ _ _ _ _ _)
  |(with_reducible exact ih3 _ _ _ _ _ _)
  |(with_reducible exact impl_ClockTick.mono _ _ _ _)
  |(with_reducible exact laws_qdClock.mono _ _ _ _ _)
  |(with_reducible exact spec_ClockDrop.mono _ _ _ _)
  |(with_reducible exact spec_DrawClockDrop.mono _ _)
  |(with_reducible exact LeO.refl _)
  |(with_reducible exact LeO.none _)
  |(with_reducible refine LeO.ite ?_ ?_)
  |(with_reducible refine LeO.bind ?_ (fun _ => ?_))
  |exact ih0 _ _ _ _ _ _ _
  |exact ih1 _ _ _ _ _ _ _
  |exact ih2 _ _ _ _ _ _ _
  |exact ih3 _ _ _ _ _ _
  |exact impl_ClockTick.mono _ _ _ _
  |exact laws_qdClock.mono _ _ _ _ _
  |exact spec_ClockDrop.mono _ _ _ _
  |exact spec_DrawClockDrop.mono _ _
  |exact LeO.none _
  |refine LeO.ite ?_ ?_
  |refine LeO.bind ?_ (fun _ => ?_)
theorem laws_FnClockDrop.mono : ∀ a0 k, LeO (laws_FnClockDrop.f k a0) (laws_FnClockDrop.f (k + 1) a0) := by
 intro a0 k
 obtain ⟨ih0, ih1, ih2, ih3⟩ := laws_FnClockDrop.mono_l k
 unfold laws_FnClockDrop.f
 repeat' first
  |(with_reducible exact ih0 _ _ _ _ _ _ _)
  |(with_reducible exact ih1 _ _ _ _ _ _ _)
  |(with_reducible exact ih2 _ _ _ _ _ _ _)
  |(with_reducible exact ih3 _ _ _ _ _ _)
  |(with_reducible exact impl_ClockTick.mono _ _ _ _)
  |(with_reducible exact laws_qdClock.mono _ _ _ _ _)
  |(with_reducible exact spec_ClockDrop.mono _ _ _ _)
  |(with_reducible exact spec_DrawClockDrop.mono _ _)
  |(with_reducible exact LeO.refl _)
  |(with_reducible exact LeO.none _)
  |(with_reducible refine LeO.ite ?_ ?_)
  |(with_reducible refine LeO.bind ?_ (fun _ => ?_))
  |exact ih0 _ _ _ _ _ _ _
  |exact ih1 _ _ _ _ _ _ _
  |exact ih2 _ _ _ _ _ _ _
  |exact ih3 _ _ _ _ _ _
  |exact impl_ClockTick.mono _ _ _ _
  |exact laws_qdClock.mono _ _ _ _ _
  |exact spec_ClockDrop.mono _ _ _ _
  |exact spec_DrawClockDrop.mono _ _
  |exact LeO.none _
  |refine LeO.ite ?_ ?_
  |refine LeO.bind ?_ (fun _ => ?_)
def laws_FnClockDrop.T19 : Bool × List (List Nat × List Nat) := (true, [([], []), ([], []), ([], []), ([2], [2]), ([], []), ([3, 4], [3, 4]), ([5], [5]), ([6], [6]), ([], []), ([8], [8]), ([7, 9], [7, 9]), ([], []), ([11], [11]), ([], []), ([12, 13], [12, 13]), ([14], [14]), ([15], [15]), ([0, 1, 10, 16], [0, 1, 10, 16]), ([17], [17]), ([18], [18]), ([18], [18]), ([], []), ([21, 19, 17, 0, 1, 2, 3, 4, 5, 6, 7, 8, 9, 10, 11, 12, 13, 14, 15, 16, 17, 18, 19, 21], [19, 21]), ([20, 22, 0, 1, 2, 3, 4, 5, 6, 7, 8, 9, 10, 11, 12, 13, 14, 15, 16, 17, 18, 19, 20, 21, 22], [20])])
def laws_FnClockDrop.B19 : List Nat := [0, 0, 0, 4, 0, 28, 60, 124, 0, 256, 1020, 0, 2048, 0, 14336, 30720, 63488, 131071, 262143, 524287, 524287, 0, 3145727, 8388607]
theorem laws_FnClockDrop.tab19 : rtab .any (opsOf Try.f3 19) = laws_FnClockDrop.T19 := by kernel_rfl
theorem laws_FnClockDrop.bits19 : waitsOk laws_FnClockDrop.T19.2 laws_FnClockDrop.B19 = true := by kernel_rfl
abbrev z3q0 : Array Bool := bQ 24 0
abbrev z3q1 : Array Bool := bQ 24 2
abbrev z3q2 : Array Bool := bQ 24 6
abbrev z3q3 : Array Bool := bQ 24 22
abbrev z3q4 : Array Bool := bQ 24 278
abbrev z3q5 : Array Bool := bQ 24 2326
abbrev z3q6 : Array Bool := bQ 24 10518
abbrev z3q7 : Array Bool := bQ 24 10519
abbrev z3q8 : Array Bool := bQ 24 10527
abbrev z3q9 : Array Bool := bQ 24 10559
abbrev z3q10 : Array Bool := bQ 24 10623
abbrev z3q11 : Array Bool := bQ 24 10751
abbrev z3q12 : Array Bool := bQ 24 11263
abbrev z3q13 : Array Bool := bQ 24 12287
abbrev z3q14 : Array Bool := bQ 24 16383
abbrev z3q15 : Array Bool := bQ 24 32767
abbrev z3q16 : Array Bool := bQ 24 65535
abbrev z3q17 : Array Bool := bQ 24 131071
abbrev z3q18 : Array Bool := bQ 24 4194303
abbrev z3q19 : Array Bool := bQ 24 262143
abbrev z3q20 : Array Bool := bQ 24 2228223
abbrev z3q21 : Array Bool := bQ 24 524287
abbrev z3q22 : Array Bool := bQ 24 1048575
abbrev z3q23 : Array Bool := bQ 24 2097151
abbrev z3q24 : Array Bool := bQ 24 2359295
abbrev z3q25 : Array Bool := bQ 24 2621439
abbrev z3q26 : Array Bool := bQ 24 3145727
abbrev z3q27 : Array Bool := bQ 24 8388607
abbrev z3q28 : Array Bool := bQ 24 16777215
set_option maxHeartbeats 2000000 in
set_option maxRecDepth 100000 in
theorem laws_FnClockDrop.calls (k:Nat) (A0:Option Addr) (c0:Nat) (l0:List Int) (r:Bool) (w:World) (hr0:Kd.C (Kd.int .u8) w A0 l0.length l0) (hc0:l0.length≤c0) (h:laws_FnClockDrop.f k l0=some r) (hT_:Aside0 (r=true)) :
  Calls Try.prog 3 #[.slice A0 l0.length c0] w fun e w'=>e=.returned (.bool r)∧Below w.heap.size w w':=by
 have hu25:=Try.underlying25
 have HR0:=Am hr0
 have HC0:=Am hc0
 clear hr0 hc0
 have HB:=Am (bJ w.heap.size w)
 have H:(if (l0.length:Int) > 1048576 then (some true) else ((spec_DrawClockDrop.f k l0).bind fun bt267=>((impl_ClockDrop.f bt267.1 bt267.2.1 bt267.2.2).bind fun bt273=>((spec_ClockDrop.f k bt267.1 bt267.2.1 bt267.2.2).bind fun bt279=>((laws_qdClock.f k bt273.1 bt273.2.1 bt279.1 bt279.2.1).bind fun t285=>(if t285=true then (laws_FnClockDrop.j0 k bt267.2.2 bt273.2.2 (bt273.2.2 == bt279.2.2) bt267.1 bt267.2.1 bt273.1 bt273.2.1) else (laws_FnClockDrop.j0 k bt267.2.2 bt273.2.2 false bt267.1 bt267.2.1 bt273.1 bt273.2.1)))))))=some r:=h
 clear h
 by_cases c2:(l0.length:Int) > 1048576
 ·rw [if_pos c2] at H
  have c2b0:decide (1048576<(l0.length:Int))=true:=dT c2
  have c2b1:decide (1048576<l0.length)=true:=dT (by omega)
  clear c2
  obtain rfl:=oJ H
  go_enter Try.func3,Try.ntmps3
  go_wp2
  go_ret
  exact ⟨by first|rfl|(simp [errW_none,errW_some] <;> rfl)|(simp [*,errW_none,errW_some] <;> rfl),by repeat (first|(with_reducible first|exact HB.out|apply oA|apply pN|apply o1)|exact HB.out)⟩
 rw [if_neg c2] at H
 have c2b0:decide (1048576<(l0.length:Int))=false:=dF c2
 have c2b1:decide (1048576<l0.length)=false:=dF (by omega)
 clear c2
 replace H:=oC H
 obtain ⟨⟨t267,t268,t271⟩,A30,H⟩:=H
 replace H:((impl_ClockDrop.f t267 t268 t271).bind fun bt273=>((spec_ClockDrop.f k t267 t268 t271).bind fun bt279=>((laws_qdClock.f k bt273.1 bt273.2.1 bt279.1 bt279.2.1).bind fun t285=>(if t285=true then (laws_FnClockDrop.j0 k t271 bt273.2.2 (bt273.2.2 == bt279.2.2) t267 t268 bt273.1 bt273.2.1) else (laws_FnClockDrop.j0 k t271 bt273.2.2 false t267 t268 bt273.1 bt273.2.1)))))=some r:=H
 have A3:=Am A30
 clear A30
 replace H:=oC H
 obtain ⟨⟨t273,t274,t277⟩,A40,H⟩:=H
 replace H:((spec_ClockDrop.f k t267 t268 t271).bind fun bt279=>((laws_qdClock.f k t273 t274 bt279.1 bt279.2.1).bind fun t285=>(if t285=true then (laws_FnClockDrop.j0 k t271 t277 (t277 == bt279.2.2) t267 t268 t273 t274) else (laws_FnClockDrop.j0 k t271 t277 false t267 t268 t273 t274))))=some r:=H
 have A4:=Am A40
 clear A40
 replace H:=oC H
 obtain ⟨⟨t279,t280,t283⟩,A50,H⟩:=H
 replace H:((laws_qdClock.f k t273 t274 t279 t280).bind fun t285=>(if t285=true then (laws_FnClockDrop.j0 k t271 t277 (t277 == t283) t267 t268 t273 t274) else (laws_FnClockDrop.j0 k t271 t277 false t267 t268 t273 t274)))=some r:=H
 have A5:=Am A50
 clear A50
 have HC6:=Am H
 clear H
 go_enter Try.func3,Try.ntmps3
 go_upto_region 6 with (first|((with_reducible refine gC (f:=4) rfl ?_);refine goesL_ (some 22) rfl rfl Try.func4 (by kernel_rfl) rfl #[.slice A0 l0.length c0] rfl (by (try simp only [lM,lC,lN]);first|done|rfl|(simp only [lD,lT];rfl)) ?_;(with_reducible refine (spec_DrawClockDrop.calls k _ _ l0 t267 t268 t271 _ ?side1 ?side2 A3.out).mono ?_);(case side1=>exact cL HR0.out);(case side2=>exact HC0.out);rintro e w7 ⟨v269,rfl,ho0,hb⟩;refine ⟨_,rfl,?_⟩;have n0_:=Am (rW ho0 (bZ (by repeat (first|(with_reducible first|exact HB.out|apply oA|apply pN|apply o1)|exact HB.out))));have n1_:=Am (bP (by repeat (first|(with_reducible first|exact HB.out|apply oA|apply pN|apply o1)|exact HB.out)) hb);clear HB;revert n0_ n1_;intro Br HB;(try clear hb);(try clear hb2);(try clear hk);(try clear hi);(try clear ho0))|((with_reducible refine gD (N:=3) rfl ?_);refine bI ?hg (N:=3) ?hd (cs:=#[.int .i64 0,.slice none 0 0]) (t:=25) ?hr ?_;(case hd=>rfl);(case hg=>rfl);(case hr=>first|(go_simp;done)|(go_simp;rfl));intro Bi hg w8 hbox hb;have n0_:=Am (rB (rL Br.out) hb);have n1_:=Am (bP (by repeat (first|(with_reducible first|exact HB.out|apply oA|apply pN|apply o1)|exact HB.out)) hb);have n2_:=Am (hbox);have n3_:=Am ((by rw [hg];exact (bZ (by repeat (first|(with_reducible first|exact HB.out|apply oA|apply pN|apply o1)|exact HB.out))):w.heap.size≤Bi));have n4_:=Am ((by rw [hg];exact (bZ (by repeat (first|(with_reducible first|exact HB.out|apply oA|apply pN|apply o1)|exact HB.out))):w.heap.size≤Bi));clear Br HB;revert n0_ n1_ n2_ n3_ n4_;intro Br HB Bb DV Bn;clear hb hbox hg;have Dg:=cz0 Bb.out;have Dh:=cz1 Bb.out;have Di:=bF Bb.out 0;have Dj:=bF Bb.out 1;obtain ⟨Ao10,co10,eo10⟩:=rC Br.out;subst eo10)|((with_reducible refine gC (f:=5) rfl ?_);refine goesL_ (some 28) rfl rfl Try.func5 (by kernel_rfl) rfl #[.agg #[.int .i64 t267,.slice Ao10 t268.length co10],.int .i64 t271] rfl (by (try simp only [lM,lC,lN]);first|done|rfl|(simp only [lD,lT];rfl)) ?_;(with_reducible refine (impl_ClockDrop.calls t267 _ _ t268 t271 t273 t274 t277 _ ?side1 ?side2 A4.out).mono ?_);(case side1=>refine (rR (e:=35) (base:=w.heap.size) (ok:=fun k_=>True) (n:=t268.length) (c:=co10) ?_).2.2;exact (by (with_reducible repeat (first|apply rA|apply rN|apply rD));exact (rM (rF (p:=⟨Bi,1,none⟩) (rF (p:=⟨Bi,0,none⟩) (rT Br.out Bb.out (by decide)) (fun _ hk=>hk.2) (.int .i64 t267)) (fun _ hk=>hk.2) (.slice Ao10 t268.length co10)) (fun _ h_=>h_.1))));(case side2=>exact (rR Br.out).2.1);rintro e w11 ⟨v275,rfl,ho0,hb⟩;refine ⟨_,rfl,?_⟩;have n0_:=Am (rX (by (with_reducible repeat (first|apply rA|apply rN|apply rD));exact (rM (rF (p:=⟨Bi,1,none⟩) (rF (p:=⟨Bi,0,none⟩) (rT Br.out Bb.out (by decide)) (fun _ hk=>hk.2) (.int .i64 t267)) (fun _ hk=>hk.2) (.slice Ao10 t268.length co10)) (fun _ h_=>h_.1))) (rZ ho0) hb);have n1_:=Am (rW (rQ ho0 (rI (by (with_reducible repeat (first|apply rA|apply rN|apply rD));exact (rM (rF (p:=⟨Bi,1,none⟩) (rF (p:=⟨Bi,0,none⟩) (rT Br.out Bb.out (by decide)) (fun _ hk=>hk.2) (.int .i64 t267)) (fun _ hk=>hk.2) (.slice Ao10 t268.length co10)) (fun _ h_=>h_.1))))) (bZ (by repeat (first|(with_reducible first|exact HB.out|apply oA|apply pN|apply o1|refine bS ?_ Bn.out)|exact HB.out))));have n2_:=Am (bB (g:=Bi) (o:=.cells #[.int .i64 t267,.slice Ao10 t268.length co10] 25 (0,0)) (by (with_reducible repeat (first|refine bN ?_ _|refine bD ?_|refine bA ?_ _));refine bT (cs:=#[.int .i64 t267,.slice none 0 0]) ?_ 1 _ rfl;(with_reducible repeat (first|refine bN ?_ _|refine bD ?_|refine bA ?_ _));refine bT (cs:=#[.int .i64 0,.slice none 0 0]) ?_ 0 _ rfl;(with_reducible repeat (first|refine bN ?_ _|refine bD ?_|refine bA ?_ _));exact Bb.out) hb);have n3_:=Am (bP (by repeat (first|(with_reducible first|exact HB.out|apply oA|apply pN|apply o1|refine bS ?_ Bn.out)|exact HB.out)) hb);clear Br Bb HB;revert n0_ n1_ n2_ n3_;intro Br Bs Bb HB;(try clear hb);(try clear hb2);(try clear hk);(try clear hi);(try clear ho0))|((with_reducible refine gD (N:=5) rfl ?_);refine bI ?hg (N:=5) ?hd (cs:=#[.int .i64 0,.slice none 0 0]) (t:=25) ?hr ?_;(case hd=>rfl);(case hg=>rfl);(case hr=>first|(go_simp;done)|(go_simp;rfl));intro Bj hg w12 hbox hb;have n0_:=Am (rB (rL Br.out) hb);have n1_:=Am (rB (rL Bs.out) hb);have n2_:=Am (bX Bb.out hb);have n3_:=Am (bP (by repeat (first|(with_reducible first|exact HB.out|apply oA|apply pN|apply o1|refine bS ?_ Bn.out)|exact HB.out)) hb);have n4_:=Am (hbox);have n5_:=Am ((by rw [hg];exact (bZ (by repeat (first|(with_reducible first|exact HB.out|apply oA|apply pN|apply o1|refine bS ?_ Bn.out)|exact HB.out))):w.heap.size≤Bj));have n6_:=Am ((by rw [hg];exact (bZ (by repeat (first|(with_reducible first|exact HB.out|apply oA|apply pN|apply o1|refine bS ?_ Bn.out)|exact HB.out))):w.heap.size≤Bj));have n7_:=Am ((nL Bb.out hg));have n8_:=Am ((nG Bb.out hg));clear Br Bs Bb HB;revert n0_ n1_ n2_ n3_ n4_ n5_ n6_ n7_ n8_;intro Br Bs Bb HB Bc DW Bp BA BH;clear hb hbox hg;have DX:=BH.out;have DY:=BA.out;have BO:=cz0 Bc.out;have BP:=cz1 Bc.out;have BQ:=bF Bc.out 0;have BR:=bF Bc.out 1;obtain ⟨Ao15,co15,eo15⟩:=rC Bs.out;subst eo15;have BS:=cz0 Bb.out;have BT:=cz1 Bb.out;have BU:=bF Bb.out 0;have BV:=bF Bb.out 1)|((with_reducible refine gC (f:=6) rfl ?_);refine goesL_ (some 34) rfl rfl Try.func6 (by kernel_rfl) rfl #[.agg #[.int .i64 t267,.slice Ao10 t268.length co10],.int .i64 t271] rfl (by (try simp only [lM,lC,lN]);first|done|rfl|(simp only [lD,lT];rfl)) ?_;(with_reducible refine (spec_ClockDrop.calls k t267 _ _ t268 t271 t279 t280 t283 _ ?side1 ?side2 A5.out).mono ?_);(case side1=>refine (rR (e:=35) (base:=w.heap.size) (ok:=fun k_=>(True∧some k_≠(.slice Ao15 t274.length co15:Value).ownBlock)) (n:=t268.length) (c:=co10) ?_).2.2;exact (by (with_reducible repeat (first|apply rA|apply rN|apply rD));exact (rM (rF (p:=⟨Bj,1,none⟩) (rF (p:=⟨Bj,0,none⟩) (rT Br.out Bc.out (by decide)) (fun _ hk=>hk.2) (.int .i64 t273)) (fun _ hk=>hk.2) (.slice Ao15 t274.length co15)) (fun _ h_=>h_.1))));(case side2=>exact (rR Br.out).2.1);rintro e w17 ⟨v281,rfl,ho0,hb⟩;refine ⟨_,rfl,?_⟩;have n0_:=Am (rX (by (with_reducible repeat (first|apply rA|apply rN|apply rD));exact (rM (rF (p:=⟨Bj,1,none⟩) (rF (p:=⟨Bj,0,none⟩) (rT Br.out Bc.out (by decide)) (fun _ hk=>hk.2) (.int .i64 t273)) (fun _ hk=>hk.2) (.slice Ao15 t274.length co15)) (fun _ h_=>h_.1))) (rZ ho0) hb);have n1_:=Am (rX (by (with_reducible repeat (first|apply rA|apply rN|apply rD));exact (rM (rF (p:=⟨Bj,1,none⟩) (rF (p:=⟨Bj,0,none⟩) (rT Bs.out Bc.out (by decide)) (fun _ hk=>hk.2) (.int .i64 t273)) (fun _ hk=>hk.2) (.slice Ao15 t274.length co15)) (fun _ h_=>h_.1))) (rZ ho0) hb);have n2_:=Am (rW (rQ (rQ ho0 (rI (by (with_reducible repeat (first|apply rA|apply rN|apply rD));exact (rM (rF (p:=⟨Bj,1,none⟩) (rF (p:=⟨Bj,0,none⟩) (rT Br.out Bc.out (by decide)) (fun _ hk=>hk.2) (.int .i64 t273)) (fun _ hk=>hk.2) (.slice Ao15 t274.length co15)) (fun _ h_=>h_.1))))) (rI (by (with_reducible repeat (first|apply rA|apply rN|apply rD));exact (rM (rF (p:=⟨Bj,1,none⟩) (rF (p:=⟨Bj,0,none⟩) (rT Bs.out Bc.out (by decide)) (fun _ hk=>hk.2) (.int .i64 t273)) (fun _ hk=>hk.2) (.slice Ao15 t274.length co15)) (fun _ h_=>h_.1))))) (bZ (by repeat (first|(with_reducible first|exact HB.out|apply oA|apply pN|apply o1|refine bS ?_ Bn.out|refine bS ?_ Bp.out)|exact HB.out))));have n3_:=Am (bB (g:=Bi) (o:=.cells #[.int .i64 t267,.slice Ao10 t268.length co10] 25 (0,0)) (by (with_reducible repeat (first|refine bN ?_ _|refine bD ?_|refine bA ?_ _|refine bE ?_ BA.out _));exact Bb.out) hb);have n4_:=Am (bB (g:=Bj) (o:=.cells #[.int .i64 t273,.slice Ao15 t274.length co15] 25 (0,0)) (by (with_reducible repeat (first|refine bN ?_ _|refine bD ?_|refine bA ?_ _));refine bT (cs:=#[.int .i64 t273,.slice none 0 0]) ?_ 1 _ rfl;(with_reducible repeat (first|refine bN ?_ _|refine bD ?_|refine bA ?_ _));refine bT (cs:=#[.int .i64 0,.slice none 0 0]) ?_ 0 _ rfl;(with_reducible repeat (first|refine bN ?_ _|refine bD ?_|refine bA ?_ _));exact Bc.out) hb);have n5_:=Am (bP (by repeat (first|(with_reducible first|exact HB.out|apply oA|apply pN|apply o1|refine bS ?_ Bn.out|refine bS ?_ Bp.out)|exact HB.out)) hb);clear Br Bs Bb Bc HB;revert n0_ n1_ n2_ n3_ n4_ n5_;intro Br Bs Bw Bb Bc HB;(try clear hb);(try clear hb2);(try clear hk);(try clear hi);(try clear ho0))|((with_reducible refine gD (N:=7) rfl ?_);refine bI ?hg (N:=7) ?hd (cs:=#[.int .i64 0,.slice none 0 0]) (t:=25) ?hr ?_;(case hd=>rfl);(case hg=>rfl);(case hr=>first|(go_simp;done)|(go_simp;rfl));intro Bk hg w18 hbox hb;have n0_:=Am (rB (rL Br.out) hb);have n1_:=Am (rB (rL Bs.out) hb);have n2_:=Am (rB (rL Bw.out) hb);have n3_:=Am (bX Bb.out hb);have n4_:=Am (bX Bc.out hb);have n5_:=Am (bP (by repeat (first|(with_reducible first|exact HB.out|apply oA|apply pN|apply o1|refine bS ?_ Bn.out|refine bS ?_ Bp.out)|exact HB.out)) hb);have n6_:=Am (hbox);have n7_:=Am ((by rw [hg];exact (bZ (by repeat (first|(with_reducible first|exact HB.out|apply oA|apply pN|apply o1|refine bS ?_ Bn.out|refine bS ?_ Bp.out)|exact HB.out))):w.heap.size≤Bk));have n8_:=Am ((by rw [hg];exact (bZ (by repeat (first|(with_reducible first|exact HB.out|apply oA|apply pN|apply o1|refine bS ?_ Bn.out|refine bS ?_ Bp.out)|exact HB.out))):w.heap.size≤Bk));have n9_:=Am ((nL Bb.out hg));have n10_:=Am ((nG Bb.out hg));have n11_:=Am ((nL Bc.out hg));have n12_:=Am ((nG Bc.out hg));clear Br Bs Bw Bb Bc HB;revert n0_ n1_ n2_ n3_ n4_ n5_ n6_ n7_ n8_ n9_ n10_ n11_ n12_;intro Br Bs Bw Bb Bc HB Bf DZ Bq BB BJ BC BK;clear hb hbox hg;have D0:=BJ.out;have D1:=BB.out;have D2:=BK.out;have D3:=BC.out;have BW:=cz0 Bf.out;have BX:=cz1 Bf.out;have BY:=bF Bf.out 0;have BZ:=bF Bf.out 1;obtain ⟨Ao22,co22,eo22⟩:=rC Bw.out;subst eo22))
 (try simp only [Act.put,lA,lZ,lS])
 go_cut [9] (fun v9 wc=>∃ (kq:Nat) (x9_5:Bool),v9=.bool x9_5∧Aside0 (laws_FnClockDrop.j0 kq t271 t277 x9_5 t267 t268 t273 t274=some r)∧Aside0 (kq≤k)∧Aside0 (Kd.R k35 35 wc w.heap.size (fun k_=>some k_≠((.slice Ao15 t274.length co15):Value).ownBlock∧some k_≠((.slice Ao22 t280.length co22):Value).ownBlock) (.slice Ao10 t268.length co10) t268)∧Aside0 (Kd.R k35 35 wc w.heap.size (fun k_=>some k_≠((.slice Ao10 t268.length co10):Value).ownBlock∧some k_≠((.slice Ao22 t280.length co22):Value).ownBlock) (.slice Ao15 t274.length co15) t274)∧Aside0 (Kd.R k35 35 wc w.heap.size (fun k_=>some k_≠((.slice Ao10 t268.length co10):Value).ownBlock∧some k_≠((.slice Ao15 t274.length co15):Value).ownBlock) (.slice Ao22 t280.length co22) t280)∧Aside0 (wc.heap[Bi]?=some (.cells #[.int .i64 t267,(.slice Ao10 t268.length co10)] 25 (0,0)))∧Aside0 (wc.heap[Bj]?=some (.cells #[.int .i64 t273,(.slice Ao15 t274.length co15)] 25 (0,0)))∧Aside0 (wc.heap[Bk]?=some (.cells #[.int .i64 t279,(.slice Ao22 t280.length co22)] 25 (0,0)))∧Aside0 (Below w.heap.size w wc))
 case first =>
  have H:=HC6.out
  clear HC6
  replace H:=oC H
  obtain ⟨t285,A230,H⟩:=H
  replace H:(if t285=true then (laws_FnClockDrop.j0 k t271 t277 (t277 == t283) t267 t268 t273 t274) else (laws_FnClockDrop.j0 k t271 t277 false t267 t268 t273 t274))=some r:=H
  have A23:=Am A230
  clear A230
  by_cases c24:t285=true
  ·subst c24
   have H1:(laws_FnClockDrop.j0 k t271 t277 (t277 == t283) t267 t268 t273 t274)=some r:=by rw [if_pos rfl] at H;exact H
   clear H
   have H:=H1
   clear H1
   have H':=Am H
   clear H
   have D4:=BH.out
   have D5:=BA.out
   have D6:=BC.out
   have D7:=BK.out
   have B0:=cz0 Bc.out
   have B1:=cz1 Bc.out
   have B2:=bF Bc.out 0
   have B3:=bF Bc.out 1
   have D8:=BJ.out
   have D9:=BB.out
   have B4:=cz0 Bf.out
   have B5:=cz1 Bf.out
   have B6:=bF Bf.out 0
   have B7:=bF Bf.out 1
   go_wp2_with (first|((with_reducible refine gC (f:=7) rfl ?_);refine goesL_ (some 39) rfl rfl Try.func7 (by kernel_rfl) rfl #[.agg #[.int .i64 t273,.slice Ao15 t274.length co15],.agg #[.int .i64 t279,.slice Ao22 t280.length co22]] rfl (by (try simp only [lM,lC,lN]);first|done|rfl|(simp only [lD,lT];rfl)) ?_;(with_reducible refine (laws_qdClock.calls k t273 _ _ t274 t279 _ _ t280 true _ ?side1 ?side2 ?side3 ?side4 A23.out).mono ?_);(case side1=>refine (rR (e:=35) (base:=w.heap.size) (ok:=fun k_=>((True∧some k_≠(.slice Ao10 t268.length co10:Value).ownBlock)∧some k_≠(.slice Ao22 t280.length co22:Value).ownBlock)) (n:=t274.length) (c:=co15) ?_).2.2;exact (by (with_reducible repeat (first|apply rA|apply rN|apply rD));exact (rM (rF (p:=⟨Bk,1,none⟩) (rF (p:=⟨Bk,0,none⟩) (rT Bs.out Bf.out (by decide)) (fun _ hk=>hk.2) (.int .i64 t279)) (fun _ hk=>hk.2) (.slice Ao22 t280.length co22)) (fun _ h_=>h_.1))));(case side2=>exact (rR Bs.out).2.1);(case side3=>refine (rR (e:=35) (base:=w.heap.size) (ok:=fun k_=>((True∧some k_≠(.slice Ao10 t268.length co10:Value).ownBlock)∧some k_≠(.slice Ao15 t274.length co15:Value).ownBlock)) (n:=t280.length) (c:=co22) ?_).2.2;exact (by (with_reducible repeat (first|apply rA|apply rN|apply rD));exact (rM (rF (p:=⟨Bk,1,none⟩) (rF (p:=⟨Bk,0,none⟩) (rT Bw.out Bf.out (by decide)) (fun _ hk=>hk.2) (.int .i64 t279)) (fun _ hk=>hk.2) (.slice Ao22 t280.length co22)) (fun _ h_=>h_.1))));(case side4=>exact (rR Bw.out).2.1);rintro e w30 ⟨rfl,hb⟩;refine ⟨_,rfl,?_⟩;have n0_:=Am (rB (by (with_reducible repeat (first|apply rA|apply rN|apply rD));exact (rM (rF (p:=⟨Bk,1,none⟩) (rF (p:=⟨Bk,0,none⟩) (rT Br.out Bf.out (by decide)) (fun _ hk=>hk.2) (.int .i64 t279)) (fun _ hk=>hk.2) (.slice Ao22 t280.length co22)) (fun _ h_=>h_.1))) hb);have n1_:=Am (rB (by (with_reducible repeat (first|apply rA|apply rN|apply rD));exact (rM (rF (p:=⟨Bk,1,none⟩) (rF (p:=⟨Bk,0,none⟩) (rT Bs.out Bf.out (by decide)) (fun _ hk=>hk.2) (.int .i64 t279)) (fun _ hk=>hk.2) (.slice Ao22 t280.length co22)) (fun _ h_=>h_.1))) hb);have n2_:=Am (rB (by (with_reducible repeat (first|apply rA|apply rN|apply rD));exact (rM (rF (p:=⟨Bk,1,none⟩) (rF (p:=⟨Bk,0,none⟩) (rT Bw.out Bf.out (by decide)) (fun _ hk=>hk.2) (.int .i64 t279)) (fun _ hk=>hk.2) (.slice Ao22 t280.length co22)) (fun _ h_=>h_.1))) hb);have n3_:=Am (bB (g:=Bi) (o:=.cells #[.int .i64 t267,.slice Ao10 t268.length co10] 25 (0,0)) (by (with_reducible repeat (first|refine bN ?_ _|refine bD ?_|refine bA ?_ _|refine bE ?_ BB.out _));exact Bb.out) hb);have n4_:=Am (bB (g:=Bj) (o:=.cells #[.int .i64 t273,.slice Ao15 t274.length co15] 25 (0,0)) (by (with_reducible repeat (first|refine bN ?_ _|refine bD ?_|refine bA ?_ _|refine bE ?_ BC.out _));exact Bc.out) hb);have n5_:=Am (bB (g:=Bk) (o:=.cells #[.int .i64 t279,.slice Ao22 t280.length co22] 25 (0,0)) (by (with_reducible repeat (first|refine bN ?_ _|refine bD ?_|refine bA ?_ _));refine bT (cs:=#[.int .i64 t279,.slice none 0 0]) ?_ 1 _ rfl;(with_reducible repeat (first|refine bN ?_ _|refine bD ?_|refine bA ?_ _));refine bT (cs:=#[.int .i64 0,.slice none 0 0]) ?_ 0 _ rfl;(with_reducible repeat (first|refine bN ?_ _|refine bD ?_|refine bA ?_ _));exact Bf.out) hb);have n6_:=Am (bP (by repeat (first|(with_reducible first|exact HB.out|apply oA|apply pN|apply o1|refine bS ?_ Bn.out|refine bS ?_ Bp.out|refine bS ?_ Bq.out)|exact HB.out)) hb);clear Br Bs Bw Bb Bc Bf HB;revert n0_ n1_ n2_ n3_ n4_ n5_ n6_;intro Br Bs Bw Bb Bc Bf HB;(try clear hb);(try clear hb2);(try clear hk);(try clear hi)))
   go_meet
   case rel=>exact ⟨_,((t277 == t283)),(by first|rfl|(simp;done)|(simp [*];done)),H',⟨by first|omega|exact nR _⟩,⟨by (with_reducible repeat (first|apply rA|apply rN|apply rD));exact rM Br.out (fun _ hk=>⟨hk.1.2,hk.2⟩)⟩,⟨by (with_reducible repeat (first|apply rA|apply rN|apply rD));exact rM Bs.out (fun _ hk=>⟨hk.1.2,hk.2⟩)⟩,⟨by (with_reducible repeat (first|apply rA|apply rN|apply rD));exact rM Bw.out (fun _ hk=>⟨hk.1.2,hk.2⟩)⟩,⟨by (with_reducible repeat (first|refine bN ?_ _|refine bD ?_|refine bA ?_ _));exact Bb.out⟩,⟨by (with_reducible repeat (first|refine bN ?_ _|refine bD ?_|refine bA ?_ _));exact Bc.out⟩,⟨by (with_reducible repeat (first|refine bN ?_ _|refine bD ?_|refine bA ?_ _));exact Bf.out⟩,⟨by repeat (first|(with_reducible first|exact HB.out|apply oA|apply pN|apply o1|refine bS ?_ Bn.out|refine bS ?_ Bp.out|refine bS ?_ Bq.out)|exact HB.out)⟩⟩
  replace c24:=Bool.eq_false_iff.mpr c24
  subst c24
  have H1:(laws_FnClockDrop.j0 k t271 t277 false t267 t268 t273 t274)=some r:=by rw [if_neg (show ¬ (false=true) by decide)] at H;exact H
  clear H
  have H:=H1
  clear H1
  have H':=Am H
  clear H
  have Fa:=BH.out
  have Fb:=BA.out
  have Fc:=BC.out
  have Fd:=BK.out
  have B8:=cz0 Bc.out
  have B9:=cz1 Bc.out
  have Da:=bF Bc.out 0
  have Db:=bF Bc.out 1
  have Fe:=BJ.out
  have Ff:=BB.out
  have Dc:=cz0 Bf.out
  have Dd:=cz1 Bf.out
  have De:=bF Bf.out 0
  have Df:=bF Bf.out 1
  go_wp2_with (first|((with_reducible refine gC (f:=7) rfl ?_);refine goesL_ (some 39) rfl rfl Try.func7 (by kernel_rfl) rfl #[.agg #[.int .i64 t273,.slice Ao15 t274.length co15],.agg #[.int .i64 t279,.slice Ao22 t280.length co22]] rfl (by (try simp only [lM,lC,lN]);first|done|rfl|(simp only [lD,lT];rfl)) ?_;(with_reducible refine (laws_qdClock.calls k t273 _ _ t274 t279 _ _ t280 false _ ?side1 ?side2 ?side3 ?side4 A23.out).mono ?_);(case side1=>refine (rR (e:=35) (base:=w.heap.size) (ok:=fun k_=>((True∧some k_≠(.slice Ao10 t268.length co10:Value).ownBlock)∧some k_≠(.slice Ao22 t280.length co22:Value).ownBlock)) (n:=t274.length) (c:=co15) ?_).2.2;exact (by (with_reducible repeat (first|apply rA|apply rN|apply rD));exact (rM (rF (p:=⟨Bk,1,none⟩) (rF (p:=⟨Bk,0,none⟩) (rT Bs.out Bf.out (by decide)) (fun _ hk=>hk.2) (.int .i64 t279)) (fun _ hk=>hk.2) (.slice Ao22 t280.length co22)) (fun _ h_=>h_.1))));(case side2=>exact (rR Bs.out).2.1);(case side3=>refine (rR (e:=35) (base:=w.heap.size) (ok:=fun k_=>((True∧some k_≠(.slice Ao10 t268.length co10:Value).ownBlock)∧some k_≠(.slice Ao15 t274.length co15:Value).ownBlock)) (n:=t280.length) (c:=co22) ?_).2.2;exact (by (with_reducible repeat (first|apply rA|apply rN|apply rD));exact (rM (rF (p:=⟨Bk,1,none⟩) (rF (p:=⟨Bk,0,none⟩) (rT Bw.out Bf.out (by decide)) (fun _ hk=>hk.2) (.int .i64 t279)) (fun _ hk=>hk.2) (.slice Ao22 t280.length co22)) (fun _ h_=>h_.1))));(case side4=>exact (rR Bw.out).2.1);rintro e w36 ⟨rfl,hb⟩;refine ⟨_,rfl,?_⟩;have n0_:=Am (rB (by (with_reducible repeat (first|apply rA|apply rN|apply rD));exact (rM (rF (p:=⟨Bk,1,none⟩) (rF (p:=⟨Bk,0,none⟩) (rT Br.out Bf.out (by decide)) (fun _ hk=>hk.2) (.int .i64 t279)) (fun _ hk=>hk.2) (.slice Ao22 t280.length co22)) (fun _ h_=>h_.1))) hb);have n1_:=Am (rB (by (with_reducible repeat (first|apply rA|apply rN|apply rD));exact (rM (rF (p:=⟨Bk,1,none⟩) (rF (p:=⟨Bk,0,none⟩) (rT Bs.out Bf.out (by decide)) (fun _ hk=>hk.2) (.int .i64 t279)) (fun _ hk=>hk.2) (.slice Ao22 t280.length co22)) (fun _ h_=>h_.1))) hb);have n2_:=Am (rB (by (with_reducible repeat (first|apply rA|apply rN|apply rD));exact (rM (rF (p:=⟨Bk,1,none⟩) (rF (p:=⟨Bk,0,none⟩) (rT Bw.out Bf.out (by decide)) (fun _ hk=>hk.2) (.int .i64 t279)) (fun _ hk=>hk.2) (.slice Ao22 t280.length co22)) (fun _ h_=>h_.1))) hb);have n3_:=Am (bB (g:=Bi) (o:=.cells #[.int .i64 t267,.slice Ao10 t268.length co10] 25 (0,0)) (by (with_reducible repeat (first|refine bN ?_ _|refine bD ?_|refine bA ?_ _|refine bE ?_ BB.out _));exact Bb.out) hb);have n4_:=Am (bB (g:=Bj) (o:=.cells #[.int .i64 t273,.slice Ao15 t274.length co15] 25 (0,0)) (by (with_reducible repeat (first|refine bN ?_ _|refine bD ?_|refine bA ?_ _|refine bE ?_ BC.out _));exact Bc.out) hb);have n5_:=Am (bB (g:=Bk) (o:=.cells #[.int .i64 t279,.slice Ao22 t280.length co22] 25 (0,0)) (by (with_reducible repeat (first|refine bN ?_ _|refine bD ?_|refine bA ?_ _));refine bT (cs:=#[.int .i64 t279,.slice none 0 0]) ?_ 1 _ rfl;(with_reducible repeat (first|refine bN ?_ _|refine bD ?_|refine bA ?_ _));refine bT (cs:=#[.int .i64 0,.slice none 0 0]) ?_ 0 _ rfl;(with_reducible repeat (first|refine bN ?_ _|refine bD ?_|refine bA ?_ _));exact Bf.out) hb);have n6_:=Am (bP (by repeat (first|(with_reducible first|exact HB.out|apply oA|apply pN|apply o1|refine bS ?_ Bn.out|refine bS ?_ Bp.out|refine bS ?_ Bq.out)|exact HB.out)) hb);clear Br Bs Bw Bb Bc Bf HB;revert n0_ n1_ n2_ n3_ n4_ n5_ n6_;intro Br Bs Bw Bb Bc Bf HB;(try clear hb);(try clear hb2);(try clear hk);(try clear hi)))
  go_meet
  case rel=>exact ⟨_,(false),(by first|rfl|(simp;done)|(simp [*];done)),H',⟨by first|omega|exact nR _⟩,⟨by (with_reducible repeat (first|apply rA|apply rN|apply rD));exact rM Br.out (fun _ hk=>⟨hk.1.2,hk.2⟩)⟩,⟨by (with_reducible repeat (first|apply rA|apply rN|apply rD));exact rM Bs.out (fun _ hk=>⟨hk.1.2,hk.2⟩)⟩,⟨by (with_reducible repeat (first|apply rA|apply rN|apply rD));exact rM Bw.out (fun _ hk=>⟨hk.1.2,hk.2⟩)⟩,⟨by (with_reducible repeat (first|refine bN ?_ _|refine bD ?_|refine bA ?_ _));exact Bb.out⟩,⟨by (with_reducible repeat (first|refine bN ?_ _|refine bD ?_|refine bA ?_ _));exact Bc.out⟩,⟨by (with_reducible repeat (first|refine bN ?_ _|refine bD ?_|refine bA ?_ _));exact Bf.out⟩,⟨by repeat (first|(with_reducible first|exact HB.out|apply oA|apply pN|apply o1|refine bS ?_ Bn.out|refine bS ?_ Bp.out|refine bS ?_ Bq.out)|exact HB.out)⟩⟩
 case rest =>
  clear HC6
  try clear c1
  try clear c2
  try clear c2b0
  try clear c2b1
  try clear p2
  try clear c3
  try clear c4
  try clear c5
  try clear c6
  try clear c7
  try clear c13
  try clear c19
  try clear c20
  try clear c24
  try clear c25
  try clear c26
  try clear c28
  try clear c31
  try clear c32
  try clear c34
  try clear BO
  try clear BP
  try clear BS
  try clear BT
  try clear BW
  try clear BX
  try clear B0
  try clear B1
  try clear B4
  try clear B5
  try clear B8
  try clear B9
  try clear Dc
  try clear Dd
  try clear Dg
  try clear Dh
  try clear BQ
  try clear BR
  try clear BU
  try clear BV
  try clear BY
  try clear BZ
  try clear B2
  try clear B3
  try clear B6
  try clear B7
  try clear Da
  try clear Db
  try clear De
  try clear Df
  try clear Di
  try clear Dj
  obtain ⟨kq,x9_5,rfl,HA,Dq,Ba,Bd,Be,Bb,Bc,Bf,HB⟩:=hcut
  cases kq with
 |zero=>exact absurd HA.out (by simp [laws_FnClockDrop.j0])
 |succ kj5 =>
   have H:=HA.out
   clear HA
   simp only [laws_FnClockDrop.j0] at H
   have HC37:=Am H
   clear H
   go_upto_region 7 with (fail)
   go_cut [50] (fun v50 wc=>∃ (kq:Nat) (x50_36:Bool),v50=.bool x50_36∧Aside0 (laws_FnClockDrop.j1 kq t271 x9_5 x50_36 t267 t268 t273 t274=some r)∧Aside0 (kq≤kj5)∧Aside0 (Kd.R k35 35 wc w.heap.size (fun k_=>some k_≠((.slice Ao15 t274.length co15):Value).ownBlock∧some k_≠((.slice Ao22 t280.length co22):Value).ownBlock) (.slice Ao10 t268.length co10) t268)∧Aside0 (Kd.R k35 35 wc w.heap.size (fun k_=>some k_≠((.slice Ao10 t268.length co10):Value).ownBlock∧some k_≠((.slice Ao22 t280.length co22):Value).ownBlock) (.slice Ao15 t274.length co15) t274)∧Aside0 (Kd.R k35 35 wc w.heap.size (fun k_=>some k_≠((.slice Ao10 t268.length co10):Value).ownBlock∧some k_≠((.slice Ao15 t274.length co15):Value).ownBlock) (.slice Ao22 t280.length co22) t280)∧Aside0 (wc.heap[Bi]?=some (.cells #[.int .i64 t267,(.slice Ao10 t268.length co10)] 25 (0,0)))∧Aside0 (wc.heap[Bj]?=some (.cells #[.int .i64 t273,(.slice Ao15 t274.length co15)] 25 (0,0)))∧Aside0 (wc.heap[Bk]?=some (.cells #[.int .i64 t279,(.slice Ao22 t280.length co22)] 25 (0,0)))∧Aside0 (Below w.heap.size w wc))
   case first =>
    have H:=HC37.out
    clear HC37
    by_cases c38:x9_5=true
    ·subst c38
     have H1:(laws_FnClockDrop.j1 kj5 t271 true (!t277) t267 t268 t273 t274)=some r:=by rw [if_pos rfl] at H;exact H
     clear H
     have H:=H1
     clear H1
     have H':=Am H
     clear H
     go_wp2
     go_meet
     case rel=>exact ⟨_,(!t277),(by first|rfl|(simp;done)|(simp [*];done)),H',⟨by have:=Dq.out;first|omega|exact nR _⟩,⟨by (with_reducible repeat (first|apply rA|apply rN|apply rD));exact Ba.out⟩,⟨by (with_reducible repeat (first|apply rA|apply rN|apply rD));exact Bd.out⟩,⟨by (with_reducible repeat (first|apply rA|apply rN|apply rD));exact Be.out⟩,⟨by (with_reducible repeat (first|refine bN ?_ _|refine bD ?_|refine bA ?_ _));exact Bb.out⟩,⟨by (with_reducible repeat (first|refine bN ?_ _|refine bD ?_|refine bA ?_ _));exact Bc.out⟩,⟨by (with_reducible repeat (first|refine bN ?_ _|refine bD ?_|refine bA ?_ _));exact Bf.out⟩,⟨by repeat (first|(with_reducible first|exact HB.out|apply oA|apply pN|apply o1|refine bS ?_ Bn.out|refine bS ?_ Bp.out|refine bS ?_ Bq.out)|exact HB.out)⟩⟩
    replace c38:=Bool.eq_false_iff.mpr c38
    subst c38
    have H1:(laws_FnClockDrop.j1 kj5 t271 false true t267 t268 t273 t274)=some r:=by rw [if_neg (show ¬ (false=true) by decide)] at H;exact H
    clear H
    have H:=H1
    clear H1
    have H':=Am H
    clear H
    go_wp2
    go_meet
    case rel=>exact ⟨_,(true),(by first|rfl|(simp;done)|(simp [*];done)),H',⟨by have:=Dq.out;first|omega|exact nR _⟩,⟨by (with_reducible repeat (first|apply rA|apply rN|apply rD));exact Ba.out⟩,⟨by (with_reducible repeat (first|apply rA|apply rN|apply rD));exact Bd.out⟩,⟨by (with_reducible repeat (first|apply rA|apply rN|apply rD));exact Be.out⟩,⟨by (with_reducible repeat (first|refine bN ?_ _|refine bD ?_|refine bA ?_ _));exact Bb.out⟩,⟨by (with_reducible repeat (first|refine bN ?_ _|refine bD ?_|refine bA ?_ _));exact Bc.out⟩,⟨by (with_reducible repeat (first|refine bN ?_ _|refine bD ?_|refine bA ?_ _));exact Bf.out⟩,⟨by repeat (first|(with_reducible first|exact HB.out|apply oA|apply pN|apply o1|refine bS ?_ Bn.out|refine bS ?_ Bp.out|refine bS ?_ Bq.out)|exact HB.out)⟩⟩
   case rest =>
    clear HC37
    try clear c1
    try clear c2
    try clear c2b0
    try clear c2b1
    try clear p2
    try clear c3
    try clear c4
    try clear c5
    try clear c6
    try clear c7
    try clear c13
    try clear c19
    try clear c20
    try clear c24
    try clear c25
    try clear c26
    try clear c28
    try clear c31
    try clear c32
    try clear c34
    try clear c38
    try clear BO
    try clear BP
    try clear BS
    try clear BT
    try clear BW
    try clear BX
    try clear B0
    try clear B1
    try clear B4
    try clear B5
    try clear B8
    try clear B9
    try clear Dc
    try clear Dd
    try clear Dg
    try clear Dh
    try clear BQ
    try clear BR
    try clear BU
    try clear BV
    try clear BY
    try clear BZ
    try clear B2
    try clear B3
    try clear B6
    try clear B7
    try clear Da
    try clear Db
    try clear De
    try clear Df
    try clear Di
    try clear Dj
    try clear p2
    obtain ⟨kq,x50_36,rfl,HA,Dz,Ba,Bd,Be,Bb,Bc,Bf,HB⟩:=hcut
    cases kq with
   |zero=>exact absurd HA.out (by simp [laws_FnClockDrop.j1])
   |succ kj36 =>
     have H:=HA.out
     clear HA
     simp only [laws_FnClockDrop.j1] at H
     by_cases c39:x50_36=true
     ·subst c39
      have H1:(some x9_5)=some r:=by rw [if_pos rfl] at H;exact H
      clear H
      have H:=H1
      clear H1
      obtain rfl:=oJ H
      go_wp2
      go_ret
      exact ⟨by first|rfl|(simp [errW_none,errW_some] <;> rfl)|(simp [*,errW_none,errW_some] <;> rfl),by repeat (first|(with_reducible first|exact HB.out|apply oA|apply pN|apply o1|refine bS ?_ Bn.out|refine bS ?_ Bp.out|refine bS ?_ Bq.out)|exact HB.out)⟩
     replace c39:=Bool.eq_false_iff.mpr c39
     subst c39
     have H1:((impl_ClockTick.f kj36 t273 t274 100).bind fun bt286=>(laws_FnClockDrop.l0 kj36 t271 bt286.2.2.1 0 t267 t268 t273 t274))=some r:=by rw [if_neg (show ¬ (false=true) by decide)] at H;exact H
     clear H
     have H:=H1
     clear H1
     replace H:=oC H
     obtain ⟨⟨t286,t287,t290,t293⟩,A400,H⟩:=H
     replace H:(laws_FnClockDrop.l0 kj36 t271 t290 0 t267 t268 t273 t274)=some r:=H
     have A40:=Am A400
     clear A400
     have H':=Am H
     clear H
     have Fg:=BH.out
     have Fh:=BA.out
     have Fi:=BC.out
     have Fj:=BK.out
     have Dr:=cz0 Bc.out
     have Ds:=cz1 Bc.out
     have Dt:=bF Bc.out 0
     have Du:=bF Bc.out 1
     go_wp2_with (first|((with_reducible refine gC (f:=8) rfl ?_);refine goesL_ (some 54) rfl rfl Try.func8 (by kernel_rfl) rfl #[.agg #[.int .i64 t273,.slice Ao15 t274.length co15],.int .i64 100] rfl (by (try simp only [lM,lC,lN]);first|done|rfl|(simp only [lD,lT];rfl)) ?_;(with_reducible refine (impl_ClockTick.calls kj36 t273 _ _ t274 100 t286 t287 t290 t293 _ ?side1 ?side2 A40.out).mono ?_);(case side1=>exact cL (rR Bd.out).2.2);(case side2=>exact (rR Bd.out).2.1);rintro e w44 ⟨v288,v291,rfl,ho0,ho1,hb⟩;refine ⟨_,rfl,?_⟩;have n0_:=Am (rX (rL Ba.out) (rZ ho0) hb);have n1_:=Am (rX (rL Bd.out) (rZ ho0) hb);have n2_:=Am (rX (rL Be.out) (rZ ho0) hb);have n3_:=Am (rW (rQ (rQ (rQ ho0 (rI (rL Ba.out))) (rI (rL Bd.out))) (rI (rL Be.out))) (bZ (by repeat (first|(with_reducible first|exact HB.out|apply oA|apply pN|apply o1|refine bS ?_ Bn.out|refine bS ?_ Bp.out|refine bS ?_ Bq.out)|exact HB.out))));have n4_:=Am (rW ho1 (bZ (by repeat (first|(with_reducible first|exact HB.out|apply oA|apply pN|apply o1|refine bS ?_ Bn.out|refine bS ?_ Bp.out|refine bS ?_ Bq.out)|exact HB.out))));have n5_:=Am (bX Bb.out hb);have n6_:=Am (bX Bc.out hb);have n7_:=Am (bX Bf.out hb);have n8_:=Am (bP (by repeat (first|(with_reducible first|exact HB.out|apply oA|apply pN|apply o1|refine bS ?_ Bn.out|refine bS ?_ Bp.out|refine bS ?_ Bq.out)|exact HB.out)) hb);clear Ba Bd Be Bb Bc Bf HB;revert n0_ n1_ n2_ n3_ n4_ n5_ n6_ n7_ n8_;intro Ba Bd Be Dk Dn Bb Bc Bf HB;(try clear hb);(try clear hb2);(try clear hk);(try clear hi);(try clear ho0);(try clear ho1))|((with_reducible refine gD (N:=10) rfl ?_);refine bI ?hg (N:=10) ?hd (cs:=#[.int .i64 0,.slice none 0 0]) (t:=25) ?hr ?_;(case hd=>rfl);(case hg=>rfl);(case hr=>first|(go_simp;done)|(go_simp;rfl));intro Bo hg w45 hbox hb;have n0_:=Am (rB (rL Ba.out) hb);have n1_:=Am (rB (rL Bd.out) hb);have n2_:=Am (rB (rL Be.out) hb);have n3_:=Am (rB (rL Dk.out) hb);have n4_:=Am (rB (rL Dn.out) hb);have n5_:=Am (bX Bb.out hb);have n6_:=Am (bX Bc.out hb);have n7_:=Am (bX Bf.out hb);have n8_:=Am (bP (by repeat (first|(with_reducible first|exact HB.out|apply oA|apply pN|apply o1|refine bS ?_ Bn.out|refine bS ?_ Bp.out|refine bS ?_ Bq.out)|exact HB.out)) hb);have n9_:=Am (hbox);have n10_:=Am ((by rw [hg];exact (bZ (by repeat (first|(with_reducible first|exact HB.out|apply oA|apply pN|apply o1|refine bS ?_ Bn.out|refine bS ?_ Bp.out|refine bS ?_ Bq.out)|exact HB.out))):w.heap.size≤Bo));have n11_:=Am ((by rw [hg];exact (bZ (by repeat (first|(with_reducible first|exact HB.out|apply oA|apply pN|apply o1|refine bS ?_ Bn.out|refine bS ?_ Bp.out|refine bS ?_ Bq.out)|exact HB.out))):w.heap.size≤Bo));have n12_:=Am ((nL Bb.out hg));have n13_:=Am ((nG Bb.out hg));have n14_:=Am ((nL Bc.out hg));have n15_:=Am ((nG Bc.out hg));have n16_:=Am ((nL Bf.out hg));have n17_:=Am ((nG Bf.out hg));clear Ba Bd Be Dk Dn Bb Bc Bf HB;revert n0_ n1_ n2_ n3_ n4_ n5_ n6_ n7_ n8_ n9_ n10_ n11_ n12_ n13_ n14_ n15_ n16_ n17_;intro Ba Bd Be Dk Dn Bb Bc Bf HB Bm Fk Bv BL BM BN Dl Dm DA;clear hb hbox hg;have Fl:=BM.out;have Fm:=BL.out;have Fn:=Dl.out;have Fo:=BN.out;have Fp:=DA.out;have Fq:=Dm.out;have Dv:=cz0 Bm.out;have Dw:=cz1 Bm.out;have Dx:=bF Bm.out 0;have Dy:=bF Bm.out 1;obtain ⟨Ao50,co50,eo50⟩:=rC Dk.out;subst eo50))
     go_loopg [13] kj36 (fun kq v13 w'=>∃ (x13_3:Int),v13=.int .i64 x13_3∧Aside0 (laws_FnClockDrop.l0 kq t271 t290 x13_3 t267 t268 t273 t274=some r)∧Aside0 (kq≤kj36)∧Aside0 (Kd.R (Kd.int .i64) 3 w' w.heap.size (fun _=>True) v291 t290)∧Aside0 (Kd.R k35 35 w' w.heap.size (fun k_=>some k_≠((.slice Ao15 t274.length co15):Value).ownBlock∧some k_≠((.slice Ao22 t280.length co22):Value).ownBlock∧some k_≠((.slice Ao50 t287.length co50):Value).ownBlock) (.slice Ao10 t268.length co10) t268)∧Aside0 (Kd.R k35 35 w' w.heap.size (fun k_=>some k_≠((.slice Ao10 t268.length co10):Value).ownBlock∧some k_≠((.slice Ao22 t280.length co22):Value).ownBlock∧some k_≠((.slice Ao50 t287.length co50):Value).ownBlock) (.slice Ao15 t274.length co15) t274)∧Aside0 (Kd.R k35 35 w' w.heap.size (fun k_=>some k_≠((.slice Ao10 t268.length co10):Value).ownBlock∧some k_≠((.slice Ao15 t274.length co15):Value).ownBlock∧some k_≠((.slice Ao50 t287.length co50):Value).ownBlock) (.slice Ao22 t280.length co22) t280)∧Aside0 (Kd.R k35 35 w' w.heap.size (fun k_=>some k_≠((.slice Ao10 t268.length co10):Value).ownBlock∧some k_≠((.slice Ao15 t274.length co15):Value).ownBlock∧some k_≠((.slice Ao22 t280.length co22):Value).ownBlock) (.slice Ao50 t287.length co50) t287)∧Aside0 (w'.heap[Bi]?=some (.cells #[.int .i64 t267,(.slice Ao10 t268.length co10)] 25 (0,0)))∧Aside0 (w'.heap[Bj]?=some (.cells #[.int .i64 t273,(.slice Ao15 t274.length co15)] 25 (0,0)))∧Aside0 (w'.heap[Bk]?=some (.cells #[.int .i64 t279,(.slice Ao22 t280.length co22)] 25 (0,0)))∧Aside0 (w'.heap[Bo]?=some (.cells #[.int .i64 t286,(.slice Ao50 t287.length co50)] 25 (0,0)))∧Aside0 (Below w.heap.size w w'))
     case atStart=>exact ⟨(0),(by first|rfl|(simp;done)|(simp [*];done)),H',⟨nR _⟩,⟨by (with_reducible repeat (first|apply rA|apply rN|apply rD));exact rM (rF (p:=⟨Bo,1,none⟩) (rF (p:=⟨Bo,0,none⟩) (rT Dn.out Bm.out (by decide)) (fun _ hk=>hk.2) (.int .i64 t286)) (fun _ hk=>hk.2) (.slice Ao50 t287.length co50)) (fun _ hk=>trivial)⟩,⟨by (with_reducible repeat (first|apply rA|apply rN|apply rD));exact rM (rF (p:=⟨Bo,1,none⟩) (rF (p:=⟨Bo,0,none⟩) (rT Ba.out Bm.out (by decide)) (fun _ hk=>hk.2) (.int .i64 t286)) (fun _ hk=>hk.2) (.slice Ao50 t287.length co50)) (fun _ hk=>⟨hk.1.1.1,⟨hk.1.1.2,hk.1.2⟩⟩)⟩,⟨by (with_reducible repeat (first|apply rA|apply rN|apply rD));exact rM (rF (p:=⟨Bo,1,none⟩) (rF (p:=⟨Bo,0,none⟩) (rT Bd.out Bm.out (by decide)) (fun _ hk=>hk.2) (.int .i64 t286)) (fun _ hk=>hk.2) (.slice Ao50 t287.length co50)) (fun _ hk=>⟨hk.1.1.1,⟨hk.1.1.2,hk.1.2⟩⟩)⟩,⟨by (with_reducible repeat (first|apply rA|apply rN|apply rD));exact rM (rF (p:=⟨Bo,1,none⟩) (rF (p:=⟨Bo,0,none⟩) (rT Be.out Bm.out (by decide)) (fun _ hk=>hk.2) (.int .i64 t286)) (fun _ hk=>hk.2) (.slice Ao50 t287.length co50)) (fun _ hk=>⟨hk.1.1.1,⟨hk.1.1.2,hk.1.2⟩⟩)⟩,⟨by (with_reducible repeat (first|apply rA|apply rN|apply rD));exact rM (rF (p:=⟨Bo,1,none⟩) (rF (p:=⟨Bo,0,none⟩) (rT Dk.out Bm.out (by decide)) (fun _ hk=>hk.2) (.int .i64 t286)) (fun _ hk=>hk.2) (.slice Ao50 t287.length co50)) (fun _ hk=>⟨hk.1.1.1.2,⟨hk.1.1.2,hk.1.2⟩⟩)⟩,⟨by (with_reducible repeat (first|refine bN ?_ _|refine bD ?_|refine bA ?_ _|refine bE ?_ BL.out _));exact Bb.out⟩,⟨by (with_reducible repeat (first|refine bN ?_ _|refine bD ?_|refine bA ?_ _|refine bE ?_ BN.out _));exact Bc.out⟩,⟨by (with_reducible repeat (first|refine bN ?_ _|refine bD ?_|refine bA ?_ _|refine bE ?_ Dm.out _));exact Bf.out⟩,⟨by (with_reducible repeat (first|refine bN ?_ _|refine bD ?_|refine bA ?_ _));refine bT (cs:=#[.int .i64 t286,.slice none 0 0]) ?_ 1 _ rfl;(with_reducible repeat (first|refine bN ?_ _|refine bD ?_|refine bA ?_ _));refine bT (cs:=#[.int .i64 0,.slice none 0 0]) ?_ 0 _ rfl;(with_reducible repeat (first|refine bN ?_ _|refine bD ?_|refine bA ?_ _));exact Bm.out⟩,⟨by repeat (first|(with_reducible first|exact HB.out|apply oA|apply pN|apply o1|refine bS ?_ Bn.out|refine bS ?_ Bp.out|refine bS ?_ Bq.out|refine bS ?_ Bv.out)|exact HB.out)⟩⟩
     case round =>
      clear H'
      try clear c1
      try clear c2
      try clear c2b0
      try clear c2b1
      try clear p2
      try clear c3
      try clear c4
      try clear c5
      try clear c6
      try clear c7
      try clear c8
      try clear c13
      try clear c19
      try clear c20
      try clear c24
      try clear c25
      try clear c26
      try clear c28
      try clear c31
      try clear c32
      try clear c34
      try clear c38
      try clear c39
      try clear c41
      try clear c42
      try clear c46
      try clear c47
      try clear c48
      try clear BO
      try clear BP
      try clear BS
      try clear BT
      try clear BW
      try clear BX
      try clear B0
      try clear B1
      try clear B4
      try clear B5
      try clear B8
      try clear B9
      try clear Dc
      try clear Dd
      try clear Dr
      try clear Ds
      try clear Dv
      try clear Dw
      try clear Dg
      try clear Dh
      try clear BQ
      try clear BR
      try clear BU
      try clear BV
      try clear BY
      try clear BZ
      try clear B2
      try clear B3
      try clear B6
      try clear B7
      try clear Da
      try clear Db
      try clear De
      try clear Df
      try clear Dt
      try clear Du
      try clear Dx
      try clear Dy
      try clear Di
      try clear Dj
      try clear p2
      obtain ⟨x13_3,rfl,HA,HK3,Do,Ba,Bd,Be,Bl,Bb,Bc,Bf,Bm,HB⟩:=hrel
      cases gk with
     |zero=>exact absurd HA.out (by simp [laws_FnClockDrop.l0])
     |succ k3 =>
       have H:=HA.out
       clear HA
       simp only [laws_FnClockDrop.l0] at H
       by_cases c51:x13_3<(t290.length:Int)
       ·rw [if_pos c51] at H
        have c51b0:decide (x13_3<(t290.length:Int))=true:=dT c51
        clear c51
        by_cases c52:0≤x13_3
        rotate_left
        ·rw [if_neg c52] at H
         exact absurd H (by simp)
        rw [if_pos c52] at H
        have c52b0:decide (0≤x13_3)=true:=dT c52
        clear c52
        by_cases c53:(rd t290 x13_3)=t271
        ·rw [if_pos c53] at H
         have c53b0:((rd t290 x13_3) == t271)=true:=beq_iff_eq.mpr c53
         have c53b1:((rd t290 x13_3) != t271)=false:=bne_eq_false_iff_eq.mpr c53
         clear c53
         exact absurd ((oJ H).trans hT_.out) (by decide)
        rw [if_neg c53] at H
        have c53b0:((rd t290 x13_3) == t271)=false:=beq_eq_false_iff_ne.mpr c53
        have c53b1:((rd t290 x13_3) != t271)=true:=bne_iff_ne.mpr c53
        have H':=Am H
        clear H
        obtain ⟨Ao54,co54,eo54⟩:=rC Do.out
        subst eo54
        have p295:0≤(x13_3:Int):=oE (by first|(with_reducible assumption)|assumption)
        have q295:x13_3<(t290.length:Int):=oE (by first|(with_reducible assumption)|assumption)
        obtain ⟨ad295,e295,hx295_0⟩:=Kd.at_int (rR Do.out).2.2 x13_3 p295 q295
        cases e295
        replace p295:=eq_true p295
        replace q295:=eq_true q295
        go_wp2
        go_roundg k3
        case measure=>have:=Dq.out;have:=Dz.out;have:=HK3.out;omega
        case rel=>exact ⟨(wrap64 (x13_3 + 1)),(by first|rfl|(simp;done)|(simp [*];done)),H',⟨by have:=Dq.out;have:=Dz.out;have:=HK3.out;omega⟩,⟨by (with_reducible repeat (first|apply rA|apply rN|apply rD));exact Do.out⟩,⟨by (with_reducible repeat (first|apply rA|apply rN|apply rD));exact Ba.out⟩,⟨by (with_reducible repeat (first|apply rA|apply rN|apply rD));exact Bd.out⟩,⟨by (with_reducible repeat (first|apply rA|apply rN|apply rD));exact Be.out⟩,⟨by (with_reducible repeat (first|apply rA|apply rN|apply rD));exact Bl.out⟩,⟨by (with_reducible repeat (first|refine bN ?_ _|refine bD ?_|refine bA ?_ _));exact Bb.out⟩,⟨by (with_reducible repeat (first|refine bN ?_ _|refine bD ?_|refine bA ?_ _));exact Bc.out⟩,⟨by (with_reducible repeat (first|refine bN ?_ _|refine bD ?_|refine bA ?_ _));exact Bf.out⟩,⟨by (with_reducible repeat (first|refine bN ?_ _|refine bD ?_|refine bA ?_ _));exact Bm.out⟩,⟨by repeat (first|(with_reducible first|exact HB.out|apply oA|apply pN|apply o1|refine bS ?_ Bn.out|refine bS ?_ Bp.out|refine bS ?_ Bq.out|refine bS ?_ Bv.out)|exact HB.out)⟩⟩
       rw [if_neg c51] at H
       have c51b0:decide (x13_3<(t290.length:Int))=false:=dF c51
       clear c51
       have H':=Am H
       clear H
       obtain ⟨Ao55,co55,eo55⟩:=rC Do.out
       subst eo55
       go_wp2
       go_loopg [14] k3 (fun kq v14 w'=>∃ (x14_4:Int),v14=.int .i64 x14_4∧Aside0 (laws_FnClockDrop.l1 kq t271 x14_4 t267 t268 t273 t274=some r)∧Aside0 (kq≤k3)∧Aside0 (Kd.R k35 35 w' w.heap.size (fun k_=>some k_≠((.slice Ao15 t274.length co15):Value).ownBlock∧some k_≠((.slice Ao22 t280.length co22):Value).ownBlock∧some k_≠((.slice Ao50 t287.length co50):Value).ownBlock) (.slice Ao10 t268.length co10) t268)∧Aside0 (Kd.R k35 35 w' w.heap.size (fun k_=>some k_≠((.slice Ao10 t268.length co10):Value).ownBlock∧some k_≠((.slice Ao22 t280.length co22):Value).ownBlock∧some k_≠((.slice Ao50 t287.length co50):Value).ownBlock) (.slice Ao15 t274.length co15) t274)∧Aside0 (Kd.R k35 35 w' w.heap.size (fun k_=>some k_≠((.slice Ao10 t268.length co10):Value).ownBlock∧some k_≠((.slice Ao15 t274.length co15):Value).ownBlock∧some k_≠((.slice Ao50 t287.length co50):Value).ownBlock) (.slice Ao22 t280.length co22) t280)∧Aside0 (Kd.R k35 35 w' w.heap.size (fun k_=>some k_≠((.slice Ao10 t268.length co10):Value).ownBlock∧some k_≠((.slice Ao15 t274.length co15):Value).ownBlock∧some k_≠((.slice Ao22 t280.length co22):Value).ownBlock) (.slice Ao50 t287.length co50) t287)∧Aside0 (w'.heap[Bi]?=some (.cells #[.int .i64 t267,(.slice Ao10 t268.length co10)] 25 (0,0)))∧Aside0 (w'.heap[Bj]?=some (.cells #[.int .i64 t273,(.slice Ao15 t274.length co15)] 25 (0,0)))∧Aside0 (w'.heap[Bk]?=some (.cells #[.int .i64 t279,(.slice Ao22 t280.length co22)] 25 (0,0)))∧Aside0 (w'.heap[Bo]?=some (.cells #[.int .i64 t286,(.slice Ao50 t287.length co50)] 25 (0,0)))∧Aside0 (Below w.heap.size w w'))
       case atStart=>exact ⟨(0),(by first|rfl|(simp;done)|(simp [*];done)),H',⟨nR _⟩,⟨by (with_reducible repeat (first|apply rA|apply rN|apply rD));exact Ba.out⟩,⟨by (with_reducible repeat (first|apply rA|apply rN|apply rD));exact Bd.out⟩,⟨by (with_reducible repeat (first|apply rA|apply rN|apply rD));exact Be.out⟩,⟨by (with_reducible repeat (first|apply rA|apply rN|apply rD));exact Bl.out⟩,⟨by (with_reducible repeat (first|refine bN ?_ _|refine bD ?_|refine bA ?_ _));exact Bb.out⟩,⟨by (with_reducible repeat (first|refine bN ?_ _|refine bD ?_|refine bA ?_ _));exact Bc.out⟩,⟨by (with_reducible repeat (first|refine bN ?_ _|refine bD ?_|refine bA ?_ _));exact Bf.out⟩,⟨by (with_reducible repeat (first|refine bN ?_ _|refine bD ?_|refine bA ?_ _));exact Bm.out⟩,⟨by repeat (first|(with_reducible first|exact HB.out|apply oA|apply pN|apply o1|refine bS ?_ Bn.out|refine bS ?_ Bp.out|refine bS ?_ Bq.out|refine bS ?_ Bv.out)|exact HB.out)⟩⟩
       case round =>
        clear H'
        try clear c1
        try clear c2
        try clear c2b0
        try clear c2b1
        try clear p2
        try clear q2
        try clear hx2
        try clear c3
        try clear c4
        try clear c5
        try clear c6
        try clear p6
        try clear c7
        try clear c8
        try clear c13
        try clear c19
        try clear c20
        try clear c24
        try clear c25
        try clear c26
        try clear c28
        try clear p29
        try clear q29
        try clear hx29
        try clear c31
        try clear c32
        try clear c34
        try clear c38
        try clear c39
        try clear c41
        try clear c42
        try clear c46
        try clear c47
        try clear c48
        try clear c51
        try clear c51b0
        try clear c52
        try clear c52b0
        try clear c53
        try clear c53b0
        try clear c53b1
        try clear BO
        try clear BP
        try clear BS
        try clear BT
        try clear BW
        try clear BX
        try clear B0
        try clear B1
        try clear B4
        try clear B5
        try clear B8
        try clear B9
        try clear Dc
        try clear Dd
        try clear Dr
        try clear Ds
        try clear Dv
        try clear Dw
        try clear Dg
        try clear Dh
        try clear BQ
        try clear BR
        try clear BU
        try clear BV
        try clear BY
        try clear BZ
        try clear B2
        try clear B3
        try clear B6
        try clear B7
        try clear Da
        try clear Db
        try clear De
        try clear Df
        try clear Dt
        try clear Du
        try clear Dx
        try clear Dy
        try clear Di
        try clear Dj
        try clear hx295_0
        try clear p2
        try clear p295
        try clear q295
        obtain ⟨x14_4,rfl,HA,HK4,Ba,Bd,Be,Bl,Bb,Bc,Bf,Bm,HB⟩:=hrel
        cases gk with
       |zero=>exact absurd HA.out (by simp [laws_FnClockDrop.l1])
       |succ k4 =>
         have H:=HA.out
         clear HA
         simp only [laws_FnClockDrop.l1] at H
         by_cases c56:x14_4<(t268.length:Int)
         rotate_left
         ·rw [if_neg c56] at H
          have c56b0:decide (x14_4<(t268.length:Int))=false:=dF c56
          clear c56
          exact absurd ((oJ H).trans hT_.out) (by decide)

         rw [if_pos c56] at H
         have c56b0:decide (x14_4<(t268.length:Int))=true:=dT c56
         clear c56
         by_cases c57:0≤x14_4
         rotate_left
         ·rw [if_neg c57] at H
          exact absurd H (by simp)
         rw [if_pos c57] at H
         have c57b0:decide (0≤x14_4)=true:=dT c57
         clear c57
         by_cases c58:((rd_T35 t268 x14_4).f0)=t271
         rotate_left
         ·rw [if_neg c58] at H
          have c58b0:(((rd_T35 t268 x14_4).f0) == t271)=false:=beq_eq_false_iff_ne.mpr c58
          have c58b1:(((rd_T35 t268 x14_4).f0) != t271)=true:=bne_iff_ne.mpr c58
          have H':=Am H
          clear H
          have FJ:=BA.out
          have FK:=BH.out
          have FL:=BB.out
          have FM:=BJ.out
          have FN:=BL.out
          have FO:=BM.out
          have DR:=cz0 Bb.out
          have DS:=cz1 Bb.out
          have DT:=bF Bb.out 0
          have DU:=bF Bb.out 1
          have p296:0≤(x14_4:Int):=oE (by first|(with_reducible assumption)|assumption)
          have q296:x14_4<(t268.length:Int):=oE (by first|(with_reducible assumption)|assumption)
          obtain ⟨ad296,e296,hx296_0,hx296_1,hx296_2⟩:=at_T35 (rR Ba.out).2.2 x14_4 p296 q296
          cases e296
          replace p296:=eq_true p296
          replace q296:=eq_true q296
          go_wp2
          go_roundg k4
          case measure=>have:=Dq.out;have:=Dz.out;have:=HK3.out;have:=HK4.out;omega
          case rel=>exact ⟨(wrap64 (x14_4 + 1)),(by first|rfl|(simp;done)|(simp [*];done)),H',⟨by have:=Dq.out;have:=Dz.out;have:=HK3.out;have:=HK4.out;omega⟩,⟨by (with_reducible repeat (first|apply rA|apply rN|apply rD));exact Ba.out⟩,⟨by (with_reducible repeat (first|apply rA|apply rN|apply rD));exact Bd.out⟩,⟨by (with_reducible repeat (first|apply rA|apply rN|apply rD));exact Be.out⟩,⟨by (with_reducible repeat (first|apply rA|apply rN|apply rD));exact Bl.out⟩,⟨by (with_reducible repeat (first|refine bN ?_ _|refine bD ?_|refine bA ?_ _));exact Bb.out⟩,⟨by (with_reducible repeat (first|refine bN ?_ _|refine bD ?_|refine bA ?_ _));exact Bc.out⟩,⟨by (with_reducible repeat (first|refine bN ?_ _|refine bD ?_|refine bA ?_ _));exact Bf.out⟩,⟨by (with_reducible repeat (first|refine bN ?_ _|refine bD ?_|refine bA ?_ _));exact Bm.out⟩,⟨by repeat (first|(with_reducible first|exact HB.out|apply oA|apply pN|apply o1|refine bS ?_ Bn.out|refine bS ?_ Bp.out|refine bS ?_ Bq.out|refine bS ?_ Bv.out)|exact HB.out)⟩⟩
         rw [if_pos c58] at H
         have c58b0:(((rd_T35 t268 x14_4).f0) == t271)=true:=beq_iff_eq.mpr c58
         have c58b1:(((rd_T35 t268 x14_4).f0) != t271)=false:=bne_eq_false_iff_eq.mpr c58
         clear c58
         replace H:=oC H
         obtain ⟨⟨t299,t300,t303⟩,A590,H⟩:=H
         replace H:(if t303=true then ((laws_qdClock.f k4 t299 t300 t267 t268).bind fun t305=>(if t305=true then ((impl_ClockOk.f t273 t274).bind fun t306=>(some t306)) else (some false))) else (some false))=some r:=H
         have A59:=Am A590
         clear A590
         by_cases c60:t303=true
         rotate_left
         ·replace c60:=Bool.eq_false_iff.mpr c60
          subst c60
          have H1:(some false)=some r:=by rw [if_neg (show ¬ (false=true) by decide)] at H;exact H
          clear H
          have H:=H1
          clear H1
          exact absurd ((oJ H).trans hT_.out) (by decide)
         subst c60
         have H1:((laws_qdClock.f k4 t299 t300 t267 t268).bind fun t305=>(if t305=true then ((impl_ClockOk.f t273 t274).bind fun t306=>(some t306)) else (some false)))=some r:=by rw [if_pos rfl] at H;exact H
         clear H
         have H:=H1
         clear H1
         replace H:=oC H
         obtain ⟨t305,A610,H⟩:=H
         replace H:(if t305=true then ((impl_ClockOk.f t273 t274).bind fun t306=>(some t306)) else (some false))=some r:=H
         have A61:=Am A610
         clear A610
         by_cases c62:t305=true
         rotate_left
         ·replace c62:=Bool.eq_false_iff.mpr c62
          subst c62
          have H1:(some false)=some r:=by rw [if_neg (show ¬ (false=true) by decide)] at H;exact H
          clear H
          have H:=H1
          clear H1
          exact absurd ((oJ H).trans hT_.out) (by decide)
         subst c62
         have H1:((impl_ClockOk.f t273 t274).bind fun t306=>(some t306))=some r:=by rw [if_pos rfl] at H;exact H
         clear H
         have H:=H1
         clear H1
         replace H:=oC H
         obtain ⟨t306,A630,H⟩:=H
         replace H:(some t306)=some r:=H
         have A63:=Am A630
         clear A630
         obtain rfl:=oJ H
         have Fr:=BA.out
         have Fs:=BH.out
         have Ft:=BB.out
         have Fu:=BJ.out
         have Fv:=BL.out
         have Fw:=BM.out
         have DB:=cz0 Bb.out
         have DC:=cz1 Bb.out
         have DD:=bF Bb.out 0
         have DE:=bF Bb.out 1
         have p296:0≤(x14_4:Int):=oE (by first|(with_reducible assumption)|assumption)
         have q296:x14_4<(t268.length:Int):=oE (by first|(with_reducible assumption)|assumption)
         obtain ⟨ad296,e296,hx296_0,hx296_1,hx296_2⟩:=at_T35 (rR Ba.out).2.2 x14_4 p296 q296
         cases e296
         replace p296:=eq_true p296
         replace q296:=eq_true q296
         try go_wp2
         have n0_:=Am (rD Ba.out)
         have n1_:=Am (rD Bd.out)
         have n2_:=Am (rD Be.out)
         have n3_:=Am (rD Bl.out)
         have n4_:=Am (bD Bb.out)
         have n5_:=Am (bD Bc.out)
         have n6_:=Am (bD Bf.out)
         have n7_:=Am (bD Bm.out)
         have n8_:=Am (o1 HB.out)
         clear Ba
         clear Bd
         clear Be
         clear Bl
         clear Bb
         clear Bc
         clear Bf
         clear Bm
         clear HB
         have Ba:=n0_
         have Bd:=n1_
         have Be:=n2_
         have Bl:=n3_
         have Bb:=n4_
         have Bc:=n5_
         have Bf:=n6_
         have Bm:=n7_
         have HB:=n8_
         clear n0_ n1_ n2_ n3_ n4_ n5_ n6_ n7_ n8_
         have p297:0≤(x14_4:Int):=oE (by first|(with_reducible assumption)|assumption)
         have q297:x14_4<(t268.length:Int):=oE (by first|(with_reducible assumption)|assumption)
         obtain ⟨ad297,e297,hx297_0,hx297_1,hx297_2⟩:=at_T35 (rR Ba.out).2.2 x14_4 p297 q297
         obtain rfl:ad296=ad297:=(by injection e297)
         replace p297:=eq_true p297
         replace q297:=eq_true q297
         have p298:0≤(x14_4:Int):=oE (by first|(with_reducible assumption)|assumption)
         have q298:x14_4<(t268.length:Int):=oE (by first|(with_reducible assumption)|assumption)
         obtain ⟨ad298,e298,hx298_0,hx298_1,hx298_2⟩:=at_T35 (rR Ba.out).2.2 x14_4 p298 q298
         obtain rfl:ad296=ad298:=(by injection e298)
         replace p298:=eq_true p298
         replace q298:=eq_true q298
         refine start_ (n:=24) (S:=fun w'=>w'.cell? ⟨Bj,0,none⟩=some (.int .i64 t273)∧w'.cell? ⟨Bj,1,none⟩=some (.slice Ao15 t274.length co15)∧w'.cell? ⟨Bi,0,none⟩=some (.int .i64 t267)∧w'.cell? ⟨Bi,1,none⟩=some (.slice (some ad296) t268.length co10)∧w'.cell? (ad296.add ((x14_4).toNat * 3))=some (.int .i64 ((rd_T35 t268 x14_4).f0))∧w'.cell? ⟨(ad296.add ((x14_4).toNat * 3)).block,(ad296.add ((x14_4).toNat * 3)).off + 1,none⟩=some (.int .i64 ((rd_T35 t268 x14_4).f1))∧w'.cell? ⟨(ad296.add ((x14_4).toNat * 3)).block,(ad296.add ((x14_4).toNat * 3)).off + 2,none⟩=some (.int .i64 ((rd_T35 t268 x14_4).f2))∧w'.cell? (ad296.add ((x14_4).toNat * 3))=some (.int .i64 ((rd_T35 t268 x14_4).f0))∧w'.cell? ⟨(ad296.add ((x14_4).toNat * 3)).block,(ad296.add ((x14_4).toNat * 3)).off + 1,none⟩=some (.int .i64 ((rd_T35 t268 x14_4).f1))∧w'.cell? ⟨(ad296.add ((x14_4).toNat * 3)).block,(ad296.add ((x14_4).toNat * 3)).off + 2,none⟩=some (.int .i64 ((rd_T35 t268 x14_4).f2))) (ds:=[]) z3q0 (by kernel_rfl) rfl rfl ⟨(bC Bc.out 0).trans rfl,(bC Bc.out 1).trans rfl,(bC Bb.out 0).trans rfl,(bC Bb.out 1).trans rfl,hx297_0,hx297_1,hx297_2,hx298_0,hx298_1,hx298_2⟩ (fun hHeld=>?_);refine with_st laws_FnClockDrop.tab19 laws_FnClockDrop.bits19 (fun _ _ _ _ _ h=>h) (fun HT_=>?_)
         generalize wr.drew=w68 at Ba Bd Be Bl Bb Bc Bf Bm HB hx297_0 hx297_1 hx297_2 hx298_0 hx298_1 hx298_2 hHeld ⊢
         refine pS 1 87 z3q1 HT_ rfl rfl (by kernel_rfl) (by rfl) (by intro w';go_simp;with_reducible rfl) (by simp only [Act.put,lA,lZ,lS,iw,jw];rfl) ?_
         refine pS 2 88 z3q2 HT_ rfl rfl (by kernel_rfl) (by rfl) (by intro w';go_simp;with_reducible rfl) (by simp only [Act.put,lA,lZ,lS,iw,jw];rfl) ?_
         refine pS 4 90 z3q3 HT_ rfl rfl (by kernel_rfl) (by rfl) (by intro w';go_simp;with_reducible rfl) (by simp only [Act.put,lA,lZ,lS,iw,jw];rfl) ?_
         refine pS 8 94 z3q4 HT_ rfl rfl (by kernel_rfl) (by rfl) (by intro w';go_simp;with_reducible rfl) (by simp only [Act.put,lA,lZ,lS,iw,jw];rfl) ?_
         refine pS 11 97 z3q5 HT_ rfl rfl (by kernel_rfl) (by rfl) (by intro w';go_simp;with_reducible rfl) (by simp only [Act.put,lA,lZ,lS,iw,jw];rfl) ?_
         refine pS 13 99 z3q6 HT_ rfl rfl (by kernel_rfl) (by rfl) (by intro w';go_simp;with_reducible rfl) (by simp only [Act.put,lA,lZ,lS,iw,jw];rfl) ?_
         refine tS 0 86 z3q7 HT_ hHeld rfl rfl (by kernel_rfl) (by rfl) (by rintro w' ⟨s0,s1,s2,s3,s4,s5,s6,s7,s8,s9⟩;go_simp;with_reducible rfl) (by simp only [Act.put,lA,lZ,lS,iw,jw];rfl) ?_
         refine tS 3 89 z3q8 HT_ hHeld rfl rfl (by kernel_rfl) (by rfl) (by rintro w' ⟨s0,s1,s2,s3,s4,s5,s6,s7,s8,s9⟩;go_simp;with_reducible rfl) (by simp only [Act.put,lA,lZ,lS,iw,jw];rfl) ?_
         refine pS 5 91 z3q9 HT_ rfl rfl (by kernel_rfl) (by rfl) (by intro w';go_simp;with_reducible rfl) (by simp only [Act.put,lA,lZ,lS,iw,jw];rfl) ?_
         refine pS 6 92 z3q10 HT_ rfl rfl (by kernel_rfl) (by rfl) (by intro w';go_simp;with_reducible rfl) (by simp only [Act.put,lA,lZ,lS,iw,jw];rfl) ?_
         refine tS 7 93 z3q11 HT_ hHeld rfl rfl (by kernel_rfl) (by rfl) (by rintro w' ⟨s0,s1,s2,s3,s4,s5,s6,s7,s8,s9⟩;go_simp;with_reducible rfl) (by simp only [Act.put,lA,lZ,lS,iw,jw];rfl) ?_
         refine tS 9 95 z3q12 HT_ hHeld rfl rfl (by kernel_rfl) (by rfl) (by rintro w' ⟨s0,s1,s2,s3,s4,s5,s6,s7,s8,s9⟩;go_simp;with_reducible rfl) (by simp only [Act.put,lA,lZ,lS,iw,jw];rfl) ?_
         refine pS 10 96 z3q13 HT_ rfl rfl (by kernel_rfl) (by rfl) (by intro w';go_simp;with_reducible rfl) (by simp only [Act.put,lA,lZ,lS,iw,jw];rfl) ?_
         refine tS 12 98 z3q14 HT_ hHeld rfl rfl (by kernel_rfl) (by rfl) (by rintro w' ⟨s0,s1,s2,s3,s4,s5,s6,s7,s8,s9⟩;go_simp;with_reducible rfl) (by simp only [Act.put,lA,lZ,lS,iw,jw];rfl) ?_
         refine pS 14 100 z3q15 HT_ rfl rfl (by kernel_rfl) (by rfl) (by intro w';go_simp;with_reducible rfl) (by simp only [Act.put,lA,lZ,lS,iw,jw];rfl) ?_
         refine pS 15 101 z3q16 HT_ rfl rfl (by kernel_rfl) (by rfl) (by intro w';go_simp;with_reducible rfl) (by simp only [Act.put,lA,lZ,lS,iw,jw];rfl) ?_
         refine tS 16 102 z3q17 HT_ hHeld rfl rfl (by kernel_rfl) (by rfl) (by rintro w' ⟨s0,s1,s2,s3,s4,s5,s6,s7,s8,s9⟩;go_simp;with_reducible rfl) (by simp only [Act.put,lA,lZ,lS,iw,jw];rfl) ?_
         refine join_ (σ:=Value × Nat) 2 z3q18 (fun s_=>[(103,.tuple #[.agg #[.int .i64 t299,s_.1],.bool true]),(15,.pointer (some ⟨s_.2,0,none⟩)),(85,.tuple #[.agg #[.int .i64 t299,s_.1],.bool true]),(104,.agg #[.int .i64 t299,s_.1]),(105,.bool true)]) (fun s_ w'=>(w'.cell? ⟨Bj,0,none⟩=some (.int .i64 t273)∧w'.cell? ⟨Bj,1,none⟩=some (.slice Ao15 t274.length co15)∧w'.cell? ⟨Bi,0,none⟩=some (.int .i64 t267)∧w'.cell? ⟨Bi,1,none⟩=some (.slice (some ad296) t268.length co10)∧w'.cell? (ad296.add ((x14_4).toNat * 3))=some (.int .i64 ((rd_T35 t268 x14_4).f0))∧w'.cell? ⟨(ad296.add ((x14_4).toNat * 3)).block,(ad296.add ((x14_4).toNat * 3)).off + 1,none⟩=some (.int .i64 ((rd_T35 t268 x14_4).f1))∧w'.cell? ⟨(ad296.add ((x14_4).toNat * 3)).block,(ad296.add ((x14_4).toNat * 3)).off + 2,none⟩=some (.int .i64 ((rd_T35 t268 x14_4).f2))∧w'.cell? (ad296.add ((x14_4).toNat * 3))=some (.int .i64 ((rd_T35 t268 x14_4).f0))∧w'.cell? ⟨(ad296.add ((x14_4).toNat * 3)).block,(ad296.add ((x14_4).toNat * 3)).off + 1,none⟩=some (.int .i64 ((rd_T35 t268 x14_4).f1))∧w'.cell? ⟨(ad296.add ((x14_4).toNat * 3)).block,(ad296.add ((x14_4).toNat * 3)).off + 2,none⟩=some (.int .i64 ((rd_T35 t268 x14_4).f2)))∧(Kd.R k35 35 w' w.heap.size (fun k_=>some k_≠(.slice (some ad296) t268.length co10:Value).ownBlock∧some k_≠(.slice Ao15 t274.length co15:Value).ownBlock∧some k_≠(.slice Ao22 t280.length co22:Value).ownBlock∧some k_≠(.slice Ao50 t287.length co50:Value).ownBlock) s_.1 t300)∧(Kd.R k35 35 w' w.heap.size (fun k_=>some k_≠(s_.1:Value).ownBlock∧some k_≠(.slice Ao15 t274.length co15:Value).ownBlock∧some k_≠(.slice Ao22 t280.length co22:Value).ownBlock∧some k_≠(.slice Ao50 t287.length co50:Value).ownBlock) (.slice (some ad296) t268.length co10) t268)∧(Kd.R k35 35 w' w.heap.size (fun k_=>some k_≠(s_.1:Value).ownBlock∧some k_≠(.slice (some ad296) t268.length co10:Value).ownBlock∧some k_≠(.slice Ao22 t280.length co22:Value).ownBlock∧some k_≠(.slice Ao50 t287.length co50:Value).ownBlock) (.slice Ao15 t274.length co15) t274)∧(Kd.R k35 35 w' w.heap.size (fun k_=>some k_≠(s_.1:Value).ownBlock∧some k_≠(.slice (some ad296) t268.length co10:Value).ownBlock∧some k_≠(.slice Ao15 t274.length co15:Value).ownBlock∧some k_≠(.slice Ao50 t287.length co50:Value).ownBlock) (.slice Ao22 t280.length co22) t280)∧(Kd.R k35 35 w' w.heap.size (fun k_=>some k_≠(s_.1:Value).ownBlock∧some k_≠(.slice (some ad296) t268.length co10:Value).ownBlock∧some k_≠(.slice Ao15 t274.length co15:Value).ownBlock∧some k_≠(.slice Ao22 t280.length co22:Value).ownBlock) (.slice Ao50 t287.length co50) t287)∧(w'.heap[Bi]?=some (.cells #[.int .i64 t267,.slice (some ad296) t268.length co10] 25 (0,0)))∧(w'.heap[Bj]?=some (.cells #[.int .i64 t273,.slice Ao15 t274.length co15] 25 (0,0)))∧(w'.heap[Bk]?=some (.cells #[.int .i64 t279,.slice Ao22 t280.length co22] 25 (0,0)))∧(w'.heap[Bo]?=some (.cells #[.int .i64 t286,.slice Ao50 t287.length co50] 25 (0,0)))∧(w'.heap[s_.2]?=some (.cells #[.int .i64 0,.slice none 0 0] 25 (0,0)))∧(w.heap.size≤s_.2)∧(w.heap.size≤s_.2)∧(Bi≠s_.2)∧(s_.2≠Bi)∧(Bj≠s_.2)∧(s_.2≠Bj)∧(Bk≠s_.2)∧(s_.2≠Bk)∧(Bo≠s_.2)∧(s_.2≠Bo)∧(Below w.heap.size w w')) ?_ ?_
         rotate_left
         ·intro hCont
          refine two_ (i:=17) (j:=21) (Ni:=some 103) (Nj:=some 15) z3q19 z3q20 rfl rfl rfl rfl (two_of HT_.out (by kernel_rfl)) (by decide) (by decide) (fun K hK=>?_) (fun K hK=>?_)
          ·skip
           refine goes_ Try.func9 (by kernel_rfl) rfl #[.agg #[.int .i64 t273,.slice Ao15 t274.length co15],.int .i64 t271,.int .i64 (wrap64 (((rd_T35 t268 x14_4).f1) - t267)),.int .i64 ((rd_T35 t268 x14_4).f2)] (by rfl) rfl rfl (by (try simp only [lM,lC,lN]);first|done|rfl|(simp only [lD,lT];rfl)) ?_
           with_reducible refine (impl_ClockSet.calls t273 _ _ t274 t271 (wrap64 (((rd_T35 t268 x14_4).f1) - t267)) ((rd_T35 t268 x14_4).f2) t299 t300 true _ ?side1 ?side2 A59.out).mono ?_
           (case side1=>exact cL (rR Bd.out).2.2)
           (case side2=>exact (rR Bd.out).2.1)
           rintro e w69 ⟨v301,rfl,ho0,hb⟩
           have HS4_:=(hb.cell (World.block_lt_of_cell? _ _ (hHeld.2.2.2.2.1))).trans (hHeld.2.2.2.2.1)
           have HS5_:=(hb.cell (World.block_lt_of_cell? _ _ (hHeld.2.2.2.2.2.1))).trans (hHeld.2.2.2.2.2.1)
           have HS6_:=(hb.cell (World.block_lt_of_cell? _ _ (hHeld.2.2.2.2.2.2.1))).trans (hHeld.2.2.2.2.2.2.1)
           have HS7_:=(hb.cell (World.block_lt_of_cell? _ _ (hHeld.2.2.2.2.2.2.2.1))).trans (hHeld.2.2.2.2.2.2.2.1)
           have HS8_:=(hb.cell (World.block_lt_of_cell? _ _ (hHeld.2.2.2.2.2.2.2.2.1))).trans (hHeld.2.2.2.2.2.2.2.2.1)
           have HS9_:=(hb.cell (World.block_lt_of_cell? _ _ (hHeld.2.2.2.2.2.2.2.2.2))).trans (hHeld.2.2.2.2.2.2.2.2.2)
           refine ⟨_,rfl,?_⟩
           have n0_:=Am (rX (rL Ba.out) (rZ ho0) hb)
           have n1_:=Am (rX (rL Bd.out) (rZ ho0) hb)
           have n2_:=Am (rX (rL Be.out) (rZ ho0) hb)
           have n3_:=Am (rX (rL Bl.out) (rZ ho0) hb)
           have n4_:=Am (rW (rQ (rQ (rQ (rQ ho0 (rI (rL Ba.out))) (rI (rL Bd.out))) (rI (rL Be.out))) (rI (rL Bl.out))) (bZ (by repeat (first|(with_reducible first|exact HB.out|apply oA|apply pN|apply o1|refine bS ?_ Bn.out|refine bS ?_ Bp.out|refine bS ?_ Bq.out|refine bS ?_ Bv.out)|exact HB.out))))
           have n5_:=Am (bX Bb.out hb)
           have n6_:=Am (bX Bc.out hb)
           have n7_:=Am (bX Bf.out hb)
           have n8_:=Am (bX Bm.out hb)
           have n9_:=Am (bP (by repeat (first|(with_reducible first|exact HB.out|apply oA|apply pN|apply o1|refine bS ?_ Bn.out|refine bS ?_ Bp.out|refine bS ?_ Bq.out|refine bS ?_ Bv.out)|exact HB.out)) hb)
           clear Ba
           clear Bd
           clear Be
           clear Bl
           clear Bb
           clear Bc
           clear Bf
           clear Bm
           clear HB
           have Ba:=n0_
           have Bd:=n1_
           have Be:=n2_
           have Bl:=n3_
           have Bx:=n4_
           have Bb:=n5_
           have Bc:=n6_
           have Bf:=n7_
           have Bm:=n8_
           have HB:=n9_
           clear n0_ n1_ n2_ n3_ n4_ n5_ n6_ n7_ n8_ n9_
           (try clear hb)
           (try clear hb2)
           (try clear hk)
           (try clear hi)
           (try clear ho0)
           refine hK.out _ _ ⟨(bC Bc.out 0).trans rfl,(bC Bc.out 1).trans rfl,(bC Bb.out 0).trans rfl,(bC Bb.out 1).trans rfl,HS4_,HS5_,HS6_,HS7_,HS8_,HS9_⟩ (fun hHeld=>?_)
           clear hK K
           refine norm_ (by show Act.put _ (some 103) _=_;simp only [Act.put,lA,lZ,lS,iw,jw];rfl) ?_
           refine pS 18 85 z3q21 HT_ rfl rfl (by kernel_rfl) (by rfl) (by intro w';go_simp;with_reducible rfl) (by simp only [Act.put,lA,lZ,lS,iw,jw];rfl) ?_
           refine pS 19 104 z3q22 HT_ rfl rfl (by kernel_rfl) (by rfl) (by intro w';go_simp;with_reducible rfl) (by simp only [Act.put,lA,lZ,lS,iw,jw];rfl) ?_
           refine pS 20 105 z3q23 HT_ rfl rfl (by kernel_rfl) (by rfl) (by intro w';go_simp;with_reducible rfl) (by simp only [Act.put,lA,lZ,lS,iw,jw];rfl) ?_
           refine oS 21 15 z3q18 HT_ rfl rfl (by kernel_rfl) (by decide) (fun K hK=>?_)
           refine box_step ?hg (N:=15) ?hd (cs:=#[.int .i64 0,.slice none 0 0]) (t:=25) ?hr ?_;(case hd=>rfl);(case hg=>rfl);(case hr=>first|(go_simp;done)|(go_simp;rfl))
           intro Bg hg w70 hbox hb
           have HS4_:=(hb.cell (World.block_lt_of_cell? _ _ (hHeld.2.2.2.2.1))).trans (hHeld.2.2.2.2.1)
           have HS5_:=(hb.cell (World.block_lt_of_cell? _ _ (hHeld.2.2.2.2.2.1))).trans (hHeld.2.2.2.2.2.1)
           have HS6_:=(hb.cell (World.block_lt_of_cell? _ _ (hHeld.2.2.2.2.2.2.1))).trans (hHeld.2.2.2.2.2.2.1)
           have HS7_:=(hb.cell (World.block_lt_of_cell? _ _ (hHeld.2.2.2.2.2.2.2.1))).trans (hHeld.2.2.2.2.2.2.2.1)
           have HS8_:=(hb.cell (World.block_lt_of_cell? _ _ (hHeld.2.2.2.2.2.2.2.2.1))).trans (hHeld.2.2.2.2.2.2.2.2.1)
           have HS9_:=(hb.cell (World.block_lt_of_cell? _ _ (hHeld.2.2.2.2.2.2.2.2.2))).trans (hHeld.2.2.2.2.2.2.2.2.2)
           have n0_:=Am (rB (rL Ba.out) hb)
           have n1_:=Am (rB (rL Bd.out) hb)
           have n2_:=Am (rB (rL Be.out) hb)
           have n3_:=Am (rB (rL Bl.out) hb)
           have n4_:=Am (rB (rL Bx.out) hb)
           have n5_:=Am (bX Bb.out hb)
           have n6_:=Am (bX Bc.out hb)
           have n7_:=Am (bX Bf.out hb)
           have n8_:=Am (bX Bm.out hb)
           have n9_:=Am (bP (by repeat (first|(with_reducible first|exact HB.out|apply oA|apply pN|apply o1|refine bS ?_ Bn.out|refine bS ?_ Bp.out|refine bS ?_ Bq.out|refine bS ?_ Bv.out)|exact HB.out)) hb)
           have n10_:=Am (hbox)
           have n11_:=Am ((by rw [hg];exact (bZ (by repeat (first|(with_reducible first|exact HB.out|apply oA|apply pN|apply o1|refine bS ?_ Bn.out|refine bS ?_ Bp.out|refine bS ?_ Bq.out|refine bS ?_ Bv.out)|exact HB.out))):w.heap.size≤Bg))
           have n12_:=Am ((by rw [hg];exact (bZ (by repeat (first|(with_reducible first|exact HB.out|apply oA|apply pN|apply o1|refine bS ?_ Bn.out|refine bS ?_ Bp.out|refine bS ?_ Bq.out|refine bS ?_ Bv.out)|exact HB.out))):w.heap.size≤Bg))
           have n13_:=Am ((nL Bb.out hg))
           have n14_:=Am ((nG Bb.out hg))
           have n15_:=Am ((nL Bc.out hg))
           have n16_:=Am ((nG Bc.out hg))
           have n17_:=Am ((nL Bf.out hg))
           have n18_:=Am ((nG Bf.out hg))
           have n19_:=Am ((nL Bm.out hg))
           have n20_:=Am ((nG Bm.out hg))
           clear Ba
           clear Bd
           clear Be
           clear Bl
           clear Bx
           clear Bb
           clear Bc
           clear Bf
           clear Bm
           clear HB
           have Ba:=n0_
           have Bd:=n1_
           have Be:=n2_
           have Bl:=n3_
           have Bx:=n4_
           have Bb:=n5_
           have Bc:=n6_
           have Bf:=n7_
           have Bm:=n8_
           have HB:=n9_
           have Bh:=n10_
           have Dp:=n11_
           have BI:=n12_
           have Bt:=n13_
           have BD:=n14_
           have Bu:=n15_
           have BE:=n16_
           have By:=n17_
           have BF:=n18_
           have Bz:=n19_
           have BG:=n20_
           clear n0_ n1_ n2_ n3_ n4_ n5_ n6_ n7_ n8_ n9_ n10_ n11_ n12_ n13_ n14_ n15_ n16_ n17_ n18_ n19_ n20_
           clear hb hbox hg
           refine hK.out _ _ ⟨(bC Bc.out 0).trans rfl,(bC Bc.out 1).trans rfl,(bC Bb.out 0).trans rfl,(bC Bb.out 1).trans rfl,HS4_,HS5_,HS6_,HS7_,HS8_,HS9_⟩ (fun hHeld=>?_)
           clear hK K
           refine norm_ (by show Act.put _ (some 15) _=_;simp only [Act.put,lA,lZ,lS,iw,jw];rfl) ?_
           exact norm_ (by simp only [putAll,Act.put,lA,lZ,lS]) (hCont (v301,Bg) _ ⟨hHeld,(by (with_reducible repeat (first|apply rA|apply rN|apply rD));exact rM Bx.out (fun _ hk=>⟨hk.1.1.1.2,⟨hk.1.1.2,⟨hk.1.2,hk.2⟩⟩⟩)),(by (with_reducible repeat (first|apply rA|apply rN|apply rD));exact rM Ba.out (fun _ hk=>⟨hk.2,⟨hk.1.1,⟨hk.1.2.1,hk.1.2.2⟩⟩⟩)),(by (with_reducible repeat (first|apply rA|apply rN|apply rD));exact rM Bd.out (fun _ hk=>⟨hk.2,⟨hk.1.1,⟨hk.1.2.1,hk.1.2.2⟩⟩⟩)),(by (with_reducible repeat (first|apply rA|apply rN|apply rD));exact rM Be.out (fun _ hk=>⟨hk.2,⟨hk.1.1,⟨hk.1.2.1,hk.1.2.2⟩⟩⟩)),(by (with_reducible repeat (first|apply rA|apply rN|apply rD));exact rM Bl.out (fun _ hk=>⟨hk.2,⟨hk.1.1,⟨hk.1.2.1,hk.1.2.2⟩⟩⟩)),(bL Bb.out),(bL Bc.out),(bL Bf.out),(bL Bm.out),(bL Bh.out),Dp.out,BI.out,Bt.out,BD.out,Bu.out,BE.out,By.out,BF.out,Bz.out,BG.out,(by repeat (first|(with_reducible first|exact HB.out|apply oA|apply pN|apply o1|refine bS ?_ Bn.out|refine bS ?_ Bp.out|refine bS ?_ Bq.out|refine bS ?_ Bv.out|refine bS ?_ BI.out)|exact HB.out))⟩)
          ·skip
           refine box_step ?hg (N:=15) ?hd (cs:=#[.int .i64 0,.slice none 0 0]) (t:=25) ?hr ?_;(case hd=>rfl);(case hg=>rfl);(case hr=>first|(go_simp;done)|(go_simp;rfl))
           intro Bg hg w69 hbox hb
           have HS4_:=(hb.cell (World.block_lt_of_cell? _ _ (hHeld.2.2.2.2.1))).trans (hHeld.2.2.2.2.1)
           have HS5_:=(hb.cell (World.block_lt_of_cell? _ _ (hHeld.2.2.2.2.2.1))).trans (hHeld.2.2.2.2.2.1)
           have HS6_:=(hb.cell (World.block_lt_of_cell? _ _ (hHeld.2.2.2.2.2.2.1))).trans (hHeld.2.2.2.2.2.2.1)
           have HS7_:=(hb.cell (World.block_lt_of_cell? _ _ (hHeld.2.2.2.2.2.2.2.1))).trans (hHeld.2.2.2.2.2.2.2.1)
           have HS8_:=(hb.cell (World.block_lt_of_cell? _ _ (hHeld.2.2.2.2.2.2.2.2.1))).trans (hHeld.2.2.2.2.2.2.2.2.1)
           have HS9_:=(hb.cell (World.block_lt_of_cell? _ _ (hHeld.2.2.2.2.2.2.2.2.2))).trans (hHeld.2.2.2.2.2.2.2.2.2)
           have n0_:=Am (rB (rL Ba.out) hb)
           have n1_:=Am (rB (rL Bd.out) hb)
           have n2_:=Am (rB (rL Be.out) hb)
           have n3_:=Am (rB (rL Bl.out) hb)
           have n4_:=Am (bX Bb.out hb)
           have n5_:=Am (bX Bc.out hb)
           have n6_:=Am (bX Bf.out hb)
           have n7_:=Am (bX Bm.out hb)
           have n8_:=Am (bP (by repeat (first|(with_reducible first|exact HB.out|apply oA|apply pN|apply o1|refine bS ?_ Bn.out|refine bS ?_ Bp.out|refine bS ?_ Bq.out|refine bS ?_ Bv.out)|exact HB.out)) hb)
           have n9_:=Am (hbox)
           have n10_:=Am ((by rw [hg];exact (bZ (by repeat (first|(with_reducible first|exact HB.out|apply oA|apply pN|apply o1|refine bS ?_ Bn.out|refine bS ?_ Bp.out|refine bS ?_ Bq.out|refine bS ?_ Bv.out)|exact HB.out))):w.heap.size≤Bg))
           have n11_:=Am ((by rw [hg];exact (bZ (by repeat (first|(with_reducible first|exact HB.out|apply oA|apply pN|apply o1|refine bS ?_ Bn.out|refine bS ?_ Bp.out|refine bS ?_ Bq.out|refine bS ?_ Bv.out)|exact HB.out))):w.heap.size≤Bg))
           have n12_:=Am ((nL Bb.out hg))
           have n13_:=Am ((nG Bb.out hg))
           have n14_:=Am ((nL Bc.out hg))
           have n15_:=Am ((nG Bc.out hg))
           have n16_:=Am ((nL Bf.out hg))
           have n17_:=Am ((nG Bf.out hg))
           have n18_:=Am ((nL Bm.out hg))
           have n19_:=Am ((nG Bm.out hg))
           clear Ba
           clear Bd
           clear Be
           clear Bl
           clear Bb
           clear Bc
           clear Bf
           clear Bm
           clear HB
           have Ba:=n0_
           have Bd:=n1_
           have Be:=n2_
           have Bl:=n3_
           have Bb:=n4_
           have Bc:=n5_
           have Bf:=n6_
           have Bm:=n7_
           have HB:=n8_
           have Bh:=n9_
           have Dp:=n10_
           have BI:=n11_
           have Bt:=n12_
           have BD:=n13_
           have Bu:=n14_
           have BE:=n15_
           have By:=n16_
           have BF:=n17_
           have Bz:=n18_
           have BG:=n19_
           clear n0_ n1_ n2_ n3_ n4_ n5_ n6_ n7_ n8_ n9_ n10_ n11_ n12_ n13_ n14_ n15_ n16_ n17_ n18_ n19_
           clear hb hbox hg
           refine hK.out _ _ ⟨(bC Bc.out 0).trans rfl,(bC Bc.out 1).trans rfl,(bC Bb.out 0).trans rfl,(bC Bb.out 1).trans rfl,HS4_,HS5_,HS6_,HS7_,HS8_,HS9_⟩ (fun hHeld=>?_)
           clear hK K
           refine norm_ (by show Act.put _ (some 15) _=_;simp only [Act.put,lA,lZ,lS,iw,jw];rfl) ?_
           refine oS 17 103 z3q24 HT_ rfl rfl (by kernel_rfl) (by decide) (fun K hK=>?_)
           refine goes_ Try.func9 (by kernel_rfl) rfl #[.agg #[.int .i64 t273,.slice Ao15 t274.length co15],.int .i64 t271,.int .i64 (wrap64 (((rd_T35 t268 x14_4).f1) - t267)),.int .i64 ((rd_T35 t268 x14_4).f2)] (by rfl) rfl rfl (by (try simp only [lM,lC,lN]);first|done|rfl|(simp only [lD,lT];rfl)) ?_
           with_reducible refine (impl_ClockSet.calls t273 _ _ t274 t271 (wrap64 (((rd_T35 t268 x14_4).f1) - t267)) ((rd_T35 t268 x14_4).f2) t299 t300 true _ ?side1 ?side2 A59.out).mono ?_
           (case side1=>exact cL (rR Bd.out).2.2)
           (case side2=>exact (rR Bd.out).2.1)
           rintro e w70 ⟨v301,rfl,ho0,hb⟩
           have HS4_:=(hb.cell (World.block_lt_of_cell? _ _ (hHeld.2.2.2.2.1))).trans (hHeld.2.2.2.2.1)
           have HS5_:=(hb.cell (World.block_lt_of_cell? _ _ (hHeld.2.2.2.2.2.1))).trans (hHeld.2.2.2.2.2.1)
           have HS6_:=(hb.cell (World.block_lt_of_cell? _ _ (hHeld.2.2.2.2.2.2.1))).trans (hHeld.2.2.2.2.2.2.1)
           have HS7_:=(hb.cell (World.block_lt_of_cell? _ _ (hHeld.2.2.2.2.2.2.2.1))).trans (hHeld.2.2.2.2.2.2.2.1)
           have HS8_:=(hb.cell (World.block_lt_of_cell? _ _ (hHeld.2.2.2.2.2.2.2.2.1))).trans (hHeld.2.2.2.2.2.2.2.2.1)
           have HS9_:=(hb.cell (World.block_lt_of_cell? _ _ (hHeld.2.2.2.2.2.2.2.2.2))).trans (hHeld.2.2.2.2.2.2.2.2.2)
           refine ⟨_,rfl,?_⟩
           have n0_:=Am (rX (rL Ba.out) (rZ ho0) hb)
           have n1_:=Am (rX (rL Bd.out) (rZ ho0) hb)
           have n2_:=Am (rX (rL Be.out) (rZ ho0) hb)
           have n3_:=Am (rX (rL Bl.out) (rZ ho0) hb)
           have n4_:=Am (rW (rQ (rQ (rQ (rQ ho0 (rI (rL Ba.out))) (rI (rL Bd.out))) (rI (rL Be.out))) (rI (rL Bl.out))) (bZ (by repeat (first|(with_reducible first|exact HB.out|apply oA|apply pN|apply o1|refine bS ?_ Bn.out|refine bS ?_ Bp.out|refine bS ?_ Bq.out|refine bS ?_ Bv.out|refine bS ?_ BI.out)|exact HB.out))))
           have n5_:=Am (bX Bb.out hb)
           have n6_:=Am (bX Bc.out hb)
           have n7_:=Am (bX Bf.out hb)
           have n8_:=Am (bX Bm.out hb)
           have n9_:=Am (bX Bh.out hb)
           have n10_:=Am (bP (by repeat (first|(with_reducible first|exact HB.out|apply oA|apply pN|apply o1|refine bS ?_ Bn.out|refine bS ?_ Bp.out|refine bS ?_ Bq.out|refine bS ?_ Bv.out|refine bS ?_ BI.out)|exact HB.out)) hb)
           clear Ba
           clear Bd
           clear Be
           clear Bl
           clear Bb
           clear Bc
           clear Bf
           clear Bm
           clear Bh
           clear HB
           have Ba:=n0_
           have Bd:=n1_
           have Be:=n2_
           have Bl:=n3_
           have Bx:=n4_
           have Bb:=n5_
           have Bc:=n6_
           have Bf:=n7_
           have Bm:=n8_
           have Bh:=n9_
           have HB:=n10_
           clear n0_ n1_ n2_ n3_ n4_ n5_ n6_ n7_ n8_ n9_ n10_
           (try clear hb)
           (try clear hb2)
           (try clear hk)
           (try clear hi)
           (try clear ho0)
           refine hK.out _ _ ⟨(bC Bc.out 0).trans rfl,(bC Bc.out 1).trans rfl,(bC Bb.out 0).trans rfl,(bC Bb.out 1).trans rfl,HS4_,HS5_,HS6_,HS7_,HS8_,HS9_⟩ (fun hHeld=>?_)
           clear hK K
           refine norm_ (by show Act.put _ (some 103) _=_;simp only [Act.put,lA,lZ,lS,iw,jw];rfl) ?_
           refine pS 18 85 z3q25 HT_ rfl rfl (by kernel_rfl) (by rfl) (by intro w';go_simp;with_reducible rfl) (by simp only [Act.put,lA,lZ,lS,iw,jw];rfl) ?_
           refine pS 19 104 z3q26 HT_ rfl rfl (by kernel_rfl) (by rfl) (by intro w';go_simp;with_reducible rfl) (by simp only [Act.put,lA,lZ,lS,iw,jw];rfl) ?_
           refine pS 20 105 z3q18 HT_ rfl rfl (by kernel_rfl) (by rfl) (by intro w';go_simp;with_reducible rfl) (by simp only [Act.put,lA,lZ,lS,iw,jw];rfl) ?_
           exact norm_ (by simp only [putAll,Act.put,lA,lZ,lS]) (hCont (v301,Bg) _ ⟨hHeld,(by (with_reducible repeat (first|apply rA|apply rN|apply rD));exact rM Bx.out (fun _ hk=>⟨hk.1.1.1.2,⟨hk.1.1.2,⟨hk.1.2,hk.2⟩⟩⟩)),(by (with_reducible repeat (first|apply rA|apply rN|apply rD));exact rM Ba.out (fun _ hk=>⟨hk.2,⟨hk.1.1,⟨hk.1.2.1,hk.1.2.2⟩⟩⟩)),(by (with_reducible repeat (first|apply rA|apply rN|apply rD));exact rM Bd.out (fun _ hk=>⟨hk.2,⟨hk.1.1,⟨hk.1.2.1,hk.1.2.2⟩⟩⟩)),(by (with_reducible repeat (first|apply rA|apply rN|apply rD));exact rM Be.out (fun _ hk=>⟨hk.2,⟨hk.1.1,⟨hk.1.2.1,hk.1.2.2⟩⟩⟩)),(by (with_reducible repeat (first|apply rA|apply rN|apply rD));exact rM Bl.out (fun _ hk=>⟨hk.2,⟨hk.1.1,⟨hk.1.2.1,hk.1.2.2⟩⟩⟩)),(bL Bb.out),(bL Bc.out),(bL Bf.out),(bL Bm.out),(bL Bh.out),Dp.out,BI.out,Bt.out,BD.out,Bu.out,BE.out,By.out,BF.out,Bz.out,BG.out,(by repeat (first|(with_reducible first|exact HB.out|apply oA|apply pN|apply o1|refine bS ?_ Bn.out|refine bS ?_ Bp.out|refine bS ?_ Bq.out|refine bS ?_ Bv.out|refine bS ?_ BI.out)|exact HB.out))⟩)
         rintro ⟨v301,Bg⟩ w71 ⟨hS_,h0_,h1_,h2_,h3_,h4_,h5_,h6_,h7_,h8_,h9_,h10_,h11_,h12_,h13_,h14_,h15_,h16_,h17_,h18_,h19_,h20_⟩
         have n0_:Aside0 (Kd.R k35 35 w71 w.heap.size (fun k_=>some k_≠(.slice (some ad296) t268.length co10:Value).ownBlock∧some k_≠(.slice Ao15 t274.length co15:Value).ownBlock∧some k_≠(.slice Ao22 t280.length co22:Value).ownBlock∧some k_≠(.slice Ao50 t287.length co50:Value).ownBlock) v301 t300):=⟨h0_⟩
         have n1_:Aside0 (Kd.R k35 35 w71 w.heap.size (fun k_=>some k_≠(v301:Value).ownBlock∧some k_≠(.slice Ao15 t274.length co15:Value).ownBlock∧some k_≠(.slice Ao22 t280.length co22:Value).ownBlock∧some k_≠(.slice Ao50 t287.length co50:Value).ownBlock) (.slice (some ad296) t268.length co10) t268):=⟨h1_⟩
         have n2_:Aside0 (Kd.R k35 35 w71 w.heap.size (fun k_=>some k_≠(v301:Value).ownBlock∧some k_≠(.slice (some ad296) t268.length co10:Value).ownBlock∧some k_≠(.slice Ao22 t280.length co22:Value).ownBlock∧some k_≠(.slice Ao50 t287.length co50:Value).ownBlock) (.slice Ao15 t274.length co15) t274):=⟨h2_⟩
         have n3_:Aside0 (Kd.R k35 35 w71 w.heap.size (fun k_=>some k_≠(v301:Value).ownBlock∧some k_≠(.slice (some ad296) t268.length co10:Value).ownBlock∧some k_≠(.slice Ao15 t274.length co15:Value).ownBlock∧some k_≠(.slice Ao50 t287.length co50:Value).ownBlock) (.slice Ao22 t280.length co22) t280):=⟨h3_⟩
         have n4_:Aside0 (Kd.R k35 35 w71 w.heap.size (fun k_=>some k_≠(v301:Value).ownBlock∧some k_≠(.slice (some ad296) t268.length co10:Value).ownBlock∧some k_≠(.slice Ao15 t274.length co15:Value).ownBlock∧some k_≠(.slice Ao22 t280.length co22:Value).ownBlock) (.slice Ao50 t287.length co50) t287):=⟨h4_⟩
         have n5_:Aside0 (w71.heap[Bi]?=some (.cells #[.int .i64 t267,.slice (some ad296) t268.length co10] 25 (0,0))):=⟨h5_⟩
         have n6_:Aside0 (w71.heap[Bj]?=some (.cells #[.int .i64 t273,.slice Ao15 t274.length co15] 25 (0,0))):=⟨h6_⟩
         have n7_:Aside0 (w71.heap[Bk]?=some (.cells #[.int .i64 t279,.slice Ao22 t280.length co22] 25 (0,0))):=⟨h7_⟩
         have n8_:Aside0 (w71.heap[Bo]?=some (.cells #[.int .i64 t286,.slice Ao50 t287.length co50] 25 (0,0))):=⟨h8_⟩
         have n9_:Aside0 (w71.heap[Bg]?=some (.cells #[.int .i64 0,.slice none 0 0] 25 (0,0))):=⟨h9_⟩
         have n10_:Aside0 (w.heap.size≤Bg):=⟨h10_⟩
         have n11_:Aside0 (w.heap.size≤Bg):=⟨h11_⟩
         have n12_:Aside0 (Bi≠Bg):=⟨h12_⟩
         have n13_:Aside0 (Bg≠Bi):=⟨h13_⟩
         have n14_:Aside0 (Bj≠Bg):=⟨h14_⟩
         have n15_:Aside0 (Bg≠Bj):=⟨h15_⟩
         have n16_:Aside0 (Bk≠Bg):=⟨h16_⟩
         have n17_:Aside0 (Bg≠Bk):=⟨h17_⟩
         have n18_:Aside0 (Bo≠Bg):=⟨h18_⟩
         have n19_:Aside0 (Bg≠Bo):=⟨h19_⟩
         have n20_:Aside0 (Below w.heap.size w w71):=⟨h20_⟩
         clear Ba
         clear Bd
         clear Be
         clear Bl
         clear Bb
         clear Bc
         clear Bf
         clear Bm
         clear HB
         clear h0_ h1_ h2_ h3_ h4_ h5_ h6_ h7_ h8_ h9_ h10_ h11_ h12_ h13_ h14_ h15_ h16_ h17_ h18_ h19_ h20_
         have Bx:=n0_
         have Ba:=n1_
         have Bd:=n2_
         have Be:=n3_
         have Bl:=n4_
         have Bb:=n5_
         have Bc:=n6_
         have Bf:=n7_
         have Bm:=n8_
         have Bh:=n9_
         have Dp:=n10_
         have BI:=n11_
         have Bt:=n12_
         have BD:=n13_
         have Bu:=n14_
         have BE:=n15_
         have By:=n16_
         have BF:=n17_
         have Bz:=n18_
         have BG:=n19_
         have HB:=n20_
         clear n0_ n1_ n2_ n3_ n4_ n5_ n6_ n7_ n8_ n9_ n10_ n11_ n12_ n13_ n14_ n15_ n16_ n17_ n18_ n19_ n20_
         have hHeld:w71.cell? ⟨Bj,0,none⟩=some (.int .i64 t273)∧w71.cell? ⟨Bj,1,none⟩=some (.slice Ao15 t274.length co15)∧w71.cell? ⟨Bi,0,none⟩=some (.int .i64 t267)∧w71.cell? ⟨Bi,1,none⟩=some (.slice (some ad296) t268.length co10)∧w71.cell? (ad296.add ((x14_4).toNat * 3))=some (.int .i64 ((rd_T35 t268 x14_4).f0))∧w71.cell? ⟨(ad296.add ((x14_4).toNat * 3)).block,(ad296.add ((x14_4).toNat * 3)).off + 1,none⟩=some (.int .i64 ((rd_T35 t268 x14_4).f1))∧w71.cell? ⟨(ad296.add ((x14_4).toNat * 3)).block,(ad296.add ((x14_4).toNat * 3)).off + 2,none⟩=some (.int .i64 ((rd_T35 t268 x14_4).f2))∧w71.cell? (ad296.add ((x14_4).toNat * 3))=some (.int .i64 ((rd_T35 t268 x14_4).f0))∧w71.cell? ⟨(ad296.add ((x14_4).toNat * 3)).block,(ad296.add ((x14_4).toNat * 3)).off + 1,none⟩=some (.int .i64 ((rd_T35 t268 x14_4).f1))∧w71.cell? ⟨(ad296.add ((x14_4).toNat * 3)).block,(ad296.add ((x14_4).toNat * 3)).off + 2,none⟩=some (.int .i64 ((rd_T35 t268 x14_4).f2)):=hS_
         obtain ⟨Ao73,co73,eo73⟩:=rC Bx.out
         (first|subst eo73|(injection eo73 with f1_ f2_ f3_;have f4_:=f1_.symm;have f5_:=f3_.symm;clear f1_ f2_ f3_;subst f4_;subst f5_))
         refine norm_ (by simp only [putAll,Act.put,lA,lZ,lS];rfl) ?_
         refine oU 22 none z3q27 HT_ rfl rfl (by kernel_rfl) (by decide) (fun K hK=>?_)
         have hs72:=cz0 Bh.out
         have hfs72:=bF Bh.out 0
         have hns72_0:=Bt.out
         have hns72_1:=Bu.out
         have hns72_2:=By.out
         have hns72_3:=Bz.out
         have hms72_0:=BD.out
         have hms72_1:=BE.out
         have hms72_2:=BF.out
         have hms72_3:=BG.out
         have hs74:=cz1 Bh.out
         have hfs74:=bF Bh.out 1
         have hns74_0:=Bt.out
         have hns74_1:=Bu.out
         have hns74_2:=By.out
         have hns74_3:=Bz.out
         have hms74_0:=BD.out
         have hms74_1:=BE.out
         have hms74_2:=BF.out
         have hms74_3:=BG.out
         refine skip_ (w1:=?_) (by rfl) rfl ?_ ?_
         rotate_left;(go_simp;rfl)
         refine hK.out _ _ ⟨((cF (p:=⟨Bg,_,none⟩) Bu.out _).trans (((cF (p:=⟨Bg,_,none⟩) Bu.out _).trans (hHeld.1)))),((cF (p:=⟨Bg,_,none⟩) Bu.out _).trans (((cF (p:=⟨Bg,_,none⟩) Bu.out _).trans (hHeld.2.1)))),((cF (p:=⟨Bg,_,none⟩) Bt.out _).trans (((cF (p:=⟨Bg,_,none⟩) Bt.out _).trans (hHeld.2.2.1)))),((cF (p:=⟨Bg,_,none⟩) Bt.out _).trans (((cF (p:=⟨Bg,_,none⟩) Bt.out _).trans (hHeld.2.2.2.1)))),((cF (p:=⟨Bg,_,none⟩) (by first|exact oK (rE Ba.out Bh.out (by decide))|(rw [aB];exact oK (rE Ba.out Bh.out (by decide)))|(show (Addr.add _ _).block≠_;rw [aB];exact oK (rE Ba.out Bh.out (by decide)))|(dsimp only;exact oK (rE Ba.out Bh.out (by decide)))) _).trans (((cF (p:=⟨Bg,_,none⟩) (by first|exact oK (rE Ba.out Bh.out (by decide))|(rw [aB];exact oK (rE Ba.out Bh.out (by decide)))|(show (Addr.add _ _).block≠_;rw [aB];exact oK (rE Ba.out Bh.out (by decide)))|(dsimp only;exact oK (rE Ba.out Bh.out (by decide)))) _).trans (hHeld.2.2.2.2.1)))),((cF (p:=⟨Bg,_,none⟩) (by first|exact oK (rE Ba.out Bh.out (by decide))|(rw [aB];exact oK (rE Ba.out Bh.out (by decide)))|(show (Addr.add _ _).block≠_;rw [aB];exact oK (rE Ba.out Bh.out (by decide)))|(dsimp only;exact oK (rE Ba.out Bh.out (by decide)))) _).trans (((cF (p:=⟨Bg,_,none⟩) (by first|exact oK (rE Ba.out Bh.out (by decide))|(rw [aB];exact oK (rE Ba.out Bh.out (by decide)))|(show (Addr.add _ _).block≠_;rw [aB];exact oK (rE Ba.out Bh.out (by decide)))|(dsimp only;exact oK (rE Ba.out Bh.out (by decide)))) _).trans (hHeld.2.2.2.2.2.1)))),((cF (p:=⟨Bg,_,none⟩) (by first|exact oK (rE Ba.out Bh.out (by decide))|(rw [aB];exact oK (rE Ba.out Bh.out (by decide)))|(show (Addr.add _ _).block≠_;rw [aB];exact oK (rE Ba.out Bh.out (by decide)))|(dsimp only;exact oK (rE Ba.out Bh.out (by decide)))) _).trans (((cF (p:=⟨Bg,_,none⟩) (by first|exact oK (rE Ba.out Bh.out (by decide))|(rw [aB];exact oK (rE Ba.out Bh.out (by decide)))|(show (Addr.add _ _).block≠_;rw [aB];exact oK (rE Ba.out Bh.out (by decide)))|(dsimp only;exact oK (rE Ba.out Bh.out (by decide)))) _).trans (hHeld.2.2.2.2.2.2.1)))),((cF (p:=⟨Bg,_,none⟩) (by first|exact oK (rE Ba.out Bh.out (by decide))|(rw [aB];exact oK (rE Ba.out Bh.out (by decide)))|(show (Addr.add _ _).block≠_;rw [aB];exact oK (rE Ba.out Bh.out (by decide)))|(dsimp only;exact oK (rE Ba.out Bh.out (by decide)))) _).trans (((cF (p:=⟨Bg,_,none⟩) (by first|exact oK (rE Ba.out Bh.out (by decide))|(rw [aB];exact oK (rE Ba.out Bh.out (by decide)))|(show (Addr.add _ _).block≠_;rw [aB];exact oK (rE Ba.out Bh.out (by decide)))|(dsimp only;exact oK (rE Ba.out Bh.out (by decide)))) _).trans (hHeld.2.2.2.2.2.2.2.1)))),((cF (p:=⟨Bg,_,none⟩) (by first|exact oK (rE Ba.out Bh.out (by decide))|(rw [aB];exact oK (rE Ba.out Bh.out (by decide)))|(show (Addr.add _ _).block≠_;rw [aB];exact oK (rE Ba.out Bh.out (by decide)))|(dsimp only;exact oK (rE Ba.out Bh.out (by decide)))) _).trans (((cF (p:=⟨Bg,_,none⟩) (by first|exact oK (rE Ba.out Bh.out (by decide))|(rw [aB];exact oK (rE Ba.out Bh.out (by decide)))|(show (Addr.add _ _).block≠_;rw [aB];exact oK (rE Ba.out Bh.out (by decide)))|(dsimp only;exact oK (rE Ba.out Bh.out (by decide)))) _).trans (hHeld.2.2.2.2.2.2.2.2.1)))),((cF (p:=⟨Bg,_,none⟩) (by first|exact oK (rE Ba.out Bh.out (by decide))|(rw [aB];exact oK (rE Ba.out Bh.out (by decide)))|(show (Addr.add _ _).block≠_;rw [aB];exact oK (rE Ba.out Bh.out (by decide)))|(dsimp only;exact oK (rE Ba.out Bh.out (by decide)))) _).trans (((cF (p:=⟨Bg,_,none⟩) (by first|exact oK (rE Ba.out Bh.out (by decide))|(rw [aB];exact oK (rE Ba.out Bh.out (by decide)))|(show (Addr.add _ _).block≠_;rw [aB];exact oK (rE Ba.out Bh.out (by decide)))|(dsimp only;exact oK (rE Ba.out Bh.out (by decide)))) _).trans (hHeld.2.2.2.2.2.2.2.2.2))))⟩ (fun hHeld=>?_)
         clear hK K
         refine pS 23 16 z3q28 HT_ rfl rfl (by kernel_rfl) (by rfl) (by intro w';go_simp;with_reducible rfl) (by simp only [Act.put,lA,lZ,lS,iw,jw];rfl) ?_
         refine done_ (done_of HT_.out (by kernel_rfl)) ?_
         have Fx:=BD.out
         have Fy:=Bt.out
         have Fz:=BE.out
         have FA:=Bu.out
         have FB:=BF.out
         have FC:=By.out
         have FD:=BG.out
         have FE:=Bz.out
         have DF:=cz0 Bh.out
         have DG:=cz1 Bh.out
         have DH:=bF Bh.out 0
         have DI:=bF Bh.out 1
         have DJ:=cz0 Bb.out
         have DK:=cz1 Bb.out
         have DL:=bF Bb.out 0
         have DM:=bF Bb.out 1
         try go_wp2_with (first|(go_at_call 7;(with_reducible refine (laws_qdClock.calls k4 t299 _ _ t300 t267 _ _ t268 true _ ?side1 ?side2 ?side3 ?side4 A61.out).mono ?_);(case side1=>refine (rR (e:=35) (base:=w.heap.size) (ok:=fun k_=>(some k_≠(.slice (some ad296) t268.length co10:Value).ownBlock∧(some k_≠(.slice Ao15 t274.length co15:Value).ownBlock∧(some k_≠(.slice Ao22 t280.length co22:Value).ownBlock∧some k_≠(.slice Ao50 t287.length co50:Value).ownBlock)))) (n:=t300.length) (c:=co73) ?_).2.2;exact (by (with_reducible repeat (first|apply rA|apply rN|apply rD));exact (rM (rF (p:=⟨Bg,1,none⟩) (rF (p:=⟨Bg,0,none⟩) (rT Bx.out Bh.out (by decide)) (fun _ hk=>hk.2) (.int .i64 t299)) (fun _ hk=>hk.2) (.slice Ao73 t300.length co73)) (fun _ h_=>h_.1))));(case side2=>exact (rR Bx.out).2.1);(case side3=>refine (rR (e:=35) (base:=w.heap.size) (ok:=fun k_=>(some k_≠(.slice Ao73 t300.length co73:Value).ownBlock∧(some k_≠(.slice Ao15 t274.length co15:Value).ownBlock∧(some k_≠(.slice Ao22 t280.length co22:Value).ownBlock∧some k_≠(.slice Ao50 t287.length co50:Value).ownBlock)))) (n:=t268.length) (c:=co10) ?_).2.2;exact (by (with_reducible repeat (first|apply rA|apply rN|apply rD));exact (rM (rF (p:=⟨Bg,1,none⟩) (rF (p:=⟨Bg,0,none⟩) (rT Ba.out Bh.out (by decide)) (fun _ hk=>hk.2) (.int .i64 t299)) (fun _ hk=>hk.2) (.slice Ao73 t300.length co73)) (fun _ h_=>h_.1))));(case side4=>exact (rR Ba.out).2.1);rintro e w81 ⟨rfl,hb⟩;have n0_:=Am (rB (by (with_reducible repeat (first|apply rA|apply rN|apply rD));exact (rM (rF (p:=⟨Bg,1,none⟩) (rF (p:=⟨Bg,0,none⟩) (rT Ba.out Bh.out (by decide)) (fun _ hk=>hk.2) (.int .i64 t299)) (fun _ hk=>hk.2) (.slice Ao73 t300.length co73)) (fun _ h_=>h_.1))) hb);have n1_:=Am (rB (by (with_reducible repeat (first|apply rA|apply rN|apply rD));exact (rM (rF (p:=⟨Bg,1,none⟩) (rF (p:=⟨Bg,0,none⟩) (rT Bd.out Bh.out (by decide)) (fun _ hk=>hk.2) (.int .i64 t299)) (fun _ hk=>hk.2) (.slice Ao73 t300.length co73)) (fun _ h_=>h_.1))) hb);have n2_:=Am (rB (by (with_reducible repeat (first|apply rA|apply rN|apply rD));exact (rM (rF (p:=⟨Bg,1,none⟩) (rF (p:=⟨Bg,0,none⟩) (rT Be.out Bh.out (by decide)) (fun _ hk=>hk.2) (.int .i64 t299)) (fun _ hk=>hk.2) (.slice Ao73 t300.length co73)) (fun _ h_=>h_.1))) hb);have n3_:=Am (rB (by (with_reducible repeat (first|apply rA|apply rN|apply rD));exact (rM (rF (p:=⟨Bg,1,none⟩) (rF (p:=⟨Bg,0,none⟩) (rT Bl.out Bh.out (by decide)) (fun _ hk=>hk.2) (.int .i64 t299)) (fun _ hk=>hk.2) (.slice Ao73 t300.length co73)) (fun _ h_=>h_.1))) hb);have n4_:=Am (rB (by (with_reducible repeat (first|apply rA|apply rN|apply rD));exact (rM (rF (p:=⟨Bg,1,none⟩) (rF (p:=⟨Bg,0,none⟩) (rT Bx.out Bh.out (by decide)) (fun _ hk=>hk.2) (.int .i64 t299)) (fun _ hk=>hk.2) (.slice Ao73 t300.length co73)) (fun _ h_=>h_.1))) hb);have n5_:=Am (bB (g:=Bi) (o:=.cells #[.int .i64 t267,.slice (some ad296) t268.length co10] 25 (0,0)) (by (with_reducible repeat (first|refine bN ?_ _|refine bD ?_|refine bA ?_ _|refine bE ?_ Bt.out _));exact Bb.out) hb);have n6_:=Am (bB (g:=Bj) (o:=.cells #[.int .i64 t273,.slice Ao15 t274.length co15] 25 (0,0)) (by (with_reducible repeat (first|refine bN ?_ _|refine bD ?_|refine bA ?_ _|refine bE ?_ Bu.out _));exact Bc.out) hb);have n7_:=Am (bB (g:=Bk) (o:=.cells #[.int .i64 t279,.slice Ao22 t280.length co22] 25 (0,0)) (by (with_reducible repeat (first|refine bN ?_ _|refine bD ?_|refine bA ?_ _|refine bE ?_ By.out _));exact Bf.out) hb);have n8_:=Am (bB (g:=Bo) (o:=.cells #[.int .i64 t286,.slice Ao50 t287.length co50] 25 (0,0)) (by (with_reducible repeat (first|refine bN ?_ _|refine bD ?_|refine bA ?_ _|refine bE ?_ Bz.out _));exact Bm.out) hb);have n9_:=Am (bB (g:=Bg) (o:=.cells #[.int .i64 t299,.slice Ao73 t300.length co73] 25 (0,0)) (by (with_reducible repeat (first|refine bN ?_ _|refine bD ?_|refine bA ?_ _));refine bT (cs:=#[.int .i64 t299,.slice none 0 0]) ?_ 1 _ rfl;(with_reducible repeat (first|refine bN ?_ _|refine bD ?_|refine bA ?_ _));refine bT (cs:=#[.int .i64 0,.slice none 0 0]) ?_ 0 _ rfl;(with_reducible repeat (first|refine bN ?_ _|refine bD ?_|refine bA ?_ _));exact Bh.out) hb);have n10_:=Am (bP (by repeat (first|(with_reducible first|exact HB.out|apply oA|apply pN|apply o1|refine bS ?_ Bn.out|refine bS ?_ Bp.out|refine bS ?_ Bq.out|refine bS ?_ Bv.out|refine bS ?_ BI.out)|exact HB.out)) hb);clear Ba Bd Be Bl Bx Bb Bc Bf Bm Bh HB;revert n0_ n1_ n2_ n3_ n4_ n5_ n6_ n7_ n8_ n9_ n10_;intro Ba Bd Be Bl Bx Bb Bc Bf Bm Bh HB;(try clear hb);(try clear hb2);(try clear hk);(try clear hi);have FF:=BC.out;have FG:=BK.out;have FH:=BN.out;have FI:=Dl.out;have DN:=cz0 Bc.out;have DO:=cz1 Bc.out;have DP:=bF Bc.out 0;have DQ:=bF Bc.out 1)|(go_at_call 10;(with_reducible refine (impl_ClockOk.calls t273 _ _ t274 t306 _ ?side1 ?side2 A63.out).mono ?_);(case side1=>exact cL (rR Bd.out).2.2);(case side2=>exact (rR Bd.out).2.1);rintro e w85 ⟨rfl,hb⟩;have n0_:=Am (rB (rL Ba.out) hb);have n1_:=Am (rB (rL Bd.out) hb);have n2_:=Am (rB (rL Be.out) hb);have n3_:=Am (rB (rL Bl.out) hb);have n4_:=Am (rB (rL Bx.out) hb);have n5_:=Am (bX Bb.out hb);have n6_:=Am (bX Bc.out hb);have n7_:=Am (bX Bf.out hb);have n8_:=Am (bX Bm.out hb);have n9_:=Am (bX Bh.out hb);have n10_:=Am (bP (by repeat (first|(with_reducible first|exact HB.out|apply oA|apply pN|apply o1|refine bS ?_ Bn.out|refine bS ?_ Bp.out|refine bS ?_ Bq.out|refine bS ?_ Bv.out|refine bS ?_ BI.out)|exact HB.out)) hb);clear Ba Bd Be Bl Bx Bb Bc Bf Bm Bh HB;revert n0_ n1_ n2_ n3_ n4_ n5_ n6_ n7_ n8_ n9_ n10_;intro Ba Bd Be Bl Bx Bb Bc Bf Bm Bh HB;(try clear hb);(try clear hb2);(try clear hk);(try clear hi)))
         go_ret
         exact ⟨by first|rfl|(simp [errW_none,errW_some] <;> rfl)|(simp [*,errW_none,errW_some] <;> rfl),by repeat (first|(with_reducible first|exact HB.out|apply oA|apply pN|apply o1|refine bS ?_ Bn.out|refine bS ?_ Bp.out|refine bS ?_ Bq.out|refine bS ?_ Bv.out|refine bS ?_ BI.out)|exact HB.out)⟩
/-- THE ONE PURE STATEMENT of laws_FnClockDrop: yours. -/
def laws_FnClockDrop.Pure:Prop:=∀ (l0:List Int),l0.length≤maxLen → l0.length * 1≤140737488351232 → (∀ x ∈ l0,(Lit.int .u8 x).wf=true) → ∃ k,laws_FnClockDrop.f k l0=some true
theorem laws_FnClockDrop.walk (P:laws_FnClockDrop.Pure) (a0:Option Addr) (len0 cap0:Nat) (z0:List Int) (w:World) (w0:(a0=none∧len0=0∧cap0=0∧z0=[])∨∃ x,a0=some x∧len0≤cap0∧cap0≤maxLen∧z0.length=cap0∧(∀ i,i<z0.length → w.cell? (x.add i)=some (.int .u8 (z0.getD i 0)))∧∀ n ∈ z0,(Lit.int .u8 n).wf=true) (y0:len0 * 1≤140737488351232) :
  Calls Try.prog 3 #[.slice a0 len0 cap0] w fun e w'=>e=.returned (.bool true)∧Below w.heap.size w w':=by
 obtain ⟨l0,rfl,hr0,hm0,hw0,hc0⟩:=ReadsInt.ofRowC w0
 obtain ⟨k,h⟩:=P l0 hm0 y0 hw0
 refine (laws_FnClockDrop.calls k _ _ l0 true w (Kd.C_of_reads (d:=(0:Int)) (h1:=fun _=>rfl) hr0) hc0 h ⟨rfl⟩).mono ?_
 rintro e w' ⟨rfl,hd⟩
 exact ⟨rfl,hd⟩

end Go.Proofs.Ytpacdakadkblgaa.PFnClockDrop
