/- Proved here, without a condition beyond those that each theorem states: what the Go functions named below do is what the plain functions of the same names say. Written by xprint.py, a program of this session. -/
import Derived.Test.YtpacdakadkblgaaPFnClockDropx0
import Derived.Test.YtpacdakadkblgaaPFnClockDropx2
import Derived.Test.YtpacdakadkblgaaPFnClockDropx3
import Derived.Test.YtpacdakadkblgaaPFnClockDropx4
import Derived.Test.YtpacdakadkblgaaPFnClockDropx5
namespace Go.Proofs.Ytpacdakadkblgaa.PFnClockDrop
open Go.RowKit Go.Proofs.YtpacdakadkblgaaW.PrintWords Go.Proofs.YtpacdakadkblgaaW.PrintLast Go.Proofs.YtpacdakadkblgaaW.PrintMore
attribute [local go_sem] max2_int min2_int max_two min_two max_three min_three max_four min_four   -- for this text's walks alone
set_option linter.unusedVariables false
set_option linter.unusedSimpArgs false

attribute [local go_sem ↓] isSome_setCell_
/-! ### spec_ClockSet: function 23 -/
def spec_ClockSet.j0 : Nat → Int → Int → Int → Bool → Int → List (S35) → Option (Int × (List (S35)) × Bool)
|0, _, _, _, _, _, _ => none
|k + 1, x1, x2, x3, x31, x158000, x158001 => if x31 = true then (some (0, ([] : List (S35)), false)) else ((spec_l19Less.f k x158001 x1).bind fun t163 => ((spec_l19Add.f k t163 x1 (wrap64 (x158000 + x2)) x3).bind fun t166 => (if (t166.length : Int) > 12 then (some (0, ([] : List (S35)), false)) else (some (x158000, t166, true)))))
def spec_ClockSet.f (k : Nat) (a0_0 : Int) (l0_1 : List (S35)) (a1 : Int) (a2 : Int) (a3 : Int) : Option (Int × (List (S35)) × Bool) := (spec_ClockOk.f k a0_0 l0_1).bind fun t159 => (if t159 = true then ((spec_l6In.f a1 0 99).bind fun t160 => (if t160 = true then ((spec_l6In.f a2 1 (wrap64 (4095 - a0_0))).bind fun t161 => (if t161 = true then ((spec_l6In.f a3 0 99).bind fun t162 => (spec_ClockSet.j0 k a1 a2 a3 (!t162) a0_0 l0_1)) else (spec_ClockSet.j0 k a1 a2 a3 true a0_0 l0_1))) else (spec_ClockSet.j0 k a1 a2 a3 true a0_0 l0_1))) else (spec_ClockSet.j0 k a1 a2 a3 true a0_0 l0_1))
theorem spec_ClockSet.mono_l : ∀ k, (∀ y0 y1 y2 y3 y4 y5, LeO (spec_ClockSet.j0 k y0 y1 y2 y3 y4 y5) (spec_ClockSet.j0 (k + 1) y0 y1 y2 y3 y4 y5))
|0 => fun _ _ _ _ _ _ r h => by simp [spec_ClockSet.j0] at h
|k + 1 => by
  have ih0 := spec_ClockSet.mono_l k
  ·intro y0 y1 y2 y3 y4 y5
   unfold spec_ClockSet.j0
   repeat' first
  |(with_reducible exact ih0 _ _ _ _ _ _)
  |(with_reducible exact spec_ClockOk.mono _ _ _)
  |(with_reducible exact spec_l19Add.mono _ _ _ _ _)
  |(with_reducible exact spec_l19Less.mono _ _ _)
  |(with_reducible exact LeO.refl _)
  |(with_reducible exact LeO.none _)
  |(with_reducible refine LeO.ite ?_ ?_)
  |(with_reducible refine LeO.bind ?_ (fun _ => ?_))
  |exact ih0 _ _ _ _ _ _
  |exact spec_ClockOk.mono _ _ _
  |exact spec_l19Add.mono _ _ _ _ _
  |exact spec_l19Less.mono _ _ _
  |exact LeO.none _
  |refine LeO.ite ?_ ?_
  |refine LeO.bind ?_ (fun _ => ?_)
theorem spec_ClockSet.mono : ∀ a0 a1 a2 a3 a4 k, LeO (spec_ClockSet.f k a0 a1 a2 a3 a4) (spec_ClockSet.f (k + 1) a0 a1 a2 a3 a4) := by
 intro a0 a1 a2 a3 a4 k
 have ih0 := spec_ClockSet.mono_l k
 unfold spec_ClockSet.f
 repeat' first
  |(with_reducible exact ih0 _ _ _ _ _ _)
  |(with_reducible exact spec_ClockOk.mono _ _ _)
  |(with_reducible exact spec_l19Add.mono _ _ _ _ _)
  |(with_reducible exact spec_l19Less.mono _ _ _)
  |(with_reducible exact LeO.refl _)
  |(with_reducible exact LeO.none _)
  |(with_reducible refine LeO.ite ?_ ?_)
  |(with_reducible refine LeO.bind ?_ (fun _ => ?_))
  |exact ih0 _ _ _ _ _ _
  |exact spec_ClockOk.mono _ _ _
  |exact spec_l19Add.mono _ _ _ _ _
  |exact spec_l19Less.mono _ _ _
  |exact LeO.none _
  |refine LeO.ite ?_ ?_
  |refine LeO.bind ?_ (fun _ => ?_)
def spec_ClockSet.T3 : Bool × List (List Nat × List Nat) := (true, [([], []), ([0], [0]), ([], []), ([1, 2], [1, 2]), ([], []), ([], []), ([5], [5]), ([], []), ([6, 7], [6, 7]), ([], []), ([4, 8, 9], [4, 8, 9]), ([3, 10, 3], [3, 10]), ([11, 11, 0, 1, 2, 3, 4, 5, 6, 7, 8, 9, 10, 11], [11])])
def spec_ClockSet.B3 : List Nat := [0, 1, 0, 7, 0, 0, 32, 0, 224, 0, 1008, 2047, 4095]
theorem spec_ClockSet.tab3 : rtab .any (opsOf Try.f23 3) = spec_ClockSet.T3 := by kernel_rfl
theorem spec_ClockSet.bits3 : waitsOk spec_ClockSet.T3.2 spec_ClockSet.B3 = true := by kernel_rfl
abbrev z23q0 : Array Bool := bQ 13 0
abbrev z23q1 : Array Bool := bQ 13 1
abbrev z23q2 : Array Bool := bQ 13 5
abbrev z23q3 : Array Bool := bQ 13 21
abbrev z23q4 : Array Bool := bQ 13 53
abbrev z23q5 : Array Bool := bQ 13 181
abbrev z23q6 : Array Bool := bQ 13 693
abbrev z23q7 : Array Bool := bQ 13 695
abbrev z23q8 : Array Bool := bQ 13 759
abbrev z23q9 : Array Bool := bQ 13 1015
abbrev z23q10 : Array Bool := bQ 13 2039
abbrev z23q11 : Array Bool := bQ 13 2047
abbrev z23q12 : Array Bool := bQ 13 4095
abbrev z23q13 : Array Bool := bQ 13 8191
set_option maxHeartbeats 2000000 in
set_option maxRecDepth 100000 in
theorem spec_ClockSet.calls (k:Nat) (a0_0:Int) (A0_1:Option Addr) (c0_1:Nat) (l0_1:List (S35)) (a1:Int) (a2:Int) (a3:Int) (r1:Int) (r2:List (S35)) (r3:Bool) (w:World) (hr0_1:Kd.C k35 w A0_1 l0_1.length l0_1) (hc0_1:l0_1.length≤c0_1) (h:spec_ClockSet.f k a0_0 l0_1 a1 a2 a3=some (r1,r2,r3)) :
  Calls Try.prog 23 #[.agg #[.int .i64 a0_0,.slice A0_1 l0_1.length c0_1],.int .i64 a1,.int .i64 a2,.int .i64 a3] w fun e w'=>∃ v1_:Value,e=.returned (.tuple #[.agg #[.int .i64 r1,v1_],.bool r3])∧Kd.R k35 35 w' w.heap.size (fun _=>True) v1_ r2∧Below w.heap.size w w':=by
 have hu25:=Try.underlying25
 have hu35:=Try.underlying35
 have HR0_1:=Am hr0_1
 have HC0_1:=Am hc0_1
 clear hr0_1 hc0_1
 have HB:=Am (bJ w.heap.size w)
 have H:((spec_ClockOk.f k a0_0 l0_1).bind fun t159=>(if t159=true then ((spec_l6In.f a1 0 99).bind fun t160=>(if t160=true then ((spec_l6In.f a2 1 (wrap64 (4095 - a0_0))).bind fun t161=>(if t161=true then ((spec_l6In.f a3 0 99).bind fun t162=>(spec_ClockSet.j0 k a1 a2 a3 (!t162) a0_0 l0_1)) else (spec_ClockSet.j0 k a1 a2 a3 true a0_0 l0_1))) else (spec_ClockSet.j0 k a1 a2 a3 true a0_0 l0_1))) else (spec_ClockSet.j0 k a1 a2 a3 true a0_0 l0_1)))=some (r1,r2,r3):=h
 clear h
 have HC5:=Am H
 clear H
 go_enter Try.func23,Try.ntmps23
 go_upto_region 1 with (first|((with_reducible refine gD (N:=4) rfl ?_);refine bI ?hg (N:=4) ?hd (cs:=#[.int .i64 a0_0,.slice A0_1 l0_1.length c0_1]) (t:=25) ?hr ?_;(case hd=>rfl);(case hg=>rfl);(case hr=>first|(go_simp;done)|(go_simp;rfl));intro Bc hg w6 hbox hb;have n0_:=Am (bP (by repeat (first|(with_reducible first|exact HB.out|apply oA|apply pN|apply o1)|exact HB.out)) hb);have n1_:=Am (hbox);have n2_:=Am ((by rw [hg];exact (bZ (by repeat (first|(with_reducible first|exact HB.out|apply oA|apply pN|apply o1)|exact HB.out))):w.heap.size≤Bc));have n3_:=Am ((by rw [hg];exact (bZ (by repeat (first|(with_reducible first|exact HB.out|apply oA|apply pN|apply o1)|exact HB.out))):w.heap.size≤Bc));clear HB;revert n0_ n1_ n2_ n3_;intro HB Ba BY Be;clear hb hbox hg)|((with_reducible refine gD (N:=8) rfl ?_);refine bI ?hg (N:=8) ?hd (cs:=#[.int .i64 0,.slice none 0 0]) (t:=25) ?hr ?_;(case hd=>rfl);(case hg=>rfl);(case hr=>first|(go_simp;done)|(go_simp;rfl));intro Bd hg w7 hbox hb;have n0_:=Am (bX Ba.out hb);have n1_:=Am (bP (by repeat (first|(with_reducible first|exact HB.out|apply oA|apply pN|apply o1|refine bS ?_ Be.out)|exact HB.out)) hb);have n2_:=Am (hbox);have n3_:=Am ((by rw [hg];exact (bZ (by repeat (first|(with_reducible first|exact HB.out|apply oA|apply pN|apply o1|refine bS ?_ Be.out)|exact HB.out))):w.heap.size≤Bd));have n4_:=Am ((by rw [hg];exact (bZ (by repeat (first|(with_reducible first|exact HB.out|apply oA|apply pN|apply o1|refine bS ?_ Be.out)|exact HB.out))):w.heap.size≤Bd));have n5_:=Am ((nL Ba.out hg));have n6_:=Am ((nG Ba.out hg));clear Ba HB;revert n0_ n1_ n2_ n3_ n4_ n5_ n6_;intro Ba HB Bb BZ Bf Bh Bi;clear hb hbox hg))
 (try simp only [Act.put,lA,lZ,lS])
 go_cut [31] (fun v31 wc=>∃ (kq:Nat) (x31_4:Bool),v31=.bool x31_4∧Aside0 (spec_ClockSet.j0 kq a1 a2 a3 x31_4 a0_0 l0_1=some (r1,r2,r3))∧Aside0 (kq≤k)∧Aside0 (wc.heap[Bc]?=some (.cells #[.int .i64 a0_0,(.slice A0_1 l0_1.length c0_1)] 25 (0,0)))∧Aside0 (wc.heap[Bd]?=some (.cells #[.int .i64 0,(.slice none 0 0)] 25 (0,0)))∧Aside0 (Below w.heap.size w wc))
 case first =>
  have H:=HC5.out
  clear HC5
  replace H:=oC H
  obtain ⟨t159,A80,H⟩:=H
  replace H:(if t159=true then ((spec_l6In.f a1 0 99).bind fun t160=>(if t160=true then ((spec_l6In.f a2 1 (wrap64 (4095 - a0_0))).bind fun t161=>(if t161=true then ((spec_l6In.f a3 0 99).bind fun t162=>(spec_ClockSet.j0 k a1 a2 a3 (!t162) a0_0 l0_1)) else (spec_ClockSet.j0 k a1 a2 a3 true a0_0 l0_1))) else (spec_ClockSet.j0 k a1 a2 a3 true a0_0 l0_1))) else (spec_ClockSet.j0 k a1 a2 a3 true a0_0 l0_1))=some (r1,r2,r3):=H
  have A8:=Am A80
  clear A80
  by_cases c9:t159=true
  rotate_left
  ·replace c9:=Bool.eq_false_iff.mpr c9
   subst c9
   have H1:(spec_ClockSet.j0 k a1 a2 a3 true a0_0 l0_1)=some (r1,r2,r3):=by rw [if_neg (show ¬ (false=true) by decide)] at H;exact H
   clear H
   have H:=H1
   clear H1
   have H':=Am H
   clear H
   have B7:=Bh.out
   have B8:=Bi.out
   have BE:=cz0 Ba.out
   have BF:=cz1 Ba.out
   have BG:=bF Ba.out 0
   have BH:=bF Ba.out 1
   go_wp2_with (first|((with_reducible refine gC (f:=18) rfl ?_);refine goesL_ (some 12) rfl rfl Try.func18 (by kernel_rfl) rfl #[.agg #[.int .i64 a0_0,.slice A0_1 l0_1.length c0_1]] rfl (by (try simp only [lM,lC,lN]);first|done|rfl|(simp only [lD,lT];rfl)) ?_;(with_reducible refine (spec_ClockOk.calls k a0_0 _ _ l0_1 false _ ?side1 ?side2 A8.out).mono ?_);(case side1=>exact cL (cB HR0_1.out HB.out));(case side2=>exact HC0_1.out);rintro e w28 ⟨rfl,hb⟩;refine ⟨_,rfl,?_⟩;have n0_:=Am (bX Ba.out hb);have n1_:=Am (bX Bb.out hb);have n2_:=Am (bP (by repeat (first|(with_reducible first|exact HB.out|apply oA|apply pN|apply o1|refine bS ?_ Be.out|refine bS ?_ Bf.out)|exact HB.out)) hb);clear Ba Bb HB;revert n0_ n1_ n2_;intro Ba Bb HB;(try clear hb);(try clear hb2);(try clear hk);(try clear hi)))
   go_meet
   case rel=>exact ⟨_,(true),(by first|rfl|(simp;done)|(simp [*];done)),H',⟨by first|omega|exact nR _⟩,⟨by (with_reducible repeat (first|refine bN ?_ _|refine bD ?_|refine bA ?_ _));exact Ba.out⟩,⟨by (with_reducible repeat (first|refine bN ?_ _|refine bD ?_|refine bA ?_ _));exact Bb.out⟩,⟨by repeat (first|(with_reducible first|exact HB.out|apply oA|apply pN|apply o1|refine bS ?_ Be.out|refine bS ?_ Bf.out)|exact HB.out)⟩⟩
  subst c9
  have H1:((spec_l6In.f a1 0 99).bind fun t160=>(if t160=true then ((spec_l6In.f a2 1 (wrap64 (4095 - a0_0))).bind fun t161=>(if t161=true then ((spec_l6In.f a3 0 99).bind fun t162=>(spec_ClockSet.j0 k a1 a2 a3 (!t162) a0_0 l0_1)) else (spec_ClockSet.j0 k a1 a2 a3 true a0_0 l0_1))) else (spec_ClockSet.j0 k a1 a2 a3 true a0_0 l0_1)))=some (r1,r2,r3):=by rw [if_pos rfl] at H;exact H
  clear H
  have H:=H1
  clear H1
  replace H:=oC H
  obtain ⟨t160,A100,H⟩:=H
  replace H:(if t160=true then ((spec_l6In.f a2 1 (wrap64 (4095 - a0_0))).bind fun t161=>(if t161=true then ((spec_l6In.f a3 0 99).bind fun t162=>(spec_ClockSet.j0 k a1 a2 a3 (!t162) a0_0 l0_1)) else (spec_ClockSet.j0 k a1 a2 a3 true a0_0 l0_1))) else (spec_ClockSet.j0 k a1 a2 a3 true a0_0 l0_1))=some (r1,r2,r3):=H
  have A10:=Am A100
  clear A100
  by_cases c11:t160=true
  rotate_left
  ·replace c11:=Bool.eq_false_iff.mpr c11
   subst c11
   have H1:(spec_ClockSet.j0 k a1 a2 a3 true a0_0 l0_1)=some (r1,r2,r3):=by rw [if_neg (show ¬ (false=true) by decide)] at H;exact H
   clear H
   have H:=H1
   clear H1
   have H':=Am H
   clear H
   have B5:=Bh.out
   have B6:=Bi.out
   have BA:=cz0 Ba.out
   have BB:=cz1 Ba.out
   have BC:=bF Ba.out 0
   have BD:=bF Ba.out 1
   go_wp2_with (first|((with_reducible refine gC (f:=18) rfl ?_);refine goesL_ (some 12) rfl rfl Try.func18 (by kernel_rfl) rfl #[.agg #[.int .i64 a0_0,.slice A0_1 l0_1.length c0_1]] rfl (by (try simp only [lM,lC,lN]);first|done|rfl|(simp only [lD,lT];rfl)) ?_;(with_reducible refine (spec_ClockOk.calls k a0_0 _ _ l0_1 true _ ?side1 ?side2 A8.out).mono ?_);(case side1=>exact cL (cB HR0_1.out HB.out));(case side2=>exact HC0_1.out);rintro e w25 ⟨rfl,hb⟩;refine ⟨_,rfl,?_⟩;have n0_:=Am (bX Ba.out hb);have n1_:=Am (bX Bb.out hb);have n2_:=Am (bP (by repeat (first|(with_reducible first|exact HB.out|apply oA|apply pN|apply o1|refine bS ?_ Be.out|refine bS ?_ Bf.out)|exact HB.out)) hb);clear Ba Bb HB;revert n0_ n1_ n2_;intro Ba Bb HB;(try clear hb);(try clear hb2);(try clear hk);(try clear hi))|(go_at_call 27;(with_reducible refine (spec_l6In.calls a1 0 99 false _ A10.out).mono ?_);rintro e w' ⟨rfl,⟨nd,rfl⟩⟩))
   go_meet
   case rel=>exact ⟨_,(true),(by first|rfl|(simp;done)|(simp [*];done)),H',⟨by first|omega|exact nR _⟩,⟨by (with_reducible repeat (first|refine bN ?_ _|refine bD ?_|refine bA ?_ _));exact Ba.out⟩,⟨by (with_reducible repeat (first|refine bN ?_ _|refine bD ?_|refine bA ?_ _));exact Bb.out⟩,⟨by repeat (first|(with_reducible first|exact HB.out|apply oA|apply pN|apply o1|refine bS ?_ Be.out|refine bS ?_ Bf.out)|exact HB.out)⟩⟩
  subst c11
  have H1:((spec_l6In.f a2 1 (wrap64 (4095 - a0_0))).bind fun t161=>(if t161=true then ((spec_l6In.f a3 0 99).bind fun t162=>(spec_ClockSet.j0 k a1 a2 a3 (!t162) a0_0 l0_1)) else (spec_ClockSet.j0 k a1 a2 a3 true a0_0 l0_1)))=some (r1,r2,r3):=by rw [if_pos rfl] at H;exact H
  clear H
  have H:=H1
  clear H1
  replace H:=oC H
  obtain ⟨t161,A120,H⟩:=H
  replace H:(if t161=true then ((spec_l6In.f a3 0 99).bind fun t162=>(spec_ClockSet.j0 k a1 a2 a3 (!t162) a0_0 l0_1)) else (spec_ClockSet.j0 k a1 a2 a3 true a0_0 l0_1))=some (r1,r2,r3):=H
  have A12:=Am A120
  clear A120
  by_cases c13:t161=true
  rotate_left
  ·replace c13:=Bool.eq_false_iff.mpr c13
   subst c13
   have H1:(spec_ClockSet.j0 k a1 a2 a3 true a0_0 l0_1)=some (r1,r2,r3):=by rw [if_neg (show ¬ (false=true) by decide)] at H;exact H
   clear H
   have H:=H1
   clear H1
   have H':=Am H
   clear H
   have B2:=Bh.out
   have B4:=Bi.out
   have Bs:=cz0 Ba.out
   have Bt:=cz1 Ba.out
   have Bu:=bF Ba.out 0
   have Bv:=bF Ba.out 1
   go_wp2_with (first|((with_reducible refine gC (f:=18) rfl ?_);refine goesL_ (some 12) rfl rfl Try.func18 (by kernel_rfl) rfl #[.agg #[.int .i64 a0_0,.slice A0_1 l0_1.length c0_1]] rfl (by (try simp only [lM,lC,lN]);first|done|rfl|(simp only [lD,lT];rfl)) ?_;(with_reducible refine (spec_ClockOk.calls k a0_0 _ _ l0_1 true _ ?side1 ?side2 A8.out).mono ?_);(case side1=>exact cL (cB HR0_1.out HB.out));(case side2=>exact HC0_1.out);rintro e w21 ⟨rfl,hb⟩;refine ⟨_,rfl,?_⟩;have n0_:=Am (bX Ba.out hb);have n1_:=Am (bX Bb.out hb);have n2_:=Am (bP (by repeat (first|(with_reducible first|exact HB.out|apply oA|apply pN|apply o1|refine bS ?_ Be.out|refine bS ?_ Bf.out)|exact HB.out)) hb);clear Ba Bb HB;revert n0_ n1_ n2_;intro Ba Bb HB;(try clear hb);(try clear hb2);(try clear hk);(try clear hi))|(go_at_call 27;(with_reducible refine (spec_l6In.calls a1 0 99 true _ A10.out).mono ?_);rintro e w' ⟨rfl,⟨nd,rfl⟩⟩;have Bw:=cz0 Ba.out;have Bx:=cz1 Ba.out;have By:=bF Ba.out 0;have Bz:=bF Ba.out 1)|(go_at_call 27;(with_reducible refine (spec_l6In.calls a2 1 (wrap64 (4095 - a0_0)) false _ A12.out).mono ?_);rintro e w' ⟨rfl,⟨nd,rfl⟩⟩))
   go_meet
   case rel=>exact ⟨_,(true),(by first|rfl|(simp;done)|(simp [*];done)),H',⟨by first|omega|exact nR _⟩,⟨by (with_reducible repeat (first|refine bN ?_ _|refine bD ?_|refine bA ?_ _));exact Ba.out⟩,⟨by (with_reducible repeat (first|refine bN ?_ _|refine bD ?_|refine bA ?_ _));exact Bb.out⟩,⟨by repeat (first|(with_reducible first|exact HB.out|apply oA|apply pN|apply o1|refine bS ?_ Be.out|refine bS ?_ Bf.out)|exact HB.out)⟩⟩
  subst c13
  have H1:((spec_l6In.f a3 0 99).bind fun t162=>(spec_ClockSet.j0 k a1 a2 a3 (!t162) a0_0 l0_1))=some (r1,r2,r3):=by rw [if_pos rfl] at H;exact H
  clear H
  have H:=H1
  clear H1
  replace H:=oC H
  obtain ⟨t162,A140,H⟩:=H
  replace H:(spec_ClockSet.j0 k a1 a2 a3 (!t162) a0_0 l0_1)=some (r1,r2,r3):=H
  have A14:=Am A140
  clear A140
  have H':=Am H
  clear H
  have B0:=Bh.out
  have B1:=Bi.out
  have Bk:=cz0 Ba.out
  have Bl:=cz1 Ba.out
  have Bm:=bF Ba.out 0
  have Bn:=bF Ba.out 1
  go_wp2_with (first|((with_reducible refine gC (f:=18) rfl ?_);refine goesL_ (some 12) rfl rfl Try.func18 (by kernel_rfl) rfl #[.agg #[.int .i64 a0_0,.slice A0_1 l0_1.length c0_1]] rfl (by (try simp only [lM,lC,lN]);first|done|rfl|(simp only [lD,lT];rfl)) ?_;(with_reducible refine (spec_ClockOk.calls k a0_0 _ _ l0_1 true _ ?side1 ?side2 A8.out).mono ?_);(case side1=>exact cL (cB HR0_1.out HB.out));(case side2=>exact HC0_1.out);rintro e w17 ⟨rfl,hb⟩;refine ⟨_,rfl,?_⟩;have n0_:=Am (bX Ba.out hb);have n1_:=Am (bX Bb.out hb);have n2_:=Am (bP (by repeat (first|(with_reducible first|exact HB.out|apply oA|apply pN|apply o1|refine bS ?_ Be.out|refine bS ?_ Bf.out)|exact HB.out)) hb);clear Ba Bb HB;revert n0_ n1_ n2_;intro Ba Bb HB;(try clear hb);(try clear hb2);(try clear hk);(try clear hi))|(go_at_call 27;(with_reducible refine (spec_l6In.calls a1 0 99 true _ A10.out).mono ?_);rintro e w' ⟨rfl,⟨nd,rfl⟩⟩;have Bo:=cz0 Ba.out;have Bp:=cz1 Ba.out;have Bq:=bF Ba.out 0;have Br:=bF Ba.out 1)|(go_at_call 27;(with_reducible refine (spec_l6In.calls a2 1 (wrap64 (4095 - a0_0)) true _ A12.out).mono ?_);rintro e w' ⟨rfl,⟨nd,rfl⟩⟩)|(go_at_call 27;(with_reducible refine (spec_l6In.calls a3 0 99 t162 _ A14.out).mono ?_);rintro e w' ⟨rfl,⟨nd,rfl⟩⟩))
  go_meet
  case rel=>exact ⟨_,(!t162),(by first|rfl|(simp;done)|(simp [*];done)),H',⟨by first|omega|exact nR _⟩,⟨by (with_reducible repeat (first|refine bN ?_ _|refine bD ?_|refine bA ?_ _));exact Ba.out⟩,⟨by (with_reducible repeat (first|refine bN ?_ _|refine bD ?_|refine bA ?_ _));exact Bb.out⟩,⟨by repeat (first|(with_reducible first|exact HB.out|apply oA|apply pN|apply o1|refine bS ?_ Be.out|refine bS ?_ Bf.out)|exact HB.out)⟩⟩
 case rest =>
  clear HC5
  try clear c1
  try clear c2
  try clear p2
  try clear p6
  try clear c9
  try clear c11
  try clear c13
  try clear c15
  try clear c18
  try clear c19
  try clear c23
  try clear c26
  try clear Bk
  try clear Bl
  try clear Bo
  try clear Bp
  try clear Bs
  try clear Bt
  try clear Bw
  try clear Bx
  try clear BA
  try clear BB
  try clear BE
  try clear BF
  try clear Bm
  try clear Bn
  try clear Bq
  try clear Br
  try clear Bu
  try clear Bv
  try clear By
  try clear Bz
  try clear BC
  try clear BD
  try clear BG
  try clear BH
  obtain ⟨kq,x31_4,rfl,HA,Df,Ba,Bb,HB⟩:=hcut
  cases kq with
 |zero=>exact absurd HA.out (by simp [spec_ClockSet.j0])
 |succ kj4 =>
   have H:=HA.out
   clear HA
   simp only [spec_ClockSet.j0] at H
   by_cases c29:x31_4=true
   ·subst c29
    have H1:(some (0,([]:List (S35)),false))=some (r1,r2,r3):=by rw [if_pos rfl] at H;exact H
    clear H
    have H:=H1
    clear H1
    simp only [Option.some.injEq,Prod.mk.injEq] at H
    obtain ⟨rfl,rfl,rfl⟩:=H
    have B9:=Bi.out
    have Da:=Bh.out
    have BI:=cz0 Bb.out
    have BJ:=cz1 Bb.out
    have BK:=bF Bb.out 0
    have BL:=bF Bb.out 1
    go_wp2
    refine bodyPost_ret (results_ct rfl _ _ Bd 25 #[.int .i64 0,.slice none 0 0] (0,0) _ rfl (by (with_reducible repeat (first|refine bN ?_ _|refine bD ?_|refine bA ?_ _));refine bT (cs:=#[.int .i64 0,.slice none 0 0]) ?_ 1 _ rfl;(with_reducible repeat (first|refine bN ?_ _|refine bD ?_|refine bA ?_ _));refine bT (cs:=#[.int .i64 0,.slice none 0 0]) ?_ 0 _ rfl;(with_reducible repeat (first|refine bN ?_ _|refine bD ?_|refine bA ?_ _));exact Bb.out) Try.underlying25 rfl (by kernel_rfl)) rfl ?_
    exact ⟨_,by first|rfl|(simp [errW_none,errW_some] <;> rfl)|(simp [*,errW_none,errW_some] <;> rfl),by first|exact Kd.R_nil _ _ _ _ _|exact Kd.N_nil _ _ _ _ _|exact Kd.V_nil _ _ _ _ _|exact Kd.Q_nil _ _ _ _ _|exact Kd.S_nil _ _ _ _ _,by repeat (first|(with_reducible first|exact HB.out|apply oA|apply pN|apply o1|refine bS ?_ Be.out|refine bS ?_ Bf.out)|exact HB.out)⟩
   replace c29:=Bool.eq_false_iff.mpr c29
   subst c29
   have H1:((spec_l19Less.f kj4 l0_1 a1).bind fun t163=>((spec_l19Add.f kj4 t163 a1 (wrap64 (a0_0 + a2)) a3).bind fun t166=>(if (t166.length:Int) > 12 then (some (0,([]:List (S35)),false)) else (some (a0_0,t166,true)))))=some (r1,r2,r3):=by rw [if_neg (show ¬ (false=true) by decide)] at H;exact H
   clear H
   have H:=H1
   clear H1
   replace H:=oC H
   obtain ⟨t163,A320,H⟩:=H
   replace H:((spec_l19Add.f kj4 t163 a1 (wrap64 (a0_0 + a2)) a3).bind fun t166=>(if (t166.length:Int) > 12 then (some (0,([]:List (S35)),false)) else (some (a0_0,t166,true))))=some (r1,r2,r3):=H
   have A32:=Am A320
   clear A320
   replace H:=oC H
   obtain ⟨t166,A330,H⟩:=H
   replace H:(if (t166.length:Int) > 12 then (some (0,([]:List (S35)),false)) else (some (a0_0,t166,true)))=some (r1,r2,r3):=H
   have A33:=Am A330
   clear A330
   by_cases c34:(t166.length:Int) > 12
   ·rw [if_pos c34] at H
    have c34b0:decide (12<(t166.length:Int))=true:=dT c34
    have c34b1:decide (12<t166.length)=true:=dT (by omega)
    clear c34
    simp only [Option.some.injEq,Prod.mk.injEq] at H
    obtain ⟨rfl,rfl,rfl⟩:=H
    try go_wp2
    have n0_:=Am (bD Ba.out)
    have n1_:=Am (bD Bb.out)
    have n2_:=Am (o1 HB.out)
    clear Ba
    clear Bb
    clear HB
    have Ba:=n0_
    have Bb:=n1_
    have HB:=n2_
    clear n0_ n1_ n2_
    refine start_ (n:=13) (S:=fun w'=>w'.cell? ⟨Bc,0,none⟩=some (.int .i64 a0_0)∧w'.cell? ⟨Bc,1,none⟩=some (.slice A0_1 l0_1.length c0_1)) (ds:=[]) z23q0 (by kernel_rfl) rfl rfl ⟨(bC Ba.out 0).trans rfl,(bC Ba.out 1).trans rfl⟩ (fun hHeld=>?_);refine with_st spec_ClockSet.tab3 spec_ClockSet.bits3 (fun _ _ _ _ _ h=>h) (fun HT_=>?_)
    generalize wc.drew=w35 at Ba Bb HB hHeld ⊢
    refine pS 0 33 z23q1 HT_ rfl rfl (by kernel_rfl) (by rfl) (by intro w';go_simp;with_reducible rfl) (by simp only [Act.put,lA,lZ,lS,iw,jw];rfl) ?_
    refine pS 2 35 z23q2 HT_ rfl rfl (by kernel_rfl) (by rfl) (by intro w';go_simp;with_reducible rfl) (by simp only [Act.put,lA,lZ,lS,iw,jw];rfl) ?_
    refine pS 4 37 z23q3 HT_ rfl rfl (by kernel_rfl) (by rfl) (by intro w';go_simp;with_reducible rfl) (by simp only [Act.put,lA,lZ,lS,iw,jw];rfl) ?_
    refine pS 5 38 z23q4 HT_ rfl rfl (by kernel_rfl) (by rfl) (by intro w';go_simp;with_reducible rfl) (by simp only [Act.put,lA,lZ,lS,iw,jw];rfl) ?_
    refine pS 7 40 z23q5 HT_ rfl rfl (by kernel_rfl) (by rfl) (by intro w';go_simp;with_reducible rfl) (by simp only [Act.put,lA,lZ,lS,iw,jw];rfl) ?_
    refine pS 9 42 z23q6 HT_ rfl rfl (by kernel_rfl) (by rfl) (by intro w';go_simp;with_reducible rfl) (by simp only [Act.put,lA,lZ,lS,iw,jw];rfl) ?_
    refine tS 1 34 z23q7 HT_ hHeld rfl rfl (by kernel_rfl) (by rfl) (by rintro w' ⟨s0,s1⟩;go_simp;with_reducible rfl) (by simp only [Act.put,lA,lZ,lS,iw,jw];rfl) ?_
    refine tS 6 39 z23q8 HT_ hHeld rfl rfl (by kernel_rfl) (by rfl) (by rintro w' ⟨s0,s1⟩;go_simp;with_reducible rfl) (by simp only [Act.put,lA,lZ,lS,iw,jw];rfl) ?_
    refine pS 8 41 z23q9 HT_ rfl rfl (by kernel_rfl) (by rfl) (by intro w';go_simp;with_reducible rfl) (by simp only [Act.put,lA,lZ,lS,iw,jw];rfl) ?_
    refine pS 10 43 z23q10 HT_ rfl rfl (by kernel_rfl) (by rfl) (by intro w';go_simp;with_reducible rfl) (by simp only [Act.put,lA,lZ,lS,iw,jw];rfl) ?_
    refine oS 3 36 z23q11 HT_ rfl rfl (by kernel_rfl) (by decide) (fun K hK=>?_)
    refine goes_ Try.func17 (by kernel_rfl) rfl #[.slice A0_1 l0_1.length c0_1,.int .i64 a1] (by rfl) rfl rfl (by (try simp only [lM,lC,lN]);first|done|rfl|(simp only [lD,lT];rfl)) ?_
    with_reducible refine (spec_l19Less.calls kj4 _ _ l0_1 a1 t163 _ ?side1 ?side2 A32.out).mono ?_
    (case side1=>exact cL (cB HR0_1.out HB.out))
    (case side2=>exact HC0_1.out)
    rintro e w36 ⟨v164,rfl,ho0,hb⟩
    refine ⟨_,rfl,?_⟩
    have n0_:=Am (rW ho0 (bZ (by repeat (first|(with_reducible first|exact HB.out|apply oA|apply pN|apply o1|refine bS ?_ Be.out|refine bS ?_ Bf.out)|exact HB.out))))
    have n1_:=Am (bX Ba.out hb)
    have n2_:=Am (bX Bb.out hb)
    have n3_:=Am (bP (by repeat (first|(with_reducible first|exact HB.out|apply oA|apply pN|apply o1|refine bS ?_ Be.out|refine bS ?_ Bf.out)|exact HB.out)) hb)
    clear Ba
    clear Bb
    clear HB
    have Bg:=n0_
    have Ba:=n1_
    have Bb:=n2_
    have HB:=n3_
    clear n0_ n1_ n2_ n3_
    (try clear hb)
    (try clear hb2)
    (try clear hk)
    (try clear hi)
    (try clear ho0)
    obtain ⟨Ao37,co37,eo37⟩:=rC Bg.out
    (first|subst eo37|(injection eo37 with f1_ f2_ f3_;have f4_:=f1_.symm;have f5_:=f3_.symm;clear f1_ f2_ f3_;subst f4_;subst f5_))
    refine hK.out _ _ ⟨(bC Ba.out 0).trans rfl,(bC Ba.out 1).trans rfl⟩ (fun hHeld=>?_)
    clear hK K
    refine norm_ (by show Act.put _ (some 36) _=_;simp only [Act.put,lA,lZ,lS,iw,jw];rfl) ?_
    refine oS 11 44 z23q12 HT_ rfl rfl (by kernel_rfl) (by decide) (fun K hK=>?_)
    refine goes_ Try.func32 (by kernel_rfl) rfl #[.slice Ao37 t163.length co37,.agg #[.int .i64 a1,.int .i64 (wrap64 (a0_0 + a2)),.int .i64 a3]] (by rfl) rfl rfl (by (try simp only [lM,lC,lN]);first|done|rfl|(simp only [lD,lT];rfl)) ?_
    with_reducible refine (spec_l19Add.calls kj4 _ _ t163 a1 (wrap64 (a0_0 + a2)) a3 t166 _ ?side1 ?side2 A33.out).mono ?_
    (case side1=>exact cL (rR Bg.out).2.2)
    (case side2=>exact (rR Bg.out).2.1)
    rintro e w38 ⟨v167,rfl,ho0,hb⟩
    refine ⟨_,rfl,?_⟩
    have n0_:=Am (rX (rL Bg.out) (rZ ho0) hb)
    have n1_:=Am (rW (rQ ho0 (rI (rL Bg.out))) (bZ (by repeat (first|(with_reducible first|exact HB.out|apply oA|apply pN|apply o1|refine bS ?_ Be.out|refine bS ?_ Bf.out)|exact HB.out))))
    have n2_:=Am (bX Ba.out hb)
    have n3_:=Am (bX Bb.out hb)
    have n4_:=Am (bP (by repeat (first|(with_reducible first|exact HB.out|apply oA|apply pN|apply o1|refine bS ?_ Be.out|refine bS ?_ Bf.out)|exact HB.out)) hb)
    clear Bg
    clear Ba
    clear Bb
    clear HB
    have Bg:=n0_
    have Bj:=n1_
    have Ba:=n2_
    have Bb:=n3_
    have HB:=n4_
    clear n0_ n1_ n2_ n3_ n4_
    (try clear hb)
    (try clear hb2)
    (try clear hk)
    (try clear hi)
    (try clear ho0)
    refine hK.out _ _ ⟨(bC Ba.out 0).trans rfl,(bC Ba.out 1).trans rfl⟩ (fun hHeld=>?_)
    clear hK K
    refine norm_ (by show Act.put _ (some 44) _=_;simp only [Act.put,lA,lZ,lS,iw,jw];rfl) ?_
    refine pS 12 10 z23q13 HT_ rfl rfl (by kernel_rfl) (by rfl) (by intro w';go_simp;with_reducible rfl) (by simp only [Act.put,lA,lZ,lS,iw,jw];rfl) ?_
    refine done_ (done_of HT_.out (by kernel_rfl)) ?_
    obtain ⟨Ao39,co39,eo39⟩:=rC Bj.out
    subst eo39
    have Db:=Bi.out
    have Dc:=Bh.out
    have BM:=cz0 Bb.out
    have BN:=cz1 Bb.out
    have BO:=bF Bb.out 0
    have BP:=bF Bb.out 1
    try go_wp2
    refine bodyPost_ret (results_ct rfl _ _ Bd 25 #[.int .i64 0,.slice none 0 0] (0,0) _ rfl (by (with_reducible repeat (first|refine bN ?_ _|refine bD ?_|refine bA ?_ _));refine bT (cs:=#[.int .i64 0,.slice none 0 0]) ?_ 1 _ rfl;(with_reducible repeat (first|refine bN ?_ _|refine bD ?_|refine bA ?_ _));refine bT (cs:=#[.int .i64 0,.slice none 0 0]) ?_ 0 _ rfl;(with_reducible repeat (first|refine bN ?_ _|refine bD ?_|refine bA ?_ _));exact Bb.out) Try.underlying25 rfl (by kernel_rfl)) rfl ?_
    exact ⟨_,by first|rfl|(simp [errW_none,errW_some] <;> rfl)|(simp [*,errW_none,errW_some] <;> rfl),by first|exact Kd.R_nil _ _ _ _ _|exact Kd.N_nil _ _ _ _ _|exact Kd.V_nil _ _ _ _ _|exact Kd.Q_nil _ _ _ _ _|exact Kd.S_nil _ _ _ _ _,by repeat (first|(with_reducible first|exact HB.out|apply oA|apply pN|apply o1|refine bS ?_ Be.out|refine bS ?_ Bf.out)|exact HB.out)⟩
   rw [if_neg c34] at H
   have c34b0:decide (12<(t166.length:Int))=false:=dF c34
   have c34b1:decide (12<t166.length)=false:=dF (by omega)
   clear c34
   simp only [Option.some.injEq,Prod.mk.injEq] at H
   obtain ⟨rfl,rfl,rfl⟩:=H
   try go_wp2
   have n0_:=Am (bD Ba.out)
   have n1_:=Am (bD Bb.out)
   have n2_:=Am (o1 HB.out)
   clear Ba
   clear Bb
   clear HB
   have Ba:=n0_
   have Bb:=n1_
   have HB:=n2_
   clear n0_ n1_ n2_
   refine start_ (n:=13) (S:=fun w'=>w'.cell? ⟨Bc,0,none⟩=some (.int .i64 a0_0)∧w'.cell? ⟨Bc,1,none⟩=some (.slice A0_1 l0_1.length c0_1)) (ds:=[]) z23q0 (by kernel_rfl) rfl rfl ⟨(bC Ba.out 0).trans rfl,(bC Ba.out 1).trans rfl⟩ (fun hHeld=>?_);refine with_st spec_ClockSet.tab3 spec_ClockSet.bits3 (fun _ _ _ _ _ h=>h) (fun HT_=>?_)
   generalize wc.drew=w42 at Ba Bb HB hHeld ⊢
   refine pS 0 33 z23q1 HT_ rfl rfl (by kernel_rfl) (by rfl) (by intro w';go_simp;with_reducible rfl) (by simp only [Act.put,lA,lZ,lS,iw,jw];rfl) ?_
   refine pS 2 35 z23q2 HT_ rfl rfl (by kernel_rfl) (by rfl) (by intro w';go_simp;with_reducible rfl) (by simp only [Act.put,lA,lZ,lS,iw,jw];rfl) ?_
   refine pS 4 37 z23q3 HT_ rfl rfl (by kernel_rfl) (by rfl) (by intro w';go_simp;with_reducible rfl) (by simp only [Act.put,lA,lZ,lS,iw,jw];rfl) ?_
   refine pS 5 38 z23q4 HT_ rfl rfl (by kernel_rfl) (by rfl) (by intro w';go_simp;with_reducible rfl) (by simp only [Act.put,lA,lZ,lS,iw,jw];rfl) ?_
   refine pS 7 40 z23q5 HT_ rfl rfl (by kernel_rfl) (by rfl) (by intro w';go_simp;with_reducible rfl) (by simp only [Act.put,lA,lZ,lS,iw,jw];rfl) ?_
   refine pS 9 42 z23q6 HT_ rfl rfl (by kernel_rfl) (by rfl) (by intro w';go_simp;with_reducible rfl) (by simp only [Act.put,lA,lZ,lS,iw,jw];rfl) ?_
   refine tS 1 34 z23q7 HT_ hHeld rfl rfl (by kernel_rfl) (by rfl) (by rintro w' ⟨s0,s1⟩;go_simp;with_reducible rfl) (by simp only [Act.put,lA,lZ,lS,iw,jw];rfl) ?_
   refine tS 6 39 z23q8 HT_ hHeld rfl rfl (by kernel_rfl) (by rfl) (by rintro w' ⟨s0,s1⟩;go_simp;with_reducible rfl) (by simp only [Act.put,lA,lZ,lS,iw,jw];rfl) ?_
   refine pS 8 41 z23q9 HT_ rfl rfl (by kernel_rfl) (by rfl) (by intro w';go_simp;with_reducible rfl) (by simp only [Act.put,lA,lZ,lS,iw,jw];rfl) ?_
   refine pS 10 43 z23q10 HT_ rfl rfl (by kernel_rfl) (by rfl) (by intro w';go_simp;with_reducible rfl) (by simp only [Act.put,lA,lZ,lS,iw,jw];rfl) ?_
   refine oS 3 36 z23q11 HT_ rfl rfl (by kernel_rfl) (by decide) (fun K hK=>?_)
   refine goes_ Try.func17 (by kernel_rfl) rfl #[.slice A0_1 l0_1.length c0_1,.int .i64 a1] (by rfl) rfl rfl (by (try simp only [lM,lC,lN]);first|done|rfl|(simp only [lD,lT];rfl)) ?_
   with_reducible refine (spec_l19Less.calls kj4 _ _ l0_1 a1 t163 _ ?side1 ?side2 A32.out).mono ?_
   (case side1=>exact cL (cB HR0_1.out HB.out))
   (case side2=>exact HC0_1.out)
   rintro e w43 ⟨v164,rfl,ho0,hb⟩
   refine ⟨_,rfl,?_⟩
   have n0_:=Am (rW ho0 (bZ (by repeat (first|(with_reducible first|exact HB.out|apply oA|apply pN|apply o1|refine bS ?_ Be.out|refine bS ?_ Bf.out)|exact HB.out))))
   have n1_:=Am (bX Ba.out hb)
   have n2_:=Am (bX Bb.out hb)
   have n3_:=Am (bP (by repeat (first|(with_reducible first|exact HB.out|apply oA|apply pN|apply o1|refine bS ?_ Be.out|refine bS ?_ Bf.out)|exact HB.out)) hb)
   clear Ba
   clear Bb
   clear HB
   have Bg:=n0_
   have Ba:=n1_
   have Bb:=n2_
   have HB:=n3_
   clear n0_ n1_ n2_ n3_
   (try clear hb)
   (try clear hb2)
   (try clear hk)
   (try clear hi)
   (try clear ho0)
   obtain ⟨Ao44,co44,eo44⟩:=rC Bg.out
   (first|subst eo44|(injection eo44 with f1_ f2_ f3_;have f4_:=f1_.symm;have f5_:=f3_.symm;clear f1_ f2_ f3_;subst f4_;subst f5_))
   refine hK.out _ _ ⟨(bC Ba.out 0).trans rfl,(bC Ba.out 1).trans rfl⟩ (fun hHeld=>?_)
   clear hK K
   refine norm_ (by show Act.put _ (some 36) _=_;simp only [Act.put,lA,lZ,lS,iw,jw];rfl) ?_
   refine oS 11 44 z23q12 HT_ rfl rfl (by kernel_rfl) (by decide) (fun K hK=>?_)
   refine goes_ Try.func32 (by kernel_rfl) rfl #[.slice Ao44 t163.length co44,.agg #[.int .i64 a1,.int .i64 (wrap64 (a0_0 + a2)),.int .i64 a3]] (by rfl) rfl rfl (by (try simp only [lM,lC,lN]);first|done|rfl|(simp only [lD,lT];rfl)) ?_
   with_reducible refine (spec_l19Add.calls kj4 _ _ t163 a1 (wrap64 (a0_0 + a2)) a3 t166 _ ?side1 ?side2 A33.out).mono ?_
   (case side1=>exact cL (rR Bg.out).2.2)
   (case side2=>exact (rR Bg.out).2.1)
   rintro e w45 ⟨v167,rfl,ho0,hb⟩
   refine ⟨_,rfl,?_⟩
   have n0_:=Am (rX (rL Bg.out) (rZ ho0) hb)
   have n1_:=Am (rW (rQ ho0 (rI (rL Bg.out))) (bZ (by repeat (first|(with_reducible first|exact HB.out|apply oA|apply pN|apply o1|refine bS ?_ Be.out|refine bS ?_ Bf.out)|exact HB.out))))
   have n2_:=Am (bX Ba.out hb)
   have n3_:=Am (bX Bb.out hb)
   have n4_:=Am (bP (by repeat (first|(with_reducible first|exact HB.out|apply oA|apply pN|apply o1|refine bS ?_ Be.out|refine bS ?_ Bf.out)|exact HB.out)) hb)
   clear Bg
   clear Ba
   clear Bb
   clear HB
   have Bg:=n0_
   have Bj:=n1_
   have Ba:=n2_
   have Bb:=n3_
   have HB:=n4_
   clear n0_ n1_ n2_ n3_ n4_
   (try clear hb)
   (try clear hb2)
   (try clear hk)
   (try clear hi)
   (try clear ho0)
   refine hK.out _ _ ⟨(bC Ba.out 0).trans rfl,(bC Ba.out 1).trans rfl⟩ (fun hHeld=>?_)
   clear hK K
   refine norm_ (by show Act.put _ (some 44) _=_;simp only [Act.put,lA,lZ,lS,iw,jw];rfl) ?_
   refine pS 12 10 z23q13 HT_ rfl rfl (by kernel_rfl) (by rfl) (by intro w';go_simp;with_reducible rfl) (by simp only [Act.put,lA,lZ,lS,iw,jw];rfl) ?_
   refine done_ (done_of HT_.out (by kernel_rfl)) ?_
   obtain ⟨Ao46,co46,eo46⟩:=rC Bj.out
   subst eo46
   have Dd:=Bh.out
   have De:=Bi.out
   have BQ:=cz0 Ba.out
   have BR:=cz1 Ba.out
   have BS:=bF Ba.out 0
   have BT:=bF Ba.out 1
   have BU:=cz0 Bb.out
   have BV:=cz1 Bb.out
   have BW:=bF Bb.out 0
   have BX:=bF Bb.out 1
   try go_wp2
   refine bodyPost_ret (results_ct rfl _ _ Bd 25 #[.int .i64 a0_0,.slice Ao46 t166.length co46] (0,0) _ rfl (by (with_reducible repeat (first|refine bN ?_ _|refine bD ?_|refine bA ?_ _));refine bT (cs:=#[.int .i64 a0_0,.slice none 0 0]) ?_ 1 _ rfl;(with_reducible repeat (first|refine bN ?_ _|refine bD ?_|refine bA ?_ _));refine bT (cs:=#[.int .i64 0,.slice none 0 0]) ?_ 0 _ rfl;(with_reducible repeat (first|refine bN ?_ _|refine bD ?_|refine bA ?_ _));exact Bb.out) Try.underlying25 rfl (by kernel_rfl)) rfl ?_
   exact ⟨_,by first|rfl|(simp [errW_none,errW_some] <;> rfl)|(simp [*,errW_none,errW_some] <;> rfl),by (with_reducible repeat (first|apply rA|apply rN|apply rD));exact rM (rF (p:=⟨Bd,1,none⟩) (rF (p:=⟨Bd,0,none⟩) (rT Bj.out Bb.out (by decide)) (fun _ hk=>hk.2) (.int .i64 a0_0)) (fun _ hk=>hk.2) (.slice Ao46 t166.length co46)) (fun _ hk=>trivial),by repeat (first|(with_reducible first|exact HB.out|apply oA|apply pN|apply o1|refine bS ?_ Be.out|refine bS ?_ Bf.out)|exact HB.out)⟩

end Go.Proofs.Ytpacdakadkblgaa.PFnClockDrop
