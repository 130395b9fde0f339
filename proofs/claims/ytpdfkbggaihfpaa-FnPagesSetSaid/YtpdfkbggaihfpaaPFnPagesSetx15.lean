/- Proved here, without a condition beyond those that each theorem states: what the Go functions named below do is what the plain functions of the same names say. Written by xprint.py, a program of this session. -/
import Derived.Test.YtpdfkbggaihfpaaPFnPagesSetx0
import Derived.Test.YtpdfkbggaihfpaaPFnPagesSetx1
import Derived.Test.YtpdfkbggaihfpaaPFnPagesSetx2
import Derived.Test.YtpdfkbggaihfpaaPFnPagesSetx12
import Derived.Test.YtpdfkbggaihfpaaPFnPagesSetx13
import Derived.Test.YtpdfkbggaihfpaaPFnPagesSetx14
namespace Go.Proofs.Ytpdfkbggaihfpaa.PFnPagesSet
open Go.RowKit Go.Proofs.YtpdfkbggaihfpaaW.PrintWords Go.Proofs.YtpdfkbggaihfpaaW.PrintLast Go.Proofs.YtpdfkbggaihfpaaW.PrintMore
attribute [local go_sem] max2_int min2_int max_two min_two max_three min_three max_four min_four   -- for this text's walks alone
set_option linter.unusedVariables false
set_option linter.unusedSimpArgs false

attribute [local go_sem ↓] isSome_setCell_
/-! ### spec_PagesSet: function 18 -/
def spec_PagesSet.j0 : Nat → Int → Int → Int → Bool → List ByteArray → List Int → Option (List ByteArray × List Int × Bool)
|0, _, _, _, _, _, _ => none
|k + 1, x1, x2, x3, x29, x289000, x289001 => if x29 = true then (some (([] : List ByteArray), ([] : List Int), false)) else ((spec_l1Copy.f x289000 x289001).bind fun bt294 => (if 0 ≤ x1 then (if x1 < (bt294.1.length : Int) then ((spec_l1Set.f (rdOf ByteArray.empty bt294.1 x1) x2 x3).bind fun t302 => (some ((bt294.1.set (x1 : Int).toNat t302), bt294.2, true))) else (none)) else (none)))
def spec_PagesSet.f (k : Nat) (l0_0 : List ByteArray) (l0_1 : List Int) (a1 : Int) (a2 : Int) (a3 : Int) : Option (List ByteArray × List Int × Bool) := (spec_PagesOk.f k l0_0 l0_1).bind fun t290 => (if t290 = true then ((spec_l1Used.f l0_0 l0_1 a1).bind fun t291 => (if t291 = true then ((spec_l6In.f a2 0 3).bind fun t292 => (if t292 = true then ((spec_l6In.f a3 0 255).bind fun t293 => (spec_PagesSet.j0 k a1 a2 a3 (!t293) l0_0 l0_1)) else (spec_PagesSet.j0 k a1 a2 a3 true l0_0 l0_1))) else (spec_PagesSet.j0 k a1 a2 a3 true l0_0 l0_1))) else (spec_PagesSet.j0 k a1 a2 a3 true l0_0 l0_1))
theorem spec_PagesSet.mono_l : ∀ k, (∀ y0 y1 y2 y3 y4 y5, LeO (spec_PagesSet.j0 k y0 y1 y2 y3 y4 y5) (spec_PagesSet.j0 (k + 1) y0 y1 y2 y3 y4 y5))
|0 => fun _ _ _ _ _ _ r h => by simp [spec_PagesSet.j0] at h
|k + 1 => by
  have ih0 := spec_PagesSet.mono_l k
  ·intro y0 y1 y2 y3 y4 y5
   unfold spec_PagesSet.j0
   repeat' first
  |(with_reducible exact ih0 _ _ _ _ _ _)
  |(with_reducible exact spec_PagesOk.mono _ _ _)
  |(with_reducible exact LeO.refl _)
  |(with_reducible exact LeO.none _)
  |(with_reducible refine LeO.ite ?_ ?_)
  |(with_reducible refine LeO.bind ?_ (fun _ => ?_))
  |exact ih0 _ _ _ _ _ _
  |exact spec_PagesOk.mono _ _ _
  |exact LeO.none _
  |refine LeO.ite ?_ ?_
  |refine LeO.bind ?_ (fun _ => ?_)
theorem spec_PagesSet.mono : ∀ a0 a1 a2 a3 a4 k, LeO (spec_PagesSet.f k a0 a1 a2 a3 a4) (spec_PagesSet.f (k + 1) a0 a1 a2 a3 a4) := by
 intro a0 a1 a2 a3 a4 k
 have ih0 := spec_PagesSet.mono_l k
 unfold spec_PagesSet.f
 repeat' first
  |(with_reducible exact ih0 _ _ _ _ _ _)
  |(with_reducible exact spec_PagesOk.mono _ _ _)
  |(with_reducible exact LeO.refl _)
  |(with_reducible exact LeO.none _)
  |(with_reducible refine LeO.ite ?_ ?_)
  |(with_reducible refine LeO.bind ?_ (fun _ => ?_))
  |exact ih0 _ _ _ _ _ _
  |exact spec_PagesOk.mono _ _ _
  |exact LeO.none _
  |refine LeO.ite ?_ ?_
  |refine LeO.bind ?_ (fun _ => ?_)
def spec_PagesSet.T4 : Bool × List (List Nat × List Nat) := (true, [([], []), ([0], [0]), ([], []), ([], []), ([3], [3]), ([], []), ([4, 5], [4, 5]), ([6], [6]), ([], []), ([], []), ([7, 8, 9], [7, 8, 9]), ([1, 2, 0, 1, 2, 3, 4, 5, 6, 7, 8, 9, 10], [1, 2]), ([11, 10, 10, 0, 1, 2, 3, 4, 5, 6, 7, 8, 9, 10], [10, 11])])
def spec_PagesSet.B4 : List Nat := [0, 1, 0, 0, 8, 0, 56, 120, 0, 0, 1016, 2047, 4095]
theorem spec_PagesSet.tab4 : rtab .any (opsOf Try.f18 4) = spec_PagesSet.T4 := by kernel_rfl
theorem spec_PagesSet.bits4 : waitsOk spec_PagesSet.T4.2 spec_PagesSet.B4 = true := by kernel_rfl
abbrev z18q0 : Array Bool := bQ 13 0
abbrev z18q1 : Array Bool := bQ 13 1
abbrev z18q2 : Array Bool := bQ 13 5
abbrev z18q3 : Array Bool := bQ 13 13
abbrev z18q4 : Array Bool := bQ 13 45
abbrev z18q5 : Array Bool := bQ 13 301
abbrev z18q6 : Array Bool := bQ 13 813
abbrev z18q7 : Array Bool := bQ 13 815
abbrev z18q8 : Array Bool := bQ 13 831
abbrev z18q9 : Array Bool := bQ 13 895
abbrev z18q10 : Array Bool := bQ 13 1023
abbrev z18q11 : Array Bool := bQ 13 2047
abbrev z18q12 : Array Bool := bQ 13 4095
abbrev z18q13 : Array Bool := bQ 13 8191
set_option maxHeartbeats 2000000 in
set_option maxRecDepth 100000 in
theorem spec_PagesSet.calls (k:Nat) (A0_0:Option Addr) (c0_0:Nat) (l0_0:List ByteArray) (A0_1:Option Addr) (c0_1:Nat) (l0_1:List Int) (a1:Int) (a2:Int) (a3:Int) (r1:List ByteArray) (r2:List Int) (r3:Bool) (w:World) (hr0_0:Kd.C Kd.string w A0_0 l0_0.length l0_0) (hc0_0:l0_0.length≤c0_0) (hr0_1:Kd.C (Kd.int .i64) w A0_1 l0_1.length l0_1) (hc0_1:l0_1.length≤c0_1) (h:spec_PagesSet.f k l0_0 l0_1 a1 a2 a3=some (r1,r2,r3)) :
  Calls Try.prog 18 #[.agg #[.slice A0_0 l0_0.length c0_0,.slice A0_1 l0_1.length c0_1],.int .i64 a1,.int .i64 a2,.int .i64 a3] w fun e w'=>∃ v0_ v1_:Value,e=.returned (.tuple #[.agg #[v0_,v1_],.bool r3])∧Kd.R Kd.string 9 w' w.heap.size (fun _=>True) v0_ r1∧Kd.R (Kd.int .i64) 3 w' w.heap.size (fun _=>True) v1_ r2∧Below w.heap.size w w':=by
 have hu26:=Try.underlying26
 have HR0_0:=Am hr0_0
 have HC0_0:=Am hc0_0
 clear hr0_0 hc0_0
 have HR0_1:=Am hr0_1
 have HC0_1:=Am hc0_1
 clear hr0_1 hc0_1
 have HB:=Am (bJ w.heap.size w)
 have H:((spec_PagesOk.f k l0_0 l0_1).bind fun t290=>(if t290=true then ((spec_l1Used.f l0_0 l0_1 a1).bind fun t291=>(if t291=true then ((spec_l6In.f a2 0 3).bind fun t292=>(if t292=true then ((spec_l6In.f a3 0 255).bind fun t293=>(spec_PagesSet.j0 k a1 a2 a3 (!t293) l0_0 l0_1)) else (spec_PagesSet.j0 k a1 a2 a3 true l0_0 l0_1))) else (spec_PagesSet.j0 k a1 a2 a3 true l0_0 l0_1))) else (spec_PagesSet.j0 k a1 a2 a3 true l0_0 l0_1)))=some (r1,r2,r3):=h
 clear h
 have HC5:=Am H
 clear H
 go_enter Try.func18,Try.ntmps18
 go_upto_region 1 with (first|((with_reducible refine gD (N:=4) rfl ?_);refine bI ?hg (N:=4) ?hd (cs:=#[.slice A0_0 l0_0.length c0_0,.slice A0_1 l0_1.length c0_1]) (t:=26) ?hr ?_;(case hd=>rfl);(case hg=>rfl);(case hr=>first|(go_simp;done)|(go_simp;rfl));intro Bc hg w6 hbox hb;have n0_:=Am (bP (by repeat (first|(with_reducible first|exact HB.out|apply oA|apply pN|apply o1)|exact HB.out)) hb);have n1_:=Am (hbox);have n2_:=Am ((by rw [hg];exact (bZ (by repeat (first|(with_reducible first|exact HB.out|apply oA|apply pN|apply o1)|exact HB.out))):w.heap.size≤Bc));have n3_:=Am ((by rw [hg];exact (bZ (by repeat (first|(with_reducible first|exact HB.out|apply oA|apply pN|apply o1)|exact HB.out))):w.heap.size≤Bc));clear HB;revert n0_ n1_ n2_ n3_;intro HB Ba Df Bg;clear hb hbox hg)|((with_reducible refine gD (N:=8) rfl ?_);refine bI ?hg (N:=8) ?hd (cs:=#[.slice none 0 0,.slice none 0 0]) (t:=26) ?hr ?_;(case hd=>rfl);(case hg=>rfl);(case hr=>first|(go_simp;done)|(go_simp;rfl));intro Be hg w7 hbox hb;have n0_:=Am (bX Ba.out hb);have n1_:=Am (bP (by repeat (first|(with_reducible first|exact HB.out|apply oA|apply pN|apply o1|refine bS ?_ Bg.out)|exact HB.out)) hb);have n2_:=Am (hbox);have n3_:=Am ((by rw [hg];exact (bZ (by repeat (first|(with_reducible first|exact HB.out|apply oA|apply pN|apply o1|refine bS ?_ Bg.out)|exact HB.out))):w.heap.size≤Be));have n4_:=Am ((by rw [hg];exact (bZ (by repeat (first|(with_reducible first|exact HB.out|apply oA|apply pN|apply o1|refine bS ?_ Bg.out)|exact HB.out))):w.heap.size≤Be));have n5_:=Am ((nL Ba.out hg));have n6_:=Am ((nG Ba.out hg));clear Ba HB;revert n0_ n1_ n2_ n3_ n4_ n5_ n6_;intro Ba HB Bb Dg Bi Bk Bl;clear hb hbox hg))
 (try simp only [Act.put,lA,lZ,lS])
 go_cut [29] (fun v29 wc=>∃ (kq:Nat) (x29_4:Bool),v29=.bool x29_4∧Aside0 (spec_PagesSet.j0 kq a1 a2 a3 x29_4 l0_0 l0_1=some (r1,r2,r3))∧Aside0 (kq≤k)∧Aside0 (wc.heap[Bc]?=some (.cells #[(.slice A0_0 l0_0.length c0_0),(.slice A0_1 l0_1.length c0_1)] 26 (0,0)))∧Aside0 (wc.heap[Be]?=some (.cells #[(.slice none 0 0),(.slice none 0 0)] 26 (0,0)))∧Aside0 (Below w.heap.size w wc))
 case first =>
  have H:=HC5.out
  clear HC5
  replace H:=oC H
  obtain ⟨t290,A80,H⟩:=H
  replace H:(if t290=true then ((spec_l1Used.f l0_0 l0_1 a1).bind fun t291=>(if t291=true then ((spec_l6In.f a2 0 3).bind fun t292=>(if t292=true then ((spec_l6In.f a3 0 255).bind fun t293=>(spec_PagesSet.j0 k a1 a2 a3 (!t293) l0_0 l0_1)) else (spec_PagesSet.j0 k a1 a2 a3 true l0_0 l0_1))) else (spec_PagesSet.j0 k a1 a2 a3 true l0_0 l0_1))) else (spec_PagesSet.j0 k a1 a2 a3 true l0_0 l0_1))=some (r1,r2,r3):=H
  have A8:=Am A80
  clear A80
  by_cases c9:t290=true
  rotate_left
  ·replace c9:=Bool.eq_false_iff.mpr c9
   subst c9
   have H1:(spec_PagesSet.j0 k a1 a2 a3 true l0_0 l0_1)=some (r1,r2,r3):=by rw [if_neg (show ¬ (false=true) by decide)] at H;exact H
   clear H
   have H:=H1
   clear H1
   have H':=Am H
   clear H
   have Dn:=Bk.out
   have Do:=Bl.out
   have BP:=cz0 Ba.out
   have BQ:=cz1 Ba.out
   have BR:=bF Ba.out 0
   have BS:=bF Ba.out 1
   go_wp2_with (first|((with_reducible refine gC (f:=42) rfl ?_);refine goesL_ (some 12) rfl rfl Try.func42 (by kernel_rfl) rfl #[.agg #[.slice A0_0 l0_0.length c0_0,.slice A0_1 l0_1.length c0_1]] rfl (by (try simp only [lM,lC,lN]);first|done|rfl|(simp only [lD,lT];rfl)) ?_;(with_reducible refine (spec_PagesOk.calls k _ _ l0_0 _ _ l0_1 false _ ?side1 ?side2 ?side3 ?side4 A8.out).mono ?_);(case side1=>exact cL (cB HR0_0.out HB.out));(case side2=>exact HC0_0.out);(case side3=>exact cL (cB HR0_1.out HB.out));(case side4=>exact HC0_1.out);rintro e w32 ⟨rfl,hb⟩;refine ⟨_,rfl,?_⟩;have n0_:=Am (bX Ba.out hb);have n1_:=Am (bX Bb.out hb);have n2_:=Am (bP (by repeat (first|(with_reducible first|exact HB.out|apply oA|apply pN|apply o1|refine bS ?_ Bg.out|refine bS ?_ Bi.out)|exact HB.out)) hb);clear Ba Bb HB;revert n0_ n1_ n2_;intro Ba Bb HB;(try clear hb);(try clear hb2);(try clear hk);(try clear hi)))
   go_meet
   case rel=>exact ⟨_,(true),(by first|rfl|(simp;done)|(simp [*];done)),H',⟨by first|omega|exact nR _⟩,⟨by (with_reducible repeat (first|refine bN ?_ _|refine bD ?_|refine bA ?_ _));exact Ba.out⟩,⟨by (with_reducible repeat (first|refine bN ?_ _|refine bD ?_|refine bA ?_ _));exact Bb.out⟩,⟨by repeat (first|(with_reducible first|exact HB.out|apply oA|apply pN|apply o1|refine bS ?_ Bg.out|refine bS ?_ Bi.out)|exact HB.out)⟩⟩
  subst c9
  have H1:((spec_l1Used.f l0_0 l0_1 a1).bind fun t291=>(if t291=true then ((spec_l6In.f a2 0 3).bind fun t292=>(if t292=true then ((spec_l6In.f a3 0 255).bind fun t293=>(spec_PagesSet.j0 k a1 a2 a3 (!t293) l0_0 l0_1)) else (spec_PagesSet.j0 k a1 a2 a3 true l0_0 l0_1))) else (spec_PagesSet.j0 k a1 a2 a3 true l0_0 l0_1)))=some (r1,r2,r3):=by rw [if_pos rfl] at H;exact H
  clear H
  have H:=H1
  clear H1
  replace H:=oC H
  obtain ⟨t291,A100,H⟩:=H
  replace H:(if t291=true then ((spec_l6In.f a2 0 3).bind fun t292=>(if t292=true then ((spec_l6In.f a3 0 255).bind fun t293=>(spec_PagesSet.j0 k a1 a2 a3 (!t293) l0_0 l0_1)) else (spec_PagesSet.j0 k a1 a2 a3 true l0_0 l0_1))) else (spec_PagesSet.j0 k a1 a2 a3 true l0_0 l0_1))=some (r1,r2,r3):=H
  have A10:=Am A100
  clear A100
  by_cases c11:t291=true
  rotate_left
  ·replace c11:=Bool.eq_false_iff.mpr c11
   subst c11
   have H1:(spec_PagesSet.j0 k a1 a2 a3 true l0_0 l0_1)=some (r1,r2,r3):=by rw [if_neg (show ¬ (false=true) by decide)] at H;exact H
   clear H
   have H:=H1
   clear H1
   have H':=Am H
   clear H
   have Dl:=Bk.out
   have Dm:=Bl.out
   have BH:=cz0 Ba.out
   have BI:=cz1 Ba.out
   have BJ:=bF Ba.out 0
   have BK:=bF Ba.out 1
   go_wp2_with (first|((with_reducible refine gC (f:=42) rfl ?_);refine goesL_ (some 12) rfl rfl Try.func42 (by kernel_rfl) rfl #[.agg #[.slice A0_0 l0_0.length c0_0,.slice A0_1 l0_1.length c0_1]] rfl (by (try simp only [lM,lC,lN]);first|done|rfl|(simp only [lD,lT];rfl)) ?_;(with_reducible refine (spec_PagesOk.calls k _ _ l0_0 _ _ l0_1 true _ ?side1 ?side2 ?side3 ?side4 A8.out).mono ?_);(case side1=>exact cL (cB HR0_0.out HB.out));(case side2=>exact HC0_0.out);(case side3=>exact cL (cB HR0_1.out HB.out));(case side4=>exact HC0_1.out);rintro e w27 ⟨rfl,hb⟩;refine ⟨_,rfl,?_⟩;have n0_:=Am (bX Ba.out hb);have n1_:=Am (bX Bb.out hb);have n2_:=Am (bP (by repeat (first|(with_reducible first|exact HB.out|apply oA|apply pN|apply o1|refine bS ?_ Bg.out|refine bS ?_ Bi.out)|exact HB.out)) hb);clear Ba Bb HB;revert n0_ n1_ n2_;intro Ba Bb HB;(try clear hb);(try clear hb2);(try clear hk);(try clear hi);have BL:=cz0 Ba.out;have BM:=cz1 Ba.out;have BN:=bF Ba.out 0;have BO:=bF Ba.out 1)|(go_at_call 50;(with_reducible refine (spec_l1Used.calls _ _ l0_0 _ _ l0_1 a1 false _ ?side1 ?side2 ?side3 ?side4 A10.out).mono ?_);(case side1=>exact cL (cB HR0_0.out HB.out));(case side2=>exact HC0_0.out);(case side3=>exact cL (cB HR0_1.out HB.out));(case side4=>exact HC0_1.out);rintro e w29 ⟨rfl,hb⟩;have n0_:=Am (bX Ba.out hb);have n1_:=Am (bX Bb.out hb);have n2_:=Am (bP (by repeat (first|(with_reducible first|exact HB.out|apply oA|apply pN|apply o1|refine bS ?_ Bg.out|refine bS ?_ Bi.out)|exact HB.out)) hb);clear Ba Bb HB;revert n0_ n1_ n2_;intro Ba Bb HB;(try clear hb);(try clear hb2);(try clear hk);(try clear hi)))
   go_meet
   case rel=>exact ⟨_,(true),(by first|rfl|(simp;done)|(simp [*];done)),H',⟨by first|omega|exact nR _⟩,⟨by (with_reducible repeat (first|refine bN ?_ _|refine bD ?_|refine bA ?_ _));exact Ba.out⟩,⟨by (with_reducible repeat (first|refine bN ?_ _|refine bD ?_|refine bA ?_ _));exact Bb.out⟩,⟨by repeat (first|(with_reducible first|exact HB.out|apply oA|apply pN|apply o1|refine bS ?_ Bg.out|refine bS ?_ Bi.out)|exact HB.out)⟩⟩
  subst c11
  have H1:((spec_l6In.f a2 0 3).bind fun t292=>(if t292=true then ((spec_l6In.f a3 0 255).bind fun t293=>(spec_PagesSet.j0 k a1 a2 a3 (!t293) l0_0 l0_1)) else (spec_PagesSet.j0 k a1 a2 a3 true l0_0 l0_1)))=some (r1,r2,r3):=by rw [if_pos rfl] at H;exact H
  clear H
  have H:=H1
  clear H1
  replace H:=oC H
  obtain ⟨t292,A120,H⟩:=H
  replace H:(if t292=true then ((spec_l6In.f a3 0 255).bind fun t293=>(spec_PagesSet.j0 k a1 a2 a3 (!t293) l0_0 l0_1)) else (spec_PagesSet.j0 k a1 a2 a3 true l0_0 l0_1))=some (r1,r2,r3):=H
  have A12:=Am A120
  clear A120
  by_cases c13:t292=true
  rotate_left
  ·replace c13:=Bool.eq_false_iff.mpr c13
   subst c13
   have H1:(spec_PagesSet.j0 k a1 a2 a3 true l0_0 l0_1)=some (r1,r2,r3):=by rw [if_neg (show ¬ (false=true) by decide)] at H;exact H
   clear H
   have H:=H1
   clear H1
   have H':=Am H
   clear H
   have Dj:=Bk.out
   have Dk:=Bl.out
   have Bz:=cz0 Ba.out
   have BA:=cz1 Ba.out
   have BB:=bF Ba.out 0
   have BC:=bF Ba.out 1
   go_wp2_with (first|((with_reducible refine gC (f:=42) rfl ?_);refine goesL_ (some 12) rfl rfl Try.func42 (by kernel_rfl) rfl #[.agg #[.slice A0_0 l0_0.length c0_0,.slice A0_1 l0_1.length c0_1]] rfl (by (try simp only [lM,lC,lN]);first|done|rfl|(simp only [lD,lT];rfl)) ?_;(with_reducible refine (spec_PagesOk.calls k _ _ l0_0 _ _ l0_1 true _ ?side1 ?side2 ?side3 ?side4 A8.out).mono ?_);(case side1=>exact cL (cB HR0_0.out HB.out));(case side2=>exact HC0_0.out);(case side3=>exact cL (cB HR0_1.out HB.out));(case side4=>exact HC0_1.out);rintro e w22 ⟨rfl,hb⟩;refine ⟨_,rfl,?_⟩;have n0_:=Am (bX Ba.out hb);have n1_:=Am (bX Bb.out hb);have n2_:=Am (bP (by repeat (first|(with_reducible first|exact HB.out|apply oA|apply pN|apply o1|refine bS ?_ Bg.out|refine bS ?_ Bi.out)|exact HB.out)) hb);clear Ba Bb HB;revert n0_ n1_ n2_;intro Ba Bb HB;(try clear hb);(try clear hb2);(try clear hk);(try clear hi);have BD:=cz0 Ba.out;have BE:=cz1 Ba.out;have BF:=bF Ba.out 0;have BG:=bF Ba.out 1)|(go_at_call 50;(with_reducible refine (spec_l1Used.calls _ _ l0_0 _ _ l0_1 a1 true _ ?side1 ?side2 ?side3 ?side4 A10.out).mono ?_);(case side1=>exact cL (cB HR0_0.out HB.out));(case side2=>exact HC0_0.out);(case side3=>exact cL (cB HR0_1.out HB.out));(case side4=>exact HC0_1.out);rintro e w24 ⟨rfl,hb⟩;have n0_:=Am (bX Ba.out hb);have n1_:=Am (bX Bb.out hb);have n2_:=Am (bP (by repeat (first|(with_reducible first|exact HB.out|apply oA|apply pN|apply o1|refine bS ?_ Bg.out|refine bS ?_ Bi.out)|exact HB.out)) hb);clear Ba Bb HB;revert n0_ n1_ n2_;intro Ba Bb HB;(try clear hb);(try clear hb2);(try clear hk);(try clear hi))|(go_at_call 51;(with_reducible refine (spec_l6In.calls a2 0 3 false _ A12.out).mono ?_);rintro e w' ⟨rfl,⟨nd,rfl⟩⟩))
   go_meet
   case rel=>exact ⟨_,(true),(by first|rfl|(simp;done)|(simp [*];done)),H',⟨by first|omega|exact nR _⟩,⟨by (with_reducible repeat (first|refine bN ?_ _|refine bD ?_|refine bA ?_ _));exact Ba.out⟩,⟨by (with_reducible repeat (first|refine bN ?_ _|refine bD ?_|refine bA ?_ _));exact Bb.out⟩,⟨by repeat (first|(with_reducible first|exact HB.out|apply oA|apply pN|apply o1|refine bS ?_ Bg.out|refine bS ?_ Bi.out)|exact HB.out)⟩⟩
  subst c13
  have H1:((spec_l6In.f a3 0 255).bind fun t293=>(spec_PagesSet.j0 k a1 a2 a3 (!t293) l0_0 l0_1))=some (r1,r2,r3):=by rw [if_pos rfl] at H;exact H
  clear H
  have H:=H1
  clear H1
  replace H:=oC H
  obtain ⟨t293,A140,H⟩:=H
  replace H:(spec_PagesSet.j0 k a1 a2 a3 (!t293) l0_0 l0_1)=some (r1,r2,r3):=H
  have A14:=Am A140
  clear A140
  have H':=Am H
  clear H
  have Dh:=Bk.out
  have Di:=Bl.out
  have Br:=cz0 Ba.out
  have Bs:=cz1 Ba.out
  have Bt:=bF Ba.out 0
  have Bu:=bF Ba.out 1
  go_wp2_with (first|((with_reducible refine gC (f:=42) rfl ?_);refine goesL_ (some 12) rfl rfl Try.func42 (by kernel_rfl) rfl #[.agg #[.slice A0_0 l0_0.length c0_0,.slice A0_1 l0_1.length c0_1]] rfl (by (try simp only [lM,lC,lN]);first|done|rfl|(simp only [lD,lT];rfl)) ?_;(with_reducible refine (spec_PagesOk.calls k _ _ l0_0 _ _ l0_1 true _ ?side1 ?side2 ?side3 ?side4 A8.out).mono ?_);(case side1=>exact cL (cB HR0_0.out HB.out));(case side2=>exact HC0_0.out);(case side3=>exact cL (cB HR0_1.out HB.out));(case side4=>exact HC0_1.out);rintro e w17 ⟨rfl,hb⟩;refine ⟨_,rfl,?_⟩;have n0_:=Am (bX Ba.out hb);have n1_:=Am (bX Bb.out hb);have n2_:=Am (bP (by repeat (first|(with_reducible first|exact HB.out|apply oA|apply pN|apply o1|refine bS ?_ Bg.out|refine bS ?_ Bi.out)|exact HB.out)) hb);clear Ba Bb HB;revert n0_ n1_ n2_;intro Ba Bb HB;(try clear hb);(try clear hb2);(try clear hk);(try clear hi);have Bv:=cz0 Ba.out;have Bw:=cz1 Ba.out;have Bx:=bF Ba.out 0;have By:=bF Ba.out 1)|(go_at_call 50;(with_reducible refine (spec_l1Used.calls _ _ l0_0 _ _ l0_1 a1 true _ ?side1 ?side2 ?side3 ?side4 A10.out).mono ?_);(case side1=>exact cL (cB HR0_0.out HB.out));(case side2=>exact HC0_0.out);(case side3=>exact cL (cB HR0_1.out HB.out));(case side4=>exact HC0_1.out);rintro e w19 ⟨rfl,hb⟩;have n0_:=Am (bX Ba.out hb);have n1_:=Am (bX Bb.out hb);have n2_:=Am (bP (by repeat (first|(with_reducible first|exact HB.out|apply oA|apply pN|apply o1|refine bS ?_ Bg.out|refine bS ?_ Bi.out)|exact HB.out)) hb);clear Ba Bb HB;revert n0_ n1_ n2_;intro Ba Bb HB;(try clear hb);(try clear hb2);(try clear hk);(try clear hi))|(go_at_call 51;(with_reducible refine (spec_l6In.calls a2 0 3 true _ A12.out).mono ?_);rintro e w' ⟨rfl,⟨nd,rfl⟩⟩)|(go_at_call 51;(with_reducible refine (spec_l6In.calls a3 0 255 t293 _ A14.out).mono ?_);rintro e w' ⟨rfl,⟨nd,rfl⟩⟩))
  go_meet
  case rel=>exact ⟨_,(!t293),(by first|rfl|(simp;done)|(simp [*];done)),H',⟨by first|omega|exact nR _⟩,⟨by (with_reducible repeat (first|refine bN ?_ _|refine bD ?_|refine bA ?_ _));exact Ba.out⟩,⟨by (with_reducible repeat (first|refine bN ?_ _|refine bD ?_|refine bA ?_ _));exact Bb.out⟩,⟨by repeat (first|(with_reducible first|exact HB.out|apply oA|apply pN|apply o1|refine bS ?_ Bg.out|refine bS ?_ Bi.out)|exact HB.out)⟩⟩
 case rest =>
  clear HC5
  try clear c1
  try clear c2
  try clear p2
  try clear c3
  try clear c4
  try clear c9
  try clear c11
  try clear c13
  try clear c15
  try clear c18
  try clear c20
  try clear c25
  try clear c30
  try clear Br
  try clear Bs
  try clear Bv
  try clear Bw
  try clear Bz
  try clear BA
  try clear BD
  try clear BE
  try clear BH
  try clear BI
  try clear BL
  try clear BM
  try clear BP
  try clear BQ
  try clear Bt
  try clear Bu
  try clear Bx
  try clear By
  try clear BB
  try clear BC
  try clear BF
  try clear BG
  try clear BJ
  try clear BK
  try clear BN
  try clear BO
  try clear BR
  try clear BS
  obtain ⟨kq,x29_4,rfl,HA,Dy,Ba,Bb,HB⟩:=hcut
  cases kq with
 |zero=>exact absurd HA.out (by simp [spec_PagesSet.j0])
 |succ kj4 =>
   have H:=HA.out
   clear HA
   simp only [spec_PagesSet.j0] at H
   by_cases c33:x29_4=true
   ·subst c33
    have H1:(some (([]:List ByteArray),([]:List Int),false))=some (r1,r2,r3):=by rw [if_pos rfl] at H;exact H
    clear H
    have H:=H1
    clear H1
    simp only [Option.some.injEq,Prod.mk.injEq] at H
    obtain ⟨rfl,rfl,rfl⟩:=H
    have Dp:=Bl.out
    have Dq:=Bk.out
    have BU:=cz0 Bb.out
    have BV:=cz1 Bb.out
    have BW:=bF Bb.out 0
    have BX:=bF Bb.out 1
    go_wp2
    refine bodyPost_ret (results_ct rfl _ _ Be 26 #[.slice none 0 0,.slice none 0 0] (0,0) _ rfl (by (with_reducible repeat (first|refine bN ?_ _|refine bD ?_|refine bA ?_ _));refine bT (cs:=#[.slice none 0 0,.slice none 0 0]) ?_ 1 _ rfl;(with_reducible repeat (first|refine bN ?_ _|refine bD ?_|refine bA ?_ _));refine bT (cs:=#[.slice none 0 0,.slice none 0 0]) ?_ 0 _ rfl;(with_reducible repeat (first|refine bN ?_ _|refine bD ?_|refine bA ?_ _));exact Bb.out) Try.underlying26 rfl (by kernel_rfl)) rfl ?_
    exact ⟨_,_,by first|rfl|(simp [errW_none,errW_some] <;> rfl)|(simp [*,errW_none,errW_some] <;> rfl),by first|exact Kd.R_nil _ _ _ _ _|exact Kd.N_nil _ _ _ _ _|exact Kd.V_nil _ _ _ _ _|exact Kd.Q_nil _ _ _ _ _|exact Kd.S_nil _ _ _ _ _,by first|exact Kd.R_nil _ _ _ _ _|exact Kd.N_nil _ _ _ _ _|exact Kd.V_nil _ _ _ _ _|exact Kd.Q_nil _ _ _ _ _|exact Kd.S_nil _ _ _ _ _,by repeat (first|(with_reducible first|exact HB.out|apply oA|apply pN|apply o1|refine bS ?_ Bg.out|refine bS ?_ Bi.out)|exact HB.out)⟩
   replace c33:=Bool.eq_false_iff.mpr c33
   subst c33
   have H1:((spec_l1Copy.f l0_0 l0_1).bind fun bt294=>(if 0≤a1 then (if a1<(bt294.1.length:Int) then ((spec_l1Set.f (rdOf ByteArray.empty bt294.1 a1) a2 a3).bind fun t302=>(some ((bt294.1.set (a1:Int).toNat t302),bt294.2,true))) else (none)) else (none)))=some (r1,r2,r3):=by rw [if_neg (show ¬ (false=true) by decide)] at H;exact H
   clear H
   have H:=H1
   clear H1
   replace H:=oC H
   obtain ⟨⟨t294,t297⟩,A360,H⟩:=H
   replace H:(if 0≤a1 then (if a1<(t294.length:Int) then ((spec_l1Set.f (rdOf ByteArray.empty t294 a1) a2 a3).bind fun t302=>(some ((t294.set (a1:Int).toNat t302),t297,true))) else (none)) else (none))=some (r1,r2,r3):=H
   have A36:=Am A360
   clear A360
   by_cases c37:0≤a1
   rotate_left
   ·rw [if_neg c37] at H
    exact absurd H (by simp)

   rw [if_pos c37] at H
   have c37b0:decide (0≤a1)=true:=dT c37
   clear c37
   by_cases c38:a1<(t294.length:Int)
   rotate_left
   ·rw [if_neg c38] at H
    exact absurd H (by simp)
   rw [if_pos c38] at H
   have c38b0:decide (a1<(t294.length:Int))=true:=dT c38
   clear c38
   replace H:=oC H
   obtain ⟨t302,A390,H⟩:=H
   replace H:(some ((t294.set (a1:Int).toNat t302),t297,true))=some (r1,r2,r3):=H
   have A39:=Am A390
   clear A390
   obtain ⟨y303,hy303⟩:∃ y_:List ByteArray,y_=(t294.set (a1:Int).toNat t302):=⟨_,rfl⟩
   replace H:(some (y303,t297,true))=some (r1,r2,r3):=by first|(rw [hy303];with_reducible exact H)|(have H2_:=(Option.bind_some _ _).symm.trans H;rw [hy303];with_reducible exact H2_)|(have H2_:=(Option.bind_some _ _).symm.trans H;with_reducible exact H2_)|with_reducible exact H|(rw [hy303];exact H)|exact H
   have Ny303:=Am hy303
   clear hy303
   simp only [Option.some.injEq,Prod.mk.injEq] at H
   obtain ⟨rfl,rfl,rfl⟩:=H
   have Dr:=Bk.out
   have Ds:=Bl.out
   have BY:=cz0 Ba.out
   have BZ:=cz1 Ba.out
   have B0:=bF Ba.out 0
   have B1:=bF Ba.out 1
   try go_wp2_with (first|((with_reducible refine gC (f:=52) rfl ?_);refine goesL_ (some 32) rfl rfl Try.func52 (by kernel_rfl) rfl #[.agg #[.slice A0_0 l0_0.length c0_0,.slice A0_1 l0_1.length c0_1]] rfl (by (try simp only [lM,lC,lN]);first|done|rfl|(simp only [lD,lT];rfl)) ?_;(with_reducible refine (spec_l1Copy.calls _ _ l0_0 _ _ l0_1 t294 t297 _ ?side1 ?side2 ?side3 ?side4 A36.out).mono ?_);(case side1=>exact cL (cB HR0_0.out HB.out));(case side2=>exact HC0_0.out);(case side3=>exact cL (cB HR0_1.out HB.out));(case side4=>exact HC0_1.out);rintro e w43 ⟨v295,v298,rfl,ho0,ho1,hb⟩;refine ⟨_,rfl,?_⟩;have n0_:=Am (rW ho0 (bZ (by repeat (first|(with_reducible first|exact HB.out|apply oA|apply pN|apply o1|refine bS ?_ Bg.out|refine bS ?_ Bi.out)|exact HB.out))));have n1_:=Am (rW ho1 (bZ (by repeat (first|(with_reducible first|exact HB.out|apply oA|apply pN|apply o1|refine bS ?_ Bg.out|refine bS ?_ Bi.out)|exact HB.out))));have n2_:=Am (bX Ba.out hb);have n3_:=Am (bX Bb.out hb);have n4_:=Am (bP (by repeat (first|(with_reducible first|exact HB.out|apply oA|apply pN|apply o1|refine bS ?_ Bg.out|refine bS ?_ Bi.out)|exact HB.out)) hb);clear Ba Bb HB;revert n0_ n1_ n2_ n3_ n4_;intro Bh Bj Ba Bb HB;(try clear hb);(try clear hb2);(try clear hk);(try clear hi);(try clear ho0);(try clear ho1))|((with_reducible refine gD (N:=10) rfl ?_);refine bI ?hg (N:=10) ?hd (cs:=#[.slice none 0 0,.slice none 0 0]) (t:=26) ?hr ?_;(case hd=>rfl);(case hg=>rfl);(case hr=>first|(go_simp;done)|(go_simp;rfl));intro Bd hg w44 hbox hb;have n0_:=Am (rB (rL Bh.out) hb);have n1_:=Am (rB (rL Bj.out) hb);have n2_:=Am (bX Ba.out hb);have n3_:=Am (bX Bb.out hb);have n4_:=Am (bP (by repeat (first|(with_reducible first|exact HB.out|apply oA|apply pN|apply o1|refine bS ?_ Bg.out|refine bS ?_ Bi.out)|exact HB.out)) hb);have n5_:=Am (hbox);have n6_:=Am ((by rw [hg];exact (bZ (by repeat (first|(with_reducible first|exact HB.out|apply oA|apply pN|apply o1|refine bS ?_ Bg.out|refine bS ?_ Bi.out)|exact HB.out))):w.heap.size≤Bd));have n7_:=Am ((by rw [hg];exact (bZ (by repeat (first|(with_reducible first|exact HB.out|apply oA|apply pN|apply o1|refine bS ?_ Bg.out|refine bS ?_ Bi.out)|exact HB.out))):w.heap.size≤Bd));have n8_:=Am ((nL Ba.out hg));have n9_:=Am ((nG Ba.out hg));have n10_:=Am ((nL Bb.out hg));have n11_:=Am ((nG Bb.out hg));clear Bh Bj Ba Bb HB;revert n0_ n1_ n2_ n3_ n4_ n5_ n6_ n7_ n8_ n9_ n10_ n11_;intro Bh Bj Ba Bb HB Bf Dt Bo Bm Bp Bn Bq;clear hb hbox hg;obtain ⟨Ao45,co45,eo45⟩:=rC Bh.out;subst eo45;have Du:=Bp.out;have Dv:=Bm.out;have Dw:=Bq.out;have Dx:=Bn.out;have B2:=cz0 Bf.out;have B3:=cz1 Bf.out;have B5:=bF Bf.out 0;have B6:=bF Bf.out 1;obtain ⟨Ao49,co49,eo49⟩:=rC Bj.out;subst eo49))
   have n0_:Aside0 (Kd.R Kd.string 9 ((w44.setCell ⟨Bd,0,none⟩ (.slice Ao45 t294.length co45)).setCell ⟨Bd,1,none⟩ (.slice Ao49 t297.length co49)) w.heap.size (fun _=>True) (.slice Ao45 t294.length co45) t294):=⟨by (with_reducible repeat (first|apply rA|apply rN|apply rD));exact rM (rF (p:=⟨Bd,1,none⟩) (rF (p:=⟨Bd,0,none⟩) (rT Bh.out Bf.out (by decide)) (fun _ hk=>hk.2) (.slice Ao45 t294.length co45)) (fun _ hk=>hk.2) (.slice Ao49 t297.length co49)) (fun _ hk=>trivial)⟩
   have n1_:Aside0 (Kd.R (Kd.int .i64) 3 ((w44.setCell ⟨Bd,0,none⟩ (.slice Ao45 t294.length co45)).setCell ⟨Bd,1,none⟩ (.slice Ao49 t297.length co49)) w.heap.size (fun _=>True) (.slice Ao49 t297.length co49) t297):=⟨by (with_reducible repeat (first|apply rA|apply rN|apply rD));exact rM (rF (p:=⟨Bd,1,none⟩) (rF (p:=⟨Bd,0,none⟩) (rT Bj.out Bf.out (by decide)) (fun _ hk=>hk.2) (.slice Ao45 t294.length co45)) (fun _ hk=>hk.2) (.slice Ao49 t297.length co49)) (fun _ hk=>trivial)⟩
   have n2_:Aside0 (((w44.setCell ⟨Bd,0,none⟩ (.slice Ao45 t294.length co45)).setCell ⟨Bd,1,none⟩ (.slice Ao49 t297.length co49)).heap[Bc]?=some (.cells #[.slice A0_0 l0_0.length c0_0,.slice A0_1 l0_1.length c0_1] 26 (0,0))):=⟨by (with_reducible repeat (first|refine bN ?_ _|refine bD ?_|refine bA ?_ _|refine bE ?_ Bm.out _));exact Ba.out⟩
   have n3_:Aside0 (((w44.setCell ⟨Bd,0,none⟩ (.slice Ao45 t294.length co45)).setCell ⟨Bd,1,none⟩ (.slice Ao49 t297.length co49)).heap[Be]?=some (.cells #[.slice none 0 0,.slice none 0 0] 26 (0,0))):=⟨by (with_reducible repeat (first|refine bN ?_ _|refine bD ?_|refine bA ?_ _|refine bE ?_ Bn.out _));exact Bb.out⟩
   have n4_:Aside0 (((w44.setCell ⟨Bd,0,none⟩ (.slice Ao45 t294.length co45)).setCell ⟨Bd,1,none⟩ (.slice Ao49 t297.length co49)).heap[Bd]?=some (.cells #[.slice Ao45 t294.length co45,.slice Ao49 t297.length co49] 26 (0,0))):=⟨by (with_reducible repeat (first|refine bN ?_ _|refine bD ?_|refine bA ?_ _));refine bT (cs:=#[.slice Ao45 t294.length co45,.slice none 0 0]) ?_ 1 _ rfl;(with_reducible repeat (first|refine bN ?_ _|refine bD ?_|refine bA ?_ _));refine bT (cs:=#[.slice none 0 0,.slice none 0 0]) ?_ 0 _ rfl;(with_reducible repeat (first|refine bN ?_ _|refine bD ?_|refine bA ?_ _));exact Bf.out⟩
   have n5_:Aside0 (Below w.heap.size w ((w44.setCell ⟨Bd,0,none⟩ (.slice Ao45 t294.length co45)).setCell ⟨Bd,1,none⟩ (.slice Ao49 t297.length co49))):=⟨by repeat (first|(with_reducible first|exact HB.out|apply oA|apply pN|apply o1|refine bS ?_ Bg.out|refine bS ?_ Bi.out|refine bS ?_ Bo.out)|exact HB.out)⟩
   (try clear Bh)
   (try clear Bj)
   (try clear Ba)
   (try clear Bb)
   (try clear Bf)
   (try clear HB)
   generalize ((w44.setCell ⟨Bd,0,none⟩ (.slice Ao45 t294.length co45)).setCell ⟨Bd,1,none⟩ (.slice Ao49 t297.length co49))=w50 at n0_ n1_ n2_ n3_ n4_ n5_ ⊢
   have Bh:=n0_
   have Bj:=n1_
   have Ba:=n2_
   have Bb:=n3_
   have Bf:=n4_
   have HB:=n5_
   clear n0_ n1_ n2_ n3_ n4_ n5_
   have n0_:=Am (rD Bh.out)
   have n1_:=Am (rD Bj.out)
   have n2_:=Am (bD Ba.out)
   have n3_:=Am (bD Bb.out)
   have n4_:=Am (bD Bf.out)
   have n5_:=Am (o1 HB.out)
   clear Bh
   clear Bj
   clear Ba
   clear Bb
   clear Bf
   clear HB
   have Bh:=n0_
   have Bj:=n1_
   have Ba:=n2_
   have Bb:=n3_
   have Bf:=n4_
   have HB:=n5_
   clear n0_ n1_ n2_ n3_ n4_ n5_
   have p301:0≤(a1:Int):=oE (by first|(with_reducible assumption)|assumption)
   have q301:a1<(t294.length:Int):=oE (by first|(with_reducible assumption)|assumption)
   obtain ⟨ad301,e301,hx301_0⟩:=Kd.at_string (rR Bh.out).2.2 a1 p301 q301
   cases e301
   replace p301:=eq_true p301
   replace q301:=eq_true q301
   refine start_ (n:=13) (S:=fun w'=>w'.cell? ⟨Bd,0,none⟩=some (.slice (some ad301) t294.length co45)∧w'.cell? ⟨Bd,1,none⟩=some (.slice Ao49 t297.length co49)∧w'.cell? (ad301.add (a1).toNat)=some (.string (rdOf ByteArray.empty t294 a1))) (ds:=[12]) z18q0 (by kernel_rfl) rfl rfl ⟨(bC Bf.out 0).trans rfl,(bC Bf.out 1).trans rfl,hx301_0⟩ (fun hHeld=>?_);refine with_st spec_PagesSet.tab4 spec_PagesSet.bits4 (fun _ _ _ _ _ h=>h) (fun HT_=>?_)
   generalize w50.drew=w51 at Bh Bj Ba Bb Bf HB hx301_0 hHeld ⊢
   refine pS 0 33 z18q1 HT_ rfl rfl (by kernel_rfl) (by rfl) (by intro w';go_simp;with_reducible rfl) (by simp only [Act.put,lA,lZ,lS,iw,jw];rfl) ?_
   refine pS 2 35 z18q2 HT_ rfl rfl (by kernel_rfl) (by rfl) (by intro w';go_simp;with_reducible rfl) (by simp only [Act.put,lA,lZ,lS,iw,jw];rfl) ?_
   refine pS 3 36 z18q3 HT_ rfl rfl (by kernel_rfl) (by rfl) (by intro w';go_simp;with_reducible rfl) (by simp only [Act.put,lA,lZ,lS,iw,jw];rfl) ?_
   refine pS 5 38 z18q4 HT_ rfl rfl (by kernel_rfl) (by rfl) (by intro w';go_simp;with_reducible rfl) (by simp only [Act.put,lA,lZ,lS,iw,jw];rfl) ?_
   refine pS 8 41 z18q5 HT_ rfl rfl (by kernel_rfl) (by rfl) (by intro w';go_simp;with_reducible rfl) (by simp only [Act.put,lA,lZ,lS,iw,jw];rfl) ?_
   refine pS 9 42 z18q6 HT_ rfl rfl (by kernel_rfl) (by rfl) (by intro w';go_simp;with_reducible rfl) (by simp only [Act.put,lA,lZ,lS,iw,jw];rfl) ?_
   refine tS 1 34 z18q7 HT_ hHeld rfl rfl (by kernel_rfl) (by rfl) (by rintro w' ⟨s0,s1,s2⟩;go_simp;with_reducible rfl) (by simp only [Act.put,lA,lZ,lS,iw,jw];rfl) ?_
   refine tS 4 37 z18q8 HT_ hHeld rfl rfl (by kernel_rfl) (by rfl) (by rintro w' ⟨s0,s1,s2⟩;go_simp;with_reducible rfl) (by simp only [Act.put,lA,lZ,lS,iw,jw];rfl) ?_
   refine pS 6 39 z18q9 HT_ rfl rfl (by kernel_rfl) (by rfl) (by intro w';go_simp;with_reducible rfl) (by simp only [Act.put,lA,lZ,lS,iw,jw];rfl) ?_
   refine tS 7 40 z18q10 HT_ hHeld rfl rfl (by kernel_rfl) (by rfl) (by rintro w' ⟨s0,s1,s2⟩;go_simp;with_reducible rfl) (by simp only [Act.put,lA,lZ,lS,iw,jw];rfl) ?_
   refine oS 10 43 z18q11 HT_ rfl rfl (by kernel_rfl) (by decide) (fun K hK=>?_)
   refine goes_ Try.func53 (by kernel_rfl) rfl #[.string (rdOf ByteArray.empty t294 a1),.int .i64 a2,.int .i64 a3] (by rfl) rfl rfl (by (try simp only [lM,lC,lN]);first|done|rfl|(simp only [lD,lT];rfl)) ?_
   with_reducible refine (spec_l1Set.calls (rdOf ByteArray.empty t294 a1) a2 a3 t302 _ A39.out).mono ?_
   rintro e w52 ⟨rfl,hb⟩
   have HS2_:=(hb.cell (World.block_lt_of_cell? _ _ (hHeld.2.2))).trans (hHeld.2.2)
   refine ⟨_,rfl,?_⟩
   have n0_:=Am (rB (rL Bh.out) hb)
   have n1_:=Am (rB (rL Bj.out) hb)
   have n2_:=Am (bX Ba.out hb)
   have n3_:=Am (bX Bb.out hb)
   have n4_:=Am (bX Bf.out hb)
   have n5_:=Am (bP (by repeat (first|(with_reducible first|exact HB.out|apply oA|apply pN|apply o1|refine bS ?_ Bg.out|refine bS ?_ Bi.out|refine bS ?_ Bo.out)|exact HB.out)) hb)
   clear Bh
   clear Bj
   clear Ba
   clear Bb
   clear Bf
   clear HB
   have Bh:=n0_
   have Bj:=n1_
   have Ba:=n2_
   have Bb:=n3_
   have Bf:=n4_
   have HB:=n5_
   clear n0_ n1_ n2_ n3_ n4_ n5_
   (try clear hb)
   (try clear hb2)
   (try clear hk)
   (try clear hi)
   have p40:0≤(a1:Int):=oE (by first|(with_reducible assumption)|assumption)
   have q40:(a1:Int)<((t294.length:Int):Int):=oE (by first|(with_reducible assumption)|assumption)
   obtain ⟨go40,co40,eo40,BT,gl40,cl40,HG40⟩:=Kd.R_form Bh.out (by omega)
   (first|cases eo40|(injection eo40 with ea_ en_ ec_;(first|subst ea_|(injection ea_ with ea_;subst ea_));subst ec_;clear en_))
   have GB40:=Am BT
   have GG40:=Am HG40
   clear BT gl40 HG40
   (try simp only [aP] at hx301_0)
   obtain ⟨hx40_0,hf40_0⟩:=Kd.R_celln (⟨#[]⟩:ByteArray) Bh.out (a1:Int) p40 q40
   replace p40:=eq_true p40
   replace q40:=eq_true q40
   have HP53:=Kd.R_putn Bh.out (a1:Int) t302
   rw [← Ny303.out] at HP53
   have HQ53:=Am HP53
   clear HP53
   refine hK.out _ _ ⟨(bC Bf.out 0).trans rfl,(bC Bf.out 1).trans rfl,HS2_⟩ (fun hHeld=>?_)
   clear hK K
   refine norm_ (by show Act.put _ (some 43) _=_;simp only [Act.put,lA,lZ,lS,iw,jw];rfl) ?_
   refine pS 11 44 z18q12 HT_ rfl rfl (by kernel_rfl) (by rfl) (by intro w';go_simp;with_reducible rfl) (by simp only [Act.put,lA,lZ,lS,iw,jw];rfl) ?_
   refine last_ (i:=12) (N:=none) z18q13 rfl rfl (one_of HT_.out (by kernel_rfl)) (by decide) (fun K hK=>?_)
   refine skip_ (w1:=?_) (by rfl) rfl ?_ ?_
   rotate_left;(go_simp;rfl)
   refine hK.out _ _ ?_
   clear hK K
   refine done_ (done_of HT_.out (by kernel_rfl)) ?_
   have n0_:Aside0 (Kd.R Kd.string 9 (w52.setCell ⟨go40,(a1:Int).toNat,none⟩ (.string t302)) w.heap.size (fun _=>True) (.slice (some ⟨go40,0,none⟩) t294.length co45) y303):=⟨by (with_reducible repeat (first|apply rA|apply rN|apply rD));exact HQ53.out⟩
   have n1_:Aside0 (Kd.R (Kd.int .i64) 3 (w52.setCell ⟨go40,(a1:Int).toNat,none⟩ (.string t302)) w.heap.size (fun _=>True) (.slice Ao49 t297.length co49) t297):=⟨by (with_reducible repeat (first|apply rA|apply rN|apply rD));exact rM (rF (p:=⟨go40,(a1:Int).toNat,none⟩) (rT Bj.out GG40.out (by decide)) (fun _ hk=>hk.2) (.string t302)) (fun _ hk=>trivial)⟩
   have n2_:Aside0 ((w52.setCell ⟨go40,(a1:Int).toNat,none⟩ (.string t302)).heap[Bc]?=some (.cells #[.slice A0_0 l0_0.length c0_0,.slice A0_1 l0_1.length c0_1] 26 (0,0))):=⟨by (with_reducible repeat (first|refine bN ?_ _|refine bD ?_|refine bA ?_ _));refine bE ?_ (by have h_:=rE Bh.out Ba.out (by decide);intro e_;exact h_ (by rw [e_];rfl)) _;(with_reducible repeat (first|refine bN ?_ _|refine bD ?_|refine bA ?_ _));exact Ba.out⟩
   have n3_:Aside0 ((w52.setCell ⟨go40,(a1:Int).toNat,none⟩ (.string t302)).heap[Be]?=some (.cells #[.slice none 0 0,.slice none 0 0] 26 (0,0))):=⟨by (with_reducible repeat (first|refine bN ?_ _|refine bD ?_|refine bA ?_ _));refine bE ?_ (by have h_:=rE Bh.out Bb.out (by decide);intro e_;exact h_ (by rw [e_];rfl)) _;(with_reducible repeat (first|refine bN ?_ _|refine bD ?_|refine bA ?_ _));exact Bb.out⟩
   have n4_:Aside0 ((w52.setCell ⟨go40,(a1:Int).toNat,none⟩ (.string t302)).heap[Bd]?=some (.cells #[.slice (some ⟨go40,0,none⟩) t294.length co45,.slice Ao49 t297.length co49] 26 (0,0))):=⟨by (with_reducible repeat (first|refine bN ?_ _|refine bD ?_|refine bA ?_ _));refine bE ?_ (by have h_:=rE Bh.out Bf.out (by decide);intro e_;exact h_ (by rw [e_];rfl)) _;(with_reducible repeat (first|refine bN ?_ _|refine bD ?_|refine bA ?_ _));exact Bf.out⟩
   have n5_:Aside0 (Below w.heap.size w (w52.setCell ⟨go40,(a1:Int).toNat,none⟩ (.string t302))):=⟨by repeat (first|(with_reducible first|exact HB.out|apply oA|apply pN|apply o1|refine bS ?_ GB40.out|refine bS ?_ Bg.out|refine bS ?_ Bi.out|refine bS ?_ Bo.out)|exact HB.out)⟩
   (try clear Bh)
   (try clear Bj)
   (try clear Ba)
   (try clear Bb)
   (try clear Bf)
   (try clear HB)
   generalize (w52.setCell ⟨go40,(a1:Int).toNat,none⟩ (.string t302))=w54 at n0_ n1_ n2_ n3_ n4_ n5_ ⊢
   have Bh:=n0_
   have Bj:=n1_
   have Ba:=n2_
   have Bb:=n3_
   have Bf:=n4_
   have HB:=n5_
   clear n0_ n1_ n2_ n3_ n4_ n5_
   have B7:=cz0 Bf.out
   have B8:=cz1 Bf.out
   have B9:=bF Bf.out 0
   have Da:=bF Bf.out 1
   have Db:=cz0 Bb.out
   have Dc:=cz1 Bb.out
   have Dd:=bF Bb.out 0
   have De:=bF Bb.out 1
   try go_wp2
   refine bodyPost_ret (results_ct rfl _ _ Be 26 #[.slice (some ⟨go40,0,none⟩) t294.length co45,.slice Ao49 t297.length co49] (0,0) _ rfl (by (with_reducible repeat (first|refine bN ?_ _|refine bD ?_|refine bA ?_ _));refine bT (cs:=#[.slice (some ⟨go40,0,none⟩) t294.length co45,.slice none 0 0]) ?_ 1 _ rfl;(with_reducible repeat (first|refine bN ?_ _|refine bD ?_|refine bA ?_ _));refine bT (cs:=#[.slice none 0 0,.slice none 0 0]) ?_ 0 _ rfl;(with_reducible repeat (first|refine bN ?_ _|refine bD ?_|refine bA ?_ _));exact Bb.out) Try.underlying26 rfl (by kernel_rfl)) rfl ?_
   exact ⟨_,_,by first|rfl|(simp [errW_none,errW_some] <;> rfl)|(simp [*,errW_none,errW_some] <;> rfl),by (with_reducible repeat (first|apply rA|apply rN|apply rD));exact rM (rF (p:=⟨Be,1,none⟩) (rF (p:=⟨Be,0,none⟩) (rT Bh.out Bb.out (by decide)) (fun _ hk=>hk.2) (.slice (some ⟨go40,0,none⟩) t294.length co45)) (fun _ hk=>hk.2) (.slice Ao49 t297.length co49)) (fun _ hk=>trivial),by (with_reducible repeat (first|apply rA|apply rN|apply rD));exact rM (rF (p:=⟨Be,1,none⟩) (rF (p:=⟨Be,0,none⟩) (rT Bj.out Bb.out (by decide)) (fun _ hk=>hk.2) (.slice (some ⟨go40,0,none⟩) t294.length co45)) (fun _ hk=>hk.2) (.slice Ao49 t297.length co49)) (fun _ hk=>trivial),by repeat (first|(with_reducible first|exact HB.out|apply oA|apply pN|apply o1|refine bS ?_ Bg.out|refine bS ?_ Bi.out|refine bS ?_ Bo.out)|exact HB.out)⟩
end Go.Proofs.Ytpdfkbggaihfpaa.PFnPagesSet
