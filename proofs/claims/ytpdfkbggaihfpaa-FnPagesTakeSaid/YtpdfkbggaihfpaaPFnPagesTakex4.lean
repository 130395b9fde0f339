/- Proved here, without a condition beyond those that each theorem states: what the Go functions named below do is what the plain functions of the same names say. Written by xprint.py, a program of this session. -/
import Derived.Test.YtpdfkbggaihfpaaPFnPagesTakex0
import Derived.Test.YtpdfkbggaihfpaaPFnPagesTakex1
import Derived.Test.YtpdfkbggaihfpaaPFnPagesTakex2
import Derived.Test.YtpdfkbggaihfpaaPFnPagesTakex3
namespace Go.Proofs.Ytpdfkbggaihfpaa.PFnPagesTake
open Go.RowKit Go.Proofs.YtpdfkbggaihfpaaW.PrintWords Go.Proofs.YtpdfkbggaihfpaaW.PrintLast Go.Proofs.YtpdfkbggaihfpaaW.PrintMore
attribute [local go_sem] max2_int min2_int max_two min_two max_three min_three max_four min_four   -- for this text's walks alone
set_option linter.unusedVariables false
set_option linter.unusedSimpArgs false

attribute [local go_sem ↓] isSome_setCell_
/-! ### impl_PagesTake: function 15 -/
def impl_PagesTake.j0 : Nat → ByteArray → Bool → List ByteArray → List Int → Option (List ByteArray × List Int × Int × Bool)
|0, _, _, _, _ => none
|k + 1, x1, x21, x128000, x128001 => if x21 = true then (some (([] : List ByteArray), ([] : List Int), (-1), false)) else ((impl_Pages_free.f k x128000 x128001).bind fun t131 => ((impl_Pages_clone.f x128000 x128001).bind fun bt132 => (if 0 ≤ t131 then (if t131 < (bt132.1.length : Int) then (if t131 < (bt132.2.length : Int) then (some ((bt132.1.set (t131 : Int).toNat x1), (bt132.2.set (t131 : Int).toNat 1), t131, true)) else (none)) else (none)) else (none))))
def impl_PagesTake.f (k : Nat) (l0_0 : List ByteArray) (l0_1 : List Int) (a1 : ByteArray) : Option (List ByteArray × List Int × Int × Bool) := (impl_PagesOk.f k l0_0 l0_1).bind fun t129 => (if t129 = true then (if (a1.size : Int) = 4 then ((impl_Pages_free.f k l0_0 l0_1).bind fun t130 => (impl_PagesTake.j0 k a1 (decide (t130 < 0)) l0_0 l0_1)) else (impl_PagesTake.j0 k a1 true l0_0 l0_1)) else (impl_PagesTake.j0 k a1 true l0_0 l0_1))
theorem impl_PagesTake.mono_l : ∀ k, (∀ y0 y1 y2 y3, LeO (impl_PagesTake.j0 k y0 y1 y2 y3) (impl_PagesTake.j0 (k + 1) y0 y1 y2 y3))
|0 => fun _ _ _ _ r h => by simp [impl_PagesTake.j0] at h
|k + 1 => by
  have ih0 := impl_PagesTake.mono_l k
  ·intro y0 y1 y2 y3
   unfold impl_PagesTake.j0
   repeat' first
  |(with_reducible exact ih0 _ _ _ _)
  |(with_reducible exact impl_PagesOk.mono _ _ _)
  |(with_reducible exact impl_Pages_free.mono _ _ _)
  |(with_reducible exact LeO.refl _)
  |(with_reducible exact LeO.none _)
  |(with_reducible refine LeO.ite ?_ ?_)
  |(with_reducible refine LeO.bind ?_ (fun _ => ?_))
  |exact ih0 _ _ _ _
  |exact impl_PagesOk.mono _ _ _
  |exact impl_Pages_free.mono _ _ _
  |exact LeO.none _
  |refine LeO.ite ?_ ?_
  |refine LeO.bind ?_ (fun _ => ?_)
theorem impl_PagesTake.mono : ∀ a0 a1 a2 k, LeO (impl_PagesTake.f k a0 a1 a2) (impl_PagesTake.f (k + 1) a0 a1 a2) := by
 intro a0 a1 a2 k
 have ih0 := impl_PagesTake.mono_l k
 unfold impl_PagesTake.f
 repeat' first
  |(with_reducible exact ih0 _ _ _ _)
  |(with_reducible exact impl_PagesOk.mono _ _ _)
  |(with_reducible exact impl_Pages_free.mono _ _ _)
  |(with_reducible exact LeO.refl _)
  |(with_reducible exact LeO.none _)
  |(with_reducible refine LeO.ite ?_ ?_)
  |(with_reducible refine LeO.bind ?_ (fun _ => ?_))
  |exact ih0 _ _ _ _
  |exact impl_PagesOk.mono _ _ _
  |exact impl_Pages_free.mono _ _ _
  |exact LeO.none _
  |refine LeO.ite ?_ ?_
  |refine LeO.bind ?_ (fun _ => ?_)
def impl_PagesTake.T5 : Bool × List (List Nat × List Nat) := (true, [([], []), ([0], [0]), ([], []), ([], []), ([3], [3]), ([], []), ([], []), ([1, 2, 0, 1, 2, 6], [1, 2]), ([7, 6, 0, 1, 2, 6], [6, 7]), ([4, 5, 0, 1, 2, 3, 4, 5, 6, 7, 8], [4, 5]), ([9, 8, 0, 1, 2, 3, 4, 5, 6, 7, 8], [9])])
def impl_PagesTake.B5 : List Nat := [0, 1, 0, 0, 8, 0, 0, 71, 199, 511, 1023]
theorem impl_PagesTake.tab5 : rtab .any (opsOf Try.f15 5) = impl_PagesTake.T5 := by kernel_rfl
theorem impl_PagesTake.bits5 : waitsOk impl_PagesTake.T5.2 impl_PagesTake.B5 = true := by kernel_rfl
abbrev z15q0 : Array Bool := bQ 11 0
abbrev z15q1 : Array Bool := bQ 11 1
abbrev z15q2 : Array Bool := bQ 11 5
abbrev z15q3 : Array Bool := bQ 11 13
abbrev z15q4 : Array Bool := bQ 11 45
abbrev z15q5 : Array Bool := bQ 11 109
abbrev z15q6 : Array Bool := bQ 11 111
abbrev z15q7 : Array Bool := bQ 11 239
abbrev z15q8 : Array Bool := bQ 11 255
abbrev z15q9 : Array Bool := bQ 11 511
abbrev z15q10 : Array Bool := bQ 11 1023
abbrev z15q11 : Array Bool := bQ 11 2047
set_option maxHeartbeats 2000000 in
set_option maxRecDepth 100000 in
theorem impl_PagesTake.calls (k:Nat) (A0_0:Option Addr) (c0_0:Nat) (l0_0:List ByteArray) (A0_1:Option Addr) (c0_1:Nat) (l0_1:List Int) (a1:ByteArray) (r1:List ByteArray) (r2:List Int) (r3:Int) (r4:Bool) (w:World) (hr0_0:Kd.C Kd.string w A0_0 l0_0.length l0_0) (hc0_0:l0_0.length≤c0_0) (hr0_1:Kd.C (Kd.int .i64) w A0_1 l0_1.length l0_1) (hc0_1:l0_1.length≤c0_1) (h:impl_PagesTake.f k l0_0 l0_1 a1=some (r1,r2,r3,r4)) :
  Calls Try.prog 15 #[.agg #[.slice A0_0 l0_0.length c0_0,.slice A0_1 l0_1.length c0_1],.string a1] w fun e w'=>∃ v0_ v1_:Value,e=.returned (.tuple #[.agg #[v0_,v1_],.int .i64 r3,.bool r4])∧Kd.R Kd.string 9 w' w.heap.size (fun _=>True) v0_ r1∧Kd.R (Kd.int .i64) 3 w' w.heap.size (fun _=>True) v1_ r2∧Below w.heap.size w w':=by
 have hu26:=Try.underlying26
 have HR0_0:=Am hr0_0
 have HC0_0:=Am hc0_0
 clear hr0_0 hc0_0
 have HR0_1:=Am hr0_1
 have HC0_1:=Am hc0_1
 clear hr0_1 hc0_1
 have HB:=Am (bJ w.heap.size w)
 have H:((impl_PagesOk.f k l0_0 l0_1).bind fun t129=>(if t129=true then (if (a1.size:Int)=4 then ((impl_Pages_free.f k l0_0 l0_1).bind fun t130=>(impl_PagesTake.j0 k a1 (decide (t130<0)) l0_0 l0_1)) else (impl_PagesTake.j0 k a1 true l0_0 l0_1)) else (impl_PagesTake.j0 k a1 true l0_0 l0_1)))=some (r1,r2,r3,r4):=h
 clear h
 have HC3:=Am H
 clear H
 go_enter Try.func15,Try.ntmps15
 go_upto_region 1 with (first|((with_reducible refine gD (N:=2) rfl ?_);(try (refine gate_guard (by rfl) ?_;dsimp only));refine bI ?hg (N:=2) ?hd (cs:=#[.slice A0_0 l0_0.length c0_0,.slice A0_1 l0_1.length c0_1]) (t:=26) ?hr ?_;(case hd=>rfl);(case hg=>rfl);(case hr=>first|(go_simp;done)|(go_simp;rfl));intro Bc hg w4 hbox hb;have n0_:=Am (bP (by repeat (first|(with_reducible first|exact HB.out|apply oA|apply pN|apply o1)|exact HB.out)) hb);have n1_:=Am (hbox);have n2_:=Am ((by rw [hg];exact (bZ (by repeat (first|(with_reducible first|exact HB.out|apply oA|apply pN|apply o1)|exact HB.out))):w.heap.size≤Bc));have n3_:=Am ((by rw [hg];exact (bZ (by repeat (first|(with_reducible first|exact HB.out|apply oA|apply pN|apply o1)|exact HB.out))):w.heap.size≤Bc));clear HB;revert n0_ n1_ n2_ n3_;intro HB Ba B8 Bh;clear hb hbox hg)|((with_reducible refine gD (N:=4) rfl ?_);(try (refine gate_guard (by rfl) ?_;dsimp only));refine bI ?hg (N:=4) ?hd (cs:=#[.slice none 0 0,.slice none 0 0]) (t:=26) ?hr ?_;(case hd=>rfl);(case hg=>rfl);(case hr=>first|(go_simp;done)|(go_simp;rfl));intro Be hg w5 hbox hb;have n0_:=Am (bX Ba.out hb);have n1_:=Am (bP (by repeat (first|(with_reducible first|exact HB.out|apply oA|apply pN|apply o1|refine bS ?_ Bh.out)|exact HB.out)) hb);have n2_:=Am (hbox);have n3_:=Am ((by rw [hg];exact (bZ (by repeat (first|(with_reducible first|exact HB.out|apply oA|apply pN|apply o1|refine bS ?_ Bh.out)|exact HB.out))):w.heap.size≤Be));have n4_:=Am ((by rw [hg];exact (bZ (by repeat (first|(with_reducible first|exact HB.out|apply oA|apply pN|apply o1|refine bS ?_ Bh.out)|exact HB.out))):w.heap.size≤Be));have n5_:=Am ((nL Ba.out hg));have n6_:=Am ((nG Ba.out hg));clear Ba HB;revert n0_ n1_ n2_ n3_ n4_ n5_ n6_;intro Ba HB Bb B9 Bj Bk Bl;clear hb hbox hg))
 (try simp only [Act.put,lA,lZ,lS])
 go_cut [21] (fun v21 wc=>∃ (kq:Nat) (x21_2:Bool),v21=.bool x21_2∧Aside0 (impl_PagesTake.j0 kq a1 x21_2 l0_0 l0_1=some (r1,r2,r3,r4))∧Aside0 (kq≤k)∧Aside0 (wc.heap[Bc]?=some (.cells #[(.slice A0_0 l0_0.length c0_0),(.slice A0_1 l0_1.length c0_1)] 26 (0,0)))∧Aside0 (wc.heap[Be]?=some (.cells #[(.slice none 0 0),(.slice none 0 0)] 26 (0,0)))∧Aside0 (Below w.heap.size w wc))
 case first =>
  have H:=HC3.out
  clear HC3
  replace H:=oC H
  obtain ⟨t129,A60,H⟩:=H
  replace H:(if t129=true then (if (a1.size:Int)=4 then ((impl_Pages_free.f k l0_0 l0_1).bind fun t130=>(impl_PagesTake.j0 k a1 (decide (t130<0)) l0_0 l0_1)) else (impl_PagesTake.j0 k a1 true l0_0 l0_1)) else (impl_PagesTake.j0 k a1 true l0_0 l0_1))=some (r1,r2,r3,r4):=H
  have A6:=Am A60
  clear A60
  by_cases c7:t129=true
  rotate_left
  ·replace c7:=Bool.eq_false_iff.mpr c7
   subst c7
   have H1:(impl_PagesTake.j0 k a1 true l0_0 l0_1)=some (r1,r2,r3,r4):=by rw [if_neg (show ¬ (false=true) by decide)] at H;exact H
   clear H
   have H:=H1
   clear H1
   have H':=Am H
   clear H
   have De:=Bk.out
   have Df:=Bl.out
   have BD:=cz0 Ba.out
   have BE:=cz1 Ba.out
   have BF:=bF Ba.out 0
   have BG:=bF Ba.out 1
   go_wp2_with (first|((with_reducible refine gC (f:=29) rfl ?_);refine goesL_ (some 10) rfl rfl Try.func29 (by kernel_rfl) rfl #[.agg #[.slice A0_0 l0_0.length c0_0,.slice A0_1 l0_1.length c0_1]] rfl (by (try simp only [lM,lC,lN]);first|done|rfl|(simp only [lD,lT];rfl)) ?_;(with_reducible refine (impl_PagesOk.calls k _ _ l0_0 _ _ l0_1 false _ ?side1 ?side2 ?side3 ?side4 A6.out).mono ?_);(case side1=>exact cL (cB HR0_0.out HB.out));(case side2=>exact HC0_0.out);(case side3=>exact cL (cB HR0_1.out HB.out));(case side4=>exact HC0_1.out);rintro e w20 ⟨rfl,hb⟩;refine ⟨_,rfl,?_⟩;have n0_:=Am (bX Ba.out hb);have n1_:=Am (bX Bb.out hb);have n2_:=Am (bP (by repeat (first|(with_reducible first|exact HB.out|apply oA|apply pN|apply o1|refine bS ?_ Bh.out|refine bS ?_ Bj.out)|exact HB.out)) hb);clear Ba Bb HB;revert n0_ n1_ n2_;intro Ba Bb HB;(try clear hb);(try clear hb2);(try clear hk);(try clear hi)))
   go_meet
   case rel=>exact ⟨_,(true),(by first|rfl|(simp;done)|(simp [*];done)),H',⟨by first|omega|exact nR _⟩,⟨by (with_reducible repeat (first|refine bN ?_ _|refine bD ?_|refine bA ?_ _));exact Ba.out⟩,⟨by (with_reducible repeat (first|refine bN ?_ _|refine bD ?_|refine bA ?_ _));exact Bb.out⟩,⟨by repeat (first|(with_reducible first|exact HB.out|apply oA|apply pN|apply o1|refine bS ?_ Bh.out|refine bS ?_ Bj.out)|exact HB.out)⟩⟩
  subst c7
  have H1:(if (a1.size:Int)=4 then ((impl_Pages_free.f k l0_0 l0_1).bind fun t130=>(impl_PagesTake.j0 k a1 (decide (t130<0)) l0_0 l0_1)) else (impl_PagesTake.j0 k a1 true l0_0 l0_1))=some (r1,r2,r3,r4):=by rw [if_pos rfl] at H;exact H
  clear H
  have H:=H1
  clear H1
  by_cases c8:(a1.size:Int)=4
  rotate_left
  ·rw [if_neg c8] at H
   have c8b0:((a1.size:Int) == 4)=false:=beq_eq_false_iff_ne.mpr c8
   have c8b1:((a1.size:Int) != 4)=true:=bne_iff_ne.mpr c8
   (first|rw [c8b0]|(simp only [i64_w,i32_w];rw [c8b0])|skip)
   have H':=Am H
   clear H
   have Dc:=Bk.out
   have Dd:=Bl.out
   have Bz:=cz0 Ba.out
   have BA:=cz1 Ba.out
   have BB:=bF Ba.out 0
   have BC:=bF Ba.out 1
   go_wp2_with (first|((with_reducible refine gC (f:=29) rfl ?_);refine goesL_ (some 10) rfl rfl Try.func29 (by kernel_rfl) rfl #[.agg #[.slice A0_0 l0_0.length c0_0,.slice A0_1 l0_1.length c0_1]] rfl (by (try simp only [lM,lC,lN]);first|done|rfl|(simp only [lD,lT];rfl)) ?_;(with_reducible refine (impl_PagesOk.calls k _ _ l0_0 _ _ l0_1 true _ ?side1 ?side2 ?side3 ?side4 A6.out).mono ?_);(case side1=>exact cL (cB HR0_0.out HB.out));(case side2=>exact HC0_0.out);(case side3=>exact cL (cB HR0_1.out HB.out));(case side4=>exact HC0_1.out);rintro e w17 ⟨rfl,hb⟩;refine ⟨_,rfl,?_⟩;have n0_:=Am (bX Ba.out hb);have n1_:=Am (bX Bb.out hb);have n2_:=Am (bP (by repeat (first|(with_reducible first|exact HB.out|apply oA|apply pN|apply o1|refine bS ?_ Bh.out|refine bS ?_ Bj.out)|exact HB.out)) hb);clear Ba Bb HB;revert n0_ n1_ n2_;intro Ba Bb HB;(try clear hb);(try clear hb2);(try clear hk);(try clear hi)))
   go_meet
   case rel=>exact ⟨_,(true),(by first|rfl|(simp;done)|(simp [*];done)),H',⟨by first|omega|exact nR _⟩,⟨by (with_reducible repeat (first|refine bN ?_ _|refine bD ?_|refine bA ?_ _));exact Ba.out⟩,⟨by (with_reducible repeat (first|refine bN ?_ _|refine bD ?_|refine bA ?_ _));exact Bb.out⟩,⟨by repeat (first|(with_reducible first|exact HB.out|apply oA|apply pN|apply o1|refine bS ?_ Bh.out|refine bS ?_ Bj.out)|exact HB.out)⟩⟩
  rw [if_pos c8] at H
  have c8b0:((a1.size:Int) == 4)=true:=beq_iff_eq.mpr c8
  have c8b1:((a1.size:Int) != 4)=false:=bne_eq_false_iff_eq.mpr c8
  clear c8
  (first|rw [c8b0]|(simp only [i64_w,i32_w];rw [c8b0])|skip)
  replace H:=oC H
  obtain ⟨t130,A90,H⟩:=H
  replace H:(impl_PagesTake.j0 k a1 (decide (t130<0)) l0_0 l0_1)=some (r1,r2,r3,r4):=H
  have A9:=Am A90
  clear A90
  have H':=Am H
  clear H
  have Da:=Bk.out
  have Db:=Bl.out
  have Br:=cz0 Ba.out
  have Bs:=cz1 Ba.out
  have Bt:=bF Ba.out 0
  have Bu:=bF Ba.out 1
  go_wp2_with (first|((with_reducible refine gC (f:=29) rfl ?_);refine goesL_ (some 10) rfl rfl Try.func29 (by kernel_rfl) rfl #[.agg #[.slice A0_0 l0_0.length c0_0,.slice A0_1 l0_1.length c0_1]] rfl (by (try simp only [lM,lC,lN]);first|done|rfl|(simp only [lD,lT];rfl)) ?_;(with_reducible refine (impl_PagesOk.calls k _ _ l0_0 _ _ l0_1 true _ ?side1 ?side2 ?side3 ?side4 A6.out).mono ?_);(case side1=>exact cL (cB HR0_0.out HB.out));(case side2=>exact HC0_0.out);(case side3=>exact cL (cB HR0_1.out HB.out));(case side4=>exact HC0_1.out);rintro e w12 ⟨rfl,hb⟩;refine ⟨_,rfl,?_⟩;have n0_:=Am (bX Ba.out hb);have n1_:=Am (bX Bb.out hb);have n2_:=Am (bP (by repeat (first|(with_reducible first|exact HB.out|apply oA|apply pN|apply o1|refine bS ?_ Bh.out|refine bS ?_ Bj.out)|exact HB.out)) hb);clear Ba Bb HB;revert n0_ n1_ n2_;intro Ba Bb HB;(try clear hb);(try clear hb2);(try clear hk);(try clear hi);have Bv:=cz0 Ba.out;have Bw:=cz1 Ba.out;have Bx:=bF Ba.out 0;have By:=bF Ba.out 1)|(go_at_call 44;(with_reducible refine (impl_Pages_free.calls k _ _ l0_0 _ _ l0_1 t130 _ ?side1 ?side2 ?side3 ?side4 A9.out).mono ?_);(case side1=>exact cL (cB HR0_0.out HB.out));(case side2=>exact HC0_0.out);(case side3=>exact cL (cB HR0_1.out HB.out));(case side4=>exact HC0_1.out);rintro e w14 ⟨rfl,hb⟩;have n0_:=Am (bX Ba.out hb);have n1_:=Am (bX Bb.out hb);have n2_:=Am (bP (by repeat (first|(with_reducible first|exact HB.out|apply oA|apply pN|apply o1|refine bS ?_ Bh.out|refine bS ?_ Bj.out)|exact HB.out)) hb);clear Ba Bb HB;revert n0_ n1_ n2_;intro Ba Bb HB;(try clear hb);(try clear hb2);(try clear hk);(try clear hi)))
  go_meet
  case rel=>exact ⟨_,(decide (t130<0)),(by first|rfl|(simp;done)|(simp [*];done)),H',⟨by first|omega|exact nR _⟩,⟨by (with_reducible repeat (first|refine bN ?_ _|refine bD ?_|refine bA ?_ _));exact Ba.out⟩,⟨by (with_reducible repeat (first|refine bN ?_ _|refine bD ?_|refine bA ?_ _));exact Bb.out⟩,⟨by repeat (first|(with_reducible first|exact HB.out|apply oA|apply pN|apply o1|refine bS ?_ Bh.out|refine bS ?_ Bj.out)|exact HB.out)⟩⟩
 case rest =>
  clear HC3
  try clear c1
  try clear c2
  try clear p2
  try clear c7
  try clear c8
  try clear c8b0
  try clear c8b1
  try clear c10
  try clear c15
  try clear c18
  try clear Br
  try clear Bs
  try clear Bv
  try clear Bw
  try clear Bz
  try clear BA
  try clear BD
  try clear BE
  try clear Bt
  try clear Bu
  try clear Bx
  try clear By
  try clear BB
  try clear BC
  try clear BF
  try clear BG
  obtain ⟨kq,x21_2,rfl,HA,Dp,Ba,Bb,HB⟩:=hcut
  cases kq with
 |zero=>exact absurd HA.out (by simp [impl_PagesTake.j0])
 |succ kj2 =>
   have H:=HA.out
   clear HA
   simp only [impl_PagesTake.j0] at H
   by_cases c21:x21_2=true
   ·subst c21
    have H1:(some (([]:List ByteArray),([]:List Int),(-1),false))=some (r1,r2,r3,r4):=by rw [if_pos rfl] at H;exact H
    clear H
    have H:=H1
    clear H1
    simp only [Option.some.injEq,Prod.mk.injEq] at H
    obtain ⟨rfl,rfl,rfl,rfl⟩:=H
    have Dg:=Bl.out
    have Dh:=Bk.out
    have BJ:=cz0 Bb.out
    have BK:=cz1 Bb.out
    have BL:=bF Bb.out 0
    have BM:=bF Bb.out 1
    go_wp2
    refine bodyPost_ret (results_ctt rfl _ _ Be 26 #[.slice none 0 0,.slice none 0 0] (0,0) _ rfl (by (with_reducible repeat (first|refine bN ?_ _|refine bD ?_|refine bA ?_ _));refine bT (cs:=#[.slice none 0 0,.slice none 0 0]) ?_ 1 _ rfl;(with_reducible repeat (first|refine bN ?_ _|refine bD ?_|refine bA ?_ _));refine bT (cs:=#[.slice none 0 0,.slice none 0 0]) ?_ 0 _ rfl;(with_reducible repeat (first|refine bN ?_ _|refine bD ?_|refine bA ?_ _));exact Bb.out) Try.underlying26 rfl (by kernel_rfl)) rfl ?_
    exact ⟨_,_,by first|rfl|(simp [errW_none,errW_some] <;> rfl)|(simp [*,errW_none,errW_some] <;> rfl),by first|exact Kd.R_nil _ _ _ _ _|exact Kd.N_nil _ _ _ _ _|exact Kd.V_nil _ _ _ _ _|exact Kd.Q_nil _ _ _ _ _|exact Kd.S_nil _ _ _ _ _,by first|exact Kd.R_nil _ _ _ _ _|exact Kd.N_nil _ _ _ _ _|exact Kd.V_nil _ _ _ _ _|exact Kd.Q_nil _ _ _ _ _|exact Kd.S_nil _ _ _ _ _,by repeat (first|(with_reducible first|exact HB.out|apply oA|apply pN|apply o1|refine bS ?_ Bh.out|refine bS ?_ Bj.out)|exact HB.out)⟩
   replace c21:=Bool.eq_false_iff.mpr c21
   subst c21
   have H1:((impl_Pages_free.f kj2 l0_0 l0_1).bind fun t131=>((impl_Pages_clone.f l0_0 l0_1).bind fun bt132=>(if 0≤t131 then (if t131<(bt132.1.length:Int) then (if t131<(bt132.2.length:Int) then (some ((bt132.1.set (t131:Int).toNat a1),(bt132.2.set (t131:Int).toNat 1),t131,true)) else (none)) else (none)) else (none))))=some (r1,r2,r3,r4):=by rw [if_neg (show ¬ (false=true) by decide)] at H;exact H
   clear H
   have H:=H1
   clear H1
   replace H:=oC H
   obtain ⟨t131,A240,H⟩:=H
   replace H:((impl_Pages_clone.f l0_0 l0_1).bind fun bt132=>(if 0≤t131 then (if t131<(bt132.1.length:Int) then (if t131<(bt132.2.length:Int) then (some ((bt132.1.set (t131:Int).toNat a1),(bt132.2.set (t131:Int).toNat 1),t131,true)) else (none)) else (none)) else (none)))=some (r1,r2,r3,r4):=H
   have A24:=Am A240
   clear A240
   replace H:=oC H
   obtain ⟨⟨t132,t135⟩,A250,H⟩:=H
   replace H:(if 0≤t131 then (if t131<(t132.length:Int) then (if t131<(t135.length:Int) then (some ((t132.set (t131:Int).toNat a1),(t135.set (t131:Int).toNat 1),t131,true)) else (none)) else (none)) else (none))=some (r1,r2,r3,r4):=H
   have A25:=Am A250
   clear A250
   by_cases c26:0≤t131
   rotate_left
   ·rw [if_neg c26] at H
    exact absurd H (by simp)

   rw [if_pos c26] at H
   have c26b0:decide (0≤t131)=true:=dT c26
   clear c26
   by_cases c27:t131<(t132.length:Int)
   rotate_left
   ·rw [if_neg c27] at H
    exact absurd H (by simp)
   rw [if_pos c27] at H
   have c27b0:decide (t131<(t132.length:Int))=true:=dT c27
   clear c27
   obtain ⟨y139,hy139⟩:∃ y_:List ByteArray,y_=(t132.set (t131:Int).toNat a1):=⟨_,rfl⟩
   replace H:(if t131<(t135.length:Int) then (some (y139,(t135.set (t131:Int).toNat 1),t131,true)) else (none))=some (r1,r2,r3,r4):=by first|(rw [hy139];with_reducible exact H)|(have H2_:=(Option.bind_some _ _).symm.trans H;rw [hy139];with_reducible exact H2_)|(have H2_:=(Option.bind_some _ _).symm.trans H;with_reducible exact H2_)|with_reducible exact H|(rw [hy139];exact H)|exact H
   have Ny139:=Am hy139
   clear hy139
   by_cases c29:t131<(t135.length:Int)
   rotate_left
   ·rw [if_neg c29] at H
    exact absurd H (by simp)
   rw [if_pos c29] at H
   have c29b0:decide (t131<(t135.length:Int))=true:=dT c29
   clear c29
   obtain ⟨y140,hy140⟩:∃ y_:List Int,y_=(t135.set (t131:Int).toNat 1):=⟨_,rfl⟩
   replace H:(some (y139,y140,t131,true))=some (r1,r2,r3,r4):=by first|(rw [hy140];with_reducible exact H)|(have H2_:=(Option.bind_some _ _).symm.trans H;rw [hy140];with_reducible exact H2_)|(have H2_:=(Option.bind_some _ _).symm.trans H;with_reducible exact H2_)|with_reducible exact H|(rw [hy140];exact H)|exact H
   have Ny140:=Am hy140
   clear hy140
   simp only [Option.some.injEq,Prod.mk.injEq] at H
   obtain ⟨rfl,rfl,rfl,rfl⟩:=H
   have Di:=Bk.out
   have Dj:=Bl.out
   have BN:=cz0 Ba.out
   have BO:=cz1 Ba.out
   have BP:=bF Ba.out 0
   have BQ:=bF Ba.out 1
   try go_wp2_with (first|((with_reducible refine gC (f:=44) rfl ?_);refine goesL_ (some 24) rfl rfl Try.func44 (by kernel_rfl) rfl #[.agg #[.slice A0_0 l0_0.length c0_0,.slice A0_1 l0_1.length c0_1]] rfl (by (try simp only [lM,lC,lN]);first|done|rfl|(simp only [lD,lT];rfl)) ?_;(with_reducible refine (impl_Pages_free.calls kj2 _ _ l0_0 _ _ l0_1 t131 _ ?side1 ?side2 ?side3 ?side4 A24.out).mono ?_);(case side1=>exact cL (cB HR0_0.out HB.out));(case side2=>exact HC0_0.out);(case side3=>exact cL (cB HR0_1.out HB.out));(case side4=>exact HC0_1.out);rintro e w33 ⟨rfl,hb⟩;refine ⟨_,rfl,?_⟩;have n0_:=Am (bX Ba.out hb);have n1_:=Am (bX Bb.out hb);have n2_:=Am (bP (by repeat (first|(with_reducible first|exact HB.out|apply oA|apply pN|apply o1|refine bS ?_ Bh.out|refine bS ?_ Bj.out)|exact HB.out)) hb);clear Ba Bb HB;revert n0_ n1_ n2_;intro Ba Bb HB;(try clear hb);(try clear hb2);(try clear hk);(try clear hi);have BR:=cz0 Ba.out;have BS:=cz1 Ba.out;have BT:=bF Ba.out 0;have BU:=bF Ba.out 1)|((with_reducible refine gC (f:=45) rfl ?_);refine goesL_ (some 26) rfl rfl Try.func45 (by kernel_rfl) rfl #[.agg #[.slice A0_0 l0_0.length c0_0,.slice A0_1 l0_1.length c0_1]] rfl (by (try simp only [lM,lC,lN]);first|done|rfl|(simp only [lD,lT];rfl)) ?_;(with_reducible refine (impl_Pages_clone.calls _ _ l0_0 _ _ l0_1 t132 t135 _ ?side1 ?side2 ?side3 ?side4 A25.out).mono ?_);(case side1=>exact cL (cB HR0_0.out HB.out));(case side2=>exact HC0_0.out);(case side3=>exact cL (cB HR0_1.out HB.out));(case side4=>exact HC0_1.out);rintro e w35 ⟨v133,v136,rfl,ho0,ho1,hb⟩;refine ⟨_,rfl,?_⟩;have n0_:=Am (rW ho0 (bZ (by repeat (first|(with_reducible first|exact HB.out|apply oA|apply pN|apply o1|refine bS ?_ Bh.out|refine bS ?_ Bj.out)|exact HB.out))));have n1_:=Am (rW ho1 (bZ (by repeat (first|(with_reducible first|exact HB.out|apply oA|apply pN|apply o1|refine bS ?_ Bh.out|refine bS ?_ Bj.out)|exact HB.out))));have n2_:=Am (bX Ba.out hb);have n3_:=Am (bX Bb.out hb);have n4_:=Am (bP (by repeat (first|(with_reducible first|exact HB.out|apply oA|apply pN|apply o1|refine bS ?_ Bh.out|refine bS ?_ Bj.out)|exact HB.out)) hb);clear Ba Bb HB;revert n0_ n1_ n2_ n3_ n4_;intro Bg Bi Ba Bb HB;(try clear hb);(try clear hb2);(try clear hk);(try clear hi);(try clear ho0);(try clear ho1))|((with_reducible refine gD (N:=8) rfl ?_);(try (refine gate_guard (by rfl) ?_;dsimp only));refine bI ?hg (N:=8) ?hd (cs:=#[.slice none 0 0,.slice none 0 0]) (t:=26) ?hr ?_;(case hd=>rfl);(case hg=>rfl);(case hr=>first|(go_simp;done)|(go_simp;rfl));intro Bd hg w36 hbox hb;have n0_:=Am (rB (rL Bg.out) hb);have n1_:=Am (rB (rL Bi.out) hb);have n2_:=Am (bX Ba.out hb);have n3_:=Am (bX Bb.out hb);have n4_:=Am (bP (by repeat (first|(with_reducible first|exact HB.out|apply oA|apply pN|apply o1|refine bS ?_ Bh.out|refine bS ?_ Bj.out)|exact HB.out)) hb);have n5_:=Am (hbox);have n6_:=Am ((by rw [hg];exact (bZ (by repeat (first|(with_reducible first|exact HB.out|apply oA|apply pN|apply o1|refine bS ?_ Bh.out|refine bS ?_ Bj.out)|exact HB.out))):w.heap.size≤Bd));have n7_:=Am ((by rw [hg];exact (bZ (by repeat (first|(with_reducible first|exact HB.out|apply oA|apply pN|apply o1|refine bS ?_ Bh.out|refine bS ?_ Bj.out)|exact HB.out))):w.heap.size≤Bd));have n8_:=Am ((nL Ba.out hg));have n9_:=Am ((nG Ba.out hg));have n10_:=Am ((nL Bb.out hg));have n11_:=Am ((nG Bb.out hg));clear Bg Bi Ba Bb HB;revert n0_ n1_ n2_ n3_ n4_ n5_ n6_ n7_ n8_ n9_ n10_ n11_;intro Bg Bi Ba Bb HB Bf Dk Bo Bm Bp Bn Bq;clear hb hbox hg;obtain ⟨Ao37,co37,eo37⟩:=rC Bg.out;subst eo37;have Dl:=Bp.out;have Dm:=Bm.out;have Dn:=Bq.out;have Do:=Bn.out;have BV:=cz0 Bf.out;have BW:=cz1 Bf.out;have BX:=bF Bf.out 0;have BY:=bF Bf.out 1;obtain ⟨Ao41,co41,eo41⟩:=rC Bi.out;subst eo41))
   have n0_:Aside0 (Kd.R Kd.string 9 ((w36.setCell ⟨Bd,0,none⟩ (.slice Ao37 t132.length co37)).setCell ⟨Bd,1,none⟩ (.slice Ao41 t135.length co41)) w.heap.size (fun _=>True) (.slice Ao37 t132.length co37) t132):=⟨by (with_reducible repeat (first|apply rA|apply rN|apply rD));exact rM (rF (p:=⟨Bd,1,none⟩) (rF (p:=⟨Bd,0,none⟩) (rT Bg.out Bf.out (by decide)) (fun _ hk=>hk.2) (.slice Ao37 t132.length co37)) (fun _ hk=>hk.2) (.slice Ao41 t135.length co41)) (fun _ hk=>trivial)⟩
   have n1_:Aside0 (Kd.R (Kd.int .i64) 3 ((w36.setCell ⟨Bd,0,none⟩ (.slice Ao37 t132.length co37)).setCell ⟨Bd,1,none⟩ (.slice Ao41 t135.length co41)) w.heap.size (fun _=>True) (.slice Ao41 t135.length co41) t135):=⟨by (with_reducible repeat (first|apply rA|apply rN|apply rD));exact rM (rF (p:=⟨Bd,1,none⟩) (rF (p:=⟨Bd,0,none⟩) (rT Bi.out Bf.out (by decide)) (fun _ hk=>hk.2) (.slice Ao37 t132.length co37)) (fun _ hk=>hk.2) (.slice Ao41 t135.length co41)) (fun _ hk=>trivial)⟩
   have n2_:Aside0 (((w36.setCell ⟨Bd,0,none⟩ (.slice Ao37 t132.length co37)).setCell ⟨Bd,1,none⟩ (.slice Ao41 t135.length co41)).heap[Bc]?=some (.cells #[.slice A0_0 l0_0.length c0_0,.slice A0_1 l0_1.length c0_1] 26 (0,0))):=⟨by (with_reducible repeat (first|refine bN ?_ _|refine bD ?_|refine bA ?_ _|refine bE ?_ Bm.out _));exact Ba.out⟩
   have n3_:Aside0 (((w36.setCell ⟨Bd,0,none⟩ (.slice Ao37 t132.length co37)).setCell ⟨Bd,1,none⟩ (.slice Ao41 t135.length co41)).heap[Be]?=some (.cells #[.slice none 0 0,.slice none 0 0] 26 (0,0))):=⟨by (with_reducible repeat (first|refine bN ?_ _|refine bD ?_|refine bA ?_ _|refine bE ?_ Bn.out _));exact Bb.out⟩
   have n4_:Aside0 (((w36.setCell ⟨Bd,0,none⟩ (.slice Ao37 t132.length co37)).setCell ⟨Bd,1,none⟩ (.slice Ao41 t135.length co41)).heap[Bd]?=some (.cells #[.slice Ao37 t132.length co37,.slice Ao41 t135.length co41] 26 (0,0))):=⟨by (with_reducible repeat (first|refine bN ?_ _|refine bD ?_|refine bA ?_ _));refine bT (cs:=#[.slice Ao37 t132.length co37,.slice none 0 0]) ?_ 1 _ rfl;(with_reducible repeat (first|refine bN ?_ _|refine bD ?_|refine bA ?_ _));refine bT (cs:=#[.slice none 0 0,.slice none 0 0]) ?_ 0 _ rfl;(with_reducible repeat (first|refine bN ?_ _|refine bD ?_|refine bA ?_ _));exact Bf.out⟩
   have n5_:Aside0 (Below w.heap.size w ((w36.setCell ⟨Bd,0,none⟩ (.slice Ao37 t132.length co37)).setCell ⟨Bd,1,none⟩ (.slice Ao41 t135.length co41))):=⟨by repeat (first|(with_reducible first|exact HB.out|apply oA|apply pN|apply o1|refine bS ?_ Bh.out|refine bS ?_ Bj.out|refine bS ?_ Bo.out)|exact HB.out)⟩
   (try clear Bg)
   (try clear Bi)
   (try clear Ba)
   (try clear Bb)
   (try clear Bf)
   (try clear HB)
   generalize ((w36.setCell ⟨Bd,0,none⟩ (.slice Ao37 t132.length co37)).setCell ⟨Bd,1,none⟩ (.slice Ao41 t135.length co41))=w42 at n0_ n1_ n2_ n3_ n4_ n5_ ⊢
   have Bg:=n0_
   have Bi:=n1_
   have Ba:=n2_
   have Bb:=n3_
   have Bf:=n4_
   have HB:=n5_
   clear n0_ n1_ n2_ n3_ n4_ n5_
   have n0_:=Am (rD Bg.out)
   have n1_:=Am (rD Bi.out)
   have n2_:=Am (bD Ba.out)
   have n3_:=Am (bD Bb.out)
   have n4_:=Am (bD Bf.out)
   have n5_:=Am (o1 HB.out)
   clear Bg
   clear Bi
   clear Ba
   clear Bb
   clear Bf
   clear HB
   have Bg:=n0_
   have Bi:=n1_
   have Ba:=n2_
   have Bb:=n3_
   have Bf:=n4_
   have HB:=n5_
   clear n0_ n1_ n2_ n3_ n4_ n5_
   have p28:0≤(t131:Int):=oE (by first|(with_reducible assumption)|assumption)
   have q28:(t131:Int)<((t132.length:Int):Int):=oE (by first|(with_reducible assumption)|assumption)
   obtain ⟨go28,co28,eo28,BH,gl28,cl28,HG28⟩:=Kd.R_form Bg.out (by omega)
   (first|cases eo28|(injection eo28 with ea_ en_ ec_;(first|subst ea_|(injection ea_ with ea_;subst ea_));subst ec_;clear en_))
   have GB28:=Am BH
   have GG28:=Am HG28
   clear BH gl28 HG28
   obtain ⟨hx28_0,hf28_0⟩:=Kd.R_celln (⟨#[]⟩:ByteArray) Bg.out (t131:Int) p28 q28
   replace p28:=eq_true p28
   replace q28:=eq_true q28
   have HP44:=Kd.R_putn Bg.out (t131:Int) a1
   rw [← Ny139.out] at HP44
   have HQ44:=Am HP44
   clear HP44
   have p30:0≤(t131:Int):=oE (by first|(with_reducible assumption)|assumption)
   have q30:(t131:Int)<((t135.length:Int):Int):=oE (by first|(with_reducible assumption)|assumption)
   obtain ⟨go30,co30,eo30,BI,gl30,cl30,HG30⟩:=Kd.R_form Bi.out (by omega)
   (first|cases eo30|(injection eo30 with ea_ en_ ec_;(first|subst ea_|(injection ea_ with ea_;subst ea_));subst ec_;clear en_))
   have GB30:=Am BI
   have GG30:=Am HG30
   clear BI gl30 HG30
   obtain ⟨hx30_0,hf30_0⟩:=Kd.R_celln 0 (rF (p:=⟨go28,(t131:Int).toNat,none⟩) (rT Bi.out GG28.out (by decide)) (fun _ hk=>hk.2) (.string a1)) (t131:Int) p30 q30
   replace p30:=eq_true p30
   replace q30:=eq_true q30
   have HP45:=Kd.R_putn (rF (p:=⟨go28,(t131:Int).toNat,none⟩) (rT Bi.out GG28.out (by decide)) (fun _ hk=>hk.2) (.string a1)) (t131:Int) 1
   rw [← Ny140.out] at HP45
   have HQ45:=Am HP45
   clear HP45
   refine start_ (n:=11) (S:=fun w'=>w'.cell? ⟨Bd,0,none⟩=some (.slice (some ⟨go28,0,none⟩) t132.length co37)∧w'.cell? ⟨Bd,1,none⟩=some (.slice (some ⟨go30,0,none⟩) t135.length co41)) (ds:=[10]) z15q0 (by kernel_rfl) rfl rfl ⟨(bC Bf.out 0).trans rfl,(bC Bf.out 1).trans rfl⟩ (fun hHeld=>?_);refine with_st impl_PagesTake.tab5 impl_PagesTake.bits5 (fun _ _ _ _ _ h=>h) (fun HT_=>?_)
   generalize w42.drew=w43 at Bg Bi Ba Bb Bf HB GG28 GG30 HQ44 HQ45 hf28_0 hf30_0 hx28_0 hx30_0 hHeld ⊢
   refine pS 0 27 z15q1 HT_ rfl rfl (by kernel_rfl) (by rfl) (by intro w';go_simp;with_reducible rfl) (by simp only [Act.put,lA,lZ,lS,iw,jw];rfl) ?_
   refine pS 2 29 z15q2 HT_ rfl rfl (by kernel_rfl) (by rfl) (by intro w';go_simp;with_reducible rfl) (by simp only [Act.put,lA,lZ,lS,iw,jw];rfl) ?_
   refine pS 3 30 z15q3 HT_ rfl rfl (by kernel_rfl) (by rfl) (by intro w';go_simp;with_reducible rfl) (by simp only [Act.put,lA,lZ,lS,iw,jw];rfl) ?_
   refine pS 5 32 z15q4 HT_ rfl rfl (by kernel_rfl) (by rfl) (by intro w';go_simp;with_reducible rfl) (by simp only [Act.put,lA,lZ,lS,iw,jw];rfl) ?_
   refine pS 6 33 z15q5 HT_ rfl rfl (by kernel_rfl) (by rfl) (by intro w';go_simp;with_reducible rfl) (by simp only [Act.put,lA,lZ,lS,iw,jw];rfl) ?_
   refine tS 1 28 z15q6 HT_ hHeld rfl rfl (by kernel_rfl) (by rfl) (by rintro w' ⟨s0,s1⟩;go_simp;with_reducible rfl) (by simp only [Act.put,lA,lZ,lS,iw,jw];rfl) ?_
   refine pS 7 34 z15q7 HT_ rfl rfl (by kernel_rfl) (by rfl) (by intro w';go_simp;with_reducible rfl) (by simp only [Act.put,lA,lZ,lS,iw,jw];rfl) ?_
   refine tS 4 31 z15q8 HT_ hHeld rfl rfl (by kernel_rfl) (by rfl) (by rintro w' ⟨s0,s1⟩;go_simp;with_reducible rfl) (by simp only [Act.put,lA,lZ,lS,iw,jw];rfl) ?_
   refine oU 8 none z15q9 HT_ rfl rfl (by kernel_rfl) (by decide) (fun K hK=>?_)
   refine skip_ (w1:=?_) (by rfl) rfl ?_ ?_
   rotate_left;(go_simp;rfl)
   refine hK.out _ _ ⟨((cF (fun h_=>rE Bg.out Bf.out (by decide) (congrArg some h_)) _).trans (hHeld.1)),((cF (fun h_=>rE Bg.out Bf.out (by decide) (congrArg some h_)) _).trans (hHeld.2))⟩ (fun hHeld=>?_)
   clear hK K
   refine pS 9 35 z15q10 HT_ rfl rfl (by kernel_rfl) (by rfl) (by intro w';go_simp;with_reducible rfl) (by simp only [Act.put,lA,lZ,lS,iw,jw];rfl) ?_
   refine last_ (i:=10) (N:=none) z15q11 rfl rfl (one_of HT_.out (by kernel_rfl)) (by decide) (fun K hK=>?_)
   refine skip_ (w1:=?_) (by rfl) rfl ?_ ?_
   rotate_left;(go_simp;rfl)
   refine hK.out _ _ ?_
   clear hK K
   refine done_ (done_of HT_.out (by kernel_rfl)) ?_
   have n0_:Aside0 (Kd.R Kd.string 9 ((w43.setCell ⟨go28,(t131:Int).toNat,none⟩ (.string a1)).setCell ⟨go30,(t131:Int).toNat,none⟩ (.int .i64 1)) w.heap.size (fun _=>True) (.slice (some ⟨go28,0,none⟩) t132.length co37) y139):=⟨by (with_reducible repeat (first|apply rA|apply rN|apply rD));exact rM (rF (p:=⟨go30,(t131:Int).toNat,none⟩) (rT HQ44.out (bE GG30.out (by have h_:=rE Bg.out GG30.out (by decide);intro e_;exact h_ (by rw [e_];rfl)) _) (by decide)) (fun _ hk=>hk.2) (.int .i64 1)) (fun _ hk=>trivial)⟩
   have n1_:Aside0 (Kd.R (Kd.int .i64) 3 ((w43.setCell ⟨go28,(t131:Int).toNat,none⟩ (.string a1)).setCell ⟨go30,(t131:Int).toNat,none⟩ (.int .i64 1)) w.heap.size (fun _=>True) (.slice (some ⟨go30,0,none⟩) t135.length co41) y140):=⟨by (with_reducible repeat (first|apply rA|apply rN|apply rD));exact rM HQ45.out (fun _ hk=>trivial)⟩
   have n2_:Aside0 (((w43.setCell ⟨go28,(t131:Int).toNat,none⟩ (.string a1)).setCell ⟨go30,(t131:Int).toNat,none⟩ (.int .i64 1)).heap[Bc]?=some (.cells #[.slice A0_0 l0_0.length c0_0,.slice A0_1 l0_1.length c0_1] 26 (0,0))):=⟨by (with_reducible repeat (first|refine bN ?_ _|refine bD ?_|refine bA ?_ _));refine bE ?_ (by have h_:=rE Bi.out Ba.out (by decide);intro e_;exact h_ (by rw [e_];rfl)) _;(with_reducible repeat (first|refine bN ?_ _|refine bD ?_|refine bA ?_ _));refine bE ?_ (by have h_:=rE Bg.out Ba.out (by decide);intro e_;exact h_ (by rw [e_];rfl)) _;(with_reducible repeat (first|refine bN ?_ _|refine bD ?_|refine bA ?_ _));exact Ba.out⟩
   have n3_:Aside0 (((w43.setCell ⟨go28,(t131:Int).toNat,none⟩ (.string a1)).setCell ⟨go30,(t131:Int).toNat,none⟩ (.int .i64 1)).heap[Be]?=some (.cells #[.slice none 0 0,.slice none 0 0] 26 (0,0))):=⟨by (with_reducible repeat (first|refine bN ?_ _|refine bD ?_|refine bA ?_ _));refine bE ?_ (by have h_:=rE Bi.out Bb.out (by decide);intro e_;exact h_ (by rw [e_];rfl)) _;(with_reducible repeat (first|refine bN ?_ _|refine bD ?_|refine bA ?_ _));refine bE ?_ (by have h_:=rE Bg.out Bb.out (by decide);intro e_;exact h_ (by rw [e_];rfl)) _;(with_reducible repeat (first|refine bN ?_ _|refine bD ?_|refine bA ?_ _));exact Bb.out⟩
   have n4_:Aside0 (((w43.setCell ⟨go28,(t131:Int).toNat,none⟩ (.string a1)).setCell ⟨go30,(t131:Int).toNat,none⟩ (.int .i64 1)).heap[Bd]?=some (.cells #[.slice (some ⟨go28,0,none⟩) t132.length co37,.slice (some ⟨go30,0,none⟩) t135.length co41] 26 (0,0))):=⟨by (with_reducible repeat (first|refine bN ?_ _|refine bD ?_|refine bA ?_ _));refine bE ?_ (by have h_:=rE Bi.out Bf.out (by decide);intro e_;exact h_ (by rw [e_];rfl)) _;(with_reducible repeat (first|refine bN ?_ _|refine bD ?_|refine bA ?_ _));refine bE ?_ (by have h_:=rE Bg.out Bf.out (by decide);intro e_;exact h_ (by rw [e_];rfl)) _;(with_reducible repeat (first|refine bN ?_ _|refine bD ?_|refine bA ?_ _));exact Bf.out⟩
   have n5_:Aside0 (Below w.heap.size w ((w43.setCell ⟨go28,(t131:Int).toNat,none⟩ (.string a1)).setCell ⟨go30,(t131:Int).toNat,none⟩ (.int .i64 1))):=⟨by repeat (first|(with_reducible first|exact HB.out|apply oA|apply pN|apply o1|refine bS ?_ GB28.out|refine bS ?_ GB30.out|refine bS ?_ Bh.out|refine bS ?_ Bj.out|refine bS ?_ Bo.out)|exact HB.out)⟩
   (try clear Bg)
   (try clear Bi)
   (try clear Ba)
   (try clear Bb)
   (try clear Bf)
   (try clear HB)
   generalize ((w43.setCell ⟨go28,(t131:Int).toNat,none⟩ (.string a1)).setCell ⟨go30,(t131:Int).toNat,none⟩ (.int .i64 1))=w46 at n0_ n1_ n2_ n3_ n4_ n5_ ⊢
   have Bg:=n0_
   have Bi:=n1_
   have Ba:=n2_
   have Bb:=n3_
   have Bf:=n4_
   have HB:=n5_
   clear n0_ n1_ n2_ n3_ n4_ n5_
   have BZ:=cz0 Bf.out
   have B0:=cz1 Bf.out
   have B1:=bF Bf.out 0
   have B2:=bF Bf.out 1
   have B3:=cz0 Bb.out
   have B4:=cz1 Bb.out
   have B6:=bF Bb.out 0
   have B7:=bF Bb.out 1
   try go_wp2
   refine bodyPost_ret (results_ctt rfl _ _ Be 26 #[.slice (some ⟨go28,0,none⟩) t132.length co37,.slice (some ⟨go30,0,none⟩) t135.length co41] (0,0) _ rfl (by (with_reducible repeat (first|refine bN ?_ _|refine bD ?_|refine bA ?_ _));refine bT (cs:=#[.slice (some ⟨go28,0,none⟩) t132.length co37,.slice none 0 0]) ?_ 1 _ rfl;(with_reducible repeat (first|refine bN ?_ _|refine bD ?_|refine bA ?_ _));refine bT (cs:=#[.slice none 0 0,.slice none 0 0]) ?_ 0 _ rfl;(with_reducible repeat (first|refine bN ?_ _|refine bD ?_|refine bA ?_ _));exact Bb.out) Try.underlying26 rfl (by kernel_rfl)) rfl ?_
   exact ⟨_,_,by first|rfl|(simp [errW_none,errW_some] <;> rfl)|(simp [*,errW_none,errW_some] <;> rfl),by (with_reducible repeat (first|apply rA|apply rN|apply rD));exact rM (rF (p:=⟨Be,1,none⟩) (rF (p:=⟨Be,0,none⟩) (rT Bg.out Bb.out (by decide)) (fun _ hk=>hk.2) (.slice (some ⟨go28,0,none⟩) t132.length co37)) (fun _ hk=>hk.2) (.slice (some ⟨go30,0,none⟩) t135.length co41)) (fun _ hk=>trivial),by (with_reducible repeat (first|apply rA|apply rN|apply rD));exact rM (rF (p:=⟨Be,1,none⟩) (rF (p:=⟨Be,0,none⟩) (rT Bi.out Bb.out (by decide)) (fun _ hk=>hk.2) (.slice (some ⟨go28,0,none⟩) t132.length co37)) (fun _ hk=>hk.2) (.slice (some ⟨go30,0,none⟩) t135.length co41)) (fun _ hk=>trivial),by repeat (first|(with_reducible first|exact HB.out|apply oA|apply pN|apply o1|refine bS ?_ Bh.out|refine bS ?_ Bj.out|refine bS ?_ Bo.out)|exact HB.out)⟩
end Go.Proofs.Ytpdfkbggaihfpaa.PFnPagesTake
