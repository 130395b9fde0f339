/- Proved here, without a condition beyond those that each theorem states: what the Go functions named below do is what the plain functions of the same names say. Written by xprint.py, a program of this session. -/
import Derived.Test.YtfhcgmfodfcpeaaPFnQueueLessx0
import Derived.Test.YtfhcgmfodfcpeaaPFnQueueLessx2
namespace Go.Proofs.Ytfhcgmfodfcpeaa.PFnQueueLess
open Go.RowKit Go.Proofs.YtfhcgmfodfcpeaaW.PrintWords Go.Proofs.YtfhcgmfodfcpeaaW.PrintLast Go.Proofs.YtfhcgmfodfcpeaaW.PrintMore
attribute [local go_sem] max2_int min2_int max_two min_two max_three min_three max_four min_four   -- for this text's walks alone
set_option linter.unusedVariables false
set_option linter.unusedSimpArgs false

attribute [local go_sem ↓] isSome_setCell_
/-! ### impl_QueueOk: function 16 -/
def impl_QueueOk.l0 : Nat → List (S40) → Int → Int → List (S40) → Int → Option (Bool)
|0, _, _, _, _, _ => none
|k + 1, x6, x7, x8, x106000, x106001 => if x8 < x7 then (if 0 ≤ x8 then (if x8 < (x6.length : Int) then ((impl_in.f ((rd_T40 x6 x8).f0) 0 99).bind fun t109 => (if t109 = true then ((impl_in.f ((rd_T40 x6 x8).f1) 1 6).bind fun t110 => (if t110 = true then ((impl_in.f ((rd_T40 x6 x8).f2) 0 1000000).bind fun t111 => (if t111 = true then (if (rd_T40 x6 x8).f3 = true then (if ((rd_T40 x6 x8).f2) < x106001 then (some false) else (if x8 > 0 then (if 0 ≤ (wrap64 (x8 - 1)) then (if (wrap64 (x8 - 1)) < (x106000.length : Int) then (if ((rd_T40 x106000 (wrap64 (x8 - 1))).f0) ≥ ((rd_T40 x6 x8).f0) then (some false) else (impl_QueueOk.l0 k x6 x7 (wrap64 (x8 + 1)) x106000 x106001)) else (none)) else (none)) else (impl_QueueOk.l0 k x6 x7 (wrap64 (x8 + 1)) x106000 x106001))) else (if x8 > 0 then (if 0 ≤ (wrap64 (x8 - 1)) then (if (wrap64 (x8 - 1)) < (x106000.length : Int) then (if ((rd_T40 x106000 (wrap64 (x8 - 1))).f0) ≥ ((rd_T40 x6 x8).f0) then (some false) else (impl_QueueOk.l0 k x6 x7 (wrap64 (x8 + 1)) x106000 x106001)) else (none)) else (none)) else (impl_QueueOk.l0 k x6 x7 (wrap64 (x8 + 1)) x106000 x106001))) else (some false))) else (some false))) else (some false))) else (none)) else (none)) else (if (x106000.length : Int) ≤ 6 then ((impl_in.f x106001 0 1000000).bind fun t106 => (some t106)) else (some false))
def impl_QueueOk.f (k : Nat) (l0_0 : List (S40)) (a0_1 : Int) : Option (Bool) := impl_QueueOk.l0 k l0_0 (l0_0.length : Int) 0 l0_0 a0_1
theorem impl_QueueOk.mono_l : ∀ k, (∀ y0 y1 y2 y3 y4, LeO (impl_QueueOk.l0 k y0 y1 y2 y3 y4) (impl_QueueOk.l0 (k + 1) y0 y1 y2 y3 y4))
|0 => fun _ _ _ _ _ r h => by simp [impl_QueueOk.l0] at h
|k + 1 => by
  have ih0 := impl_QueueOk.mono_l k
  ·intro y0 y1 y2 y3 y4
   unfold impl_QueueOk.l0
   repeat' first
  |(with_reducible exact ih0 _ _ _ _ _)
  |(with_reducible exact LeO.refl _)
  |(with_reducible exact LeO.none _)
  |(with_reducible refine LeO.ite ?_ ?_)
  |(with_reducible refine LeO.bind ?_ (fun _ => ?_))
  |exact ih0 _ _ _ _ _
  |exact LeO.none _
  |refine LeO.ite ?_ ?_
  |refine LeO.bind ?_ (fun _ => ?_)
theorem impl_QueueOk.mono : ∀ a0 a1 k, LeO (impl_QueueOk.f k a0 a1) (impl_QueueOk.f (k + 1) a0 a1) := by
 intro a0 a1 k
 have ih0 := impl_QueueOk.mono_l k
 unfold impl_QueueOk.f
 repeat' first
  |(with_reducible exact ih0 _ _ _ _ _)
  |(with_reducible exact LeO.refl _)
  |(with_reducible exact LeO.none _)
  |(with_reducible refine LeO.ite ?_ ?_)
  |(with_reducible refine LeO.bind ?_ (fun _ => ?_))
  |exact ih0 _ _ _ _ _
  |exact LeO.none _
  |refine LeO.ite ?_ ?_
  |refine LeO.bind ?_ (fun _ => ?_)
def impl_QueueOk.T4 : Bool × List (List Nat × List Nat) := (true, [([], []), ([0], [0]), ([1], [1]), ([2], [2]), ([3, 2], [3]), ([4], [4]), ([5, 4], [4, 5]), ([6, 4, 4], [4, 6]), ([7, 4], [4, 7]), ([4, 8], [4, 8]), ([9, 7], [9]), ([10], [10]), ([11, 10], [10, 11]), ([12, 10, 10], [10, 12]), ([13, 10], [10, 13]), ([10, 14], [10, 14]), ([15, 13], [15]), ([16], [16]), ([17, 16], [16, 17]), ([18, 16, 16], [16, 18]), ([19], [19]), ([20, 19], [19, 20]), ([19], [19]), ([22, 19], [19, 22]), ([21, 23, 19], [19, 21, 23]), ([19, 24, 16], [16, 19, 24]), ([16, 25], [16, 25]), ([26, 19], [26]), ([27], [27]), ([28, 27], [27, 28]), ([29, 27, 27], [27, 29]), ([30], [30]), ([31, 30], [30, 31]), ([30], [30]), ([33, 30], [30, 33]), ([32, 34, 30], [30, 32, 34]), ([35, 30], [30, 35]), ([36, 30], [30, 36]), ([30], [30]), ([38, 30], [30, 38]), ([37, 39, 30], [30, 37, 39]), ([30, 40, 27], [27, 30, 40]), ([27, 41], [27, 41])])
def impl_QueueOk.B4 : List Nat := [0, 1, 3, 7, 15, 31, 63, 127, 255, 511, 1023, 2047, 4095, 8191, 16383, 32767, 65535, 131071, 262143, 524287, 1048575, 2097151, 1048575, 5242879, 16777215, 33554431, 67108863, 134217727, 268435455, 536870911, 1073741823, 2147483647, 4294967295, 2147483647, 10737418239, 34359738367, 68719476735, 137438953471, 2147483647, 277025390591, 1099511627775, 2199023255551, 4398046511103]
theorem impl_QueueOk.tab4 : rtab .any (opsOf Try.f16 4) = impl_QueueOk.T4 := by kernel_rfl
theorem impl_QueueOk.bits4 : waitsOk impl_QueueOk.T4.2 impl_QueueOk.B4 = true := by kernel_rfl
abbrev z16q0 : Array Bool := bQ 43 0
abbrev z16q1 : Array Bool := bQ 43 1
abbrev z16q2 : Array Bool := bQ 43 3
abbrev z16q3 : Array Bool := bQ 43 7
abbrev z16q4 : Array Bool := bQ 43 15
abbrev z16q5 : Array Bool := bQ 43 31
abbrev z16q6 : Array Bool := bQ 43 63
abbrev z16q7 : Array Bool := bQ 43 127
abbrev z16q8 : Array Bool := bQ 43 255
abbrev z16q9 : Array Bool := bQ 43 511
abbrev z16q10 : Array Bool := bQ 43 1023
abbrev z16q11 : Array Bool := bQ 43 2047
abbrev z16q12 : Array Bool := bQ 43 4095
abbrev z16q13 : Array Bool := bQ 43 8191
abbrev z16q14 : Array Bool := bQ 43 16383
abbrev z16q15 : Array Bool := bQ 43 32767
abbrev z16q16 : Array Bool := bQ 43 65535
abbrev z16q17 : Array Bool := bQ 43 131071
abbrev z16q18 : Array Bool := bQ 43 262143
abbrev z16q19 : Array Bool := bQ 43 524287
abbrev z16q20 : Array Bool := bQ 43 1048575
abbrev z16q21 : Array Bool := bQ 43 2097151
abbrev z16q22 : Array Bool := bQ 43 6291455
abbrev z16q23 : Array Bool := bQ 43 8388607
abbrev z16q24 : Array Bool := bQ 43 16777215
abbrev z16q25 : Array Bool := bQ 43 33554431
abbrev z16q26 : Array Bool := bQ 43 67108863
abbrev z16q27 : Array Bool := bQ 43 134217727
abbrev z16q28 : Array Bool := bQ 43 268435455
abbrev z16q29 : Array Bool := bQ 43 536870911
abbrev z16q30 : Array Bool := bQ 43 1073741823
abbrev z16q31 : Array Bool := bQ 43 2147483647
abbrev z16q32 : Array Bool := bQ 43 4294967295
abbrev z16q33 : Array Bool := bQ 43 8589934591
abbrev z16q34 : Array Bool := bQ 43 17179869183
abbrev z16q35 : Array Bool := bQ 43 34359738367
abbrev z16q36 : Array Bool := bQ 43 68719476735
abbrev z16q37 : Array Bool := bQ 43 137438953471
abbrev z16q38 : Array Bool := bQ 43 274877906943
abbrev z16q39 : Array Bool := bQ 43 549755813887
abbrev z16q40 : Array Bool := bQ 43 1099511627775
abbrev z16q41 : Array Bool := bQ 43 2199023255551
abbrev z16q42 : Array Bool := bQ 43 4398046511103
abbrev z16q43 : Array Bool := bQ 43 8796093022207
abbrev z16q44 : Array Bool := bQ 43 12884901887
abbrev z16q45 : Array Bool := bQ 43 30064771071
abbrev z16q46 : Array Bool := bQ 43 304942678015
abbrev z16q47 : Array Bool := bQ 43 309237645311
abbrev z16q48 : Array Bool := bQ 43 343597383679
abbrev z16q49 : Array Bool := bQ 43 412316860415
abbrev z16q50 : Array Bool := bQ 43 4194303
set_option maxHeartbeats 2000000 in
set_option maxRecDepth 100000 in
theorem impl_QueueOk.calls (k:Nat) (A0_0:Option Addr) (c0_0:Nat) (l0_0:List (S40)) (a0_1:Int) (r:Bool) (w:World) (hr0_0:Kd.C k40 w A0_0 l0_0.length l0_0) (hc0_0:l0_0.length≤c0_0) (h:impl_QueueOk.f k l0_0 a0_1=some r) :
  Calls Try.prog 16 #[.agg #[.slice A0_0 l0_0.length c0_0,.int .i64 a0_1]] w fun e w'=>e=.returned (.bool r)∧Below w.heap.size w w':=by
 have hu25:=Try.underlying25
 have hu40:=Try.underlying40
 have HR0_0:=Am hr0_0
 have HC0_0:=Am hc0_0
 clear hr0_0 hc0_0
 have HB:=Am (Below.refl w.heap.size w)
 have H:(impl_QueueOk.l0 k l0_0 (l0_0.length:Int) 0 l0_0 a0_1)=some r:=h
 clear h
 have H':=Am H
 clear H
 go_enter Try.func16,Try.ntmps16
 go_wp2_with (first|((with_reducible refine gate_dst (N:=1) rfl ?_);refine box_event ?hg (N:=1) ?hd (cs:=#[.slice A0_0 l0_0.length c0_0,.int .i64 a0_1]) (t:=25) ?hr ?_;(case hd=>rfl);(case hg=>rfl);(case hr=>first|(go_simp;done)|(go_simp;rfl));intro Bd hg w2 hbox hb;have n0_:=Am (bP (by repeat (first|(with_reducible first|exact HB.out|apply oA|apply pN|apply o1)|exact HB.out)) hb);have n1_:=Am (hbox);have n2_:=Am ((by rw [hg];exact (bZ (by repeat (first|(with_reducible first|exact HB.out|apply oA|apply pN|apply o1)|exact HB.out))):w.heap.size≤Bd));have n3_:=Am ((by rw [hg];exact (bZ (by repeat (first|(with_reducible first|exact HB.out|apply oA|apply pN|apply o1)|exact HB.out))):w.heap.size≤Bd));clear HB;revert n0_ n1_ n2_ n3_;intro HB Bc DO Be;clear hb hbox hg;have Bj:=cz0 Bc.out;have Bk:=cz1 Bc.out;have Bl:=bF Bc.out 0;have Bm:=bF Bc.out 1))
 go_loopg [8] k (fun kq v8 w'=>∃ (x8_1:Int),v8=.int .i64 x8_1∧Aside0 (impl_QueueOk.l0 kq l0_0 (l0_0.length:Int) x8_1 l0_0 a0_1=some r)∧Aside0 (kq≤k)∧Aside0 (w'.heap[Bd]?=some (.cells #[(.slice A0_0 l0_0.length c0_0),.int .i64 a0_1] 25 (0,0)))∧Aside0 (Below w.heap.size w w'))
 case atStart=>exact ⟨(0),(by first|rfl|(simp;done)|(simp [*];done)),H',⟨Nat.le_refl _⟩,⟨by (with_reducible repeat (first|refine bN ?_ _|refine bD ?_|refine bA ?_ _));exact Bc.out⟩,⟨by repeat (first|(with_reducible first|exact HB.out|apply oA|apply pN|apply o1|refine bS ?_ Be.out)|exact HB.out)⟩⟩
 case round =>
  clear H'
  try clear c1
  try clear p2
  try clear Bj
  try clear Bk
  try clear Bl
  try clear Bm
  obtain ⟨x8_1,rfl,HA,HK1,Bc,HB⟩:=hrel
  cases gk with
 |zero=>exact absurd HA.out (by simp [impl_QueueOk.l0])
 |succ k1 =>
   have H:=HA.out
   clear HA
   simp only [impl_QueueOk.l0] at H
   by_cases c4:x8_1<(l0_0.length:Int)
   rotate_left
   ·rw [if_neg c4] at H
    have c4b0:decide (x8_1<(l0_0.length:Int))=false:=decide_eq_false c4
    clear c4
    by_cases c76:(l0_0.length:Int)≤6
    rotate_left
    ·rw [if_neg c76] at H
     have c76b0:decide ((l0_0.length:Int)≤6)=false:=decide_eq_false c76
     have c76b1:decide (l0_0.length≤6)=false:=decide_eq_false (by omega)
     clear c76
     obtain rfl:=Option.some.inj H
     have DK:=cz0 Bc.out
     have DL:=cz1 Bc.out
     have DM:=bF Bc.out 0
     have DN:=bF Bc.out 1
     go_wp2
     go_ret
     exact ⟨by first|rfl|(simp [errW_none,errW_some] <;> rfl)|(simp [*,errW_none,errW_some] <;> rfl),by repeat (first|(with_reducible first|exact HB.out|apply oA|apply pN|apply o1|refine bS ?_ Be.out)|exact HB.out)⟩

    rw [if_pos c76] at H
    have c76b0:decide ((l0_0.length:Int)≤6)=true:=decide_eq_true c76
    have c76b1:decide (l0_0.length≤6)=true:=decide_eq_true (by omega)
    clear c76
    replace H:=oC H
    obtain ⟨t106,A770,H⟩:=H
    replace H:(some t106)=some r:=H
    have A77:=Am A770
    clear A770
    obtain rfl:=Option.some.inj H
    have DG:=cz0 Bc.out
    have DH:=cz1 Bc.out
    have DI:=bF Bc.out 0
    have DJ:=bF Bc.out 1
    go_wp2_with (first|(go_at_call 41;(with_reducible refine (impl_in.calls a0_1 0 1000000 t106 _ A77.out).mono ?_);rintro e w' ⟨rfl,⟨nd,rfl⟩⟩))
    go_ret
    exact ⟨by first|rfl|(simp [errW_none,errW_some] <;> rfl)|(simp [*,errW_none,errW_some] <;> rfl),by repeat (first|(with_reducible first|exact HB.out|apply oA|apply pN|apply o1|refine bS ?_ Be.out)|exact HB.out)⟩
   rw [if_pos c4] at H
   have c4b0:decide (x8_1<(l0_0.length:Int))=true:=decide_eq_true c4
   clear c4
   by_cases c5:0≤x8_1
   rotate_left
   ·rw [if_neg c5] at H
    exact absurd H (by simp)
   rw [if_pos c5] at H
   have c5b0:decide (0≤x8_1)=true:=decide_eq_true c5
   clear c5
   by_cases c6:x8_1<(l0_0.length:Int)
   rotate_left
   ·rw [if_neg c6] at H
    exact absurd H (by simp)
   rw [if_pos c6] at H
   have c6b0:decide (x8_1<(l0_0.length:Int))=true:=decide_eq_true c6
   clear c6
   replace H:=oC H
   obtain ⟨t109,A70,H⟩:=H
   replace H:(if t109=true then ((impl_in.f ((rd_T40 l0_0 x8_1).f1) 1 6).bind fun t110=>(if t110=true then ((impl_in.f ((rd_T40 l0_0 x8_1).f2) 0 1000000).bind fun t111=>(if t111=true then (if (rd_T40 l0_0 x8_1).f3=true then (if ((rd_T40 l0_0 x8_1).f2)<a0_1 then (some false) else (if x8_1 > 0 then (if 0≤(wrap64 (x8_1 - 1)) then (if (wrap64 (x8_1 - 1))<(l0_0.length:Int) then (if ((rd_T40 l0_0 (wrap64 (x8_1 - 1))).f0) ≥ ((rd_T40 l0_0 x8_1).f0) then (some false) else (impl_QueueOk.l0 k1 l0_0 (l0_0.length:Int) (wrap64 (x8_1 + 1)) l0_0 a0_1)) else (none)) else (none)) else (impl_QueueOk.l0 k1 l0_0 (l0_0.length:Int) (wrap64 (x8_1 + 1)) l0_0 a0_1))) else (if x8_1 > 0 then (if 0≤(wrap64 (x8_1 - 1)) then (if (wrap64 (x8_1 - 1))<(l0_0.length:Int) then (if ((rd_T40 l0_0 (wrap64 (x8_1 - 1))).f0) ≥ ((rd_T40 l0_0 x8_1).f0) then (some false) else (impl_QueueOk.l0 k1 l0_0 (l0_0.length:Int) (wrap64 (x8_1 + 1)) l0_0 a0_1)) else (none)) else (none)) else (impl_QueueOk.l0 k1 l0_0 (l0_0.length:Int) (wrap64 (x8_1 + 1)) l0_0 a0_1))) else (some false))) else (some false))) else (some false))=some r:=H
   have A7:=Am A70
   clear A70
   by_cases c8:t109=true
   rotate_left
   ·replace c8:=Bool.eq_false_iff.mpr c8
    subst c8
    have H1:(some false)=some r:=by rw [if_neg (show ¬ (false=true) by decide)] at H;exact H
    clear H
    have H:=H1
    clear H1
    obtain rfl:=Option.some.inj H
    have p107:0≤(x8_1:Int):=of_decide_eq_true (by first|(with_reducible assumption)|assumption)
    have q107:x8_1<(l0_0.length:Int):=of_decide_eq_true (by first|(with_reducible assumption)|assumption)
    obtain ⟨ad107,e107,hx107_0,hx107_1,hx107_2,hx107_3⟩:=at_T40 HR0_0.out x8_1 p107 q107
    cases e107
    replace hx107_0:=(bW HB hx107_0:)
    replace hx107_1:=(bW HB hx107_1:)
    replace hx107_2:=(bW HB hx107_2:)
    replace hx107_3:=(bW HB hx107_3:)
    replace p107:=eq_true p107
    replace q107:=eq_true q107
    try go_wp2_with (first|((with_reducible refine gate_dst (N:=4) rfl ?_);refine box_event ?hg (N:=4) ?hd (cs:=#[.int .i64 0,.int .i64 0,.int .i64 0,.bool false]) (t:=40) ?hr ?_;(case hd=>rfl);(case hg=>rfl);(case hr=>first|(go_simp;done)|(go_simp;rfl));intro Bb hg w71 hbox hb;have n0_:=Am (bX Bc.out hb);have n1_:=Am (bP (by repeat (first|(with_reducible first|exact HB.out|apply oA|apply pN|apply o1|refine bS ?_ Be.out)|exact HB.out)) hb);have n2_:=Am (hbox);have n3_:=Am ((by rw [hg];exact (bZ (by repeat (first|(with_reducible first|exact HB.out|apply oA|apply pN|apply o1|refine bS ?_ Be.out)|exact HB.out))):w.heap.size≤Bb));have n4_:=Am ((by rw [hg];exact (bZ (by repeat (first|(with_reducible first|exact HB.out|apply oA|apply pN|apply o1|refine bS ?_ Be.out)|exact HB.out))):w.heap.size≤Bb));have n5_:=Am ((nL Bc.out hg));have n6_:=Am ((nG Bc.out hg));clear Bc HB;revert n0_ n1_ n2_ n3_ n4_ n5_ n6_;intro Bc HB Ba Bi Bh Bf Bg;clear hb hbox hg;have D7:=Bg.out;have D8:=Bf.out;have Dy:=cz0 Ba.out;have Dz:=cz1 Ba.out;have DA:=cz2 Ba.out;have DB:=cz3 Ba.out;have DC:=bF Ba.out 0;have DD:=bF Ba.out 1;have DE:=bF Ba.out 2;have DF:=bF Ba.out 3))
    have n0_:Aside0 (((((w71.setCell ⟨Bb,0,none⟩ (.int .i64 ((rd_T40 l0_0 x8_1).f0))).setCell ⟨Bb,1,none⟩ (.int .i64 ((rd_T40 l0_0 x8_1).f1))).setCell ⟨Bb,2,none⟩ (.int .i64 ((rd_T40 l0_0 x8_1).f2))).setCell ⟨Bb,3,none⟩ (.bool ((rd_T40 l0_0 x8_1).f3))).heap[Bd]?=some (.cells #[.slice (some ad107) l0_0.length c0_0,.int .i64 a0_1] 25 (0,0))):=⟨by (with_reducible repeat (first|refine bN ?_ _|refine bD ?_|refine bA ?_ _|refine blk_far ?_ Bf.out _));exact Bc.out⟩
    have n1_:Aside0 (((((w71.setCell ⟨Bb,0,none⟩ (.int .i64 ((rd_T40 l0_0 x8_1).f0))).setCell ⟨Bb,1,none⟩ (.int .i64 ((rd_T40 l0_0 x8_1).f1))).setCell ⟨Bb,2,none⟩ (.int .i64 ((rd_T40 l0_0 x8_1).f2))).setCell ⟨Bb,3,none⟩ (.bool ((rd_T40 l0_0 x8_1).f3))).heap[Bb]?=some (.cells #[.int .i64 ((rd_T40 l0_0 x8_1).f0),.int .i64 ((rd_T40 l0_0 x8_1).f1),.int .i64 ((rd_T40 l0_0 x8_1).f2),.bool ((rd_T40 l0_0 x8_1).f3)] 40 (0,0))):=⟨by (with_reducible repeat (first|refine bN ?_ _|refine bD ?_|refine bA ?_ _));refine blk_put (cs:=#[.int .i64 ((rd_T40 l0_0 x8_1).f0),.int .i64 ((rd_T40 l0_0 x8_1).f1),.int .i64 ((rd_T40 l0_0 x8_1).f2),.bool false]) ?_ 3 _ rfl;(with_reducible repeat (first|refine bN ?_ _|refine bD ?_|refine bA ?_ _));refine blk_put (cs:=#[.int .i64 ((rd_T40 l0_0 x8_1).f0),.int .i64 ((rd_T40 l0_0 x8_1).f1),.int .i64 0,.bool false]) ?_ 2 _ rfl;(with_reducible repeat (first|refine bN ?_ _|refine bD ?_|refine bA ?_ _));refine blk_put (cs:=#[.int .i64 ((rd_T40 l0_0 x8_1).f0),.int .i64 0,.int .i64 0,.bool false]) ?_ 1 _ rfl;(with_reducible repeat (first|refine bN ?_ _|refine bD ?_|refine bA ?_ _));refine blk_put (cs:=#[.int .i64 0,.int .i64 0,.int .i64 0,.bool false]) ?_ 0 _ rfl;(with_reducible repeat (first|refine bN ?_ _|refine bD ?_|refine bA ?_ _));exact Ba.out⟩
    have n2_:Aside0 (Below w.heap.size w ((((w71.setCell ⟨Bb,0,none⟩ (.int .i64 ((rd_T40 l0_0 x8_1).f0))).setCell ⟨Bb,1,none⟩ (.int .i64 ((rd_T40 l0_0 x8_1).f1))).setCell ⟨Bb,2,none⟩ (.int .i64 ((rd_T40 l0_0 x8_1).f2))).setCell ⟨Bb,3,none⟩ (.bool ((rd_T40 l0_0 x8_1).f3)))):=⟨by repeat (first|(with_reducible first|exact HB.out|apply oA|apply pN|apply o1|refine bS ?_ Be.out|refine bS ?_ Bh.out)|exact HB.out)⟩
    (try clear Bc)
    (try clear Ba)
    (try clear HB)
    generalize ((((w71.setCell ⟨Bb,0,none⟩ (.int .i64 ((rd_T40 l0_0 x8_1).f0))).setCell ⟨Bb,1,none⟩ (.int .i64 ((rd_T40 l0_0 x8_1).f1))).setCell ⟨Bb,2,none⟩ (.int .i64 ((rd_T40 l0_0 x8_1).f2))).setCell ⟨Bb,3,none⟩ (.bool ((rd_T40 l0_0 x8_1).f3)))=w74 at n0_ n1_ n2_ ⊢
    have Bc:=n0_
    have Ba:=n1_
    have HB:=n2_
    clear n0_ n1_ n2_
    have n0_:=Am (bD Bc.out)
    have n1_:=Am (bD Ba.out)
    have n2_:=Am (o1 HB.out)
    clear Bc
    clear Ba
    clear HB
    have Bc:=n0_
    have Ba:=n1_
    have HB:=n2_
    clear n0_ n1_ n2_
    refine start_ (n:=43) (S:=fun w'=>w'.cell? ⟨Bb,0,none⟩=some (.int .i64 ((rd_T40 l0_0 x8_1).f0))∧w'.cell? ⟨Bb,1,none⟩=some (.int .i64 ((rd_T40 l0_0 x8_1).f1))∧w'.cell? ⟨Bb,2,none⟩=some (.int .i64 ((rd_T40 l0_0 x8_1).f2))∧w'.cell? ⟨Bb,3,none⟩=some (.bool ((rd_T40 l0_0 x8_1).f3))) (ds:=[]) z16q0 (by kernel_rfl) rfl rfl ⟨(bC Ba.out 0).trans rfl,(bC Ba.out 1).trans rfl,(bC Ba.out 2).trans rfl,(bC Ba.out 3).trans rfl⟩ (fun hHeld=>?_);refine with_st impl_QueueOk.tab4 impl_QueueOk.bits4 (fun _ _ _ _ _ h=>h) (fun HT_=>?_)
    generalize w74.drew=w75 at Bc Ba HB hHeld ⊢
    refine pS 0 13 z16q1 HT_ rfl rfl (by kernel_rfl) (by rfl) (by intro w';go_simp;with_reducible rfl) (by simp only [Act.put,lA,lZ,lS,iw,jw];rfl) ?_
    refine tS 1 14 z16q2 HT_ hHeld rfl rfl (by kernel_rfl) (by rfl) (by rintro w' ⟨s0,s1,s2,s3⟩;go_simp;with_reducible rfl) (by simp only [Act.put,lA,lZ,lS,iw,jw];rfl) ?_
    refine oS 2 15 z16q3 HT_ rfl rfl (by kernel_rfl) (by decide) (fun K hK=>?_)
    refine goes_ Try.func41 (by kernel_rfl) rfl #[.int .i64 ((rd_T40 l0_0 x8_1).f0),.int .i64 0,.int .i64 99] (by rfl) rfl rfl (by (try simp only [lM,lC,lN]);first|done|rfl|(simp only [lD,lT];rfl)) ?_
    with_reducible refine (impl_in.calls ((rd_T40 l0_0 x8_1).f0) 0 99 false _ A7.out).mono ?_
    rintro e w' ⟨rfl,⟨nd,rfl⟩⟩
    refine ⟨_,rfl,?_⟩
    refine hK.out _ _ ⟨(bC Ba.out 0).trans rfl,(bC Ba.out 1).trans rfl,(bC Ba.out 2).trans rfl,(bC Ba.out 3).trans rfl⟩ (fun hHeld=>?_)
    clear hK K
    refine norm_ (by show Act.put _ (some 15) _=_;simp only [Act.put,lA,lZ,lS,iw,jw];rfl) ?_
    refine pS 3 16 z16q4 HT_ rfl rfl (by kernel_rfl) (by rfl) (by intro w';go_simp;with_reducible rfl) (by simp only [Act.put,lA,lZ,lS,iw,jw];rfl) ?_
    refine pS 4 17 z16q5 HT_ rfl rfl (by kernel_rfl) (by rfl) (by intro w';go_simp;with_reducible rfl) (by simp only [Act.put,lA,lZ,lS,iw,jw];rfl) ?_
    refine vS 5 18 z16q6 HT_ rfl rfl (by kernel_rfl) (by rfl) (by simp only [Act.put,lA,lZ,lS,iw,jw];rfl) ?_
    refine vS 6 19 z16q7 HT_ rfl rfl (by kernel_rfl) (by rfl) (by simp only [Act.put,lA,lZ,lS,iw,jw];rfl) ?_
    refine vS 7 20 z16q8 HT_ rfl rfl (by kernel_rfl) (by rfl) (by simp only [Act.put,lA,lZ,lS,iw,jw];rfl) ?_
    refine vS 8 21 z16q9 HT_ rfl rfl (by kernel_rfl) (by rfl) (by simp only [Act.put,lA,lZ,lS,iw,jw];rfl) ?_
    refine pS 9 22 z16q10 HT_ rfl rfl (by kernel_rfl) (by rfl) (by intro w';go_simp;with_reducible rfl) (by simp only [Act.put,lA,lZ,lS,iw,jw];rfl) ?_
    refine pS 10 23 z16q11 HT_ rfl rfl (by kernel_rfl) (by rfl) (by intro w';go_simp;with_reducible rfl) (by simp only [Act.put,lA,lZ,lS,iw,jw];rfl) ?_
    refine vS 11 24 z16q12 HT_ rfl rfl (by kernel_rfl) (by rfl) (by simp only [Act.put,lA,lZ,lS,iw,jw];rfl) ?_
    refine vS 12 25 z16q13 HT_ rfl rfl (by kernel_rfl) (by rfl) (by simp only [Act.put,lA,lZ,lS,iw,jw];rfl) ?_
    refine vS 13 26 z16q14 HT_ rfl rfl (by kernel_rfl) (by rfl) (by simp only [Act.put,lA,lZ,lS,iw,jw];rfl) ?_
    refine vS 14 27 z16q15 HT_ rfl rfl (by kernel_rfl) (by rfl) (by simp only [Act.put,lA,lZ,lS,iw,jw];rfl) ?_
    refine pS 15 28 z16q16 HT_ rfl rfl (by kernel_rfl) (by rfl) (by intro w';go_simp;with_reducible rfl) (by simp only [Act.put,lA,lZ,lS,iw,jw];rfl) ?_
    refine pS 16 29 z16q17 HT_ rfl rfl (by kernel_rfl) (by rfl) (by intro w';go_simp;with_reducible rfl) (by simp only [Act.put,lA,lZ,lS,iw,jw];rfl) ?_
    refine vS 17 30 z16q18 HT_ rfl rfl (by kernel_rfl) (by rfl) (by simp only [Act.put,lA,lZ,lS,iw,jw];rfl) ?_
    refine vS 18 31 z16q19 HT_ rfl rfl (by kernel_rfl) (by rfl) (by simp only [Act.put,lA,lZ,lS,iw,jw];rfl) ?_
    refine vS 19 32 z16q20 HT_ rfl rfl (by kernel_rfl) (by rfl) (by simp only [Act.put,lA,lZ,lS,iw,jw];rfl) ?_
    refine vS 20 33 z16q21 HT_ rfl rfl (by kernel_rfl) (by rfl) (by simp only [Act.put,lA,lZ,lS,iw,jw];rfl) ?_
    refine vS 21 34 z16q50 HT_ rfl rfl (by kernel_rfl) (by rfl) (by simp only [Act.put,lA,lZ,lS,iw,jw];rfl) ?_
    refine vS 22 35 z16q23 HT_ rfl rfl (by kernel_rfl) (by rfl) (by simp only [Act.put,lA,lZ,lS,iw,jw];rfl) ?_
    refine vS 23 36 z16q24 HT_ rfl rfl (by kernel_rfl) (by rfl) (by simp only [Act.put,lA,lZ,lS,iw,jw];rfl) ?_
    refine vS 24 37 z16q25 HT_ rfl rfl (by kernel_rfl) (by rfl) (by simp only [Act.put,lA,lZ,lS,iw,jw];rfl) ?_
    refine vS 25 38 z16q26 HT_ rfl rfl (by kernel_rfl) (by rfl) (by simp only [Act.put,lA,lZ,lS,iw,jw];rfl) ?_
    refine pS 26 39 z16q27 HT_ rfl rfl (by kernel_rfl) (by rfl) (by intro w';go_simp;with_reducible rfl) (by simp only [Act.put,lA,lZ,lS,iw,jw];rfl) ?_
    refine pS 27 40 z16q28 HT_ rfl rfl (by kernel_rfl) (by rfl) (by intro w';go_simp;with_reducible rfl) (by simp only [Act.put,lA,lZ,lS,iw,jw];rfl) ?_
    refine vS 28 41 z16q29 HT_ rfl rfl (by kernel_rfl) (by rfl) (by simp only [Act.put,lA,lZ,lS,iw,jw];rfl) ?_
    refine vS 29 42 z16q30 HT_ rfl rfl (by kernel_rfl) (by rfl) (by simp only [Act.put,lA,lZ,lS,iw,jw];rfl) ?_
    refine vS 30 43 z16q31 HT_ rfl rfl (by kernel_rfl) (by rfl) (by simp only [Act.put,lA,lZ,lS,iw,jw];rfl) ?_
    refine vS 31 44 z16q32 HT_ rfl rfl (by kernel_rfl) (by rfl) (by simp only [Act.put,lA,lZ,lS,iw,jw];rfl) ?_
    refine vS 32 45 z16q33 HT_ rfl rfl (by kernel_rfl) (by rfl) (by simp only [Act.put,lA,lZ,lS,iw,jw];rfl) ?_
    refine vS 33 46 z16q34 HT_ rfl rfl (by kernel_rfl) (by rfl) (by simp only [Act.put,lA,lZ,lS,iw,jw];rfl) ?_
    refine vS 34 47 z16q35 HT_ rfl rfl (by kernel_rfl) (by rfl) (by simp only [Act.put,lA,lZ,lS,iw,jw];rfl) ?_
    refine vS 35 48 z16q36 HT_ rfl rfl (by kernel_rfl) (by rfl) (by simp only [Act.put,lA,lZ,lS,iw,jw];rfl) ?_
    refine vS 36 49 z16q37 HT_ rfl rfl (by kernel_rfl) (by rfl) (by simp only [Act.put,lA,lZ,lS,iw,jw];rfl) ?_
    refine vS 37 50 z16q38 HT_ rfl rfl (by kernel_rfl) (by rfl) (by simp only [Act.put,lA,lZ,lS,iw,jw];rfl) ?_
    refine vS 38 51 z16q39 HT_ rfl rfl (by kernel_rfl) (by rfl) (by simp only [Act.put,lA,lZ,lS,iw,jw];rfl) ?_
    refine vS 39 52 z16q40 HT_ rfl rfl (by kernel_rfl) (by rfl) (by simp only [Act.put,lA,lZ,lS,iw,jw];rfl) ?_
    refine vS 40 53 z16q41 HT_ rfl rfl (by kernel_rfl) (by rfl) (by simp only [Act.put,lA,lZ,lS,iw,jw];rfl) ?_
    refine vS 41 54 z16q42 HT_ rfl rfl (by kernel_rfl) (by rfl) (by simp only [Act.put,lA,lZ,lS,iw,jw];rfl) ?_
    refine pS 42 55 z16q43 HT_ rfl rfl (by kernel_rfl) (by rfl) (by intro w';go_simp;with_reducible rfl) (by simp only [Act.put,lA,lZ,lS,iw,jw];rfl) ?_
    refine done_ (done_of HT_.out (by kernel_rfl)) ?_
    try go_wp2
    go_ret
    exact ⟨by first|rfl|(simp [errW_none,errW_some] <;> rfl)|(simp [*,errW_none,errW_some] <;> rfl),by repeat (first|(with_reducible first|exact HB.out|apply oA|apply pN|apply o1|refine bS ?_ Be.out|refine bS ?_ Bh.out)|exact HB.out)⟩
   subst c8
   have H1:((impl_in.f ((rd_T40 l0_0 x8_1).f1) 1 6).bind fun t110=>(if t110=true then ((impl_in.f ((rd_T40 l0_0 x8_1).f2) 0 1000000).bind fun t111=>(if t111=true then (if (rd_T40 l0_0 x8_1).f3=true then (if ((rd_T40 l0_0 x8_1).f2)<a0_1 then (some false) else (if x8_1 > 0 then (if 0≤(wrap64 (x8_1 - 1)) then (if (wrap64 (x8_1 - 1))<(l0_0.length:Int) then (if ((rd_T40 l0_0 (wrap64 (x8_1 - 1))).f0) ≥ ((rd_T40 l0_0 x8_1).f0) then (some false) else (impl_QueueOk.l0 k1 l0_0 (l0_0.length:Int) (wrap64 (x8_1 + 1)) l0_0 a0_1)) else (none)) else (none)) else (impl_QueueOk.l0 k1 l0_0 (l0_0.length:Int) (wrap64 (x8_1 + 1)) l0_0 a0_1))) else (if x8_1 > 0 then (if 0≤(wrap64 (x8_1 - 1)) then (if (wrap64 (x8_1 - 1))<(l0_0.length:Int) then (if ((rd_T40 l0_0 (wrap64 (x8_1 - 1))).f0) ≥ ((rd_T40 l0_0 x8_1).f0) then (some false) else (impl_QueueOk.l0 k1 l0_0 (l0_0.length:Int) (wrap64 (x8_1 + 1)) l0_0 a0_1)) else (none)) else (none)) else (impl_QueueOk.l0 k1 l0_0 (l0_0.length:Int) (wrap64 (x8_1 + 1)) l0_0 a0_1))) else (some false))) else (some false)))=some r:=by rw [if_pos rfl] at H;exact H
   clear H
   have H:=H1
   clear H1
   replace H:=oC H
   obtain ⟨t110,A90,H⟩:=H
   replace H:(if t110=true then ((impl_in.f ((rd_T40 l0_0 x8_1).f2) 0 1000000).bind fun t111=>(if t111=true then (if (rd_T40 l0_0 x8_1).f3=true then (if ((rd_T40 l0_0 x8_1).f2)<a0_1 then (some false) else (if x8_1 > 0 then (if 0≤(wrap64 (x8_1 - 1)) then (if (wrap64 (x8_1 - 1))<(l0_0.length:Int) then (if ((rd_T40 l0_0 (wrap64 (x8_1 - 1))).f0) ≥ ((rd_T40 l0_0 x8_1).f0) then (some false) else (impl_QueueOk.l0 k1 l0_0 (l0_0.length:Int) (wrap64 (x8_1 + 1)) l0_0 a0_1)) else (none)) else (none)) else (impl_QueueOk.l0 k1 l0_0 (l0_0.length:Int) (wrap64 (x8_1 + 1)) l0_0 a0_1))) else (if x8_1 > 0 then (if 0≤(wrap64 (x8_1 - 1)) then (if (wrap64 (x8_1 - 1))<(l0_0.length:Int) then (if ((rd_T40 l0_0 (wrap64 (x8_1 - 1))).f0) ≥ ((rd_T40 l0_0 x8_1).f0) then (some false) else (impl_QueueOk.l0 k1 l0_0 (l0_0.length:Int) (wrap64 (x8_1 + 1)) l0_0 a0_1)) else (none)) else (none)) else (impl_QueueOk.l0 k1 l0_0 (l0_0.length:Int) (wrap64 (x8_1 + 1)) l0_0 a0_1))) else (some false))) else (some false))=some r:=H
   have A9:=Am A90
   clear A90
   by_cases c10:t110=true
   rotate_left
   ·replace c10:=Bool.eq_false_iff.mpr c10
    subst c10
    have H1:(some false)=some r:=by rw [if_neg (show ¬ (false=true) by decide)] at H;exact H
    clear H
    have H:=H1
    clear H1
    obtain rfl:=Option.some.inj H
    have p107:0≤(x8_1:Int):=of_decide_eq_true (by first|(with_reducible assumption)|assumption)
    have q107:x8_1<(l0_0.length:Int):=of_decide_eq_true (by first|(with_reducible assumption)|assumption)
    obtain ⟨ad107,e107,hx107_0,hx107_1,hx107_2,hx107_3⟩:=at_T40 HR0_0.out x8_1 p107 q107
    cases e107
    replace hx107_0:=(bW HB hx107_0:)
    replace hx107_1:=(bW HB hx107_1:)
    replace hx107_2:=(bW HB hx107_2:)
    replace hx107_3:=(bW HB hx107_3:)
    replace p107:=eq_true p107
    replace q107:=eq_true q107
    try go_wp2_with (first|((with_reducible refine gate_dst (N:=4) rfl ?_);refine box_event ?hg (N:=4) ?hd (cs:=#[.int .i64 0,.int .i64 0,.int .i64 0,.bool false]) (t:=40) ?hr ?_;(case hd=>rfl);(case hg=>rfl);(case hr=>first|(go_simp;done)|(go_simp;rfl));intro Bb hg w66 hbox hb;have n0_:=Am (bX Bc.out hb);have n1_:=Am (bP (by repeat (first|(with_reducible first|exact HB.out|apply oA|apply pN|apply o1|refine bS ?_ Be.out)|exact HB.out)) hb);have n2_:=Am (hbox);have n3_:=Am ((by rw [hg];exact (bZ (by repeat (first|(with_reducible first|exact HB.out|apply oA|apply pN|apply o1|refine bS ?_ Be.out)|exact HB.out))):w.heap.size≤Bb));have n4_:=Am ((by rw [hg];exact (bZ (by repeat (first|(with_reducible first|exact HB.out|apply oA|apply pN|apply o1|refine bS ?_ Be.out)|exact HB.out))):w.heap.size≤Bb));have n5_:=Am ((nL Bc.out hg));have n6_:=Am ((nG Bc.out hg));clear Bc HB;revert n0_ n1_ n2_ n3_ n4_ n5_ n6_;intro Bc HB Ba Bi Bh Bf Bg;clear hb hbox hg;have D5:=Bg.out;have D6:=Bf.out;have Dq:=cz0 Ba.out;have Dr:=cz1 Ba.out;have Ds:=cz2 Ba.out;have Dt:=cz3 Ba.out;have Du:=bF Ba.out 0;have Dv:=bF Ba.out 1;have Dw:=bF Ba.out 2;have Dx:=bF Ba.out 3))
    have n0_:Aside0 (((((w66.setCell ⟨Bb,0,none⟩ (.int .i64 ((rd_T40 l0_0 x8_1).f0))).setCell ⟨Bb,1,none⟩ (.int .i64 ((rd_T40 l0_0 x8_1).f1))).setCell ⟨Bb,2,none⟩ (.int .i64 ((rd_T40 l0_0 x8_1).f2))).setCell ⟨Bb,3,none⟩ (.bool ((rd_T40 l0_0 x8_1).f3))).heap[Bd]?=some (.cells #[.slice (some ad107) l0_0.length c0_0,.int .i64 a0_1] 25 (0,0))):=⟨by (with_reducible repeat (first|refine bN ?_ _|refine bD ?_|refine bA ?_ _|refine blk_far ?_ Bf.out _));exact Bc.out⟩
    have n1_:Aside0 (((((w66.setCell ⟨Bb,0,none⟩ (.int .i64 ((rd_T40 l0_0 x8_1).f0))).setCell ⟨Bb,1,none⟩ (.int .i64 ((rd_T40 l0_0 x8_1).f1))).setCell ⟨Bb,2,none⟩ (.int .i64 ((rd_T40 l0_0 x8_1).f2))).setCell ⟨Bb,3,none⟩ (.bool ((rd_T40 l0_0 x8_1).f3))).heap[Bb]?=some (.cells #[.int .i64 ((rd_T40 l0_0 x8_1).f0),.int .i64 ((rd_T40 l0_0 x8_1).f1),.int .i64 ((rd_T40 l0_0 x8_1).f2),.bool ((rd_T40 l0_0 x8_1).f3)] 40 (0,0))):=⟨by (with_reducible repeat (first|refine bN ?_ _|refine bD ?_|refine bA ?_ _));refine blk_put (cs:=#[.int .i64 ((rd_T40 l0_0 x8_1).f0),.int .i64 ((rd_T40 l0_0 x8_1).f1),.int .i64 ((rd_T40 l0_0 x8_1).f2),.bool false]) ?_ 3 _ rfl;(with_reducible repeat (first|refine bN ?_ _|refine bD ?_|refine bA ?_ _));refine blk_put (cs:=#[.int .i64 ((rd_T40 l0_0 x8_1).f0),.int .i64 ((rd_T40 l0_0 x8_1).f1),.int .i64 0,.bool false]) ?_ 2 _ rfl;(with_reducible repeat (first|refine bN ?_ _|refine bD ?_|refine bA ?_ _));refine blk_put (cs:=#[.int .i64 ((rd_T40 l0_0 x8_1).f0),.int .i64 0,.int .i64 0,.bool false]) ?_ 1 _ rfl;(with_reducible repeat (first|refine bN ?_ _|refine bD ?_|refine bA ?_ _));refine blk_put (cs:=#[.int .i64 0,.int .i64 0,.int .i64 0,.bool false]) ?_ 0 _ rfl;(with_reducible repeat (first|refine bN ?_ _|refine bD ?_|refine bA ?_ _));exact Ba.out⟩
    have n2_:Aside0 (Below w.heap.size w ((((w66.setCell ⟨Bb,0,none⟩ (.int .i64 ((rd_T40 l0_0 x8_1).f0))).setCell ⟨Bb,1,none⟩ (.int .i64 ((rd_T40 l0_0 x8_1).f1))).setCell ⟨Bb,2,none⟩ (.int .i64 ((rd_T40 l0_0 x8_1).f2))).setCell ⟨Bb,3,none⟩ (.bool ((rd_T40 l0_0 x8_1).f3)))):=⟨by repeat (first|(with_reducible first|exact HB.out|apply oA|apply pN|apply o1|refine bS ?_ Be.out|refine bS ?_ Bh.out)|exact HB.out)⟩
    (try clear Bc)
    (try clear Ba)
    (try clear HB)
    generalize ((((w66.setCell ⟨Bb,0,none⟩ (.int .i64 ((rd_T40 l0_0 x8_1).f0))).setCell ⟨Bb,1,none⟩ (.int .i64 ((rd_T40 l0_0 x8_1).f1))).setCell ⟨Bb,2,none⟩ (.int .i64 ((rd_T40 l0_0 x8_1).f2))).setCell ⟨Bb,3,none⟩ (.bool ((rd_T40 l0_0 x8_1).f3)))=w69 at n0_ n1_ n2_ ⊢
    have Bc:=n0_
    have Ba:=n1_
    have HB:=n2_
    clear n0_ n1_ n2_
    have n0_:=Am (bD Bc.out)
    have n1_:=Am (bD Ba.out)
    have n2_:=Am (o1 HB.out)
    clear Bc
    clear Ba
    clear HB
    have Bc:=n0_
    have Ba:=n1_
    have HB:=n2_
    clear n0_ n1_ n2_
    refine start_ (n:=43) (S:=fun w'=>w'.cell? ⟨Bb,0,none⟩=some (.int .i64 ((rd_T40 l0_0 x8_1).f0))∧w'.cell? ⟨Bb,1,none⟩=some (.int .i64 ((rd_T40 l0_0 x8_1).f1))∧w'.cell? ⟨Bb,2,none⟩=some (.int .i64 ((rd_T40 l0_0 x8_1).f2))∧w'.cell? ⟨Bb,3,none⟩=some (.bool ((rd_T40 l0_0 x8_1).f3))) (ds:=[]) z16q0 (by kernel_rfl) rfl rfl ⟨(bC Ba.out 0).trans rfl,(bC Ba.out 1).trans rfl,(bC Ba.out 2).trans rfl,(bC Ba.out 3).trans rfl⟩ (fun hHeld=>?_);refine with_st impl_QueueOk.tab4 impl_QueueOk.bits4 (fun _ _ _ _ _ h=>h) (fun HT_=>?_)
    generalize w69.drew=w70 at Bc Ba HB hHeld ⊢
    refine pS 0 13 z16q1 HT_ rfl rfl (by kernel_rfl) (by rfl) (by intro w';go_simp;with_reducible rfl) (by simp only [Act.put,lA,lZ,lS,iw,jw];rfl) ?_
    refine tS 1 14 z16q2 HT_ hHeld rfl rfl (by kernel_rfl) (by rfl) (by rintro w' ⟨s0,s1,s2,s3⟩;go_simp;with_reducible rfl) (by simp only [Act.put,lA,lZ,lS,iw,jw];rfl) ?_
    refine oS 2 15 z16q3 HT_ rfl rfl (by kernel_rfl) (by decide) (fun K hK=>?_)
    refine goes_ Try.func41 (by kernel_rfl) rfl #[.int .i64 ((rd_T40 l0_0 x8_1).f0),.int .i64 0,.int .i64 99] (by rfl) rfl rfl (by (try simp only [lM,lC,lN]);first|done|rfl|(simp only [lD,lT];rfl)) ?_
    with_reducible refine (impl_in.calls ((rd_T40 l0_0 x8_1).f0) 0 99 true _ A7.out).mono ?_
    rintro e w' ⟨rfl,⟨nd,rfl⟩⟩
    refine ⟨_,rfl,?_⟩
    refine hK.out _ _ ⟨(bC Ba.out 0).trans rfl,(bC Ba.out 1).trans rfl,(bC Ba.out 2).trans rfl,(bC Ba.out 3).trans rfl⟩ (fun hHeld=>?_)
    clear hK K
    refine norm_ (by show Act.put _ (some 15) _=_;simp only [Act.put,lA,lZ,lS,iw,jw];rfl) ?_
    refine pS 3 16 z16q4 HT_ rfl rfl (by kernel_rfl) (by rfl) (by intro w';go_simp;with_reducible rfl) (by simp only [Act.put,lA,lZ,lS,iw,jw];rfl) ?_
    refine pS 4 17 z16q5 HT_ rfl rfl (by kernel_rfl) (by rfl) (by intro w';go_simp;with_reducible rfl) (by simp only [Act.put,lA,lZ,lS,iw,jw];rfl) ?_
    refine pS 5 18 z16q6 HT_ rfl rfl (by kernel_rfl) (by rfl) (by intro w';go_simp;with_reducible rfl) (by simp only [Act.put,lA,lZ,lS,iw,jw];rfl) ?_
    refine tS 6 19 z16q7 HT_ hHeld rfl rfl (by kernel_rfl) (by rfl) (by rintro w' ⟨s0,s1,s2,s3⟩;go_simp;with_reducible rfl) (by simp only [Act.put,lA,lZ,lS,iw,jw];rfl) ?_
    refine oS 7 20 z16q8 HT_ rfl rfl (by kernel_rfl) (by decide) (fun K hK=>?_)
    refine goes_ Try.func41 (by kernel_rfl) rfl #[.int .i64 ((rd_T40 l0_0 x8_1).f1),.int .i64 1,.int .i64 6] (by rfl) rfl rfl (by (try simp only [lM,lC,lN]);first|done|rfl|(simp only [lD,lT];rfl)) ?_
    with_reducible refine (impl_in.calls ((rd_T40 l0_0 x8_1).f1) 1 6 false _ A9.out).mono ?_
    rintro e w' ⟨rfl,⟨nd,rfl⟩⟩
    refine ⟨_,rfl,?_⟩
    refine hK.out _ _ ⟨(bC Ba.out 0).trans rfl,(bC Ba.out 1).trans rfl,(bC Ba.out 2).trans rfl,(bC Ba.out 3).trans rfl⟩ (fun hHeld=>?_)
    clear hK K
    refine norm_ (by show Act.put _ (some 20) _=_;simp only [Act.put,lA,lZ,lS,iw,jw];rfl) ?_
    refine pS 8 21 z16q9 HT_ rfl rfl (by kernel_rfl) (by rfl) (by intro w';go_simp;with_reducible rfl) (by simp only [Act.put,lA,lZ,lS,iw,jw];rfl) ?_
    refine pS 9 22 z16q10 HT_ rfl rfl (by kernel_rfl) (by rfl) (by intro w';go_simp;with_reducible rfl) (by simp only [Act.put,lA,lZ,lS,iw,jw];rfl) ?_
    refine pS 10 23 z16q11 HT_ rfl rfl (by kernel_rfl) (by rfl) (by intro w';go_simp;with_reducible rfl) (by simp only [Act.put,lA,lZ,lS,iw,jw];rfl) ?_
    refine vS 11 24 z16q12 HT_ rfl rfl (by kernel_rfl) (by rfl) (by simp only [Act.put,lA,lZ,lS,iw,jw];rfl) ?_
    refine vS 12 25 z16q13 HT_ rfl rfl (by kernel_rfl) (by rfl) (by simp only [Act.put,lA,lZ,lS,iw,jw];rfl) ?_
    refine vS 13 26 z16q14 HT_ rfl rfl (by kernel_rfl) (by rfl) (by simp only [Act.put,lA,lZ,lS,iw,jw];rfl) ?_
    refine vS 14 27 z16q15 HT_ rfl rfl (by kernel_rfl) (by rfl) (by simp only [Act.put,lA,lZ,lS,iw,jw];rfl) ?_
    refine pS 15 28 z16q16 HT_ rfl rfl (by kernel_rfl) (by rfl) (by intro w';go_simp;with_reducible rfl) (by simp only [Act.put,lA,lZ,lS,iw,jw];rfl) ?_
    refine pS 16 29 z16q17 HT_ rfl rfl (by kernel_rfl) (by rfl) (by intro w';go_simp;with_reducible rfl) (by simp only [Act.put,lA,lZ,lS,iw,jw];rfl) ?_
    refine vS 17 30 z16q18 HT_ rfl rfl (by kernel_rfl) (by rfl) (by simp only [Act.put,lA,lZ,lS,iw,jw];rfl) ?_
    refine vS 18 31 z16q19 HT_ rfl rfl (by kernel_rfl) (by rfl) (by simp only [Act.put,lA,lZ,lS,iw,jw];rfl) ?_
    refine vS 19 32 z16q20 HT_ rfl rfl (by kernel_rfl) (by rfl) (by simp only [Act.put,lA,lZ,lS,iw,jw];rfl) ?_
    refine vS 20 33 z16q21 HT_ rfl rfl (by kernel_rfl) (by rfl) (by simp only [Act.put,lA,lZ,lS,iw,jw];rfl) ?_
    refine vS 21 34 z16q50 HT_ rfl rfl (by kernel_rfl) (by rfl) (by simp only [Act.put,lA,lZ,lS,iw,jw];rfl) ?_
    refine vS 22 35 z16q23 HT_ rfl rfl (by kernel_rfl) (by rfl) (by simp only [Act.put,lA,lZ,lS,iw,jw];rfl) ?_
    refine vS 23 36 z16q24 HT_ rfl rfl (by kernel_rfl) (by rfl) (by simp only [Act.put,lA,lZ,lS,iw,jw];rfl) ?_
    refine vS 24 37 z16q25 HT_ rfl rfl (by kernel_rfl) (by rfl) (by simp only [Act.put,lA,lZ,lS,iw,jw];rfl) ?_
    refine vS 25 38 z16q26 HT_ rfl rfl (by kernel_rfl) (by rfl) (by simp only [Act.put,lA,lZ,lS,iw,jw];rfl) ?_
    refine pS 26 39 z16q27 HT_ rfl rfl (by kernel_rfl) (by rfl) (by intro w';go_simp;with_reducible rfl) (by simp only [Act.put,lA,lZ,lS,iw,jw];rfl) ?_
    refine pS 27 40 z16q28 HT_ rfl rfl (by kernel_rfl) (by rfl) (by intro w';go_simp;with_reducible rfl) (by simp only [Act.put,lA,lZ,lS,iw,jw];rfl) ?_
    refine vS 28 41 z16q29 HT_ rfl rfl (by kernel_rfl) (by rfl) (by simp only [Act.put,lA,lZ,lS,iw,jw];rfl) ?_
    refine vS 29 42 z16q30 HT_ rfl rfl (by kernel_rfl) (by rfl) (by simp only [Act.put,lA,lZ,lS,iw,jw];rfl) ?_
    refine vS 30 43 z16q31 HT_ rfl rfl (by kernel_rfl) (by rfl) (by simp only [Act.put,lA,lZ,lS,iw,jw];rfl) ?_
    refine vS 31 44 z16q32 HT_ rfl rfl (by kernel_rfl) (by rfl) (by simp only [Act.put,lA,lZ,lS,iw,jw];rfl) ?_
    refine vS 32 45 z16q33 HT_ rfl rfl (by kernel_rfl) (by rfl) (by simp only [Act.put,lA,lZ,lS,iw,jw];rfl) ?_
    refine vS 33 46 z16q34 HT_ rfl rfl (by kernel_rfl) (by rfl) (by simp only [Act.put,lA,lZ,lS,iw,jw];rfl) ?_
    refine vS 34 47 z16q35 HT_ rfl rfl (by kernel_rfl) (by rfl) (by simp only [Act.put,lA,lZ,lS,iw,jw];rfl) ?_
    refine vS 35 48 z16q36 HT_ rfl rfl (by kernel_rfl) (by rfl) (by simp only [Act.put,lA,lZ,lS,iw,jw];rfl) ?_
    refine vS 36 49 z16q37 HT_ rfl rfl (by kernel_rfl) (by rfl) (by simp only [Act.put,lA,lZ,lS,iw,jw];rfl) ?_
    refine vS 37 50 z16q38 HT_ rfl rfl (by kernel_rfl) (by rfl) (by simp only [Act.put,lA,lZ,lS,iw,jw];rfl) ?_
    refine vS 38 51 z16q39 HT_ rfl rfl (by kernel_rfl) (by rfl) (by simp only [Act.put,lA,lZ,lS,iw,jw];rfl) ?_
    refine vS 39 52 z16q40 HT_ rfl rfl (by kernel_rfl) (by rfl) (by simp only [Act.put,lA,lZ,lS,iw,jw];rfl) ?_
    refine vS 40 53 z16q41 HT_ rfl rfl (by kernel_rfl) (by rfl) (by simp only [Act.put,lA,lZ,lS,iw,jw];rfl) ?_
    refine vS 41 54 z16q42 HT_ rfl rfl (by kernel_rfl) (by rfl) (by simp only [Act.put,lA,lZ,lS,iw,jw];rfl) ?_
    refine pS 42 55 z16q43 HT_ rfl rfl (by kernel_rfl) (by rfl) (by intro w';go_simp;with_reducible rfl) (by simp only [Act.put,lA,lZ,lS,iw,jw];rfl) ?_
    refine done_ (done_of HT_.out (by kernel_rfl)) ?_
    try go_wp2
    go_ret
    exact ⟨by first|rfl|(simp [errW_none,errW_some] <;> rfl)|(simp [*,errW_none,errW_some] <;> rfl),by repeat (first|(with_reducible first|exact HB.out|apply oA|apply pN|apply o1|refine bS ?_ Be.out|refine bS ?_ Bh.out)|exact HB.out)⟩
   subst c10
   have H1:((impl_in.f ((rd_T40 l0_0 x8_1).f2) 0 1000000).bind fun t111=>(if t111=true then (if (rd_T40 l0_0 x8_1).f3=true then (if ((rd_T40 l0_0 x8_1).f2)<a0_1 then (some false) else (if x8_1 > 0 then (if 0≤(wrap64 (x8_1 - 1)) then (if (wrap64 (x8_1 - 1))<(l0_0.length:Int) then (if ((rd_T40 l0_0 (wrap64 (x8_1 - 1))).f0) ≥ ((rd_T40 l0_0 x8_1).f0) then (some false) else (impl_QueueOk.l0 k1 l0_0 (l0_0.length:Int) (wrap64 (x8_1 + 1)) l0_0 a0_1)) else (none)) else (none)) else (impl_QueueOk.l0 k1 l0_0 (l0_0.length:Int) (wrap64 (x8_1 + 1)) l0_0 a0_1))) else (if x8_1 > 0 then (if 0≤(wrap64 (x8_1 - 1)) then (if (wrap64 (x8_1 - 1))<(l0_0.length:Int) then (if ((rd_T40 l0_0 (wrap64 (x8_1 - 1))).f0) ≥ ((rd_T40 l0_0 x8_1).f0) then (some false) else (impl_QueueOk.l0 k1 l0_0 (l0_0.length:Int) (wrap64 (x8_1 + 1)) l0_0 a0_1)) else (none)) else (none)) else (impl_QueueOk.l0 k1 l0_0 (l0_0.length:Int) (wrap64 (x8_1 + 1)) l0_0 a0_1))) else (some false)))=some r:=by rw [if_pos rfl] at H;exact H
   clear H
   have H:=H1
   clear H1
   replace H:=oC H
   obtain ⟨t111,A110,H⟩:=H
   replace H:(if t111=true then (if (rd_T40 l0_0 x8_1).f3=true then (if ((rd_T40 l0_0 x8_1).f2)<a0_1 then (some false) else (if x8_1 > 0 then (if 0≤(wrap64 (x8_1 - 1)) then (if (wrap64 (x8_1 - 1))<(l0_0.length:Int) then (if ((rd_T40 l0_0 (wrap64 (x8_1 - 1))).f0) ≥ ((rd_T40 l0_0 x8_1).f0) then (some false) else (impl_QueueOk.l0 k1 l0_0 (l0_0.length:Int) (wrap64 (x8_1 + 1)) l0_0 a0_1)) else (none)) else (none)) else (impl_QueueOk.l0 k1 l0_0 (l0_0.length:Int) (wrap64 (x8_1 + 1)) l0_0 a0_1))) else (if x8_1 > 0 then (if 0≤(wrap64 (x8_1 - 1)) then (if (wrap64 (x8_1 - 1))<(l0_0.length:Int) then (if ((rd_T40 l0_0 (wrap64 (x8_1 - 1))).f0) ≥ ((rd_T40 l0_0 x8_1).f0) then (some false) else (impl_QueueOk.l0 k1 l0_0 (l0_0.length:Int) (wrap64 (x8_1 + 1)) l0_0 a0_1)) else (none)) else (none)) else (impl_QueueOk.l0 k1 l0_0 (l0_0.length:Int) (wrap64 (x8_1 + 1)) l0_0 a0_1))) else (some false))=some r:=H
   have A11:=Am A110
   clear A110
   by_cases c12:t111=true
   rotate_left
   ·replace c12:=Bool.eq_false_iff.mpr c12
    subst c12
    have H1:(some false)=some r:=by rw [if_neg (show ¬ (false=true) by decide)] at H;exact H
    clear H
    have H:=H1
    clear H1
    obtain rfl:=Option.some.inj H
    have p107:0≤(x8_1:Int):=of_decide_eq_true (by first|(with_reducible assumption)|assumption)
    have q107:x8_1<(l0_0.length:Int):=of_decide_eq_true (by first|(with_reducible assumption)|assumption)
    obtain ⟨ad107,e107,hx107_0,hx107_1,hx107_2,hx107_3⟩:=at_T40 HR0_0.out x8_1 p107 q107
    cases e107
    replace hx107_0:=(bW HB hx107_0:)
    replace hx107_1:=(bW HB hx107_1:)
    replace hx107_2:=(bW HB hx107_2:)
    replace hx107_3:=(bW HB hx107_3:)
    replace p107:=eq_true p107
    replace q107:=eq_true q107
    try go_wp2_with (first|((with_reducible refine gate_dst (N:=4) rfl ?_);refine box_event ?hg (N:=4) ?hd (cs:=#[.int .i64 0,.int .i64 0,.int .i64 0,.bool false]) (t:=40) ?hr ?_;(case hd=>rfl);(case hg=>rfl);(case hr=>first|(go_simp;done)|(go_simp;rfl));intro Bb hg w61 hbox hb;have n0_:=Am (bX Bc.out hb);have n1_:=Am (bP (by repeat (first|(with_reducible first|exact HB.out|apply oA|apply pN|apply o1|refine bS ?_ Be.out)|exact HB.out)) hb);have n2_:=Am (hbox);have n3_:=Am ((by rw [hg];exact (bZ (by repeat (first|(with_reducible first|exact HB.out|apply oA|apply pN|apply o1|refine bS ?_ Be.out)|exact HB.out))):w.heap.size≤Bb));have n4_:=Am ((by rw [hg];exact (bZ (by repeat (first|(with_reducible first|exact HB.out|apply oA|apply pN|apply o1|refine bS ?_ Be.out)|exact HB.out))):w.heap.size≤Bb));have n5_:=Am ((nL Bc.out hg));have n6_:=Am ((nG Bc.out hg));clear Bc HB;revert n0_ n1_ n2_ n3_ n4_ n5_ n6_;intro Bc HB Ba Bi Bh Bf Bg;clear hb hbox hg;have D3:=Bg.out;have D4:=Bf.out;have Di:=cz0 Ba.out;have Dj:=cz1 Ba.out;have Dk:=cz2 Ba.out;have Dl:=cz3 Ba.out;have Dm:=bF Ba.out 0;have Dn:=bF Ba.out 1;have Do:=bF Ba.out 2;have Dp:=bF Ba.out 3))
    have n0_:Aside0 (((((w61.setCell ⟨Bb,0,none⟩ (.int .i64 ((rd_T40 l0_0 x8_1).f0))).setCell ⟨Bb,1,none⟩ (.int .i64 ((rd_T40 l0_0 x8_1).f1))).setCell ⟨Bb,2,none⟩ (.int .i64 ((rd_T40 l0_0 x8_1).f2))).setCell ⟨Bb,3,none⟩ (.bool ((rd_T40 l0_0 x8_1).f3))).heap[Bd]?=some (.cells #[.slice (some ad107) l0_0.length c0_0,.int .i64 a0_1] 25 (0,0))):=⟨by (with_reducible repeat (first|refine bN ?_ _|refine bD ?_|refine bA ?_ _|refine blk_far ?_ Bf.out _));exact Bc.out⟩
    have n1_:Aside0 (((((w61.setCell ⟨Bb,0,none⟩ (.int .i64 ((rd_T40 l0_0 x8_1).f0))).setCell ⟨Bb,1,none⟩ (.int .i64 ((rd_T40 l0_0 x8_1).f1))).setCell ⟨Bb,2,none⟩ (.int .i64 ((rd_T40 l0_0 x8_1).f2))).setCell ⟨Bb,3,none⟩ (.bool ((rd_T40 l0_0 x8_1).f3))).heap[Bb]?=some (.cells #[.int .i64 ((rd_T40 l0_0 x8_1).f0),.int .i64 ((rd_T40 l0_0 x8_1).f1),.int .i64 ((rd_T40 l0_0 x8_1).f2),.bool ((rd_T40 l0_0 x8_1).f3)] 40 (0,0))):=⟨by (with_reducible repeat (first|refine bN ?_ _|refine bD ?_|refine bA ?_ _));refine blk_put (cs:=#[.int .i64 ((rd_T40 l0_0 x8_1).f0),.int .i64 ((rd_T40 l0_0 x8_1).f1),.int .i64 ((rd_T40 l0_0 x8_1).f2),.bool false]) ?_ 3 _ rfl;(with_reducible repeat (first|refine bN ?_ _|refine bD ?_|refine bA ?_ _));refine blk_put (cs:=#[.int .i64 ((rd_T40 l0_0 x8_1).f0),.int .i64 ((rd_T40 l0_0 x8_1).f1),.int .i64 0,.bool false]) ?_ 2 _ rfl;(with_reducible repeat (first|refine bN ?_ _|refine bD ?_|refine bA ?_ _));refine blk_put (cs:=#[.int .i64 ((rd_T40 l0_0 x8_1).f0),.int .i64 0,.int .i64 0,.bool false]) ?_ 1 _ rfl;(with_reducible repeat (first|refine bN ?_ _|refine bD ?_|refine bA ?_ _));refine blk_put (cs:=#[.int .i64 0,.int .i64 0,.int .i64 0,.bool false]) ?_ 0 _ rfl;(with_reducible repeat (first|refine bN ?_ _|refine bD ?_|refine bA ?_ _));exact Ba.out⟩
    have n2_:Aside0 (Below w.heap.size w ((((w61.setCell ⟨Bb,0,none⟩ (.int .i64 ((rd_T40 l0_0 x8_1).f0))).setCell ⟨Bb,1,none⟩ (.int .i64 ((rd_T40 l0_0 x8_1).f1))).setCell ⟨Bb,2,none⟩ (.int .i64 ((rd_T40 l0_0 x8_1).f2))).setCell ⟨Bb,3,none⟩ (.bool ((rd_T40 l0_0 x8_1).f3)))):=⟨by repeat (first|(with_reducible first|exact HB.out|apply oA|apply pN|apply o1|refine bS ?_ Be.out|refine bS ?_ Bh.out)|exact HB.out)⟩
    (try clear Bc)
    (try clear Ba)
    (try clear HB)
    generalize ((((w61.setCell ⟨Bb,0,none⟩ (.int .i64 ((rd_T40 l0_0 x8_1).f0))).setCell ⟨Bb,1,none⟩ (.int .i64 ((rd_T40 l0_0 x8_1).f1))).setCell ⟨Bb,2,none⟩ (.int .i64 ((rd_T40 l0_0 x8_1).f2))).setCell ⟨Bb,3,none⟩ (.bool ((rd_T40 l0_0 x8_1).f3)))=w64 at n0_ n1_ n2_ ⊢
    have Bc:=n0_
    have Ba:=n1_
    have HB:=n2_
    clear n0_ n1_ n2_
    have n0_:=Am (bD Bc.out)
    have n1_:=Am (bD Ba.out)
    have n2_:=Am (o1 HB.out)
    clear Bc
    clear Ba
    clear HB
    have Bc:=n0_
    have Ba:=n1_
    have HB:=n2_
    clear n0_ n1_ n2_
    refine start_ (n:=43) (S:=fun w'=>w'.cell? ⟨Bb,0,none⟩=some (.int .i64 ((rd_T40 l0_0 x8_1).f0))∧w'.cell? ⟨Bb,1,none⟩=some (.int .i64 ((rd_T40 l0_0 x8_1).f1))∧w'.cell? ⟨Bb,2,none⟩=some (.int .i64 ((rd_T40 l0_0 x8_1).f2))∧w'.cell? ⟨Bb,3,none⟩=some (.bool ((rd_T40 l0_0 x8_1).f3))) (ds:=[]) z16q0 (by kernel_rfl) rfl rfl ⟨(bC Ba.out 0).trans rfl,(bC Ba.out 1).trans rfl,(bC Ba.out 2).trans rfl,(bC Ba.out 3).trans rfl⟩ (fun hHeld=>?_);refine with_st impl_QueueOk.tab4 impl_QueueOk.bits4 (fun _ _ _ _ _ h=>h) (fun HT_=>?_)
    generalize w64.drew=w65 at Bc Ba HB hHeld ⊢
    refine pS 0 13 z16q1 HT_ rfl rfl (by kernel_rfl) (by rfl) (by intro w';go_simp;with_reducible rfl) (by simp only [Act.put,lA,lZ,lS,iw,jw];rfl) ?_
    refine tS 1 14 z16q2 HT_ hHeld rfl rfl (by kernel_rfl) (by rfl) (by rintro w' ⟨s0,s1,s2,s3⟩;go_simp;with_reducible rfl) (by simp only [Act.put,lA,lZ,lS,iw,jw];rfl) ?_
    refine oS 2 15 z16q3 HT_ rfl rfl (by kernel_rfl) (by decide) (fun K hK=>?_)
    refine goes_ Try.func41 (by kernel_rfl) rfl #[.int .i64 ((rd_T40 l0_0 x8_1).f0),.int .i64 0,.int .i64 99] (by rfl) rfl rfl (by (try simp only [lM,lC,lN]);first|done|rfl|(simp only [lD,lT];rfl)) ?_
    with_reducible refine (impl_in.calls ((rd_T40 l0_0 x8_1).f0) 0 99 true _ A7.out).mono ?_
    rintro e w' ⟨rfl,⟨nd,rfl⟩⟩
    refine ⟨_,rfl,?_⟩
    refine hK.out _ _ ⟨(bC Ba.out 0).trans rfl,(bC Ba.out 1).trans rfl,(bC Ba.out 2).trans rfl,(bC Ba.out 3).trans rfl⟩ (fun hHeld=>?_)
    clear hK K
    refine norm_ (by show Act.put _ (some 15) _=_;simp only [Act.put,lA,lZ,lS,iw,jw];rfl) ?_
    refine pS 3 16 z16q4 HT_ rfl rfl (by kernel_rfl) (by rfl) (by intro w';go_simp;with_reducible rfl) (by simp only [Act.put,lA,lZ,lS,iw,jw];rfl) ?_
    refine pS 4 17 z16q5 HT_ rfl rfl (by kernel_rfl) (by rfl) (by intro w';go_simp;with_reducible rfl) (by simp only [Act.put,lA,lZ,lS,iw,jw];rfl) ?_
    refine pS 5 18 z16q6 HT_ rfl rfl (by kernel_rfl) (by rfl) (by intro w';go_simp;with_reducible rfl) (by simp only [Act.put,lA,lZ,lS,iw,jw];rfl) ?_
    refine tS 6 19 z16q7 HT_ hHeld rfl rfl (by kernel_rfl) (by rfl) (by rintro w' ⟨s0,s1,s2,s3⟩;go_simp;with_reducible rfl) (by simp only [Act.put,lA,lZ,lS,iw,jw];rfl) ?_
    refine oS 7 20 z16q8 HT_ rfl rfl (by kernel_rfl) (by decide) (fun K hK=>?_)
    refine goes_ Try.func41 (by kernel_rfl) rfl #[.int .i64 ((rd_T40 l0_0 x8_1).f1),.int .i64 1,.int .i64 6] (by rfl) rfl rfl (by (try simp only [lM,lC,lN]);first|done|rfl|(simp only [lD,lT];rfl)) ?_
    with_reducible refine (impl_in.calls ((rd_T40 l0_0 x8_1).f1) 1 6 true _ A9.out).mono ?_
    rintro e w' ⟨rfl,⟨nd,rfl⟩⟩
    refine ⟨_,rfl,?_⟩
    refine hK.out _ _ ⟨(bC Ba.out 0).trans rfl,(bC Ba.out 1).trans rfl,(bC Ba.out 2).trans rfl,(bC Ba.out 3).trans rfl⟩ (fun hHeld=>?_)
    clear hK K
    refine norm_ (by show Act.put _ (some 20) _=_;simp only [Act.put,lA,lZ,lS,iw,jw];rfl) ?_
    refine pS 8 21 z16q9 HT_ rfl rfl (by kernel_rfl) (by rfl) (by intro w';go_simp;with_reducible rfl) (by simp only [Act.put,lA,lZ,lS,iw,jw];rfl) ?_
    refine pS 9 22 z16q10 HT_ rfl rfl (by kernel_rfl) (by rfl) (by intro w';go_simp;with_reducible rfl) (by simp only [Act.put,lA,lZ,lS,iw,jw];rfl) ?_
    refine pS 10 23 z16q11 HT_ rfl rfl (by kernel_rfl) (by rfl) (by intro w';go_simp;with_reducible rfl) (by simp only [Act.put,lA,lZ,lS,iw,jw];rfl) ?_
    refine pS 11 24 z16q12 HT_ rfl rfl (by kernel_rfl) (by rfl) (by intro w';go_simp;with_reducible rfl) (by simp only [Act.put,lA,lZ,lS,iw,jw];rfl) ?_
    refine tS 12 25 z16q13 HT_ hHeld rfl rfl (by kernel_rfl) (by rfl) (by rintro w' ⟨s0,s1,s2,s3⟩;go_simp;with_reducible rfl) (by simp only [Act.put,lA,lZ,lS,iw,jw];rfl) ?_
    refine oS 13 26 z16q14 HT_ rfl rfl (by kernel_rfl) (by decide) (fun K hK=>?_)
    refine goes_ Try.func41 (by kernel_rfl) rfl #[.int .i64 ((rd_T40 l0_0 x8_1).f2),.int .i64 0,.int .i64 1000000] (by rfl) rfl rfl (by (try simp only [lM,lC,lN]);first|done|rfl|(simp only [lD,lT];rfl)) ?_
    with_reducible refine (impl_in.calls ((rd_T40 l0_0 x8_1).f2) 0 1000000 false _ A11.out).mono ?_
    rintro e w' ⟨rfl,⟨nd,rfl⟩⟩
    refine ⟨_,rfl,?_⟩
    refine hK.out _ _ ⟨(bC Ba.out 0).trans rfl,(bC Ba.out 1).trans rfl,(bC Ba.out 2).trans rfl,(bC Ba.out 3).trans rfl⟩ (fun hHeld=>?_)
    clear hK K
    refine norm_ (by show Act.put _ (some 26) _=_;simp only [Act.put,lA,lZ,lS,iw,jw];rfl) ?_
    refine pS 14 27 z16q15 HT_ rfl rfl (by kernel_rfl) (by rfl) (by intro w';go_simp;with_reducible rfl) (by simp only [Act.put,lA,lZ,lS,iw,jw];rfl) ?_
    refine pS 15 28 z16q16 HT_ rfl rfl (by kernel_rfl) (by rfl) (by intro w';go_simp;with_reducible rfl) (by simp only [Act.put,lA,lZ,lS,iw,jw];rfl) ?_
    refine pS 16 29 z16q17 HT_ rfl rfl (by kernel_rfl) (by rfl) (by intro w';go_simp;with_reducible rfl) (by simp only [Act.put,lA,lZ,lS,iw,jw];rfl) ?_
    refine vS 17 30 z16q18 HT_ rfl rfl (by kernel_rfl) (by rfl) (by simp only [Act.put,lA,lZ,lS,iw,jw];rfl) ?_
    refine vS 18 31 z16q19 HT_ rfl rfl (by kernel_rfl) (by rfl) (by simp only [Act.put,lA,lZ,lS,iw,jw];rfl) ?_
    refine vS 19 32 z16q20 HT_ rfl rfl (by kernel_rfl) (by rfl) (by simp only [Act.put,lA,lZ,lS,iw,jw];rfl) ?_
    refine vS 20 33 z16q21 HT_ rfl rfl (by kernel_rfl) (by rfl) (by simp only [Act.put,lA,lZ,lS,iw,jw];rfl) ?_
    refine vS 21 34 z16q50 HT_ rfl rfl (by kernel_rfl) (by rfl) (by simp only [Act.put,lA,lZ,lS,iw,jw];rfl) ?_
    refine vS 22 35 z16q23 HT_ rfl rfl (by kernel_rfl) (by rfl) (by simp only [Act.put,lA,lZ,lS,iw,jw];rfl) ?_
    refine vS 23 36 z16q24 HT_ rfl rfl (by kernel_rfl) (by rfl) (by simp only [Act.put,lA,lZ,lS,iw,jw];rfl) ?_
    refine vS 24 37 z16q25 HT_ rfl rfl (by kernel_rfl) (by rfl) (by simp only [Act.put,lA,lZ,lS,iw,jw];rfl) ?_
    refine vS 25 38 z16q26 HT_ rfl rfl (by kernel_rfl) (by rfl) (by simp only [Act.put,lA,lZ,lS,iw,jw];rfl) ?_
    refine pS 26 39 z16q27 HT_ rfl rfl (by kernel_rfl) (by rfl) (by intro w';go_simp;with_reducible rfl) (by simp only [Act.put,lA,lZ,lS,iw,jw];rfl) ?_
    refine pS 27 40 z16q28 HT_ rfl rfl (by kernel_rfl) (by rfl) (by intro w';go_simp;with_reducible rfl) (by simp only [Act.put,lA,lZ,lS,iw,jw];rfl) ?_
    refine vS 28 41 z16q29 HT_ rfl rfl (by kernel_rfl) (by rfl) (by simp only [Act.put,lA,lZ,lS,iw,jw];rfl) ?_
    refine vS 29 42 z16q30 HT_ rfl rfl (by kernel_rfl) (by rfl) (by simp only [Act.put,lA,lZ,lS,iw,jw];rfl) ?_
    refine vS 30 43 z16q31 HT_ rfl rfl (by kernel_rfl) (by rfl) (by simp only [Act.put,lA,lZ,lS,iw,jw];rfl) ?_
    refine vS 31 44 z16q32 HT_ rfl rfl (by kernel_rfl) (by rfl) (by simp only [Act.put,lA,lZ,lS,iw,jw];rfl) ?_
    refine vS 32 45 z16q33 HT_ rfl rfl (by kernel_rfl) (by rfl) (by simp only [Act.put,lA,lZ,lS,iw,jw];rfl) ?_
    refine vS 33 46 z16q34 HT_ rfl rfl (by kernel_rfl) (by rfl) (by simp only [Act.put,lA,lZ,lS,iw,jw];rfl) ?_
    refine vS 34 47 z16q35 HT_ rfl rfl (by kernel_rfl) (by rfl) (by simp only [Act.put,lA,lZ,lS,iw,jw];rfl) ?_
    refine vS 35 48 z16q36 HT_ rfl rfl (by kernel_rfl) (by rfl) (by simp only [Act.put,lA,lZ,lS,iw,jw];rfl) ?_
    refine vS 36 49 z16q37 HT_ rfl rfl (by kernel_rfl) (by rfl) (by simp only [Act.put,lA,lZ,lS,iw,jw];rfl) ?_
    refine vS 37 50 z16q38 HT_ rfl rfl (by kernel_rfl) (by rfl) (by simp only [Act.put,lA,lZ,lS,iw,jw];rfl) ?_
    refine vS 38 51 z16q39 HT_ rfl rfl (by kernel_rfl) (by rfl) (by simp only [Act.put,lA,lZ,lS,iw,jw];rfl) ?_
    refine vS 39 52 z16q40 HT_ rfl rfl (by kernel_rfl) (by rfl) (by simp only [Act.put,lA,lZ,lS,iw,jw];rfl) ?_
    refine vS 40 53 z16q41 HT_ rfl rfl (by kernel_rfl) (by rfl) (by simp only [Act.put,lA,lZ,lS,iw,jw];rfl) ?_
    refine vS 41 54 z16q42 HT_ rfl rfl (by kernel_rfl) (by rfl) (by simp only [Act.put,lA,lZ,lS,iw,jw];rfl) ?_
    refine pS 42 55 z16q43 HT_ rfl rfl (by kernel_rfl) (by rfl) (by intro w';go_simp;with_reducible rfl) (by simp only [Act.put,lA,lZ,lS,iw,jw];rfl) ?_
    refine done_ (done_of HT_.out (by kernel_rfl)) ?_
    try go_wp2
    go_ret
    exact ⟨by first|rfl|(simp [errW_none,errW_some] <;> rfl)|(simp [*,errW_none,errW_some] <;> rfl),by repeat (first|(with_reducible first|exact HB.out|apply oA|apply pN|apply o1|refine bS ?_ Be.out|refine bS ?_ Bh.out)|exact HB.out)⟩
   subst c12
   have H1:(if (rd_T40 l0_0 x8_1).f3=true then (if ((rd_T40 l0_0 x8_1).f2)<a0_1 then (some false) else (if x8_1 > 0 then (if 0≤(wrap64 (x8_1 - 1)) then (if (wrap64 (x8_1 - 1))<(l0_0.length:Int) then (if ((rd_T40 l0_0 (wrap64 (x8_1 - 1))).f0) ≥ ((rd_T40 l0_0 x8_1).f0) then (some false) else (impl_QueueOk.l0 k1 l0_0 (l0_0.length:Int) (wrap64 (x8_1 + 1)) l0_0 a0_1)) else (none)) else (none)) else (impl_QueueOk.l0 k1 l0_0 (l0_0.length:Int) (wrap64 (x8_1 + 1)) l0_0 a0_1))) else (if x8_1 > 0 then (if 0≤(wrap64 (x8_1 - 1)) then (if (wrap64 (x8_1 - 1))<(l0_0.length:Int) then (if ((rd_T40 l0_0 (wrap64 (x8_1 - 1))).f0) ≥ ((rd_T40 l0_0 x8_1).f0) then (some false) else (impl_QueueOk.l0 k1 l0_0 (l0_0.length:Int) (wrap64 (x8_1 + 1)) l0_0 a0_1)) else (none)) else (none)) else (impl_QueueOk.l0 k1 l0_0 (l0_0.length:Int) (wrap64 (x8_1 + 1)) l0_0 a0_1)))=some r:=by rw [if_pos rfl] at H;exact H
   clear H
   have H:=H1
   clear H1
   obtain ⟨bq13,hbq13⟩:∃ b_:Bool,b_=((rd_T40 l0_0 x8_1).f3):=⟨_,rfl⟩
   replace H:(if bq13=true then (if ((rd_T40 l0_0 x8_1).f2)<a0_1 then (some false) else (if x8_1 > 0 then (if 0≤(wrap64 (x8_1 - 1)) then (if (wrap64 (x8_1 - 1))<(l0_0.length:Int) then (if ((rd_T40 l0_0 (wrap64 (x8_1 - 1))).f0) ≥ ((rd_T40 l0_0 x8_1).f0) then (some false) else (impl_QueueOk.l0 k1 l0_0 (l0_0.length:Int) (wrap64 (x8_1 + 1)) l0_0 a0_1)) else (none)) else (none)) else (impl_QueueOk.l0 k1 l0_0 (l0_0.length:Int) (wrap64 (x8_1 + 1)) l0_0 a0_1))) else (if x8_1 > 0 then (if 0≤(wrap64 (x8_1 - 1)) then (if (wrap64 (x8_1 - 1))<(l0_0.length:Int) then (if ((rd_T40 l0_0 (wrap64 (x8_1 - 1))).f0) ≥ ((rd_T40 l0_0 x8_1).f0) then (some false) else (impl_QueueOk.l0 k1 l0_0 (l0_0.length:Int) (wrap64 (x8_1 + 1)) l0_0 a0_1)) else (none)) else (none)) else (impl_QueueOk.l0 k1 l0_0 (l0_0.length:Int) (wrap64 (x8_1 + 1)) l0_0 a0_1)))=some r:=by rw [← hbq13] at H;exact H
   have Nbq13:=Am hbq13
   clear hbq13
   by_cases c14:bq13=true
   rotate_left
   ·replace c14:=Bool.eq_false_iff.mpr c14
    subst c14
    have H1:(if x8_1 > 0 then (if 0≤(wrap64 (x8_1 - 1)) then (if (wrap64 (x8_1 - 1))<(l0_0.length:Int) then (if ((rd_T40 l0_0 (wrap64 (x8_1 - 1))).f0) ≥ ((rd_T40 l0_0 x8_1).f0) then (some false) else (impl_QueueOk.l0 k1 l0_0 (l0_0.length:Int) (wrap64 (x8_1 + 1)) l0_0 a0_1)) else (none)) else (none)) else (impl_QueueOk.l0 k1 l0_0 (l0_0.length:Int) (wrap64 (x8_1 + 1)) l0_0 a0_1))=some r:=by rw [if_neg (show ¬ (false=true) by decide)] at H;exact H
    clear H
    have H:=H1
    clear H1
    by_cases c41:x8_1 > 0
    rotate_left
    ·rw [if_neg c41] at H
     have c41b0:decide (0<x8_1)=false:=decide_eq_false c41
     clear c41
     have H':=Am H
     clear H
     have p107:0≤(x8_1:Int):=of_decide_eq_true (by first|(with_reducible assumption)|assumption)
     have q107:x8_1<(l0_0.length:Int):=of_decide_eq_true (by first|(with_reducible assumption)|assumption)
     obtain ⟨ad107,e107,hx107_0,hx107_1,hx107_2,hx107_3⟩:=at_T40 HR0_0.out x8_1 p107 q107
     (try rw [← Nbq13.out] at hx107_3)
     cases e107
     replace hx107_0:=(bW HB hx107_0:)
     replace hx107_1:=(bW HB hx107_1:)
     replace hx107_2:=(bW HB hx107_2:)
     replace hx107_3:=(bW HB hx107_3:)
     replace p107:=eq_true p107
     replace q107:=eq_true q107
     try go_wp2_with (first|((with_reducible refine gate_dst (N:=4) rfl ?_);refine box_event ?hg (N:=4) ?hd (cs:=#[.int .i64 0,.int .i64 0,.int .i64 0,.bool false]) (t:=40) ?hr ?_;(case hd=>rfl);(case hg=>rfl);(case hr=>first|(go_simp;done)|(go_simp;rfl));intro Bb hg w56 hbox hb;have n0_:=Am (bX Bc.out hb);have n1_:=Am (bP (by repeat (first|(with_reducible first|exact HB.out|apply oA|apply pN|apply o1|refine bS ?_ Be.out)|exact HB.out)) hb);have n2_:=Am (hbox);have n3_:=Am ((by rw [hg];exact (bZ (by repeat (first|(with_reducible first|exact HB.out|apply oA|apply pN|apply o1|refine bS ?_ Be.out)|exact HB.out))):w.heap.size≤Bb));have n4_:=Am ((by rw [hg];exact (bZ (by repeat (first|(with_reducible first|exact HB.out|apply oA|apply pN|apply o1|refine bS ?_ Be.out)|exact HB.out))):w.heap.size≤Bb));have n5_:=Am ((nL Bc.out hg));have n6_:=Am ((nG Bc.out hg));clear Bc HB;revert n0_ n1_ n2_ n3_ n4_ n5_ n6_;intro Bc HB Ba Bi Bh Bf Bg;clear hb hbox hg;have D1:=Bg.out;have D2:=Bf.out;have Da:=cz0 Ba.out;have Db:=cz1 Ba.out;have Dc:=cz2 Ba.out;have Dd:=cz3 Ba.out;have De:=bF Ba.out 0;have Df:=bF Ba.out 1;have Dg:=bF Ba.out 2;have Dh:=bF Ba.out 3))
     have n0_:Aside0 (((((w56.setCell ⟨Bb,0,none⟩ (.int .i64 ((rd_T40 l0_0 x8_1).f0))).setCell ⟨Bb,1,none⟩ (.int .i64 ((rd_T40 l0_0 x8_1).f1))).setCell ⟨Bb,2,none⟩ (.int .i64 ((rd_T40 l0_0 x8_1).f2))).setCell ⟨Bb,3,none⟩ (.bool false)).heap[Bd]?=some (.cells #[.slice (some ad107) l0_0.length c0_0,.int .i64 a0_1] 25 (0,0))):=⟨by (with_reducible repeat (first|refine bN ?_ _|refine bD ?_|refine bA ?_ _|refine blk_far ?_ Bf.out _));exact Bc.out⟩
     have n1_:Aside0 (((((w56.setCell ⟨Bb,0,none⟩ (.int .i64 ((rd_T40 l0_0 x8_1).f0))).setCell ⟨Bb,1,none⟩ (.int .i64 ((rd_T40 l0_0 x8_1).f1))).setCell ⟨Bb,2,none⟩ (.int .i64 ((rd_T40 l0_0 x8_1).f2))).setCell ⟨Bb,3,none⟩ (.bool false)).heap[Bb]?=some (.cells #[.int .i64 ((rd_T40 l0_0 x8_1).f0),.int .i64 ((rd_T40 l0_0 x8_1).f1),.int .i64 ((rd_T40 l0_0 x8_1).f2),.bool false] 40 (0,0))):=⟨by (with_reducible repeat (first|refine bN ?_ _|refine bD ?_|refine bA ?_ _));refine blk_put (cs:=#[.int .i64 ((rd_T40 l0_0 x8_1).f0),.int .i64 ((rd_T40 l0_0 x8_1).f1),.int .i64 ((rd_T40 l0_0 x8_1).f2),.bool false]) ?_ 3 _ rfl;(with_reducible repeat (first|refine bN ?_ _|refine bD ?_|refine bA ?_ _));refine blk_put (cs:=#[.int .i64 ((rd_T40 l0_0 x8_1).f0),.int .i64 ((rd_T40 l0_0 x8_1).f1),.int .i64 0,.bool false]) ?_ 2 _ rfl;(with_reducible repeat (first|refine bN ?_ _|refine bD ?_|refine bA ?_ _));refine blk_put (cs:=#[.int .i64 ((rd_T40 l0_0 x8_1).f0),.int .i64 0,.int .i64 0,.bool false]) ?_ 1 _ rfl;(with_reducible repeat (first|refine bN ?_ _|refine bD ?_|refine bA ?_ _));refine blk_put (cs:=#[.int .i64 0,.int .i64 0,.int .i64 0,.bool false]) ?_ 0 _ rfl;(with_reducible repeat (first|refine bN ?_ _|refine bD ?_|refine bA ?_ _));exact Ba.out⟩
     have n2_:Aside0 (Below w.heap.size w ((((w56.setCell ⟨Bb,0,none⟩ (.int .i64 ((rd_T40 l0_0 x8_1).f0))).setCell ⟨Bb,1,none⟩ (.int .i64 ((rd_T40 l0_0 x8_1).f1))).setCell ⟨Bb,2,none⟩ (.int .i64 ((rd_T40 l0_0 x8_1).f2))).setCell ⟨Bb,3,none⟩ (.bool false))):=⟨by repeat (first|(with_reducible first|exact HB.out|apply oA|apply pN|apply o1|refine bS ?_ Be.out|refine bS ?_ Bh.out)|exact HB.out)⟩
     (try clear Bc)
     (try clear Ba)
     (try clear HB)
     generalize ((((w56.setCell ⟨Bb,0,none⟩ (.int .i64 ((rd_T40 l0_0 x8_1).f0))).setCell ⟨Bb,1,none⟩ (.int .i64 ((rd_T40 l0_0 x8_1).f1))).setCell ⟨Bb,2,none⟩ (.int .i64 ((rd_T40 l0_0 x8_1).f2))).setCell ⟨Bb,3,none⟩ (.bool false))=w59 at n0_ n1_ n2_ ⊢
     have Bc:=n0_
     have Ba:=n1_
     have HB:=n2_
     clear n0_ n1_ n2_
     have n0_:=Am (bD Bc.out)
     have n1_:=Am (bD Ba.out)
     have n2_:=Am (o1 HB.out)
     clear Bc
     clear Ba
     clear HB
     have Bc:=n0_
     have Ba:=n1_
     have HB:=n2_
     clear n0_ n1_ n2_
     refine start_ (n:=43) (S:=fun w'=>w'.cell? ⟨Bb,0,none⟩=some (.int .i64 ((rd_T40 l0_0 x8_1).f0))∧w'.cell? ⟨Bb,1,none⟩=some (.int .i64 ((rd_T40 l0_0 x8_1).f1))∧w'.cell? ⟨Bb,2,none⟩=some (.int .i64 ((rd_T40 l0_0 x8_1).f2))∧w'.cell? ⟨Bb,3,none⟩=some (.bool false)) (ds:=[]) z16q0 (by kernel_rfl) rfl rfl ⟨(bC Ba.out 0).trans rfl,(bC Ba.out 1).trans rfl,(bC Ba.out 2).trans rfl,(bC Ba.out 3).trans rfl⟩ (fun hHeld=>?_);refine with_st impl_QueueOk.tab4 impl_QueueOk.bits4 (fun _ _ _ _ _ h=>h) (fun HT_=>?_)
     generalize w59.drew=w60 at Bc Ba HB hHeld ⊢
     refine pS 0 13 z16q1 HT_ rfl rfl (by kernel_rfl) (by rfl) (by intro w';go_simp;with_reducible rfl) (by simp only [Act.put,lA,lZ,lS,iw,jw];rfl) ?_
     refine tS 1 14 z16q2 HT_ hHeld rfl rfl (by kernel_rfl) (by rfl) (by rintro w' ⟨s0,s1,s2,s3⟩;go_simp;with_reducible rfl) (by simp only [Act.put,lA,lZ,lS,iw,jw];rfl) ?_
     refine oS 2 15 z16q3 HT_ rfl rfl (by kernel_rfl) (by decide) (fun K hK=>?_)
     refine goes_ Try.func41 (by kernel_rfl) rfl #[.int .i64 ((rd_T40 l0_0 x8_1).f0),.int .i64 0,.int .i64 99] (by rfl) rfl rfl (by (try simp only [lM,lC,lN]);first|done|rfl|(simp only [lD,lT];rfl)) ?_
     with_reducible refine (impl_in.calls ((rd_T40 l0_0 x8_1).f0) 0 99 true _ A7.out).mono ?_
     rintro e w' ⟨rfl,⟨nd,rfl⟩⟩
     refine ⟨_,rfl,?_⟩
     refine hK.out _ _ ⟨(bC Ba.out 0).trans rfl,(bC Ba.out 1).trans rfl,(bC Ba.out 2).trans rfl,(bC Ba.out 3).trans rfl⟩ (fun hHeld=>?_)
     clear hK K
     refine norm_ (by show Act.put _ (some 15) _=_;simp only [Act.put,lA,lZ,lS,iw,jw];rfl) ?_
     refine pS 3 16 z16q4 HT_ rfl rfl (by kernel_rfl) (by rfl) (by intro w';go_simp;with_reducible rfl) (by simp only [Act.put,lA,lZ,lS,iw,jw];rfl) ?_
     refine pS 4 17 z16q5 HT_ rfl rfl (by kernel_rfl) (by rfl) (by intro w';go_simp;with_reducible rfl) (by simp only [Act.put,lA,lZ,lS,iw,jw];rfl) ?_
     refine pS 5 18 z16q6 HT_ rfl rfl (by kernel_rfl) (by rfl) (by intro w';go_simp;with_reducible rfl) (by simp only [Act.put,lA,lZ,lS,iw,jw];rfl) ?_
     refine tS 6 19 z16q7 HT_ hHeld rfl rfl (by kernel_rfl) (by rfl) (by rintro w' ⟨s0,s1,s2,s3⟩;go_simp;with_reducible rfl) (by simp only [Act.put,lA,lZ,lS,iw,jw];rfl) ?_
     refine oS 7 20 z16q8 HT_ rfl rfl (by kernel_rfl) (by decide) (fun K hK=>?_)
     refine goes_ Try.func41 (by kernel_rfl) rfl #[.int .i64 ((rd_T40 l0_0 x8_1).f1),.int .i64 1,.int .i64 6] (by rfl) rfl rfl (by (try simp only [lM,lC,lN]);first|done|rfl|(simp only [lD,lT];rfl)) ?_
     with_reducible refine (impl_in.calls ((rd_T40 l0_0 x8_1).f1) 1 6 true _ A9.out).mono ?_
     rintro e w' ⟨rfl,⟨nd,rfl⟩⟩
     refine ⟨_,rfl,?_⟩
     refine hK.out _ _ ⟨(bC Ba.out 0).trans rfl,(bC Ba.out 1).trans rfl,(bC Ba.out 2).trans rfl,(bC Ba.out 3).trans rfl⟩ (fun hHeld=>?_)
     clear hK K
     refine norm_ (by show Act.put _ (some 20) _=_;simp only [Act.put,lA,lZ,lS,iw,jw];rfl) ?_
     refine pS 8 21 z16q9 HT_ rfl rfl (by kernel_rfl) (by rfl) (by intro w';go_simp;with_reducible rfl) (by simp only [Act.put,lA,lZ,lS,iw,jw];rfl) ?_
     refine pS 9 22 z16q10 HT_ rfl rfl (by kernel_rfl) (by rfl) (by intro w';go_simp;with_reducible rfl) (by simp only [Act.put,lA,lZ,lS,iw,jw];rfl) ?_
     refine pS 10 23 z16q11 HT_ rfl rfl (by kernel_rfl) (by rfl) (by intro w';go_simp;with_reducible rfl) (by simp only [Act.put,lA,lZ,lS,iw,jw];rfl) ?_
     refine pS 11 24 z16q12 HT_ rfl rfl (by kernel_rfl) (by rfl) (by intro w';go_simp;with_reducible rfl) (by simp only [Act.put,lA,lZ,lS,iw,jw];rfl) ?_
     refine tS 12 25 z16q13 HT_ hHeld rfl rfl (by kernel_rfl) (by rfl) (by rintro w' ⟨s0,s1,s2,s3⟩;go_simp;with_reducible rfl) (by simp only [Act.put,lA,lZ,lS,iw,jw];rfl) ?_
     refine oS 13 26 z16q14 HT_ rfl rfl (by kernel_rfl) (by decide) (fun K hK=>?_)
     refine goes_ Try.func41 (by kernel_rfl) rfl #[.int .i64 ((rd_T40 l0_0 x8_1).f2),.int .i64 0,.int .i64 1000000] (by rfl) rfl rfl (by (try simp only [lM,lC,lN]);first|done|rfl|(simp only [lD,lT];rfl)) ?_
     with_reducible refine (impl_in.calls ((rd_T40 l0_0 x8_1).f2) 0 1000000 true _ A11.out).mono ?_
     rintro e w' ⟨rfl,⟨nd,rfl⟩⟩
     refine ⟨_,rfl,?_⟩
     refine hK.out _ _ ⟨(bC Ba.out 0).trans rfl,(bC Ba.out 1).trans rfl,(bC Ba.out 2).trans rfl,(bC Ba.out 3).trans rfl⟩ (fun hHeld=>?_)
     clear hK K
     refine norm_ (by show Act.put _ (some 26) _=_;simp only [Act.put,lA,lZ,lS,iw,jw];rfl) ?_
     refine pS 14 27 z16q15 HT_ rfl rfl (by kernel_rfl) (by rfl) (by intro w';go_simp;with_reducible rfl) (by simp only [Act.put,lA,lZ,lS,iw,jw];rfl) ?_
     refine pS 15 28 z16q16 HT_ rfl rfl (by kernel_rfl) (by rfl) (by intro w';go_simp;with_reducible rfl) (by simp only [Act.put,lA,lZ,lS,iw,jw];rfl) ?_
     refine pS 16 29 z16q17 HT_ rfl rfl (by kernel_rfl) (by rfl) (by intro w';go_simp;with_reducible rfl) (by simp only [Act.put,lA,lZ,lS,iw,jw];rfl) ?_
     refine pS 17 30 z16q18 HT_ rfl rfl (by kernel_rfl) (by rfl) (by intro w';go_simp;with_reducible rfl) (by simp only [Act.put,lA,lZ,lS,iw,jw];rfl) ?_
     refine tS 18 31 z16q19 HT_ hHeld rfl rfl (by kernel_rfl) (by rfl) (by rintro w' ⟨s0,s1,s2,s3⟩;go_simp;with_reducible rfl) (by simp only [Act.put,lA,lZ,lS,iw,jw];rfl) ?_
     refine pS 19 32 z16q20 HT_ rfl rfl (by kernel_rfl) (by rfl) (by intro w';go_simp;with_reducible rfl) (by simp only [Act.put,lA,lZ,lS,iw,jw];rfl) ?_
     refine vS 20 33 z16q21 HT_ rfl rfl (by kernel_rfl) (by rfl) (by simp only [Act.put,lA,lZ,lS,iw,jw];rfl) ?_
     refine vS 21 34 z16q50 HT_ rfl rfl (by kernel_rfl) (by rfl) (by simp only [Act.put,lA,lZ,lS,iw,jw];rfl) ?_
     refine vS 22 35 z16q23 HT_ rfl rfl (by kernel_rfl) (by rfl) (by simp only [Act.put,lA,lZ,lS,iw,jw];rfl) ?_
     refine vS 23 36 z16q24 HT_ rfl rfl (by kernel_rfl) (by rfl) (by simp only [Act.put,lA,lZ,lS,iw,jw];rfl) ?_
     refine vS 24 37 z16q25 HT_ rfl rfl (by kernel_rfl) (by rfl) (by simp only [Act.put,lA,lZ,lS,iw,jw];rfl) ?_
     refine pS 25 38 z16q26 HT_ rfl rfl (by kernel_rfl) (by rfl) (by intro w';go_simp;with_reducible rfl) (by simp only [Act.put,lA,lZ,lS,iw,jw];rfl) ?_
     refine pS 26 39 z16q27 HT_ rfl rfl (by kernel_rfl) (by rfl) (by intro w';go_simp;with_reducible rfl) (by simp only [Act.put,lA,lZ,lS,iw,jw];rfl) ?_
     refine pS 27 40 z16q28 HT_ rfl rfl (by kernel_rfl) (by rfl) (by intro w';go_simp;with_reducible rfl) (by simp only [Act.put,lA,lZ,lS,iw,jw];rfl) ?_
     refine pS 28 41 z16q29 HT_ rfl rfl (by kernel_rfl) (by rfl) (by intro w';go_simp;with_reducible rfl) (by simp only [Act.put,lA,lZ,lS,iw,jw];rfl) ?_
     refine pS 29 42 z16q30 HT_ rfl rfl (by kernel_rfl) (by rfl) (by intro w';go_simp;with_reducible rfl) (by simp only [Act.put,lA,lZ,lS,iw,jw];rfl) ?_
     refine pS 30 43 z16q31 HT_ rfl rfl (by kernel_rfl) (by rfl) (by intro w';go_simp;with_reducible rfl) (by simp only [Act.put,lA,lZ,lS,iw,jw];rfl) ?_
     refine vS 31 44 z16q32 HT_ rfl rfl (by kernel_rfl) (by rfl) (by simp only [Act.put,lA,lZ,lS,iw,jw];rfl) ?_
     refine vS 32 45 z16q33 HT_ rfl rfl (by kernel_rfl) (by rfl) (by simp only [Act.put,lA,lZ,lS,iw,jw];rfl) ?_
     refine vS 33 46 z16q34 HT_ rfl rfl (by kernel_rfl) (by rfl) (by simp only [Act.put,lA,lZ,lS,iw,jw];rfl) ?_
     refine vS 34 47 z16q35 HT_ rfl rfl (by kernel_rfl) (by rfl) (by simp only [Act.put,lA,lZ,lS,iw,jw];rfl) ?_
     refine vS 35 48 z16q36 HT_ rfl rfl (by kernel_rfl) (by rfl) (by simp only [Act.put,lA,lZ,lS,iw,jw];rfl) ?_
     refine vS 36 49 z16q37 HT_ rfl rfl (by kernel_rfl) (by rfl) (by simp only [Act.put,lA,lZ,lS,iw,jw];rfl) ?_
     refine vS 37 50 z16q38 HT_ rfl rfl (by kernel_rfl) (by rfl) (by simp only [Act.put,lA,lZ,lS,iw,jw];rfl) ?_
     refine vS 38 51 z16q39 HT_ rfl rfl (by kernel_rfl) (by rfl) (by simp only [Act.put,lA,lZ,lS,iw,jw];rfl) ?_
     refine vS 39 52 z16q40 HT_ rfl rfl (by kernel_rfl) (by rfl) (by simp only [Act.put,lA,lZ,lS,iw,jw];rfl) ?_
     refine vS 40 53 z16q41 HT_ rfl rfl (by kernel_rfl) (by rfl) (by simp only [Act.put,lA,lZ,lS,iw,jw];rfl) ?_
     refine pS 41 54 z16q42 HT_ rfl rfl (by kernel_rfl) (by rfl) (by intro w';go_simp;with_reducible rfl) (by simp only [Act.put,lA,lZ,lS,iw,jw];rfl) ?_
     refine pS 42 55 z16q43 HT_ rfl rfl (by kernel_rfl) (by rfl) (by intro w';go_simp;with_reducible rfl) (by simp only [Act.put,lA,lZ,lS,iw,jw];rfl) ?_
     refine done_ (done_of HT_.out (by kernel_rfl)) ?_
     try go_wp2
     go_roundg k1
     case measure=>have:=HK1.out;omega
     case rel=>exact ⟨(wrap64 (x8_1 + 1)),(by first|rfl|(simp;done)|(simp [*];done)),H',⟨by have:=HK1.out;omega⟩,⟨by (with_reducible repeat (first|refine bN ?_ _|refine bD ?_|refine bA ?_ _));exact Bc.out⟩,⟨by repeat (first|(with_reducible first|exact HB.out|apply oA|apply pN|apply o1|refine bS ?_ Be.out|refine bS ?_ Bh.out)|exact HB.out)⟩⟩
    rw [if_pos c41] at H
    have c41b0:decide (0<x8_1)=true:=decide_eq_true c41
    clear c41
    obtain ⟨ji42,hji42⟩:∃ j_:Int,(wrap64 (x8_1 - 1))=j_:=⟨_,rfl⟩
    replace H:(if 0≤(ji42) then (if (ji42)<(l0_0.length:Int) then (if ((rd_T40 l0_0 (ji42)).f0) ≥ ((rd_T40 l0_0 x8_1).f0) then (some false) else (impl_QueueOk.l0 k1 l0_0 (l0_0.length:Int) (wrap64 (x8_1 + 1)) l0_0 a0_1)) else (none)) else (none))=some r:=by first|(rw [hji42] at H;exact H)|(simp only [hji42] at H ⊢;exact H)
    (try rw [hji42] at A7)
    (try rw [hji42] at A9)
    (try rw [hji42] at A11)
    have hji42w:(IntKind.i64.wrap (x8_1 - 1))=ji42:=(i64_w _).trans hji42
    by_cases c43:0≤(ji42)
    rotate_left
    ·rw [if_neg c43] at H
     exact absurd H (by simp)
    rw [if_pos c43] at H
    have c43b0:decide (0≤(ji42))=true:=decide_eq_true c43
    clear c43
    by_cases c44:(ji42)<(l0_0.length:Int)
    rotate_left
    ·rw [if_neg c44] at H
     exact absurd H (by simp)
    rw [if_pos c44] at H
    have c44b0:decide ((ji42)<(l0_0.length:Int))=true:=decide_eq_true c44
    clear c44
    by_cases c45:((rd_T40 l0_0 (ji42)).f0) ≥ ((rd_T40 l0_0 x8_1).f0)
    ·rw [if_pos c45] at H
     have c45b0:decide (((rd_T40 l0_0 x8_1).f0)≤((rd_T40 l0_0 (ji42)).f0))=true:=decide_eq_true c45
     clear c45
     obtain rfl:=Option.some.inj H
     have p107:0≤(x8_1:Int):=of_decide_eq_true (by first|(with_reducible assumption)|assumption)
     have q107:x8_1<(l0_0.length:Int):=of_decide_eq_true (by first|(with_reducible assumption)|assumption)
     obtain ⟨ad107,e107,hx107_0,hx107_1,hx107_2,hx107_3⟩:=at_T40 HR0_0.out x8_1 p107 q107
     (try rw [← Nbq13.out] at hx107_3)
     cases e107
     replace hx107_0:=(bW HB hx107_0:)
     replace hx107_1:=(bW HB hx107_1:)
     replace hx107_2:=(bW HB hx107_2:)
     replace hx107_3:=(bW HB hx107_3:)
     replace p107:=eq_true p107
     replace q107:=eq_true q107
     try go_wp2_with (first|((with_reducible refine gate_dst (N:=4) rfl ?_);refine box_event ?hg (N:=4) ?hd (cs:=#[.int .i64 0,.int .i64 0,.int .i64 0,.bool false]) (t:=40) ?hr ?_;(case hd=>rfl);(case hg=>rfl);(case hr=>first|(go_simp;done)|(go_simp;rfl));intro Bb hg w46 hbox hb;have n0_:=Am (bX Bc.out hb);have n1_:=Am (bP (by repeat (first|(with_reducible first|exact HB.out|apply oA|apply pN|apply o1|refine bS ?_ Be.out)|exact HB.out)) hb);have n2_:=Am (hbox);have n3_:=Am ((by rw [hg];exact (bZ (by repeat (first|(with_reducible first|exact HB.out|apply oA|apply pN|apply o1|refine bS ?_ Be.out)|exact HB.out))):w.heap.size≤Bb));have n4_:=Am ((by rw [hg];exact (bZ (by repeat (first|(with_reducible first|exact HB.out|apply oA|apply pN|apply o1|refine bS ?_ Be.out)|exact HB.out))):w.heap.size≤Bb));have n5_:=Am ((nL Bc.out hg));have n6_:=Am ((nG Bc.out hg));clear Bc HB;revert n0_ n1_ n2_ n3_ n4_ n5_ n6_;intro Bc HB Ba Bi Bh Bf Bg;clear hb hbox hg;have DX:=Bg.out;have DY:=Bf.out;have BT:=cz0 Ba.out;have BU:=cz1 Ba.out;have BV:=cz2 Ba.out;have BW:=cz3 Ba.out;have BX:=bF Ba.out 0;have BY:=bF Ba.out 1;have BZ:=bF Ba.out 2;have B0:=bF Ba.out 3))
     have n0_:Aside0 (((((w46.setCell ⟨Bb,0,none⟩ (.int .i64 ((rd_T40 l0_0 x8_1).f0))).setCell ⟨Bb,1,none⟩ (.int .i64 ((rd_T40 l0_0 x8_1).f1))).setCell ⟨Bb,2,none⟩ (.int .i64 ((rd_T40 l0_0 x8_1).f2))).setCell ⟨Bb,3,none⟩ (.bool false)).heap[Bd]?=some (.cells #[.slice (some ad107) l0_0.length c0_0,.int .i64 a0_1] 25 (0,0))):=⟨by (with_reducible repeat (first|refine bN ?_ _|refine bD ?_|refine bA ?_ _|refine blk_far ?_ Bf.out _));exact Bc.out⟩
     have n1_:Aside0 (((((w46.setCell ⟨Bb,0,none⟩ (.int .i64 ((rd_T40 l0_0 x8_1).f0))).setCell ⟨Bb,1,none⟩ (.int .i64 ((rd_T40 l0_0 x8_1).f1))).setCell ⟨Bb,2,none⟩ (.int .i64 ((rd_T40 l0_0 x8_1).f2))).setCell ⟨Bb,3,none⟩ (.bool false)).heap[Bb]?=some (.cells #[.int .i64 ((rd_T40 l0_0 x8_1).f0),.int .i64 ((rd_T40 l0_0 x8_1).f1),.int .i64 ((rd_T40 l0_0 x8_1).f2),.bool false] 40 (0,0))):=⟨by (with_reducible repeat (first|refine bN ?_ _|refine bD ?_|refine bA ?_ _));refine blk_put (cs:=#[.int .i64 ((rd_T40 l0_0 x8_1).f0),.int .i64 ((rd_T40 l0_0 x8_1).f1),.int .i64 ((rd_T40 l0_0 x8_1).f2),.bool false]) ?_ 3 _ rfl;(with_reducible repeat (first|refine bN ?_ _|refine bD ?_|refine bA ?_ _));refine blk_put (cs:=#[.int .i64 ((rd_T40 l0_0 x8_1).f0),.int .i64 ((rd_T40 l0_0 x8_1).f1),.int .i64 0,.bool false]) ?_ 2 _ rfl;(with_reducible repeat (first|refine bN ?_ _|refine bD ?_|refine bA ?_ _));refine blk_put (cs:=#[.int .i64 ((rd_T40 l0_0 x8_1).f0),.int .i64 0,.int .i64 0,.bool false]) ?_ 1 _ rfl;(with_reducible repeat (first|refine bN ?_ _|refine bD ?_|refine bA ?_ _));refine blk_put (cs:=#[.int .i64 0,.int .i64 0,.int .i64 0,.bool false]) ?_ 0 _ rfl;(with_reducible repeat (first|refine bN ?_ _|refine bD ?_|refine bA ?_ _));exact Ba.out⟩
     have n2_:Aside0 (Below w.heap.size w ((((w46.setCell ⟨Bb,0,none⟩ (.int .i64 ((rd_T40 l0_0 x8_1).f0))).setCell ⟨Bb,1,none⟩ (.int .i64 ((rd_T40 l0_0 x8_1).f1))).setCell ⟨Bb,2,none⟩ (.int .i64 ((rd_T40 l0_0 x8_1).f2))).setCell ⟨Bb,3,none⟩ (.bool false))):=⟨by repeat (first|(with_reducible first|exact HB.out|apply oA|apply pN|apply o1|refine bS ?_ Be.out|refine bS ?_ Bh.out)|exact HB.out)⟩
     (try clear Bc)
     (try clear Ba)
     (try clear HB)
     generalize ((((w46.setCell ⟨Bb,0,none⟩ (.int .i64 ((rd_T40 l0_0 x8_1).f0))).setCell ⟨Bb,1,none⟩ (.int .i64 ((rd_T40 l0_0 x8_1).f1))).setCell ⟨Bb,2,none⟩ (.int .i64 ((rd_T40 l0_0 x8_1).f2))).setCell ⟨Bb,3,none⟩ (.bool false))=w49 at n0_ n1_ n2_ ⊢
     have Bc:=n0_
     have Ba:=n1_
     have HB:=n2_
     clear n0_ n1_ n2_
     have n0_:=Am (bD Bc.out)
     have n1_:=Am (bD Ba.out)
     have n2_:=Am (o1 HB.out)
     clear Bc
     clear Ba
     clear HB
     have Bc:=n0_
     have Ba:=n1_
     have HB:=n2_
     clear n0_ n1_ n2_
     have p113:0≤((ji42):Int):=of_decide_eq_true (by first|(with_reducible assumption)|assumption)
     have q113:(ji42)<(l0_0.length:Int):=of_decide_eq_true (by first|(with_reducible assumption)|assumption)
     obtain ⟨ad113,e113,hx113_0,hx113_1,hx113_2,hx113_3⟩:=at_T40 HR0_0.out (ji42) p113 q113
     have hw113_3:=hx113_3
     have hw113_2:=hx113_2
     have hw113_1:=hx113_1
     have hw113_0:=hx113_0
     (try rw [← Nbq13.out] at hx113_3)
     obtain rfl:ad107=ad113:=(by injection e113)
     replace hx113_0:=(bW HB hx113_0:)
     replace hx113_1:=(bW HB hx113_1:)
     replace hx113_2:=(bW HB hx113_2:)
     replace hx113_3:=(bW HB hx113_3:)
     replace p113:=eq_true p113
     replace q113:=eq_true q113
     refine start_ (n:=43) (S:=fun w'=>w'.cell? ⟨Bb,0,none⟩=some (.int .i64 ((rd_T40 l0_0 x8_1).f0))∧w'.cell? ⟨Bb,1,none⟩=some (.int .i64 ((rd_T40 l0_0 x8_1).f1))∧w'.cell? ⟨Bb,2,none⟩=some (.int .i64 ((rd_T40 l0_0 x8_1).f2))∧w'.cell? ⟨Bb,3,none⟩=some (.bool false)∧w'.cell? ⟨Bd,0,none⟩=some (.slice (some ad107) l0_0.length c0_0)∧w'.cell? ⟨Bd,1,none⟩=some (.int .i64 a0_1)∧w'.cell? (ad107.add (((ji42)).toNat * 4))=some (.int .i64 ((rd_T40 l0_0 (ji42)).f0))∧w'.cell? ⟨(ad107.add (((ji42)).toNat * 4)).block,(ad107.add (((ji42)).toNat * 4)).off + 1,none⟩=some (.int .i64 ((rd_T40 l0_0 (ji42)).f1))∧w'.cell? ⟨(ad107.add (((ji42)).toNat * 4)).block,(ad107.add (((ji42)).toNat * 4)).off + 2,none⟩=some (.int .i64 ((rd_T40 l0_0 (ji42)).f2))∧w'.cell? ⟨(ad107.add (((ji42)).toNat * 4)).block,(ad107.add (((ji42)).toNat * 4)).off + 3,none⟩=some (.bool ((rd_T40 l0_0 (ji42)).f3))) (ds:=[]) z16q0 (by kernel_rfl) rfl rfl ⟨(bC Ba.out 0).trans rfl,(bC Ba.out 1).trans rfl,(bC Ba.out 2).trans rfl,(bC Ba.out 3).trans rfl,(bC Bc.out 0).trans rfl,(bC Bc.out 1).trans rfl,(bW HB hw113_0:),(bW HB hw113_1:),(bW HB hw113_2:),(bW HB hw113_3:)⟩ (fun hHeld=>?_);refine with_st impl_QueueOk.tab4 impl_QueueOk.bits4 (fun _ _ _ _ _ h=>h) (fun HT_=>?_)
     generalize w49.drew=w50 at Bc Ba HB hx113_0 hx113_1 hx113_2 hx113_3 hHeld ⊢
     refine pS 0 13 z16q1 HT_ rfl rfl (by kernel_rfl) (by rfl) (by intro w';go_simp;with_reducible rfl) (by simp only [Act.put,lA,lZ,lS,iw,jw];rfl) ?_
     refine tS 1 14 z16q2 HT_ hHeld rfl rfl (by kernel_rfl) (by rfl) (by rintro w' ⟨s0,s1,s2,s3,s4,s5,s6,s7,s8,s9⟩;go_simp;with_reducible rfl) (by simp only [Act.put,lA,lZ,lS,iw,jw];rfl) ?_
     refine oS 2 15 z16q3 HT_ rfl rfl (by kernel_rfl) (by decide) (fun K hK=>?_)
     refine goes_ Try.func41 (by kernel_rfl) rfl #[.int .i64 ((rd_T40 l0_0 x8_1).f0),.int .i64 0,.int .i64 99] (by rfl) rfl rfl (by (try simp only [lM,lC,lN]);first|done|rfl|(simp only [lD,lT];rfl)) ?_
     with_reducible refine (impl_in.calls ((rd_T40 l0_0 x8_1).f0) 0 99 true _ A7.out).mono ?_
     rintro e w' ⟨rfl,⟨nd,rfl⟩⟩
     refine ⟨_,rfl,?_⟩
     refine hK.out _ _ ⟨(bC Ba.out 0).trans rfl,(bC Ba.out 1).trans rfl,(bC Ba.out 2).trans rfl,(bC Ba.out 3).trans rfl,(bC Bc.out 0).trans rfl,(bC Bc.out 1).trans rfl,(bW HB hw113_0:),(bW HB hw113_1:),(bW HB hw113_2:),(bW HB hw113_3:)⟩ (fun hHeld=>?_)
     clear hK K
     refine norm_ (by show Act.put _ (some 15) _=_;simp only [Act.put,lA,lZ,lS,iw,jw];rfl) ?_
     refine pS 3 16 z16q4 HT_ rfl rfl (by kernel_rfl) (by rfl) (by intro w';go_simp;with_reducible rfl) (by simp only [Act.put,lA,lZ,lS,iw,jw];rfl) ?_
     refine pS 4 17 z16q5 HT_ rfl rfl (by kernel_rfl) (by rfl) (by intro w';go_simp;with_reducible rfl) (by simp only [Act.put,lA,lZ,lS,iw,jw];rfl) ?_
     refine pS 5 18 z16q6 HT_ rfl rfl (by kernel_rfl) (by rfl) (by intro w';go_simp;with_reducible rfl) (by simp only [Act.put,lA,lZ,lS,iw,jw];rfl) ?_
     refine tS 6 19 z16q7 HT_ hHeld rfl rfl (by kernel_rfl) (by rfl) (by rintro w' ⟨s0,s1,s2,s3,s4,s5,s6,s7,s8,s9⟩;go_simp;with_reducible rfl) (by simp only [Act.put,lA,lZ,lS,iw,jw];rfl) ?_
     refine oS 7 20 z16q8 HT_ rfl rfl (by kernel_rfl) (by decide) (fun K hK=>?_)
     refine goes_ Try.func41 (by kernel_rfl) rfl #[.int .i64 ((rd_T40 l0_0 x8_1).f1),.int .i64 1,.int .i64 6] (by rfl) rfl rfl (by (try simp only [lM,lC,lN]);first|done|rfl|(simp only [lD,lT];rfl)) ?_
     with_reducible refine (impl_in.calls ((rd_T40 l0_0 x8_1).f1) 1 6 true _ A9.out).mono ?_
     rintro e w' ⟨rfl,⟨nd,rfl⟩⟩
     refine ⟨_,rfl,?_⟩
     refine hK.out _ _ ⟨(bC Ba.out 0).trans rfl,(bC Ba.out 1).trans rfl,(bC Ba.out 2).trans rfl,(bC Ba.out 3).trans rfl,(bC Bc.out 0).trans rfl,(bC Bc.out 1).trans rfl,(bW HB hw113_0:),(bW HB hw113_1:),(bW HB hw113_2:),(bW HB hw113_3:)⟩ (fun hHeld=>?_)
     clear hK K
     refine norm_ (by show Act.put _ (some 20) _=_;simp only [Act.put,lA,lZ,lS,iw,jw];rfl) ?_
     refine pS 8 21 z16q9 HT_ rfl rfl (by kernel_rfl) (by rfl) (by intro w';go_simp;with_reducible rfl) (by simp only [Act.put,lA,lZ,lS,iw,jw];rfl) ?_
     refine pS 9 22 z16q10 HT_ rfl rfl (by kernel_rfl) (by rfl) (by intro w';go_simp;with_reducible rfl) (by simp only [Act.put,lA,lZ,lS,iw,jw];rfl) ?_
     refine pS 10 23 z16q11 HT_ rfl rfl (by kernel_rfl) (by rfl) (by intro w';go_simp;with_reducible rfl) (by simp only [Act.put,lA,lZ,lS,iw,jw];rfl) ?_
     refine pS 11 24 z16q12 HT_ rfl rfl (by kernel_rfl) (by rfl) (by intro w';go_simp;with_reducible rfl) (by simp only [Act.put,lA,lZ,lS,iw,jw];rfl) ?_
     refine tS 12 25 z16q13 HT_ hHeld rfl rfl (by kernel_rfl) (by rfl) (by rintro w' ⟨s0,s1,s2,s3,s4,s5,s6,s7,s8,s9⟩;go_simp;with_reducible rfl) (by simp only [Act.put,lA,lZ,lS,iw,jw];rfl) ?_
     refine oS 13 26 z16q14 HT_ rfl rfl (by kernel_rfl) (by decide) (fun K hK=>?_)
     refine goes_ Try.func41 (by kernel_rfl) rfl #[.int .i64 ((rd_T40 l0_0 x8_1).f2),.int .i64 0,.int .i64 1000000] (by rfl) rfl rfl (by (try simp only [lM,lC,lN]);first|done|rfl|(simp only [lD,lT];rfl)) ?_
     with_reducible refine (impl_in.calls ((rd_T40 l0_0 x8_1).f2) 0 1000000 true _ A11.out).mono ?_
     rintro e w' ⟨rfl,⟨nd,rfl⟩⟩
     refine ⟨_,rfl,?_⟩
     refine hK.out _ _ ⟨(bC Ba.out 0).trans rfl,(bC Ba.out 1).trans rfl,(bC Ba.out 2).trans rfl,(bC Ba.out 3).trans rfl,(bC Bc.out 0).trans rfl,(bC Bc.out 1).trans rfl,(bW HB hw113_0:),(bW HB hw113_1:),(bW HB hw113_2:),(bW HB hw113_3:)⟩ (fun hHeld=>?_)
     clear hK K
     refine norm_ (by show Act.put _ (some 26) _=_;simp only [Act.put,lA,lZ,lS,iw,jw];rfl) ?_
     refine pS 14 27 z16q15 HT_ rfl rfl (by kernel_rfl) (by rfl) (by intro w';go_simp;with_reducible rfl) (by simp only [Act.put,lA,lZ,lS,iw,jw];rfl) ?_
     refine pS 15 28 z16q16 HT_ rfl rfl (by kernel_rfl) (by rfl) (by intro w';go_simp;with_reducible rfl) (by simp only [Act.put,lA,lZ,lS,iw,jw];rfl) ?_
     refine pS 16 29 z16q17 HT_ rfl rfl (by kernel_rfl) (by rfl) (by intro w';go_simp;with_reducible rfl) (by simp only [Act.put,lA,lZ,lS,iw,jw];rfl) ?_
     refine pS 17 30 z16q18 HT_ rfl rfl (by kernel_rfl) (by rfl) (by intro w';go_simp;with_reducible rfl) (by simp only [Act.put,lA,lZ,lS,iw,jw];rfl) ?_
     refine tS 18 31 z16q19 HT_ hHeld rfl rfl (by kernel_rfl) (by rfl) (by rintro w' ⟨s0,s1,s2,s3,s4,s5,s6,s7,s8,s9⟩;go_simp;with_reducible rfl) (by simp only [Act.put,lA,lZ,lS,iw,jw];rfl) ?_
     refine pS 19 32 z16q20 HT_ rfl rfl (by kernel_rfl) (by rfl) (by intro w';go_simp;with_reducible rfl) (by simp only [Act.put,lA,lZ,lS,iw,jw];rfl) ?_
     refine vS 20 33 z16q21 HT_ rfl rfl (by kernel_rfl) (by rfl) (by simp only [Act.put,lA,lZ,lS,iw,jw];rfl) ?_
     refine vS 21 34 z16q50 HT_ rfl rfl (by kernel_rfl) (by rfl) (by simp only [Act.put,lA,lZ,lS,iw,jw];rfl) ?_
     refine vS 22 35 z16q23 HT_ rfl rfl (by kernel_rfl) (by rfl) (by simp only [Act.put,lA,lZ,lS,iw,jw];rfl) ?_
     refine vS 23 36 z16q24 HT_ rfl rfl (by kernel_rfl) (by rfl) (by simp only [Act.put,lA,lZ,lS,iw,jw];rfl) ?_
     refine vS 24 37 z16q25 HT_ rfl rfl (by kernel_rfl) (by rfl) (by simp only [Act.put,lA,lZ,lS,iw,jw];rfl) ?_
     refine pS 25 38 z16q26 HT_ rfl rfl (by kernel_rfl) (by rfl) (by intro w';go_simp;with_reducible rfl) (by simp only [Act.put,lA,lZ,lS,iw,jw];rfl) ?_
     refine pS 26 39 z16q27 HT_ rfl rfl (by kernel_rfl) (by rfl) (by intro w';go_simp;with_reducible rfl) (by simp only [Act.put,lA,lZ,lS,iw,jw];rfl) ?_
     refine pS 27 40 z16q28 HT_ rfl rfl (by kernel_rfl) (by rfl) (by intro w';go_simp;with_reducible rfl) (by simp only [Act.put,lA,lZ,lS,iw,jw];rfl) ?_
     refine pS 28 41 z16q29 HT_ rfl rfl (by kernel_rfl) (by rfl) (by intro w';go_simp;with_reducible rfl) (by simp only [Act.put,lA,lZ,lS,iw,jw];rfl) ?_
     refine pS 29 42 z16q30 HT_ rfl rfl (by kernel_rfl) (by rfl) (by intro w';go_simp;with_reducible rfl) (by simp only [Act.put,lA,lZ,lS,iw,jw];rfl) ?_
     refine pS 30 43 z16q31 HT_ rfl rfl (by kernel_rfl) (by rfl) (by intro w';go_simp;with_reducible rfl) (by simp only [Act.put,lA,lZ,lS,iw,jw];rfl) ?_
     refine pS 31 44 z16q32 HT_ rfl rfl (by kernel_rfl) (by rfl) (by intro w';go_simp;with_reducible rfl) (by simp only [Act.put,lA,lZ,lS,iw,jw];rfl) ?_
     refine pS 33 46 z16q44 HT_ rfl rfl (by kernel_rfl) (by rfl) (by intro w';go_simp;with_reducible rfl) (by simp only [Act.put,lA,lZ,lS,iw,jw];rfl) ?_
     refine pS 34 47 z16q45 HT_ rfl rfl (by kernel_rfl) (by rfl) (by intro w';go_simp;with_reducible rfl) (by simp only [Act.put,lA,lZ,lS,iw,jw];rfl) ?_
     refine pS 38 51 z16q46 HT_ rfl rfl (by kernel_rfl) (by rfl) (by intro w';go_simp;with_reducible rfl) (by simp only [Act.put,lA,lZ,lS,iw,jw];rfl) ?_
     refine tS 32 45 z16q47 HT_ hHeld rfl rfl (by kernel_rfl) (by rfl) (by rintro w' ⟨s0,s1,s2,s3,s4,s5,s6,s7,s8,s9⟩;go_simp;with_reducible rfl) (by simp only [Act.put,lA,lZ,lS,iw,jw];rfl) ?_
     refine pS 35 48 z16q48 HT_ rfl rfl (by kernel_rfl) (by rfl) (by intro w';go_simp;with_reducible rfl) (by simp only [Act.put,lA,lZ,lS,iw,jw];rfl) ?_
     refine pS 36 49 z16q49 HT_ rfl rfl (by kernel_rfl) (by rfl) (by intro w';go_simp;with_reducible rfl) (by simp only [Act.put,lA,lZ,lS,iw,jw];rfl) ?_
     refine tS 37 50 z16q39 HT_ hHeld rfl rfl (by kernel_rfl) (by rfl) (by rintro w' ⟨s0,s1,s2,s3,s4,s5,s6,s7,s8,s9⟩;go_simp;with_reducible rfl) (by simp only [Act.put,lA,lZ,lS,iw,jw];rfl) ?_
     refine tS 39 52 z16q40 HT_ hHeld rfl rfl (by kernel_rfl) (by rfl) (by rintro w' ⟨s0,s1,s2,s3,s4,s5,s6,s7,s8,s9⟩;go_simp;with_reducible rfl) (by simp only [Act.put,lA,lZ,lS,iw,jw];rfl) ?_
     refine pS 40 53 z16q41 HT_ rfl rfl (by kernel_rfl) (by rfl) (by intro w';go_simp;with_reducible rfl) (by simp only [Act.put,lA,lZ,lS,iw,jw];rfl) ?_
     refine pS 41 54 z16q42 HT_ rfl rfl (by kernel_rfl) (by rfl) (by intro w';go_simp;with_reducible rfl) (by simp only [Act.put,lA,lZ,lS,iw,jw];rfl) ?_
     refine pS 42 55 z16q43 HT_ rfl rfl (by kernel_rfl) (by rfl) (by intro w';go_simp;with_reducible rfl) (by simp only [Act.put,lA,lZ,lS,iw,jw];rfl) ?_
     refine done_ (done_of HT_.out (by kernel_rfl)) ?_
     try go_wp2
     go_ret
     exact ⟨by first|rfl|(simp [errW_none,errW_some] <;> rfl)|(simp only [← hji42];first|rfl|(simp [errW_none,errW_some] <;> rfl))|(simp [*,errW_none,errW_some] <;> rfl),by repeat (first|(with_reducible first|exact HB.out|apply oA|apply pN|apply o1|refine bS ?_ Be.out|refine bS ?_ Bh.out)|exact HB.out)⟩
    rw [if_neg c45] at H
    have c45b0:decide (((rd_T40 l0_0 x8_1).f0)≤((rd_T40 l0_0 (ji42)).f0))=false:=decide_eq_false c45
    clear c45
    have H':=Am H
    clear H
    have p107:0≤(x8_1:Int):=of_decide_eq_true (by first|(with_reducible assumption)|assumption)
    have q107:x8_1<(l0_0.length:Int):=of_decide_eq_true (by first|(with_reducible assumption)|assumption)
    obtain ⟨ad107,e107,hx107_0,hx107_1,hx107_2,hx107_3⟩:=at_T40 HR0_0.out x8_1 p107 q107
    (try rw [← Nbq13.out] at hx107_3)
    cases e107
    replace hx107_0:=(bW HB hx107_0:)
    replace hx107_1:=(bW HB hx107_1:)
    replace hx107_2:=(bW HB hx107_2:)
    replace hx107_3:=(bW HB hx107_3:)
    replace p107:=eq_true p107
    replace q107:=eq_true q107
    try go_wp2_with (first|((with_reducible refine gate_dst (N:=4) rfl ?_);refine box_event ?hg (N:=4) ?hd (cs:=#[.int .i64 0,.int .i64 0,.int .i64 0,.bool false]) (t:=40) ?hr ?_;(case hd=>rfl);(case hg=>rfl);(case hr=>first|(go_simp;done)|(go_simp;rfl));intro Bb hg w51 hbox hb;have n0_:=Am (bX Bc.out hb);have n1_:=Am (bP (by repeat (first|(with_reducible first|exact HB.out|apply oA|apply pN|apply o1|refine bS ?_ Be.out)|exact HB.out)) hb);have n2_:=Am (hbox);have n3_:=Am ((by rw [hg];exact (bZ (by repeat (first|(with_reducible first|exact HB.out|apply oA|apply pN|apply o1|refine bS ?_ Be.out)|exact HB.out))):w.heap.size≤Bb));have n4_:=Am ((by rw [hg];exact (bZ (by repeat (first|(with_reducible first|exact HB.out|apply oA|apply pN|apply o1|refine bS ?_ Be.out)|exact HB.out))):w.heap.size≤Bb));have n5_:=Am ((nL Bc.out hg));have n6_:=Am ((nG Bc.out hg));clear Bc HB;revert n0_ n1_ n2_ n3_ n4_ n5_ n6_;intro Bc HB Ba Bi Bh Bf Bg;clear hb hbox hg;have DZ:=Bg.out;have D0:=Bf.out;have B1:=cz0 Ba.out;have B2:=cz1 Ba.out;have B3:=cz2 Ba.out;have B5:=cz3 Ba.out;have B6:=bF Ba.out 0;have B7:=bF Ba.out 1;have B8:=bF Ba.out 2;have B9:=bF Ba.out 3))
    have n0_:Aside0 (((((w51.setCell ⟨Bb,0,none⟩ (.int .i64 ((rd_T40 l0_0 x8_1).f0))).setCell ⟨Bb,1,none⟩ (.int .i64 ((rd_T40 l0_0 x8_1).f1))).setCell ⟨Bb,2,none⟩ (.int .i64 ((rd_T40 l0_0 x8_1).f2))).setCell ⟨Bb,3,none⟩ (.bool false)).heap[Bd]?=some (.cells #[.slice (some ad107) l0_0.length c0_0,.int .i64 a0_1] 25 (0,0))):=⟨by (with_reducible repeat (first|refine bN ?_ _|refine bD ?_|refine bA ?_ _|refine blk_far ?_ Bf.out _));exact Bc.out⟩
    have n1_:Aside0 (((((w51.setCell ⟨Bb,0,none⟩ (.int .i64 ((rd_T40 l0_0 x8_1).f0))).setCell ⟨Bb,1,none⟩ (.int .i64 ((rd_T40 l0_0 x8_1).f1))).setCell ⟨Bb,2,none⟩ (.int .i64 ((rd_T40 l0_0 x8_1).f2))).setCell ⟨Bb,3,none⟩ (.bool false)).heap[Bb]?=some (.cells #[.int .i64 ((rd_T40 l0_0 x8_1).f0),.int .i64 ((rd_T40 l0_0 x8_1).f1),.int .i64 ((rd_T40 l0_0 x8_1).f2),.bool false] 40 (0,0))):=⟨by (with_reducible repeat (first|refine bN ?_ _|refine bD ?_|refine bA ?_ _));refine blk_put (cs:=#[.int .i64 ((rd_T40 l0_0 x8_1).f0),.int .i64 ((rd_T40 l0_0 x8_1).f1),.int .i64 ((rd_T40 l0_0 x8_1).f2),.bool false]) ?_ 3 _ rfl;(with_reducible repeat (first|refine bN ?_ _|refine bD ?_|refine bA ?_ _));refine blk_put (cs:=#[.int .i64 ((rd_T40 l0_0 x8_1).f0),.int .i64 ((rd_T40 l0_0 x8_1).f1),.int .i64 0,.bool false]) ?_ 2 _ rfl;(with_reducible repeat (first|refine bN ?_ _|refine bD ?_|refine bA ?_ _));refine blk_put (cs:=#[.int .i64 ((rd_T40 l0_0 x8_1).f0),.int .i64 0,.int .i64 0,.bool false]) ?_ 1 _ rfl;(with_reducible repeat (first|refine bN ?_ _|refine bD ?_|refine bA ?_ _));refine blk_put (cs:=#[.int .i64 0,.int .i64 0,.int .i64 0,.bool false]) ?_ 0 _ rfl;(with_reducible repeat (first|refine bN ?_ _|refine bD ?_|refine bA ?_ _));exact Ba.out⟩
    have n2_:Aside0 (Below w.heap.size w ((((w51.setCell ⟨Bb,0,none⟩ (.int .i64 ((rd_T40 l0_0 x8_1).f0))).setCell ⟨Bb,1,none⟩ (.int .i64 ((rd_T40 l0_0 x8_1).f1))).setCell ⟨Bb,2,none⟩ (.int .i64 ((rd_T40 l0_0 x8_1).f2))).setCell ⟨Bb,3,none⟩ (.bool false))):=⟨by repeat (first|(with_reducible first|exact HB.out|apply oA|apply pN|apply o1|refine bS ?_ Be.out|refine bS ?_ Bh.out)|exact HB.out)⟩
    (try clear Bc)
    (try clear Ba)
    (try clear HB)
    generalize ((((w51.setCell ⟨Bb,0,none⟩ (.int .i64 ((rd_T40 l0_0 x8_1).f0))).setCell ⟨Bb,1,none⟩ (.int .i64 ((rd_T40 l0_0 x8_1).f1))).setCell ⟨Bb,2,none⟩ (.int .i64 ((rd_T40 l0_0 x8_1).f2))).setCell ⟨Bb,3,none⟩ (.bool false))=w54 at n0_ n1_ n2_ ⊢
    have Bc:=n0_
    have Ba:=n1_
    have HB:=n2_
    clear n0_ n1_ n2_
    have n0_:=Am (bD Bc.out)
    have n1_:=Am (bD Ba.out)
    have n2_:=Am (o1 HB.out)
    clear Bc
    clear Ba
    clear HB
    have Bc:=n0_
    have Ba:=n1_
    have HB:=n2_
    clear n0_ n1_ n2_
    have p113:0≤((ji42):Int):=of_decide_eq_true (by first|(with_reducible assumption)|assumption)
    have q113:(ji42)<(l0_0.length:Int):=of_decide_eq_true (by first|(with_reducible assumption)|assumption)
    obtain ⟨ad113,e113,hx113_0,hx113_1,hx113_2,hx113_3⟩:=at_T40 HR0_0.out (ji42) p113 q113
    have hw113_3:=hx113_3
    have hw113_2:=hx113_2
    have hw113_1:=hx113_1
    have hw113_0:=hx113_0
    (try rw [← Nbq13.out] at hx113_3)
    obtain rfl:ad107=ad113:=(by injection e113)
    replace hx113_0:=(bW HB hx113_0:)
    replace hx113_1:=(bW HB hx113_1:)
    replace hx113_2:=(bW HB hx113_2:)
    replace hx113_3:=(bW HB hx113_3:)
    replace p113:=eq_true p113
    replace q113:=eq_true q113
    refine start_ (n:=43) (S:=fun w'=>w'.cell? ⟨Bb,0,none⟩=some (.int .i64 ((rd_T40 l0_0 x8_1).f0))∧w'.cell? ⟨Bb,1,none⟩=some (.int .i64 ((rd_T40 l0_0 x8_1).f1))∧w'.cell? ⟨Bb,2,none⟩=some (.int .i64 ((rd_T40 l0_0 x8_1).f2))∧w'.cell? ⟨Bb,3,none⟩=some (.bool false)∧w'.cell? ⟨Bd,0,none⟩=some (.slice (some ad107) l0_0.length c0_0)∧w'.cell? ⟨Bd,1,none⟩=some (.int .i64 a0_1)∧w'.cell? (ad107.add (((ji42)).toNat * 4))=some (.int .i64 ((rd_T40 l0_0 (ji42)).f0))∧w'.cell? ⟨(ad107.add (((ji42)).toNat * 4)).block,(ad107.add (((ji42)).toNat * 4)).off + 1,none⟩=some (.int .i64 ((rd_T40 l0_0 (ji42)).f1))∧w'.cell? ⟨(ad107.add (((ji42)).toNat * 4)).block,(ad107.add (((ji42)).toNat * 4)).off + 2,none⟩=some (.int .i64 ((rd_T40 l0_0 (ji42)).f2))∧w'.cell? ⟨(ad107.add (((ji42)).toNat * 4)).block,(ad107.add (((ji42)).toNat * 4)).off + 3,none⟩=some (.bool ((rd_T40 l0_0 (ji42)).f3))) (ds:=[]) z16q0 (by kernel_rfl) rfl rfl ⟨(bC Ba.out 0).trans rfl,(bC Ba.out 1).trans rfl,(bC Ba.out 2).trans rfl,(bC Ba.out 3).trans rfl,(bC Bc.out 0).trans rfl,(bC Bc.out 1).trans rfl,(bW HB hw113_0:),(bW HB hw113_1:),(bW HB hw113_2:),(bW HB hw113_3:)⟩ (fun hHeld=>?_);refine with_st impl_QueueOk.tab4 impl_QueueOk.bits4 (fun _ _ _ _ _ h=>h) (fun HT_=>?_)
    generalize w54.drew=w55 at Bc Ba HB hx113_0 hx113_1 hx113_2 hx113_3 hHeld ⊢
    refine pS 0 13 z16q1 HT_ rfl rfl (by kernel_rfl) (by rfl) (by intro w';go_simp;with_reducible rfl) (by simp only [Act.put,lA,lZ,lS,iw,jw];rfl) ?_
    refine tS 1 14 z16q2 HT_ hHeld rfl rfl (by kernel_rfl) (by rfl) (by rintro w' ⟨s0,s1,s2,s3,s4,s5,s6,s7,s8,s9⟩;go_simp;with_reducible rfl) (by simp only [Act.put,lA,lZ,lS,iw,jw];rfl) ?_
    refine oS 2 15 z16q3 HT_ rfl rfl (by kernel_rfl) (by decide) (fun K hK=>?_)
    refine goes_ Try.func41 (by kernel_rfl) rfl #[.int .i64 ((rd_T40 l0_0 x8_1).f0),.int .i64 0,.int .i64 99] (by rfl) rfl rfl (by (try simp only [lM,lC,lN]);first|done|rfl|(simp only [lD,lT];rfl)) ?_
    with_reducible refine (impl_in.calls ((rd_T40 l0_0 x8_1).f0) 0 99 true _ A7.out).mono ?_
    rintro e w' ⟨rfl,⟨nd,rfl⟩⟩
    refine ⟨_,rfl,?_⟩
    refine hK.out _ _ ⟨(bC Ba.out 0).trans rfl,(bC Ba.out 1).trans rfl,(bC Ba.out 2).trans rfl,(bC Ba.out 3).trans rfl,(bC Bc.out 0).trans rfl,(bC Bc.out 1).trans rfl,(bW HB hw113_0:),(bW HB hw113_1:),(bW HB hw113_2:),(bW HB hw113_3:)⟩ (fun hHeld=>?_)
    clear hK K
    refine norm_ (by show Act.put _ (some 15) _=_;simp only [Act.put,lA,lZ,lS,iw,jw];rfl) ?_
    refine pS 3 16 z16q4 HT_ rfl rfl (by kernel_rfl) (by rfl) (by intro w';go_simp;with_reducible rfl) (by simp only [Act.put,lA,lZ,lS,iw,jw];rfl) ?_
    refine pS 4 17 z16q5 HT_ rfl rfl (by kernel_rfl) (by rfl) (by intro w';go_simp;with_reducible rfl) (by simp only [Act.put,lA,lZ,lS,iw,jw];rfl) ?_
    refine pS 5 18 z16q6 HT_ rfl rfl (by kernel_rfl) (by rfl) (by intro w';go_simp;with_reducible rfl) (by simp only [Act.put,lA,lZ,lS,iw,jw];rfl) ?_
    refine tS 6 19 z16q7 HT_ hHeld rfl rfl (by kernel_rfl) (by rfl) (by rintro w' ⟨s0,s1,s2,s3,s4,s5,s6,s7,s8,s9⟩;go_simp;with_reducible rfl) (by simp only [Act.put,lA,lZ,lS,iw,jw];rfl) ?_
    refine oS 7 20 z16q8 HT_ rfl rfl (by kernel_rfl) (by decide) (fun K hK=>?_)
    refine goes_ Try.func41 (by kernel_rfl) rfl #[.int .i64 ((rd_T40 l0_0 x8_1).f1),.int .i64 1,.int .i64 6] (by rfl) rfl rfl (by (try simp only [lM,lC,lN]);first|done|rfl|(simp only [lD,lT];rfl)) ?_
    with_reducible refine (impl_in.calls ((rd_T40 l0_0 x8_1).f1) 1 6 true _ A9.out).mono ?_
    rintro e w' ⟨rfl,⟨nd,rfl⟩⟩
    refine ⟨_,rfl,?_⟩
    refine hK.out _ _ ⟨(bC Ba.out 0).trans rfl,(bC Ba.out 1).trans rfl,(bC Ba.out 2).trans rfl,(bC Ba.out 3).trans rfl,(bC Bc.out 0).trans rfl,(bC Bc.out 1).trans rfl,(bW HB hw113_0:),(bW HB hw113_1:),(bW HB hw113_2:),(bW HB hw113_3:)⟩ (fun hHeld=>?_)
    clear hK K
    refine norm_ (by show Act.put _ (some 20) _=_;simp only [Act.put,lA,lZ,lS,iw,jw];rfl) ?_
    refine pS 8 21 z16q9 HT_ rfl rfl (by kernel_rfl) (by rfl) (by intro w';go_simp;with_reducible rfl) (by simp only [Act.put,lA,lZ,lS,iw,jw];rfl) ?_
    refine pS 9 22 z16q10 HT_ rfl rfl (by kernel_rfl) (by rfl) (by intro w';go_simp;with_reducible rfl) (by simp only [Act.put,lA,lZ,lS,iw,jw];rfl) ?_
    refine pS 10 23 z16q11 HT_ rfl rfl (by kernel_rfl) (by rfl) (by intro w';go_simp;with_reducible rfl) (by simp only [Act.put,lA,lZ,lS,iw,jw];rfl) ?_
    refine pS 11 24 z16q12 HT_ rfl rfl (by kernel_rfl) (by rfl) (by intro w';go_simp;with_reducible rfl) (by simp only [Act.put,lA,lZ,lS,iw,jw];rfl) ?_
    refine tS 12 25 z16q13 HT_ hHeld rfl rfl (by kernel_rfl) (by rfl) (by rintro w' ⟨s0,s1,s2,s3,s4,s5,s6,s7,s8,s9⟩;go_simp;with_reducible rfl) (by simp only [Act.put,lA,lZ,lS,iw,jw];rfl) ?_
    refine oS 13 26 z16q14 HT_ rfl rfl (by kernel_rfl) (by decide) (fun K hK=>?_)
    refine goes_ Try.func41 (by kernel_rfl) rfl #[.int .i64 ((rd_T40 l0_0 x8_1).f2),.int .i64 0,.int .i64 1000000] (by rfl) rfl rfl (by (try simp only [lM,lC,lN]);first|done|rfl|(simp only [lD,lT];rfl)) ?_
    with_reducible refine (impl_in.calls ((rd_T40 l0_0 x8_1).f2) 0 1000000 true _ A11.out).mono ?_
    rintro e w' ⟨rfl,⟨nd,rfl⟩⟩
    refine ⟨_,rfl,?_⟩
    refine hK.out _ _ ⟨(bC Ba.out 0).trans rfl,(bC Ba.out 1).trans rfl,(bC Ba.out 2).trans rfl,(bC Ba.out 3).trans rfl,(bC Bc.out 0).trans rfl,(bC Bc.out 1).trans rfl,(bW HB hw113_0:),(bW HB hw113_1:),(bW HB hw113_2:),(bW HB hw113_3:)⟩ (fun hHeld=>?_)
    clear hK K
    refine norm_ (by show Act.put _ (some 26) _=_;simp only [Act.put,lA,lZ,lS,iw,jw];rfl) ?_
    refine pS 14 27 z16q15 HT_ rfl rfl (by kernel_rfl) (by rfl) (by intro w';go_simp;with_reducible rfl) (by simp only [Act.put,lA,lZ,lS,iw,jw];rfl) ?_
    refine pS 15 28 z16q16 HT_ rfl rfl (by kernel_rfl) (by rfl) (by intro w';go_simp;with_reducible rfl) (by simp only [Act.put,lA,lZ,lS,iw,jw];rfl) ?_
    refine pS 16 29 z16q17 HT_ rfl rfl (by kernel_rfl) (by rfl) (by intro w';go_simp;with_reducible rfl) (by simp only [Act.put,lA,lZ,lS,iw,jw];rfl) ?_
    refine pS 17 30 z16q18 HT_ rfl rfl (by kernel_rfl) (by rfl) (by intro w';go_simp;with_reducible rfl) (by simp only [Act.put,lA,lZ,lS,iw,jw];rfl) ?_
    refine tS 18 31 z16q19 HT_ hHeld rfl rfl (by kernel_rfl) (by rfl) (by rintro w' ⟨s0,s1,s2,s3,s4,s5,s6,s7,s8,s9⟩;go_simp;with_reducible rfl) (by simp only [Act.put,lA,lZ,lS,iw,jw];rfl) ?_
    refine pS 19 32 z16q20 HT_ rfl rfl (by kernel_rfl) (by rfl) (by intro w';go_simp;with_reducible rfl) (by simp only [Act.put,lA,lZ,lS,iw,jw];rfl) ?_
    refine vS 20 33 z16q21 HT_ rfl rfl (by kernel_rfl) (by rfl) (by simp only [Act.put,lA,lZ,lS,iw,jw];rfl) ?_
    refine vS 21 34 z16q50 HT_ rfl rfl (by kernel_rfl) (by rfl) (by simp only [Act.put,lA,lZ,lS,iw,jw];rfl) ?_
    refine vS 22 35 z16q23 HT_ rfl rfl (by kernel_rfl) (by rfl) (by simp only [Act.put,lA,lZ,lS,iw,jw];rfl) ?_
    refine vS 23 36 z16q24 HT_ rfl rfl (by kernel_rfl) (by rfl) (by simp only [Act.put,lA,lZ,lS,iw,jw];rfl) ?_
    refine vS 24 37 z16q25 HT_ rfl rfl (by kernel_rfl) (by rfl) (by simp only [Act.put,lA,lZ,lS,iw,jw];rfl) ?_
    refine pS 25 38 z16q26 HT_ rfl rfl (by kernel_rfl) (by rfl) (by intro w';go_simp;with_reducible rfl) (by simp only [Act.put,lA,lZ,lS,iw,jw];rfl) ?_
    refine pS 26 39 z16q27 HT_ rfl rfl (by kernel_rfl) (by rfl) (by intro w';go_simp;with_reducible rfl) (by simp only [Act.put,lA,lZ,lS,iw,jw];rfl) ?_
    refine pS 27 40 z16q28 HT_ rfl rfl (by kernel_rfl) (by rfl) (by intro w';go_simp;with_reducible rfl) (by simp only [Act.put,lA,lZ,lS,iw,jw];rfl) ?_
    refine pS 28 41 z16q29 HT_ rfl rfl (by kernel_rfl) (by rfl) (by intro w';go_simp;with_reducible rfl) (by simp only [Act.put,lA,lZ,lS,iw,jw];rfl) ?_
    refine pS 29 42 z16q30 HT_ rfl rfl (by kernel_rfl) (by rfl) (by intro w';go_simp;with_reducible rfl) (by simp only [Act.put,lA,lZ,lS,iw,jw];rfl) ?_
    refine pS 30 43 z16q31 HT_ rfl rfl (by kernel_rfl) (by rfl) (by intro w';go_simp;with_reducible rfl) (by simp only [Act.put,lA,lZ,lS,iw,jw];rfl) ?_
    refine pS 31 44 z16q32 HT_ rfl rfl (by kernel_rfl) (by rfl) (by intro w';go_simp;with_reducible rfl) (by simp only [Act.put,lA,lZ,lS,iw,jw];rfl) ?_
    refine pS 33 46 z16q44 HT_ rfl rfl (by kernel_rfl) (by rfl) (by intro w';go_simp;with_reducible rfl) (by simp only [Act.put,lA,lZ,lS,iw,jw];rfl) ?_
    refine pS 34 47 z16q45 HT_ rfl rfl (by kernel_rfl) (by rfl) (by intro w';go_simp;with_reducible rfl) (by simp only [Act.put,lA,lZ,lS,iw,jw];rfl) ?_
    refine pS 38 51 z16q46 HT_ rfl rfl (by kernel_rfl) (by rfl) (by intro w';go_simp;with_reducible rfl) (by simp only [Act.put,lA,lZ,lS,iw,jw];rfl) ?_
    refine tS 32 45 z16q47 HT_ hHeld rfl rfl (by kernel_rfl) (by rfl) (by rintro w' ⟨s0,s1,s2,s3,s4,s5,s6,s7,s8,s9⟩;go_simp;with_reducible rfl) (by simp only [Act.put,lA,lZ,lS,iw,jw];rfl) ?_
    refine pS 35 48 z16q48 HT_ rfl rfl (by kernel_rfl) (by rfl) (by intro w';go_simp;with_reducible rfl) (by simp only [Act.put,lA,lZ,lS,iw,jw];rfl) ?_
    refine pS 36 49 z16q49 HT_ rfl rfl (by kernel_rfl) (by rfl) (by intro w';go_simp;with_reducible rfl) (by simp only [Act.put,lA,lZ,lS,iw,jw];rfl) ?_
    refine tS 37 50 z16q39 HT_ hHeld rfl rfl (by kernel_rfl) (by rfl) (by rintro w' ⟨s0,s1,s2,s3,s4,s5,s6,s7,s8,s9⟩;go_simp;with_reducible rfl) (by simp only [Act.put,lA,lZ,lS,iw,jw];rfl) ?_
    refine tS 39 52 z16q40 HT_ hHeld rfl rfl (by kernel_rfl) (by rfl) (by rintro w' ⟨s0,s1,s2,s3,s4,s5,s6,s7,s8,s9⟩;go_simp;with_reducible rfl) (by simp only [Act.put,lA,lZ,lS,iw,jw];rfl) ?_
    refine pS 40 53 z16q41 HT_ rfl rfl (by kernel_rfl) (by rfl) (by intro w';go_simp;with_reducible rfl) (by simp only [Act.put,lA,lZ,lS,iw,jw];rfl) ?_
    refine pS 41 54 z16q42 HT_ rfl rfl (by kernel_rfl) (by rfl) (by intro w';go_simp;with_reducible rfl) (by simp only [Act.put,lA,lZ,lS,iw,jw];rfl) ?_
    refine pS 42 55 z16q43 HT_ rfl rfl (by kernel_rfl) (by rfl) (by intro w';go_simp;with_reducible rfl) (by simp only [Act.put,lA,lZ,lS,iw,jw];rfl) ?_
    refine done_ (done_of HT_.out (by kernel_rfl)) ?_
    try go_wp2
    go_roundg k1
    case measure=>have:=HK1.out;omega
    case rel=>exact ⟨(wrap64 (x8_1 + 1)),(by first|rfl|(simp;done)|(simp [*];done)),H',⟨by have:=HK1.out;omega⟩,⟨by (with_reducible repeat (first|refine bN ?_ _|refine bD ?_|refine bA ?_ _));exact Bc.out⟩,⟨by repeat (first|(with_reducible first|exact HB.out|apply oA|apply pN|apply o1|refine bS ?_ Be.out|refine bS ?_ Bh.out)|exact HB.out)⟩⟩
   subst c14
   have H1:(if ((rd_T40 l0_0 x8_1).f2)<a0_1 then (some false) else (if x8_1 > 0 then (if 0≤(wrap64 (x8_1 - 1)) then (if (wrap64 (x8_1 - 1))<(l0_0.length:Int) then (if ((rd_T40 l0_0 (wrap64 (x8_1 - 1))).f0) ≥ ((rd_T40 l0_0 x8_1).f0) then (some false) else (impl_QueueOk.l0 k1 l0_0 (l0_0.length:Int) (wrap64 (x8_1 + 1)) l0_0 a0_1)) else (none)) else (none)) else (impl_QueueOk.l0 k1 l0_0 (l0_0.length:Int) (wrap64 (x8_1 + 1)) l0_0 a0_1)))=some r:=by rw [if_pos rfl] at H;exact H
   clear H
   have H:=H1
   clear H1
   by_cases c15:((rd_T40 l0_0 x8_1).f2)<a0_1
   ·rw [if_pos c15] at H
    have c15b0:decide (((rd_T40 l0_0 x8_1).f2)<a0_1)=true:=decide_eq_true c15
    clear c15
    obtain rfl:=Option.some.inj H
    have p107:0≤(x8_1:Int):=of_decide_eq_true (by first|(with_reducible assumption)|assumption)
    have q107:x8_1<(l0_0.length:Int):=of_decide_eq_true (by first|(with_reducible assumption)|assumption)
    obtain ⟨ad107,e107,hx107_0,hx107_1,hx107_2,hx107_3⟩:=at_T40 HR0_0.out x8_1 p107 q107
    (try rw [← Nbq13.out] at hx107_3)
    cases e107
    replace hx107_0:=(bW HB hx107_0:)
    replace hx107_1:=(bW HB hx107_1:)
    replace hx107_2:=(bW HB hx107_2:)
    replace hx107_3:=(bW HB hx107_3:)
    replace p107:=eq_true p107
    replace q107:=eq_true q107
    try go_wp2_with (first|((with_reducible refine gate_dst (N:=4) rfl ?_);refine box_event ?hg (N:=4) ?hd (cs:=#[.int .i64 0,.int .i64 0,.int .i64 0,.bool false]) (t:=40) ?hr ?_;(case hd=>rfl);(case hg=>rfl);(case hr=>first|(go_simp;done)|(go_simp;rfl));intro Bb hg w16 hbox hb;have n0_:=Am (bX Bc.out hb);have n1_:=Am (bP (by repeat (first|(with_reducible first|exact HB.out|apply oA|apply pN|apply o1|refine bS ?_ Be.out)|exact HB.out)) hb);have n2_:=Am (hbox);have n3_:=Am ((by rw [hg];exact (bZ (by repeat (first|(with_reducible first|exact HB.out|apply oA|apply pN|apply o1|refine bS ?_ Be.out)|exact HB.out))):w.heap.size≤Bb));have n4_:=Am ((by rw [hg];exact (bZ (by repeat (first|(with_reducible first|exact HB.out|apply oA|apply pN|apply o1|refine bS ?_ Be.out)|exact HB.out))):w.heap.size≤Bb));have n5_:=Am ((nL Bc.out hg));have n6_:=Am ((nG Bc.out hg));clear Bc HB;revert n0_ n1_ n2_ n3_ n4_ n5_ n6_;intro Bc HB Ba Bi Bh Bf Bg;clear hb hbox hg;have DP:=Bg.out;have DQ:=Bf.out;have Bn:=cz0 Ba.out;have Bo:=cz1 Ba.out;have Bp:=cz2 Ba.out;have Bq:=cz3 Ba.out;have Br:=bF Ba.out 0;have Bs:=bF Ba.out 1;have Bt:=bF Ba.out 2;have Bu:=bF Ba.out 3))
    have n0_:Aside0 (((((w16.setCell ⟨Bb,0,none⟩ (.int .i64 ((rd_T40 l0_0 x8_1).f0))).setCell ⟨Bb,1,none⟩ (.int .i64 ((rd_T40 l0_0 x8_1).f1))).setCell ⟨Bb,2,none⟩ (.int .i64 ((rd_T40 l0_0 x8_1).f2))).setCell ⟨Bb,3,none⟩ (.bool true)).heap[Bd]?=some (.cells #[.slice (some ad107) l0_0.length c0_0,.int .i64 a0_1] 25 (0,0))):=⟨by (with_reducible repeat (first|refine bN ?_ _|refine bD ?_|refine bA ?_ _|refine blk_far ?_ Bf.out _));exact Bc.out⟩
    have n1_:Aside0 (((((w16.setCell ⟨Bb,0,none⟩ (.int .i64 ((rd_T40 l0_0 x8_1).f0))).setCell ⟨Bb,1,none⟩ (.int .i64 ((rd_T40 l0_0 x8_1).f1))).setCell ⟨Bb,2,none⟩ (.int .i64 ((rd_T40 l0_0 x8_1).f2))).setCell ⟨Bb,3,none⟩ (.bool true)).heap[Bb]?=some (.cells #[.int .i64 ((rd_T40 l0_0 x8_1).f0),.int .i64 ((rd_T40 l0_0 x8_1).f1),.int .i64 ((rd_T40 l0_0 x8_1).f2),.bool true] 40 (0,0))):=⟨by (with_reducible repeat (first|refine bN ?_ _|refine bD ?_|refine bA ?_ _));refine blk_put (cs:=#[.int .i64 ((rd_T40 l0_0 x8_1).f0),.int .i64 ((rd_T40 l0_0 x8_1).f1),.int .i64 ((rd_T40 l0_0 x8_1).f2),.bool false]) ?_ 3 _ rfl;(with_reducible repeat (first|refine bN ?_ _|refine bD ?_|refine bA ?_ _));refine blk_put (cs:=#[.int .i64 ((rd_T40 l0_0 x8_1).f0),.int .i64 ((rd_T40 l0_0 x8_1).f1),.int .i64 0,.bool false]) ?_ 2 _ rfl;(with_reducible repeat (first|refine bN ?_ _|refine bD ?_|refine bA ?_ _));refine blk_put (cs:=#[.int .i64 ((rd_T40 l0_0 x8_1).f0),.int .i64 0,.int .i64 0,.bool false]) ?_ 1 _ rfl;(with_reducible repeat (first|refine bN ?_ _|refine bD ?_|refine bA ?_ _));refine blk_put (cs:=#[.int .i64 0,.int .i64 0,.int .i64 0,.bool false]) ?_ 0 _ rfl;(with_reducible repeat (first|refine bN ?_ _|refine bD ?_|refine bA ?_ _));exact Ba.out⟩
    have n2_:Aside0 (Below w.heap.size w ((((w16.setCell ⟨Bb,0,none⟩ (.int .i64 ((rd_T40 l0_0 x8_1).f0))).setCell ⟨Bb,1,none⟩ (.int .i64 ((rd_T40 l0_0 x8_1).f1))).setCell ⟨Bb,2,none⟩ (.int .i64 ((rd_T40 l0_0 x8_1).f2))).setCell ⟨Bb,3,none⟩ (.bool true))):=⟨by repeat (first|(with_reducible first|exact HB.out|apply oA|apply pN|apply o1|refine bS ?_ Be.out|refine bS ?_ Bh.out)|exact HB.out)⟩
    (try clear Bc)
    (try clear Ba)
    (try clear HB)
    generalize ((((w16.setCell ⟨Bb,0,none⟩ (.int .i64 ((rd_T40 l0_0 x8_1).f0))).setCell ⟨Bb,1,none⟩ (.int .i64 ((rd_T40 l0_0 x8_1).f1))).setCell ⟨Bb,2,none⟩ (.int .i64 ((rd_T40 l0_0 x8_1).f2))).setCell ⟨Bb,3,none⟩ (.bool true))=w19 at n0_ n1_ n2_ ⊢
    have Bc:=n0_
    have Ba:=n1_
    have HB:=n2_
    clear n0_ n1_ n2_
    have n0_:=Am (bD Bc.out)
    have n1_:=Am (bD Ba.out)
    have n2_:=Am (o1 HB.out)
    clear Bc
    clear Ba
    clear HB
    have Bc:=n0_
    have Ba:=n1_
    have HB:=n2_
    clear n0_ n1_ n2_
    refine start_ (n:=43) (S:=fun w'=>w'.cell? ⟨Bb,0,none⟩=some (.int .i64 ((rd_T40 l0_0 x8_1).f0))∧w'.cell? ⟨Bb,1,none⟩=some (.int .i64 ((rd_T40 l0_0 x8_1).f1))∧w'.cell? ⟨Bb,2,none⟩=some (.int .i64 ((rd_T40 l0_0 x8_1).f2))∧w'.cell? ⟨Bb,3,none⟩=some (.bool true)∧w'.cell? ⟨Bd,0,none⟩=some (.slice (some ad107) l0_0.length c0_0)∧w'.cell? ⟨Bd,1,none⟩=some (.int .i64 a0_1)) (ds:=[]) z16q0 (by kernel_rfl) rfl rfl ⟨(bC Ba.out 0).trans rfl,(bC Ba.out 1).trans rfl,(bC Ba.out 2).trans rfl,(bC Ba.out 3).trans rfl,(bC Bc.out 0).trans rfl,(bC Bc.out 1).trans rfl⟩ (fun hHeld=>?_);refine with_st impl_QueueOk.tab4 impl_QueueOk.bits4 (fun _ _ _ _ _ h=>h) (fun HT_=>?_)
    generalize w19.drew=w20 at Bc Ba HB hHeld ⊢
    refine pS 0 13 z16q1 HT_ rfl rfl (by kernel_rfl) (by rfl) (by intro w';go_simp;with_reducible rfl) (by simp only [Act.put,lA,lZ,lS,iw,jw];rfl) ?_
    refine tS 1 14 z16q2 HT_ hHeld rfl rfl (by kernel_rfl) (by rfl) (by rintro w' ⟨s0,s1,s2,s3,s4,s5⟩;go_simp;with_reducible rfl) (by simp only [Act.put,lA,lZ,lS,iw,jw];rfl) ?_
    refine oS 2 15 z16q3 HT_ rfl rfl (by kernel_rfl) (by decide) (fun K hK=>?_)
    refine goes_ Try.func41 (by kernel_rfl) rfl #[.int .i64 ((rd_T40 l0_0 x8_1).f0),.int .i64 0,.int .i64 99] (by rfl) rfl rfl (by (try simp only [lM,lC,lN]);first|done|rfl|(simp only [lD,lT];rfl)) ?_
    with_reducible refine (impl_in.calls ((rd_T40 l0_0 x8_1).f0) 0 99 true _ A7.out).mono ?_
    rintro e w' ⟨rfl,⟨nd,rfl⟩⟩
    refine ⟨_,rfl,?_⟩
    refine hK.out _ _ ⟨(bC Ba.out 0).trans rfl,(bC Ba.out 1).trans rfl,(bC Ba.out 2).trans rfl,(bC Ba.out 3).trans rfl,(bC Bc.out 0).trans rfl,(bC Bc.out 1).trans rfl⟩ (fun hHeld=>?_)
    clear hK K
    refine norm_ (by show Act.put _ (some 15) _=_;simp only [Act.put,lA,lZ,lS,iw,jw];rfl) ?_
    refine pS 3 16 z16q4 HT_ rfl rfl (by kernel_rfl) (by rfl) (by intro w';go_simp;with_reducible rfl) (by simp only [Act.put,lA,lZ,lS,iw,jw];rfl) ?_
    refine pS 4 17 z16q5 HT_ rfl rfl (by kernel_rfl) (by rfl) (by intro w';go_simp;with_reducible rfl) (by simp only [Act.put,lA,lZ,lS,iw,jw];rfl) ?_
    refine pS 5 18 z16q6 HT_ rfl rfl (by kernel_rfl) (by rfl) (by intro w';go_simp;with_reducible rfl) (by simp only [Act.put,lA,lZ,lS,iw,jw];rfl) ?_
    refine tS 6 19 z16q7 HT_ hHeld rfl rfl (by kernel_rfl) (by rfl) (by rintro w' ⟨s0,s1,s2,s3,s4,s5⟩;go_simp;with_reducible rfl) (by simp only [Act.put,lA,lZ,lS,iw,jw];rfl) ?_
    refine oS 7 20 z16q8 HT_ rfl rfl (by kernel_rfl) (by decide) (fun K hK=>?_)
    refine goes_ Try.func41 (by kernel_rfl) rfl #[.int .i64 ((rd_T40 l0_0 x8_1).f1),.int .i64 1,.int .i64 6] (by rfl) rfl rfl (by (try simp only [lM,lC,lN]);first|done|rfl|(simp only [lD,lT];rfl)) ?_
    with_reducible refine (impl_in.calls ((rd_T40 l0_0 x8_1).f1) 1 6 true _ A9.out).mono ?_
    rintro e w' ⟨rfl,⟨nd,rfl⟩⟩
    refine ⟨_,rfl,?_⟩
    refine hK.out _ _ ⟨(bC Ba.out 0).trans rfl,(bC Ba.out 1).trans rfl,(bC Ba.out 2).trans rfl,(bC Ba.out 3).trans rfl,(bC Bc.out 0).trans rfl,(bC Bc.out 1).trans rfl⟩ (fun hHeld=>?_)
    clear hK K
    refine norm_ (by show Act.put _ (some 20) _=_;simp only [Act.put,lA,lZ,lS,iw,jw];rfl) ?_
    refine pS 8 21 z16q9 HT_ rfl rfl (by kernel_rfl) (by rfl) (by intro w';go_simp;with_reducible rfl) (by simp only [Act.put,lA,lZ,lS,iw,jw];rfl) ?_
    refine pS 9 22 z16q10 HT_ rfl rfl (by kernel_rfl) (by rfl) (by intro w';go_simp;with_reducible rfl) (by simp only [Act.put,lA,lZ,lS,iw,jw];rfl) ?_
    refine pS 10 23 z16q11 HT_ rfl rfl (by kernel_rfl) (by rfl) (by intro w';go_simp;with_reducible rfl) (by simp only [Act.put,lA,lZ,lS,iw,jw];rfl) ?_
    refine pS 11 24 z16q12 HT_ rfl rfl (by kernel_rfl) (by rfl) (by intro w';go_simp;with_reducible rfl) (by simp only [Act.put,lA,lZ,lS,iw,jw];rfl) ?_
    refine tS 12 25 z16q13 HT_ hHeld rfl rfl (by kernel_rfl) (by rfl) (by rintro w' ⟨s0,s1,s2,s3,s4,s5⟩;go_simp;with_reducible rfl) (by simp only [Act.put,lA,lZ,lS,iw,jw];rfl) ?_
    refine oS 13 26 z16q14 HT_ rfl rfl (by kernel_rfl) (by decide) (fun K hK=>?_)
    refine goes_ Try.func41 (by kernel_rfl) rfl #[.int .i64 ((rd_T40 l0_0 x8_1).f2),.int .i64 0,.int .i64 1000000] (by rfl) rfl rfl (by (try simp only [lM,lC,lN]);first|done|rfl|(simp only [lD,lT];rfl)) ?_
    with_reducible refine (impl_in.calls ((rd_T40 l0_0 x8_1).f2) 0 1000000 true _ A11.out).mono ?_
    rintro e w' ⟨rfl,⟨nd,rfl⟩⟩
    refine ⟨_,rfl,?_⟩
    refine hK.out _ _ ⟨(bC Ba.out 0).trans rfl,(bC Ba.out 1).trans rfl,(bC Ba.out 2).trans rfl,(bC Ba.out 3).trans rfl,(bC Bc.out 0).trans rfl,(bC Bc.out 1).trans rfl⟩ (fun hHeld=>?_)
    clear hK K
    refine norm_ (by show Act.put _ (some 26) _=_;simp only [Act.put,lA,lZ,lS,iw,jw];rfl) ?_
    refine pS 14 27 z16q15 HT_ rfl rfl (by kernel_rfl) (by rfl) (by intro w';go_simp;with_reducible rfl) (by simp only [Act.put,lA,lZ,lS,iw,jw];rfl) ?_
    refine pS 15 28 z16q16 HT_ rfl rfl (by kernel_rfl) (by rfl) (by intro w';go_simp;with_reducible rfl) (by simp only [Act.put,lA,lZ,lS,iw,jw];rfl) ?_
    refine pS 16 29 z16q17 HT_ rfl rfl (by kernel_rfl) (by rfl) (by intro w';go_simp;with_reducible rfl) (by simp only [Act.put,lA,lZ,lS,iw,jw];rfl) ?_
    refine pS 17 30 z16q18 HT_ rfl rfl (by kernel_rfl) (by rfl) (by intro w';go_simp;with_reducible rfl) (by simp only [Act.put,lA,lZ,lS,iw,jw];rfl) ?_
    refine tS 18 31 z16q19 HT_ hHeld rfl rfl (by kernel_rfl) (by rfl) (by rintro w' ⟨s0,s1,s2,s3,s4,s5⟩;go_simp;with_reducible rfl) (by simp only [Act.put,lA,lZ,lS,iw,jw];rfl) ?_
    refine pS 19 32 z16q20 HT_ rfl rfl (by kernel_rfl) (by rfl) (by intro w';go_simp;with_reducible rfl) (by simp only [Act.put,lA,lZ,lS,iw,jw];rfl) ?_
    refine pS 20 33 z16q21 HT_ rfl rfl (by kernel_rfl) (by rfl) (by intro w';go_simp;with_reducible rfl) (by simp only [Act.put,lA,lZ,lS,iw,jw];rfl) ?_
    refine pS 22 35 z16q22 HT_ rfl rfl (by kernel_rfl) (by rfl) (by intro w';go_simp;with_reducible rfl) (by simp only [Act.put,lA,lZ,lS,iw,jw];rfl) ?_
    refine tS 21 34 z16q23 HT_ hHeld rfl rfl (by kernel_rfl) (by rfl) (by rintro w' ⟨s0,s1,s2,s3,s4,s5⟩;go_simp;with_reducible rfl) (by simp only [Act.put,lA,lZ,lS,iw,jw];rfl) ?_
    refine tS 23 36 z16q24 HT_ hHeld rfl rfl (by kernel_rfl) (by rfl) (by rintro w' ⟨s0,s1,s2,s3,s4,s5⟩;go_simp;with_reducible rfl) (by simp only [Act.put,lA,lZ,lS,iw,jw];rfl) ?_
    refine pS 24 37 z16q25 HT_ rfl rfl (by kernel_rfl) (by rfl) (by intro w';go_simp;with_reducible rfl) (by simp only [Act.put,lA,lZ,lS,iw,jw];rfl) ?_
    refine pS 25 38 z16q26 HT_ rfl rfl (by kernel_rfl) (by rfl) (by intro w';go_simp;with_reducible rfl) (by simp only [Act.put,lA,lZ,lS,iw,jw];rfl) ?_
    refine pS 26 39 z16q27 HT_ rfl rfl (by kernel_rfl) (by rfl) (by intro w';go_simp;with_reducible rfl) (by simp only [Act.put,lA,lZ,lS,iw,jw];rfl) ?_
    refine pS 27 40 z16q28 HT_ rfl rfl (by kernel_rfl) (by rfl) (by intro w';go_simp;with_reducible rfl) (by simp only [Act.put,lA,lZ,lS,iw,jw];rfl) ?_
    refine vS 28 41 z16q29 HT_ rfl rfl (by kernel_rfl) (by rfl) (by simp only [Act.put,lA,lZ,lS,iw,jw];rfl) ?_
    refine vS 29 42 z16q30 HT_ rfl rfl (by kernel_rfl) (by rfl) (by simp only [Act.put,lA,lZ,lS,iw,jw];rfl) ?_
    refine vS 30 43 z16q31 HT_ rfl rfl (by kernel_rfl) (by rfl) (by simp only [Act.put,lA,lZ,lS,iw,jw];rfl) ?_
    refine vS 31 44 z16q32 HT_ rfl rfl (by kernel_rfl) (by rfl) (by simp only [Act.put,lA,lZ,lS,iw,jw];rfl) ?_
    refine vS 32 45 z16q33 HT_ rfl rfl (by kernel_rfl) (by rfl) (by simp only [Act.put,lA,lZ,lS,iw,jw];rfl) ?_
    refine vS 33 46 z16q34 HT_ rfl rfl (by kernel_rfl) (by rfl) (by simp only [Act.put,lA,lZ,lS,iw,jw];rfl) ?_
    refine vS 34 47 z16q35 HT_ rfl rfl (by kernel_rfl) (by rfl) (by simp only [Act.put,lA,lZ,lS,iw,jw];rfl) ?_
    refine vS 35 48 z16q36 HT_ rfl rfl (by kernel_rfl) (by rfl) (by simp only [Act.put,lA,lZ,lS,iw,jw];rfl) ?_
    refine vS 36 49 z16q37 HT_ rfl rfl (by kernel_rfl) (by rfl) (by simp only [Act.put,lA,lZ,lS,iw,jw];rfl) ?_
    refine vS 37 50 z16q38 HT_ rfl rfl (by kernel_rfl) (by rfl) (by simp only [Act.put,lA,lZ,lS,iw,jw];rfl) ?_
    refine vS 38 51 z16q39 HT_ rfl rfl (by kernel_rfl) (by rfl) (by simp only [Act.put,lA,lZ,lS,iw,jw];rfl) ?_
    refine vS 39 52 z16q40 HT_ rfl rfl (by kernel_rfl) (by rfl) (by simp only [Act.put,lA,lZ,lS,iw,jw];rfl) ?_
    refine vS 40 53 z16q41 HT_ rfl rfl (by kernel_rfl) (by rfl) (by simp only [Act.put,lA,lZ,lS,iw,jw];rfl) ?_
    refine vS 41 54 z16q42 HT_ rfl rfl (by kernel_rfl) (by rfl) (by simp only [Act.put,lA,lZ,lS,iw,jw];rfl) ?_
    refine pS 42 55 z16q43 HT_ rfl rfl (by kernel_rfl) (by rfl) (by intro w';go_simp;with_reducible rfl) (by simp only [Act.put,lA,lZ,lS,iw,jw];rfl) ?_
    refine done_ (done_of HT_.out (by kernel_rfl)) ?_
    try go_wp2
    go_ret
    exact ⟨by first|rfl|(simp [errW_none,errW_some] <;> rfl)|(simp [*,errW_none,errW_some] <;> rfl),by repeat (first|(with_reducible first|exact HB.out|apply oA|apply pN|apply o1|refine bS ?_ Be.out|refine bS ?_ Bh.out)|exact HB.out)⟩
   rw [if_neg c15] at H
   have c15b0:decide (((rd_T40 l0_0 x8_1).f2)<a0_1)=false:=decide_eq_false c15
   clear c15
   by_cases c21:x8_1 > 0
   rotate_left
   ·rw [if_neg c21] at H
    have c21b0:decide (0<x8_1)=false:=decide_eq_false c21
    clear c21
    have H':=Am H
    clear H
    have p107:0≤(x8_1:Int):=of_decide_eq_true (by first|(with_reducible assumption)|assumption)
    have q107:x8_1<(l0_0.length:Int):=of_decide_eq_true (by first|(with_reducible assumption)|assumption)
    obtain ⟨ad107,e107,hx107_0,hx107_1,hx107_2,hx107_3⟩:=at_T40 HR0_0.out x8_1 p107 q107
    (try rw [← Nbq13.out] at hx107_3)
    cases e107
    replace hx107_0:=(bW HB hx107_0:)
    replace hx107_1:=(bW HB hx107_1:)
    replace hx107_2:=(bW HB hx107_2:)
    replace hx107_3:=(bW HB hx107_3:)
    replace p107:=eq_true p107
    replace q107:=eq_true q107
    try go_wp2_with (first|((with_reducible refine gate_dst (N:=4) rfl ?_);refine box_event ?hg (N:=4) ?hd (cs:=#[.int .i64 0,.int .i64 0,.int .i64 0,.bool false]) (t:=40) ?hr ?_;(case hd=>rfl);(case hg=>rfl);(case hr=>first|(go_simp;done)|(go_simp;rfl));intro Bb hg w36 hbox hb;have n0_:=Am (bX Bc.out hb);have n1_:=Am (bP (by repeat (first|(with_reducible first|exact HB.out|apply oA|apply pN|apply o1|refine bS ?_ Be.out)|exact HB.out)) hb);have n2_:=Am (hbox);have n3_:=Am ((by rw [hg];exact (bZ (by repeat (first|(with_reducible first|exact HB.out|apply oA|apply pN|apply o1|refine bS ?_ Be.out)|exact HB.out))):w.heap.size≤Bb));have n4_:=Am ((by rw [hg];exact (bZ (by repeat (first|(with_reducible first|exact HB.out|apply oA|apply pN|apply o1|refine bS ?_ Be.out)|exact HB.out))):w.heap.size≤Bb));have n5_:=Am ((nL Bc.out hg));have n6_:=Am ((nG Bc.out hg));clear Bc HB;revert n0_ n1_ n2_ n3_ n4_ n5_ n6_;intro Bc HB Ba Bi Bh Bf Bg;clear hb hbox hg;have DV:=Bg.out;have DW:=Bf.out;have BL:=cz0 Ba.out;have BM:=cz1 Ba.out;have BN:=cz2 Ba.out;have BO:=cz3 Ba.out;have BP:=bF Ba.out 0;have BQ:=bF Ba.out 1;have BR:=bF Ba.out 2;have BS:=bF Ba.out 3))
    have n0_:Aside0 (((((w36.setCell ⟨Bb,0,none⟩ (.int .i64 ((rd_T40 l0_0 x8_1).f0))).setCell ⟨Bb,1,none⟩ (.int .i64 ((rd_T40 l0_0 x8_1).f1))).setCell ⟨Bb,2,none⟩ (.int .i64 ((rd_T40 l0_0 x8_1).f2))).setCell ⟨Bb,3,none⟩ (.bool true)).heap[Bd]?=some (.cells #[.slice (some ad107) l0_0.length c0_0,.int .i64 a0_1] 25 (0,0))):=⟨by (with_reducible repeat (first|refine bN ?_ _|refine bD ?_|refine bA ?_ _|refine blk_far ?_ Bf.out _));exact Bc.out⟩
    have n1_:Aside0 (((((w36.setCell ⟨Bb,0,none⟩ (.int .i64 ((rd_T40 l0_0 x8_1).f0))).setCell ⟨Bb,1,none⟩ (.int .i64 ((rd_T40 l0_0 x8_1).f1))).setCell ⟨Bb,2,none⟩ (.int .i64 ((rd_T40 l0_0 x8_1).f2))).setCell ⟨Bb,3,none⟩ (.bool true)).heap[Bb]?=some (.cells #[.int .i64 ((rd_T40 l0_0 x8_1).f0),.int .i64 ((rd_T40 l0_0 x8_1).f1),.int .i64 ((rd_T40 l0_0 x8_1).f2),.bool true] 40 (0,0))):=⟨by (with_reducible repeat (first|refine bN ?_ _|refine bD ?_|refine bA ?_ _));refine blk_put (cs:=#[.int .i64 ((rd_T40 l0_0 x8_1).f0),.int .i64 ((rd_T40 l0_0 x8_1).f1),.int .i64 ((rd_T40 l0_0 x8_1).f2),.bool false]) ?_ 3 _ rfl;(with_reducible repeat (first|refine bN ?_ _|refine bD ?_|refine bA ?_ _));refine blk_put (cs:=#[.int .i64 ((rd_T40 l0_0 x8_1).f0),.int .i64 ((rd_T40 l0_0 x8_1).f1),.int .i64 0,.bool false]) ?_ 2 _ rfl;(with_reducible repeat (first|refine bN ?_ _|refine bD ?_|refine bA ?_ _));refine blk_put (cs:=#[.int .i64 ((rd_T40 l0_0 x8_1).f0),.int .i64 0,.int .i64 0,.bool false]) ?_ 1 _ rfl;(with_reducible repeat (first|refine bN ?_ _|refine bD ?_|refine bA ?_ _));refine blk_put (cs:=#[.int .i64 0,.int .i64 0,.int .i64 0,.bool false]) ?_ 0 _ rfl;(with_reducible repeat (first|refine bN ?_ _|refine bD ?_|refine bA ?_ _));exact Ba.out⟩
    have n2_:Aside0 (Below w.heap.size w ((((w36.setCell ⟨Bb,0,none⟩ (.int .i64 ((rd_T40 l0_0 x8_1).f0))).setCell ⟨Bb,1,none⟩ (.int .i64 ((rd_T40 l0_0 x8_1).f1))).setCell ⟨Bb,2,none⟩ (.int .i64 ((rd_T40 l0_0 x8_1).f2))).setCell ⟨Bb,3,none⟩ (.bool true))):=⟨by repeat (first|(with_reducible first|exact HB.out|apply oA|apply pN|apply o1|refine bS ?_ Be.out|refine bS ?_ Bh.out)|exact HB.out)⟩
    (try clear Bc)
    (try clear Ba)
    (try clear HB)
    generalize ((((w36.setCell ⟨Bb,0,none⟩ (.int .i64 ((rd_T40 l0_0 x8_1).f0))).setCell ⟨Bb,1,none⟩ (.int .i64 ((rd_T40 l0_0 x8_1).f1))).setCell ⟨Bb,2,none⟩ (.int .i64 ((rd_T40 l0_0 x8_1).f2))).setCell ⟨Bb,3,none⟩ (.bool true))=w39 at n0_ n1_ n2_ ⊢
    have Bc:=n0_
    have Ba:=n1_
    have HB:=n2_
    clear n0_ n1_ n2_
    have n0_:=Am (bD Bc.out)
    have n1_:=Am (bD Ba.out)
    have n2_:=Am (o1 HB.out)
    clear Bc
    clear Ba
    clear HB
    have Bc:=n0_
    have Ba:=n1_
    have HB:=n2_
    clear n0_ n1_ n2_
    refine start_ (n:=43) (S:=fun w'=>w'.cell? ⟨Bb,0,none⟩=some (.int .i64 ((rd_T40 l0_0 x8_1).f0))∧w'.cell? ⟨Bb,1,none⟩=some (.int .i64 ((rd_T40 l0_0 x8_1).f1))∧w'.cell? ⟨Bb,2,none⟩=some (.int .i64 ((rd_T40 l0_0 x8_1).f2))∧w'.cell? ⟨Bb,3,none⟩=some (.bool true)∧w'.cell? ⟨Bd,0,none⟩=some (.slice (some ad107) l0_0.length c0_0)∧w'.cell? ⟨Bd,1,none⟩=some (.int .i64 a0_1)) (ds:=[]) z16q0 (by kernel_rfl) rfl rfl ⟨(bC Ba.out 0).trans rfl,(bC Ba.out 1).trans rfl,(bC Ba.out 2).trans rfl,(bC Ba.out 3).trans rfl,(bC Bc.out 0).trans rfl,(bC Bc.out 1).trans rfl⟩ (fun hHeld=>?_);refine with_st impl_QueueOk.tab4 impl_QueueOk.bits4 (fun _ _ _ _ _ h=>h) (fun HT_=>?_)
    generalize w39.drew=w40 at Bc Ba HB hHeld ⊢
    refine pS 0 13 z16q1 HT_ rfl rfl (by kernel_rfl) (by rfl) (by intro w';go_simp;with_reducible rfl) (by simp only [Act.put,lA,lZ,lS,iw,jw];rfl) ?_
    refine tS 1 14 z16q2 HT_ hHeld rfl rfl (by kernel_rfl) (by rfl) (by rintro w' ⟨s0,s1,s2,s3,s4,s5⟩;go_simp;with_reducible rfl) (by simp only [Act.put,lA,lZ,lS,iw,jw];rfl) ?_
    refine oS 2 15 z16q3 HT_ rfl rfl (by kernel_rfl) (by decide) (fun K hK=>?_)
    refine goes_ Try.func41 (by kernel_rfl) rfl #[.int .i64 ((rd_T40 l0_0 x8_1).f0),.int .i64 0,.int .i64 99] (by rfl) rfl rfl (by (try simp only [lM,lC,lN]);first|done|rfl|(simp only [lD,lT];rfl)) ?_
    with_reducible refine (impl_in.calls ((rd_T40 l0_0 x8_1).f0) 0 99 true _ A7.out).mono ?_
    rintro e w' ⟨rfl,⟨nd,rfl⟩⟩
    refine ⟨_,rfl,?_⟩
    refine hK.out _ _ ⟨(bC Ba.out 0).trans rfl,(bC Ba.out 1).trans rfl,(bC Ba.out 2).trans rfl,(bC Ba.out 3).trans rfl,(bC Bc.out 0).trans rfl,(bC Bc.out 1).trans rfl⟩ (fun hHeld=>?_)
    clear hK K
    refine norm_ (by show Act.put _ (some 15) _=_;simp only [Act.put,lA,lZ,lS,iw,jw];rfl) ?_
    refine pS 3 16 z16q4 HT_ rfl rfl (by kernel_rfl) (by rfl) (by intro w';go_simp;with_reducible rfl) (by simp only [Act.put,lA,lZ,lS,iw,jw];rfl) ?_
    refine pS 4 17 z16q5 HT_ rfl rfl (by kernel_rfl) (by rfl) (by intro w';go_simp;with_reducible rfl) (by simp only [Act.put,lA,lZ,lS,iw,jw];rfl) ?_
    refine pS 5 18 z16q6 HT_ rfl rfl (by kernel_rfl) (by rfl) (by intro w';go_simp;with_reducible rfl) (by simp only [Act.put,lA,lZ,lS,iw,jw];rfl) ?_
    refine tS 6 19 z16q7 HT_ hHeld rfl rfl (by kernel_rfl) (by rfl) (by rintro w' ⟨s0,s1,s2,s3,s4,s5⟩;go_simp;with_reducible rfl) (by simp only [Act.put,lA,lZ,lS,iw,jw];rfl) ?_
    refine oS 7 20 z16q8 HT_ rfl rfl (by kernel_rfl) (by decide) (fun K hK=>?_)
    refine goes_ Try.func41 (by kernel_rfl) rfl #[.int .i64 ((rd_T40 l0_0 x8_1).f1),.int .i64 1,.int .i64 6] (by rfl) rfl rfl (by (try simp only [lM,lC,lN]);first|done|rfl|(simp only [lD,lT];rfl)) ?_
    with_reducible refine (impl_in.calls ((rd_T40 l0_0 x8_1).f1) 1 6 true _ A9.out).mono ?_
    rintro e w' ⟨rfl,⟨nd,rfl⟩⟩
    refine ⟨_,rfl,?_⟩
    refine hK.out _ _ ⟨(bC Ba.out 0).trans rfl,(bC Ba.out 1).trans rfl,(bC Ba.out 2).trans rfl,(bC Ba.out 3).trans rfl,(bC Bc.out 0).trans rfl,(bC Bc.out 1).trans rfl⟩ (fun hHeld=>?_)
    clear hK K
    refine norm_ (by show Act.put _ (some 20) _=_;simp only [Act.put,lA,lZ,lS,iw,jw];rfl) ?_
    refine pS 8 21 z16q9 HT_ rfl rfl (by kernel_rfl) (by rfl) (by intro w';go_simp;with_reducible rfl) (by simp only [Act.put,lA,lZ,lS,iw,jw];rfl) ?_
    refine pS 9 22 z16q10 HT_ rfl rfl (by kernel_rfl) (by rfl) (by intro w';go_simp;with_reducible rfl) (by simp only [Act.put,lA,lZ,lS,iw,jw];rfl) ?_
    refine pS 10 23 z16q11 HT_ rfl rfl (by kernel_rfl) (by rfl) (by intro w';go_simp;with_reducible rfl) (by simp only [Act.put,lA,lZ,lS,iw,jw];rfl) ?_
    refine pS 11 24 z16q12 HT_ rfl rfl (by kernel_rfl) (by rfl) (by intro w';go_simp;with_reducible rfl) (by simp only [Act.put,lA,lZ,lS,iw,jw];rfl) ?_
    refine tS 12 25 z16q13 HT_ hHeld rfl rfl (by kernel_rfl) (by rfl) (by rintro w' ⟨s0,s1,s2,s3,s4,s5⟩;go_simp;with_reducible rfl) (by simp only [Act.put,lA,lZ,lS,iw,jw];rfl) ?_
    refine oS 13 26 z16q14 HT_ rfl rfl (by kernel_rfl) (by decide) (fun K hK=>?_)
    refine goes_ Try.func41 (by kernel_rfl) rfl #[.int .i64 ((rd_T40 l0_0 x8_1).f2),.int .i64 0,.int .i64 1000000] (by rfl) rfl rfl (by (try simp only [lM,lC,lN]);first|done|rfl|(simp only [lD,lT];rfl)) ?_
    with_reducible refine (impl_in.calls ((rd_T40 l0_0 x8_1).f2) 0 1000000 true _ A11.out).mono ?_
    rintro e w' ⟨rfl,⟨nd,rfl⟩⟩
    refine ⟨_,rfl,?_⟩
    refine hK.out _ _ ⟨(bC Ba.out 0).trans rfl,(bC Ba.out 1).trans rfl,(bC Ba.out 2).trans rfl,(bC Ba.out 3).trans rfl,(bC Bc.out 0).trans rfl,(bC Bc.out 1).trans rfl⟩ (fun hHeld=>?_)
    clear hK K
    refine norm_ (by show Act.put _ (some 26) _=_;simp only [Act.put,lA,lZ,lS,iw,jw];rfl) ?_
    refine pS 14 27 z16q15 HT_ rfl rfl (by kernel_rfl) (by rfl) (by intro w';go_simp;with_reducible rfl) (by simp only [Act.put,lA,lZ,lS,iw,jw];rfl) ?_
    refine pS 15 28 z16q16 HT_ rfl rfl (by kernel_rfl) (by rfl) (by intro w';go_simp;with_reducible rfl) (by simp only [Act.put,lA,lZ,lS,iw,jw];rfl) ?_
    refine pS 16 29 z16q17 HT_ rfl rfl (by kernel_rfl) (by rfl) (by intro w';go_simp;with_reducible rfl) (by simp only [Act.put,lA,lZ,lS,iw,jw];rfl) ?_
    refine pS 17 30 z16q18 HT_ rfl rfl (by kernel_rfl) (by rfl) (by intro w';go_simp;with_reducible rfl) (by simp only [Act.put,lA,lZ,lS,iw,jw];rfl) ?_
    refine tS 18 31 z16q19 HT_ hHeld rfl rfl (by kernel_rfl) (by rfl) (by rintro w' ⟨s0,s1,s2,s3,s4,s5⟩;go_simp;with_reducible rfl) (by simp only [Act.put,lA,lZ,lS,iw,jw];rfl) ?_
    refine pS 19 32 z16q20 HT_ rfl rfl (by kernel_rfl) (by rfl) (by intro w';go_simp;with_reducible rfl) (by simp only [Act.put,lA,lZ,lS,iw,jw];rfl) ?_
    refine pS 20 33 z16q21 HT_ rfl rfl (by kernel_rfl) (by rfl) (by intro w';go_simp;with_reducible rfl) (by simp only [Act.put,lA,lZ,lS,iw,jw];rfl) ?_
    refine pS 22 35 z16q22 HT_ rfl rfl (by kernel_rfl) (by rfl) (by intro w';go_simp;with_reducible rfl) (by simp only [Act.put,lA,lZ,lS,iw,jw];rfl) ?_
    refine tS 21 34 z16q23 HT_ hHeld rfl rfl (by kernel_rfl) (by rfl) (by rintro w' ⟨s0,s1,s2,s3,s4,s5⟩;go_simp;with_reducible rfl) (by simp only [Act.put,lA,lZ,lS,iw,jw];rfl) ?_
    refine tS 23 36 z16q24 HT_ hHeld rfl rfl (by kernel_rfl) (by rfl) (by rintro w' ⟨s0,s1,s2,s3,s4,s5⟩;go_simp;with_reducible rfl) (by simp only [Act.put,lA,lZ,lS,iw,jw];rfl) ?_
    refine pS 24 37 z16q25 HT_ rfl rfl (by kernel_rfl) (by rfl) (by intro w';go_simp;with_reducible rfl) (by simp only [Act.put,lA,lZ,lS,iw,jw];rfl) ?_
    refine pS 25 38 z16q26 HT_ rfl rfl (by kernel_rfl) (by rfl) (by intro w';go_simp;with_reducible rfl) (by simp only [Act.put,lA,lZ,lS,iw,jw];rfl) ?_
    refine pS 26 39 z16q27 HT_ rfl rfl (by kernel_rfl) (by rfl) (by intro w';go_simp;with_reducible rfl) (by simp only [Act.put,lA,lZ,lS,iw,jw];rfl) ?_
    refine pS 27 40 z16q28 HT_ rfl rfl (by kernel_rfl) (by rfl) (by intro w';go_simp;with_reducible rfl) (by simp only [Act.put,lA,lZ,lS,iw,jw];rfl) ?_
    refine pS 28 41 z16q29 HT_ rfl rfl (by kernel_rfl) (by rfl) (by intro w';go_simp;with_reducible rfl) (by simp only [Act.put,lA,lZ,lS,iw,jw];rfl) ?_
    refine pS 29 42 z16q30 HT_ rfl rfl (by kernel_rfl) (by rfl) (by intro w';go_simp;with_reducible rfl) (by simp only [Act.put,lA,lZ,lS,iw,jw];rfl) ?_
    refine pS 30 43 z16q31 HT_ rfl rfl (by kernel_rfl) (by rfl) (by intro w';go_simp;with_reducible rfl) (by simp only [Act.put,lA,lZ,lS,iw,jw];rfl) ?_
    refine vS 31 44 z16q32 HT_ rfl rfl (by kernel_rfl) (by rfl) (by simp only [Act.put,lA,lZ,lS,iw,jw];rfl) ?_
    refine vS 32 45 z16q33 HT_ rfl rfl (by kernel_rfl) (by rfl) (by simp only [Act.put,lA,lZ,lS,iw,jw];rfl) ?_
    refine vS 33 46 z16q34 HT_ rfl rfl (by kernel_rfl) (by rfl) (by simp only [Act.put,lA,lZ,lS,iw,jw];rfl) ?_
    refine vS 34 47 z16q35 HT_ rfl rfl (by kernel_rfl) (by rfl) (by simp only [Act.put,lA,lZ,lS,iw,jw];rfl) ?_
    refine vS 35 48 z16q36 HT_ rfl rfl (by kernel_rfl) (by rfl) (by simp only [Act.put,lA,lZ,lS,iw,jw];rfl) ?_
    refine vS 36 49 z16q37 HT_ rfl rfl (by kernel_rfl) (by rfl) (by simp only [Act.put,lA,lZ,lS,iw,jw];rfl) ?_
    refine vS 37 50 z16q38 HT_ rfl rfl (by kernel_rfl) (by rfl) (by simp only [Act.put,lA,lZ,lS,iw,jw];rfl) ?_
    refine vS 38 51 z16q39 HT_ rfl rfl (by kernel_rfl) (by rfl) (by simp only [Act.put,lA,lZ,lS,iw,jw];rfl) ?_
    refine vS 39 52 z16q40 HT_ rfl rfl (by kernel_rfl) (by rfl) (by simp only [Act.put,lA,lZ,lS,iw,jw];rfl) ?_
    refine vS 40 53 z16q41 HT_ rfl rfl (by kernel_rfl) (by rfl) (by simp only [Act.put,lA,lZ,lS,iw,jw];rfl) ?_
    refine pS 41 54 z16q42 HT_ rfl rfl (by kernel_rfl) (by rfl) (by intro w';go_simp;with_reducible rfl) (by simp only [Act.put,lA,lZ,lS,iw,jw];rfl) ?_
    refine pS 42 55 z16q43 HT_ rfl rfl (by kernel_rfl) (by rfl) (by intro w';go_simp;with_reducible rfl) (by simp only [Act.put,lA,lZ,lS,iw,jw];rfl) ?_
    refine done_ (done_of HT_.out (by kernel_rfl)) ?_
    try go_wp2
    go_roundg k1
    case measure=>have:=HK1.out;omega
    case rel=>exact ⟨(wrap64 (x8_1 + 1)),(by first|rfl|(simp;done)|(simp [*];done)),H',⟨by have:=HK1.out;omega⟩,⟨by (with_reducible repeat (first|refine bN ?_ _|refine bD ?_|refine bA ?_ _));exact Bc.out⟩,⟨by repeat (first|(with_reducible first|exact HB.out|apply oA|apply pN|apply o1|refine bS ?_ Be.out|refine bS ?_ Bh.out)|exact HB.out)⟩⟩
   rw [if_pos c21] at H
   have c21b0:decide (0<x8_1)=true:=decide_eq_true c21
   clear c21
   obtain ⟨ji22,hji22⟩:∃ j_:Int,(wrap64 (x8_1 - 1))=j_:=⟨_,rfl⟩
   replace H:(if 0≤(ji22) then (if (ji22)<(l0_0.length:Int) then (if ((rd_T40 l0_0 (ji22)).f0) ≥ ((rd_T40 l0_0 x8_1).f0) then (some false) else (impl_QueueOk.l0 k1 l0_0 (l0_0.length:Int) (wrap64 (x8_1 + 1)) l0_0 a0_1)) else (none)) else (none))=some r:=by first|(rw [hji22] at H;exact H)|(simp only [hji22] at H ⊢;exact H)
   (try rw [hji22] at A7)
   (try rw [hji22] at A9)
   (try rw [hji22] at A11)
   have hji22w:(IntKind.i64.wrap (x8_1 - 1))=ji22:=(i64_w _).trans hji22
   by_cases c23:0≤(ji22)
   rotate_left
   ·rw [if_neg c23] at H
    exact absurd H (by simp)
   rw [if_pos c23] at H
   have c23b0:decide (0≤(ji22))=true:=decide_eq_true c23
   clear c23
   by_cases c24:(ji22)<(l0_0.length:Int)
   rotate_left
   ·rw [if_neg c24] at H
    exact absurd H (by simp)
   rw [if_pos c24] at H
   have c24b0:decide ((ji22)<(l0_0.length:Int))=true:=decide_eq_true c24
   clear c24
   by_cases c25:((rd_T40 l0_0 (ji22)).f0) ≥ ((rd_T40 l0_0 x8_1).f0)
   ·rw [if_pos c25] at H
    have c25b0:decide (((rd_T40 l0_0 x8_1).f0)≤((rd_T40 l0_0 (ji22)).f0))=true:=decide_eq_true c25
    clear c25
    obtain rfl:=Option.some.inj H
    have p107:0≤(x8_1:Int):=of_decide_eq_true (by first|(with_reducible assumption)|assumption)
    have q107:x8_1<(l0_0.length:Int):=of_decide_eq_true (by first|(with_reducible assumption)|assumption)
    obtain ⟨ad107,e107,hx107_0,hx107_1,hx107_2,hx107_3⟩:=at_T40 HR0_0.out x8_1 p107 q107
    (try rw [← Nbq13.out] at hx107_3)
    cases e107
    replace hx107_0:=(bW HB hx107_0:)
    replace hx107_1:=(bW HB hx107_1:)
    replace hx107_2:=(bW HB hx107_2:)
    replace hx107_3:=(bW HB hx107_3:)
    replace p107:=eq_true p107
    replace q107:=eq_true q107
    try go_wp2_with (first|((with_reducible refine gate_dst (N:=4) rfl ?_);refine box_event ?hg (N:=4) ?hd (cs:=#[.int .i64 0,.int .i64 0,.int .i64 0,.bool false]) (t:=40) ?hr ?_;(case hd=>rfl);(case hg=>rfl);(case hr=>first|(go_simp;done)|(go_simp;rfl));intro Bb hg w26 hbox hb;have n0_:=Am (bX Bc.out hb);have n1_:=Am (bP (by repeat (first|(with_reducible first|exact HB.out|apply oA|apply pN|apply o1|refine bS ?_ Be.out)|exact HB.out)) hb);have n2_:=Am (hbox);have n3_:=Am ((by rw [hg];exact (bZ (by repeat (first|(with_reducible first|exact HB.out|apply oA|apply pN|apply o1|refine bS ?_ Be.out)|exact HB.out))):w.heap.size≤Bb));have n4_:=Am ((by rw [hg];exact (bZ (by repeat (first|(with_reducible first|exact HB.out|apply oA|apply pN|apply o1|refine bS ?_ Be.out)|exact HB.out))):w.heap.size≤Bb));have n5_:=Am ((nL Bc.out hg));have n6_:=Am ((nG Bc.out hg));clear Bc HB;revert n0_ n1_ n2_ n3_ n4_ n5_ n6_;intro Bc HB Ba Bi Bh Bf Bg;clear hb hbox hg;have DR:=Bg.out;have DS:=Bf.out;have Bv:=cz0 Ba.out;have Bw:=cz1 Ba.out;have Bx:=cz2 Ba.out;have By:=cz3 Ba.out;have Bz:=bF Ba.out 0;have BA:=bF Ba.out 1;have BB:=bF Ba.out 2;have BC:=bF Ba.out 3))
    have n0_:Aside0 (((((w26.setCell ⟨Bb,0,none⟩ (.int .i64 ((rd_T40 l0_0 x8_1).f0))).setCell ⟨Bb,1,none⟩ (.int .i64 ((rd_T40 l0_0 x8_1).f1))).setCell ⟨Bb,2,none⟩ (.int .i64 ((rd_T40 l0_0 x8_1).f2))).setCell ⟨Bb,3,none⟩ (.bool true)).heap[Bd]?=some (.cells #[.slice (some ad107) l0_0.length c0_0,.int .i64 a0_1] 25 (0,0))):=⟨by (with_reducible repeat (first|refine bN ?_ _|refine bD ?_|refine bA ?_ _|refine blk_far ?_ Bf.out _));exact Bc.out⟩
    have n1_:Aside0 (((((w26.setCell ⟨Bb,0,none⟩ (.int .i64 ((rd_T40 l0_0 x8_1).f0))).setCell ⟨Bb,1,none⟩ (.int .i64 ((rd_T40 l0_0 x8_1).f1))).setCell ⟨Bb,2,none⟩ (.int .i64 ((rd_T40 l0_0 x8_1).f2))).setCell ⟨Bb,3,none⟩ (.bool true)).heap[Bb]?=some (.cells #[.int .i64 ((rd_T40 l0_0 x8_1).f0),.int .i64 ((rd_T40 l0_0 x8_1).f1),.int .i64 ((rd_T40 l0_0 x8_1).f2),.bool true] 40 (0,0))):=⟨by (with_reducible repeat (first|refine bN ?_ _|refine bD ?_|refine bA ?_ _));refine blk_put (cs:=#[.int .i64 ((rd_T40 l0_0 x8_1).f0),.int .i64 ((rd_T40 l0_0 x8_1).f1),.int .i64 ((rd_T40 l0_0 x8_1).f2),.bool false]) ?_ 3 _ rfl;(with_reducible repeat (first|refine bN ?_ _|refine bD ?_|refine bA ?_ _));refine blk_put (cs:=#[.int .i64 ((rd_T40 l0_0 x8_1).f0),.int .i64 ((rd_T40 l0_0 x8_1).f1),.int .i64 0,.bool false]) ?_ 2 _ rfl;(with_reducible repeat (first|refine bN ?_ _|refine bD ?_|refine bA ?_ _));refine blk_put (cs:=#[.int .i64 ((rd_T40 l0_0 x8_1).f0),.int .i64 0,.int .i64 0,.bool false]) ?_ 1 _ rfl;(with_reducible repeat (first|refine bN ?_ _|refine bD ?_|refine bA ?_ _));refine blk_put (cs:=#[.int .i64 0,.int .i64 0,.int .i64 0,.bool false]) ?_ 0 _ rfl;(with_reducible repeat (first|refine bN ?_ _|refine bD ?_|refine bA ?_ _));exact Ba.out⟩
    have n2_:Aside0 (Below w.heap.size w ((((w26.setCell ⟨Bb,0,none⟩ (.int .i64 ((rd_T40 l0_0 x8_1).f0))).setCell ⟨Bb,1,none⟩ (.int .i64 ((rd_T40 l0_0 x8_1).f1))).setCell ⟨Bb,2,none⟩ (.int .i64 ((rd_T40 l0_0 x8_1).f2))).setCell ⟨Bb,3,none⟩ (.bool true))):=⟨by repeat (first|(with_reducible first|exact HB.out|apply oA|apply pN|apply o1|refine bS ?_ Be.out|refine bS ?_ Bh.out)|exact HB.out)⟩
    (try clear Bc)
    (try clear Ba)
    (try clear HB)
    generalize ((((w26.setCell ⟨Bb,0,none⟩ (.int .i64 ((rd_T40 l0_0 x8_1).f0))).setCell ⟨Bb,1,none⟩ (.int .i64 ((rd_T40 l0_0 x8_1).f1))).setCell ⟨Bb,2,none⟩ (.int .i64 ((rd_T40 l0_0 x8_1).f2))).setCell ⟨Bb,3,none⟩ (.bool true))=w29 at n0_ n1_ n2_ ⊢
    have Bc:=n0_
    have Ba:=n1_
    have HB:=n2_
    clear n0_ n1_ n2_
    have n0_:=Am (bD Bc.out)
    have n1_:=Am (bD Ba.out)
    have n2_:=Am (o1 HB.out)
    clear Bc
    clear Ba
    clear HB
    have Bc:=n0_
    have Ba:=n1_
    have HB:=n2_
    clear n0_ n1_ n2_
    have p112:0≤((ji22):Int):=of_decide_eq_true (by first|(with_reducible assumption)|assumption)
    have q112:(ji22)<(l0_0.length:Int):=of_decide_eq_true (by first|(with_reducible assumption)|assumption)
    obtain ⟨ad112,e112,hx112_0,hx112_1,hx112_2,hx112_3⟩:=at_T40 HR0_0.out (ji22) p112 q112
    have hw112_3:=hx112_3
    have hw112_2:=hx112_2
    have hw112_1:=hx112_1
    have hw112_0:=hx112_0
    (try rw [← Nbq13.out] at hx112_3)
    obtain rfl:ad107=ad112:=(by injection e112)
    replace hx112_0:=(bW HB hx112_0:)
    replace hx112_1:=(bW HB hx112_1:)
    replace hx112_2:=(bW HB hx112_2:)
    replace hx112_3:=(bW HB hx112_3:)
    replace p112:=eq_true p112
    replace q112:=eq_true q112
    refine start_ (n:=43) (S:=fun w'=>w'.cell? ⟨Bb,0,none⟩=some (.int .i64 ((rd_T40 l0_0 x8_1).f0))∧w'.cell? ⟨Bb,1,none⟩=some (.int .i64 ((rd_T40 l0_0 x8_1).f1))∧w'.cell? ⟨Bb,2,none⟩=some (.int .i64 ((rd_T40 l0_0 x8_1).f2))∧w'.cell? ⟨Bb,3,none⟩=some (.bool true)∧w'.cell? ⟨Bd,0,none⟩=some (.slice (some ad107) l0_0.length c0_0)∧w'.cell? ⟨Bd,1,none⟩=some (.int .i64 a0_1)∧w'.cell? (ad107.add (((ji22)).toNat * 4))=some (.int .i64 ((rd_T40 l0_0 (ji22)).f0))∧w'.cell? ⟨(ad107.add (((ji22)).toNat * 4)).block,(ad107.add (((ji22)).toNat * 4)).off + 1,none⟩=some (.int .i64 ((rd_T40 l0_0 (ji22)).f1))∧w'.cell? ⟨(ad107.add (((ji22)).toNat * 4)).block,(ad107.add (((ji22)).toNat * 4)).off + 2,none⟩=some (.int .i64 ((rd_T40 l0_0 (ji22)).f2))∧w'.cell? ⟨(ad107.add (((ji22)).toNat * 4)).block,(ad107.add (((ji22)).toNat * 4)).off + 3,none⟩=some (.bool ((rd_T40 l0_0 (ji22)).f3))) (ds:=[]) z16q0 (by kernel_rfl) rfl rfl ⟨(bC Ba.out 0).trans rfl,(bC Ba.out 1).trans rfl,(bC Ba.out 2).trans rfl,(bC Ba.out 3).trans rfl,(bC Bc.out 0).trans rfl,(bC Bc.out 1).trans rfl,(bW HB hw112_0:),(bW HB hw112_1:),(bW HB hw112_2:),(bW HB hw112_3:)⟩ (fun hHeld=>?_);refine with_st impl_QueueOk.tab4 impl_QueueOk.bits4 (fun _ _ _ _ _ h=>h) (fun HT_=>?_)
    generalize w29.drew=w30 at Bc Ba HB hx112_0 hx112_1 hx112_2 hx112_3 hHeld ⊢
    refine pS 0 13 z16q1 HT_ rfl rfl (by kernel_rfl) (by rfl) (by intro w';go_simp;with_reducible rfl) (by simp only [Act.put,lA,lZ,lS,iw,jw];rfl) ?_
    refine tS 1 14 z16q2 HT_ hHeld rfl rfl (by kernel_rfl) (by rfl) (by rintro w' ⟨s0,s1,s2,s3,s4,s5,s6,s7,s8,s9⟩;go_simp;with_reducible rfl) (by simp only [Act.put,lA,lZ,lS,iw,jw];rfl) ?_
    refine oS 2 15 z16q3 HT_ rfl rfl (by kernel_rfl) (by decide) (fun K hK=>?_)
    refine goes_ Try.func41 (by kernel_rfl) rfl #[.int .i64 ((rd_T40 l0_0 x8_1).f0),.int .i64 0,.int .i64 99] (by rfl) rfl rfl (by (try simp only [lM,lC,lN]);first|done|rfl|(simp only [lD,lT];rfl)) ?_
    with_reducible refine (impl_in.calls ((rd_T40 l0_0 x8_1).f0) 0 99 true _ A7.out).mono ?_
    rintro e w' ⟨rfl,⟨nd,rfl⟩⟩
    refine ⟨_,rfl,?_⟩
    refine hK.out _ _ ⟨(bC Ba.out 0).trans rfl,(bC Ba.out 1).trans rfl,(bC Ba.out 2).trans rfl,(bC Ba.out 3).trans rfl,(bC Bc.out 0).trans rfl,(bC Bc.out 1).trans rfl,(bW HB hw112_0:),(bW HB hw112_1:),(bW HB hw112_2:),(bW HB hw112_3:)⟩ (fun hHeld=>?_)
    clear hK K
    refine norm_ (by show Act.put _ (some 15) _=_;simp only [Act.put,lA,lZ,lS,iw,jw];rfl) ?_
    refine pS 3 16 z16q4 HT_ rfl rfl (by kernel_rfl) (by rfl) (by intro w';go_simp;with_reducible rfl) (by simp only [Act.put,lA,lZ,lS,iw,jw];rfl) ?_
    refine pS 4 17 z16q5 HT_ rfl rfl (by kernel_rfl) (by rfl) (by intro w';go_simp;with_reducible rfl) (by simp only [Act.put,lA,lZ,lS,iw,jw];rfl) ?_
    refine pS 5 18 z16q6 HT_ rfl rfl (by kernel_rfl) (by rfl) (by intro w';go_simp;with_reducible rfl) (by simp only [Act.put,lA,lZ,lS,iw,jw];rfl) ?_
    refine tS 6 19 z16q7 HT_ hHeld rfl rfl (by kernel_rfl) (by rfl) (by rintro w' ⟨s0,s1,s2,s3,s4,s5,s6,s7,s8,s9⟩;go_simp;with_reducible rfl) (by simp only [Act.put,lA,lZ,lS,iw,jw];rfl) ?_
    refine oS 7 20 z16q8 HT_ rfl rfl (by kernel_rfl) (by decide) (fun K hK=>?_)
    refine goes_ Try.func41 (by kernel_rfl) rfl #[.int .i64 ((rd_T40 l0_0 x8_1).f1),.int .i64 1,.int .i64 6] (by rfl) rfl rfl (by (try simp only [lM,lC,lN]);first|done|rfl|(simp only [lD,lT];rfl)) ?_
    with_reducible refine (impl_in.calls ((rd_T40 l0_0 x8_1).f1) 1 6 true _ A9.out).mono ?_
    rintro e w' ⟨rfl,⟨nd,rfl⟩⟩
    refine ⟨_,rfl,?_⟩
    refine hK.out _ _ ⟨(bC Ba.out 0).trans rfl,(bC Ba.out 1).trans rfl,(bC Ba.out 2).trans rfl,(bC Ba.out 3).trans rfl,(bC Bc.out 0).trans rfl,(bC Bc.out 1).trans rfl,(bW HB hw112_0:),(bW HB hw112_1:),(bW HB hw112_2:),(bW HB hw112_3:)⟩ (fun hHeld=>?_)
    clear hK K
    refine norm_ (by show Act.put _ (some 20) _=_;simp only [Act.put,lA,lZ,lS,iw,jw];rfl) ?_
    refine pS 8 21 z16q9 HT_ rfl rfl (by kernel_rfl) (by rfl) (by intro w';go_simp;with_reducible rfl) (by simp only [Act.put,lA,lZ,lS,iw,jw];rfl) ?_
    refine pS 9 22 z16q10 HT_ rfl rfl (by kernel_rfl) (by rfl) (by intro w';go_simp;with_reducible rfl) (by simp only [Act.put,lA,lZ,lS,iw,jw];rfl) ?_
    refine pS 10 23 z16q11 HT_ rfl rfl (by kernel_rfl) (by rfl) (by intro w';go_simp;with_reducible rfl) (by simp only [Act.put,lA,lZ,lS,iw,jw];rfl) ?_
    refine pS 11 24 z16q12 HT_ rfl rfl (by kernel_rfl) (by rfl) (by intro w';go_simp;with_reducible rfl) (by simp only [Act.put,lA,lZ,lS,iw,jw];rfl) ?_
    refine tS 12 25 z16q13 HT_ hHeld rfl rfl (by kernel_rfl) (by rfl) (by rintro w' ⟨s0,s1,s2,s3,s4,s5,s6,s7,s8,s9⟩;go_simp;with_reducible rfl) (by simp only [Act.put,lA,lZ,lS,iw,jw];rfl) ?_
    refine oS 13 26 z16q14 HT_ rfl rfl (by kernel_rfl) (by decide) (fun K hK=>?_)
    refine goes_ Try.func41 (by kernel_rfl) rfl #[.int .i64 ((rd_T40 l0_0 x8_1).f2),.int .i64 0,.int .i64 1000000] (by rfl) rfl rfl (by (try simp only [lM,lC,lN]);first|done|rfl|(simp only [lD,lT];rfl)) ?_
    with_reducible refine (impl_in.calls ((rd_T40 l0_0 x8_1).f2) 0 1000000 true _ A11.out).mono ?_
    rintro e w' ⟨rfl,⟨nd,rfl⟩⟩
    refine ⟨_,rfl,?_⟩
    refine hK.out _ _ ⟨(bC Ba.out 0).trans rfl,(bC Ba.out 1).trans rfl,(bC Ba.out 2).trans rfl,(bC Ba.out 3).trans rfl,(bC Bc.out 0).trans rfl,(bC Bc.out 1).trans rfl,(bW HB hw112_0:),(bW HB hw112_1:),(bW HB hw112_2:),(bW HB hw112_3:)⟩ (fun hHeld=>?_)
    clear hK K
    refine norm_ (by show Act.put _ (some 26) _=_;simp only [Act.put,lA,lZ,lS,iw,jw];rfl) ?_
    refine pS 14 27 z16q15 HT_ rfl rfl (by kernel_rfl) (by rfl) (by intro w';go_simp;with_reducible rfl) (by simp only [Act.put,lA,lZ,lS,iw,jw];rfl) ?_
    refine pS 15 28 z16q16 HT_ rfl rfl (by kernel_rfl) (by rfl) (by intro w';go_simp;with_reducible rfl) (by simp only [Act.put,lA,lZ,lS,iw,jw];rfl) ?_
    refine pS 16 29 z16q17 HT_ rfl rfl (by kernel_rfl) (by rfl) (by intro w';go_simp;with_reducible rfl) (by simp only [Act.put,lA,lZ,lS,iw,jw];rfl) ?_
    refine pS 17 30 z16q18 HT_ rfl rfl (by kernel_rfl) (by rfl) (by intro w';go_simp;with_reducible rfl) (by simp only [Act.put,lA,lZ,lS,iw,jw];rfl) ?_
    refine tS 18 31 z16q19 HT_ hHeld rfl rfl (by kernel_rfl) (by rfl) (by rintro w' ⟨s0,s1,s2,s3,s4,s5,s6,s7,s8,s9⟩;go_simp;with_reducible rfl) (by simp only [Act.put,lA,lZ,lS,iw,jw];rfl) ?_
    refine pS 19 32 z16q20 HT_ rfl rfl (by kernel_rfl) (by rfl) (by intro w';go_simp;with_reducible rfl) (by simp only [Act.put,lA,lZ,lS,iw,jw];rfl) ?_
    refine pS 20 33 z16q21 HT_ rfl rfl (by kernel_rfl) (by rfl) (by intro w';go_simp;with_reducible rfl) (by simp only [Act.put,lA,lZ,lS,iw,jw];rfl) ?_
    refine pS 22 35 z16q22 HT_ rfl rfl (by kernel_rfl) (by rfl) (by intro w';go_simp;with_reducible rfl) (by simp only [Act.put,lA,lZ,lS,iw,jw];rfl) ?_
    refine tS 21 34 z16q23 HT_ hHeld rfl rfl (by kernel_rfl) (by rfl) (by rintro w' ⟨s0,s1,s2,s3,s4,s5,s6,s7,s8,s9⟩;go_simp;with_reducible rfl) (by simp only [Act.put,lA,lZ,lS,iw,jw];rfl) ?_
    refine tS 23 36 z16q24 HT_ hHeld rfl rfl (by kernel_rfl) (by rfl) (by rintro w' ⟨s0,s1,s2,s3,s4,s5,s6,s7,s8,s9⟩;go_simp;with_reducible rfl) (by simp only [Act.put,lA,lZ,lS,iw,jw];rfl) ?_
    refine pS 24 37 z16q25 HT_ rfl rfl (by kernel_rfl) (by rfl) (by intro w';go_simp;with_reducible rfl) (by simp only [Act.put,lA,lZ,lS,iw,jw];rfl) ?_
    refine pS 25 38 z16q26 HT_ rfl rfl (by kernel_rfl) (by rfl) (by intro w';go_simp;with_reducible rfl) (by simp only [Act.put,lA,lZ,lS,iw,jw];rfl) ?_
    refine pS 26 39 z16q27 HT_ rfl rfl (by kernel_rfl) (by rfl) (by intro w';go_simp;with_reducible rfl) (by simp only [Act.put,lA,lZ,lS,iw,jw];rfl) ?_
    refine pS 27 40 z16q28 HT_ rfl rfl (by kernel_rfl) (by rfl) (by intro w';go_simp;with_reducible rfl) (by simp only [Act.put,lA,lZ,lS,iw,jw];rfl) ?_
    refine pS 28 41 z16q29 HT_ rfl rfl (by kernel_rfl) (by rfl) (by intro w';go_simp;with_reducible rfl) (by simp only [Act.put,lA,lZ,lS,iw,jw];rfl) ?_
    refine pS 29 42 z16q30 HT_ rfl rfl (by kernel_rfl) (by rfl) (by intro w';go_simp;with_reducible rfl) (by simp only [Act.put,lA,lZ,lS,iw,jw];rfl) ?_
    refine pS 30 43 z16q31 HT_ rfl rfl (by kernel_rfl) (by rfl) (by intro w';go_simp;with_reducible rfl) (by simp only [Act.put,lA,lZ,lS,iw,jw];rfl) ?_
    refine pS 31 44 z16q32 HT_ rfl rfl (by kernel_rfl) (by rfl) (by intro w';go_simp;with_reducible rfl) (by simp only [Act.put,lA,lZ,lS,iw,jw];rfl) ?_
    refine pS 33 46 z16q44 HT_ rfl rfl (by kernel_rfl) (by rfl) (by intro w';go_simp;with_reducible rfl) (by simp only [Act.put,lA,lZ,lS,iw,jw];rfl) ?_
    refine pS 34 47 z16q45 HT_ rfl rfl (by kernel_rfl) (by rfl) (by intro w';go_simp;with_reducible rfl) (by simp only [Act.put,lA,lZ,lS,iw,jw];rfl) ?_
    refine pS 38 51 z16q46 HT_ rfl rfl (by kernel_rfl) (by rfl) (by intro w';go_simp;with_reducible rfl) (by simp only [Act.put,lA,lZ,lS,iw,jw];rfl) ?_
    refine tS 32 45 z16q47 HT_ hHeld rfl rfl (by kernel_rfl) (by rfl) (by rintro w' ⟨s0,s1,s2,s3,s4,s5,s6,s7,s8,s9⟩;go_simp;with_reducible rfl) (by simp only [Act.put,lA,lZ,lS,iw,jw];rfl) ?_
    refine pS 35 48 z16q48 HT_ rfl rfl (by kernel_rfl) (by rfl) (by intro w';go_simp;with_reducible rfl) (by simp only [Act.put,lA,lZ,lS,iw,jw];rfl) ?_
    refine pS 36 49 z16q49 HT_ rfl rfl (by kernel_rfl) (by rfl) (by intro w';go_simp;with_reducible rfl) (by simp only [Act.put,lA,lZ,lS,iw,jw];rfl) ?_
    refine tS 37 50 z16q39 HT_ hHeld rfl rfl (by kernel_rfl) (by rfl) (by rintro w' ⟨s0,s1,s2,s3,s4,s5,s6,s7,s8,s9⟩;go_simp;with_reducible rfl) (by simp only [Act.put,lA,lZ,lS,iw,jw];rfl) ?_
    refine tS 39 52 z16q40 HT_ hHeld rfl rfl (by kernel_rfl) (by rfl) (by rintro w' ⟨s0,s1,s2,s3,s4,s5,s6,s7,s8,s9⟩;go_simp;with_reducible rfl) (by simp only [Act.put,lA,lZ,lS,iw,jw];rfl) ?_
    refine pS 40 53 z16q41 HT_ rfl rfl (by kernel_rfl) (by rfl) (by intro w';go_simp;with_reducible rfl) (by simp only [Act.put,lA,lZ,lS,iw,jw];rfl) ?_
    refine pS 41 54 z16q42 HT_ rfl rfl (by kernel_rfl) (by rfl) (by intro w';go_simp;with_reducible rfl) (by simp only [Act.put,lA,lZ,lS,iw,jw];rfl) ?_
    refine pS 42 55 z16q43 HT_ rfl rfl (by kernel_rfl) (by rfl) (by intro w';go_simp;with_reducible rfl) (by simp only [Act.put,lA,lZ,lS,iw,jw];rfl) ?_
    refine done_ (done_of HT_.out (by kernel_rfl)) ?_
    try go_wp2
    go_ret
    exact ⟨by first|rfl|(simp [errW_none,errW_some] <;> rfl)|(simp only [← hji22];first|rfl|(simp [errW_none,errW_some] <;> rfl))|(simp [*,errW_none,errW_some] <;> rfl),by repeat (first|(with_reducible first|exact HB.out|apply oA|apply pN|apply o1|refine bS ?_ Be.out|refine bS ?_ Bh.out)|exact HB.out)⟩
   rw [if_neg c25] at H
   have c25b0:decide (((rd_T40 l0_0 x8_1).f0)≤((rd_T40 l0_0 (ji22)).f0))=false:=decide_eq_false c25
   clear c25
   have H':=Am H
   clear H
   have p107:0≤(x8_1:Int):=of_decide_eq_true (by first|(with_reducible assumption)|assumption)
   have q107:x8_1<(l0_0.length:Int):=of_decide_eq_true (by first|(with_reducible assumption)|assumption)
   obtain ⟨ad107,e107,hx107_0,hx107_1,hx107_2,hx107_3⟩:=at_T40 HR0_0.out x8_1 p107 q107
   (try rw [← Nbq13.out] at hx107_3)
   cases e107
   replace hx107_0:=(bW HB hx107_0:)
   replace hx107_1:=(bW HB hx107_1:)
   replace hx107_2:=(bW HB hx107_2:)
   replace hx107_3:=(bW HB hx107_3:)
   replace p107:=eq_true p107
   replace q107:=eq_true q107
   try go_wp2_with (first|((with_reducible refine gate_dst (N:=4) rfl ?_);refine box_event ?hg (N:=4) ?hd (cs:=#[.int .i64 0,.int .i64 0,.int .i64 0,.bool false]) (t:=40) ?hr ?_;(case hd=>rfl);(case hg=>rfl);(case hr=>first|(go_simp;done)|(go_simp;rfl));intro Bb hg w31 hbox hb;have n0_:=Am (bX Bc.out hb);have n1_:=Am (bP (by repeat (first|(with_reducible first|exact HB.out|apply oA|apply pN|apply o1|refine bS ?_ Be.out)|exact HB.out)) hb);have n2_:=Am (hbox);have n3_:=Am ((by rw [hg];exact (bZ (by repeat (first|(with_reducible first|exact HB.out|apply oA|apply pN|apply o1|refine bS ?_ Be.out)|exact HB.out))):w.heap.size≤Bb));have n4_:=Am ((by rw [hg];exact (bZ (by repeat (first|(with_reducible first|exact HB.out|apply oA|apply pN|apply o1|refine bS ?_ Be.out)|exact HB.out))):w.heap.size≤Bb));have n5_:=Am ((nL Bc.out hg));have n6_:=Am ((nG Bc.out hg));clear Bc HB;revert n0_ n1_ n2_ n3_ n4_ n5_ n6_;intro Bc HB Ba Bi Bh Bf Bg;clear hb hbox hg;have DT:=Bg.out;have DU:=Bf.out;have BD:=cz0 Ba.out;have BE:=cz1 Ba.out;have BF:=cz2 Ba.out;have BG:=cz3 Ba.out;have BH:=bF Ba.out 0;have BI:=bF Ba.out 1;have BJ:=bF Ba.out 2;have BK:=bF Ba.out 3))
   have n0_:Aside0 (((((w31.setCell ⟨Bb,0,none⟩ (.int .i64 ((rd_T40 l0_0 x8_1).f0))).setCell ⟨Bb,1,none⟩ (.int .i64 ((rd_T40 l0_0 x8_1).f1))).setCell ⟨Bb,2,none⟩ (.int .i64 ((rd_T40 l0_0 x8_1).f2))).setCell ⟨Bb,3,none⟩ (.bool true)).heap[Bd]?=some (.cells #[.slice (some ad107) l0_0.length c0_0,.int .i64 a0_1] 25 (0,0))):=⟨by (with_reducible repeat (first|refine bN ?_ _|refine bD ?_|refine bA ?_ _|refine blk_far ?_ Bf.out _));exact Bc.out⟩
   have n1_:Aside0 (((((w31.setCell ⟨Bb,0,none⟩ (.int .i64 ((rd_T40 l0_0 x8_1).f0))).setCell ⟨Bb,1,none⟩ (.int .i64 ((rd_T40 l0_0 x8_1).f1))).setCell ⟨Bb,2,none⟩ (.int .i64 ((rd_T40 l0_0 x8_1).f2))).setCell ⟨Bb,3,none⟩ (.bool true)).heap[Bb]?=some (.cells #[.int .i64 ((rd_T40 l0_0 x8_1).f0),.int .i64 ((rd_T40 l0_0 x8_1).f1),.int .i64 ((rd_T40 l0_0 x8_1).f2),.bool true] 40 (0,0))):=⟨by (with_reducible repeat (first|refine bN ?_ _|refine bD ?_|refine bA ?_ _));refine blk_put (cs:=#[.int .i64 ((rd_T40 l0_0 x8_1).f0),.int .i64 ((rd_T40 l0_0 x8_1).f1),.int .i64 ((rd_T40 l0_0 x8_1).f2),.bool false]) ?_ 3 _ rfl;(with_reducible repeat (first|refine bN ?_ _|refine bD ?_|refine bA ?_ _));refine blk_put (cs:=#[.int .i64 ((rd_T40 l0_0 x8_1).f0),.int .i64 ((rd_T40 l0_0 x8_1).f1),.int .i64 0,.bool false]) ?_ 2 _ rfl;(with_reducible repeat (first|refine bN ?_ _|refine bD ?_|refine bA ?_ _));refine blk_put (cs:=#[.int .i64 ((rd_T40 l0_0 x8_1).f0),.int .i64 0,.int .i64 0,.bool false]) ?_ 1 _ rfl;(with_reducible repeat (first|refine bN ?_ _|refine bD ?_|refine bA ?_ _));refine blk_put (cs:=#[.int .i64 0,.int .i64 0,.int .i64 0,.bool false]) ?_ 0 _ rfl;(with_reducible repeat (first|refine bN ?_ _|refine bD ?_|refine bA ?_ _));exact Ba.out⟩
   have n2_:Aside0 (Below w.heap.size w ((((w31.setCell ⟨Bb,0,none⟩ (.int .i64 ((rd_T40 l0_0 x8_1).f0))).setCell ⟨Bb,1,none⟩ (.int .i64 ((rd_T40 l0_0 x8_1).f1))).setCell ⟨Bb,2,none⟩ (.int .i64 ((rd_T40 l0_0 x8_1).f2))).setCell ⟨Bb,3,none⟩ (.bool true))):=⟨by repeat (first|(with_reducible first|exact HB.out|apply oA|apply pN|apply o1|refine bS ?_ Be.out|refine bS ?_ Bh.out)|exact HB.out)⟩
   (try clear Bc)
   (try clear Ba)
   (try clear HB)
   generalize ((((w31.setCell ⟨Bb,0,none⟩ (.int .i64 ((rd_T40 l0_0 x8_1).f0))).setCell ⟨Bb,1,none⟩ (.int .i64 ((rd_T40 l0_0 x8_1).f1))).setCell ⟨Bb,2,none⟩ (.int .i64 ((rd_T40 l0_0 x8_1).f2))).setCell ⟨Bb,3,none⟩ (.bool true))=w34 at n0_ n1_ n2_ ⊢
   have Bc:=n0_
   have Ba:=n1_
   have HB:=n2_
   clear n0_ n1_ n2_
   have n0_:=Am (bD Bc.out)
   have n1_:=Am (bD Ba.out)
   have n2_:=Am (o1 HB.out)
   clear Bc
   clear Ba
   clear HB
   have Bc:=n0_
   have Ba:=n1_
   have HB:=n2_
   clear n0_ n1_ n2_
   have p112:0≤((ji22):Int):=of_decide_eq_true (by first|(with_reducible assumption)|assumption)
   have q112:(ji22)<(l0_0.length:Int):=of_decide_eq_true (by first|(with_reducible assumption)|assumption)
   obtain ⟨ad112,e112,hx112_0,hx112_1,hx112_2,hx112_3⟩:=at_T40 HR0_0.out (ji22) p112 q112
   have hw112_3:=hx112_3
   have hw112_2:=hx112_2
   have hw112_1:=hx112_1
   have hw112_0:=hx112_0
   (try rw [← Nbq13.out] at hx112_3)
   obtain rfl:ad107=ad112:=(by injection e112)
   replace hx112_0:=(bW HB hx112_0:)
   replace hx112_1:=(bW HB hx112_1:)
   replace hx112_2:=(bW HB hx112_2:)
   replace hx112_3:=(bW HB hx112_3:)
   replace p112:=eq_true p112
   replace q112:=eq_true q112
   refine start_ (n:=43) (S:=fun w'=>w'.cell? ⟨Bb,0,none⟩=some (.int .i64 ((rd_T40 l0_0 x8_1).f0))∧w'.cell? ⟨Bb,1,none⟩=some (.int .i64 ((rd_T40 l0_0 x8_1).f1))∧w'.cell? ⟨Bb,2,none⟩=some (.int .i64 ((rd_T40 l0_0 x8_1).f2))∧w'.cell? ⟨Bb,3,none⟩=some (.bool true)∧w'.cell? ⟨Bd,0,none⟩=some (.slice (some ad107) l0_0.length c0_0)∧w'.cell? ⟨Bd,1,none⟩=some (.int .i64 a0_1)∧w'.cell? (ad107.add (((ji22)).toNat * 4))=some (.int .i64 ((rd_T40 l0_0 (ji22)).f0))∧w'.cell? ⟨(ad107.add (((ji22)).toNat * 4)).block,(ad107.add (((ji22)).toNat * 4)).off + 1,none⟩=some (.int .i64 ((rd_T40 l0_0 (ji22)).f1))∧w'.cell? ⟨(ad107.add (((ji22)).toNat * 4)).block,(ad107.add (((ji22)).toNat * 4)).off + 2,none⟩=some (.int .i64 ((rd_T40 l0_0 (ji22)).f2))∧w'.cell? ⟨(ad107.add (((ji22)).toNat * 4)).block,(ad107.add (((ji22)).toNat * 4)).off + 3,none⟩=some (.bool ((rd_T40 l0_0 (ji22)).f3))) (ds:=[]) z16q0 (by kernel_rfl) rfl rfl ⟨(bC Ba.out 0).trans rfl,(bC Ba.out 1).trans rfl,(bC Ba.out 2).trans rfl,(bC Ba.out 3).trans rfl,(bC Bc.out 0).trans rfl,(bC Bc.out 1).trans rfl,(bW HB hw112_0:),(bW HB hw112_1:),(bW HB hw112_2:),(bW HB hw112_3:)⟩ (fun hHeld=>?_);refine with_st impl_QueueOk.tab4 impl_QueueOk.bits4 (fun _ _ _ _ _ h=>h) (fun HT_=>?_)
   generalize w34.drew=w35 at Bc Ba HB hx112_0 hx112_1 hx112_2 hx112_3 hHeld ⊢
   refine pS 0 13 z16q1 HT_ rfl rfl (by kernel_rfl) (by rfl) (by intro w';go_simp;with_reducible rfl) (by simp only [Act.put,lA,lZ,lS,iw,jw];rfl) ?_
   refine tS 1 14 z16q2 HT_ hHeld rfl rfl (by kernel_rfl) (by rfl) (by rintro w' ⟨s0,s1,s2,s3,s4,s5,s6,s7,s8,s9⟩;go_simp;with_reducible rfl) (by simp only [Act.put,lA,lZ,lS,iw,jw];rfl) ?_
   refine oS 2 15 z16q3 HT_ rfl rfl (by kernel_rfl) (by decide) (fun K hK=>?_)
   refine goes_ Try.func41 (by kernel_rfl) rfl #[.int .i64 ((rd_T40 l0_0 x8_1).f0),.int .i64 0,.int .i64 99] (by rfl) rfl rfl (by (try simp only [lM,lC,lN]);first|done|rfl|(simp only [lD,lT];rfl)) ?_
   with_reducible refine (impl_in.calls ((rd_T40 l0_0 x8_1).f0) 0 99 true _ A7.out).mono ?_
   rintro e w' ⟨rfl,⟨nd,rfl⟩⟩
   refine ⟨_,rfl,?_⟩
   refine hK.out _ _ ⟨(bC Ba.out 0).trans rfl,(bC Ba.out 1).trans rfl,(bC Ba.out 2).trans rfl,(bC Ba.out 3).trans rfl,(bC Bc.out 0).trans rfl,(bC Bc.out 1).trans rfl,(bW HB hw112_0:),(bW HB hw112_1:),(bW HB hw112_2:),(bW HB hw112_3:)⟩ (fun hHeld=>?_)
   clear hK K
   refine norm_ (by show Act.put _ (some 15) _=_;simp only [Act.put,lA,lZ,lS,iw,jw];rfl) ?_
   refine pS 3 16 z16q4 HT_ rfl rfl (by kernel_rfl) (by rfl) (by intro w';go_simp;with_reducible rfl) (by simp only [Act.put,lA,lZ,lS,iw,jw];rfl) ?_
   refine pS 4 17 z16q5 HT_ rfl rfl (by kernel_rfl) (by rfl) (by intro w';go_simp;with_reducible rfl) (by simp only [Act.put,lA,lZ,lS,iw,jw];rfl) ?_
   refine pS 5 18 z16q6 HT_ rfl rfl (by kernel_rfl) (by rfl) (by intro w';go_simp;with_reducible rfl) (by simp only [Act.put,lA,lZ,lS,iw,jw];rfl) ?_
   refine tS 6 19 z16q7 HT_ hHeld rfl rfl (by kernel_rfl) (by rfl) (by rintro w' ⟨s0,s1,s2,s3,s4,s5,s6,s7,s8,s9⟩;go_simp;with_reducible rfl) (by simp only [Act.put,lA,lZ,lS,iw,jw];rfl) ?_
   refine oS 7 20 z16q8 HT_ rfl rfl (by kernel_rfl) (by decide) (fun K hK=>?_)
   refine goes_ Try.func41 (by kernel_rfl) rfl #[.int .i64 ((rd_T40 l0_0 x8_1).f1),.int .i64 1,.int .i64 6] (by rfl) rfl rfl (by (try simp only [lM,lC,lN]);first|done|rfl|(simp only [lD,lT];rfl)) ?_
   with_reducible refine (impl_in.calls ((rd_T40 l0_0 x8_1).f1) 1 6 true _ A9.out).mono ?_
   rintro e w' ⟨rfl,⟨nd,rfl⟩⟩
   refine ⟨_,rfl,?_⟩
   refine hK.out _ _ ⟨(bC Ba.out 0).trans rfl,(bC Ba.out 1).trans rfl,(bC Ba.out 2).trans rfl,(bC Ba.out 3).trans rfl,(bC Bc.out 0).trans rfl,(bC Bc.out 1).trans rfl,(bW HB hw112_0:),(bW HB hw112_1:),(bW HB hw112_2:),(bW HB hw112_3:)⟩ (fun hHeld=>?_)
   clear hK K
   refine norm_ (by show Act.put _ (some 20) _=_;simp only [Act.put,lA,lZ,lS,iw,jw];rfl) ?_
   refine pS 8 21 z16q9 HT_ rfl rfl (by kernel_rfl) (by rfl) (by intro w';go_simp;with_reducible rfl) (by simp only [Act.put,lA,lZ,lS,iw,jw];rfl) ?_
   refine pS 9 22 z16q10 HT_ rfl rfl (by kernel_rfl) (by rfl) (by intro w';go_simp;with_reducible rfl) (by simp only [Act.put,lA,lZ,lS,iw,jw];rfl) ?_
   refine pS 10 23 z16q11 HT_ rfl rfl (by kernel_rfl) (by rfl) (by intro w';go_simp;with_reducible rfl) (by simp only [Act.put,lA,lZ,lS,iw,jw];rfl) ?_
   refine pS 11 24 z16q12 HT_ rfl rfl (by kernel_rfl) (by rfl) (by intro w';go_simp;with_reducible rfl) (by simp only [Act.put,lA,lZ,lS,iw,jw];rfl) ?_
   refine tS 12 25 z16q13 HT_ hHeld rfl rfl (by kernel_rfl) (by rfl) (by rintro w' ⟨s0,s1,s2,s3,s4,s5,s6,s7,s8,s9⟩;go_simp;with_reducible rfl) (by simp only [Act.put,lA,lZ,lS,iw,jw];rfl) ?_
   refine oS 13 26 z16q14 HT_ rfl rfl (by kernel_rfl) (by decide) (fun K hK=>?_)
   refine goes_ Try.func41 (by kernel_rfl) rfl #[.int .i64 ((rd_T40 l0_0 x8_1).f2),.int .i64 0,.int .i64 1000000] (by rfl) rfl rfl (by (try simp only [lM,lC,lN]);first|done|rfl|(simp only [lD,lT];rfl)) ?_
   with_reducible refine (impl_in.calls ((rd_T40 l0_0 x8_1).f2) 0 1000000 true _ A11.out).mono ?_
   rintro e w' ⟨rfl,⟨nd,rfl⟩⟩
   refine ⟨_,rfl,?_⟩
   refine hK.out _ _ ⟨(bC Ba.out 0).trans rfl,(bC Ba.out 1).trans rfl,(bC Ba.out 2).trans rfl,(bC Ba.out 3).trans rfl,(bC Bc.out 0).trans rfl,(bC Bc.out 1).trans rfl,(bW HB hw112_0:),(bW HB hw112_1:),(bW HB hw112_2:),(bW HB hw112_3:)⟩ (fun hHeld=>?_)
   clear hK K
   refine norm_ (by show Act.put _ (some 26) _=_;simp only [Act.put,lA,lZ,lS,iw,jw];rfl) ?_
   refine pS 14 27 z16q15 HT_ rfl rfl (by kernel_rfl) (by rfl) (by intro w';go_simp;with_reducible rfl) (by simp only [Act.put,lA,lZ,lS,iw,jw];rfl) ?_
   refine pS 15 28 z16q16 HT_ rfl rfl (by kernel_rfl) (by rfl) (by intro w';go_simp;with_reducible rfl) (by simp only [Act.put,lA,lZ,lS,iw,jw];rfl) ?_
   refine pS 16 29 z16q17 HT_ rfl rfl (by kernel_rfl) (by rfl) (by intro w';go_simp;with_reducible rfl) (by simp only [Act.put,lA,lZ,lS,iw,jw];rfl) ?_
   refine pS 17 30 z16q18 HT_ rfl rfl (by kernel_rfl) (by rfl) (by intro w';go_simp;with_reducible rfl) (by simp only [Act.put,lA,lZ,lS,iw,jw];rfl) ?_
   refine tS 18 31 z16q19 HT_ hHeld rfl rfl (by kernel_rfl) (by rfl) (by rintro w' ⟨s0,s1,s2,s3,s4,s5,s6,s7,s8,s9⟩;go_simp;with_reducible rfl) (by simp only [Act.put,lA,lZ,lS,iw,jw];rfl) ?_
   refine pS 19 32 z16q20 HT_ rfl rfl (by kernel_rfl) (by rfl) (by intro w';go_simp;with_reducible rfl) (by simp only [Act.put,lA,lZ,lS,iw,jw];rfl) ?_
   refine pS 20 33 z16q21 HT_ rfl rfl (by kernel_rfl) (by rfl) (by intro w';go_simp;with_reducible rfl) (by simp only [Act.put,lA,lZ,lS,iw,jw];rfl) ?_
   refine pS 22 35 z16q22 HT_ rfl rfl (by kernel_rfl) (by rfl) (by intro w';go_simp;with_reducible rfl) (by simp only [Act.put,lA,lZ,lS,iw,jw];rfl) ?_
   refine tS 21 34 z16q23 HT_ hHeld rfl rfl (by kernel_rfl) (by rfl) (by rintro w' ⟨s0,s1,s2,s3,s4,s5,s6,s7,s8,s9⟩;go_simp;with_reducible rfl) (by simp only [Act.put,lA,lZ,lS,iw,jw];rfl) ?_
   refine tS 23 36 z16q24 HT_ hHeld rfl rfl (by kernel_rfl) (by rfl) (by rintro w' ⟨s0,s1,s2,s3,s4,s5,s6,s7,s8,s9⟩;go_simp;with_reducible rfl) (by simp only [Act.put,lA,lZ,lS,iw,jw];rfl) ?_
   refine pS 24 37 z16q25 HT_ rfl rfl (by kernel_rfl) (by rfl) (by intro w';go_simp;with_reducible rfl) (by simp only [Act.put,lA,lZ,lS,iw,jw];rfl) ?_
   refine pS 25 38 z16q26 HT_ rfl rfl (by kernel_rfl) (by rfl) (by intro w';go_simp;with_reducible rfl) (by simp only [Act.put,lA,lZ,lS,iw,jw];rfl) ?_
   refine pS 26 39 z16q27 HT_ rfl rfl (by kernel_rfl) (by rfl) (by intro w';go_simp;with_reducible rfl) (by simp only [Act.put,lA,lZ,lS,iw,jw];rfl) ?_
   refine pS 27 40 z16q28 HT_ rfl rfl (by kernel_rfl) (by rfl) (by intro w';go_simp;with_reducible rfl) (by simp only [Act.put,lA,lZ,lS,iw,jw];rfl) ?_
   refine pS 28 41 z16q29 HT_ rfl rfl (by kernel_rfl) (by rfl) (by intro w';go_simp;with_reducible rfl) (by simp only [Act.put,lA,lZ,lS,iw,jw];rfl) ?_
   refine pS 29 42 z16q30 HT_ rfl rfl (by kernel_rfl) (by rfl) (by intro w';go_simp;with_reducible rfl) (by simp only [Act.put,lA,lZ,lS,iw,jw];rfl) ?_
   refine pS 30 43 z16q31 HT_ rfl rfl (by kernel_rfl) (by rfl) (by intro w';go_simp;with_reducible rfl) (by simp only [Act.put,lA,lZ,lS,iw,jw];rfl) ?_
   refine pS 31 44 z16q32 HT_ rfl rfl (by kernel_rfl) (by rfl) (by intro w';go_simp;with_reducible rfl) (by simp only [Act.put,lA,lZ,lS,iw,jw];rfl) ?_
   refine pS 33 46 z16q44 HT_ rfl rfl (by kernel_rfl) (by rfl) (by intro w';go_simp;with_reducible rfl) (by simp only [Act.put,lA,lZ,lS,iw,jw];rfl) ?_
   refine pS 34 47 z16q45 HT_ rfl rfl (by kernel_rfl) (by rfl) (by intro w';go_simp;with_reducible rfl) (by simp only [Act.put,lA,lZ,lS,iw,jw];rfl) ?_
   refine pS 38 51 z16q46 HT_ rfl rfl (by kernel_rfl) (by rfl) (by intro w';go_simp;with_reducible rfl) (by simp only [Act.put,lA,lZ,lS,iw,jw];rfl) ?_
   refine tS 32 45 z16q47 HT_ hHeld rfl rfl (by kernel_rfl) (by rfl) (by rintro w' ⟨s0,s1,s2,s3,s4,s5,s6,s7,s8,s9⟩;go_simp;with_reducible rfl) (by simp only [Act.put,lA,lZ,lS,iw,jw];rfl) ?_
   refine pS 35 48 z16q48 HT_ rfl rfl (by kernel_rfl) (by rfl) (by intro w';go_simp;with_reducible rfl) (by simp only [Act.put,lA,lZ,lS,iw,jw];rfl) ?_
   refine pS 36 49 z16q49 HT_ rfl rfl (by kernel_rfl) (by rfl) (by intro w';go_simp;with_reducible rfl) (by simp only [Act.put,lA,lZ,lS,iw,jw];rfl) ?_
   refine tS 37 50 z16q39 HT_ hHeld rfl rfl (by kernel_rfl) (by rfl) (by rintro w' ⟨s0,s1,s2,s3,s4,s5,s6,s7,s8,s9⟩;go_simp;with_reducible rfl) (by simp only [Act.put,lA,lZ,lS,iw,jw];rfl) ?_
   refine tS 39 52 z16q40 HT_ hHeld rfl rfl (by kernel_rfl) (by rfl) (by rintro w' ⟨s0,s1,s2,s3,s4,s5,s6,s7,s8,s9⟩;go_simp;with_reducible rfl) (by simp only [Act.put,lA,lZ,lS,iw,jw];rfl) ?_
   refine pS 40 53 z16q41 HT_ rfl rfl (by kernel_rfl) (by rfl) (by intro w';go_simp;with_reducible rfl) (by simp only [Act.put,lA,lZ,lS,iw,jw];rfl) ?_
   refine pS 41 54 z16q42 HT_ rfl rfl (by kernel_rfl) (by rfl) (by intro w';go_simp;with_reducible rfl) (by simp only [Act.put,lA,lZ,lS,iw,jw];rfl) ?_
   refine pS 42 55 z16q43 HT_ rfl rfl (by kernel_rfl) (by rfl) (by intro w';go_simp;with_reducible rfl) (by simp only [Act.put,lA,lZ,lS,iw,jw];rfl) ?_
   refine done_ (done_of HT_.out (by kernel_rfl)) ?_
   try go_wp2
   go_roundg k1
   case measure=>have:=HK1.out;omega
   case rel=>exact ⟨(wrap64 (x8_1 + 1)),(by first|rfl|(simp;done)|(simp [*];done)),H',⟨by have:=HK1.out;omega⟩,⟨by (with_reducible repeat (first|refine bN ?_ _|refine bD ?_|refine bA ?_ _));exact Bc.out⟩,⟨by repeat (first|(with_reducible first|exact HB.out|apply oA|apply pN|apply o1|refine bS ?_ Be.out|refine bS ?_ Bh.out)|exact HB.out)⟩⟩
end Go.Proofs.Ytfhcgmfodfcpeaa.PFnQueueLess
