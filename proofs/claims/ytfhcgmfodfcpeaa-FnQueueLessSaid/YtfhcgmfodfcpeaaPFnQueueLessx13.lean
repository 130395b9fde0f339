/- Proved here, without a condition beyond those that each theorem states: what the Go functions named below do is what the plain functions of the same names say. Written by xprint.py, a program of this session. -/
import Derived.Test.YtfhcgmfodfcpeaaPFnQueueLessx0
import Derived.Test.YtfhcgmfodfcpeaaPFnQueueLessx12
namespace Go.Proofs.Ytfhcgmfodfcpeaa.PFnQueueLess
open Go.RowKit Go.Proofs.YtfhcgmfodfcpeaaW.PrintWords Go.Proofs.YtfhcgmfodfcpeaaW.PrintLast Go.Proofs.YtfhcgmfodfcpeaaW.PrintMore
attribute [local go_sem] max2_int min2_int max_two min_two max_three min_three max_four min_four   -- for this text's walks alone
set_option linter.unusedVariables false
set_option linter.unusedSimpArgs false

attribute [local go_sem ↓] isSome_setCell_
/-! ### spec_QueueOk: function 18 -/
def spec_QueueOk.l0 : Nat → Int → List (S40) → Int → Option (Bool)
|0, _, _, _ => none
|k + 1, x3, x272000, x272001 => if x3 < (x272000.length : Int) then (if 0 ≤ x3 then ((spec_l6In.f ((rd_T40 x272000 x3).f0) 0 99).bind fun t275 => (if t275 = true then ((spec_l6In.f ((rd_T40 x272000 x3).f1) 1 6).bind fun t276 => (if t276 = true then ((spec_l6In.f ((rd_T40 x272000 x3).f2) 0 1000000).bind fun t277 => (if t277 = true then (if x3 > 0 then (if 0 ≤ (wrap64 (x3 - 1)) then (if (wrap64 (x3 - 1)) < (x272000.length : Int) then (if ((rd_T40 x272000 (wrap64 (x3 - 1))).f0) ≥ ((rd_T40 x272000 x3).f0) then (some false) else (if (rd_T40 x272000 x3).f3 = true then (if ((rd_T40 x272000 x3).f2) < x272001 then (some false) else (spec_QueueOk.l0 k (wrap64 (x3 + 1)) x272000 x272001)) else (spec_QueueOk.l0 k (wrap64 (x3 + 1)) x272000 x272001))) else (none)) else (none)) else (if (rd_T40 x272000 x3).f3 = true then (if ((rd_T40 x272000 x3).f2) < x272001 then (some false) else (spec_QueueOk.l0 k (wrap64 (x3 + 1)) x272000 x272001)) else (spec_QueueOk.l0 k (wrap64 (x3 + 1)) x272000 x272001))) else (some false))) else (some false))) else (some false))) else (none)) else (if (x272000.length : Int) ≤ 6 then ((spec_l6In.f x272001 0 1000000).bind fun t272 => (some t272)) else (some false))
def spec_QueueOk.f (k : Nat) (l0_0 : List (S40)) (a0_1 : Int) : Option (Bool) := spec_QueueOk.l0 k 0 l0_0 a0_1
theorem spec_QueueOk.mono_l : ∀ k, (∀ y0 y1 y2, LeO (spec_QueueOk.l0 k y0 y1 y2) (spec_QueueOk.l0 (k + 1) y0 y1 y2))
|0 => fun _ _ _ r h => by simp [spec_QueueOk.l0] at h
|k + 1 => by
  have ih0 := spec_QueueOk.mono_l k
  ·intro y0 y1 y2
   unfold spec_QueueOk.l0
   repeat' first
  |(with_reducible exact ih0 _ _ _)
  |(with_reducible exact LeO.refl _)
  |(with_reducible exact LeO.none _)
  |(with_reducible refine LeO.ite ?_ ?_)
  |(with_reducible refine LeO.bind ?_ (fun _ => ?_))
  |exact ih0 _ _ _
  |exact LeO.none _
  |refine LeO.ite ?_ ?_
  |refine LeO.bind ?_ (fun _ => ?_)
theorem spec_QueueOk.mono : ∀ a0 a1 k, LeO (spec_QueueOk.f k a0 a1) (spec_QueueOk.f (k + 1) a0 a1) := by
 intro a0 a1 k
 have ih0 := spec_QueueOk.mono_l k
 unfold spec_QueueOk.f
 repeat' first
  |(with_reducible exact ih0 _ _ _)
  |(with_reducible exact LeO.refl _)
  |(with_reducible exact LeO.none _)
  |(with_reducible refine LeO.ite ?_ ?_)
  |(with_reducible refine LeO.bind ?_ (fun _ => ?_))
  |exact ih0 _ _ _
  |exact LeO.none _
  |refine LeO.ite ?_ ?_
  |refine LeO.bind ?_ (fun _ => ?_)
def spec_QueueOk.T5 : Bool × List (List Nat × List Nat) := (true, [([], []), ([0], [0]), ([1], [1]), ([2], [2]), ([3, 2], [3]), ([4], [4]), ([5, 4], [4, 5]), ([6, 4, 4], [4, 6]), ([7, 4], [4, 7]), ([4, 8], [4, 8]), ([9, 7], [9]), ([10], [10]), ([11, 10], [10, 11]), ([12, 10, 10], [10, 12]), ([13, 10], [10, 13]), ([10, 14], [10, 14]), ([15, 13], [15]), ([16], [16]), ([17, 16], [16, 17]), ([18, 16, 16], [16, 18]), ([19], [19]), ([20, 19], [19, 20]), ([19], [19]), ([22, 19], [19, 22]), ([21, 23, 19], [19, 21, 23]), ([24, 19], [19, 24]), ([25, 19], [19, 25]), ([19], [19]), ([27, 19], [19, 27]), ([26, 28, 19], [19, 26, 28]), ([19, 29, 16], [16, 19, 29]), ([16, 30], [16, 30]), ([31, 19], [31]), ([32], [32]), ([33, 32], [32, 33]), ([34, 32, 32], [32, 34]), ([35], [35]), ([36, 35], [35, 36]), ([35], [35]), ([38, 35], [35, 38]), ([37, 39, 35], [35, 37, 39]), ([35, 40, 32], [32, 35, 40]), ([32, 41], [32, 41])])
def spec_QueueOk.B5 : List Nat := [0, 1, 3, 7, 15, 31, 63, 127, 255, 511, 1023, 2047, 4095, 8191, 16383, 32767, 65535, 131071, 262143, 524287, 1048575, 2097151, 1048575, 5242879, 16777215, 33554431, 67108863, 1048575, 135266303, 536870911, 1073741823, 2147483647, 4294967295, 8589934591, 17179869183, 34359738367, 68719476735, 137438953471, 68719476735, 343597383679, 1099511627775, 2199023255551, 4398046511103]
theorem spec_QueueOk.tab5 : rtab .any (opsOf Try.f18 5) = spec_QueueOk.T5 := by kernel_rfl
theorem spec_QueueOk.bits5 : waitsOk spec_QueueOk.T5.2 spec_QueueOk.B5 = true := by kernel_rfl
abbrev z18q0 : Array Bool := bQ 43 0
abbrev z18q1 : Array Bool := bQ 43 1
abbrev z18q2 : Array Bool := bQ 43 3
abbrev z18q3 : Array Bool := bQ 43 7
abbrev z18q4 : Array Bool := bQ 43 15
abbrev z18q5 : Array Bool := bQ 43 31
abbrev z18q6 : Array Bool := bQ 43 63
abbrev z18q7 : Array Bool := bQ 43 127
abbrev z18q8 : Array Bool := bQ 43 255
abbrev z18q9 : Array Bool := bQ 43 511
abbrev z18q10 : Array Bool := bQ 43 1023
abbrev z18q11 : Array Bool := bQ 43 2047
abbrev z18q12 : Array Bool := bQ 43 4095
abbrev z18q13 : Array Bool := bQ 43 8191
abbrev z18q14 : Array Bool := bQ 43 16383
abbrev z18q15 : Array Bool := bQ 43 32767
abbrev z18q16 : Array Bool := bQ 43 65535
abbrev z18q17 : Array Bool := bQ 43 131071
abbrev z18q18 : Array Bool := bQ 43 262143
abbrev z18q19 : Array Bool := bQ 43 524287
abbrev z18q20 : Array Bool := bQ 43 1048575
abbrev z18q21 : Array Bool := bQ 43 2097151
abbrev z18q22 : Array Bool := bQ 43 6291455
abbrev z18q23 : Array Bool := bQ 43 14680063
abbrev z18q24 : Array Bool := bQ 43 148897791
abbrev z18q25 : Array Bool := bQ 43 150994943
abbrev z18q26 : Array Bool := bQ 43 167772159
abbrev z18q27 : Array Bool := bQ 43 201326591
abbrev z18q28 : Array Bool := bQ 43 268435455
abbrev z18q29 : Array Bool := bQ 43 536870911
abbrev z18q30 : Array Bool := bQ 43 1073741823
abbrev z18q31 : Array Bool := bQ 43 2147483647
abbrev z18q32 : Array Bool := bQ 43 4294967295
abbrev z18q33 : Array Bool := bQ 43 8589934591
abbrev z18q34 : Array Bool := bQ 43 17179869183
abbrev z18q35 : Array Bool := bQ 43 34359738367
abbrev z18q36 : Array Bool := bQ 43 68719476735
abbrev z18q37 : Array Bool := bQ 43 137438953471
abbrev z18q38 : Array Bool := bQ 43 274877906943
abbrev z18q39 : Array Bool := bQ 43 549755813887
abbrev z18q40 : Array Bool := bQ 43 1099511627775
abbrev z18q41 : Array Bool := bQ 43 2199023255551
abbrev z18q42 : Array Bool := bQ 43 4398046511103
abbrev z18q43 : Array Bool := bQ 43 8796093022207
abbrev z18q44 : Array Bool := bQ 43 412316860415
abbrev z18q45 : Array Bool := bQ 43 4194303
abbrev z18q46 : Array Bool := bQ 43 8388607
abbrev z18q47 : Array Bool := bQ 43 16777215
abbrev z18q48 : Array Bool := bQ 43 33554431
abbrev z18q49 : Array Bool := bQ 43 67108863
abbrev z18q50 : Array Bool := bQ 43 134217727
set_option maxHeartbeats 2000000 in
set_option maxRecDepth 100000 in
theorem spec_QueueOk.calls (k:Nat) (A0_0:Option Addr) (c0_0:Nat) (l0_0:List (S40)) (a0_1:Int) (r:Bool) (w:World) (hr0_0:Kd.C k40 w A0_0 l0_0.length l0_0) (hc0_0:l0_0.length≤c0_0) (h:spec_QueueOk.f k l0_0 a0_1=some r) :
  Calls Try.prog 18 #[.agg #[.slice A0_0 l0_0.length c0_0,.int .i64 a0_1]] w fun e w'=>e=.returned (.bool r)∧Below w.heap.size w w':=by
 have hu25:=Try.underlying25
 have hu40:=Try.underlying40
 have HR0_0:=Am hr0_0
 have HC0_0:=Am hc0_0
 clear hr0_0 hc0_0
 have HB:=Am (Below.refl w.heap.size w)
 have H:(spec_QueueOk.l0 k 0 l0_0 a0_1)=some r:=h
 clear h
 have H':=Am H
 clear H
 go_enter Try.func18,Try.ntmps18
 go_wp2_with (first|((with_reducible refine gate_dst (N:=1) rfl ?_);refine box_event ?hg (N:=1) ?hd (cs:=#[.slice A0_0 l0_0.length c0_0,.int .i64 a0_1]) (t:=25) ?hr ?_;(case hd=>rfl);(case hg=>rfl);(case hr=>first|(go_simp;done)|(go_simp;rfl));intro Bd hg w2 hbox hb;have n0_:=Am (bP (by repeat (first|(with_reducible first|exact HB.out|apply oA|apply pN|apply o1)|exact HB.out)) hb);have n1_:=Am (hbox);have n2_:=Am ((by rw [hg];exact (bZ (by repeat (first|(with_reducible first|exact HB.out|apply oA|apply pN|apply o1)|exact HB.out))):w.heap.size≤Bd));have n3_:=Am ((by rw [hg];exact (bZ (by repeat (first|(with_reducible first|exact HB.out|apply oA|apply pN|apply o1)|exact HB.out))):w.heap.size≤Bd));clear HB;revert n0_ n1_ n2_ n3_;intro HB Bc Fo Be;clear hb hbox hg))
 go_loopg [3] k (fun kq v3 w'=>∃ (x3_1:Int),v3=.int .i64 x3_1∧Aside0 (spec_QueueOk.l0 kq x3_1 l0_0 a0_1=some r)∧Aside0 (kq≤k)∧Aside0 (w'.heap[Bd]?=some (.cells #[(.slice A0_0 l0_0.length c0_0),.int .i64 a0_1] 25 (0,0)))∧Aside0 (Below w.heap.size w w'))
 case atStart=>exact ⟨(0),(by first|rfl|(simp;done)|(simp [*];done)),H',⟨Nat.le_refl _⟩,⟨by (with_reducible repeat (first|refine bN ?_ _|refine bD ?_|refine bA ?_ _));exact Bc.out⟩,⟨by repeat (first|(with_reducible first|exact HB.out|apply oA|apply pN|apply o1|refine bS ?_ Be.out)|exact HB.out)⟩⟩
 case round =>
  clear H'
  try clear c1
  try clear p2
  obtain ⟨x3_1,rfl,HA,HK1,Bc,HB⟩:=hrel
  cases gk with
 |zero=>exact absurd HA.out (by simp [spec_QueueOk.l0])
 |succ k1 =>
   have H:=HA.out
   clear HA
   simp only [spec_QueueOk.l0] at H
   by_cases c3:x3_1<(l0_0.length:Int)
   rotate_left
   ·rw [if_neg c3] at H
    have c3b0:decide (x3_1<(l0_0.length:Int))=false:=decide_eq_false c3
    clear c3
    by_cases c82:(l0_0.length:Int)≤6
    rotate_left
    ·rw [if_neg c82] at H
     have c82b0:decide ((l0_0.length:Int)≤6)=false:=decide_eq_false c82
     have c82b1:decide (l0_0.length≤6)=false:=decide_eq_false (by omega)
     clear c82
     obtain rfl:=Option.some.inj H
     have Fk:=cz0 Bc.out
     have Fl:=cz1 Bc.out
     have Fm:=bF Bc.out 0
     have Fn:=bF Bc.out 1
     go_wp2
     go_ret
     exact ⟨by first|rfl|(simp [errW_none,errW_some] <;> rfl)|(simp [*,errW_none,errW_some] <;> rfl),by repeat (first|(with_reducible first|exact HB.out|apply oA|apply pN|apply o1|refine bS ?_ Be.out)|exact HB.out)⟩

    rw [if_pos c82] at H
    have c82b0:decide ((l0_0.length:Int)≤6)=true:=decide_eq_true c82
    have c82b1:decide (l0_0.length≤6)=true:=decide_eq_true (by omega)
    clear c82
    replace H:=oC H
    obtain ⟨t272,A830,H⟩:=H
    replace H:(some t272)=some r:=H
    have A83:=Am A830
    clear A830
    obtain rfl:=Option.some.inj H
    have Fg:=cz0 Bc.out
    have Fh:=cz1 Bc.out
    have Fi:=bF Bc.out 0
    have Fj:=bF Bc.out 1
    go_wp2_with (first|(go_at_call 42;(with_reducible refine (spec_l6In.calls a0_1 0 1000000 t272 _ A83.out).mono ?_);rintro e w' ⟨rfl,⟨nd,rfl⟩⟩))
    go_ret
    exact ⟨by first|rfl|(simp [errW_none,errW_some] <;> rfl)|(simp [*,errW_none,errW_some] <;> rfl),by repeat (first|(with_reducible first|exact HB.out|apply oA|apply pN|apply o1|refine bS ?_ Be.out)|exact HB.out)⟩
   rw [if_pos c3] at H
   have c3b0:decide (x3_1<(l0_0.length:Int))=true:=decide_eq_true c3
   clear c3
   by_cases c4:0≤x3_1
   rotate_left
   ·rw [if_neg c4] at H
    exact absurd H (by simp)
   rw [if_pos c4] at H
   have c4b0:decide (0≤x3_1)=true:=decide_eq_true c4
   clear c4
   replace H:=oC H
   obtain ⟨t275,A50,H⟩:=H
   replace H:(if t275=true then ((spec_l6In.f ((rd_T40 l0_0 x3_1).f1) 1 6).bind fun t276=>(if t276=true then ((spec_l6In.f ((rd_T40 l0_0 x3_1).f2) 0 1000000).bind fun t277=>(if t277=true then (if x3_1 > 0 then (if 0≤(wrap64 (x3_1 - 1)) then (if (wrap64 (x3_1 - 1))<(l0_0.length:Int) then (if ((rd_T40 l0_0 (wrap64 (x3_1 - 1))).f0) ≥ ((rd_T40 l0_0 x3_1).f0) then (some false) else (if (rd_T40 l0_0 x3_1).f3=true then (if ((rd_T40 l0_0 x3_1).f2)<a0_1 then (some false) else (spec_QueueOk.l0 k1 (wrap64 (x3_1 + 1)) l0_0 a0_1)) else (spec_QueueOk.l0 k1 (wrap64 (x3_1 + 1)) l0_0 a0_1))) else (none)) else (none)) else (if (rd_T40 l0_0 x3_1).f3=true then (if ((rd_T40 l0_0 x3_1).f2)<a0_1 then (some false) else (spec_QueueOk.l0 k1 (wrap64 (x3_1 + 1)) l0_0 a0_1)) else (spec_QueueOk.l0 k1 (wrap64 (x3_1 + 1)) l0_0 a0_1))) else (some false))) else (some false))) else (some false))=some r:=H
   have A5:=Am A50
   clear A50
   by_cases c6:t275=true
   rotate_left
   ·replace c6:=Bool.eq_false_iff.mpr c6
    subst c6
    have H1:(some false)=some r:=by rw [if_neg (show ¬ (false=true) by decide)] at H;exact H
    clear H
    have H:=H1
    clear H1
    obtain rfl:=Option.some.inj H
    have D4:=cz0 Bc.out
    have D5:=cz1 Bc.out
    have D6:=bF Bc.out 0
    have D7:=bF Bc.out 1
    have p273:0≤(x3_1:Int):=of_decide_eq_true (by first|(with_reducible assumption)|assumption)
    have q273:x3_1<(l0_0.length:Int):=of_decide_eq_true (by first|(with_reducible assumption)|assumption)
    obtain ⟨ad273,e273,hx273_0,hx273_1,hx273_2,hx273_3⟩:=at_T40 HR0_0.out x3_1 p273 q273
    cases e273
    replace hx273_0:=(bW HB hx273_0:)
    replace hx273_1:=(bW HB hx273_1:)
    replace hx273_2:=(bW HB hx273_2:)
    replace hx273_3:=(bW HB hx273_3:)
    replace p273:=eq_true p273
    replace q273:=eq_true q273
    try go_wp2_with (first|((with_reducible refine gate_dst (N:=4) rfl ?_);refine box_event ?hg (N:=4) ?hd (cs:=#[.int .i64 0,.int .i64 0,.int .i64 0,.bool false]) (t:=40) ?hr ?_;(case hd=>rfl);(case hg=>rfl);(case hr=>first|(go_simp;done)|(go_simp;rfl));intro Bb hg w77 hbox hb;have n0_:=Am (bX Bc.out hb);have n1_:=Am (bP (by repeat (first|(with_reducible first|exact HB.out|apply oA|apply pN|apply o1|refine bS ?_ Be.out)|exact HB.out)) hb);have n2_:=Am (hbox);have n3_:=Am ((by rw [hg];exact (bZ (by repeat (first|(with_reducible first|exact HB.out|apply oA|apply pN|apply o1|refine bS ?_ Be.out)|exact HB.out))):w.heap.size≤Bb));have n4_:=Am ((by rw [hg];exact (bZ (by repeat (first|(with_reducible first|exact HB.out|apply oA|apply pN|apply o1|refine bS ?_ Be.out)|exact HB.out))):w.heap.size≤Bb));have n5_:=Am ((nL Bc.out hg));have n6_:=Am ((nG Bc.out hg));clear Bc HB;revert n0_ n1_ n2_ n3_ n4_ n5_ n6_;intro Bc HB Ba Bi Bh Bf Bg;clear hb hbox hg;have FH:=Bg.out;have FI:=Bf.out;have D8:=cz0 Ba.out;have D9:=cz1 Ba.out;have Fa:=cz2 Ba.out;have Fb:=cz3 Ba.out;have Fc:=bF Ba.out 0;have Fd:=bF Ba.out 1;have Fe:=bF Ba.out 2;have Ff:=bF Ba.out 3))
    have n0_:Aside0 (((((w77.setCell ⟨Bb,0,none⟩ (.int .i64 ((rd_T40 l0_0 x3_1).f0))).setCell ⟨Bb,1,none⟩ (.int .i64 ((rd_T40 l0_0 x3_1).f1))).setCell ⟨Bb,2,none⟩ (.int .i64 ((rd_T40 l0_0 x3_1).f2))).setCell ⟨Bb,3,none⟩ (.bool ((rd_T40 l0_0 x3_1).f3))).heap[Bd]?=some (.cells #[.slice (some ad273) l0_0.length c0_0,.int .i64 a0_1] 25 (0,0))):=⟨by (with_reducible repeat (first|refine bN ?_ _|refine bD ?_|refine bA ?_ _|refine blk_far ?_ Bf.out _));exact Bc.out⟩
    have n1_:Aside0 (((((w77.setCell ⟨Bb,0,none⟩ (.int .i64 ((rd_T40 l0_0 x3_1).f0))).setCell ⟨Bb,1,none⟩ (.int .i64 ((rd_T40 l0_0 x3_1).f1))).setCell ⟨Bb,2,none⟩ (.int .i64 ((rd_T40 l0_0 x3_1).f2))).setCell ⟨Bb,3,none⟩ (.bool ((rd_T40 l0_0 x3_1).f3))).heap[Bb]?=some (.cells #[.int .i64 ((rd_T40 l0_0 x3_1).f0),.int .i64 ((rd_T40 l0_0 x3_1).f1),.int .i64 ((rd_T40 l0_0 x3_1).f2),.bool ((rd_T40 l0_0 x3_1).f3)] 40 (0,0))):=⟨by (with_reducible repeat (first|refine bN ?_ _|refine bD ?_|refine bA ?_ _));refine blk_put (cs:=#[.int .i64 ((rd_T40 l0_0 x3_1).f0),.int .i64 ((rd_T40 l0_0 x3_1).f1),.int .i64 ((rd_T40 l0_0 x3_1).f2),.bool false]) ?_ 3 _ rfl;(with_reducible repeat (first|refine bN ?_ _|refine bD ?_|refine bA ?_ _));refine blk_put (cs:=#[.int .i64 ((rd_T40 l0_0 x3_1).f0),.int .i64 ((rd_T40 l0_0 x3_1).f1),.int .i64 0,.bool false]) ?_ 2 _ rfl;(with_reducible repeat (first|refine bN ?_ _|refine bD ?_|refine bA ?_ _));refine blk_put (cs:=#[.int .i64 ((rd_T40 l0_0 x3_1).f0),.int .i64 0,.int .i64 0,.bool false]) ?_ 1 _ rfl;(with_reducible repeat (first|refine bN ?_ _|refine bD ?_|refine bA ?_ _));refine blk_put (cs:=#[.int .i64 0,.int .i64 0,.int .i64 0,.bool false]) ?_ 0 _ rfl;(with_reducible repeat (first|refine bN ?_ _|refine bD ?_|refine bA ?_ _));exact Ba.out⟩
    have n2_:Aside0 (Below w.heap.size w ((((w77.setCell ⟨Bb,0,none⟩ (.int .i64 ((rd_T40 l0_0 x3_1).f0))).setCell ⟨Bb,1,none⟩ (.int .i64 ((rd_T40 l0_0 x3_1).f1))).setCell ⟨Bb,2,none⟩ (.int .i64 ((rd_T40 l0_0 x3_1).f2))).setCell ⟨Bb,3,none⟩ (.bool ((rd_T40 l0_0 x3_1).f3)))):=⟨by repeat (first|(with_reducible first|exact HB.out|apply oA|apply pN|apply o1|refine bS ?_ Be.out|refine bS ?_ Bh.out)|exact HB.out)⟩
    (try clear Bc)
    (try clear Ba)
    (try clear HB)
    generalize ((((w77.setCell ⟨Bb,0,none⟩ (.int .i64 ((rd_T40 l0_0 x3_1).f0))).setCell ⟨Bb,1,none⟩ (.int .i64 ((rd_T40 l0_0 x3_1).f1))).setCell ⟨Bb,2,none⟩ (.int .i64 ((rd_T40 l0_0 x3_1).f2))).setCell ⟨Bb,3,none⟩ (.bool ((rd_T40 l0_0 x3_1).f3)))=w80 at n0_ n1_ n2_ ⊢
    have Bc:=n0_
    have Ba:=n1_
    have HB:=n2_
    clear n0_ n1_ n2_
    have n0_:=Am (bD Bc.out)
    have n1_:=Am (bD Ba.out)
    have n2_:=Am (o1 HB.out)
    clear Bc
    clear Ba
    clear HB
    have Bc:=n0_
    have Ba:=n1_
    have HB:=n2_
    clear n0_ n1_ n2_
    refine start_ (n:=43) (S:=fun w'=>w'.cell? ⟨Bb,0,none⟩=some (.int .i64 ((rd_T40 l0_0 x3_1).f0))∧w'.cell? ⟨Bb,1,none⟩=some (.int .i64 ((rd_T40 l0_0 x3_1).f1))∧w'.cell? ⟨Bb,2,none⟩=some (.int .i64 ((rd_T40 l0_0 x3_1).f2))∧w'.cell? ⟨Bb,3,none⟩=some (.bool ((rd_T40 l0_0 x3_1).f3))) (ds:=[]) z18q0 (by kernel_rfl) rfl rfl ⟨(bC Ba.out 0).trans rfl,(bC Ba.out 1).trans rfl,(bC Ba.out 2).trans rfl,(bC Ba.out 3).trans rfl⟩ (fun hHeld=>?_);refine with_st spec_QueueOk.tab5 spec_QueueOk.bits5 (fun _ _ _ _ _ h=>h) (fun HT_=>?_)
    generalize w80.drew=w81 at Bc Ba HB hHeld ⊢
    refine pS 0 17 z18q1 HT_ rfl rfl (by kernel_rfl) (by rfl) (by intro w';go_simp;with_reducible rfl) (by simp only [Act.put,lA,lZ,lS,iw,jw];rfl) ?_
    refine tS 1 18 z18q2 HT_ hHeld rfl rfl (by kernel_rfl) (by rfl) (by rintro w' ⟨s0,s1,s2,s3⟩;go_simp;with_reducible rfl) (by simp only [Act.put,lA,lZ,lS,iw,jw];rfl) ?_
    refine oS 2 19 z18q3 HT_ rfl rfl (by kernel_rfl) (by decide) (fun K hK=>?_)
    refine goes_ Try.func42 (by kernel_rfl) rfl #[.int .i64 ((rd_T40 l0_0 x3_1).f0),.int .i64 0,.int .i64 99] (by rfl) rfl rfl (by (try simp only [lM,lC,lN]);first|done|rfl|(simp only [lD,lT];rfl)) ?_
    with_reducible refine (spec_l6In.calls ((rd_T40 l0_0 x3_1).f0) 0 99 false _ A5.out).mono ?_
    rintro e w' ⟨rfl,⟨nd,rfl⟩⟩
    refine ⟨_,rfl,?_⟩
    refine hK.out _ _ ⟨(bC Ba.out 0).trans rfl,(bC Ba.out 1).trans rfl,(bC Ba.out 2).trans rfl,(bC Ba.out 3).trans rfl⟩ (fun hHeld=>?_)
    clear hK K
    refine norm_ (by show Act.put _ (some 19) _=_;simp only [Act.put,lA,lZ,lS,iw,jw];rfl) ?_
    refine pS 3 20 z18q4 HT_ rfl rfl (by kernel_rfl) (by rfl) (by intro w';go_simp;with_reducible rfl) (by simp only [Act.put,lA,lZ,lS,iw,jw];rfl) ?_
    refine pS 4 21 z18q5 HT_ rfl rfl (by kernel_rfl) (by rfl) (by intro w';go_simp;with_reducible rfl) (by simp only [Act.put,lA,lZ,lS,iw,jw];rfl) ?_
    refine vS 5 22 z18q6 HT_ rfl rfl (by kernel_rfl) (by rfl) (by simp only [Act.put,lA,lZ,lS,iw,jw];rfl) ?_
    refine vS 6 23 z18q7 HT_ rfl rfl (by kernel_rfl) (by rfl) (by simp only [Act.put,lA,lZ,lS,iw,jw];rfl) ?_
    refine vS 7 24 z18q8 HT_ rfl rfl (by kernel_rfl) (by rfl) (by simp only [Act.put,lA,lZ,lS,iw,jw];rfl) ?_
    refine vS 8 25 z18q9 HT_ rfl rfl (by kernel_rfl) (by rfl) (by simp only [Act.put,lA,lZ,lS,iw,jw];rfl) ?_
    refine pS 9 26 z18q10 HT_ rfl rfl (by kernel_rfl) (by rfl) (by intro w';go_simp;with_reducible rfl) (by simp only [Act.put,lA,lZ,lS,iw,jw];rfl) ?_
    refine pS 10 27 z18q11 HT_ rfl rfl (by kernel_rfl) (by rfl) (by intro w';go_simp;with_reducible rfl) (by simp only [Act.put,lA,lZ,lS,iw,jw];rfl) ?_
    refine vS 11 28 z18q12 HT_ rfl rfl (by kernel_rfl) (by rfl) (by simp only [Act.put,lA,lZ,lS,iw,jw];rfl) ?_
    refine vS 12 29 z18q13 HT_ rfl rfl (by kernel_rfl) (by rfl) (by simp only [Act.put,lA,lZ,lS,iw,jw];rfl) ?_
    refine vS 13 30 z18q14 HT_ rfl rfl (by kernel_rfl) (by rfl) (by simp only [Act.put,lA,lZ,lS,iw,jw];rfl) ?_
    refine vS 14 31 z18q15 HT_ rfl rfl (by kernel_rfl) (by rfl) (by simp only [Act.put,lA,lZ,lS,iw,jw];rfl) ?_
    refine pS 15 32 z18q16 HT_ rfl rfl (by kernel_rfl) (by rfl) (by intro w';go_simp;with_reducible rfl) (by simp only [Act.put,lA,lZ,lS,iw,jw];rfl) ?_
    refine pS 16 33 z18q17 HT_ rfl rfl (by kernel_rfl) (by rfl) (by intro w';go_simp;with_reducible rfl) (by simp only [Act.put,lA,lZ,lS,iw,jw];rfl) ?_
    refine vS 17 34 z18q18 HT_ rfl rfl (by kernel_rfl) (by rfl) (by simp only [Act.put,lA,lZ,lS,iw,jw];rfl) ?_
    refine vS 18 35 z18q19 HT_ rfl rfl (by kernel_rfl) (by rfl) (by simp only [Act.put,lA,lZ,lS,iw,jw];rfl) ?_
    refine vS 19 36 z18q20 HT_ rfl rfl (by kernel_rfl) (by rfl) (by simp only [Act.put,lA,lZ,lS,iw,jw];rfl) ?_
    refine vS 20 37 z18q21 HT_ rfl rfl (by kernel_rfl) (by rfl) (by simp only [Act.put,lA,lZ,lS,iw,jw];rfl) ?_
    refine vS 21 38 z18q45 HT_ rfl rfl (by kernel_rfl) (by rfl) (by simp only [Act.put,lA,lZ,lS,iw,jw];rfl) ?_
    refine vS 22 39 z18q46 HT_ rfl rfl (by kernel_rfl) (by rfl) (by simp only [Act.put,lA,lZ,lS,iw,jw];rfl) ?_
    refine vS 23 40 z18q47 HT_ rfl rfl (by kernel_rfl) (by rfl) (by simp only [Act.put,lA,lZ,lS,iw,jw];rfl) ?_
    refine vS 24 41 z18q48 HT_ rfl rfl (by kernel_rfl) (by rfl) (by simp only [Act.put,lA,lZ,lS,iw,jw];rfl) ?_
    refine vS 25 42 z18q49 HT_ rfl rfl (by kernel_rfl) (by rfl) (by simp only [Act.put,lA,lZ,lS,iw,jw];rfl) ?_
    refine vS 26 43 z18q50 HT_ rfl rfl (by kernel_rfl) (by rfl) (by simp only [Act.put,lA,lZ,lS,iw,jw];rfl) ?_
    refine vS 27 44 z18q28 HT_ rfl rfl (by kernel_rfl) (by rfl) (by simp only [Act.put,lA,lZ,lS,iw,jw];rfl) ?_
    refine vS 28 45 z18q29 HT_ rfl rfl (by kernel_rfl) (by rfl) (by simp only [Act.put,lA,lZ,lS,iw,jw];rfl) ?_
    refine vS 29 46 z18q30 HT_ rfl rfl (by kernel_rfl) (by rfl) (by simp only [Act.put,lA,lZ,lS,iw,jw];rfl) ?_
    refine vS 30 47 z18q31 HT_ rfl rfl (by kernel_rfl) (by rfl) (by simp only [Act.put,lA,lZ,lS,iw,jw];rfl) ?_
    refine pS 31 48 z18q32 HT_ rfl rfl (by kernel_rfl) (by rfl) (by intro w';go_simp;with_reducible rfl) (by simp only [Act.put,lA,lZ,lS,iw,jw];rfl) ?_
    refine pS 32 49 z18q33 HT_ rfl rfl (by kernel_rfl) (by rfl) (by intro w';go_simp;with_reducible rfl) (by simp only [Act.put,lA,lZ,lS,iw,jw];rfl) ?_
    refine vS 33 50 z18q34 HT_ rfl rfl (by kernel_rfl) (by rfl) (by simp only [Act.put,lA,lZ,lS,iw,jw];rfl) ?_
    refine vS 34 51 z18q35 HT_ rfl rfl (by kernel_rfl) (by rfl) (by simp only [Act.put,lA,lZ,lS,iw,jw];rfl) ?_
    refine vS 35 52 z18q36 HT_ rfl rfl (by kernel_rfl) (by rfl) (by simp only [Act.put,lA,lZ,lS,iw,jw];rfl) ?_
    refine vS 36 53 z18q37 HT_ rfl rfl (by kernel_rfl) (by rfl) (by simp only [Act.put,lA,lZ,lS,iw,jw];rfl) ?_
    refine vS 37 54 z18q38 HT_ rfl rfl (by kernel_rfl) (by rfl) (by simp only [Act.put,lA,lZ,lS,iw,jw];rfl) ?_
    refine vS 38 55 z18q39 HT_ rfl rfl (by kernel_rfl) (by rfl) (by simp only [Act.put,lA,lZ,lS,iw,jw];rfl) ?_
    refine vS 39 56 z18q40 HT_ rfl rfl (by kernel_rfl) (by rfl) (by simp only [Act.put,lA,lZ,lS,iw,jw];rfl) ?_
    refine vS 40 57 z18q41 HT_ rfl rfl (by kernel_rfl) (by rfl) (by simp only [Act.put,lA,lZ,lS,iw,jw];rfl) ?_
    refine vS 41 58 z18q42 HT_ rfl rfl (by kernel_rfl) (by rfl) (by simp only [Act.put,lA,lZ,lS,iw,jw];rfl) ?_
    refine pS 42 59 z18q43 HT_ rfl rfl (by kernel_rfl) (by rfl) (by intro w';go_simp;with_reducible rfl) (by simp only [Act.put,lA,lZ,lS,iw,jw];rfl) ?_
    refine done_ (done_of HT_.out (by kernel_rfl)) ?_
    try go_wp2
    go_ret
    exact ⟨by first|rfl|(simp [errW_none,errW_some] <;> rfl)|(simp [*,errW_none,errW_some] <;> rfl),by repeat (first|(with_reducible first|exact HB.out|apply oA|apply pN|apply o1|refine bS ?_ Be.out|refine bS ?_ Bh.out)|exact HB.out)⟩
   subst c6
   have H1:((spec_l6In.f ((rd_T40 l0_0 x3_1).f1) 1 6).bind fun t276=>(if t276=true then ((spec_l6In.f ((rd_T40 l0_0 x3_1).f2) 0 1000000).bind fun t277=>(if t277=true then (if x3_1 > 0 then (if 0≤(wrap64 (x3_1 - 1)) then (if (wrap64 (x3_1 - 1))<(l0_0.length:Int) then (if ((rd_T40 l0_0 (wrap64 (x3_1 - 1))).f0) ≥ ((rd_T40 l0_0 x3_1).f0) then (some false) else (if (rd_T40 l0_0 x3_1).f3=true then (if ((rd_T40 l0_0 x3_1).f2)<a0_1 then (some false) else (spec_QueueOk.l0 k1 (wrap64 (x3_1 + 1)) l0_0 a0_1)) else (spec_QueueOk.l0 k1 (wrap64 (x3_1 + 1)) l0_0 a0_1))) else (none)) else (none)) else (if (rd_T40 l0_0 x3_1).f3=true then (if ((rd_T40 l0_0 x3_1).f2)<a0_1 then (some false) else (spec_QueueOk.l0 k1 (wrap64 (x3_1 + 1)) l0_0 a0_1)) else (spec_QueueOk.l0 k1 (wrap64 (x3_1 + 1)) l0_0 a0_1))) else (some false))) else (some false)))=some r:=by rw [if_pos rfl] at H;exact H
   clear H
   have H:=H1
   clear H1
   replace H:=oC H
   obtain ⟨t276,A70,H⟩:=H
   replace H:(if t276=true then ((spec_l6In.f ((rd_T40 l0_0 x3_1).f2) 0 1000000).bind fun t277=>(if t277=true then (if x3_1 > 0 then (if 0≤(wrap64 (x3_1 - 1)) then (if (wrap64 (x3_1 - 1))<(l0_0.length:Int) then (if ((rd_T40 l0_0 (wrap64 (x3_1 - 1))).f0) ≥ ((rd_T40 l0_0 x3_1).f0) then (some false) else (if (rd_T40 l0_0 x3_1).f3=true then (if ((rd_T40 l0_0 x3_1).f2)<a0_1 then (some false) else (spec_QueueOk.l0 k1 (wrap64 (x3_1 + 1)) l0_0 a0_1)) else (spec_QueueOk.l0 k1 (wrap64 (x3_1 + 1)) l0_0 a0_1))) else (none)) else (none)) else (if (rd_T40 l0_0 x3_1).f3=true then (if ((rd_T40 l0_0 x3_1).f2)<a0_1 then (some false) else (spec_QueueOk.l0 k1 (wrap64 (x3_1 + 1)) l0_0 a0_1)) else (spec_QueueOk.l0 k1 (wrap64 (x3_1 + 1)) l0_0 a0_1))) else (some false))) else (some false))=some r:=H
   have A7:=Am A70
   clear A70
   by_cases c8:t276=true
   rotate_left
   ·replace c8:=Bool.eq_false_iff.mpr c8
    subst c8
    have H1:(some false)=some r:=by rw [if_neg (show ¬ (false=true) by decide)] at H;exact H
    clear H
    have H:=H1
    clear H1
    obtain rfl:=Option.some.inj H
    have DS:=cz0 Bc.out
    have DT:=cz1 Bc.out
    have DU:=bF Bc.out 0
    have DV:=bF Bc.out 1
    have p273:0≤(x3_1:Int):=of_decide_eq_true (by first|(with_reducible assumption)|assumption)
    have q273:x3_1<(l0_0.length:Int):=of_decide_eq_true (by first|(with_reducible assumption)|assumption)
    obtain ⟨ad273,e273,hx273_0,hx273_1,hx273_2,hx273_3⟩:=at_T40 HR0_0.out x3_1 p273 q273
    cases e273
    replace hx273_0:=(bW HB hx273_0:)
    replace hx273_1:=(bW HB hx273_1:)
    replace hx273_2:=(bW HB hx273_2:)
    replace hx273_3:=(bW HB hx273_3:)
    replace p273:=eq_true p273
    replace q273:=eq_true q273
    try go_wp2_with (first|((with_reducible refine gate_dst (N:=4) rfl ?_);refine box_event ?hg (N:=4) ?hd (cs:=#[.int .i64 0,.int .i64 0,.int .i64 0,.bool false]) (t:=40) ?hr ?_;(case hd=>rfl);(case hg=>rfl);(case hr=>first|(go_simp;done)|(go_simp;rfl));intro Bb hg w71 hbox hb;have n0_:=Am (bX Bc.out hb);have n1_:=Am (bP (by repeat (first|(with_reducible first|exact HB.out|apply oA|apply pN|apply o1|refine bS ?_ Be.out)|exact HB.out)) hb);have n2_:=Am (hbox);have n3_:=Am ((by rw [hg];exact (bZ (by repeat (first|(with_reducible first|exact HB.out|apply oA|apply pN|apply o1|refine bS ?_ Be.out)|exact HB.out))):w.heap.size≤Bb));have n4_:=Am ((by rw [hg];exact (bZ (by repeat (first|(with_reducible first|exact HB.out|apply oA|apply pN|apply o1|refine bS ?_ Be.out)|exact HB.out))):w.heap.size≤Bb));have n5_:=Am ((nL Bc.out hg));have n6_:=Am ((nG Bc.out hg));clear Bc HB;revert n0_ n1_ n2_ n3_ n4_ n5_ n6_;intro Bc HB Ba Bi Bh Bf Bg;clear hb hbox hg;have FF:=Bg.out;have FG:=Bf.out;have DW:=cz0 Ba.out;have DX:=cz1 Ba.out;have DY:=cz2 Ba.out;have DZ:=cz3 Ba.out;have D0:=bF Ba.out 0;have D1:=bF Ba.out 1;have D2:=bF Ba.out 2;have D3:=bF Ba.out 3))
    have n0_:Aside0 (((((w71.setCell ⟨Bb,0,none⟩ (.int .i64 ((rd_T40 l0_0 x3_1).f0))).setCell ⟨Bb,1,none⟩ (.int .i64 ((rd_T40 l0_0 x3_1).f1))).setCell ⟨Bb,2,none⟩ (.int .i64 ((rd_T40 l0_0 x3_1).f2))).setCell ⟨Bb,3,none⟩ (.bool ((rd_T40 l0_0 x3_1).f3))).heap[Bd]?=some (.cells #[.slice (some ad273) l0_0.length c0_0,.int .i64 a0_1] 25 (0,0))):=⟨by (with_reducible repeat (first|refine bN ?_ _|refine bD ?_|refine bA ?_ _|refine blk_far ?_ Bf.out _));exact Bc.out⟩
    have n1_:Aside0 (((((w71.setCell ⟨Bb,0,none⟩ (.int .i64 ((rd_T40 l0_0 x3_1).f0))).setCell ⟨Bb,1,none⟩ (.int .i64 ((rd_T40 l0_0 x3_1).f1))).setCell ⟨Bb,2,none⟩ (.int .i64 ((rd_T40 l0_0 x3_1).f2))).setCell ⟨Bb,3,none⟩ (.bool ((rd_T40 l0_0 x3_1).f3))).heap[Bb]?=some (.cells #[.int .i64 ((rd_T40 l0_0 x3_1).f0),.int .i64 ((rd_T40 l0_0 x3_1).f1),.int .i64 ((rd_T40 l0_0 x3_1).f2),.bool ((rd_T40 l0_0 x3_1).f3)] 40 (0,0))):=⟨by (with_reducible repeat (first|refine bN ?_ _|refine bD ?_|refine bA ?_ _));refine blk_put (cs:=#[.int .i64 ((rd_T40 l0_0 x3_1).f0),.int .i64 ((rd_T40 l0_0 x3_1).f1),.int .i64 ((rd_T40 l0_0 x3_1).f2),.bool false]) ?_ 3 _ rfl;(with_reducible repeat (first|refine bN ?_ _|refine bD ?_|refine bA ?_ _));refine blk_put (cs:=#[.int .i64 ((rd_T40 l0_0 x3_1).f0),.int .i64 ((rd_T40 l0_0 x3_1).f1),.int .i64 0,.bool false]) ?_ 2 _ rfl;(with_reducible repeat (first|refine bN ?_ _|refine bD ?_|refine bA ?_ _));refine blk_put (cs:=#[.int .i64 ((rd_T40 l0_0 x3_1).f0),.int .i64 0,.int .i64 0,.bool false]) ?_ 1 _ rfl;(with_reducible repeat (first|refine bN ?_ _|refine bD ?_|refine bA ?_ _));refine blk_put (cs:=#[.int .i64 0,.int .i64 0,.int .i64 0,.bool false]) ?_ 0 _ rfl;(with_reducible repeat (first|refine bN ?_ _|refine bD ?_|refine bA ?_ _));exact Ba.out⟩
    have n2_:Aside0 (Below w.heap.size w ((((w71.setCell ⟨Bb,0,none⟩ (.int .i64 ((rd_T40 l0_0 x3_1).f0))).setCell ⟨Bb,1,none⟩ (.int .i64 ((rd_T40 l0_0 x3_1).f1))).setCell ⟨Bb,2,none⟩ (.int .i64 ((rd_T40 l0_0 x3_1).f2))).setCell ⟨Bb,3,none⟩ (.bool ((rd_T40 l0_0 x3_1).f3)))):=⟨by repeat (first|(with_reducible first|exact HB.out|apply oA|apply pN|apply o1|refine bS ?_ Be.out|refine bS ?_ Bh.out)|exact HB.out)⟩
    (try clear Bc)
    (try clear Ba)
    (try clear HB)
    generalize ((((w71.setCell ⟨Bb,0,none⟩ (.int .i64 ((rd_T40 l0_0 x3_1).f0))).setCell ⟨Bb,1,none⟩ (.int .i64 ((rd_T40 l0_0 x3_1).f1))).setCell ⟨Bb,2,none⟩ (.int .i64 ((rd_T40 l0_0 x3_1).f2))).setCell ⟨Bb,3,none⟩ (.bool ((rd_T40 l0_0 x3_1).f3)))=w74 at n0_ n1_ n2_ ⊢
    have Bc:=n0_
    have Ba:=n1_
    have HB:=n2_
    clear n0_ n1_ n2_
    have n0_:=Am (bD Bc.out)
    have n1_:=Am (bD Ba.out)
    have n2_:=Am (o1 HB.out)
    clear Bc
    clear Ba
    clear HB
    have Bc:=n0_
    have Ba:=n1_
    have HB:=n2_
    clear n0_ n1_ n2_
    refine start_ (n:=43) (S:=fun w'=>w'.cell? ⟨Bb,0,none⟩=some (.int .i64 ((rd_T40 l0_0 x3_1).f0))∧w'.cell? ⟨Bb,1,none⟩=some (.int .i64 ((rd_T40 l0_0 x3_1).f1))∧w'.cell? ⟨Bb,2,none⟩=some (.int .i64 ((rd_T40 l0_0 x3_1).f2))∧w'.cell? ⟨Bb,3,none⟩=some (.bool ((rd_T40 l0_0 x3_1).f3))) (ds:=[]) z18q0 (by kernel_rfl) rfl rfl ⟨(bC Ba.out 0).trans rfl,(bC Ba.out 1).trans rfl,(bC Ba.out 2).trans rfl,(bC Ba.out 3).trans rfl⟩ (fun hHeld=>?_);refine with_st spec_QueueOk.tab5 spec_QueueOk.bits5 (fun _ _ _ _ _ h=>h) (fun HT_=>?_)
    generalize w74.drew=w75 at Bc Ba HB hHeld ⊢
    refine pS 0 17 z18q1 HT_ rfl rfl (by kernel_rfl) (by rfl) (by intro w';go_simp;with_reducible rfl) (by simp only [Act.put,lA,lZ,lS,iw,jw];rfl) ?_
    refine tS 1 18 z18q2 HT_ hHeld rfl rfl (by kernel_rfl) (by rfl) (by rintro w' ⟨s0,s1,s2,s3⟩;go_simp;with_reducible rfl) (by simp only [Act.put,lA,lZ,lS,iw,jw];rfl) ?_
    refine oS 2 19 z18q3 HT_ rfl rfl (by kernel_rfl) (by decide) (fun K hK=>?_)
    refine goes_ Try.func42 (by kernel_rfl) rfl #[.int .i64 ((rd_T40 l0_0 x3_1).f0),.int .i64 0,.int .i64 99] (by rfl) rfl rfl (by (try simp only [lM,lC,lN]);first|done|rfl|(simp only [lD,lT];rfl)) ?_
    with_reducible refine (spec_l6In.calls ((rd_T40 l0_0 x3_1).f0) 0 99 true _ A5.out).mono ?_
    rintro e w' ⟨rfl,⟨nd,rfl⟩⟩
    refine ⟨_,rfl,?_⟩
    refine hK.out _ _ ⟨(bC Ba.out 0).trans rfl,(bC Ba.out 1).trans rfl,(bC Ba.out 2).trans rfl,(bC Ba.out 3).trans rfl⟩ (fun hHeld=>?_)
    clear hK K
    refine norm_ (by show Act.put _ (some 19) _=_;simp only [Act.put,lA,lZ,lS,iw,jw];rfl) ?_
    refine pS 3 20 z18q4 HT_ rfl rfl (by kernel_rfl) (by rfl) (by intro w';go_simp;with_reducible rfl) (by simp only [Act.put,lA,lZ,lS,iw,jw];rfl) ?_
    refine pS 4 21 z18q5 HT_ rfl rfl (by kernel_rfl) (by rfl) (by intro w';go_simp;with_reducible rfl) (by simp only [Act.put,lA,lZ,lS,iw,jw];rfl) ?_
    refine pS 5 22 z18q6 HT_ rfl rfl (by kernel_rfl) (by rfl) (by intro w';go_simp;with_reducible rfl) (by simp only [Act.put,lA,lZ,lS,iw,jw];rfl) ?_
    refine tS 6 23 z18q7 HT_ hHeld rfl rfl (by kernel_rfl) (by rfl) (by rintro w' ⟨s0,s1,s2,s3⟩;go_simp;with_reducible rfl) (by simp only [Act.put,lA,lZ,lS,iw,jw];rfl) ?_
    refine oS 7 24 z18q8 HT_ rfl rfl (by kernel_rfl) (by decide) (fun K hK=>?_)
    refine goes_ Try.func42 (by kernel_rfl) rfl #[.int .i64 ((rd_T40 l0_0 x3_1).f1),.int .i64 1,.int .i64 6] (by rfl) rfl rfl (by (try simp only [lM,lC,lN]);first|done|rfl|(simp only [lD,lT];rfl)) ?_
    with_reducible refine (spec_l6In.calls ((rd_T40 l0_0 x3_1).f1) 1 6 false _ A7.out).mono ?_
    rintro e w' ⟨rfl,⟨nd,rfl⟩⟩
    refine ⟨_,rfl,?_⟩
    refine hK.out _ _ ⟨(bC Ba.out 0).trans rfl,(bC Ba.out 1).trans rfl,(bC Ba.out 2).trans rfl,(bC Ba.out 3).trans rfl⟩ (fun hHeld=>?_)
    clear hK K
    refine norm_ (by show Act.put _ (some 24) _=_;simp only [Act.put,lA,lZ,lS,iw,jw];rfl) ?_
    refine pS 8 25 z18q9 HT_ rfl rfl (by kernel_rfl) (by rfl) (by intro w';go_simp;with_reducible rfl) (by simp only [Act.put,lA,lZ,lS,iw,jw];rfl) ?_
    refine pS 9 26 z18q10 HT_ rfl rfl (by kernel_rfl) (by rfl) (by intro w';go_simp;with_reducible rfl) (by simp only [Act.put,lA,lZ,lS,iw,jw];rfl) ?_
    refine pS 10 27 z18q11 HT_ rfl rfl (by kernel_rfl) (by rfl) (by intro w';go_simp;with_reducible rfl) (by simp only [Act.put,lA,lZ,lS,iw,jw];rfl) ?_
    refine vS 11 28 z18q12 HT_ rfl rfl (by kernel_rfl) (by rfl) (by simp only [Act.put,lA,lZ,lS,iw,jw];rfl) ?_
    refine vS 12 29 z18q13 HT_ rfl rfl (by kernel_rfl) (by rfl) (by simp only [Act.put,lA,lZ,lS,iw,jw];rfl) ?_
    refine vS 13 30 z18q14 HT_ rfl rfl (by kernel_rfl) (by rfl) (by simp only [Act.put,lA,lZ,lS,iw,jw];rfl) ?_
    refine vS 14 31 z18q15 HT_ rfl rfl (by kernel_rfl) (by rfl) (by simp only [Act.put,lA,lZ,lS,iw,jw];rfl) ?_
    refine pS 15 32 z18q16 HT_ rfl rfl (by kernel_rfl) (by rfl) (by intro w';go_simp;with_reducible rfl) (by simp only [Act.put,lA,lZ,lS,iw,jw];rfl) ?_
    refine pS 16 33 z18q17 HT_ rfl rfl (by kernel_rfl) (by rfl) (by intro w';go_simp;with_reducible rfl) (by simp only [Act.put,lA,lZ,lS,iw,jw];rfl) ?_
    refine vS 17 34 z18q18 HT_ rfl rfl (by kernel_rfl) (by rfl) (by simp only [Act.put,lA,lZ,lS,iw,jw];rfl) ?_
    refine vS 18 35 z18q19 HT_ rfl rfl (by kernel_rfl) (by rfl) (by simp only [Act.put,lA,lZ,lS,iw,jw];rfl) ?_
    refine vS 19 36 z18q20 HT_ rfl rfl (by kernel_rfl) (by rfl) (by simp only [Act.put,lA,lZ,lS,iw,jw];rfl) ?_
    refine vS 20 37 z18q21 HT_ rfl rfl (by kernel_rfl) (by rfl) (by simp only [Act.put,lA,lZ,lS,iw,jw];rfl) ?_
    refine vS 21 38 z18q45 HT_ rfl rfl (by kernel_rfl) (by rfl) (by simp only [Act.put,lA,lZ,lS,iw,jw];rfl) ?_
    refine vS 22 39 z18q46 HT_ rfl rfl (by kernel_rfl) (by rfl) (by simp only [Act.put,lA,lZ,lS,iw,jw];rfl) ?_
    refine vS 23 40 z18q47 HT_ rfl rfl (by kernel_rfl) (by rfl) (by simp only [Act.put,lA,lZ,lS,iw,jw];rfl) ?_
    refine vS 24 41 z18q48 HT_ rfl rfl (by kernel_rfl) (by rfl) (by simp only [Act.put,lA,lZ,lS,iw,jw];rfl) ?_
    refine vS 25 42 z18q49 HT_ rfl rfl (by kernel_rfl) (by rfl) (by simp only [Act.put,lA,lZ,lS,iw,jw];rfl) ?_
    refine vS 26 43 z18q50 HT_ rfl rfl (by kernel_rfl) (by rfl) (by simp only [Act.put,lA,lZ,lS,iw,jw];rfl) ?_
    refine vS 27 44 z18q28 HT_ rfl rfl (by kernel_rfl) (by rfl) (by simp only [Act.put,lA,lZ,lS,iw,jw];rfl) ?_
    refine vS 28 45 z18q29 HT_ rfl rfl (by kernel_rfl) (by rfl) (by simp only [Act.put,lA,lZ,lS,iw,jw];rfl) ?_
    refine vS 29 46 z18q30 HT_ rfl rfl (by kernel_rfl) (by rfl) (by simp only [Act.put,lA,lZ,lS,iw,jw];rfl) ?_
    refine vS 30 47 z18q31 HT_ rfl rfl (by kernel_rfl) (by rfl) (by simp only [Act.put,lA,lZ,lS,iw,jw];rfl) ?_
    refine pS 31 48 z18q32 HT_ rfl rfl (by kernel_rfl) (by rfl) (by intro w';go_simp;with_reducible rfl) (by simp only [Act.put,lA,lZ,lS,iw,jw];rfl) ?_
    refine pS 32 49 z18q33 HT_ rfl rfl (by kernel_rfl) (by rfl) (by intro w';go_simp;with_reducible rfl) (by simp only [Act.put,lA,lZ,lS,iw,jw];rfl) ?_
    refine vS 33 50 z18q34 HT_ rfl rfl (by kernel_rfl) (by rfl) (by simp only [Act.put,lA,lZ,lS,iw,jw];rfl) ?_
    refine vS 34 51 z18q35 HT_ rfl rfl (by kernel_rfl) (by rfl) (by simp only [Act.put,lA,lZ,lS,iw,jw];rfl) ?_
    refine vS 35 52 z18q36 HT_ rfl rfl (by kernel_rfl) (by rfl) (by simp only [Act.put,lA,lZ,lS,iw,jw];rfl) ?_
    refine vS 36 53 z18q37 HT_ rfl rfl (by kernel_rfl) (by rfl) (by simp only [Act.put,lA,lZ,lS,iw,jw];rfl) ?_
    refine vS 37 54 z18q38 HT_ rfl rfl (by kernel_rfl) (by rfl) (by simp only [Act.put,lA,lZ,lS,iw,jw];rfl) ?_
    refine vS 38 55 z18q39 HT_ rfl rfl (by kernel_rfl) (by rfl) (by simp only [Act.put,lA,lZ,lS,iw,jw];rfl) ?_
    refine vS 39 56 z18q40 HT_ rfl rfl (by kernel_rfl) (by rfl) (by simp only [Act.put,lA,lZ,lS,iw,jw];rfl) ?_
    refine vS 40 57 z18q41 HT_ rfl rfl (by kernel_rfl) (by rfl) (by simp only [Act.put,lA,lZ,lS,iw,jw];rfl) ?_
    refine vS 41 58 z18q42 HT_ rfl rfl (by kernel_rfl) (by rfl) (by simp only [Act.put,lA,lZ,lS,iw,jw];rfl) ?_
    refine pS 42 59 z18q43 HT_ rfl rfl (by kernel_rfl) (by rfl) (by intro w';go_simp;with_reducible rfl) (by simp only [Act.put,lA,lZ,lS,iw,jw];rfl) ?_
    refine done_ (done_of HT_.out (by kernel_rfl)) ?_
    try go_wp2
    go_ret
    exact ⟨by first|rfl|(simp [errW_none,errW_some] <;> rfl)|(simp [*,errW_none,errW_some] <;> rfl),by repeat (first|(with_reducible first|exact HB.out|apply oA|apply pN|apply o1|refine bS ?_ Be.out|refine bS ?_ Bh.out)|exact HB.out)⟩
   subst c8
   have H1:((spec_l6In.f ((rd_T40 l0_0 x3_1).f2) 0 1000000).bind fun t277=>(if t277=true then (if x3_1 > 0 then (if 0≤(wrap64 (x3_1 - 1)) then (if (wrap64 (x3_1 - 1))<(l0_0.length:Int) then (if ((rd_T40 l0_0 (wrap64 (x3_1 - 1))).f0) ≥ ((rd_T40 l0_0 x3_1).f0) then (some false) else (if (rd_T40 l0_0 x3_1).f3=true then (if ((rd_T40 l0_0 x3_1).f2)<a0_1 then (some false) else (spec_QueueOk.l0 k1 (wrap64 (x3_1 + 1)) l0_0 a0_1)) else (spec_QueueOk.l0 k1 (wrap64 (x3_1 + 1)) l0_0 a0_1))) else (none)) else (none)) else (if (rd_T40 l0_0 x3_1).f3=true then (if ((rd_T40 l0_0 x3_1).f2)<a0_1 then (some false) else (spec_QueueOk.l0 k1 (wrap64 (x3_1 + 1)) l0_0 a0_1)) else (spec_QueueOk.l0 k1 (wrap64 (x3_1 + 1)) l0_0 a0_1))) else (some false)))=some r:=by rw [if_pos rfl] at H;exact H
   clear H
   have H:=H1
   clear H1
   replace H:=oC H
   obtain ⟨t277,A90,H⟩:=H
   replace H:(if t277=true then (if x3_1 > 0 then (if 0≤(wrap64 (x3_1 - 1)) then (if (wrap64 (x3_1 - 1))<(l0_0.length:Int) then (if ((rd_T40 l0_0 (wrap64 (x3_1 - 1))).f0) ≥ ((rd_T40 l0_0 x3_1).f0) then (some false) else (if (rd_T40 l0_0 x3_1).f3=true then (if ((rd_T40 l0_0 x3_1).f2)<a0_1 then (some false) else (spec_QueueOk.l0 k1 (wrap64 (x3_1 + 1)) l0_0 a0_1)) else (spec_QueueOk.l0 k1 (wrap64 (x3_1 + 1)) l0_0 a0_1))) else (none)) else (none)) else (if (rd_T40 l0_0 x3_1).f3=true then (if ((rd_T40 l0_0 x3_1).f2)<a0_1 then (some false) else (spec_QueueOk.l0 k1 (wrap64 (x3_1 + 1)) l0_0 a0_1)) else (spec_QueueOk.l0 k1 (wrap64 (x3_1 + 1)) l0_0 a0_1))) else (some false))=some r:=H
   have A9:=Am A90
   clear A90
   by_cases c10:t277=true
   rotate_left
   ·replace c10:=Bool.eq_false_iff.mpr c10
    subst c10
    have H1:(some false)=some r:=by rw [if_neg (show ¬ (false=true) by decide)] at H;exact H
    clear H
    have H:=H1
    clear H1
    obtain rfl:=Option.some.inj H
    have DG:=cz0 Bc.out
    have DH:=cz1 Bc.out
    have DI:=bF Bc.out 0
    have DJ:=bF Bc.out 1
    have p273:0≤(x3_1:Int):=of_decide_eq_true (by first|(with_reducible assumption)|assumption)
    have q273:x3_1<(l0_0.length:Int):=of_decide_eq_true (by first|(with_reducible assumption)|assumption)
    obtain ⟨ad273,e273,hx273_0,hx273_1,hx273_2,hx273_3⟩:=at_T40 HR0_0.out x3_1 p273 q273
    cases e273
    replace hx273_0:=(bW HB hx273_0:)
    replace hx273_1:=(bW HB hx273_1:)
    replace hx273_2:=(bW HB hx273_2:)
    replace hx273_3:=(bW HB hx273_3:)
    replace p273:=eq_true p273
    replace q273:=eq_true q273
    try go_wp2_with (first|((with_reducible refine gate_dst (N:=4) rfl ?_);refine box_event ?hg (N:=4) ?hd (cs:=#[.int .i64 0,.int .i64 0,.int .i64 0,.bool false]) (t:=40) ?hr ?_;(case hd=>rfl);(case hg=>rfl);(case hr=>first|(go_simp;done)|(go_simp;rfl));intro Bb hg w65 hbox hb;have n0_:=Am (bX Bc.out hb);have n1_:=Am (bP (by repeat (first|(with_reducible first|exact HB.out|apply oA|apply pN|apply o1|refine bS ?_ Be.out)|exact HB.out)) hb);have n2_:=Am (hbox);have n3_:=Am ((by rw [hg];exact (bZ (by repeat (first|(with_reducible first|exact HB.out|apply oA|apply pN|apply o1|refine bS ?_ Be.out)|exact HB.out))):w.heap.size≤Bb));have n4_:=Am ((by rw [hg];exact (bZ (by repeat (first|(with_reducible first|exact HB.out|apply oA|apply pN|apply o1|refine bS ?_ Be.out)|exact HB.out))):w.heap.size≤Bb));have n5_:=Am ((nL Bc.out hg));have n6_:=Am ((nG Bc.out hg));clear Bc HB;revert n0_ n1_ n2_ n3_ n4_ n5_ n6_;intro Bc HB Ba Bi Bh Bf Bg;clear hb hbox hg;have FD:=Bg.out;have FE:=Bf.out;have DK:=cz0 Ba.out;have DL:=cz1 Ba.out;have DM:=cz2 Ba.out;have DN:=cz3 Ba.out;have DO:=bF Ba.out 0;have DP:=bF Ba.out 1;have DQ:=bF Ba.out 2;have DR:=bF Ba.out 3))
    have n0_:Aside0 (((((w65.setCell ⟨Bb,0,none⟩ (.int .i64 ((rd_T40 l0_0 x3_1).f0))).setCell ⟨Bb,1,none⟩ (.int .i64 ((rd_T40 l0_0 x3_1).f1))).setCell ⟨Bb,2,none⟩ (.int .i64 ((rd_T40 l0_0 x3_1).f2))).setCell ⟨Bb,3,none⟩ (.bool ((rd_T40 l0_0 x3_1).f3))).heap[Bd]?=some (.cells #[.slice (some ad273) l0_0.length c0_0,.int .i64 a0_1] 25 (0,0))):=⟨by (with_reducible repeat (first|refine bN ?_ _|refine bD ?_|refine bA ?_ _|refine blk_far ?_ Bf.out _));exact Bc.out⟩
    have n1_:Aside0 (((((w65.setCell ⟨Bb,0,none⟩ (.int .i64 ((rd_T40 l0_0 x3_1).f0))).setCell ⟨Bb,1,none⟩ (.int .i64 ((rd_T40 l0_0 x3_1).f1))).setCell ⟨Bb,2,none⟩ (.int .i64 ((rd_T40 l0_0 x3_1).f2))).setCell ⟨Bb,3,none⟩ (.bool ((rd_T40 l0_0 x3_1).f3))).heap[Bb]?=some (.cells #[.int .i64 ((rd_T40 l0_0 x3_1).f0),.int .i64 ((rd_T40 l0_0 x3_1).f1),.int .i64 ((rd_T40 l0_0 x3_1).f2),.bool ((rd_T40 l0_0 x3_1).f3)] 40 (0,0))):=⟨by (with_reducible repeat (first|refine bN ?_ _|refine bD ?_|refine bA ?_ _));refine blk_put (cs:=#[.int .i64 ((rd_T40 l0_0 x3_1).f0),.int .i64 ((rd_T40 l0_0 x3_1).f1),.int .i64 ((rd_T40 l0_0 x3_1).f2),.bool false]) ?_ 3 _ rfl;(with_reducible repeat (first|refine bN ?_ _|refine bD ?_|refine bA ?_ _));refine blk_put (cs:=#[.int .i64 ((rd_T40 l0_0 x3_1).f0),.int .i64 ((rd_T40 l0_0 x3_1).f1),.int .i64 0,.bool false]) ?_ 2 _ rfl;(with_reducible repeat (first|refine bN ?_ _|refine bD ?_|refine bA ?_ _));refine blk_put (cs:=#[.int .i64 ((rd_T40 l0_0 x3_1).f0),.int .i64 0,.int .i64 0,.bool false]) ?_ 1 _ rfl;(with_reducible repeat (first|refine bN ?_ _|refine bD ?_|refine bA ?_ _));refine blk_put (cs:=#[.int .i64 0,.int .i64 0,.int .i64 0,.bool false]) ?_ 0 _ rfl;(with_reducible repeat (first|refine bN ?_ _|refine bD ?_|refine bA ?_ _));exact Ba.out⟩
    have n2_:Aside0 (Below w.heap.size w ((((w65.setCell ⟨Bb,0,none⟩ (.int .i64 ((rd_T40 l0_0 x3_1).f0))).setCell ⟨Bb,1,none⟩ (.int .i64 ((rd_T40 l0_0 x3_1).f1))).setCell ⟨Bb,2,none⟩ (.int .i64 ((rd_T40 l0_0 x3_1).f2))).setCell ⟨Bb,3,none⟩ (.bool ((rd_T40 l0_0 x3_1).f3)))):=⟨by repeat (first|(with_reducible first|exact HB.out|apply oA|apply pN|apply o1|refine bS ?_ Be.out|refine bS ?_ Bh.out)|exact HB.out)⟩
    (try clear Bc)
    (try clear Ba)
    (try clear HB)
    generalize ((((w65.setCell ⟨Bb,0,none⟩ (.int .i64 ((rd_T40 l0_0 x3_1).f0))).setCell ⟨Bb,1,none⟩ (.int .i64 ((rd_T40 l0_0 x3_1).f1))).setCell ⟨Bb,2,none⟩ (.int .i64 ((rd_T40 l0_0 x3_1).f2))).setCell ⟨Bb,3,none⟩ (.bool ((rd_T40 l0_0 x3_1).f3)))=w68 at n0_ n1_ n2_ ⊢
    have Bc:=n0_
    have Ba:=n1_
    have HB:=n2_
    clear n0_ n1_ n2_
    have n0_:=Am (bD Bc.out)
    have n1_:=Am (bD Ba.out)
    have n2_:=Am (o1 HB.out)
    clear Bc
    clear Ba
    clear HB
    have Bc:=n0_
    have Ba:=n1_
    have HB:=n2_
    clear n0_ n1_ n2_
    refine start_ (n:=43) (S:=fun w'=>w'.cell? ⟨Bb,0,none⟩=some (.int .i64 ((rd_T40 l0_0 x3_1).f0))∧w'.cell? ⟨Bb,1,none⟩=some (.int .i64 ((rd_T40 l0_0 x3_1).f1))∧w'.cell? ⟨Bb,2,none⟩=some (.int .i64 ((rd_T40 l0_0 x3_1).f2))∧w'.cell? ⟨Bb,3,none⟩=some (.bool ((rd_T40 l0_0 x3_1).f3))) (ds:=[]) z18q0 (by kernel_rfl) rfl rfl ⟨(bC Ba.out 0).trans rfl,(bC Ba.out 1).trans rfl,(bC Ba.out 2).trans rfl,(bC Ba.out 3).trans rfl⟩ (fun hHeld=>?_);refine with_st spec_QueueOk.tab5 spec_QueueOk.bits5 (fun _ _ _ _ _ h=>h) (fun HT_=>?_)
    generalize w68.drew=w69 at Bc Ba HB hHeld ⊢
    refine pS 0 17 z18q1 HT_ rfl rfl (by kernel_rfl) (by rfl) (by intro w';go_simp;with_reducible rfl) (by simp only [Act.put,lA,lZ,lS,iw,jw];rfl) ?_
    refine tS 1 18 z18q2 HT_ hHeld rfl rfl (by kernel_rfl) (by rfl) (by rintro w' ⟨s0,s1,s2,s3⟩;go_simp;with_reducible rfl) (by simp only [Act.put,lA,lZ,lS,iw,jw];rfl) ?_
    refine oS 2 19 z18q3 HT_ rfl rfl (by kernel_rfl) (by decide) (fun K hK=>?_)
    refine goes_ Try.func42 (by kernel_rfl) rfl #[.int .i64 ((rd_T40 l0_0 x3_1).f0),.int .i64 0,.int .i64 99] (by rfl) rfl rfl (by (try simp only [lM,lC,lN]);first|done|rfl|(simp only [lD,lT];rfl)) ?_
    with_reducible refine (spec_l6In.calls ((rd_T40 l0_0 x3_1).f0) 0 99 true _ A5.out).mono ?_
    rintro e w' ⟨rfl,⟨nd,rfl⟩⟩
    refine ⟨_,rfl,?_⟩
    refine hK.out _ _ ⟨(bC Ba.out 0).trans rfl,(bC Ba.out 1).trans rfl,(bC Ba.out 2).trans rfl,(bC Ba.out 3).trans rfl⟩ (fun hHeld=>?_)
    clear hK K
    refine norm_ (by show Act.put _ (some 19) _=_;simp only [Act.put,lA,lZ,lS,iw,jw];rfl) ?_
    refine pS 3 20 z18q4 HT_ rfl rfl (by kernel_rfl) (by rfl) (by intro w';go_simp;with_reducible rfl) (by simp only [Act.put,lA,lZ,lS,iw,jw];rfl) ?_
    refine pS 4 21 z18q5 HT_ rfl rfl (by kernel_rfl) (by rfl) (by intro w';go_simp;with_reducible rfl) (by simp only [Act.put,lA,lZ,lS,iw,jw];rfl) ?_
    refine pS 5 22 z18q6 HT_ rfl rfl (by kernel_rfl) (by rfl) (by intro w';go_simp;with_reducible rfl) (by simp only [Act.put,lA,lZ,lS,iw,jw];rfl) ?_
    refine tS 6 23 z18q7 HT_ hHeld rfl rfl (by kernel_rfl) (by rfl) (by rintro w' ⟨s0,s1,s2,s3⟩;go_simp;with_reducible rfl) (by simp only [Act.put,lA,lZ,lS,iw,jw];rfl) ?_
    refine oS 7 24 z18q8 HT_ rfl rfl (by kernel_rfl) (by decide) (fun K hK=>?_)
    refine goes_ Try.func42 (by kernel_rfl) rfl #[.int .i64 ((rd_T40 l0_0 x3_1).f1),.int .i64 1,.int .i64 6] (by rfl) rfl rfl (by (try simp only [lM,lC,lN]);first|done|rfl|(simp only [lD,lT];rfl)) ?_
    with_reducible refine (spec_l6In.calls ((rd_T40 l0_0 x3_1).f1) 1 6 true _ A7.out).mono ?_
    rintro e w' ⟨rfl,⟨nd,rfl⟩⟩
    refine ⟨_,rfl,?_⟩
    refine hK.out _ _ ⟨(bC Ba.out 0).trans rfl,(bC Ba.out 1).trans rfl,(bC Ba.out 2).trans rfl,(bC Ba.out 3).trans rfl⟩ (fun hHeld=>?_)
    clear hK K
    refine norm_ (by show Act.put _ (some 24) _=_;simp only [Act.put,lA,lZ,lS,iw,jw];rfl) ?_
    refine pS 8 25 z18q9 HT_ rfl rfl (by kernel_rfl) (by rfl) (by intro w';go_simp;with_reducible rfl) (by simp only [Act.put,lA,lZ,lS,iw,jw];rfl) ?_
    refine pS 9 26 z18q10 HT_ rfl rfl (by kernel_rfl) (by rfl) (by intro w';go_simp;with_reducible rfl) (by simp only [Act.put,lA,lZ,lS,iw,jw];rfl) ?_
    refine pS 10 27 z18q11 HT_ rfl rfl (by kernel_rfl) (by rfl) (by intro w';go_simp;with_reducible rfl) (by simp only [Act.put,lA,lZ,lS,iw,jw];rfl) ?_
    refine pS 11 28 z18q12 HT_ rfl rfl (by kernel_rfl) (by rfl) (by intro w';go_simp;with_reducible rfl) (by simp only [Act.put,lA,lZ,lS,iw,jw];rfl) ?_
    refine tS 12 29 z18q13 HT_ hHeld rfl rfl (by kernel_rfl) (by rfl) (by rintro w' ⟨s0,s1,s2,s3⟩;go_simp;with_reducible rfl) (by simp only [Act.put,lA,lZ,lS,iw,jw];rfl) ?_
    refine oS 13 30 z18q14 HT_ rfl rfl (by kernel_rfl) (by decide) (fun K hK=>?_)
    refine goes_ Try.func42 (by kernel_rfl) rfl #[.int .i64 ((rd_T40 l0_0 x3_1).f2),.int .i64 0,.int .i64 1000000] (by rfl) rfl rfl (by (try simp only [lM,lC,lN]);first|done|rfl|(simp only [lD,lT];rfl)) ?_
    with_reducible refine (spec_l6In.calls ((rd_T40 l0_0 x3_1).f2) 0 1000000 false _ A9.out).mono ?_
    rintro e w' ⟨rfl,⟨nd,rfl⟩⟩
    refine ⟨_,rfl,?_⟩
    refine hK.out _ _ ⟨(bC Ba.out 0).trans rfl,(bC Ba.out 1).trans rfl,(bC Ba.out 2).trans rfl,(bC Ba.out 3).trans rfl⟩ (fun hHeld=>?_)
    clear hK K
    refine norm_ (by show Act.put _ (some 30) _=_;simp only [Act.put,lA,lZ,lS,iw,jw];rfl) ?_
    refine pS 14 31 z18q15 HT_ rfl rfl (by kernel_rfl) (by rfl) (by intro w';go_simp;with_reducible rfl) (by simp only [Act.put,lA,lZ,lS,iw,jw];rfl) ?_
    refine pS 15 32 z18q16 HT_ rfl rfl (by kernel_rfl) (by rfl) (by intro w';go_simp;with_reducible rfl) (by simp only [Act.put,lA,lZ,lS,iw,jw];rfl) ?_
    refine pS 16 33 z18q17 HT_ rfl rfl (by kernel_rfl) (by rfl) (by intro w';go_simp;with_reducible rfl) (by simp only [Act.put,lA,lZ,lS,iw,jw];rfl) ?_
    refine vS 17 34 z18q18 HT_ rfl rfl (by kernel_rfl) (by rfl) (by simp only [Act.put,lA,lZ,lS,iw,jw];rfl) ?_
    refine vS 18 35 z18q19 HT_ rfl rfl (by kernel_rfl) (by rfl) (by simp only [Act.put,lA,lZ,lS,iw,jw];rfl) ?_
    refine vS 19 36 z18q20 HT_ rfl rfl (by kernel_rfl) (by rfl) (by simp only [Act.put,lA,lZ,lS,iw,jw];rfl) ?_
    refine vS 20 37 z18q21 HT_ rfl rfl (by kernel_rfl) (by rfl) (by simp only [Act.put,lA,lZ,lS,iw,jw];rfl) ?_
    refine vS 21 38 z18q45 HT_ rfl rfl (by kernel_rfl) (by rfl) (by simp only [Act.put,lA,lZ,lS,iw,jw];rfl) ?_
    refine vS 22 39 z18q46 HT_ rfl rfl (by kernel_rfl) (by rfl) (by simp only [Act.put,lA,lZ,lS,iw,jw];rfl) ?_
    refine vS 23 40 z18q47 HT_ rfl rfl (by kernel_rfl) (by rfl) (by simp only [Act.put,lA,lZ,lS,iw,jw];rfl) ?_
    refine vS 24 41 z18q48 HT_ rfl rfl (by kernel_rfl) (by rfl) (by simp only [Act.put,lA,lZ,lS,iw,jw];rfl) ?_
    refine vS 25 42 z18q49 HT_ rfl rfl (by kernel_rfl) (by rfl) (by simp only [Act.put,lA,lZ,lS,iw,jw];rfl) ?_
    refine vS 26 43 z18q50 HT_ rfl rfl (by kernel_rfl) (by rfl) (by simp only [Act.put,lA,lZ,lS,iw,jw];rfl) ?_
    refine vS 27 44 z18q28 HT_ rfl rfl (by kernel_rfl) (by rfl) (by simp only [Act.put,lA,lZ,lS,iw,jw];rfl) ?_
    refine vS 28 45 z18q29 HT_ rfl rfl (by kernel_rfl) (by rfl) (by simp only [Act.put,lA,lZ,lS,iw,jw];rfl) ?_
    refine vS 29 46 z18q30 HT_ rfl rfl (by kernel_rfl) (by rfl) (by simp only [Act.put,lA,lZ,lS,iw,jw];rfl) ?_
    refine vS 30 47 z18q31 HT_ rfl rfl (by kernel_rfl) (by rfl) (by simp only [Act.put,lA,lZ,lS,iw,jw];rfl) ?_
    refine pS 31 48 z18q32 HT_ rfl rfl (by kernel_rfl) (by rfl) (by intro w';go_simp;with_reducible rfl) (by simp only [Act.put,lA,lZ,lS,iw,jw];rfl) ?_
    refine pS 32 49 z18q33 HT_ rfl rfl (by kernel_rfl) (by rfl) (by intro w';go_simp;with_reducible rfl) (by simp only [Act.put,lA,lZ,lS,iw,jw];rfl) ?_
    refine vS 33 50 z18q34 HT_ rfl rfl (by kernel_rfl) (by rfl) (by simp only [Act.put,lA,lZ,lS,iw,jw];rfl) ?_
    refine vS 34 51 z18q35 HT_ rfl rfl (by kernel_rfl) (by rfl) (by simp only [Act.put,lA,lZ,lS,iw,jw];rfl) ?_
    refine vS 35 52 z18q36 HT_ rfl rfl (by kernel_rfl) (by rfl) (by simp only [Act.put,lA,lZ,lS,iw,jw];rfl) ?_
    refine vS 36 53 z18q37 HT_ rfl rfl (by kernel_rfl) (by rfl) (by simp only [Act.put,lA,lZ,lS,iw,jw];rfl) ?_
    refine vS 37 54 z18q38 HT_ rfl rfl (by kernel_rfl) (by rfl) (by simp only [Act.put,lA,lZ,lS,iw,jw];rfl) ?_
    refine vS 38 55 z18q39 HT_ rfl rfl (by kernel_rfl) (by rfl) (by simp only [Act.put,lA,lZ,lS,iw,jw];rfl) ?_
    refine vS 39 56 z18q40 HT_ rfl rfl (by kernel_rfl) (by rfl) (by simp only [Act.put,lA,lZ,lS,iw,jw];rfl) ?_
    refine vS 40 57 z18q41 HT_ rfl rfl (by kernel_rfl) (by rfl) (by simp only [Act.put,lA,lZ,lS,iw,jw];rfl) ?_
    refine vS 41 58 z18q42 HT_ rfl rfl (by kernel_rfl) (by rfl) (by simp only [Act.put,lA,lZ,lS,iw,jw];rfl) ?_
    refine pS 42 59 z18q43 HT_ rfl rfl (by kernel_rfl) (by rfl) (by intro w';go_simp;with_reducible rfl) (by simp only [Act.put,lA,lZ,lS,iw,jw];rfl) ?_
    refine done_ (done_of HT_.out (by kernel_rfl)) ?_
    try go_wp2
    go_ret
    exact ⟨by first|rfl|(simp [errW_none,errW_some] <;> rfl)|(simp [*,errW_none,errW_some] <;> rfl),by repeat (first|(with_reducible first|exact HB.out|apply oA|apply pN|apply o1|refine bS ?_ Be.out|refine bS ?_ Bh.out)|exact HB.out)⟩
   subst c10
   have H1:(if x3_1 > 0 then (if 0≤(wrap64 (x3_1 - 1)) then (if (wrap64 (x3_1 - 1))<(l0_0.length:Int) then (if ((rd_T40 l0_0 (wrap64 (x3_1 - 1))).f0) ≥ ((rd_T40 l0_0 x3_1).f0) then (some false) else (if (rd_T40 l0_0 x3_1).f3=true then (if ((rd_T40 l0_0 x3_1).f2)<a0_1 then (some false) else (spec_QueueOk.l0 k1 (wrap64 (x3_1 + 1)) l0_0 a0_1)) else (spec_QueueOk.l0 k1 (wrap64 (x3_1 + 1)) l0_0 a0_1))) else (none)) else (none)) else (if (rd_T40 l0_0 x3_1).f3=true then (if ((rd_T40 l0_0 x3_1).f2)<a0_1 then (some false) else (spec_QueueOk.l0 k1 (wrap64 (x3_1 + 1)) l0_0 a0_1)) else (spec_QueueOk.l0 k1 (wrap64 (x3_1 + 1)) l0_0 a0_1)))=some r:=by rw [if_pos rfl] at H;exact H
   clear H
   have H:=H1
   clear H1
   by_cases c11:x3_1 > 0
   rotate_left
   ·rw [if_neg c11] at H
    have c11b0:decide (0<x3_1)=false:=decide_eq_false c11
    clear c11
    obtain ⟨bq43,hbq43⟩:∃ b_:Bool,b_=((rd_T40 l0_0 x3_1).f3):=⟨_,rfl⟩
    replace H:(if bq43=true then (if ((rd_T40 l0_0 x3_1).f2)<a0_1 then (some false) else (spec_QueueOk.l0 k1 (wrap64 (x3_1 + 1)) l0_0 a0_1)) else (spec_QueueOk.l0 k1 (wrap64 (x3_1 + 1)) l0_0 a0_1))=some r:=by rw [← hbq43] at H;exact H
    have Nbq43:=Am hbq43
    clear hbq43
    by_cases c44:bq43=true
    rotate_left
    ·replace c44:=Bool.eq_false_iff.mpr c44
     subst c44
     have H1:(spec_QueueOk.l0 k1 (wrap64 (x3_1 + 1)) l0_0 a0_1)=some r:=by rw [if_neg (show ¬ (false=true) by decide)] at H;exact H
     clear H
     have H:=H1
     clear H1
     have H':=Am H
     clear H
     have Du:=cz0 Bc.out
     have Dv:=cz1 Bc.out
     have Dw:=bF Bc.out 0
     have Dx:=bF Bc.out 1
     have p273:0≤(x3_1:Int):=of_decide_eq_true (by first|(with_reducible assumption)|assumption)
     have q273:x3_1<(l0_0.length:Int):=of_decide_eq_true (by first|(with_reducible assumption)|assumption)
     obtain ⟨ad273,e273,hx273_0,hx273_1,hx273_2,hx273_3⟩:=at_T40 HR0_0.out x3_1 p273 q273
     (try rw [← Nbq43.out] at hx273_3)
     cases e273
     replace hx273_0:=(bW HB hx273_0:)
     replace hx273_1:=(bW HB hx273_1:)
     replace hx273_2:=(bW HB hx273_2:)
     replace hx273_3:=(bW HB hx273_3:)
     replace p273:=eq_true p273
     replace q273:=eq_true q273
     try go_wp2_with (first|((with_reducible refine gate_dst (N:=4) rfl ?_);refine box_event ?hg (N:=4) ?hd (cs:=#[.int .i64 0,.int .i64 0,.int .i64 0,.bool false]) (t:=40) ?hr ?_;(case hd=>rfl);(case hg=>rfl);(case hr=>first|(go_simp;done)|(go_simp;rfl));intro Bb hg w59 hbox hb;have n0_:=Am (bX Bc.out hb);have n1_:=Am (bP (by repeat (first|(with_reducible first|exact HB.out|apply oA|apply pN|apply o1|refine bS ?_ Be.out)|exact HB.out)) hb);have n2_:=Am (hbox);have n3_:=Am ((by rw [hg];exact (bZ (by repeat (first|(with_reducible first|exact HB.out|apply oA|apply pN|apply o1|refine bS ?_ Be.out)|exact HB.out))):w.heap.size≤Bb));have n4_:=Am ((by rw [hg];exact (bZ (by repeat (first|(with_reducible first|exact HB.out|apply oA|apply pN|apply o1|refine bS ?_ Be.out)|exact HB.out))):w.heap.size≤Bb));have n5_:=Am ((nL Bc.out hg));have n6_:=Am ((nG Bc.out hg));clear Bc HB;revert n0_ n1_ n2_ n3_ n4_ n5_ n6_;intro Bc HB Ba Bi Bh Bf Bg;clear hb hbox hg;have FB:=Bg.out;have FC:=Bf.out;have Dy:=cz0 Ba.out;have Dz:=cz1 Ba.out;have DA:=cz2 Ba.out;have DB:=cz3 Ba.out;have DC:=bF Ba.out 0;have DD:=bF Ba.out 1;have DE:=bF Ba.out 2;have DF:=bF Ba.out 3))
     have n0_:Aside0 (((((w59.setCell ⟨Bb,0,none⟩ (.int .i64 ((rd_T40 l0_0 x3_1).f0))).setCell ⟨Bb,1,none⟩ (.int .i64 ((rd_T40 l0_0 x3_1).f1))).setCell ⟨Bb,2,none⟩ (.int .i64 ((rd_T40 l0_0 x3_1).f2))).setCell ⟨Bb,3,none⟩ (.bool false)).heap[Bd]?=some (.cells #[.slice (some ad273) l0_0.length c0_0,.int .i64 a0_1] 25 (0,0))):=⟨by (with_reducible repeat (first|refine bN ?_ _|refine bD ?_|refine bA ?_ _|refine blk_far ?_ Bf.out _));exact Bc.out⟩
     have n1_:Aside0 (((((w59.setCell ⟨Bb,0,none⟩ (.int .i64 ((rd_T40 l0_0 x3_1).f0))).setCell ⟨Bb,1,none⟩ (.int .i64 ((rd_T40 l0_0 x3_1).f1))).setCell ⟨Bb,2,none⟩ (.int .i64 ((rd_T40 l0_0 x3_1).f2))).setCell ⟨Bb,3,none⟩ (.bool false)).heap[Bb]?=some (.cells #[.int .i64 ((rd_T40 l0_0 x3_1).f0),.int .i64 ((rd_T40 l0_0 x3_1).f1),.int .i64 ((rd_T40 l0_0 x3_1).f2),.bool false] 40 (0,0))):=⟨by (with_reducible repeat (first|refine bN ?_ _|refine bD ?_|refine bA ?_ _));refine blk_put (cs:=#[.int .i64 ((rd_T40 l0_0 x3_1).f0),.int .i64 ((rd_T40 l0_0 x3_1).f1),.int .i64 ((rd_T40 l0_0 x3_1).f2),.bool false]) ?_ 3 _ rfl;(with_reducible repeat (first|refine bN ?_ _|refine bD ?_|refine bA ?_ _));refine blk_put (cs:=#[.int .i64 ((rd_T40 l0_0 x3_1).f0),.int .i64 ((rd_T40 l0_0 x3_1).f1),.int .i64 0,.bool false]) ?_ 2 _ rfl;(with_reducible repeat (first|refine bN ?_ _|refine bD ?_|refine bA ?_ _));refine blk_put (cs:=#[.int .i64 ((rd_T40 l0_0 x3_1).f0),.int .i64 0,.int .i64 0,.bool false]) ?_ 1 _ rfl;(with_reducible repeat (first|refine bN ?_ _|refine bD ?_|refine bA ?_ _));refine blk_put (cs:=#[.int .i64 0,.int .i64 0,.int .i64 0,.bool false]) ?_ 0 _ rfl;(with_reducible repeat (first|refine bN ?_ _|refine bD ?_|refine bA ?_ _));exact Ba.out⟩
     have n2_:Aside0 (Below w.heap.size w ((((w59.setCell ⟨Bb,0,none⟩ (.int .i64 ((rd_T40 l0_0 x3_1).f0))).setCell ⟨Bb,1,none⟩ (.int .i64 ((rd_T40 l0_0 x3_1).f1))).setCell ⟨Bb,2,none⟩ (.int .i64 ((rd_T40 l0_0 x3_1).f2))).setCell ⟨Bb,3,none⟩ (.bool false))):=⟨by repeat (first|(with_reducible first|exact HB.out|apply oA|apply pN|apply o1|refine bS ?_ Be.out|refine bS ?_ Bh.out)|exact HB.out)⟩
     (try clear Bc)
     (try clear Ba)
     (try clear HB)
     generalize ((((w59.setCell ⟨Bb,0,none⟩ (.int .i64 ((rd_T40 l0_0 x3_1).f0))).setCell ⟨Bb,1,none⟩ (.int .i64 ((rd_T40 l0_0 x3_1).f1))).setCell ⟨Bb,2,none⟩ (.int .i64 ((rd_T40 l0_0 x3_1).f2))).setCell ⟨Bb,3,none⟩ (.bool false))=w62 at n0_ n1_ n2_ ⊢
     have Bc:=n0_
     have Ba:=n1_
     have HB:=n2_
     clear n0_ n1_ n2_
     have n0_:=Am (bD Bc.out)
     have n1_:=Am (bD Ba.out)
     have n2_:=Am (o1 HB.out)
     clear Bc
     clear Ba
     clear HB
     have Bc:=n0_
     have Ba:=n1_
     have HB:=n2_
     clear n0_ n1_ n2_
     refine start_ (n:=43) (S:=fun w'=>w'.cell? ⟨Bb,0,none⟩=some (.int .i64 ((rd_T40 l0_0 x3_1).f0))∧w'.cell? ⟨Bb,1,none⟩=some (.int .i64 ((rd_T40 l0_0 x3_1).f1))∧w'.cell? ⟨Bb,2,none⟩=some (.int .i64 ((rd_T40 l0_0 x3_1).f2))∧w'.cell? ⟨Bb,3,none⟩=some (.bool false)) (ds:=[]) z18q0 (by kernel_rfl) rfl rfl ⟨(bC Ba.out 0).trans rfl,(bC Ba.out 1).trans rfl,(bC Ba.out 2).trans rfl,(bC Ba.out 3).trans rfl⟩ (fun hHeld=>?_);refine with_st spec_QueueOk.tab5 spec_QueueOk.bits5 (fun _ _ _ _ _ h=>h) (fun HT_=>?_)
     generalize w62.drew=w63 at Bc Ba HB hHeld ⊢
     refine pS 0 17 z18q1 HT_ rfl rfl (by kernel_rfl) (by rfl) (by intro w';go_simp;with_reducible rfl) (by simp only [Act.put,lA,lZ,lS,iw,jw];rfl) ?_
     refine tS 1 18 z18q2 HT_ hHeld rfl rfl (by kernel_rfl) (by rfl) (by rintro w' ⟨s0,s1,s2,s3⟩;go_simp;with_reducible rfl) (by simp only [Act.put,lA,lZ,lS,iw,jw];rfl) ?_
     refine oS 2 19 z18q3 HT_ rfl rfl (by kernel_rfl) (by decide) (fun K hK=>?_)
     refine goes_ Try.func42 (by kernel_rfl) rfl #[.int .i64 ((rd_T40 l0_0 x3_1).f0),.int .i64 0,.int .i64 99] (by rfl) rfl rfl (by (try simp only [lM,lC,lN]);first|done|rfl|(simp only [lD,lT];rfl)) ?_
     with_reducible refine (spec_l6In.calls ((rd_T40 l0_0 x3_1).f0) 0 99 true _ A5.out).mono ?_
     rintro e w' ⟨rfl,⟨nd,rfl⟩⟩
     refine ⟨_,rfl,?_⟩
     refine hK.out _ _ ⟨(bC Ba.out 0).trans rfl,(bC Ba.out 1).trans rfl,(bC Ba.out 2).trans rfl,(bC Ba.out 3).trans rfl⟩ (fun hHeld=>?_)
     clear hK K
     refine norm_ (by show Act.put _ (some 19) _=_;simp only [Act.put,lA,lZ,lS,iw,jw];rfl) ?_
     refine pS 3 20 z18q4 HT_ rfl rfl (by kernel_rfl) (by rfl) (by intro w';go_simp;with_reducible rfl) (by simp only [Act.put,lA,lZ,lS,iw,jw];rfl) ?_
     refine pS 4 21 z18q5 HT_ rfl rfl (by kernel_rfl) (by rfl) (by intro w';go_simp;with_reducible rfl) (by simp only [Act.put,lA,lZ,lS,iw,jw];rfl) ?_
     refine pS 5 22 z18q6 HT_ rfl rfl (by kernel_rfl) (by rfl) (by intro w';go_simp;with_reducible rfl) (by simp only [Act.put,lA,lZ,lS,iw,jw];rfl) ?_
     refine tS 6 23 z18q7 HT_ hHeld rfl rfl (by kernel_rfl) (by rfl) (by rintro w' ⟨s0,s1,s2,s3⟩;go_simp;with_reducible rfl) (by simp only [Act.put,lA,lZ,lS,iw,jw];rfl) ?_
     refine oS 7 24 z18q8 HT_ rfl rfl (by kernel_rfl) (by decide) (fun K hK=>?_)
     refine goes_ Try.func42 (by kernel_rfl) rfl #[.int .i64 ((rd_T40 l0_0 x3_1).f1),.int .i64 1,.int .i64 6] (by rfl) rfl rfl (by (try simp only [lM,lC,lN]);first|done|rfl|(simp only [lD,lT];rfl)) ?_
     with_reducible refine (spec_l6In.calls ((rd_T40 l0_0 x3_1).f1) 1 6 true _ A7.out).mono ?_
     rintro e w' ⟨rfl,⟨nd,rfl⟩⟩
     refine ⟨_,rfl,?_⟩
     refine hK.out _ _ ⟨(bC Ba.out 0).trans rfl,(bC Ba.out 1).trans rfl,(bC Ba.out 2).trans rfl,(bC Ba.out 3).trans rfl⟩ (fun hHeld=>?_)
     clear hK K
     refine norm_ (by show Act.put _ (some 24) _=_;simp only [Act.put,lA,lZ,lS,iw,jw];rfl) ?_
     refine pS 8 25 z18q9 HT_ rfl rfl (by kernel_rfl) (by rfl) (by intro w';go_simp;with_reducible rfl) (by simp only [Act.put,lA,lZ,lS,iw,jw];rfl) ?_
     refine pS 9 26 z18q10 HT_ rfl rfl (by kernel_rfl) (by rfl) (by intro w';go_simp;with_reducible rfl) (by simp only [Act.put,lA,lZ,lS,iw,jw];rfl) ?_
     refine pS 10 27 z18q11 HT_ rfl rfl (by kernel_rfl) (by rfl) (by intro w';go_simp;with_reducible rfl) (by simp only [Act.put,lA,lZ,lS,iw,jw];rfl) ?_
     refine pS 11 28 z18q12 HT_ rfl rfl (by kernel_rfl) (by rfl) (by intro w';go_simp;with_reducible rfl) (by simp only [Act.put,lA,lZ,lS,iw,jw];rfl) ?_
     refine tS 12 29 z18q13 HT_ hHeld rfl rfl (by kernel_rfl) (by rfl) (by rintro w' ⟨s0,s1,s2,s3⟩;go_simp;with_reducible rfl) (by simp only [Act.put,lA,lZ,lS,iw,jw];rfl) ?_
     refine oS 13 30 z18q14 HT_ rfl rfl (by kernel_rfl) (by decide) (fun K hK=>?_)
     refine goes_ Try.func42 (by kernel_rfl) rfl #[.int .i64 ((rd_T40 l0_0 x3_1).f2),.int .i64 0,.int .i64 1000000] (by rfl) rfl rfl (by (try simp only [lM,lC,lN]);first|done|rfl|(simp only [lD,lT];rfl)) ?_
     with_reducible refine (spec_l6In.calls ((rd_T40 l0_0 x3_1).f2) 0 1000000 true _ A9.out).mono ?_
     rintro e w' ⟨rfl,⟨nd,rfl⟩⟩
     refine ⟨_,rfl,?_⟩
     refine hK.out _ _ ⟨(bC Ba.out 0).trans rfl,(bC Ba.out 1).trans rfl,(bC Ba.out 2).trans rfl,(bC Ba.out 3).trans rfl⟩ (fun hHeld=>?_)
     clear hK K
     refine norm_ (by show Act.put _ (some 30) _=_;simp only [Act.put,lA,lZ,lS,iw,jw];rfl) ?_
     refine pS 14 31 z18q15 HT_ rfl rfl (by kernel_rfl) (by rfl) (by intro w';go_simp;with_reducible rfl) (by simp only [Act.put,lA,lZ,lS,iw,jw];rfl) ?_
     refine pS 15 32 z18q16 HT_ rfl rfl (by kernel_rfl) (by rfl) (by intro w';go_simp;with_reducible rfl) (by simp only [Act.put,lA,lZ,lS,iw,jw];rfl) ?_
     refine pS 16 33 z18q17 HT_ rfl rfl (by kernel_rfl) (by rfl) (by intro w';go_simp;with_reducible rfl) (by simp only [Act.put,lA,lZ,lS,iw,jw];rfl) ?_
     refine pS 17 34 z18q18 HT_ rfl rfl (by kernel_rfl) (by rfl) (by intro w';go_simp;with_reducible rfl) (by simp only [Act.put,lA,lZ,lS,iw,jw];rfl) ?_
     refine pS 18 35 z18q19 HT_ rfl rfl (by kernel_rfl) (by rfl) (by intro w';go_simp;with_reducible rfl) (by simp only [Act.put,lA,lZ,lS,iw,jw];rfl) ?_
     refine pS 19 36 z18q20 HT_ rfl rfl (by kernel_rfl) (by rfl) (by intro w';go_simp;with_reducible rfl) (by simp only [Act.put,lA,lZ,lS,iw,jw];rfl) ?_
     refine vS 20 37 z18q21 HT_ rfl rfl (by kernel_rfl) (by rfl) (by simp only [Act.put,lA,lZ,lS,iw,jw];rfl) ?_
     refine vS 21 38 z18q45 HT_ rfl rfl (by kernel_rfl) (by rfl) (by simp only [Act.put,lA,lZ,lS,iw,jw];rfl) ?_
     refine vS 22 39 z18q46 HT_ rfl rfl (by kernel_rfl) (by rfl) (by simp only [Act.put,lA,lZ,lS,iw,jw];rfl) ?_
     refine vS 23 40 z18q47 HT_ rfl rfl (by kernel_rfl) (by rfl) (by simp only [Act.put,lA,lZ,lS,iw,jw];rfl) ?_
     refine vS 24 41 z18q48 HT_ rfl rfl (by kernel_rfl) (by rfl) (by simp only [Act.put,lA,lZ,lS,iw,jw];rfl) ?_
     refine vS 25 42 z18q49 HT_ rfl rfl (by kernel_rfl) (by rfl) (by simp only [Act.put,lA,lZ,lS,iw,jw];rfl) ?_
     refine vS 26 43 z18q50 HT_ rfl rfl (by kernel_rfl) (by rfl) (by simp only [Act.put,lA,lZ,lS,iw,jw];rfl) ?_
     refine vS 27 44 z18q28 HT_ rfl rfl (by kernel_rfl) (by rfl) (by simp only [Act.put,lA,lZ,lS,iw,jw];rfl) ?_
     refine vS 28 45 z18q29 HT_ rfl rfl (by kernel_rfl) (by rfl) (by simp only [Act.put,lA,lZ,lS,iw,jw];rfl) ?_
     refine vS 29 46 z18q30 HT_ rfl rfl (by kernel_rfl) (by rfl) (by simp only [Act.put,lA,lZ,lS,iw,jw];rfl) ?_
     refine pS 30 47 z18q31 HT_ rfl rfl (by kernel_rfl) (by rfl) (by intro w';go_simp;with_reducible rfl) (by simp only [Act.put,lA,lZ,lS,iw,jw];rfl) ?_
     refine pS 31 48 z18q32 HT_ rfl rfl (by kernel_rfl) (by rfl) (by intro w';go_simp;with_reducible rfl) (by simp only [Act.put,lA,lZ,lS,iw,jw];rfl) ?_
     refine pS 32 49 z18q33 HT_ rfl rfl (by kernel_rfl) (by rfl) (by intro w';go_simp;with_reducible rfl) (by simp only [Act.put,lA,lZ,lS,iw,jw];rfl) ?_
     refine pS 33 50 z18q34 HT_ rfl rfl (by kernel_rfl) (by rfl) (by intro w';go_simp;with_reducible rfl) (by simp only [Act.put,lA,lZ,lS,iw,jw];rfl) ?_
     refine tS 34 51 z18q35 HT_ hHeld rfl rfl (by kernel_rfl) (by rfl) (by rintro w' ⟨s0,s1,s2,s3⟩;go_simp;with_reducible rfl) (by simp only [Act.put,lA,lZ,lS,iw,jw];rfl) ?_
     refine pS 35 52 z18q36 HT_ rfl rfl (by kernel_rfl) (by rfl) (by intro w';go_simp;with_reducible rfl) (by simp only [Act.put,lA,lZ,lS,iw,jw];rfl) ?_
     refine vS 36 53 z18q37 HT_ rfl rfl (by kernel_rfl) (by rfl) (by simp only [Act.put,lA,lZ,lS,iw,jw];rfl) ?_
     refine vS 37 54 z18q38 HT_ rfl rfl (by kernel_rfl) (by rfl) (by simp only [Act.put,lA,lZ,lS,iw,jw];rfl) ?_
     refine vS 38 55 z18q39 HT_ rfl rfl (by kernel_rfl) (by rfl) (by simp only [Act.put,lA,lZ,lS,iw,jw];rfl) ?_
     refine vS 39 56 z18q40 HT_ rfl rfl (by kernel_rfl) (by rfl) (by simp only [Act.put,lA,lZ,lS,iw,jw];rfl) ?_
     refine vS 40 57 z18q41 HT_ rfl rfl (by kernel_rfl) (by rfl) (by simp only [Act.put,lA,lZ,lS,iw,jw];rfl) ?_
     refine pS 41 58 z18q42 HT_ rfl rfl (by kernel_rfl) (by rfl) (by intro w';go_simp;with_reducible rfl) (by simp only [Act.put,lA,lZ,lS,iw,jw];rfl) ?_
     refine pS 42 59 z18q43 HT_ rfl rfl (by kernel_rfl) (by rfl) (by intro w';go_simp;with_reducible rfl) (by simp only [Act.put,lA,lZ,lS,iw,jw];rfl) ?_
     refine done_ (done_of HT_.out (by kernel_rfl)) ?_
     try go_wp2
     go_roundg k1
     case measure=>have:=HK1.out;omega
     case rel=>exact ⟨(wrap64 (x3_1 + 1)),(by first|rfl|(simp;done)|(simp [*];done)),H',⟨by have:=HK1.out;omega⟩,⟨by (with_reducible repeat (first|refine bN ?_ _|refine bD ?_|refine bA ?_ _));exact Bc.out⟩,⟨by repeat (first|(with_reducible first|exact HB.out|apply oA|apply pN|apply o1|refine bS ?_ Be.out|refine bS ?_ Bh.out)|exact HB.out)⟩⟩
    subst c44
    have H1:(if ((rd_T40 l0_0 x3_1).f2)<a0_1 then (some false) else (spec_QueueOk.l0 k1 (wrap64 (x3_1 + 1)) l0_0 a0_1))=some r:=by rw [if_pos rfl] at H;exact H
    clear H
    have H:=H1
    clear H1
    by_cases c45:((rd_T40 l0_0 x3_1).f2)<a0_1
    ·rw [if_pos c45] at H
     have c45b0:decide (((rd_T40 l0_0 x3_1).f2)<a0_1)=true:=decide_eq_true c45
     clear c45
     obtain rfl:=Option.some.inj H
     have B6:=cz0 Bc.out
     have B7:=cz1 Bc.out
     have B8:=bF Bc.out 0
     have B9:=bF Bc.out 1
     have p273:0≤(x3_1:Int):=of_decide_eq_true (by first|(with_reducible assumption)|assumption)
     have q273:x3_1<(l0_0.length:Int):=of_decide_eq_true (by first|(with_reducible assumption)|assumption)
     obtain ⟨ad273,e273,hx273_0,hx273_1,hx273_2,hx273_3⟩:=at_T40 HR0_0.out x3_1 p273 q273
     (try rw [← Nbq43.out] at hx273_3)
     cases e273
     replace hx273_0:=(bW HB hx273_0:)
     replace hx273_1:=(bW HB hx273_1:)
     replace hx273_2:=(bW HB hx273_2:)
     replace hx273_3:=(bW HB hx273_3:)
     replace p273:=eq_true p273
     replace q273:=eq_true q273
     try go_wp2_with (first|((with_reducible refine gate_dst (N:=4) rfl ?_);refine box_event ?hg (N:=4) ?hd (cs:=#[.int .i64 0,.int .i64 0,.int .i64 0,.bool false]) (t:=40) ?hr ?_;(case hd=>rfl);(case hg=>rfl);(case hr=>first|(go_simp;done)|(go_simp;rfl));intro Bb hg w47 hbox hb;have n0_:=Am (bX Bc.out hb);have n1_:=Am (bP (by repeat (first|(with_reducible first|exact HB.out|apply oA|apply pN|apply o1|refine bS ?_ Be.out)|exact HB.out)) hb);have n2_:=Am (hbox);have n3_:=Am ((by rw [hg];exact (bZ (by repeat (first|(with_reducible first|exact HB.out|apply oA|apply pN|apply o1|refine bS ?_ Be.out)|exact HB.out))):w.heap.size≤Bb));have n4_:=Am ((by rw [hg];exact (bZ (by repeat (first|(with_reducible first|exact HB.out|apply oA|apply pN|apply o1|refine bS ?_ Be.out)|exact HB.out))):w.heap.size≤Bb));have n5_:=Am ((nL Bc.out hg));have n6_:=Am ((nG Bc.out hg));clear Bc HB;revert n0_ n1_ n2_ n3_ n4_ n5_ n6_;intro Bc HB Ba Bi Bh Bf Bg;clear hb hbox hg;have Fx:=Bg.out;have Fy:=Bf.out;have Da:=cz0 Ba.out;have Db:=cz1 Ba.out;have Dc:=cz2 Ba.out;have Dd:=cz3 Ba.out;have De:=bF Ba.out 0;have Df:=bF Ba.out 1;have Dg:=bF Ba.out 2;have Dh:=bF Ba.out 3))
     have n0_:Aside0 (((((w47.setCell ⟨Bb,0,none⟩ (.int .i64 ((rd_T40 l0_0 x3_1).f0))).setCell ⟨Bb,1,none⟩ (.int .i64 ((rd_T40 l0_0 x3_1).f1))).setCell ⟨Bb,2,none⟩ (.int .i64 ((rd_T40 l0_0 x3_1).f2))).setCell ⟨Bb,3,none⟩ (.bool true)).heap[Bd]?=some (.cells #[.slice (some ad273) l0_0.length c0_0,.int .i64 a0_1] 25 (0,0))):=⟨by (with_reducible repeat (first|refine bN ?_ _|refine bD ?_|refine bA ?_ _|refine blk_far ?_ Bf.out _));exact Bc.out⟩
     have n1_:Aside0 (((((w47.setCell ⟨Bb,0,none⟩ (.int .i64 ((rd_T40 l0_0 x3_1).f0))).setCell ⟨Bb,1,none⟩ (.int .i64 ((rd_T40 l0_0 x3_1).f1))).setCell ⟨Bb,2,none⟩ (.int .i64 ((rd_T40 l0_0 x3_1).f2))).setCell ⟨Bb,3,none⟩ (.bool true)).heap[Bb]?=some (.cells #[.int .i64 ((rd_T40 l0_0 x3_1).f0),.int .i64 ((rd_T40 l0_0 x3_1).f1),.int .i64 ((rd_T40 l0_0 x3_1).f2),.bool true] 40 (0,0))):=⟨by (with_reducible repeat (first|refine bN ?_ _|refine bD ?_|refine bA ?_ _));refine blk_put (cs:=#[.int .i64 ((rd_T40 l0_0 x3_1).f0),.int .i64 ((rd_T40 l0_0 x3_1).f1),.int .i64 ((rd_T40 l0_0 x3_1).f2),.bool false]) ?_ 3 _ rfl;(with_reducible repeat (first|refine bN ?_ _|refine bD ?_|refine bA ?_ _));refine blk_put (cs:=#[.int .i64 ((rd_T40 l0_0 x3_1).f0),.int .i64 ((rd_T40 l0_0 x3_1).f1),.int .i64 0,.bool false]) ?_ 2 _ rfl;(with_reducible repeat (first|refine bN ?_ _|refine bD ?_|refine bA ?_ _));refine blk_put (cs:=#[.int .i64 ((rd_T40 l0_0 x3_1).f0),.int .i64 0,.int .i64 0,.bool false]) ?_ 1 _ rfl;(with_reducible repeat (first|refine bN ?_ _|refine bD ?_|refine bA ?_ _));refine blk_put (cs:=#[.int .i64 0,.int .i64 0,.int .i64 0,.bool false]) ?_ 0 _ rfl;(with_reducible repeat (first|refine bN ?_ _|refine bD ?_|refine bA ?_ _));exact Ba.out⟩
     have n2_:Aside0 (Below w.heap.size w ((((w47.setCell ⟨Bb,0,none⟩ (.int .i64 ((rd_T40 l0_0 x3_1).f0))).setCell ⟨Bb,1,none⟩ (.int .i64 ((rd_T40 l0_0 x3_1).f1))).setCell ⟨Bb,2,none⟩ (.int .i64 ((rd_T40 l0_0 x3_1).f2))).setCell ⟨Bb,3,none⟩ (.bool true))):=⟨by repeat (first|(with_reducible first|exact HB.out|apply oA|apply pN|apply o1|refine bS ?_ Be.out|refine bS ?_ Bh.out)|exact HB.out)⟩
     (try clear Bc)
     (try clear Ba)
     (try clear HB)
     generalize ((((w47.setCell ⟨Bb,0,none⟩ (.int .i64 ((rd_T40 l0_0 x3_1).f0))).setCell ⟨Bb,1,none⟩ (.int .i64 ((rd_T40 l0_0 x3_1).f1))).setCell ⟨Bb,2,none⟩ (.int .i64 ((rd_T40 l0_0 x3_1).f2))).setCell ⟨Bb,3,none⟩ (.bool true))=w50 at n0_ n1_ n2_ ⊢
     have Bc:=n0_
     have Ba:=n1_
     have HB:=n2_
     clear n0_ n1_ n2_
     have n0_:=Am (bD Bc.out)
     have n1_:=Am (bD Ba.out)
     have n2_:=Am (o1 HB.out)
     clear Bc
     clear Ba
     clear HB
     have Bc:=n0_
     have Ba:=n1_
     have HB:=n2_
     clear n0_ n1_ n2_
     refine start_ (n:=43) (S:=fun w'=>w'.cell? ⟨Bb,0,none⟩=some (.int .i64 ((rd_T40 l0_0 x3_1).f0))∧w'.cell? ⟨Bb,1,none⟩=some (.int .i64 ((rd_T40 l0_0 x3_1).f1))∧w'.cell? ⟨Bb,2,none⟩=some (.int .i64 ((rd_T40 l0_0 x3_1).f2))∧w'.cell? ⟨Bb,3,none⟩=some (.bool true)∧w'.cell? ⟨Bd,0,none⟩=some (.slice (some ad273) l0_0.length c0_0)∧w'.cell? ⟨Bd,1,none⟩=some (.int .i64 a0_1)) (ds:=[]) z18q0 (by kernel_rfl) rfl rfl ⟨(bC Ba.out 0).trans rfl,(bC Ba.out 1).trans rfl,(bC Ba.out 2).trans rfl,(bC Ba.out 3).trans rfl,(bC Bc.out 0).trans rfl,(bC Bc.out 1).trans rfl⟩ (fun hHeld=>?_);refine with_st spec_QueueOk.tab5 spec_QueueOk.bits5 (fun _ _ _ _ _ h=>h) (fun HT_=>?_)
     generalize w50.drew=w51 at Bc Ba HB hHeld ⊢
     refine pS 0 17 z18q1 HT_ rfl rfl (by kernel_rfl) (by rfl) (by intro w';go_simp;with_reducible rfl) (by simp only [Act.put,lA,lZ,lS,iw,jw];rfl) ?_
     refine tS 1 18 z18q2 HT_ hHeld rfl rfl (by kernel_rfl) (by rfl) (by rintro w' ⟨s0,s1,s2,s3,s4,s5⟩;go_simp;with_reducible rfl) (by simp only [Act.put,lA,lZ,lS,iw,jw];rfl) ?_
     refine oS 2 19 z18q3 HT_ rfl rfl (by kernel_rfl) (by decide) (fun K hK=>?_)
     refine goes_ Try.func42 (by kernel_rfl) rfl #[.int .i64 ((rd_T40 l0_0 x3_1).f0),.int .i64 0,.int .i64 99] (by rfl) rfl rfl (by (try simp only [lM,lC,lN]);first|done|rfl|(simp only [lD,lT];rfl)) ?_
     with_reducible refine (spec_l6In.calls ((rd_T40 l0_0 x3_1).f0) 0 99 true _ A5.out).mono ?_
     rintro e w' ⟨rfl,⟨nd,rfl⟩⟩
     refine ⟨_,rfl,?_⟩
     refine hK.out _ _ ⟨(bC Ba.out 0).trans rfl,(bC Ba.out 1).trans rfl,(bC Ba.out 2).trans rfl,(bC Ba.out 3).trans rfl,(bC Bc.out 0).trans rfl,(bC Bc.out 1).trans rfl⟩ (fun hHeld=>?_)
     clear hK K
     refine norm_ (by show Act.put _ (some 19) _=_;simp only [Act.put,lA,lZ,lS,iw,jw];rfl) ?_
     refine pS 3 20 z18q4 HT_ rfl rfl (by kernel_rfl) (by rfl) (by intro w';go_simp;with_reducible rfl) (by simp only [Act.put,lA,lZ,lS,iw,jw];rfl) ?_
     refine pS 4 21 z18q5 HT_ rfl rfl (by kernel_rfl) (by rfl) (by intro w';go_simp;with_reducible rfl) (by simp only [Act.put,lA,lZ,lS,iw,jw];rfl) ?_
     refine pS 5 22 z18q6 HT_ rfl rfl (by kernel_rfl) (by rfl) (by intro w';go_simp;with_reducible rfl) (by simp only [Act.put,lA,lZ,lS,iw,jw];rfl) ?_
     refine tS 6 23 z18q7 HT_ hHeld rfl rfl (by kernel_rfl) (by rfl) (by rintro w' ⟨s0,s1,s2,s3,s4,s5⟩;go_simp;with_reducible rfl) (by simp only [Act.put,lA,lZ,lS,iw,jw];rfl) ?_
     refine oS 7 24 z18q8 HT_ rfl rfl (by kernel_rfl) (by decide) (fun K hK=>?_)
     refine goes_ Try.func42 (by kernel_rfl) rfl #[.int .i64 ((rd_T40 l0_0 x3_1).f1),.int .i64 1,.int .i64 6] (by rfl) rfl rfl (by (try simp only [lM,lC,lN]);first|done|rfl|(simp only [lD,lT];rfl)) ?_
     with_reducible refine (spec_l6In.calls ((rd_T40 l0_0 x3_1).f1) 1 6 true _ A7.out).mono ?_
     rintro e w' ⟨rfl,⟨nd,rfl⟩⟩
     refine ⟨_,rfl,?_⟩
     refine hK.out _ _ ⟨(bC Ba.out 0).trans rfl,(bC Ba.out 1).trans rfl,(bC Ba.out 2).trans rfl,(bC Ba.out 3).trans rfl,(bC Bc.out 0).trans rfl,(bC Bc.out 1).trans rfl⟩ (fun hHeld=>?_)
     clear hK K
     refine norm_ (by show Act.put _ (some 24) _=_;simp only [Act.put,lA,lZ,lS,iw,jw];rfl) ?_
     refine pS 8 25 z18q9 HT_ rfl rfl (by kernel_rfl) (by rfl) (by intro w';go_simp;with_reducible rfl) (by simp only [Act.put,lA,lZ,lS,iw,jw];rfl) ?_
     refine pS 9 26 z18q10 HT_ rfl rfl (by kernel_rfl) (by rfl) (by intro w';go_simp;with_reducible rfl) (by simp only [Act.put,lA,lZ,lS,iw,jw];rfl) ?_
     refine pS 10 27 z18q11 HT_ rfl rfl (by kernel_rfl) (by rfl) (by intro w';go_simp;with_reducible rfl) (by simp only [Act.put,lA,lZ,lS,iw,jw];rfl) ?_
     refine pS 11 28 z18q12 HT_ rfl rfl (by kernel_rfl) (by rfl) (by intro w';go_simp;with_reducible rfl) (by simp only [Act.put,lA,lZ,lS,iw,jw];rfl) ?_
     refine tS 12 29 z18q13 HT_ hHeld rfl rfl (by kernel_rfl) (by rfl) (by rintro w' ⟨s0,s1,s2,s3,s4,s5⟩;go_simp;with_reducible rfl) (by simp only [Act.put,lA,lZ,lS,iw,jw];rfl) ?_
     refine oS 13 30 z18q14 HT_ rfl rfl (by kernel_rfl) (by decide) (fun K hK=>?_)
     refine goes_ Try.func42 (by kernel_rfl) rfl #[.int .i64 ((rd_T40 l0_0 x3_1).f2),.int .i64 0,.int .i64 1000000] (by rfl) rfl rfl (by (try simp only [lM,lC,lN]);first|done|rfl|(simp only [lD,lT];rfl)) ?_
     with_reducible refine (spec_l6In.calls ((rd_T40 l0_0 x3_1).f2) 0 1000000 true _ A9.out).mono ?_
     rintro e w' ⟨rfl,⟨nd,rfl⟩⟩
     refine ⟨_,rfl,?_⟩
     refine hK.out _ _ ⟨(bC Ba.out 0).trans rfl,(bC Ba.out 1).trans rfl,(bC Ba.out 2).trans rfl,(bC Ba.out 3).trans rfl,(bC Bc.out 0).trans rfl,(bC Bc.out 1).trans rfl⟩ (fun hHeld=>?_)
     clear hK K
     refine norm_ (by show Act.put _ (some 30) _=_;simp only [Act.put,lA,lZ,lS,iw,jw];rfl) ?_
     refine pS 14 31 z18q15 HT_ rfl rfl (by kernel_rfl) (by rfl) (by intro w';go_simp;with_reducible rfl) (by simp only [Act.put,lA,lZ,lS,iw,jw];rfl) ?_
     refine pS 15 32 z18q16 HT_ rfl rfl (by kernel_rfl) (by rfl) (by intro w';go_simp;with_reducible rfl) (by simp only [Act.put,lA,lZ,lS,iw,jw];rfl) ?_
     refine pS 16 33 z18q17 HT_ rfl rfl (by kernel_rfl) (by rfl) (by intro w';go_simp;with_reducible rfl) (by simp only [Act.put,lA,lZ,lS,iw,jw];rfl) ?_
     refine pS 17 34 z18q18 HT_ rfl rfl (by kernel_rfl) (by rfl) (by intro w';go_simp;with_reducible rfl) (by simp only [Act.put,lA,lZ,lS,iw,jw];rfl) ?_
     refine pS 18 35 z18q19 HT_ rfl rfl (by kernel_rfl) (by rfl) (by intro w';go_simp;with_reducible rfl) (by simp only [Act.put,lA,lZ,lS,iw,jw];rfl) ?_
     refine pS 19 36 z18q20 HT_ rfl rfl (by kernel_rfl) (by rfl) (by intro w';go_simp;with_reducible rfl) (by simp only [Act.put,lA,lZ,lS,iw,jw];rfl) ?_
     refine vS 20 37 z18q21 HT_ rfl rfl (by kernel_rfl) (by rfl) (by simp only [Act.put,lA,lZ,lS,iw,jw];rfl) ?_
     refine vS 21 38 z18q45 HT_ rfl rfl (by kernel_rfl) (by rfl) (by simp only [Act.put,lA,lZ,lS,iw,jw];rfl) ?_
     refine vS 22 39 z18q46 HT_ rfl rfl (by kernel_rfl) (by rfl) (by simp only [Act.put,lA,lZ,lS,iw,jw];rfl) ?_
     refine vS 23 40 z18q47 HT_ rfl rfl (by kernel_rfl) (by rfl) (by simp only [Act.put,lA,lZ,lS,iw,jw];rfl) ?_
     refine vS 24 41 z18q48 HT_ rfl rfl (by kernel_rfl) (by rfl) (by simp only [Act.put,lA,lZ,lS,iw,jw];rfl) ?_
     refine vS 25 42 z18q49 HT_ rfl rfl (by kernel_rfl) (by rfl) (by simp only [Act.put,lA,lZ,lS,iw,jw];rfl) ?_
     refine vS 26 43 z18q50 HT_ rfl rfl (by kernel_rfl) (by rfl) (by simp only [Act.put,lA,lZ,lS,iw,jw];rfl) ?_
     refine vS 27 44 z18q28 HT_ rfl rfl (by kernel_rfl) (by rfl) (by simp only [Act.put,lA,lZ,lS,iw,jw];rfl) ?_
     refine vS 28 45 z18q29 HT_ rfl rfl (by kernel_rfl) (by rfl) (by simp only [Act.put,lA,lZ,lS,iw,jw];rfl) ?_
     refine vS 29 46 z18q30 HT_ rfl rfl (by kernel_rfl) (by rfl) (by simp only [Act.put,lA,lZ,lS,iw,jw];rfl) ?_
     refine pS 30 47 z18q31 HT_ rfl rfl (by kernel_rfl) (by rfl) (by intro w';go_simp;with_reducible rfl) (by simp only [Act.put,lA,lZ,lS,iw,jw];rfl) ?_
     refine pS 31 48 z18q32 HT_ rfl rfl (by kernel_rfl) (by rfl) (by intro w';go_simp;with_reducible rfl) (by simp only [Act.put,lA,lZ,lS,iw,jw];rfl) ?_
     refine pS 32 49 z18q33 HT_ rfl rfl (by kernel_rfl) (by rfl) (by intro w';go_simp;with_reducible rfl) (by simp only [Act.put,lA,lZ,lS,iw,jw];rfl) ?_
     refine pS 33 50 z18q34 HT_ rfl rfl (by kernel_rfl) (by rfl) (by intro w';go_simp;with_reducible rfl) (by simp only [Act.put,lA,lZ,lS,iw,jw];rfl) ?_
     refine tS 34 51 z18q35 HT_ hHeld rfl rfl (by kernel_rfl) (by rfl) (by rintro w' ⟨s0,s1,s2,s3,s4,s5⟩;go_simp;with_reducible rfl) (by simp only [Act.put,lA,lZ,lS,iw,jw];rfl) ?_
     refine pS 35 52 z18q36 HT_ rfl rfl (by kernel_rfl) (by rfl) (by intro w';go_simp;with_reducible rfl) (by simp only [Act.put,lA,lZ,lS,iw,jw];rfl) ?_
     refine pS 36 53 z18q37 HT_ rfl rfl (by kernel_rfl) (by rfl) (by intro w';go_simp;with_reducible rfl) (by simp only [Act.put,lA,lZ,lS,iw,jw];rfl) ?_
     refine pS 38 55 z18q44 HT_ rfl rfl (by kernel_rfl) (by rfl) (by intro w';go_simp;with_reducible rfl) (by simp only [Act.put,lA,lZ,lS,iw,jw];rfl) ?_
     refine tS 37 54 z18q39 HT_ hHeld rfl rfl (by kernel_rfl) (by rfl) (by rintro w' ⟨s0,s1,s2,s3,s4,s5⟩;go_simp;with_reducible rfl) (by simp only [Act.put,lA,lZ,lS,iw,jw];rfl) ?_
     refine tS 39 56 z18q40 HT_ hHeld rfl rfl (by kernel_rfl) (by rfl) (by rintro w' ⟨s0,s1,s2,s3,s4,s5⟩;go_simp;with_reducible rfl) (by simp only [Act.put,lA,lZ,lS,iw,jw];rfl) ?_
     refine pS 40 57 z18q41 HT_ rfl rfl (by kernel_rfl) (by rfl) (by intro w';go_simp;with_reducible rfl) (by simp only [Act.put,lA,lZ,lS,iw,jw];rfl) ?_
     refine pS 41 58 z18q42 HT_ rfl rfl (by kernel_rfl) (by rfl) (by intro w';go_simp;with_reducible rfl) (by simp only [Act.put,lA,lZ,lS,iw,jw];rfl) ?_
     refine pS 42 59 z18q43 HT_ rfl rfl (by kernel_rfl) (by rfl) (by intro w';go_simp;with_reducible rfl) (by simp only [Act.put,lA,lZ,lS,iw,jw];rfl) ?_
     refine done_ (done_of HT_.out (by kernel_rfl)) ?_
     try go_wp2
     go_ret
     exact ⟨by first|rfl|(simp [errW_none,errW_some] <;> rfl)|(simp [*,errW_none,errW_some] <;> rfl),by repeat (first|(with_reducible first|exact HB.out|apply oA|apply pN|apply o1|refine bS ?_ Be.out|refine bS ?_ Bh.out)|exact HB.out)⟩
    rw [if_neg c45] at H
    have c45b0:decide (((rd_T40 l0_0 x3_1).f2)<a0_1)=false:=decide_eq_false c45
    clear c45
    have H':=Am H
    clear H
    have Di:=cz0 Bc.out
    have Dj:=cz1 Bc.out
    have Dk:=bF Bc.out 0
    have Dl:=bF Bc.out 1
    have p273:0≤(x3_1:Int):=of_decide_eq_true (by first|(with_reducible assumption)|assumption)
    have q273:x3_1<(l0_0.length:Int):=of_decide_eq_true (by first|(with_reducible assumption)|assumption)
    obtain ⟨ad273,e273,hx273_0,hx273_1,hx273_2,hx273_3⟩:=at_T40 HR0_0.out x3_1 p273 q273
    (try rw [← Nbq43.out] at hx273_3)
    cases e273
    replace hx273_0:=(bW HB hx273_0:)
    replace hx273_1:=(bW HB hx273_1:)
    replace hx273_2:=(bW HB hx273_2:)
    replace hx273_3:=(bW HB hx273_3:)
    replace p273:=eq_true p273
    replace q273:=eq_true q273
    try go_wp2_with (first|((with_reducible refine gate_dst (N:=4) rfl ?_);refine box_event ?hg (N:=4) ?hd (cs:=#[.int .i64 0,.int .i64 0,.int .i64 0,.bool false]) (t:=40) ?hr ?_;(case hd=>rfl);(case hg=>rfl);(case hr=>first|(go_simp;done)|(go_simp;rfl));intro Bb hg w53 hbox hb;have n0_:=Am (bX Bc.out hb);have n1_:=Am (bP (by repeat (first|(with_reducible first|exact HB.out|apply oA|apply pN|apply o1|refine bS ?_ Be.out)|exact HB.out)) hb);have n2_:=Am (hbox);have n3_:=Am ((by rw [hg];exact (bZ (by repeat (first|(with_reducible first|exact HB.out|apply oA|apply pN|apply o1|refine bS ?_ Be.out)|exact HB.out))):w.heap.size≤Bb));have n4_:=Am ((by rw [hg];exact (bZ (by repeat (first|(with_reducible first|exact HB.out|apply oA|apply pN|apply o1|refine bS ?_ Be.out)|exact HB.out))):w.heap.size≤Bb));have n5_:=Am ((nL Bc.out hg));have n6_:=Am ((nG Bc.out hg));clear Bc HB;revert n0_ n1_ n2_ n3_ n4_ n5_ n6_;intro Bc HB Ba Bi Bh Bf Bg;clear hb hbox hg;have Fz:=Bg.out;have FA:=Bf.out;have Dm:=cz0 Ba.out;have Dn:=cz1 Ba.out;have Do:=cz2 Ba.out;have Dp:=cz3 Ba.out;have Dq:=bF Ba.out 0;have Dr:=bF Ba.out 1;have Ds:=bF Ba.out 2;have Dt:=bF Ba.out 3))
    have n0_:Aside0 (((((w53.setCell ⟨Bb,0,none⟩ (.int .i64 ((rd_T40 l0_0 x3_1).f0))).setCell ⟨Bb,1,none⟩ (.int .i64 ((rd_T40 l0_0 x3_1).f1))).setCell ⟨Bb,2,none⟩ (.int .i64 ((rd_T40 l0_0 x3_1).f2))).setCell ⟨Bb,3,none⟩ (.bool true)).heap[Bd]?=some (.cells #[.slice (some ad273) l0_0.length c0_0,.int .i64 a0_1] 25 (0,0))):=⟨by (with_reducible repeat (first|refine bN ?_ _|refine bD ?_|refine bA ?_ _|refine blk_far ?_ Bf.out _));exact Bc.out⟩
    have n1_:Aside0 (((((w53.setCell ⟨Bb,0,none⟩ (.int .i64 ((rd_T40 l0_0 x3_1).f0))).setCell ⟨Bb,1,none⟩ (.int .i64 ((rd_T40 l0_0 x3_1).f1))).setCell ⟨Bb,2,none⟩ (.int .i64 ((rd_T40 l0_0 x3_1).f2))).setCell ⟨Bb,3,none⟩ (.bool true)).heap[Bb]?=some (.cells #[.int .i64 ((rd_T40 l0_0 x3_1).f0),.int .i64 ((rd_T40 l0_0 x3_1).f1),.int .i64 ((rd_T40 l0_0 x3_1).f2),.bool true] 40 (0,0))):=⟨by (with_reducible repeat (first|refine bN ?_ _|refine bD ?_|refine bA ?_ _));refine blk_put (cs:=#[.int .i64 ((rd_T40 l0_0 x3_1).f0),.int .i64 ((rd_T40 l0_0 x3_1).f1),.int .i64 ((rd_T40 l0_0 x3_1).f2),.bool false]) ?_ 3 _ rfl;(with_reducible repeat (first|refine bN ?_ _|refine bD ?_|refine bA ?_ _));refine blk_put (cs:=#[.int .i64 ((rd_T40 l0_0 x3_1).f0),.int .i64 ((rd_T40 l0_0 x3_1).f1),.int .i64 0,.bool false]) ?_ 2 _ rfl;(with_reducible repeat (first|refine bN ?_ _|refine bD ?_|refine bA ?_ _));refine blk_put (cs:=#[.int .i64 ((rd_T40 l0_0 x3_1).f0),.int .i64 0,.int .i64 0,.bool false]) ?_ 1 _ rfl;(with_reducible repeat (first|refine bN ?_ _|refine bD ?_|refine bA ?_ _));refine blk_put (cs:=#[.int .i64 0,.int .i64 0,.int .i64 0,.bool false]) ?_ 0 _ rfl;(with_reducible repeat (first|refine bN ?_ _|refine bD ?_|refine bA ?_ _));exact Ba.out⟩
    have n2_:Aside0 (Below w.heap.size w ((((w53.setCell ⟨Bb,0,none⟩ (.int .i64 ((rd_T40 l0_0 x3_1).f0))).setCell ⟨Bb,1,none⟩ (.int .i64 ((rd_T40 l0_0 x3_1).f1))).setCell ⟨Bb,2,none⟩ (.int .i64 ((rd_T40 l0_0 x3_1).f2))).setCell ⟨Bb,3,none⟩ (.bool true))):=⟨by repeat (first|(with_reducible first|exact HB.out|apply oA|apply pN|apply o1|refine bS ?_ Be.out|refine bS ?_ Bh.out)|exact HB.out)⟩
    (try clear Bc)
    (try clear Ba)
    (try clear HB)
    generalize ((((w53.setCell ⟨Bb,0,none⟩ (.int .i64 ((rd_T40 l0_0 x3_1).f0))).setCell ⟨Bb,1,none⟩ (.int .i64 ((rd_T40 l0_0 x3_1).f1))).setCell ⟨Bb,2,none⟩ (.int .i64 ((rd_T40 l0_0 x3_1).f2))).setCell ⟨Bb,3,none⟩ (.bool true))=w56 at n0_ n1_ n2_ ⊢
    have Bc:=n0_
    have Ba:=n1_
    have HB:=n2_
    clear n0_ n1_ n2_
    have n0_:=Am (bD Bc.out)
    have n1_:=Am (bD Ba.out)
    have n2_:=Am (o1 HB.out)
    clear Bc
    clear Ba
    clear HB
    have Bc:=n0_
    have Ba:=n1_
    have HB:=n2_
    clear n0_ n1_ n2_
    refine start_ (n:=43) (S:=fun w'=>w'.cell? ⟨Bb,0,none⟩=some (.int .i64 ((rd_T40 l0_0 x3_1).f0))∧w'.cell? ⟨Bb,1,none⟩=some (.int .i64 ((rd_T40 l0_0 x3_1).f1))∧w'.cell? ⟨Bb,2,none⟩=some (.int .i64 ((rd_T40 l0_0 x3_1).f2))∧w'.cell? ⟨Bb,3,none⟩=some (.bool true)∧w'.cell? ⟨Bd,0,none⟩=some (.slice (some ad273) l0_0.length c0_0)∧w'.cell? ⟨Bd,1,none⟩=some (.int .i64 a0_1)) (ds:=[]) z18q0 (by kernel_rfl) rfl rfl ⟨(bC Ba.out 0).trans rfl,(bC Ba.out 1).trans rfl,(bC Ba.out 2).trans rfl,(bC Ba.out 3).trans rfl,(bC Bc.out 0).trans rfl,(bC Bc.out 1).trans rfl⟩ (fun hHeld=>?_);refine with_st spec_QueueOk.tab5 spec_QueueOk.bits5 (fun _ _ _ _ _ h=>h) (fun HT_=>?_)
    generalize w56.drew=w57 at Bc Ba HB hHeld ⊢
    refine pS 0 17 z18q1 HT_ rfl rfl (by kernel_rfl) (by rfl) (by intro w';go_simp;with_reducible rfl) (by simp only [Act.put,lA,lZ,lS,iw,jw];rfl) ?_
    refine tS 1 18 z18q2 HT_ hHeld rfl rfl (by kernel_rfl) (by rfl) (by rintro w' ⟨s0,s1,s2,s3,s4,s5⟩;go_simp;with_reducible rfl) (by simp only [Act.put,lA,lZ,lS,iw,jw];rfl) ?_
    refine oS 2 19 z18q3 HT_ rfl rfl (by kernel_rfl) (by decide) (fun K hK=>?_)
    refine goes_ Try.func42 (by kernel_rfl) rfl #[.int .i64 ((rd_T40 l0_0 x3_1).f0),.int .i64 0,.int .i64 99] (by rfl) rfl rfl (by (try simp only [lM,lC,lN]);first|done|rfl|(simp only [lD,lT];rfl)) ?_
    with_reducible refine (spec_l6In.calls ((rd_T40 l0_0 x3_1).f0) 0 99 true _ A5.out).mono ?_
    rintro e w' ⟨rfl,⟨nd,rfl⟩⟩
    refine ⟨_,rfl,?_⟩
    refine hK.out _ _ ⟨(bC Ba.out 0).trans rfl,(bC Ba.out 1).trans rfl,(bC Ba.out 2).trans rfl,(bC Ba.out 3).trans rfl,(bC Bc.out 0).trans rfl,(bC Bc.out 1).trans rfl⟩ (fun hHeld=>?_)
    clear hK K
    refine norm_ (by show Act.put _ (some 19) _=_;simp only [Act.put,lA,lZ,lS,iw,jw];rfl) ?_
    refine pS 3 20 z18q4 HT_ rfl rfl (by kernel_rfl) (by rfl) (by intro w';go_simp;with_reducible rfl) (by simp only [Act.put,lA,lZ,lS,iw,jw];rfl) ?_
    refine pS 4 21 z18q5 HT_ rfl rfl (by kernel_rfl) (by rfl) (by intro w';go_simp;with_reducible rfl) (by simp only [Act.put,lA,lZ,lS,iw,jw];rfl) ?_
    refine pS 5 22 z18q6 HT_ rfl rfl (by kernel_rfl) (by rfl) (by intro w';go_simp;with_reducible rfl) (by simp only [Act.put,lA,lZ,lS,iw,jw];rfl) ?_
    refine tS 6 23 z18q7 HT_ hHeld rfl rfl (by kernel_rfl) (by rfl) (by rintro w' ⟨s0,s1,s2,s3,s4,s5⟩;go_simp;with_reducible rfl) (by simp only [Act.put,lA,lZ,lS,iw,jw];rfl) ?_
    refine oS 7 24 z18q8 HT_ rfl rfl (by kernel_rfl) (by decide) (fun K hK=>?_)
    refine goes_ Try.func42 (by kernel_rfl) rfl #[.int .i64 ((rd_T40 l0_0 x3_1).f1),.int .i64 1,.int .i64 6] (by rfl) rfl rfl (by (try simp only [lM,lC,lN]);first|done|rfl|(simp only [lD,lT];rfl)) ?_
    with_reducible refine (spec_l6In.calls ((rd_T40 l0_0 x3_1).f1) 1 6 true _ A7.out).mono ?_
    rintro e w' ⟨rfl,⟨nd,rfl⟩⟩
    refine ⟨_,rfl,?_⟩
    refine hK.out _ _ ⟨(bC Ba.out 0).trans rfl,(bC Ba.out 1).trans rfl,(bC Ba.out 2).trans rfl,(bC Ba.out 3).trans rfl,(bC Bc.out 0).trans rfl,(bC Bc.out 1).trans rfl⟩ (fun hHeld=>?_)
    clear hK K
    refine norm_ (by show Act.put _ (some 24) _=_;simp only [Act.put,lA,lZ,lS,iw,jw];rfl) ?_
    refine pS 8 25 z18q9 HT_ rfl rfl (by kernel_rfl) (by rfl) (by intro w';go_simp;with_reducible rfl) (by simp only [Act.put,lA,lZ,lS,iw,jw];rfl) ?_
    refine pS 9 26 z18q10 HT_ rfl rfl (by kernel_rfl) (by rfl) (by intro w';go_simp;with_reducible rfl) (by simp only [Act.put,lA,lZ,lS,iw,jw];rfl) ?_
    refine pS 10 27 z18q11 HT_ rfl rfl (by kernel_rfl) (by rfl) (by intro w';go_simp;with_reducible rfl) (by simp only [Act.put,lA,lZ,lS,iw,jw];rfl) ?_
    refine pS 11 28 z18q12 HT_ rfl rfl (by kernel_rfl) (by rfl) (by intro w';go_simp;with_reducible rfl) (by simp only [Act.put,lA,lZ,lS,iw,jw];rfl) ?_
    refine tS 12 29 z18q13 HT_ hHeld rfl rfl (by kernel_rfl) (by rfl) (by rintro w' ⟨s0,s1,s2,s3,s4,s5⟩;go_simp;with_reducible rfl) (by simp only [Act.put,lA,lZ,lS,iw,jw];rfl) ?_
    refine oS 13 30 z18q14 HT_ rfl rfl (by kernel_rfl) (by decide) (fun K hK=>?_)
    refine goes_ Try.func42 (by kernel_rfl) rfl #[.int .i64 ((rd_T40 l0_0 x3_1).f2),.int .i64 0,.int .i64 1000000] (by rfl) rfl rfl (by (try simp only [lM,lC,lN]);first|done|rfl|(simp only [lD,lT];rfl)) ?_
    with_reducible refine (spec_l6In.calls ((rd_T40 l0_0 x3_1).f2) 0 1000000 true _ A9.out).mono ?_
    rintro e w' ⟨rfl,⟨nd,rfl⟩⟩
    refine ⟨_,rfl,?_⟩
    refine hK.out _ _ ⟨(bC Ba.out 0).trans rfl,(bC Ba.out 1).trans rfl,(bC Ba.out 2).trans rfl,(bC Ba.out 3).trans rfl,(bC Bc.out 0).trans rfl,(bC Bc.out 1).trans rfl⟩ (fun hHeld=>?_)
    clear hK K
    refine norm_ (by show Act.put _ (some 30) _=_;simp only [Act.put,lA,lZ,lS,iw,jw];rfl) ?_
    refine pS 14 31 z18q15 HT_ rfl rfl (by kernel_rfl) (by rfl) (by intro w';go_simp;with_reducible rfl) (by simp only [Act.put,lA,lZ,lS,iw,jw];rfl) ?_
    refine pS 15 32 z18q16 HT_ rfl rfl (by kernel_rfl) (by rfl) (by intro w';go_simp;with_reducible rfl) (by simp only [Act.put,lA,lZ,lS,iw,jw];rfl) ?_
    refine pS 16 33 z18q17 HT_ rfl rfl (by kernel_rfl) (by rfl) (by intro w';go_simp;with_reducible rfl) (by simp only [Act.put,lA,lZ,lS,iw,jw];rfl) ?_
    refine pS 17 34 z18q18 HT_ rfl rfl (by kernel_rfl) (by rfl) (by intro w';go_simp;with_reducible rfl) (by simp only [Act.put,lA,lZ,lS,iw,jw];rfl) ?_
    refine pS 18 35 z18q19 HT_ rfl rfl (by kernel_rfl) (by rfl) (by intro w';go_simp;with_reducible rfl) (by simp only [Act.put,lA,lZ,lS,iw,jw];rfl) ?_
    refine pS 19 36 z18q20 HT_ rfl rfl (by kernel_rfl) (by rfl) (by intro w';go_simp;with_reducible rfl) (by simp only [Act.put,lA,lZ,lS,iw,jw];rfl) ?_
    refine vS 20 37 z18q21 HT_ rfl rfl (by kernel_rfl) (by rfl) (by simp only [Act.put,lA,lZ,lS,iw,jw];rfl) ?_
    refine vS 21 38 z18q45 HT_ rfl rfl (by kernel_rfl) (by rfl) (by simp only [Act.put,lA,lZ,lS,iw,jw];rfl) ?_
    refine vS 22 39 z18q46 HT_ rfl rfl (by kernel_rfl) (by rfl) (by simp only [Act.put,lA,lZ,lS,iw,jw];rfl) ?_
    refine vS 23 40 z18q47 HT_ rfl rfl (by kernel_rfl) (by rfl) (by simp only [Act.put,lA,lZ,lS,iw,jw];rfl) ?_
    refine vS 24 41 z18q48 HT_ rfl rfl (by kernel_rfl) (by rfl) (by simp only [Act.put,lA,lZ,lS,iw,jw];rfl) ?_
    refine vS 25 42 z18q49 HT_ rfl rfl (by kernel_rfl) (by rfl) (by simp only [Act.put,lA,lZ,lS,iw,jw];rfl) ?_
    refine vS 26 43 z18q50 HT_ rfl rfl (by kernel_rfl) (by rfl) (by simp only [Act.put,lA,lZ,lS,iw,jw];rfl) ?_
    refine vS 27 44 z18q28 HT_ rfl rfl (by kernel_rfl) (by rfl) (by simp only [Act.put,lA,lZ,lS,iw,jw];rfl) ?_
    refine vS 28 45 z18q29 HT_ rfl rfl (by kernel_rfl) (by rfl) (by simp only [Act.put,lA,lZ,lS,iw,jw];rfl) ?_
    refine vS 29 46 z18q30 HT_ rfl rfl (by kernel_rfl) (by rfl) (by simp only [Act.put,lA,lZ,lS,iw,jw];rfl) ?_
    refine pS 30 47 z18q31 HT_ rfl rfl (by kernel_rfl) (by rfl) (by intro w';go_simp;with_reducible rfl) (by simp only [Act.put,lA,lZ,lS,iw,jw];rfl) ?_
    refine pS 31 48 z18q32 HT_ rfl rfl (by kernel_rfl) (by rfl) (by intro w';go_simp;with_reducible rfl) (by simp only [Act.put,lA,lZ,lS,iw,jw];rfl) ?_
    refine pS 32 49 z18q33 HT_ rfl rfl (by kernel_rfl) (by rfl) (by intro w';go_simp;with_reducible rfl) (by simp only [Act.put,lA,lZ,lS,iw,jw];rfl) ?_
    refine pS 33 50 z18q34 HT_ rfl rfl (by kernel_rfl) (by rfl) (by intro w';go_simp;with_reducible rfl) (by simp only [Act.put,lA,lZ,lS,iw,jw];rfl) ?_
    refine tS 34 51 z18q35 HT_ hHeld rfl rfl (by kernel_rfl) (by rfl) (by rintro w' ⟨s0,s1,s2,s3,s4,s5⟩;go_simp;with_reducible rfl) (by simp only [Act.put,lA,lZ,lS,iw,jw];rfl) ?_
    refine pS 35 52 z18q36 HT_ rfl rfl (by kernel_rfl) (by rfl) (by intro w';go_simp;with_reducible rfl) (by simp only [Act.put,lA,lZ,lS,iw,jw];rfl) ?_
    refine pS 36 53 z18q37 HT_ rfl rfl (by kernel_rfl) (by rfl) (by intro w';go_simp;with_reducible rfl) (by simp only [Act.put,lA,lZ,lS,iw,jw];rfl) ?_
    refine pS 38 55 z18q44 HT_ rfl rfl (by kernel_rfl) (by rfl) (by intro w';go_simp;with_reducible rfl) (by simp only [Act.put,lA,lZ,lS,iw,jw];rfl) ?_
    refine tS 37 54 z18q39 HT_ hHeld rfl rfl (by kernel_rfl) (by rfl) (by rintro w' ⟨s0,s1,s2,s3,s4,s5⟩;go_simp;with_reducible rfl) (by simp only [Act.put,lA,lZ,lS,iw,jw];rfl) ?_
    refine tS 39 56 z18q40 HT_ hHeld rfl rfl (by kernel_rfl) (by rfl) (by rintro w' ⟨s0,s1,s2,s3,s4,s5⟩;go_simp;with_reducible rfl) (by simp only [Act.put,lA,lZ,lS,iw,jw];rfl) ?_
    refine pS 40 57 z18q41 HT_ rfl rfl (by kernel_rfl) (by rfl) (by intro w';go_simp;with_reducible rfl) (by simp only [Act.put,lA,lZ,lS,iw,jw];rfl) ?_
    refine pS 41 58 z18q42 HT_ rfl rfl (by kernel_rfl) (by rfl) (by intro w';go_simp;with_reducible rfl) (by simp only [Act.put,lA,lZ,lS,iw,jw];rfl) ?_
    refine pS 42 59 z18q43 HT_ rfl rfl (by kernel_rfl) (by rfl) (by intro w';go_simp;with_reducible rfl) (by simp only [Act.put,lA,lZ,lS,iw,jw];rfl) ?_
    refine done_ (done_of HT_.out (by kernel_rfl)) ?_
    try go_wp2
    go_roundg k1
    case measure=>have:=HK1.out;omega
    case rel=>exact ⟨(wrap64 (x3_1 + 1)),(by first|rfl|(simp;done)|(simp [*];done)),H',⟨by have:=HK1.out;omega⟩,⟨by (with_reducible repeat (first|refine bN ?_ _|refine bD ?_|refine bA ?_ _));exact Bc.out⟩,⟨by repeat (first|(with_reducible first|exact HB.out|apply oA|apply pN|apply o1|refine bS ?_ Be.out|refine bS ?_ Bh.out)|exact HB.out)⟩⟩
   rw [if_pos c11] at H
   have c11b0:decide (0<x3_1)=true:=decide_eq_true c11
   clear c11
   obtain ⟨ji12,hji12⟩:∃ j_:Int,(wrap64 (x3_1 - 1))=j_:=⟨_,rfl⟩
   replace H:(if 0≤(ji12) then (if (ji12)<(l0_0.length:Int) then (if ((rd_T40 l0_0 (ji12)).f0) ≥ ((rd_T40 l0_0 x3_1).f0) then (some false) else (if (rd_T40 l0_0 x3_1).f3=true then (if ((rd_T40 l0_0 x3_1).f2)<a0_1 then (some false) else (spec_QueueOk.l0 k1 (wrap64 (x3_1 + 1)) l0_0 a0_1)) else (spec_QueueOk.l0 k1 (wrap64 (x3_1 + 1)) l0_0 a0_1))) else (none)) else (none))=some r:=by first|(rw [hji12] at H;exact H)|(simp only [hji12] at H ⊢;exact H)
   (try rw [hji12] at A5)
   (try rw [hji12] at A7)
   (try rw [hji12] at A9)
   have hji12w:(IntKind.i64.wrap (x3_1 - 1))=ji12:=(i64_w _).trans hji12
   by_cases c13:0≤(ji12)
   rotate_left
   ·rw [if_neg c13] at H
    exact absurd H (by simp)
   rw [if_pos c13] at H
   have c13b0:decide (0≤(ji12))=true:=decide_eq_true c13
   clear c13
   by_cases c14:(ji12)<(l0_0.length:Int)
   rotate_left
   ·rw [if_neg c14] at H
    exact absurd H (by simp)
   rw [if_pos c14] at H
   have c14b0:decide ((ji12)<(l0_0.length:Int))=true:=decide_eq_true c14
   clear c14
   by_cases c15:((rd_T40 l0_0 (ji12)).f0) ≥ ((rd_T40 l0_0 x3_1).f0)
   ·rw [if_pos c15] at H
    have c15b0:decide (((rd_T40 l0_0 x3_1).f0)≤((rd_T40 l0_0 (ji12)).f0))=true:=decide_eq_true c15
    clear c15
    obtain rfl:=Option.some.inj H
    have Bj:=cz0 Bc.out
    have Bk:=cz1 Bc.out
    have Bl:=bF Bc.out 0
    have Bm:=bF Bc.out 1
    have p273:0≤(x3_1:Int):=of_decide_eq_true (by first|(with_reducible assumption)|assumption)
    have q273:x3_1<(l0_0.length:Int):=of_decide_eq_true (by first|(with_reducible assumption)|assumption)
    obtain ⟨ad273,e273,hx273_0,hx273_1,hx273_2,hx273_3⟩:=at_T40 HR0_0.out x3_1 p273 q273
    cases e273
    replace hx273_0:=(bW HB hx273_0:)
    replace hx273_1:=(bW HB hx273_1:)
    replace hx273_2:=(bW HB hx273_2:)
    replace hx273_3:=(bW HB hx273_3:)
    replace p273:=eq_true p273
    replace q273:=eq_true q273
    try go_wp2_with (first|((with_reducible refine gate_dst (N:=4) rfl ?_);refine box_event ?hg (N:=4) ?hd (cs:=#[.int .i64 0,.int .i64 0,.int .i64 0,.bool false]) (t:=40) ?hr ?_;(case hd=>rfl);(case hg=>rfl);(case hr=>first|(go_simp;done)|(go_simp;rfl));intro Bb hg w17 hbox hb;have n0_:=Am (bX Bc.out hb);have n1_:=Am (bP (by repeat (first|(with_reducible first|exact HB.out|apply oA|apply pN|apply o1|refine bS ?_ Be.out)|exact HB.out)) hb);have n2_:=Am (hbox);have n3_:=Am ((by rw [hg];exact (bZ (by repeat (first|(with_reducible first|exact HB.out|apply oA|apply pN|apply o1|refine bS ?_ Be.out)|exact HB.out))):w.heap.size≤Bb));have n4_:=Am ((by rw [hg];exact (bZ (by repeat (first|(with_reducible first|exact HB.out|apply oA|apply pN|apply o1|refine bS ?_ Be.out)|exact HB.out))):w.heap.size≤Bb));have n5_:=Am ((nL Bc.out hg));have n6_:=Am ((nG Bc.out hg));clear Bc HB;revert n0_ n1_ n2_ n3_ n4_ n5_ n6_;intro Bc HB Ba Bi Bh Bf Bg;clear hb hbox hg;have Fp:=Bg.out;have Fq:=Bf.out;have Bn:=cz0 Ba.out;have Bo:=cz1 Ba.out;have Bp:=cz2 Ba.out;have Bq:=cz3 Ba.out;have Br:=bF Ba.out 0;have Bs:=bF Ba.out 1;have Bt:=bF Ba.out 2;have Bu:=bF Ba.out 3))
    have n0_:Aside0 (((((w17.setCell ⟨Bb,0,none⟩ (.int .i64 ((rd_T40 l0_0 x3_1).f0))).setCell ⟨Bb,1,none⟩ (.int .i64 ((rd_T40 l0_0 x3_1).f1))).setCell ⟨Bb,2,none⟩ (.int .i64 ((rd_T40 l0_0 x3_1).f2))).setCell ⟨Bb,3,none⟩ (.bool ((rd_T40 l0_0 x3_1).f3))).heap[Bd]?=some (.cells #[.slice (some ad273) l0_0.length c0_0,.int .i64 a0_1] 25 (0,0))):=⟨by (with_reducible repeat (first|refine bN ?_ _|refine bD ?_|refine bA ?_ _|refine blk_far ?_ Bf.out _));exact Bc.out⟩
    have n1_:Aside0 (((((w17.setCell ⟨Bb,0,none⟩ (.int .i64 ((rd_T40 l0_0 x3_1).f0))).setCell ⟨Bb,1,none⟩ (.int .i64 ((rd_T40 l0_0 x3_1).f1))).setCell ⟨Bb,2,none⟩ (.int .i64 ((rd_T40 l0_0 x3_1).f2))).setCell ⟨Bb,3,none⟩ (.bool ((rd_T40 l0_0 x3_1).f3))).heap[Bb]?=some (.cells #[.int .i64 ((rd_T40 l0_0 x3_1).f0),.int .i64 ((rd_T40 l0_0 x3_1).f1),.int .i64 ((rd_T40 l0_0 x3_1).f2),.bool ((rd_T40 l0_0 x3_1).f3)] 40 (0,0))):=⟨by (with_reducible repeat (first|refine bN ?_ _|refine bD ?_|refine bA ?_ _));refine blk_put (cs:=#[.int .i64 ((rd_T40 l0_0 x3_1).f0),.int .i64 ((rd_T40 l0_0 x3_1).f1),.int .i64 ((rd_T40 l0_0 x3_1).f2),.bool false]) ?_ 3 _ rfl;(with_reducible repeat (first|refine bN ?_ _|refine bD ?_|refine bA ?_ _));refine blk_put (cs:=#[.int .i64 ((rd_T40 l0_0 x3_1).f0),.int .i64 ((rd_T40 l0_0 x3_1).f1),.int .i64 0,.bool false]) ?_ 2 _ rfl;(with_reducible repeat (first|refine bN ?_ _|refine bD ?_|refine bA ?_ _));refine blk_put (cs:=#[.int .i64 ((rd_T40 l0_0 x3_1).f0),.int .i64 0,.int .i64 0,.bool false]) ?_ 1 _ rfl;(with_reducible repeat (first|refine bN ?_ _|refine bD ?_|refine bA ?_ _));refine blk_put (cs:=#[.int .i64 0,.int .i64 0,.int .i64 0,.bool false]) ?_ 0 _ rfl;(with_reducible repeat (first|refine bN ?_ _|refine bD ?_|refine bA ?_ _));exact Ba.out⟩
    have n2_:Aside0 (Below w.heap.size w ((((w17.setCell ⟨Bb,0,none⟩ (.int .i64 ((rd_T40 l0_0 x3_1).f0))).setCell ⟨Bb,1,none⟩ (.int .i64 ((rd_T40 l0_0 x3_1).f1))).setCell ⟨Bb,2,none⟩ (.int .i64 ((rd_T40 l0_0 x3_1).f2))).setCell ⟨Bb,3,none⟩ (.bool ((rd_T40 l0_0 x3_1).f3)))):=⟨by repeat (first|(with_reducible first|exact HB.out|apply oA|apply pN|apply o1|refine bS ?_ Be.out|refine bS ?_ Bh.out)|exact HB.out)⟩
    (try clear Bc)
    (try clear Ba)
    (try clear HB)
    generalize ((((w17.setCell ⟨Bb,0,none⟩ (.int .i64 ((rd_T40 l0_0 x3_1).f0))).setCell ⟨Bb,1,none⟩ (.int .i64 ((rd_T40 l0_0 x3_1).f1))).setCell ⟨Bb,2,none⟩ (.int .i64 ((rd_T40 l0_0 x3_1).f2))).setCell ⟨Bb,3,none⟩ (.bool ((rd_T40 l0_0 x3_1).f3)))=w20 at n0_ n1_ n2_ ⊢
    have Bc:=n0_
    have Ba:=n1_
    have HB:=n2_
    clear n0_ n1_ n2_
    have n0_:=Am (bD Bc.out)
    have n1_:=Am (bD Ba.out)
    have n2_:=Am (o1 HB.out)
    clear Bc
    clear Ba
    clear HB
    have Bc:=n0_
    have Ba:=n1_
    have HB:=n2_
    clear n0_ n1_ n2_
    have p278:0≤((ji12):Int):=of_decide_eq_true (by first|(with_reducible assumption)|assumption)
    have q278:(ji12)<(l0_0.length:Int):=of_decide_eq_true (by first|(with_reducible assumption)|assumption)
    obtain ⟨ad278,e278,hx278_0,hx278_1,hx278_2,hx278_3⟩:=at_T40 HR0_0.out (ji12) p278 q278
    have hw278_3:=hx278_3
    have hw278_2:=hx278_2
    have hw278_1:=hx278_1
    have hw278_0:=hx278_0
    obtain rfl:ad273=ad278:=(by injection e278)
    replace hx278_0:=(bW HB hx278_0:)
    replace hx278_1:=(bW HB hx278_1:)
    replace hx278_2:=(bW HB hx278_2:)
    replace hx278_3:=(bW HB hx278_3:)
    replace p278:=eq_true p278
    replace q278:=eq_true q278
    refine start_ (n:=43) (S:=fun w'=>w'.cell? ⟨Bb,0,none⟩=some (.int .i64 ((rd_T40 l0_0 x3_1).f0))∧w'.cell? ⟨Bb,1,none⟩=some (.int .i64 ((rd_T40 l0_0 x3_1).f1))∧w'.cell? ⟨Bb,2,none⟩=some (.int .i64 ((rd_T40 l0_0 x3_1).f2))∧w'.cell? ⟨Bb,3,none⟩=some (.bool ((rd_T40 l0_0 x3_1).f3))∧w'.cell? ⟨Bd,0,none⟩=some (.slice (some ad273) l0_0.length c0_0)∧w'.cell? ⟨Bd,1,none⟩=some (.int .i64 a0_1)∧w'.cell? (ad273.add (((ji12)).toNat * 4))=some (.int .i64 ((rd_T40 l0_0 (ji12)).f0))∧w'.cell? ⟨(ad273.add (((ji12)).toNat * 4)).block,(ad273.add (((ji12)).toNat * 4)).off + 1,none⟩=some (.int .i64 ((rd_T40 l0_0 (ji12)).f1))∧w'.cell? ⟨(ad273.add (((ji12)).toNat * 4)).block,(ad273.add (((ji12)).toNat * 4)).off + 2,none⟩=some (.int .i64 ((rd_T40 l0_0 (ji12)).f2))∧w'.cell? ⟨(ad273.add (((ji12)).toNat * 4)).block,(ad273.add (((ji12)).toNat * 4)).off + 3,none⟩=some (.bool ((rd_T40 l0_0 (ji12)).f3))) (ds:=[]) z18q0 (by kernel_rfl) rfl rfl ⟨(bC Ba.out 0).trans rfl,(bC Ba.out 1).trans rfl,(bC Ba.out 2).trans rfl,(bC Ba.out 3).trans rfl,(bC Bc.out 0).trans rfl,(bC Bc.out 1).trans rfl,(bW HB hw278_0:),(bW HB hw278_1:),(bW HB hw278_2:),(bW HB hw278_3:)⟩ (fun hHeld=>?_);refine with_st spec_QueueOk.tab5 spec_QueueOk.bits5 (fun _ _ _ _ _ h=>h) (fun HT_=>?_)
    generalize w20.drew=w21 at Bc Ba HB hx278_0 hx278_1 hx278_2 hx278_3 hHeld ⊢
    refine pS 0 17 z18q1 HT_ rfl rfl (by kernel_rfl) (by rfl) (by intro w';go_simp;with_reducible rfl) (by simp only [Act.put,lA,lZ,lS,iw,jw];rfl) ?_
    refine tS 1 18 z18q2 HT_ hHeld rfl rfl (by kernel_rfl) (by rfl) (by rintro w' ⟨s0,s1,s2,s3,s4,s5,s6,s7,s8,s9⟩;go_simp;with_reducible rfl) (by simp only [Act.put,lA,lZ,lS,iw,jw];rfl) ?_
    refine oS 2 19 z18q3 HT_ rfl rfl (by kernel_rfl) (by decide) (fun K hK=>?_)
    refine goes_ Try.func42 (by kernel_rfl) rfl #[.int .i64 ((rd_T40 l0_0 x3_1).f0),.int .i64 0,.int .i64 99] (by rfl) rfl rfl (by (try simp only [lM,lC,lN]);first|done|rfl|(simp only [lD,lT];rfl)) ?_
    with_reducible refine (spec_l6In.calls ((rd_T40 l0_0 x3_1).f0) 0 99 true _ A5.out).mono ?_
    rintro e w' ⟨rfl,⟨nd,rfl⟩⟩
    refine ⟨_,rfl,?_⟩
    refine hK.out _ _ ⟨(bC Ba.out 0).trans rfl,(bC Ba.out 1).trans rfl,(bC Ba.out 2).trans rfl,(bC Ba.out 3).trans rfl,(bC Bc.out 0).trans rfl,(bC Bc.out 1).trans rfl,(bW HB hw278_0:),(bW HB hw278_1:),(bW HB hw278_2:),(bW HB hw278_3:)⟩ (fun hHeld=>?_)
    clear hK K
    refine norm_ (by show Act.put _ (some 19) _=_;simp only [Act.put,lA,lZ,lS,iw,jw];rfl) ?_
    refine pS 3 20 z18q4 HT_ rfl rfl (by kernel_rfl) (by rfl) (by intro w';go_simp;with_reducible rfl) (by simp only [Act.put,lA,lZ,lS,iw,jw];rfl) ?_
    refine pS 4 21 z18q5 HT_ rfl rfl (by kernel_rfl) (by rfl) (by intro w';go_simp;with_reducible rfl) (by simp only [Act.put,lA,lZ,lS,iw,jw];rfl) ?_
    refine pS 5 22 z18q6 HT_ rfl rfl (by kernel_rfl) (by rfl) (by intro w';go_simp;with_reducible rfl) (by simp only [Act.put,lA,lZ,lS,iw,jw];rfl) ?_
    refine tS 6 23 z18q7 HT_ hHeld rfl rfl (by kernel_rfl) (by rfl) (by rintro w' ⟨s0,s1,s2,s3,s4,s5,s6,s7,s8,s9⟩;go_simp;with_reducible rfl) (by simp only [Act.put,lA,lZ,lS,iw,jw];rfl) ?_
    refine oS 7 24 z18q8 HT_ rfl rfl (by kernel_rfl) (by decide) (fun K hK=>?_)
    refine goes_ Try.func42 (by kernel_rfl) rfl #[.int .i64 ((rd_T40 l0_0 x3_1).f1),.int .i64 1,.int .i64 6] (by rfl) rfl rfl (by (try simp only [lM,lC,lN]);first|done|rfl|(simp only [lD,lT];rfl)) ?_
    with_reducible refine (spec_l6In.calls ((rd_T40 l0_0 x3_1).f1) 1 6 true _ A7.out).mono ?_
    rintro e w' ⟨rfl,⟨nd,rfl⟩⟩
    refine ⟨_,rfl,?_⟩
    refine hK.out _ _ ⟨(bC Ba.out 0).trans rfl,(bC Ba.out 1).trans rfl,(bC Ba.out 2).trans rfl,(bC Ba.out 3).trans rfl,(bC Bc.out 0).trans rfl,(bC Bc.out 1).trans rfl,(bW HB hw278_0:),(bW HB hw278_1:),(bW HB hw278_2:),(bW HB hw278_3:)⟩ (fun hHeld=>?_)
    clear hK K
    refine norm_ (by show Act.put _ (some 24) _=_;simp only [Act.put,lA,lZ,lS,iw,jw];rfl) ?_
    refine pS 8 25 z18q9 HT_ rfl rfl (by kernel_rfl) (by rfl) (by intro w';go_simp;with_reducible rfl) (by simp only [Act.put,lA,lZ,lS,iw,jw];rfl) ?_
    refine pS 9 26 z18q10 HT_ rfl rfl (by kernel_rfl) (by rfl) (by intro w';go_simp;with_reducible rfl) (by simp only [Act.put,lA,lZ,lS,iw,jw];rfl) ?_
    refine pS 10 27 z18q11 HT_ rfl rfl (by kernel_rfl) (by rfl) (by intro w';go_simp;with_reducible rfl) (by simp only [Act.put,lA,lZ,lS,iw,jw];rfl) ?_
    refine pS 11 28 z18q12 HT_ rfl rfl (by kernel_rfl) (by rfl) (by intro w';go_simp;with_reducible rfl) (by simp only [Act.put,lA,lZ,lS,iw,jw];rfl) ?_
    refine tS 12 29 z18q13 HT_ hHeld rfl rfl (by kernel_rfl) (by rfl) (by rintro w' ⟨s0,s1,s2,s3,s4,s5,s6,s7,s8,s9⟩;go_simp;with_reducible rfl) (by simp only [Act.put,lA,lZ,lS,iw,jw];rfl) ?_
    refine oS 13 30 z18q14 HT_ rfl rfl (by kernel_rfl) (by decide) (fun K hK=>?_)
    refine goes_ Try.func42 (by kernel_rfl) rfl #[.int .i64 ((rd_T40 l0_0 x3_1).f2),.int .i64 0,.int .i64 1000000] (by rfl) rfl rfl (by (try simp only [lM,lC,lN]);first|done|rfl|(simp only [lD,lT];rfl)) ?_
    with_reducible refine (spec_l6In.calls ((rd_T40 l0_0 x3_1).f2) 0 1000000 true _ A9.out).mono ?_
    rintro e w' ⟨rfl,⟨nd,rfl⟩⟩
    refine ⟨_,rfl,?_⟩
    refine hK.out _ _ ⟨(bC Ba.out 0).trans rfl,(bC Ba.out 1).trans rfl,(bC Ba.out 2).trans rfl,(bC Ba.out 3).trans rfl,(bC Bc.out 0).trans rfl,(bC Bc.out 1).trans rfl,(bW HB hw278_0:),(bW HB hw278_1:),(bW HB hw278_2:),(bW HB hw278_3:)⟩ (fun hHeld=>?_)
    clear hK K
    refine norm_ (by show Act.put _ (some 30) _=_;simp only [Act.put,lA,lZ,lS,iw,jw];rfl) ?_
    refine pS 14 31 z18q15 HT_ rfl rfl (by kernel_rfl) (by rfl) (by intro w';go_simp;with_reducible rfl) (by simp only [Act.put,lA,lZ,lS,iw,jw];rfl) ?_
    refine pS 15 32 z18q16 HT_ rfl rfl (by kernel_rfl) (by rfl) (by intro w';go_simp;with_reducible rfl) (by simp only [Act.put,lA,lZ,lS,iw,jw];rfl) ?_
    refine pS 16 33 z18q17 HT_ rfl rfl (by kernel_rfl) (by rfl) (by intro w';go_simp;with_reducible rfl) (by simp only [Act.put,lA,lZ,lS,iw,jw];rfl) ?_
    refine pS 17 34 z18q18 HT_ rfl rfl (by kernel_rfl) (by rfl) (by intro w';go_simp;with_reducible rfl) (by simp only [Act.put,lA,lZ,lS,iw,jw];rfl) ?_
    refine pS 18 35 z18q19 HT_ rfl rfl (by kernel_rfl) (by rfl) (by intro w';go_simp;with_reducible rfl) (by simp only [Act.put,lA,lZ,lS,iw,jw];rfl) ?_
    refine pS 19 36 z18q20 HT_ rfl rfl (by kernel_rfl) (by rfl) (by intro w';go_simp;with_reducible rfl) (by simp only [Act.put,lA,lZ,lS,iw,jw];rfl) ?_
    refine pS 20 37 z18q21 HT_ rfl rfl (by kernel_rfl) (by rfl) (by intro w';go_simp;with_reducible rfl) (by simp only [Act.put,lA,lZ,lS,iw,jw];rfl) ?_
    refine pS 22 39 z18q22 HT_ rfl rfl (by kernel_rfl) (by rfl) (by intro w';go_simp;with_reducible rfl) (by simp only [Act.put,lA,lZ,lS,iw,jw];rfl) ?_
    refine pS 23 40 z18q23 HT_ rfl rfl (by kernel_rfl) (by rfl) (by intro w';go_simp;with_reducible rfl) (by simp only [Act.put,lA,lZ,lS,iw,jw];rfl) ?_
    refine pS 27 44 z18q24 HT_ rfl rfl (by kernel_rfl) (by rfl) (by intro w';go_simp;with_reducible rfl) (by simp only [Act.put,lA,lZ,lS,iw,jw];rfl) ?_
    refine tS 21 38 z18q25 HT_ hHeld rfl rfl (by kernel_rfl) (by rfl) (by rintro w' ⟨s0,s1,s2,s3,s4,s5,s6,s7,s8,s9⟩;go_simp;with_reducible rfl) (by simp only [Act.put,lA,lZ,lS,iw,jw];rfl) ?_
    refine pS 24 41 z18q26 HT_ rfl rfl (by kernel_rfl) (by rfl) (by intro w';go_simp;with_reducible rfl) (by simp only [Act.put,lA,lZ,lS,iw,jw];rfl) ?_
    refine pS 25 42 z18q27 HT_ rfl rfl (by kernel_rfl) (by rfl) (by intro w';go_simp;with_reducible rfl) (by simp only [Act.put,lA,lZ,lS,iw,jw];rfl) ?_
    refine tS 26 43 z18q28 HT_ hHeld rfl rfl (by kernel_rfl) (by rfl) (by rintro w' ⟨s0,s1,s2,s3,s4,s5,s6,s7,s8,s9⟩;go_simp;with_reducible rfl) (by simp only [Act.put,lA,lZ,lS,iw,jw];rfl) ?_
    refine tS 28 45 z18q29 HT_ hHeld rfl rfl (by kernel_rfl) (by rfl) (by rintro w' ⟨s0,s1,s2,s3,s4,s5,s6,s7,s8,s9⟩;go_simp;with_reducible rfl) (by simp only [Act.put,lA,lZ,lS,iw,jw];rfl) ?_
    refine pS 29 46 z18q30 HT_ rfl rfl (by kernel_rfl) (by rfl) (by intro w';go_simp;with_reducible rfl) (by simp only [Act.put,lA,lZ,lS,iw,jw];rfl) ?_
    refine pS 30 47 z18q31 HT_ rfl rfl (by kernel_rfl) (by rfl) (by intro w';go_simp;with_reducible rfl) (by simp only [Act.put,lA,lZ,lS,iw,jw];rfl) ?_
    refine pS 31 48 z18q32 HT_ rfl rfl (by kernel_rfl) (by rfl) (by intro w';go_simp;with_reducible rfl) (by simp only [Act.put,lA,lZ,lS,iw,jw];rfl) ?_
    refine pS 32 49 z18q33 HT_ rfl rfl (by kernel_rfl) (by rfl) (by intro w';go_simp;with_reducible rfl) (by simp only [Act.put,lA,lZ,lS,iw,jw];rfl) ?_
    refine vS 33 50 z18q34 HT_ rfl rfl (by kernel_rfl) (by rfl) (by simp only [Act.put,lA,lZ,lS,iw,jw];rfl) ?_
    refine vS 34 51 z18q35 HT_ rfl rfl (by kernel_rfl) (by rfl) (by simp only [Act.put,lA,lZ,lS,iw,jw];rfl) ?_
    refine vS 35 52 z18q36 HT_ rfl rfl (by kernel_rfl) (by rfl) (by simp only [Act.put,lA,lZ,lS,iw,jw];rfl) ?_
    refine vS 36 53 z18q37 HT_ rfl rfl (by kernel_rfl) (by rfl) (by simp only [Act.put,lA,lZ,lS,iw,jw];rfl) ?_
    refine vS 37 54 z18q38 HT_ rfl rfl (by kernel_rfl) (by rfl) (by simp only [Act.put,lA,lZ,lS,iw,jw];rfl) ?_
    refine vS 38 55 z18q39 HT_ rfl rfl (by kernel_rfl) (by rfl) (by simp only [Act.put,lA,lZ,lS,iw,jw];rfl) ?_
    refine vS 39 56 z18q40 HT_ rfl rfl (by kernel_rfl) (by rfl) (by simp only [Act.put,lA,lZ,lS,iw,jw];rfl) ?_
    refine vS 40 57 z18q41 HT_ rfl rfl (by kernel_rfl) (by rfl) (by simp only [Act.put,lA,lZ,lS,iw,jw];rfl) ?_
    refine vS 41 58 z18q42 HT_ rfl rfl (by kernel_rfl) (by rfl) (by simp only [Act.put,lA,lZ,lS,iw,jw];rfl) ?_
    refine pS 42 59 z18q43 HT_ rfl rfl (by kernel_rfl) (by rfl) (by intro w';go_simp;with_reducible rfl) (by simp only [Act.put,lA,lZ,lS,iw,jw];rfl) ?_
    refine done_ (done_of HT_.out (by kernel_rfl)) ?_
    try go_wp2
    go_ret
    exact ⟨by first|rfl|(simp [errW_none,errW_some] <;> rfl)|(simp only [← hji12];first|rfl|(simp [errW_none,errW_some] <;> rfl))|(simp [*,errW_none,errW_some] <;> rfl),by repeat (first|(with_reducible first|exact HB.out|apply oA|apply pN|apply o1|refine bS ?_ Be.out|refine bS ?_ Bh.out)|exact HB.out)⟩
   rw [if_neg c15] at H
   have c15b0:decide (((rd_T40 l0_0 x3_1).f0)≤((rd_T40 l0_0 (ji12)).f0))=false:=decide_eq_false c15
   clear c15
   obtain ⟨bq22,hbq22⟩:∃ b_:Bool,b_=((rd_T40 l0_0 x3_1).f3):=⟨_,rfl⟩
   replace H:(if bq22=true then (if ((rd_T40 l0_0 x3_1).f2)<a0_1 then (some false) else (spec_QueueOk.l0 k1 (wrap64 (x3_1 + 1)) l0_0 a0_1)) else (spec_QueueOk.l0 k1 (wrap64 (x3_1 + 1)) l0_0 a0_1))=some r:=by rw [← hbq22] at H;exact H
   have Nbq22:=Am hbq22
   clear hbq22
   by_cases c23:bq22=true
   rotate_left
   ·replace c23:=Bool.eq_false_iff.mpr c23
    subst c23
    have H1:(spec_QueueOk.l0 k1 (wrap64 (x3_1 + 1)) l0_0 a0_1)=some r:=by rw [if_neg (show ¬ (false=true) by decide)] at H;exact H
    clear H
    have H:=H1
    clear H1
    have H':=Am H
    clear H
    have BT:=cz0 Bc.out
    have BU:=cz1 Bc.out
    have BV:=bF Bc.out 0
    have BW:=bF Bc.out 1
    have p273:0≤(x3_1:Int):=of_decide_eq_true (by first|(with_reducible assumption)|assumption)
    have q273:x3_1<(l0_0.length:Int):=of_decide_eq_true (by first|(with_reducible assumption)|assumption)
    obtain ⟨ad273,e273,hx273_0,hx273_1,hx273_2,hx273_3⟩:=at_T40 HR0_0.out x3_1 p273 q273
    (try rw [← Nbq22.out] at hx273_3)
    cases e273
    replace hx273_0:=(bW HB hx273_0:)
    replace hx273_1:=(bW HB hx273_1:)
    replace hx273_2:=(bW HB hx273_2:)
    replace hx273_3:=(bW HB hx273_3:)
    replace p273:=eq_true p273
    replace q273:=eq_true q273
    try go_wp2_with (first|((with_reducible refine gate_dst (N:=4) rfl ?_);refine box_event ?hg (N:=4) ?hd (cs:=#[.int .i64 0,.int .i64 0,.int .i64 0,.bool false]) (t:=40) ?hr ?_;(case hd=>rfl);(case hg=>rfl);(case hr=>first|(go_simp;done)|(go_simp;rfl));intro Bb hg w38 hbox hb;have n0_:=Am (bX Bc.out hb);have n1_:=Am (bP (by repeat (first|(with_reducible first|exact HB.out|apply oA|apply pN|apply o1|refine bS ?_ Be.out)|exact HB.out)) hb);have n2_:=Am (hbox);have n3_:=Am ((by rw [hg];exact (bZ (by repeat (first|(with_reducible first|exact HB.out|apply oA|apply pN|apply o1|refine bS ?_ Be.out)|exact HB.out))):w.heap.size≤Bb));have n4_:=Am ((by rw [hg];exact (bZ (by repeat (first|(with_reducible first|exact HB.out|apply oA|apply pN|apply o1|refine bS ?_ Be.out)|exact HB.out))):w.heap.size≤Bb));have n5_:=Am ((nL Bc.out hg));have n6_:=Am ((nG Bc.out hg));clear Bc HB;revert n0_ n1_ n2_ n3_ n4_ n5_ n6_;intro Bc HB Ba Bi Bh Bf Bg;clear hb hbox hg;have Fv:=Bg.out;have Fw:=Bf.out;have BX:=cz0 Ba.out;have BY:=cz1 Ba.out;have BZ:=cz2 Ba.out;have B0:=cz3 Ba.out;have B1:=bF Ba.out 0;have B2:=bF Ba.out 1;have B3:=bF Ba.out 2;have B4:=bF Ba.out 3))
    have n0_:Aside0 (((((w38.setCell ⟨Bb,0,none⟩ (.int .i64 ((rd_T40 l0_0 x3_1).f0))).setCell ⟨Bb,1,none⟩ (.int .i64 ((rd_T40 l0_0 x3_1).f1))).setCell ⟨Bb,2,none⟩ (.int .i64 ((rd_T40 l0_0 x3_1).f2))).setCell ⟨Bb,3,none⟩ (.bool false)).heap[Bd]?=some (.cells #[.slice (some ad273) l0_0.length c0_0,.int .i64 a0_1] 25 (0,0))):=⟨by (with_reducible repeat (first|refine bN ?_ _|refine bD ?_|refine bA ?_ _|refine blk_far ?_ Bf.out _));exact Bc.out⟩
    have n1_:Aside0 (((((w38.setCell ⟨Bb,0,none⟩ (.int .i64 ((rd_T40 l0_0 x3_1).f0))).setCell ⟨Bb,1,none⟩ (.int .i64 ((rd_T40 l0_0 x3_1).f1))).setCell ⟨Bb,2,none⟩ (.int .i64 ((rd_T40 l0_0 x3_1).f2))).setCell ⟨Bb,3,none⟩ (.bool false)).heap[Bb]?=some (.cells #[.int .i64 ((rd_T40 l0_0 x3_1).f0),.int .i64 ((rd_T40 l0_0 x3_1).f1),.int .i64 ((rd_T40 l0_0 x3_1).f2),.bool false] 40 (0,0))):=⟨by (with_reducible repeat (first|refine bN ?_ _|refine bD ?_|refine bA ?_ _));refine blk_put (cs:=#[.int .i64 ((rd_T40 l0_0 x3_1).f0),.int .i64 ((rd_T40 l0_0 x3_1).f1),.int .i64 ((rd_T40 l0_0 x3_1).f2),.bool false]) ?_ 3 _ rfl;(with_reducible repeat (first|refine bN ?_ _|refine bD ?_|refine bA ?_ _));refine blk_put (cs:=#[.int .i64 ((rd_T40 l0_0 x3_1).f0),.int .i64 ((rd_T40 l0_0 x3_1).f1),.int .i64 0,.bool false]) ?_ 2 _ rfl;(with_reducible repeat (first|refine bN ?_ _|refine bD ?_|refine bA ?_ _));refine blk_put (cs:=#[.int .i64 ((rd_T40 l0_0 x3_1).f0),.int .i64 0,.int .i64 0,.bool false]) ?_ 1 _ rfl;(with_reducible repeat (first|refine bN ?_ _|refine bD ?_|refine bA ?_ _));refine blk_put (cs:=#[.int .i64 0,.int .i64 0,.int .i64 0,.bool false]) ?_ 0 _ rfl;(with_reducible repeat (first|refine bN ?_ _|refine bD ?_|refine bA ?_ _));exact Ba.out⟩
    have n2_:Aside0 (Below w.heap.size w ((((w38.setCell ⟨Bb,0,none⟩ (.int .i64 ((rd_T40 l0_0 x3_1).f0))).setCell ⟨Bb,1,none⟩ (.int .i64 ((rd_T40 l0_0 x3_1).f1))).setCell ⟨Bb,2,none⟩ (.int .i64 ((rd_T40 l0_0 x3_1).f2))).setCell ⟨Bb,3,none⟩ (.bool false))):=⟨by repeat (first|(with_reducible first|exact HB.out|apply oA|apply pN|apply o1|refine bS ?_ Be.out|refine bS ?_ Bh.out)|exact HB.out)⟩
    (try clear Bc)
    (try clear Ba)
    (try clear HB)
    generalize ((((w38.setCell ⟨Bb,0,none⟩ (.int .i64 ((rd_T40 l0_0 x3_1).f0))).setCell ⟨Bb,1,none⟩ (.int .i64 ((rd_T40 l0_0 x3_1).f1))).setCell ⟨Bb,2,none⟩ (.int .i64 ((rd_T40 l0_0 x3_1).f2))).setCell ⟨Bb,3,none⟩ (.bool false))=w41 at n0_ n1_ n2_ ⊢
    have Bc:=n0_
    have Ba:=n1_
    have HB:=n2_
    clear n0_ n1_ n2_
    have n0_:=Am (bD Bc.out)
    have n1_:=Am (bD Ba.out)
    have n2_:=Am (o1 HB.out)
    clear Bc
    clear Ba
    clear HB
    have Bc:=n0_
    have Ba:=n1_
    have HB:=n2_
    clear n0_ n1_ n2_
    have p278:0≤((ji12):Int):=of_decide_eq_true (by first|(with_reducible assumption)|assumption)
    have q278:(ji12)<(l0_0.length:Int):=of_decide_eq_true (by first|(with_reducible assumption)|assumption)
    obtain ⟨ad278,e278,hx278_0,hx278_1,hx278_2,hx278_3⟩:=at_T40 HR0_0.out (ji12) p278 q278
    have hw278_3:=hx278_3
    have hw278_2:=hx278_2
    have hw278_1:=hx278_1
    have hw278_0:=hx278_0
    (try rw [← Nbq22.out] at hx278_3)
    obtain rfl:ad273=ad278:=(by injection e278)
    replace hx278_0:=(bW HB hx278_0:)
    replace hx278_1:=(bW HB hx278_1:)
    replace hx278_2:=(bW HB hx278_2:)
    replace hx278_3:=(bW HB hx278_3:)
    replace p278:=eq_true p278
    replace q278:=eq_true q278
    refine start_ (n:=43) (S:=fun w'=>w'.cell? ⟨Bb,0,none⟩=some (.int .i64 ((rd_T40 l0_0 x3_1).f0))∧w'.cell? ⟨Bb,1,none⟩=some (.int .i64 ((rd_T40 l0_0 x3_1).f1))∧w'.cell? ⟨Bb,2,none⟩=some (.int .i64 ((rd_T40 l0_0 x3_1).f2))∧w'.cell? ⟨Bb,3,none⟩=some (.bool false)∧w'.cell? ⟨Bd,0,none⟩=some (.slice (some ad273) l0_0.length c0_0)∧w'.cell? ⟨Bd,1,none⟩=some (.int .i64 a0_1)∧w'.cell? (ad273.add (((ji12)).toNat * 4))=some (.int .i64 ((rd_T40 l0_0 (ji12)).f0))∧w'.cell? ⟨(ad273.add (((ji12)).toNat * 4)).block,(ad273.add (((ji12)).toNat * 4)).off + 1,none⟩=some (.int .i64 ((rd_T40 l0_0 (ji12)).f1))∧w'.cell? ⟨(ad273.add (((ji12)).toNat * 4)).block,(ad273.add (((ji12)).toNat * 4)).off + 2,none⟩=some (.int .i64 ((rd_T40 l0_0 (ji12)).f2))∧w'.cell? ⟨(ad273.add (((ji12)).toNat * 4)).block,(ad273.add (((ji12)).toNat * 4)).off + 3,none⟩=some (.bool ((rd_T40 l0_0 (ji12)).f3))) (ds:=[]) z18q0 (by kernel_rfl) rfl rfl ⟨(bC Ba.out 0).trans rfl,(bC Ba.out 1).trans rfl,(bC Ba.out 2).trans rfl,(bC Ba.out 3).trans rfl,(bC Bc.out 0).trans rfl,(bC Bc.out 1).trans rfl,(bW HB hw278_0:),(bW HB hw278_1:),(bW HB hw278_2:),(bW HB hw278_3:)⟩ (fun hHeld=>?_);refine with_st spec_QueueOk.tab5 spec_QueueOk.bits5 (fun _ _ _ _ _ h=>h) (fun HT_=>?_)
    generalize w41.drew=w42 at Bc Ba HB hx278_0 hx278_1 hx278_2 hx278_3 hHeld ⊢
    refine pS 0 17 z18q1 HT_ rfl rfl (by kernel_rfl) (by rfl) (by intro w';go_simp;with_reducible rfl) (by simp only [Act.put,lA,lZ,lS,iw,jw];rfl) ?_
    refine tS 1 18 z18q2 HT_ hHeld rfl rfl (by kernel_rfl) (by rfl) (by rintro w' ⟨s0,s1,s2,s3,s4,s5,s6,s7,s8,s9⟩;go_simp;with_reducible rfl) (by simp only [Act.put,lA,lZ,lS,iw,jw];rfl) ?_
    refine oS 2 19 z18q3 HT_ rfl rfl (by kernel_rfl) (by decide) (fun K hK=>?_)
    refine goes_ Try.func42 (by kernel_rfl) rfl #[.int .i64 ((rd_T40 l0_0 x3_1).f0),.int .i64 0,.int .i64 99] (by rfl) rfl rfl (by (try simp only [lM,lC,lN]);first|done|rfl|(simp only [lD,lT];rfl)) ?_
    with_reducible refine (spec_l6In.calls ((rd_T40 l0_0 x3_1).f0) 0 99 true _ A5.out).mono ?_
    rintro e w' ⟨rfl,⟨nd,rfl⟩⟩
    refine ⟨_,rfl,?_⟩
    refine hK.out _ _ ⟨(bC Ba.out 0).trans rfl,(bC Ba.out 1).trans rfl,(bC Ba.out 2).trans rfl,(bC Ba.out 3).trans rfl,(bC Bc.out 0).trans rfl,(bC Bc.out 1).trans rfl,(bW HB hw278_0:),(bW HB hw278_1:),(bW HB hw278_2:),(bW HB hw278_3:)⟩ (fun hHeld=>?_)
    clear hK K
    refine norm_ (by show Act.put _ (some 19) _=_;simp only [Act.put,lA,lZ,lS,iw,jw];rfl) ?_
    refine pS 3 20 z18q4 HT_ rfl rfl (by kernel_rfl) (by rfl) (by intro w';go_simp;with_reducible rfl) (by simp only [Act.put,lA,lZ,lS,iw,jw];rfl) ?_
    refine pS 4 21 z18q5 HT_ rfl rfl (by kernel_rfl) (by rfl) (by intro w';go_simp;with_reducible rfl) (by simp only [Act.put,lA,lZ,lS,iw,jw];rfl) ?_
    refine pS 5 22 z18q6 HT_ rfl rfl (by kernel_rfl) (by rfl) (by intro w';go_simp;with_reducible rfl) (by simp only [Act.put,lA,lZ,lS,iw,jw];rfl) ?_
    refine tS 6 23 z18q7 HT_ hHeld rfl rfl (by kernel_rfl) (by rfl) (by rintro w' ⟨s0,s1,s2,s3,s4,s5,s6,s7,s8,s9⟩;go_simp;with_reducible rfl) (by simp only [Act.put,lA,lZ,lS,iw,jw];rfl) ?_
    refine oS 7 24 z18q8 HT_ rfl rfl (by kernel_rfl) (by decide) (fun K hK=>?_)
    refine goes_ Try.func42 (by kernel_rfl) rfl #[.int .i64 ((rd_T40 l0_0 x3_1).f1),.int .i64 1,.int .i64 6] (by rfl) rfl rfl (by (try simp only [lM,lC,lN]);first|done|rfl|(simp only [lD,lT];rfl)) ?_
    with_reducible refine (spec_l6In.calls ((rd_T40 l0_0 x3_1).f1) 1 6 true _ A7.out).mono ?_
    rintro e w' ⟨rfl,⟨nd,rfl⟩⟩
    refine ⟨_,rfl,?_⟩
    refine hK.out _ _ ⟨(bC Ba.out 0).trans rfl,(bC Ba.out 1).trans rfl,(bC Ba.out 2).trans rfl,(bC Ba.out 3).trans rfl,(bC Bc.out 0).trans rfl,(bC Bc.out 1).trans rfl,(bW HB hw278_0:),(bW HB hw278_1:),(bW HB hw278_2:),(bW HB hw278_3:)⟩ (fun hHeld=>?_)
    clear hK K
    refine norm_ (by show Act.put _ (some 24) _=_;simp only [Act.put,lA,lZ,lS,iw,jw];rfl) ?_
    refine pS 8 25 z18q9 HT_ rfl rfl (by kernel_rfl) (by rfl) (by intro w';go_simp;with_reducible rfl) (by simp only [Act.put,lA,lZ,lS,iw,jw];rfl) ?_
    refine pS 9 26 z18q10 HT_ rfl rfl (by kernel_rfl) (by rfl) (by intro w';go_simp;with_reducible rfl) (by simp only [Act.put,lA,lZ,lS,iw,jw];rfl) ?_
    refine pS 10 27 z18q11 HT_ rfl rfl (by kernel_rfl) (by rfl) (by intro w';go_simp;with_reducible rfl) (by simp only [Act.put,lA,lZ,lS,iw,jw];rfl) ?_
    refine pS 11 28 z18q12 HT_ rfl rfl (by kernel_rfl) (by rfl) (by intro w';go_simp;with_reducible rfl) (by simp only [Act.put,lA,lZ,lS,iw,jw];rfl) ?_
    refine tS 12 29 z18q13 HT_ hHeld rfl rfl (by kernel_rfl) (by rfl) (by rintro w' ⟨s0,s1,s2,s3,s4,s5,s6,s7,s8,s9⟩;go_simp;with_reducible rfl) (by simp only [Act.put,lA,lZ,lS,iw,jw];rfl) ?_
    refine oS 13 30 z18q14 HT_ rfl rfl (by kernel_rfl) (by decide) (fun K hK=>?_)
    refine goes_ Try.func42 (by kernel_rfl) rfl #[.int .i64 ((rd_T40 l0_0 x3_1).f2),.int .i64 0,.int .i64 1000000] (by rfl) rfl rfl (by (try simp only [lM,lC,lN]);first|done|rfl|(simp only [lD,lT];rfl)) ?_
    with_reducible refine (spec_l6In.calls ((rd_T40 l0_0 x3_1).f2) 0 1000000 true _ A9.out).mono ?_
    rintro e w' ⟨rfl,⟨nd,rfl⟩⟩
    refine ⟨_,rfl,?_⟩
    refine hK.out _ _ ⟨(bC Ba.out 0).trans rfl,(bC Ba.out 1).trans rfl,(bC Ba.out 2).trans rfl,(bC Ba.out 3).trans rfl,(bC Bc.out 0).trans rfl,(bC Bc.out 1).trans rfl,(bW HB hw278_0:),(bW HB hw278_1:),(bW HB hw278_2:),(bW HB hw278_3:)⟩ (fun hHeld=>?_)
    clear hK K
    refine norm_ (by show Act.put _ (some 30) _=_;simp only [Act.put,lA,lZ,lS,iw,jw];rfl) ?_
    refine pS 14 31 z18q15 HT_ rfl rfl (by kernel_rfl) (by rfl) (by intro w';go_simp;with_reducible rfl) (by simp only [Act.put,lA,lZ,lS,iw,jw];rfl) ?_
    refine pS 15 32 z18q16 HT_ rfl rfl (by kernel_rfl) (by rfl) (by intro w';go_simp;with_reducible rfl) (by simp only [Act.put,lA,lZ,lS,iw,jw];rfl) ?_
    refine pS 16 33 z18q17 HT_ rfl rfl (by kernel_rfl) (by rfl) (by intro w';go_simp;with_reducible rfl) (by simp only [Act.put,lA,lZ,lS,iw,jw];rfl) ?_
    refine pS 17 34 z18q18 HT_ rfl rfl (by kernel_rfl) (by rfl) (by intro w';go_simp;with_reducible rfl) (by simp only [Act.put,lA,lZ,lS,iw,jw];rfl) ?_
    refine pS 18 35 z18q19 HT_ rfl rfl (by kernel_rfl) (by rfl) (by intro w';go_simp;with_reducible rfl) (by simp only [Act.put,lA,lZ,lS,iw,jw];rfl) ?_
    refine pS 19 36 z18q20 HT_ rfl rfl (by kernel_rfl) (by rfl) (by intro w';go_simp;with_reducible rfl) (by simp only [Act.put,lA,lZ,lS,iw,jw];rfl) ?_
    refine pS 20 37 z18q21 HT_ rfl rfl (by kernel_rfl) (by rfl) (by intro w';go_simp;with_reducible rfl) (by simp only [Act.put,lA,lZ,lS,iw,jw];rfl) ?_
    refine pS 22 39 z18q22 HT_ rfl rfl (by kernel_rfl) (by rfl) (by intro w';go_simp;with_reducible rfl) (by simp only [Act.put,lA,lZ,lS,iw,jw];rfl) ?_
    refine pS 23 40 z18q23 HT_ rfl rfl (by kernel_rfl) (by rfl) (by intro w';go_simp;with_reducible rfl) (by simp only [Act.put,lA,lZ,lS,iw,jw];rfl) ?_
    refine pS 27 44 z18q24 HT_ rfl rfl (by kernel_rfl) (by rfl) (by intro w';go_simp;with_reducible rfl) (by simp only [Act.put,lA,lZ,lS,iw,jw];rfl) ?_
    refine tS 21 38 z18q25 HT_ hHeld rfl rfl (by kernel_rfl) (by rfl) (by rintro w' ⟨s0,s1,s2,s3,s4,s5,s6,s7,s8,s9⟩;go_simp;with_reducible rfl) (by simp only [Act.put,lA,lZ,lS,iw,jw];rfl) ?_
    refine pS 24 41 z18q26 HT_ rfl rfl (by kernel_rfl) (by rfl) (by intro w';go_simp;with_reducible rfl) (by simp only [Act.put,lA,lZ,lS,iw,jw];rfl) ?_
    refine pS 25 42 z18q27 HT_ rfl rfl (by kernel_rfl) (by rfl) (by intro w';go_simp;with_reducible rfl) (by simp only [Act.put,lA,lZ,lS,iw,jw];rfl) ?_
    refine tS 26 43 z18q28 HT_ hHeld rfl rfl (by kernel_rfl) (by rfl) (by rintro w' ⟨s0,s1,s2,s3,s4,s5,s6,s7,s8,s9⟩;go_simp;with_reducible rfl) (by simp only [Act.put,lA,lZ,lS,iw,jw];rfl) ?_
    refine tS 28 45 z18q29 HT_ hHeld rfl rfl (by kernel_rfl) (by rfl) (by rintro w' ⟨s0,s1,s2,s3,s4,s5,s6,s7,s8,s9⟩;go_simp;with_reducible rfl) (by simp only [Act.put,lA,lZ,lS,iw,jw];rfl) ?_
    refine pS 29 46 z18q30 HT_ rfl rfl (by kernel_rfl) (by rfl) (by intro w';go_simp;with_reducible rfl) (by simp only [Act.put,lA,lZ,lS,iw,jw];rfl) ?_
    refine pS 30 47 z18q31 HT_ rfl rfl (by kernel_rfl) (by rfl) (by intro w';go_simp;with_reducible rfl) (by simp only [Act.put,lA,lZ,lS,iw,jw];rfl) ?_
    refine pS 31 48 z18q32 HT_ rfl rfl (by kernel_rfl) (by rfl) (by intro w';go_simp;with_reducible rfl) (by simp only [Act.put,lA,lZ,lS,iw,jw];rfl) ?_
    refine pS 32 49 z18q33 HT_ rfl rfl (by kernel_rfl) (by rfl) (by intro w';go_simp;with_reducible rfl) (by simp only [Act.put,lA,lZ,lS,iw,jw];rfl) ?_
    refine pS 33 50 z18q34 HT_ rfl rfl (by kernel_rfl) (by rfl) (by intro w';go_simp;with_reducible rfl) (by simp only [Act.put,lA,lZ,lS,iw,jw];rfl) ?_
    refine tS 34 51 z18q35 HT_ hHeld rfl rfl (by kernel_rfl) (by rfl) (by rintro w' ⟨s0,s1,s2,s3,s4,s5,s6,s7,s8,s9⟩;go_simp;with_reducible rfl) (by simp only [Act.put,lA,lZ,lS,iw,jw];rfl) ?_
    refine pS 35 52 z18q36 HT_ rfl rfl (by kernel_rfl) (by rfl) (by intro w';go_simp;with_reducible rfl) (by simp only [Act.put,lA,lZ,lS,iw,jw];rfl) ?_
    refine vS 36 53 z18q37 HT_ rfl rfl (by kernel_rfl) (by rfl) (by simp only [Act.put,lA,lZ,lS,iw,jw];rfl) ?_
    refine vS 37 54 z18q38 HT_ rfl rfl (by kernel_rfl) (by rfl) (by simp only [Act.put,lA,lZ,lS,iw,jw];rfl) ?_
    refine vS 38 55 z18q39 HT_ rfl rfl (by kernel_rfl) (by rfl) (by simp only [Act.put,lA,lZ,lS,iw,jw];rfl) ?_
    refine vS 39 56 z18q40 HT_ rfl rfl (by kernel_rfl) (by rfl) (by simp only [Act.put,lA,lZ,lS,iw,jw];rfl) ?_
    refine vS 40 57 z18q41 HT_ rfl rfl (by kernel_rfl) (by rfl) (by simp only [Act.put,lA,lZ,lS,iw,jw];rfl) ?_
    refine pS 41 58 z18q42 HT_ rfl rfl (by kernel_rfl) (by rfl) (by intro w';go_simp;with_reducible rfl) (by simp only [Act.put,lA,lZ,lS,iw,jw];rfl) ?_
    refine pS 42 59 z18q43 HT_ rfl rfl (by kernel_rfl) (by rfl) (by intro w';go_simp;with_reducible rfl) (by simp only [Act.put,lA,lZ,lS,iw,jw];rfl) ?_
    refine done_ (done_of HT_.out (by kernel_rfl)) ?_
    try go_wp2
    go_roundg k1
    case measure=>have:=HK1.out;omega
    case rel=>exact ⟨(wrap64 (x3_1 + 1)),(by first|rfl|(simp;done)|(simp [*];done)),H',⟨by have:=HK1.out;omega⟩,⟨by (with_reducible repeat (first|refine bN ?_ _|refine bD ?_|refine bA ?_ _));exact Bc.out⟩,⟨by repeat (first|(with_reducible first|exact HB.out|apply oA|apply pN|apply o1|refine bS ?_ Be.out|refine bS ?_ Bh.out)|exact HB.out)⟩⟩
   subst c23
   have H1:(if ((rd_T40 l0_0 x3_1).f2)<a0_1 then (some false) else (spec_QueueOk.l0 k1 (wrap64 (x3_1 + 1)) l0_0 a0_1))=some r:=by rw [if_pos rfl] at H;exact H
   clear H
   have H:=H1
   clear H1
   by_cases c24:((rd_T40 l0_0 x3_1).f2)<a0_1
   ·rw [if_pos c24] at H
    have c24b0:decide (((rd_T40 l0_0 x3_1).f2)<a0_1)=true:=decide_eq_true c24
    clear c24
    obtain rfl:=Option.some.inj H
    have Bv:=cz0 Bc.out
    have Bw:=cz1 Bc.out
    have Bx:=bF Bc.out 0
    have By:=bF Bc.out 1
    have p273:0≤(x3_1:Int):=of_decide_eq_true (by first|(with_reducible assumption)|assumption)
    have q273:x3_1<(l0_0.length:Int):=of_decide_eq_true (by first|(with_reducible assumption)|assumption)
    obtain ⟨ad273,e273,hx273_0,hx273_1,hx273_2,hx273_3⟩:=at_T40 HR0_0.out x3_1 p273 q273
    (try rw [← Nbq22.out] at hx273_3)
    cases e273
    replace hx273_0:=(bW HB hx273_0:)
    replace hx273_1:=(bW HB hx273_1:)
    replace hx273_2:=(bW HB hx273_2:)
    replace hx273_3:=(bW HB hx273_3:)
    replace p273:=eq_true p273
    replace q273:=eq_true q273
    try go_wp2_with (first|((with_reducible refine gate_dst (N:=4) rfl ?_);refine box_event ?hg (N:=4) ?hd (cs:=#[.int .i64 0,.int .i64 0,.int .i64 0,.bool false]) (t:=40) ?hr ?_;(case hd=>rfl);(case hg=>rfl);(case hr=>first|(go_simp;done)|(go_simp;rfl));intro Bb hg w26 hbox hb;have n0_:=Am (bX Bc.out hb);have n1_:=Am (bP (by repeat (first|(with_reducible first|exact HB.out|apply oA|apply pN|apply o1|refine bS ?_ Be.out)|exact HB.out)) hb);have n2_:=Am (hbox);have n3_:=Am ((by rw [hg];exact (bZ (by repeat (first|(with_reducible first|exact HB.out|apply oA|apply pN|apply o1|refine bS ?_ Be.out)|exact HB.out))):w.heap.size≤Bb));have n4_:=Am ((by rw [hg];exact (bZ (by repeat (first|(with_reducible first|exact HB.out|apply oA|apply pN|apply o1|refine bS ?_ Be.out)|exact HB.out))):w.heap.size≤Bb));have n5_:=Am ((nL Bc.out hg));have n6_:=Am ((nG Bc.out hg));clear Bc HB;revert n0_ n1_ n2_ n3_ n4_ n5_ n6_;intro Bc HB Ba Bi Bh Bf Bg;clear hb hbox hg;have Fr:=Bg.out;have Fs:=Bf.out;have Bz:=cz0 Ba.out;have BA:=cz1 Ba.out;have BB:=cz2 Ba.out;have BC:=cz3 Ba.out;have BD:=bF Ba.out 0;have BE:=bF Ba.out 1;have BF:=bF Ba.out 2;have BG:=bF Ba.out 3))
    have n0_:Aside0 (((((w26.setCell ⟨Bb,0,none⟩ (.int .i64 ((rd_T40 l0_0 x3_1).f0))).setCell ⟨Bb,1,none⟩ (.int .i64 ((rd_T40 l0_0 x3_1).f1))).setCell ⟨Bb,2,none⟩ (.int .i64 ((rd_T40 l0_0 x3_1).f2))).setCell ⟨Bb,3,none⟩ (.bool true)).heap[Bd]?=some (.cells #[.slice (some ad273) l0_0.length c0_0,.int .i64 a0_1] 25 (0,0))):=⟨by (with_reducible repeat (first|refine bN ?_ _|refine bD ?_|refine bA ?_ _|refine blk_far ?_ Bf.out _));exact Bc.out⟩
    have n1_:Aside0 (((((w26.setCell ⟨Bb,0,none⟩ (.int .i64 ((rd_T40 l0_0 x3_1).f0))).setCell ⟨Bb,1,none⟩ (.int .i64 ((rd_T40 l0_0 x3_1).f1))).setCell ⟨Bb,2,none⟩ (.int .i64 ((rd_T40 l0_0 x3_1).f2))).setCell ⟨Bb,3,none⟩ (.bool true)).heap[Bb]?=some (.cells #[.int .i64 ((rd_T40 l0_0 x3_1).f0),.int .i64 ((rd_T40 l0_0 x3_1).f1),.int .i64 ((rd_T40 l0_0 x3_1).f2),.bool true] 40 (0,0))):=⟨by (with_reducible repeat (first|refine bN ?_ _|refine bD ?_|refine bA ?_ _));refine blk_put (cs:=#[.int .i64 ((rd_T40 l0_0 x3_1).f0),.int .i64 ((rd_T40 l0_0 x3_1).f1),.int .i64 ((rd_T40 l0_0 x3_1).f2),.bool false]) ?_ 3 _ rfl;(with_reducible repeat (first|refine bN ?_ _|refine bD ?_|refine bA ?_ _));refine blk_put (cs:=#[.int .i64 ((rd_T40 l0_0 x3_1).f0),.int .i64 ((rd_T40 l0_0 x3_1).f1),.int .i64 0,.bool false]) ?_ 2 _ rfl;(with_reducible repeat (first|refine bN ?_ _|refine bD ?_|refine bA ?_ _));refine blk_put (cs:=#[.int .i64 ((rd_T40 l0_0 x3_1).f0),.int .i64 0,.int .i64 0,.bool false]) ?_ 1 _ rfl;(with_reducible repeat (first|refine bN ?_ _|refine bD ?_|refine bA ?_ _));refine blk_put (cs:=#[.int .i64 0,.int .i64 0,.int .i64 0,.bool false]) ?_ 0 _ rfl;(with_reducible repeat (first|refine bN ?_ _|refine bD ?_|refine bA ?_ _));exact Ba.out⟩
    have n2_:Aside0 (Below w.heap.size w ((((w26.setCell ⟨Bb,0,none⟩ (.int .i64 ((rd_T40 l0_0 x3_1).f0))).setCell ⟨Bb,1,none⟩ (.int .i64 ((rd_T40 l0_0 x3_1).f1))).setCell ⟨Bb,2,none⟩ (.int .i64 ((rd_T40 l0_0 x3_1).f2))).setCell ⟨Bb,3,none⟩ (.bool true))):=⟨by repeat (first|(with_reducible first|exact HB.out|apply oA|apply pN|apply o1|refine bS ?_ Be.out|refine bS ?_ Bh.out)|exact HB.out)⟩
    (try clear Bc)
    (try clear Ba)
    (try clear HB)
    generalize ((((w26.setCell ⟨Bb,0,none⟩ (.int .i64 ((rd_T40 l0_0 x3_1).f0))).setCell ⟨Bb,1,none⟩ (.int .i64 ((rd_T40 l0_0 x3_1).f1))).setCell ⟨Bb,2,none⟩ (.int .i64 ((rd_T40 l0_0 x3_1).f2))).setCell ⟨Bb,3,none⟩ (.bool true))=w29 at n0_ n1_ n2_ ⊢
    have Bc:=n0_
    have Ba:=n1_
    have HB:=n2_
    clear n0_ n1_ n2_
    have n0_:=Am (bD Bc.out)
    have n1_:=Am (bD Ba.out)
    have n2_:=Am (o1 HB.out)
    clear Bc
    clear Ba
    clear HB
    have Bc:=n0_
    have Ba:=n1_
    have HB:=n2_
    clear n0_ n1_ n2_
    have p278:0≤((ji12):Int):=of_decide_eq_true (by first|(with_reducible assumption)|assumption)
    have q278:(ji12)<(l0_0.length:Int):=of_decide_eq_true (by first|(with_reducible assumption)|assumption)
    obtain ⟨ad278,e278,hx278_0,hx278_1,hx278_2,hx278_3⟩:=at_T40 HR0_0.out (ji12) p278 q278
    have hw278_3:=hx278_3
    have hw278_2:=hx278_2
    have hw278_1:=hx278_1
    have hw278_0:=hx278_0
    (try rw [← Nbq22.out] at hx278_3)
    obtain rfl:ad273=ad278:=(by injection e278)
    replace hx278_0:=(bW HB hx278_0:)
    replace hx278_1:=(bW HB hx278_1:)
    replace hx278_2:=(bW HB hx278_2:)
    replace hx278_3:=(bW HB hx278_3:)
    replace p278:=eq_true p278
    replace q278:=eq_true q278
    refine start_ (n:=43) (S:=fun w'=>w'.cell? ⟨Bb,0,none⟩=some (.int .i64 ((rd_T40 l0_0 x3_1).f0))∧w'.cell? ⟨Bb,1,none⟩=some (.int .i64 ((rd_T40 l0_0 x3_1).f1))∧w'.cell? ⟨Bb,2,none⟩=some (.int .i64 ((rd_T40 l0_0 x3_1).f2))∧w'.cell? ⟨Bb,3,none⟩=some (.bool true)∧w'.cell? ⟨Bd,0,none⟩=some (.slice (some ad273) l0_0.length c0_0)∧w'.cell? ⟨Bd,1,none⟩=some (.int .i64 a0_1)∧w'.cell? (ad273.add (((ji12)).toNat * 4))=some (.int .i64 ((rd_T40 l0_0 (ji12)).f0))∧w'.cell? ⟨(ad273.add (((ji12)).toNat * 4)).block,(ad273.add (((ji12)).toNat * 4)).off + 1,none⟩=some (.int .i64 ((rd_T40 l0_0 (ji12)).f1))∧w'.cell? ⟨(ad273.add (((ji12)).toNat * 4)).block,(ad273.add (((ji12)).toNat * 4)).off + 2,none⟩=some (.int .i64 ((rd_T40 l0_0 (ji12)).f2))∧w'.cell? ⟨(ad273.add (((ji12)).toNat * 4)).block,(ad273.add (((ji12)).toNat * 4)).off + 3,none⟩=some (.bool ((rd_T40 l0_0 (ji12)).f3))) (ds:=[]) z18q0 (by kernel_rfl) rfl rfl ⟨(bC Ba.out 0).trans rfl,(bC Ba.out 1).trans rfl,(bC Ba.out 2).trans rfl,(bC Ba.out 3).trans rfl,(bC Bc.out 0).trans rfl,(bC Bc.out 1).trans rfl,(bW HB hw278_0:),(bW HB hw278_1:),(bW HB hw278_2:),(bW HB hw278_3:)⟩ (fun hHeld=>?_);refine with_st spec_QueueOk.tab5 spec_QueueOk.bits5 (fun _ _ _ _ _ h=>h) (fun HT_=>?_)
    generalize w29.drew=w30 at Bc Ba HB hx278_0 hx278_1 hx278_2 hx278_3 hHeld ⊢
    refine pS 0 17 z18q1 HT_ rfl rfl (by kernel_rfl) (by rfl) (by intro w';go_simp;with_reducible rfl) (by simp only [Act.put,lA,lZ,lS,iw,jw];rfl) ?_
    refine tS 1 18 z18q2 HT_ hHeld rfl rfl (by kernel_rfl) (by rfl) (by rintro w' ⟨s0,s1,s2,s3,s4,s5,s6,s7,s8,s9⟩;go_simp;with_reducible rfl) (by simp only [Act.put,lA,lZ,lS,iw,jw];rfl) ?_
    refine oS 2 19 z18q3 HT_ rfl rfl (by kernel_rfl) (by decide) (fun K hK=>?_)
    refine goes_ Try.func42 (by kernel_rfl) rfl #[.int .i64 ((rd_T40 l0_0 x3_1).f0),.int .i64 0,.int .i64 99] (by rfl) rfl rfl (by (try simp only [lM,lC,lN]);first|done|rfl|(simp only [lD,lT];rfl)) ?_
    with_reducible refine (spec_l6In.calls ((rd_T40 l0_0 x3_1).f0) 0 99 true _ A5.out).mono ?_
    rintro e w' ⟨rfl,⟨nd,rfl⟩⟩
    refine ⟨_,rfl,?_⟩
    refine hK.out _ _ ⟨(bC Ba.out 0).trans rfl,(bC Ba.out 1).trans rfl,(bC Ba.out 2).trans rfl,(bC Ba.out 3).trans rfl,(bC Bc.out 0).trans rfl,(bC Bc.out 1).trans rfl,(bW HB hw278_0:),(bW HB hw278_1:),(bW HB hw278_2:),(bW HB hw278_3:)⟩ (fun hHeld=>?_)
    clear hK K
    refine norm_ (by show Act.put _ (some 19) _=_;simp only [Act.put,lA,lZ,lS,iw,jw];rfl) ?_
    refine pS 3 20 z18q4 HT_ rfl rfl (by kernel_rfl) (by rfl) (by intro w';go_simp;with_reducible rfl) (by simp only [Act.put,lA,lZ,lS,iw,jw];rfl) ?_
    refine pS 4 21 z18q5 HT_ rfl rfl (by kernel_rfl) (by rfl) (by intro w';go_simp;with_reducible rfl) (by simp only [Act.put,lA,lZ,lS,iw,jw];rfl) ?_
    refine pS 5 22 z18q6 HT_ rfl rfl (by kernel_rfl) (by rfl) (by intro w';go_simp;with_reducible rfl) (by simp only [Act.put,lA,lZ,lS,iw,jw];rfl) ?_
    refine tS 6 23 z18q7 HT_ hHeld rfl rfl (by kernel_rfl) (by rfl) (by rintro w' ⟨s0,s1,s2,s3,s4,s5,s6,s7,s8,s9⟩;go_simp;with_reducible rfl) (by simp only [Act.put,lA,lZ,lS,iw,jw];rfl) ?_
    refine oS 7 24 z18q8 HT_ rfl rfl (by kernel_rfl) (by decide) (fun K hK=>?_)
    refine goes_ Try.func42 (by kernel_rfl) rfl #[.int .i64 ((rd_T40 l0_0 x3_1).f1),.int .i64 1,.int .i64 6] (by rfl) rfl rfl (by (try simp only [lM,lC,lN]);first|done|rfl|(simp only [lD,lT];rfl)) ?_
    with_reducible refine (spec_l6In.calls ((rd_T40 l0_0 x3_1).f1) 1 6 true _ A7.out).mono ?_
    rintro e w' ⟨rfl,⟨nd,rfl⟩⟩
    refine ⟨_,rfl,?_⟩
    refine hK.out _ _ ⟨(bC Ba.out 0).trans rfl,(bC Ba.out 1).trans rfl,(bC Ba.out 2).trans rfl,(bC Ba.out 3).trans rfl,(bC Bc.out 0).trans rfl,(bC Bc.out 1).trans rfl,(bW HB hw278_0:),(bW HB hw278_1:),(bW HB hw278_2:),(bW HB hw278_3:)⟩ (fun hHeld=>?_)
    clear hK K
    refine norm_ (by show Act.put _ (some 24) _=_;simp only [Act.put,lA,lZ,lS,iw,jw];rfl) ?_
    refine pS 8 25 z18q9 HT_ rfl rfl (by kernel_rfl) (by rfl) (by intro w';go_simp;with_reducible rfl) (by simp only [Act.put,lA,lZ,lS,iw,jw];rfl) ?_
    refine pS 9 26 z18q10 HT_ rfl rfl (by kernel_rfl) (by rfl) (by intro w';go_simp;with_reducible rfl) (by simp only [Act.put,lA,lZ,lS,iw,jw];rfl) ?_
    refine pS 10 27 z18q11 HT_ rfl rfl (by kernel_rfl) (by rfl) (by intro w';go_simp;with_reducible rfl) (by simp only [Act.put,lA,lZ,lS,iw,jw];rfl) ?_
    refine pS 11 28 z18q12 HT_ rfl rfl (by kernel_rfl) (by rfl) (by intro w';go_simp;with_reducible rfl) (by simp only [Act.put,lA,lZ,lS,iw,jw];rfl) ?_
    refine tS 12 29 z18q13 HT_ hHeld rfl rfl (by kernel_rfl) (by rfl) (by rintro w' ⟨s0,s1,s2,s3,s4,s5,s6,s7,s8,s9⟩;go_simp;with_reducible rfl) (by simp only [Act.put,lA,lZ,lS,iw,jw];rfl) ?_
    refine oS 13 30 z18q14 HT_ rfl rfl (by kernel_rfl) (by decide) (fun K hK=>?_)
    refine goes_ Try.func42 (by kernel_rfl) rfl #[.int .i64 ((rd_T40 l0_0 x3_1).f2),.int .i64 0,.int .i64 1000000] (by rfl) rfl rfl (by (try simp only [lM,lC,lN]);first|done|rfl|(simp only [lD,lT];rfl)) ?_
    with_reducible refine (spec_l6In.calls ((rd_T40 l0_0 x3_1).f2) 0 1000000 true _ A9.out).mono ?_
    rintro e w' ⟨rfl,⟨nd,rfl⟩⟩
    refine ⟨_,rfl,?_⟩
    refine hK.out _ _ ⟨(bC Ba.out 0).trans rfl,(bC Ba.out 1).trans rfl,(bC Ba.out 2).trans rfl,(bC Ba.out 3).trans rfl,(bC Bc.out 0).trans rfl,(bC Bc.out 1).trans rfl,(bW HB hw278_0:),(bW HB hw278_1:),(bW HB hw278_2:),(bW HB hw278_3:)⟩ (fun hHeld=>?_)
    clear hK K
    refine norm_ (by show Act.put _ (some 30) _=_;simp only [Act.put,lA,lZ,lS,iw,jw];rfl) ?_
    refine pS 14 31 z18q15 HT_ rfl rfl (by kernel_rfl) (by rfl) (by intro w';go_simp;with_reducible rfl) (by simp only [Act.put,lA,lZ,lS,iw,jw];rfl) ?_
    refine pS 15 32 z18q16 HT_ rfl rfl (by kernel_rfl) (by rfl) (by intro w';go_simp;with_reducible rfl) (by simp only [Act.put,lA,lZ,lS,iw,jw];rfl) ?_
    refine pS 16 33 z18q17 HT_ rfl rfl (by kernel_rfl) (by rfl) (by intro w';go_simp;with_reducible rfl) (by simp only [Act.put,lA,lZ,lS,iw,jw];rfl) ?_
    refine pS 17 34 z18q18 HT_ rfl rfl (by kernel_rfl) (by rfl) (by intro w';go_simp;with_reducible rfl) (by simp only [Act.put,lA,lZ,lS,iw,jw];rfl) ?_
    refine pS 18 35 z18q19 HT_ rfl rfl (by kernel_rfl) (by rfl) (by intro w';go_simp;with_reducible rfl) (by simp only [Act.put,lA,lZ,lS,iw,jw];rfl) ?_
    refine pS 19 36 z18q20 HT_ rfl rfl (by kernel_rfl) (by rfl) (by intro w';go_simp;with_reducible rfl) (by simp only [Act.put,lA,lZ,lS,iw,jw];rfl) ?_
    refine pS 20 37 z18q21 HT_ rfl rfl (by kernel_rfl) (by rfl) (by intro w';go_simp;with_reducible rfl) (by simp only [Act.put,lA,lZ,lS,iw,jw];rfl) ?_
    refine pS 22 39 z18q22 HT_ rfl rfl (by kernel_rfl) (by rfl) (by intro w';go_simp;with_reducible rfl) (by simp only [Act.put,lA,lZ,lS,iw,jw];rfl) ?_
    refine pS 23 40 z18q23 HT_ rfl rfl (by kernel_rfl) (by rfl) (by intro w';go_simp;with_reducible rfl) (by simp only [Act.put,lA,lZ,lS,iw,jw];rfl) ?_
    refine pS 27 44 z18q24 HT_ rfl rfl (by kernel_rfl) (by rfl) (by intro w';go_simp;with_reducible rfl) (by simp only [Act.put,lA,lZ,lS,iw,jw];rfl) ?_
    refine tS 21 38 z18q25 HT_ hHeld rfl rfl (by kernel_rfl) (by rfl) (by rintro w' ⟨s0,s1,s2,s3,s4,s5,s6,s7,s8,s9⟩;go_simp;with_reducible rfl) (by simp only [Act.put,lA,lZ,lS,iw,jw];rfl) ?_
    refine pS 24 41 z18q26 HT_ rfl rfl (by kernel_rfl) (by rfl) (by intro w';go_simp;with_reducible rfl) (by simp only [Act.put,lA,lZ,lS,iw,jw];rfl) ?_
    refine pS 25 42 z18q27 HT_ rfl rfl (by kernel_rfl) (by rfl) (by intro w';go_simp;with_reducible rfl) (by simp only [Act.put,lA,lZ,lS,iw,jw];rfl) ?_
    refine tS 26 43 z18q28 HT_ hHeld rfl rfl (by kernel_rfl) (by rfl) (by rintro w' ⟨s0,s1,s2,s3,s4,s5,s6,s7,s8,s9⟩;go_simp;with_reducible rfl) (by simp only [Act.put,lA,lZ,lS,iw,jw];rfl) ?_
    refine tS 28 45 z18q29 HT_ hHeld rfl rfl (by kernel_rfl) (by rfl) (by rintro w' ⟨s0,s1,s2,s3,s4,s5,s6,s7,s8,s9⟩;go_simp;with_reducible rfl) (by simp only [Act.put,lA,lZ,lS,iw,jw];rfl) ?_
    refine pS 29 46 z18q30 HT_ rfl rfl (by kernel_rfl) (by rfl) (by intro w';go_simp;with_reducible rfl) (by simp only [Act.put,lA,lZ,lS,iw,jw];rfl) ?_
    refine pS 30 47 z18q31 HT_ rfl rfl (by kernel_rfl) (by rfl) (by intro w';go_simp;with_reducible rfl) (by simp only [Act.put,lA,lZ,lS,iw,jw];rfl) ?_
    refine pS 31 48 z18q32 HT_ rfl rfl (by kernel_rfl) (by rfl) (by intro w';go_simp;with_reducible rfl) (by simp only [Act.put,lA,lZ,lS,iw,jw];rfl) ?_
    refine pS 32 49 z18q33 HT_ rfl rfl (by kernel_rfl) (by rfl) (by intro w';go_simp;with_reducible rfl) (by simp only [Act.put,lA,lZ,lS,iw,jw];rfl) ?_
    refine pS 33 50 z18q34 HT_ rfl rfl (by kernel_rfl) (by rfl) (by intro w';go_simp;with_reducible rfl) (by simp only [Act.put,lA,lZ,lS,iw,jw];rfl) ?_
    refine tS 34 51 z18q35 HT_ hHeld rfl rfl (by kernel_rfl) (by rfl) (by rintro w' ⟨s0,s1,s2,s3,s4,s5,s6,s7,s8,s9⟩;go_simp;with_reducible rfl) (by simp only [Act.put,lA,lZ,lS,iw,jw];rfl) ?_
    refine pS 35 52 z18q36 HT_ rfl rfl (by kernel_rfl) (by rfl) (by intro w';go_simp;with_reducible rfl) (by simp only [Act.put,lA,lZ,lS,iw,jw];rfl) ?_
    refine pS 36 53 z18q37 HT_ rfl rfl (by kernel_rfl) (by rfl) (by intro w';go_simp;with_reducible rfl) (by simp only [Act.put,lA,lZ,lS,iw,jw];rfl) ?_
    refine pS 38 55 z18q44 HT_ rfl rfl (by kernel_rfl) (by rfl) (by intro w';go_simp;with_reducible rfl) (by simp only [Act.put,lA,lZ,lS,iw,jw];rfl) ?_
    refine tS 37 54 z18q39 HT_ hHeld rfl rfl (by kernel_rfl) (by rfl) (by rintro w' ⟨s0,s1,s2,s3,s4,s5,s6,s7,s8,s9⟩;go_simp;with_reducible rfl) (by simp only [Act.put,lA,lZ,lS,iw,jw];rfl) ?_
    refine tS 39 56 z18q40 HT_ hHeld rfl rfl (by kernel_rfl) (by rfl) (by rintro w' ⟨s0,s1,s2,s3,s4,s5,s6,s7,s8,s9⟩;go_simp;with_reducible rfl) (by simp only [Act.put,lA,lZ,lS,iw,jw];rfl) ?_
    refine pS 40 57 z18q41 HT_ rfl rfl (by kernel_rfl) (by rfl) (by intro w';go_simp;with_reducible rfl) (by simp only [Act.put,lA,lZ,lS,iw,jw];rfl) ?_
    refine pS 41 58 z18q42 HT_ rfl rfl (by kernel_rfl) (by rfl) (by intro w';go_simp;with_reducible rfl) (by simp only [Act.put,lA,lZ,lS,iw,jw];rfl) ?_
    refine pS 42 59 z18q43 HT_ rfl rfl (by kernel_rfl) (by rfl) (by intro w';go_simp;with_reducible rfl) (by simp only [Act.put,lA,lZ,lS,iw,jw];rfl) ?_
    refine done_ (done_of HT_.out (by kernel_rfl)) ?_
    try go_wp2
    go_ret
    exact ⟨by first|rfl|(simp [errW_none,errW_some] <;> rfl)|(simp only [← hji12];first|rfl|(simp [errW_none,errW_some] <;> rfl))|(simp [*,errW_none,errW_some] <;> rfl),by repeat (first|(with_reducible first|exact HB.out|apply oA|apply pN|apply o1|refine bS ?_ Be.out|refine bS ?_ Bh.out)|exact HB.out)⟩
   rw [if_neg c24] at H
   have c24b0:decide (((rd_T40 l0_0 x3_1).f2)<a0_1)=false:=decide_eq_false c24
   clear c24
   have H':=Am H
   clear H
   have BH:=cz0 Bc.out
   have BI:=cz1 Bc.out
   have BJ:=bF Bc.out 0
   have BK:=bF Bc.out 1
   have p273:0≤(x3_1:Int):=of_decide_eq_true (by first|(with_reducible assumption)|assumption)
   have q273:x3_1<(l0_0.length:Int):=of_decide_eq_true (by first|(with_reducible assumption)|assumption)
   obtain ⟨ad273,e273,hx273_0,hx273_1,hx273_2,hx273_3⟩:=at_T40 HR0_0.out x3_1 p273 q273
   (try rw [← Nbq22.out] at hx273_3)
   cases e273
   replace hx273_0:=(bW HB hx273_0:)
   replace hx273_1:=(bW HB hx273_1:)
   replace hx273_2:=(bW HB hx273_2:)
   replace hx273_3:=(bW HB hx273_3:)
   replace p273:=eq_true p273
   replace q273:=eq_true q273
   try go_wp2_with (first|((with_reducible refine gate_dst (N:=4) rfl ?_);refine box_event ?hg (N:=4) ?hd (cs:=#[.int .i64 0,.int .i64 0,.int .i64 0,.bool false]) (t:=40) ?hr ?_;(case hd=>rfl);(case hg=>rfl);(case hr=>first|(go_simp;done)|(go_simp;rfl));intro Bb hg w32 hbox hb;have n0_:=Am (bX Bc.out hb);have n1_:=Am (bP (by repeat (first|(with_reducible first|exact HB.out|apply oA|apply pN|apply o1|refine bS ?_ Be.out)|exact HB.out)) hb);have n2_:=Am (hbox);have n3_:=Am ((by rw [hg];exact (bZ (by repeat (first|(with_reducible first|exact HB.out|apply oA|apply pN|apply o1|refine bS ?_ Be.out)|exact HB.out))):w.heap.size≤Bb));have n4_:=Am ((by rw [hg];exact (bZ (by repeat (first|(with_reducible first|exact HB.out|apply oA|apply pN|apply o1|refine bS ?_ Be.out)|exact HB.out))):w.heap.size≤Bb));have n5_:=Am ((nL Bc.out hg));have n6_:=Am ((nG Bc.out hg));clear Bc HB;revert n0_ n1_ n2_ n3_ n4_ n5_ n6_;intro Bc HB Ba Bi Bh Bf Bg;clear hb hbox hg;have Ft:=Bg.out;have Fu:=Bf.out;have BL:=cz0 Ba.out;have BM:=cz1 Ba.out;have BN:=cz2 Ba.out;have BO:=cz3 Ba.out;have BP:=bF Ba.out 0;have BQ:=bF Ba.out 1;have BR:=bF Ba.out 2;have BS:=bF Ba.out 3))
   have n0_:Aside0 (((((w32.setCell ⟨Bb,0,none⟩ (.int .i64 ((rd_T40 l0_0 x3_1).f0))).setCell ⟨Bb,1,none⟩ (.int .i64 ((rd_T40 l0_0 x3_1).f1))).setCell ⟨Bb,2,none⟩ (.int .i64 ((rd_T40 l0_0 x3_1).f2))).setCell ⟨Bb,3,none⟩ (.bool true)).heap[Bd]?=some (.cells #[.slice (some ad273) l0_0.length c0_0,.int .i64 a0_1] 25 (0,0))):=⟨by (with_reducible repeat (first|refine bN ?_ _|refine bD ?_|refine bA ?_ _|refine blk_far ?_ Bf.out _));exact Bc.out⟩
   have n1_:Aside0 (((((w32.setCell ⟨Bb,0,none⟩ (.int .i64 ((rd_T40 l0_0 x3_1).f0))).setCell ⟨Bb,1,none⟩ (.int .i64 ((rd_T40 l0_0 x3_1).f1))).setCell ⟨Bb,2,none⟩ (.int .i64 ((rd_T40 l0_0 x3_1).f2))).setCell ⟨Bb,3,none⟩ (.bool true)).heap[Bb]?=some (.cells #[.int .i64 ((rd_T40 l0_0 x3_1).f0),.int .i64 ((rd_T40 l0_0 x3_1).f1),.int .i64 ((rd_T40 l0_0 x3_1).f2),.bool true] 40 (0,0))):=⟨by (with_reducible repeat (first|refine bN ?_ _|refine bD ?_|refine bA ?_ _));refine blk_put (cs:=#[.int .i64 ((rd_T40 l0_0 x3_1).f0),.int .i64 ((rd_T40 l0_0 x3_1).f1),.int .i64 ((rd_T40 l0_0 x3_1).f2),.bool false]) ?_ 3 _ rfl;(with_reducible repeat (first|refine bN ?_ _|refine bD ?_|refine bA ?_ _));refine blk_put (cs:=#[.int .i64 ((rd_T40 l0_0 x3_1).f0),.int .i64 ((rd_T40 l0_0 x3_1).f1),.int .i64 0,.bool false]) ?_ 2 _ rfl;(with_reducible repeat (first|refine bN ?_ _|refine bD ?_|refine bA ?_ _));refine blk_put (cs:=#[.int .i64 ((rd_T40 l0_0 x3_1).f0),.int .i64 0,.int .i64 0,.bool false]) ?_ 1 _ rfl;(with_reducible repeat (first|refine bN ?_ _|refine bD ?_|refine bA ?_ _));refine blk_put (cs:=#[.int .i64 0,.int .i64 0,.int .i64 0,.bool false]) ?_ 0 _ rfl;(with_reducible repeat (first|refine bN ?_ _|refine bD ?_|refine bA ?_ _));exact Ba.out⟩
   have n2_:Aside0 (Below w.heap.size w ((((w32.setCell ⟨Bb,0,none⟩ (.int .i64 ((rd_T40 l0_0 x3_1).f0))).setCell ⟨Bb,1,none⟩ (.int .i64 ((rd_T40 l0_0 x3_1).f1))).setCell ⟨Bb,2,none⟩ (.int .i64 ((rd_T40 l0_0 x3_1).f2))).setCell ⟨Bb,3,none⟩ (.bool true))):=⟨by repeat (first|(with_reducible first|exact HB.out|apply oA|apply pN|apply o1|refine bS ?_ Be.out|refine bS ?_ Bh.out)|exact HB.out)⟩
   (try clear Bc)
   (try clear Ba)
   (try clear HB)
   generalize ((((w32.setCell ⟨Bb,0,none⟩ (.int .i64 ((rd_T40 l0_0 x3_1).f0))).setCell ⟨Bb,1,none⟩ (.int .i64 ((rd_T40 l0_0 x3_1).f1))).setCell ⟨Bb,2,none⟩ (.int .i64 ((rd_T40 l0_0 x3_1).f2))).setCell ⟨Bb,3,none⟩ (.bool true))=w35 at n0_ n1_ n2_ ⊢
   have Bc:=n0_
   have Ba:=n1_
   have HB:=n2_
   clear n0_ n1_ n2_
   have n0_:=Am (bD Bc.out)
   have n1_:=Am (bD Ba.out)
   have n2_:=Am (o1 HB.out)
   clear Bc
   clear Ba
   clear HB
   have Bc:=n0_
   have Ba:=n1_
   have HB:=n2_
   clear n0_ n1_ n2_
   have p278:0≤((ji12):Int):=of_decide_eq_true (by first|(with_reducible assumption)|assumption)
   have q278:(ji12)<(l0_0.length:Int):=of_decide_eq_true (by first|(with_reducible assumption)|assumption)
   obtain ⟨ad278,e278,hx278_0,hx278_1,hx278_2,hx278_3⟩:=at_T40 HR0_0.out (ji12) p278 q278
   have hw278_3:=hx278_3
   have hw278_2:=hx278_2
   have hw278_1:=hx278_1
   have hw278_0:=hx278_0
   (try rw [← Nbq22.out] at hx278_3)
   obtain rfl:ad273=ad278:=(by injection e278)
   replace hx278_0:=(bW HB hx278_0:)
   replace hx278_1:=(bW HB hx278_1:)
   replace hx278_2:=(bW HB hx278_2:)
   replace hx278_3:=(bW HB hx278_3:)
   replace p278:=eq_true p278
   replace q278:=eq_true q278
   refine start_ (n:=43) (S:=fun w'=>w'.cell? ⟨Bb,0,none⟩=some (.int .i64 ((rd_T40 l0_0 x3_1).f0))∧w'.cell? ⟨Bb,1,none⟩=some (.int .i64 ((rd_T40 l0_0 x3_1).f1))∧w'.cell? ⟨Bb,2,none⟩=some (.int .i64 ((rd_T40 l0_0 x3_1).f2))∧w'.cell? ⟨Bb,3,none⟩=some (.bool true)∧w'.cell? ⟨Bd,0,none⟩=some (.slice (some ad273) l0_0.length c0_0)∧w'.cell? ⟨Bd,1,none⟩=some (.int .i64 a0_1)∧w'.cell? (ad273.add (((ji12)).toNat * 4))=some (.int .i64 ((rd_T40 l0_0 (ji12)).f0))∧w'.cell? ⟨(ad273.add (((ji12)).toNat * 4)).block,(ad273.add (((ji12)).toNat * 4)).off + 1,none⟩=some (.int .i64 ((rd_T40 l0_0 (ji12)).f1))∧w'.cell? ⟨(ad273.add (((ji12)).toNat * 4)).block,(ad273.add (((ji12)).toNat * 4)).off + 2,none⟩=some (.int .i64 ((rd_T40 l0_0 (ji12)).f2))∧w'.cell? ⟨(ad273.add (((ji12)).toNat * 4)).block,(ad273.add (((ji12)).toNat * 4)).off + 3,none⟩=some (.bool ((rd_T40 l0_0 (ji12)).f3))) (ds:=[]) z18q0 (by kernel_rfl) rfl rfl ⟨(bC Ba.out 0).trans rfl,(bC Ba.out 1).trans rfl,(bC Ba.out 2).trans rfl,(bC Ba.out 3).trans rfl,(bC Bc.out 0).trans rfl,(bC Bc.out 1).trans rfl,(bW HB hw278_0:),(bW HB hw278_1:),(bW HB hw278_2:),(bW HB hw278_3:)⟩ (fun hHeld=>?_);refine with_st spec_QueueOk.tab5 spec_QueueOk.bits5 (fun _ _ _ _ _ h=>h) (fun HT_=>?_)
   generalize w35.drew=w36 at Bc Ba HB hx278_0 hx278_1 hx278_2 hx278_3 hHeld ⊢
   refine pS 0 17 z18q1 HT_ rfl rfl (by kernel_rfl) (by rfl) (by intro w';go_simp;with_reducible rfl) (by simp only [Act.put,lA,lZ,lS,iw,jw];rfl) ?_
   refine tS 1 18 z18q2 HT_ hHeld rfl rfl (by kernel_rfl) (by rfl) (by rintro w' ⟨s0,s1,s2,s3,s4,s5,s6,s7,s8,s9⟩;go_simp;with_reducible rfl) (by simp only [Act.put,lA,lZ,lS,iw,jw];rfl) ?_
   refine oS 2 19 z18q3 HT_ rfl rfl (by kernel_rfl) (by decide) (fun K hK=>?_)
   refine goes_ Try.func42 (by kernel_rfl) rfl #[.int .i64 ((rd_T40 l0_0 x3_1).f0),.int .i64 0,.int .i64 99] (by rfl) rfl rfl (by (try simp only [lM,lC,lN]);first|done|rfl|(simp only [lD,lT];rfl)) ?_
   with_reducible refine (spec_l6In.calls ((rd_T40 l0_0 x3_1).f0) 0 99 true _ A5.out).mono ?_
   rintro e w' ⟨rfl,⟨nd,rfl⟩⟩
   refine ⟨_,rfl,?_⟩
   refine hK.out _ _ ⟨(bC Ba.out 0).trans rfl,(bC Ba.out 1).trans rfl,(bC Ba.out 2).trans rfl,(bC Ba.out 3).trans rfl,(bC Bc.out 0).trans rfl,(bC Bc.out 1).trans rfl,(bW HB hw278_0:),(bW HB hw278_1:),(bW HB hw278_2:),(bW HB hw278_3:)⟩ (fun hHeld=>?_)
   clear hK K
   refine norm_ (by show Act.put _ (some 19) _=_;simp only [Act.put,lA,lZ,lS,iw,jw];rfl) ?_
   refine pS 3 20 z18q4 HT_ rfl rfl (by kernel_rfl) (by rfl) (by intro w';go_simp;with_reducible rfl) (by simp only [Act.put,lA,lZ,lS,iw,jw];rfl) ?_
   refine pS 4 21 z18q5 HT_ rfl rfl (by kernel_rfl) (by rfl) (by intro w';go_simp;with_reducible rfl) (by simp only [Act.put,lA,lZ,lS,iw,jw];rfl) ?_
   refine pS 5 22 z18q6 HT_ rfl rfl (by kernel_rfl) (by rfl) (by intro w';go_simp;with_reducible rfl) (by simp only [Act.put,lA,lZ,lS,iw,jw];rfl) ?_
   refine tS 6 23 z18q7 HT_ hHeld rfl rfl (by kernel_rfl) (by rfl) (by rintro w' ⟨s0,s1,s2,s3,s4,s5,s6,s7,s8,s9⟩;go_simp;with_reducible rfl) (by simp only [Act.put,lA,lZ,lS,iw,jw];rfl) ?_
   refine oS 7 24 z18q8 HT_ rfl rfl (by kernel_rfl) (by decide) (fun K hK=>?_)
   refine goes_ Try.func42 (by kernel_rfl) rfl #[.int .i64 ((rd_T40 l0_0 x3_1).f1),.int .i64 1,.int .i64 6] (by rfl) rfl rfl (by (try simp only [lM,lC,lN]);first|done|rfl|(simp only [lD,lT];rfl)) ?_
   with_reducible refine (spec_l6In.calls ((rd_T40 l0_0 x3_1).f1) 1 6 true _ A7.out).mono ?_
   rintro e w' ⟨rfl,⟨nd,rfl⟩⟩
   refine ⟨_,rfl,?_⟩
   refine hK.out _ _ ⟨(bC Ba.out 0).trans rfl,(bC Ba.out 1).trans rfl,(bC Ba.out 2).trans rfl,(bC Ba.out 3).trans rfl,(bC Bc.out 0).trans rfl,(bC Bc.out 1).trans rfl,(bW HB hw278_0:),(bW HB hw278_1:),(bW HB hw278_2:),(bW HB hw278_3:)⟩ (fun hHeld=>?_)
   clear hK K
   refine norm_ (by show Act.put _ (some 24) _=_;simp only [Act.put,lA,lZ,lS,iw,jw];rfl) ?_
   refine pS 8 25 z18q9 HT_ rfl rfl (by kernel_rfl) (by rfl) (by intro w';go_simp;with_reducible rfl) (by simp only [Act.put,lA,lZ,lS,iw,jw];rfl) ?_
   refine pS 9 26 z18q10 HT_ rfl rfl (by kernel_rfl) (by rfl) (by intro w';go_simp;with_reducible rfl) (by simp only [Act.put,lA,lZ,lS,iw,jw];rfl) ?_
   refine pS 10 27 z18q11 HT_ rfl rfl (by kernel_rfl) (by rfl) (by intro w';go_simp;with_reducible rfl) (by simp only [Act.put,lA,lZ,lS,iw,jw];rfl) ?_
   refine pS 11 28 z18q12 HT_ rfl rfl (by kernel_rfl) (by rfl) (by intro w';go_simp;with_reducible rfl) (by simp only [Act.put,lA,lZ,lS,iw,jw];rfl) ?_
   refine tS 12 29 z18q13 HT_ hHeld rfl rfl (by kernel_rfl) (by rfl) (by rintro w' ⟨s0,s1,s2,s3,s4,s5,s6,s7,s8,s9⟩;go_simp;with_reducible rfl) (by simp only [Act.put,lA,lZ,lS,iw,jw];rfl) ?_
   refine oS 13 30 z18q14 HT_ rfl rfl (by kernel_rfl) (by decide) (fun K hK=>?_)
   refine goes_ Try.func42 (by kernel_rfl) rfl #[.int .i64 ((rd_T40 l0_0 x3_1).f2),.int .i64 0,.int .i64 1000000] (by rfl) rfl rfl (by (try simp only [lM,lC,lN]);first|done|rfl|(simp only [lD,lT];rfl)) ?_
   with_reducible refine (spec_l6In.calls ((rd_T40 l0_0 x3_1).f2) 0 1000000 true _ A9.out).mono ?_
   rintro e w' ⟨rfl,⟨nd,rfl⟩⟩
   refine ⟨_,rfl,?_⟩
   refine hK.out _ _ ⟨(bC Ba.out 0).trans rfl,(bC Ba.out 1).trans rfl,(bC Ba.out 2).trans rfl,(bC Ba.out 3).trans rfl,(bC Bc.out 0).trans rfl,(bC Bc.out 1).trans rfl,(bW HB hw278_0:),(bW HB hw278_1:),(bW HB hw278_2:),(bW HB hw278_3:)⟩ (fun hHeld=>?_)
   clear hK K
   refine norm_ (by show Act.put _ (some 30) _=_;simp only [Act.put,lA,lZ,lS,iw,jw];rfl) ?_
   refine pS 14 31 z18q15 HT_ rfl rfl (by kernel_rfl) (by rfl) (by intro w';go_simp;with_reducible rfl) (by simp only [Act.put,lA,lZ,lS,iw,jw];rfl) ?_
   refine pS 15 32 z18q16 HT_ rfl rfl (by kernel_rfl) (by rfl) (by intro w';go_simp;with_reducible rfl) (by simp only [Act.put,lA,lZ,lS,iw,jw];rfl) ?_
   refine pS 16 33 z18q17 HT_ rfl rfl (by kernel_rfl) (by rfl) (by intro w';go_simp;with_reducible rfl) (by simp only [Act.put,lA,lZ,lS,iw,jw];rfl) ?_
   refine pS 17 34 z18q18 HT_ rfl rfl (by kernel_rfl) (by rfl) (by intro w';go_simp;with_reducible rfl) (by simp only [Act.put,lA,lZ,lS,iw,jw];rfl) ?_
   refine pS 18 35 z18q19 HT_ rfl rfl (by kernel_rfl) (by rfl) (by intro w';go_simp;with_reducible rfl) (by simp only [Act.put,lA,lZ,lS,iw,jw];rfl) ?_
   refine pS 19 36 z18q20 HT_ rfl rfl (by kernel_rfl) (by rfl) (by intro w';go_simp;with_reducible rfl) (by simp only [Act.put,lA,lZ,lS,iw,jw];rfl) ?_
   refine pS 20 37 z18q21 HT_ rfl rfl (by kernel_rfl) (by rfl) (by intro w';go_simp;with_reducible rfl) (by simp only [Act.put,lA,lZ,lS,iw,jw];rfl) ?_
   refine pS 22 39 z18q22 HT_ rfl rfl (by kernel_rfl) (by rfl) (by intro w';go_simp;with_reducible rfl) (by simp only [Act.put,lA,lZ,lS,iw,jw];rfl) ?_
   refine pS 23 40 z18q23 HT_ rfl rfl (by kernel_rfl) (by rfl) (by intro w';go_simp;with_reducible rfl) (by simp only [Act.put,lA,lZ,lS,iw,jw];rfl) ?_
   refine pS 27 44 z18q24 HT_ rfl rfl (by kernel_rfl) (by rfl) (by intro w';go_simp;with_reducible rfl) (by simp only [Act.put,lA,lZ,lS,iw,jw];rfl) ?_
   refine tS 21 38 z18q25 HT_ hHeld rfl rfl (by kernel_rfl) (by rfl) (by rintro w' ⟨s0,s1,s2,s3,s4,s5,s6,s7,s8,s9⟩;go_simp;with_reducible rfl) (by simp only [Act.put,lA,lZ,lS,iw,jw];rfl) ?_
   refine pS 24 41 z18q26 HT_ rfl rfl (by kernel_rfl) (by rfl) (by intro w';go_simp;with_reducible rfl) (by simp only [Act.put,lA,lZ,lS,iw,jw];rfl) ?_
   refine pS 25 42 z18q27 HT_ rfl rfl (by kernel_rfl) (by rfl) (by intro w';go_simp;with_reducible rfl) (by simp only [Act.put,lA,lZ,lS,iw,jw];rfl) ?_
   refine tS 26 43 z18q28 HT_ hHeld rfl rfl (by kernel_rfl) (by rfl) (by rintro w' ⟨s0,s1,s2,s3,s4,s5,s6,s7,s8,s9⟩;go_simp;with_reducible rfl) (by simp only [Act.put,lA,lZ,lS,iw,jw];rfl) ?_
   refine tS 28 45 z18q29 HT_ hHeld rfl rfl (by kernel_rfl) (by rfl) (by rintro w' ⟨s0,s1,s2,s3,s4,s5,s6,s7,s8,s9⟩;go_simp;with_reducible rfl) (by simp only [Act.put,lA,lZ,lS,iw,jw];rfl) ?_
   refine pS 29 46 z18q30 HT_ rfl rfl (by kernel_rfl) (by rfl) (by intro w';go_simp;with_reducible rfl) (by simp only [Act.put,lA,lZ,lS,iw,jw];rfl) ?_
   refine pS 30 47 z18q31 HT_ rfl rfl (by kernel_rfl) (by rfl) (by intro w';go_simp;with_reducible rfl) (by simp only [Act.put,lA,lZ,lS,iw,jw];rfl) ?_
   refine pS 31 48 z18q32 HT_ rfl rfl (by kernel_rfl) (by rfl) (by intro w';go_simp;with_reducible rfl) (by simp only [Act.put,lA,lZ,lS,iw,jw];rfl) ?_
   refine pS 32 49 z18q33 HT_ rfl rfl (by kernel_rfl) (by rfl) (by intro w';go_simp;with_reducible rfl) (by simp only [Act.put,lA,lZ,lS,iw,jw];rfl) ?_
   refine pS 33 50 z18q34 HT_ rfl rfl (by kernel_rfl) (by rfl) (by intro w';go_simp;with_reducible rfl) (by simp only [Act.put,lA,lZ,lS,iw,jw];rfl) ?_
   refine tS 34 51 z18q35 HT_ hHeld rfl rfl (by kernel_rfl) (by rfl) (by rintro w' ⟨s0,s1,s2,s3,s4,s5,s6,s7,s8,s9⟩;go_simp;with_reducible rfl) (by simp only [Act.put,lA,lZ,lS,iw,jw];rfl) ?_
   refine pS 35 52 z18q36 HT_ rfl rfl (by kernel_rfl) (by rfl) (by intro w';go_simp;with_reducible rfl) (by simp only [Act.put,lA,lZ,lS,iw,jw];rfl) ?_
   refine pS 36 53 z18q37 HT_ rfl rfl (by kernel_rfl) (by rfl) (by intro w';go_simp;with_reducible rfl) (by simp only [Act.put,lA,lZ,lS,iw,jw];rfl) ?_
   refine pS 38 55 z18q44 HT_ rfl rfl (by kernel_rfl) (by rfl) (by intro w';go_simp;with_reducible rfl) (by simp only [Act.put,lA,lZ,lS,iw,jw];rfl) ?_
   refine tS 37 54 z18q39 HT_ hHeld rfl rfl (by kernel_rfl) (by rfl) (by rintro w' ⟨s0,s1,s2,s3,s4,s5,s6,s7,s8,s9⟩;go_simp;with_reducible rfl) (by simp only [Act.put,lA,lZ,lS,iw,jw];rfl) ?_
   refine tS 39 56 z18q40 HT_ hHeld rfl rfl (by kernel_rfl) (by rfl) (by rintro w' ⟨s0,s1,s2,s3,s4,s5,s6,s7,s8,s9⟩;go_simp;with_reducible rfl) (by simp only [Act.put,lA,lZ,lS,iw,jw];rfl) ?_
   refine pS 40 57 z18q41 HT_ rfl rfl (by kernel_rfl) (by rfl) (by intro w';go_simp;with_reducible rfl) (by simp only [Act.put,lA,lZ,lS,iw,jw];rfl) ?_
   refine pS 41 58 z18q42 HT_ rfl rfl (by kernel_rfl) (by rfl) (by intro w';go_simp;with_reducible rfl) (by simp only [Act.put,lA,lZ,lS,iw,jw];rfl) ?_
   refine pS 42 59 z18q43 HT_ rfl rfl (by kernel_rfl) (by rfl) (by intro w';go_simp;with_reducible rfl) (by simp only [Act.put,lA,lZ,lS,iw,jw];rfl) ?_
   refine done_ (done_of HT_.out (by kernel_rfl)) ?_
   try go_wp2
   go_roundg k1
   case measure=>have:=HK1.out;omega
   case rel=>exact ⟨(wrap64 (x3_1 + 1)),(by first|rfl|(simp;done)|(simp [*];done)),H',⟨by have:=HK1.out;omega⟩,⟨by (with_reducible repeat (first|refine bN ?_ _|refine bD ?_|refine bA ?_ _));exact Bc.out⟩,⟨by repeat (first|(with_reducible first|exact HB.out|apply oA|apply pN|apply o1|refine bS ?_ Be.out|refine bS ?_ Bh.out)|exact HB.out)⟩⟩
end Go.Proofs.Ytfhcgmfodfcpeaa.PFnQueueLess
