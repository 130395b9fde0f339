/- Proved here, without a condition beyond those that each theorem states: what the Go functions named below do is what the plain functions of the same names say. Written by xprint.py, a program of this session. -/
import Derived.Test.YtpacdakadkblgaaPFnClockDropx0
import Derived.Test.YtpacdakadkblgaaPFnClockDropx2
import Derived.Test.YtpacdakadkblgaaPFnClockDropx3
namespace Go.Proofs.Ytpacdakadkblgaa.PFnClockDrop
open Go.RowKit Go.Proofs.YtpacdakadkblgaaW.PrintWords Go.Proofs.YtpacdakadkblgaaW.PrintLast Go.Proofs.YtpacdakadkblgaaW.PrintMore
attribute [local go_sem] max2_int min2_int max_two min_two max_three min_three max_four min_four   -- for this text's walks alone
set_option linter.unusedVariables false
set_option linter.unusedSimpArgs false

attribute [local go_sem ↓] isSome_setCell_
/-! ### spec_ClockOk: function 18 -/
mutual
def spec_ClockOk.l0 : Nat → Int → Int → List (S35) → Option (Bool)
|0, _, _, _ => none
|k + 1, x3, x124000, x124001 => if x3 < (x124001.length : Int) then (if 0 ≤ x3 then ((spec_l6In.f ((rd_T35 x124001 x3).f0) 0 99).bind fun t127 => (if t127 = true then ((spec_l19Time.f ((rd_T35 x124001 x3).f1)).bind fun t128 => (if t128 = true then (if ((rd_T35 x124001 x3).f1) ≤ x124000 then (spec_ClockOk.j1 k x3 true x124000 x124001 ((rd_T35 x124001 x3).f0) ((rd_T35 x124001 x3).f1) ((rd_T35 x124001 x3).f2)) else ((spec_l6In.f ((rd_T35 x124001 x3).f2) 0 99).bind fun t129 => (if t129 = true then (if x3 > 0 then (if 0 ≤ (wrap64 (x3 - 1)) then (if (wrap64 (x3 - 1)) < (x124001.length : Int) then ((spec_l19Ahead.f ((rd_T35 x124001 (wrap64 (x3 - 1))).f0) ((rd_T35 x124001 (wrap64 (x3 - 1))).f1) ((rd_T35 x124001 (wrap64 (x3 - 1))).f2) ((rd_T35 x124001 x3).f0) ((rd_T35 x124001 x3).f1) ((rd_T35 x124001 x3).f2)).bind fun t131 => (spec_ClockOk.j1 k x3 (!t131) x124000 x124001 ((rd_T35 x124001 x3).f0) ((rd_T35 x124001 x3).f1) ((rd_T35 x124001 x3).f2))) else (none)) else (none)) else (spec_ClockOk.j1 k x3 false x124000 x124001 ((rd_T35 x124001 x3).f0) ((rd_T35 x124001 x3).f1) ((rd_T35 x124001 x3).f2))) else (spec_ClockOk.j1 k x3 true x124000 x124001 ((rd_T35 x124001 x3).f0) ((rd_T35 x124001 x3).f1) ((rd_T35 x124001 x3).f2))))) else (spec_ClockOk.j1 k x3 true x124000 x124001 ((rd_T35 x124001 x3).f0) ((rd_T35 x124001 x3).f1) ((rd_T35 x124001 x3).f2)))) else (spec_ClockOk.j1 k x3 true x124000 x124001 ((rd_T35 x124001 x3).f0) ((rd_T35 x124001 x3).f1) ((rd_T35 x124001 x3).f2)))) else (none)) else ((spec_l19Time.f x124000).bind fun t124 => (if t124 = true then (some (decide ((x124001.length : Int) ≤ 12))) else (some false)))
def spec_ClockOk.j1 : Nat → Int → Bool → Int → List (S35) → Int → Int → Int → Option (Bool)
|0, _, _, _, _, _, _, _ => none
|k + 1, x3, x55, x124000, x124001, x127000, x127001, x127002 => if x55 = true then (some false) else (spec_ClockOk.l1 k x3 0 x124000 x124001 x127000 x127001 x127002)
def spec_ClockOk.l1 : Nat → Int → Int → Int → List (S35) → Int → Int → Int → Option (Bool)
|0, _, _, _, _, _, _, _ => none
|k + 1, x3, x5, x124000, x124001, x127000, x127001, x127002 => if x5 < x3 then (if 0 ≤ x5 then (if x5 < (x124001.length : Int) then (if ((rd_T35 x124001 x5).f0) = x127000 then (some false) else (spec_ClockOk.l1 k x3 (wrap64 (x5 + 1)) x124000 x124001 x127000 x127001 x127002)) else (none)) else (none)) else (spec_ClockOk.l0 k (wrap64 (x3 + 1)) x124000 x124001)
end
def spec_ClockOk.f (k : Nat) (a0_0 : Int) (l0_1 : List (S35)) : Option (Bool) := spec_ClockOk.l0 k 0 a0_0 l0_1
theorem spec_ClockOk.mono_l : ∀ k, (∀ y0 y1 y2, LeO (spec_ClockOk.l0 k y0 y1 y2) (spec_ClockOk.l0 (k + 1) y0 y1 y2)) ∧ (∀ y0 y1 y2 y3 y4 y5 y6, LeO (spec_ClockOk.j1 k y0 y1 y2 y3 y4 y5 y6) (spec_ClockOk.j1 (k + 1) y0 y1 y2 y3 y4 y5 y6)) ∧ (∀ y0 y1 y2 y3 y4 y5 y6, LeO (spec_ClockOk.l1 k y0 y1 y2 y3 y4 y5 y6) (spec_ClockOk.l1 (k + 1) y0 y1 y2 y3 y4 y5 y6))
|0 => ⟨fun _ _ _ r h => by simp [spec_ClockOk.l0] at h, fun _ _ _ _ _ _ _ r h => by simp [spec_ClockOk.j1] at h, fun _ _ _ _ _ _ _ r h => by simp [spec_ClockOk.l1] at h⟩
|k + 1 => by
  obtain ⟨ih0, ih1, ih2⟩ := spec_ClockOk.mono_l k
  refine ⟨?_, ?_, ?_⟩
  ·intro y0 y1 y2
   unfold spec_ClockOk.l0
   repeat' first
  |(with_reducible exact ih0 _ _ _)
  |(with_reducible exact ih1 _ _ _ _ _ _ _)
  |(with_reducible exact ih2 _ _ _ _ _ _ _)
  |(with_reducible exact LeO.refl _)
  |(with_reducible exact LeO.none _)
  |(with_reducible refine LeO.ite ?_ ?_)
  |(with_reducible refine LeO.bind ?_ (fun _ => ?_))
  |exact ih0 _ _ _
  |exact ih1 _ _ _ _ _ _ _
  |exact ih2 _ _ _ _ _ _ _
  |exact LeO.none _
  |refine LeO.ite ?_ ?_
  |refine LeO.bind ?_ (fun _ => ?_)
  ·intro y0 y1 y2 y3 y4 y5 y6
   unfold spec_ClockOk.j1
   repeat' first
  |(with_reducible exact ih0 _ _ _)
  |(with_reducible exact ih1 _ _ _ _ _ _ _)
  |(with_reducible exact ih2 _ _ _ _ _ _ _)
  |(with_reducible exact LeO.refl _)
  |(with_reducible exact LeO.none _)
  |(with_reducible refine LeO.ite ?_ ?_)
  |(with_reducible refine LeO.bind ?_ (fun _ => ?_))
  |exact ih0 _ _ _
  |exact ih1 _ _ _ _ _ _ _
  |exact ih2 _ _ _ _ _ _ _
  |exact LeO.none _
  |refine LeO.ite ?_ ?_
  |refine LeO.bind ?_ (fun _ => ?_)
  ·intro y0 y1 y2 y3 y4 y5 y6
   unfold spec_ClockOk.l1
   repeat' first
  |(with_reducible exact ih0 _ _ _)
  |(with_reducible exact ih1 _ _ _ _ _ _ _)
  |(with_reducible exact ih2 _ _ _ _ _ _ _)
  |(with_reducible exact LeO.refl _)
  |(with_reducible exact LeO.none _)
  |(with_reducible refine LeO.ite ?_ ?_)
  |(with_reducible refine LeO.bind ?_ (fun _ => ?_))
  |exact ih0 _ _ _
  |exact ih1 _ _ _ _ _ _ _
  |exact ih2 _ _ _ _ _ _ _
  |exact LeO.none _
  |refine LeO.ite ?_ ?_
  |refine LeO.bind ?_ (fun _ => ?_)
theorem spec_ClockOk.mono : ∀ a0 a1 k, LeO (spec_ClockOk.f k a0 a1) (spec_ClockOk.f (k + 1) a0 a1) := by
 intro a0 a1 k
 obtain ⟨ih0, ih1, ih2⟩ := spec_ClockOk.mono_l k
 unfold spec_ClockOk.f
 repeat' first
  |(with_reducible exact ih0 _ _ _)
  |(with_reducible exact ih1 _ _ _ _ _ _ _)
  |(with_reducible exact ih2 _ _ _ _ _ _ _)
  |(with_reducible exact LeO.refl _)
  |(with_reducible exact LeO.none _)
  |(with_reducible refine LeO.ite ?_ ?_)
  |(with_reducible refine LeO.bind ?_ (fun _ => ?_))
  |exact ih0 _ _ _
  |exact ih1 _ _ _ _ _ _ _
  |exact ih2 _ _ _ _ _ _ _
  |exact LeO.none _
  |refine LeO.ite ?_ ?_
  |refine LeO.bind ?_ (fun _ => ?_)
def spec_ClockOk.T5 : Bool × List (List Nat × List Nat) := (true, [([], []), ([0], [0]), ([1], [1]), ([2], [2]), ([3, 2], [3]), ([4], [4]), ([5, 4], [4, 5]), ([6, 4, 4], [4, 6]), ([7, 4], [4, 7]), ([4, 8], [4, 8]), ([9, 7], [9]), ([10], [10]), ([11, 10], [10, 11]), ([10], [10]), ([13, 10], [10, 13]), ([12, 14, 10], [10, 12, 14]), ([10, 15], [10, 15]), ([16, 10], [16]), ([17], [17]), ([18, 17], [17, 18]), ([19, 17, 17], [17, 19]), ([20, 17], [17, 20]), ([17, 21], [17, 21]), ([22, 20], [22]), ([23], [23]), ([24, 23], [23, 24]), ([25, 23, 23], [23, 25]), ([26], [26]), ([27, 26], [26, 27]), ([26], [26]), ([29, 26], [26, 29]), ([28, 30, 26], [26, 28, 30]), ([31, 26], [26, 31]), ([26], [26]), ([32, 33, 26, 26], [26, 32, 33]), ([34, 26], [26, 34]), ([26, 35, 23], [23, 26, 35]), ([23, 36], [23, 36])])
def spec_ClockOk.B5 : List Nat := [0, 1, 3, 7, 15, 31, 63, 127, 255, 511, 1023, 2047, 4095, 2047, 10239, 32767, 65535, 131071, 262143, 524287, 1048575, 2097151, 4194303, 8388607, 16777215, 33554431, 67108863, 134217727, 268435455, 134217727, 671088639, 2147483647, 4294967295, 134217727, 17179869183, 34359738367, 68719476735, 137438953471]
theorem spec_ClockOk.tab5 : rtab .any (opsOf Try.f18 5) = spec_ClockOk.T5 := by kernel_rfl
theorem spec_ClockOk.bits5 : waitsOk spec_ClockOk.T5.2 spec_ClockOk.B5 = true := by kernel_rfl
def spec_ClockOk.T10 : Bool × List (List Nat × List Nat) := (true, [([], []), ([0], [0]), ([], []), ([1, 2], [1, 2]), ([3], [3]), ([4], [4]), ([], []), ([6], [6]), ([5, 7], [5, 7])])
def spec_ClockOk.B10 : List Nat := [0, 1, 0, 7, 15, 31, 0, 64, 255]
theorem spec_ClockOk.tab10 : rtab .any (opsOf Try.f18 10) = spec_ClockOk.T10 := by kernel_rfl
theorem spec_ClockOk.bits10 : waitsOk spec_ClockOk.T10.2 spec_ClockOk.B10 = true := by kernel_rfl
abbrev z18q0 : Array Bool := bQ 38 0
abbrev z18q1 : Array Bool := bQ 38 1
abbrev z18q2 : Array Bool := bQ 38 3
abbrev z18q3 : Array Bool := bQ 38 7
abbrev z18q4 : Array Bool := bQ 38 15
abbrev z18q5 : Array Bool := bQ 38 31
abbrev z18q6 : Array Bool := bQ 38 63
abbrev z18q7 : Array Bool := bQ 38 127
abbrev z18q8 : Array Bool := bQ 38 255
abbrev z18q9 : Array Bool := bQ 38 511
abbrev z18q10 : Array Bool := bQ 38 1023
abbrev z18q11 : Array Bool := bQ 38 2047
abbrev z18q12 : Array Bool := bQ 38 4095
abbrev z18q13 : Array Bool := bQ 38 12287
abbrev z18q14 : Array Bool := bQ 38 16383
abbrev z18q15 : Array Bool := bQ 38 32767
abbrev z18q16 : Array Bool := bQ 38 65535
abbrev z18q17 : Array Bool := bQ 38 131071
abbrev z18q18 : Array Bool := bQ 38 262143
abbrev z18q19 : Array Bool := bQ 38 524287
abbrev z18q20 : Array Bool := bQ 38 1048575
abbrev z18q21 : Array Bool := bQ 38 2097151
abbrev z18q22 : Array Bool := bQ 38 4194303
abbrev z18q23 : Array Bool := bQ 38 8388607
abbrev z18q24 : Array Bool := bQ 38 16777215
abbrev z18q25 : Array Bool := bQ 38 33554431
abbrev z18q26 : Array Bool := bQ 38 67108863
abbrev z18q27 : Array Bool := bQ 38 134217727
abbrev z18q28 : Array Bool := bQ 38 268435455
abbrev z18q29 : Array Bool := bQ 38 536870911
abbrev z18q30 : Array Bool := bQ 38 1073741823
abbrev z18q31 : Array Bool := bQ 38 2147483647
abbrev z18q32 : Array Bool := bQ 38 4294967295
abbrev z18q33 : Array Bool := bQ 38 8589934591
abbrev z18q34 : Array Bool := bQ 38 17179869183
abbrev z18q35 : Array Bool := bQ 38 34359738367
abbrev z18q36 : Array Bool := bQ 38 68719476735
abbrev z18q37 : Array Bool := bQ 38 137438953471
abbrev z18q38 : Array Bool := bQ 38 274877906943
abbrev z18q39 : Array Bool := bQ 38 805306367
abbrev z18q40 : Array Bool := bQ 38 1879048191
abbrev z18q41 : Array Bool := bQ 38 8191
abbrev z18q42 : Array Bool := bQ 9 0
abbrev z18q43 : Array Bool := bQ 9 1
abbrev z18q44 : Array Bool := bQ 9 5
abbrev z18q45 : Array Bool := bQ 9 69
abbrev z18q46 : Array Bool := bQ 9 71
abbrev z18q47 : Array Bool := bQ 9 79
abbrev z18q48 : Array Bool := bQ 9 95
abbrev z18q49 : Array Bool := bQ 9 127
abbrev z18q50 : Array Bool := bQ 9 255
abbrev z18q51 : Array Bool := bQ 9 511
set_option maxHeartbeats 2000000 in
set_option maxRecDepth 100000 in
theorem spec_ClockOk.calls (k:Nat) (a0_0:Int) (A0_1:Option Addr) (c0_1:Nat) (l0_1:List (S35)) (r:Bool) (w:World) (hr0_1:Kd.C k35 w A0_1 l0_1.length l0_1) (hc0_1:l0_1.length≤c0_1) (h:spec_ClockOk.f k a0_0 l0_1=some r) :
  Calls Try.prog 18 #[.agg #[.int .i64 a0_0,.slice A0_1 l0_1.length c0_1]] w fun e w'=>e=.returned (.bool r)∧Below w.heap.size w w':=by
 have hu25:=Try.underlying25
 have hu35:=Try.underlying35
 have HR0_1:=Am hr0_1
 have HC0_1:=Am hc0_1
 clear hr0_1 hc0_1
 have HB:=Am (bJ w.heap.size w)
 have H:(spec_ClockOk.l0 k 0 a0_0 l0_1)=some r:=h
 clear h
 have H':=Am H
 clear H
 go_enter Try.func18,Try.ntmps18
 go_wp2_with (first|((with_reducible refine gD (N:=1) rfl ?_);(try (refine gate_guard (by rfl) ?_;dsimp only));refine bI ?hg (N:=1) ?hd (cs:=#[.int .i64 a0_0,.slice A0_1 l0_1.length c0_1]) (t:=25) ?hr ?_;(case hd=>rfl);(case hg=>rfl);(case hr=>first|(go_simp;done)|(go_simp;rfl));intro Bd hg w2 hbox hb;have n0_:=Am (bP (by repeat (first|(with_reducible first|exact HB.out|apply oA|apply pN|apply o1)|exact HB.out)) hb);have n1_:=Am (hbox);have n2_:=Am ((by rw [hg];exact (bZ (by repeat (first|(with_reducible first|exact HB.out|apply oA|apply pN|apply o1)|exact HB.out))):w.heap.size≤Bd));have n3_:=Am ((by rw [hg];exact (bZ (by repeat (first|(with_reducible first|exact HB.out|apply oA|apply pN|apply o1)|exact HB.out))):w.heap.size≤Bd));clear HB;revert n0_ n1_ n2_ n3_;intro HB Bb BB Be;clear hb hbox hg))
 go_loopg [3] k (fun kq v3 w'=>∃ (x3_1:Int),v3=.int .i64 x3_1∧Aside0 (spec_ClockOk.l0 kq x3_1 a0_0 l0_1=some r)∧Aside0 (kq≤k)∧Aside0 (w'.heap[Bd]?=some (.cells #[.int .i64 a0_0,(.slice A0_1 l0_1.length c0_1)] 25 (0,0)))∧Aside0 (Below w.heap.size w w'))
 case atStart=>exact ⟨(0),(by first|rfl|(simp;done)|(simp [*];done)),H',⟨nR _⟩,⟨by (with_reducible repeat (first|refine bN ?_ _|refine bD ?_|refine bA ?_ _));exact Bb.out⟩,⟨by repeat (first|(with_reducible first|exact HB.out|apply oA|apply pN|apply o1|refine bS ?_ Be.out)|exact HB.out)⟩⟩
 case round =>
  clear H'
  try clear c1
  try clear p2
  obtain ⟨x3_1,rfl,HA,HK1,Bb,HB⟩:=hrel
  cases gk with
 |zero=>exact absurd HA.out (by simp [spec_ClockOk.l0])
 |succ k1 =>
   have H:=HA.out
   clear HA
   simp only [spec_ClockOk.l0] at H
   by_cases c3:x3_1<(l0_1.length:Int)
   rotate_left
   ·rw [if_neg c3] at H
    have c3b0:decide (x3_1<(l0_1.length:Int))=false:=dF c3
    clear c3
    replace H:=oC H
    obtain ⟨t124,A420,H⟩:=H
    replace H:(if t124=true then (some (decide ((l0_1.length:Int)≤12))) else (some false))=some r:=H
    have A42:=Am A420
    clear A420
    by_cases c43:t124=true
    ·subst c43
     have H1:(some (decide ((l0_1.length:Int)≤12)))=some r:=by rw [if_pos rfl] at H;exact H
     clear H
     have H:=H1
     clear H1
     obtain rfl:=oJ H
     have Bj:=cz0 Bb.out
     have Bk:=cz1 Bb.out
     have Bl:=bF Bb.out 0
     have Bm:=bF Bb.out 1
     go_wp2_with (first|((with_reducible refine gC (f:=28) rfl ?_);refine goesL_ (some 72) rfl rfl Try.func28 (by kernel_rfl) rfl #[.int .i64 a0_0] rfl (by (try simp only [lM,lC,lN]);first|done|rfl|(simp only [lD,lT];rfl)) ?_;(with_reducible refine (spec_l19Time.calls a0_0 true _ A42.out).mono ?_);rintro e w' ⟨rfl,⟨nd,rfl⟩⟩;refine ⟨_,rfl,?_⟩))
     go_ret
     exact ⟨by first|rfl|(simp [errW_none,errW_some] <;> rfl)|(simp [*,errW_none,errW_some] <;> rfl),by repeat (first|(with_reducible first|exact HB.out|apply oA|apply pN|apply o1|refine bS ?_ Be.out)|exact HB.out)⟩
    replace c43:=Bool.eq_false_iff.mpr c43
    subst c43
    have H1:(some false)=some r:=by rw [if_neg (show ¬ (false=true) by decide)] at H;exact H
    clear H
    have H:=H1
    clear H1
    obtain rfl:=oJ H
    have Bn:=cz0 Bb.out
    have Bo:=cz1 Bb.out
    have Bp:=bF Bb.out 0
    have Bq:=bF Bb.out 1
    go_wp2_with (first|((with_reducible refine gC (f:=28) rfl ?_);refine goesL_ (some 72) rfl rfl Try.func28 (by kernel_rfl) rfl #[.int .i64 a0_0] rfl (by (try simp only [lM,lC,lN]);first|done|rfl|(simp only [lD,lT];rfl)) ?_;(with_reducible refine (spec_l19Time.calls a0_0 false _ A42.out).mono ?_);rintro e w' ⟨rfl,⟨nd,rfl⟩⟩;refine ⟨_,rfl,?_⟩))
    go_ret
    exact ⟨by first|rfl|(simp [errW_none,errW_some] <;> rfl)|(simp [*,errW_none,errW_some] <;> rfl),by repeat (first|(with_reducible first|exact HB.out|apply oA|apply pN|apply o1|refine bS ?_ Be.out)|exact HB.out)⟩

   rw [if_pos c3] at H
   have c3b0:decide (x3_1<(l0_1.length:Int))=true:=dT c3
   clear c3
   by_cases c4:0≤x3_1
   rotate_left
   ·rw [if_neg c4] at H
    exact absurd H (by simp)
   rw [if_pos c4] at H
   have c4b0:decide (0≤x3_1)=true:=dT c4
   clear c4
   have HC5:=Am H
   clear H
   have Br:=cz0 Bb.out
   have Bs:=cz1 Bb.out
   have Bt:=bF Bb.out 0
   have Bu:=bF Bb.out 1
   have p125:0≤(x3_1:Int):=oE (by first|(with_reducible assumption)|assumption)
   have q125:x3_1<(l0_1.length:Int):=oE (by first|(with_reducible assumption)|assumption)
   obtain ⟨ad125,e125,hx125_0,hx125_1,hx125_2⟩:=at_T35 HR0_1.out x3_1 p125 q125
   cases e125
   replace hx125_0:=(bW HB hx125_0:)
   replace hx125_1:=(bW HB hx125_1:)
   replace hx125_2:=(bW HB hx125_2:)
   replace p125:=eq_true p125
   replace q125:=eq_true q125
   go_upto_region 5 with (first|((with_reducible refine gD (N:=4) rfl ?_);(try (refine gate_guard (by rfl) ?_;dsimp only));refine bI ?hg (N:=4) ?hd (cs:=#[.int .i64 0,.int .i64 0,.int .i64 0]) (t:=35) ?hr ?_;(case hd=>rfl);(case hg=>rfl);(case hr=>first|(go_simp;done)|(go_simp;rfl));intro Bc hg w7 hbox hb;have n0_:=Am (bX Bb.out hb);have n1_:=Am (bP (by repeat (first|(with_reducible first|exact HB.out|apply oA|apply pN|apply o1|refine bS ?_ Be.out)|exact HB.out)) hb);have n2_:=Am (hbox);have n3_:=Am ((by rw [hg];exact (bZ (by repeat (first|(with_reducible first|exact HB.out|apply oA|apply pN|apply o1|refine bS ?_ Be.out)|exact HB.out))):w.heap.size≤Bc));have n4_:=Am ((by rw [hg];exact (bZ (by repeat (first|(with_reducible first|exact HB.out|apply oA|apply pN|apply o1|refine bS ?_ Be.out)|exact HB.out))):w.heap.size≤Bc));have n5_:=Am ((nL Bb.out hg));have n6_:=Am ((nG Bb.out hg));clear Bb HB;revert n0_ n1_ n2_ n3_ n4_ n5_ n6_;intro Bb HB Ba BC Bf Bg Bh;clear hb hbox hg;have BD:=Bh.out;have BE:=Bg.out;have Bv:=cz0 Ba.out;have Bw:=cz1 Ba.out;have Bx:=cz2 Ba.out;have By:=bF Ba.out 0;have Bz:=bF Ba.out 1;have BA:=bF Ba.out 2))
   (try simp only [Act.put,lA,lZ,lS])
   go_cut [55] (fun v55 wc=>∃ (kq:Nat) (x55_4:Bool),v55=.bool x55_4∧Aside0 (spec_ClockOk.j1 kq x3_1 x55_4 a0_0 l0_1 ((rd_T35 l0_1 x3_1).f0) ((rd_T35 l0_1 x3_1).f1) ((rd_T35 l0_1 x3_1).f2)=some r)∧Aside0 (kq≤k1)∧Aside0 (wc.heap[Bd]?=some (.cells #[.int .i64 a0_0,(.slice (some ad125) l0_1.length c0_1)] 25 (0,0)))∧Aside0 (wc.heap[Bc]?=some (.cells #[.int .i64 ((rd_T35 l0_1 x3_1).f0),.int .i64 ((rd_T35 l0_1 x3_1).f1),.int .i64 ((rd_T35 l0_1 x3_1).f2)] 35 (0,0)))∧Aside0 (Below w.heap.size w wc))
   case first =>
    have H:=HC5.out
    clear HC5
    replace H:=oC H
    obtain ⟨t127,A100,H⟩:=H
    replace H:(if t127=true then ((spec_l19Time.f ((rd_T35 l0_1 x3_1).f1)).bind fun t128=>(if t128=true then (if ((rd_T35 l0_1 x3_1).f1)≤a0_0 then (spec_ClockOk.j1 k1 x3_1 true a0_0 l0_1 ((rd_T35 l0_1 x3_1).f0) ((rd_T35 l0_1 x3_1).f1) ((rd_T35 l0_1 x3_1).f2)) else ((spec_l6In.f ((rd_T35 l0_1 x3_1).f2) 0 99).bind fun t129=>(if t129=true then (if x3_1 > 0 then (if 0≤(wrap64 (x3_1 - 1)) then (if (wrap64 (x3_1 - 1))<(l0_1.length:Int) then ((spec_l19Ahead.f ((rd_T35 l0_1 (wrap64 (x3_1 - 1))).f0) ((rd_T35 l0_1 (wrap64 (x3_1 - 1))).f1) ((rd_T35 l0_1 (wrap64 (x3_1 - 1))).f2) ((rd_T35 l0_1 x3_1).f0) ((rd_T35 l0_1 x3_1).f1) ((rd_T35 l0_1 x3_1).f2)).bind fun t131=>(spec_ClockOk.j1 k1 x3_1 (!t131) a0_0 l0_1 ((rd_T35 l0_1 x3_1).f0) ((rd_T35 l0_1 x3_1).f1) ((rd_T35 l0_1 x3_1).f2))) else (none)) else (none)) else (spec_ClockOk.j1 k1 x3_1 false a0_0 l0_1 ((rd_T35 l0_1 x3_1).f0) ((rd_T35 l0_1 x3_1).f1) ((rd_T35 l0_1 x3_1).f2))) else (spec_ClockOk.j1 k1 x3_1 true a0_0 l0_1 ((rd_T35 l0_1 x3_1).f0) ((rd_T35 l0_1 x3_1).f1) ((rd_T35 l0_1 x3_1).f2))))) else (spec_ClockOk.j1 k1 x3_1 true a0_0 l0_1 ((rd_T35 l0_1 x3_1).f0) ((rd_T35 l0_1 x3_1).f1) ((rd_T35 l0_1 x3_1).f2)))) else (spec_ClockOk.j1 k1 x3_1 true a0_0 l0_1 ((rd_T35 l0_1 x3_1).f0) ((rd_T35 l0_1 x3_1).f1) ((rd_T35 l0_1 x3_1).f2)))=some r:=H
    have A10:=Am A100
    clear A100
    by_cases c11:t127=true
    rotate_left
    ·replace c11:=Bool.eq_false_iff.mpr c11
     subst c11
     have H1:(spec_ClockOk.j1 k1 x3_1 true a0_0 l0_1 ((rd_T35 l0_1 x3_1).f0) ((rd_T35 l0_1 x3_1).f1) ((rd_T35 l0_1 x3_1).f2))=some r:=by rw [if_neg (show ¬ (false=true) by decide)] at H;exact H
     clear H
     have H:=H1
     clear H1
     have H':=Am H
     clear H
     try go_wp2
     have n0_:Aside0 ((((w7.setCell ⟨Bc,0,none⟩ (.int .i64 ((rd_T35 l0_1 x3_1).f0))).setCell ⟨Bc,1,none⟩ (.int .i64 ((rd_T35 l0_1 x3_1).f1))).setCell ⟨Bc,2,none⟩ (.int .i64 ((rd_T35 l0_1 x3_1).f2))).heap[Bd]?=some (.cells #[.int .i64 a0_0,.slice (some ad125) l0_1.length c0_1] 25 (0,0))):=⟨by (with_reducible repeat (first|refine bN ?_ _|refine bD ?_|refine bA ?_ _|refine bE ?_ Bg.out _));exact Bb.out⟩
     have n1_:Aside0 ((((w7.setCell ⟨Bc,0,none⟩ (.int .i64 ((rd_T35 l0_1 x3_1).f0))).setCell ⟨Bc,1,none⟩ (.int .i64 ((rd_T35 l0_1 x3_1).f1))).setCell ⟨Bc,2,none⟩ (.int .i64 ((rd_T35 l0_1 x3_1).f2))).heap[Bc]?=some (.cells #[.int .i64 ((rd_T35 l0_1 x3_1).f0),.int .i64 ((rd_T35 l0_1 x3_1).f1),.int .i64 ((rd_T35 l0_1 x3_1).f2)] 35 (0,0))):=⟨by (with_reducible repeat (first|refine bN ?_ _|refine bD ?_|refine bA ?_ _));refine bT (cs:=#[.int .i64 ((rd_T35 l0_1 x3_1).f0),.int .i64 ((rd_T35 l0_1 x3_1).f1),.int .i64 0]) ?_ 2 _ rfl;(with_reducible repeat (first|refine bN ?_ _|refine bD ?_|refine bA ?_ _));refine bT (cs:=#[.int .i64 ((rd_T35 l0_1 x3_1).f0),.int .i64 0,.int .i64 0]) ?_ 1 _ rfl;(with_reducible repeat (first|refine bN ?_ _|refine bD ?_|refine bA ?_ _));refine bT (cs:=#[.int .i64 0,.int .i64 0,.int .i64 0]) ?_ 0 _ rfl;(with_reducible repeat (first|refine bN ?_ _|refine bD ?_|refine bA ?_ _));exact Ba.out⟩
     have n2_:Aside0 (Below w.heap.size w (((w7.setCell ⟨Bc,0,none⟩ (.int .i64 ((rd_T35 l0_1 x3_1).f0))).setCell ⟨Bc,1,none⟩ (.int .i64 ((rd_T35 l0_1 x3_1).f1))).setCell ⟨Bc,2,none⟩ (.int .i64 ((rd_T35 l0_1 x3_1).f2)))):=⟨by repeat (first|(with_reducible first|exact HB.out|apply oA|apply pN|apply o1|refine bS ?_ Be.out|refine bS ?_ Bf.out)|exact HB.out)⟩
     (try clear Bb)
     (try clear Ba)
     (try clear HB)
     generalize (((w7.setCell ⟨Bc,0,none⟩ (.int .i64 ((rd_T35 l0_1 x3_1).f0))).setCell ⟨Bc,1,none⟩ (.int .i64 ((rd_T35 l0_1 x3_1).f1))).setCell ⟨Bc,2,none⟩ (.int .i64 ((rd_T35 l0_1 x3_1).f2)))=w33 at n0_ n1_ n2_ ⊢
     have Bb:=n0_
     have Ba:=n1_
     have HB:=n2_
     clear n0_ n1_ n2_
     have n0_:=Am (bD Bb.out)
     have n1_:=Am (bD Ba.out)
     have n2_:=Am (o1 HB.out)
     clear Bb
     clear Ba
     clear HB
     have Bb:=n0_
     have Ba:=n1_
     have HB:=n2_
     clear n0_ n1_ n2_
     refine start_ (n:=38) (S:=fun w'=>w'.cell? ⟨Bc,0,none⟩=some (.int .i64 ((rd_T35 l0_1 x3_1).f0))∧w'.cell? ⟨Bc,1,none⟩=some (.int .i64 ((rd_T35 l0_1 x3_1).f1))∧w'.cell? ⟨Bc,2,none⟩=some (.int .i64 ((rd_T35 l0_1 x3_1).f2))) (ds:=[]) z18q0 (by kernel_rfl) rfl rfl ⟨(bC Ba.out 0).trans rfl,(bC Ba.out 1).trans rfl,(bC Ba.out 2).trans rfl⟩ (fun hHeld=>?_);refine with_st spec_ClockOk.tab5 spec_ClockOk.bits5 (fun _ _ _ _ _ h=>h) (fun HT_=>?_)
     generalize w33.drew=w34 at Bb Ba HB hHeld ⊢
     refine pS 0 18 z18q1 HT_ rfl rfl (by kernel_rfl) (by rfl) (by intro w';go_simp;with_reducible rfl) (by simp only [Act.put,lA,lZ,lS,iw,jw];rfl) ?_
     refine tS 1 19 z18q2 HT_ hHeld rfl rfl (by kernel_rfl) (by rfl) (by rintro w' ⟨s0,s1,s2⟩;go_simp;with_reducible rfl) (by simp only [Act.put,lA,lZ,lS,iw,jw];rfl) ?_
     refine oS 2 20 z18q3 HT_ rfl rfl (by kernel_rfl) (by decide) (fun K hK=>?_)
     refine goes_ Try.func27 (by kernel_rfl) rfl #[.int .i64 ((rd_T35 l0_1 x3_1).f0),.int .i64 0,.int .i64 99] (by rfl) rfl rfl (by (try simp only [lM,lC,lN]);first|done|rfl|(simp only [lD,lT];rfl)) ?_
     with_reducible refine (spec_l6In.calls ((rd_T35 l0_1 x3_1).f0) 0 99 false _ A10.out).mono ?_
     rintro e w' ⟨rfl,⟨nd,rfl⟩⟩
     refine ⟨_,rfl,?_⟩
     refine hK.out _ _ ⟨(bC Ba.out 0).trans rfl,(bC Ba.out 1).trans rfl,(bC Ba.out 2).trans rfl⟩ (fun hHeld=>?_)
     clear hK K
     refine norm_ (by show Act.put _ (some 20) _=_;simp only [Act.put,lA,lZ,lS,iw,jw];rfl) ?_
     refine pS 3 21 z18q4 HT_ rfl rfl (by kernel_rfl) (by rfl) (by intro w';go_simp;with_reducible rfl) (by simp only [Act.put,lA,lZ,lS,iw,jw];rfl) ?_
     refine pS 4 22 z18q5 HT_ rfl rfl (by kernel_rfl) (by rfl) (by intro w';go_simp;with_reducible rfl) (by simp only [Act.put,lA,lZ,lS,iw,jw];rfl) ?_
     refine vS 5 23 z18q6 HT_ rfl rfl (by kernel_rfl) (by rfl) (by simp only [Act.put,lA,lZ,lS,iw,jw];rfl) ?_
     refine vS 6 24 z18q7 HT_ rfl rfl (by kernel_rfl) (by rfl) (by simp only [Act.put,lA,lZ,lS,iw,jw];rfl) ?_
     refine vS 7 25 z18q8 HT_ rfl rfl (by kernel_rfl) (by rfl) (by simp only [Act.put,lA,lZ,lS,iw,jw];rfl) ?_
     refine vS 8 26 z18q9 HT_ rfl rfl (by kernel_rfl) (by rfl) (by simp only [Act.put,lA,lZ,lS,iw,jw];rfl) ?_
     refine pS 9 27 z18q10 HT_ rfl rfl (by kernel_rfl) (by rfl) (by intro w';go_simp;with_reducible rfl) (by simp only [Act.put,lA,lZ,lS,iw,jw];rfl) ?_
     refine pS 10 28 z18q11 HT_ rfl rfl (by kernel_rfl) (by rfl) (by intro w';go_simp;with_reducible rfl) (by simp only [Act.put,lA,lZ,lS,iw,jw];rfl) ?_
     refine vS 11 29 z18q12 HT_ rfl rfl (by kernel_rfl) (by rfl) (by simp only [Act.put,lA,lZ,lS,iw,jw];rfl) ?_
     refine vS 12 30 z18q41 HT_ rfl rfl (by kernel_rfl) (by rfl) (by simp only [Act.put,lA,lZ,lS,iw,jw];rfl) ?_
     refine vS 13 31 z18q14 HT_ rfl rfl (by kernel_rfl) (by rfl) (by simp only [Act.put,lA,lZ,lS,iw,jw];rfl) ?_
     refine vS 14 32 z18q15 HT_ rfl rfl (by kernel_rfl) (by rfl) (by simp only [Act.put,lA,lZ,lS,iw,jw];rfl) ?_
     refine vS 15 33 z18q16 HT_ rfl rfl (by kernel_rfl) (by rfl) (by simp only [Act.put,lA,lZ,lS,iw,jw];rfl) ?_
     refine pS 16 34 z18q17 HT_ rfl rfl (by kernel_rfl) (by rfl) (by intro w';go_simp;with_reducible rfl) (by simp only [Act.put,lA,lZ,lS,iw,jw];rfl) ?_
     refine pS 17 35 z18q18 HT_ rfl rfl (by kernel_rfl) (by rfl) (by intro w';go_simp;with_reducible rfl) (by simp only [Act.put,lA,lZ,lS,iw,jw];rfl) ?_
     refine vS 18 36 z18q19 HT_ rfl rfl (by kernel_rfl) (by rfl) (by simp only [Act.put,lA,lZ,lS,iw,jw];rfl) ?_
     refine vS 19 37 z18q20 HT_ rfl rfl (by kernel_rfl) (by rfl) (by simp only [Act.put,lA,lZ,lS,iw,jw];rfl) ?_
     refine vS 20 38 z18q21 HT_ rfl rfl (by kernel_rfl) (by rfl) (by simp only [Act.put,lA,lZ,lS,iw,jw];rfl) ?_
     refine vS 21 39 z18q22 HT_ rfl rfl (by kernel_rfl) (by rfl) (by simp only [Act.put,lA,lZ,lS,iw,jw];rfl) ?_
     refine pS 22 40 z18q23 HT_ rfl rfl (by kernel_rfl) (by rfl) (by intro w';go_simp;with_reducible rfl) (by simp only [Act.put,lA,lZ,lS,iw,jw];rfl) ?_
     refine pS 23 41 z18q24 HT_ rfl rfl (by kernel_rfl) (by rfl) (by intro w';go_simp;with_reducible rfl) (by simp only [Act.put,lA,lZ,lS,iw,jw];rfl) ?_
     refine vS 24 42 z18q25 HT_ rfl rfl (by kernel_rfl) (by rfl) (by simp only [Act.put,lA,lZ,lS,iw,jw];rfl) ?_
     refine vS 25 43 z18q26 HT_ rfl rfl (by kernel_rfl) (by rfl) (by simp only [Act.put,lA,lZ,lS,iw,jw];rfl) ?_
     refine vS 26 44 z18q27 HT_ rfl rfl (by kernel_rfl) (by rfl) (by simp only [Act.put,lA,lZ,lS,iw,jw];rfl) ?_
     refine vS 27 45 z18q28 HT_ rfl rfl (by kernel_rfl) (by rfl) (by simp only [Act.put,lA,lZ,lS,iw,jw];rfl) ?_
     refine vS 28 46 z18q29 HT_ rfl rfl (by kernel_rfl) (by rfl) (by simp only [Act.put,lA,lZ,lS,iw,jw];rfl) ?_
     refine vS 29 47 z18q30 HT_ rfl rfl (by kernel_rfl) (by rfl) (by simp only [Act.put,lA,lZ,lS,iw,jw];rfl) ?_
     refine vS 30 48 z18q31 HT_ rfl rfl (by kernel_rfl) (by rfl) (by simp only [Act.put,lA,lZ,lS,iw,jw];rfl) ?_
     refine vS 31 49 z18q32 HT_ rfl rfl (by kernel_rfl) (by rfl) (by simp only [Act.put,lA,lZ,lS,iw,jw];rfl) ?_
     refine vS 32 50 z18q33 HT_ rfl rfl (by kernel_rfl) (by rfl) (by simp only [Act.put,lA,lZ,lS,iw,jw];rfl) ?_
     refine vS 33 51 z18q34 HT_ rfl rfl (by kernel_rfl) (by rfl) (by simp only [Act.put,lA,lZ,lS,iw,jw];rfl) ?_
     refine vS 34 52 z18q35 HT_ rfl rfl (by kernel_rfl) (by rfl) (by simp only [Act.put,lA,lZ,lS,iw,jw];rfl) ?_
     refine vS 35 53 z18q36 HT_ rfl rfl (by kernel_rfl) (by rfl) (by simp only [Act.put,lA,lZ,lS,iw,jw];rfl) ?_
     refine vS 36 54 z18q37 HT_ rfl rfl (by kernel_rfl) (by rfl) (by simp only [Act.put,lA,lZ,lS,iw,jw];rfl) ?_
     refine pS 37 55 z18q38 HT_ rfl rfl (by kernel_rfl) (by rfl) (by intro w';go_simp;with_reducible rfl) (by simp only [Act.put,lA,lZ,lS,iw,jw];rfl) ?_
     refine done_ (done_of HT_.out (by kernel_rfl)) ?_
     try go_wp2
     go_meet
     case rel=>exact ⟨_,(true),(by first|rfl|(simp;done)|(simp [*];done)),H',⟨by have:=HK1.out;first|omega|exact nR _⟩,⟨by (with_reducible repeat (first|refine bN ?_ _|refine bD ?_|refine bA ?_ _));exact Bb.out⟩,⟨by (with_reducible repeat (first|refine bN ?_ _|refine bD ?_|refine bA ?_ _));exact Ba.out⟩,⟨by repeat (first|(with_reducible first|exact HB.out|apply oA|apply pN|apply o1|refine bS ?_ Be.out|refine bS ?_ Bf.out)|exact HB.out)⟩⟩
    subst c11
    have H1:((spec_l19Time.f ((rd_T35 l0_1 x3_1).f1)).bind fun t128=>(if t128=true then (if ((rd_T35 l0_1 x3_1).f1)≤a0_0 then (spec_ClockOk.j1 k1 x3_1 true a0_0 l0_1 ((rd_T35 l0_1 x3_1).f0) ((rd_T35 l0_1 x3_1).f1) ((rd_T35 l0_1 x3_1).f2)) else ((spec_l6In.f ((rd_T35 l0_1 x3_1).f2) 0 99).bind fun t129=>(if t129=true then (if x3_1 > 0 then (if 0≤(wrap64 (x3_1 - 1)) then (if (wrap64 (x3_1 - 1))<(l0_1.length:Int) then ((spec_l19Ahead.f ((rd_T35 l0_1 (wrap64 (x3_1 - 1))).f0) ((rd_T35 l0_1 (wrap64 (x3_1 - 1))).f1) ((rd_T35 l0_1 (wrap64 (x3_1 - 1))).f2) ((rd_T35 l0_1 x3_1).f0) ((rd_T35 l0_1 x3_1).f1) ((rd_T35 l0_1 x3_1).f2)).bind fun t131=>(spec_ClockOk.j1 k1 x3_1 (!t131) a0_0 l0_1 ((rd_T35 l0_1 x3_1).f0) ((rd_T35 l0_1 x3_1).f1) ((rd_T35 l0_1 x3_1).f2))) else (none)) else (none)) else (spec_ClockOk.j1 k1 x3_1 false a0_0 l0_1 ((rd_T35 l0_1 x3_1).f0) ((rd_T35 l0_1 x3_1).f1) ((rd_T35 l0_1 x3_1).f2))) else (spec_ClockOk.j1 k1 x3_1 true a0_0 l0_1 ((rd_T35 l0_1 x3_1).f0) ((rd_T35 l0_1 x3_1).f1) ((rd_T35 l0_1 x3_1).f2))))) else (spec_ClockOk.j1 k1 x3_1 true a0_0 l0_1 ((rd_T35 l0_1 x3_1).f0) ((rd_T35 l0_1 x3_1).f1) ((rd_T35 l0_1 x3_1).f2))))=some r:=by rw [if_pos rfl] at H;exact H
    clear H
    have H:=H1
    clear H1
    replace H:=oC H
    obtain ⟨t128,A120,H⟩:=H
    replace H:(if t128=true then (if ((rd_T35 l0_1 x3_1).f1)≤a0_0 then (spec_ClockOk.j1 k1 x3_1 true a0_0 l0_1 ((rd_T35 l0_1 x3_1).f0) ((rd_T35 l0_1 x3_1).f1) ((rd_T35 l0_1 x3_1).f2)) else ((spec_l6In.f ((rd_T35 l0_1 x3_1).f2) 0 99).bind fun t129=>(if t129=true then (if x3_1 > 0 then (if 0≤(wrap64 (x3_1 - 1)) then (if (wrap64 (x3_1 - 1))<(l0_1.length:Int) then ((spec_l19Ahead.f ((rd_T35 l0_1 (wrap64 (x3_1 - 1))).f0) ((rd_T35 l0_1 (wrap64 (x3_1 - 1))).f1) ((rd_T35 l0_1 (wrap64 (x3_1 - 1))).f2) ((rd_T35 l0_1 x3_1).f0) ((rd_T35 l0_1 x3_1).f1) ((rd_T35 l0_1 x3_1).f2)).bind fun t131=>(spec_ClockOk.j1 k1 x3_1 (!t131) a0_0 l0_1 ((rd_T35 l0_1 x3_1).f0) ((rd_T35 l0_1 x3_1).f1) ((rd_T35 l0_1 x3_1).f2))) else (none)) else (none)) else (spec_ClockOk.j1 k1 x3_1 false a0_0 l0_1 ((rd_T35 l0_1 x3_1).f0) ((rd_T35 l0_1 x3_1).f1) ((rd_T35 l0_1 x3_1).f2))) else (spec_ClockOk.j1 k1 x3_1 true a0_0 l0_1 ((rd_T35 l0_1 x3_1).f0) ((rd_T35 l0_1 x3_1).f1) ((rd_T35 l0_1 x3_1).f2))))) else (spec_ClockOk.j1 k1 x3_1 true a0_0 l0_1 ((rd_T35 l0_1 x3_1).f0) ((rd_T35 l0_1 x3_1).f1) ((rd_T35 l0_1 x3_1).f2)))=some r:=H
    have A12:=Am A120
    clear A120
    by_cases c13:t128=true
    rotate_left
    ·replace c13:=Bool.eq_false_iff.mpr c13
     subst c13
     have H1:(spec_ClockOk.j1 k1 x3_1 true a0_0 l0_1 ((rd_T35 l0_1 x3_1).f0) ((rd_T35 l0_1 x3_1).f1) ((rd_T35 l0_1 x3_1).f2))=some r:=by rw [if_neg (show ¬ (false=true) by decide)] at H;exact H
     clear H
     have H:=H1
     clear H1
     have H':=Am H
     clear H
     try go_wp2
     have n0_:Aside0 ((((w7.setCell ⟨Bc,0,none⟩ (.int .i64 ((rd_T35 l0_1 x3_1).f0))).setCell ⟨Bc,1,none⟩ (.int .i64 ((rd_T35 l0_1 x3_1).f1))).setCell ⟨Bc,2,none⟩ (.int .i64 ((rd_T35 l0_1 x3_1).f2))).heap[Bd]?=some (.cells #[.int .i64 a0_0,.slice (some ad125) l0_1.length c0_1] 25 (0,0))):=⟨by (with_reducible repeat (first|refine bN ?_ _|refine bD ?_|refine bA ?_ _|refine bE ?_ Bg.out _));exact Bb.out⟩
     have n1_:Aside0 ((((w7.setCell ⟨Bc,0,none⟩ (.int .i64 ((rd_T35 l0_1 x3_1).f0))).setCell ⟨Bc,1,none⟩ (.int .i64 ((rd_T35 l0_1 x3_1).f1))).setCell ⟨Bc,2,none⟩ (.int .i64 ((rd_T35 l0_1 x3_1).f2))).heap[Bc]?=some (.cells #[.int .i64 ((rd_T35 l0_1 x3_1).f0),.int .i64 ((rd_T35 l0_1 x3_1).f1),.int .i64 ((rd_T35 l0_1 x3_1).f2)] 35 (0,0))):=⟨by (with_reducible repeat (first|refine bN ?_ _|refine bD ?_|refine bA ?_ _));refine bT (cs:=#[.int .i64 ((rd_T35 l0_1 x3_1).f0),.int .i64 ((rd_T35 l0_1 x3_1).f1),.int .i64 0]) ?_ 2 _ rfl;(with_reducible repeat (first|refine bN ?_ _|refine bD ?_|refine bA ?_ _));refine bT (cs:=#[.int .i64 ((rd_T35 l0_1 x3_1).f0),.int .i64 0,.int .i64 0]) ?_ 1 _ rfl;(with_reducible repeat (first|refine bN ?_ _|refine bD ?_|refine bA ?_ _));refine bT (cs:=#[.int .i64 0,.int .i64 0,.int .i64 0]) ?_ 0 _ rfl;(with_reducible repeat (first|refine bN ?_ _|refine bD ?_|refine bA ?_ _));exact Ba.out⟩
     have n2_:Aside0 (Below w.heap.size w (((w7.setCell ⟨Bc,0,none⟩ (.int .i64 ((rd_T35 l0_1 x3_1).f0))).setCell ⟨Bc,1,none⟩ (.int .i64 ((rd_T35 l0_1 x3_1).f1))).setCell ⟨Bc,2,none⟩ (.int .i64 ((rd_T35 l0_1 x3_1).f2)))):=⟨by repeat (first|(with_reducible first|exact HB.out|apply oA|apply pN|apply o1|refine bS ?_ Be.out|refine bS ?_ Bf.out)|exact HB.out)⟩
     (try clear Bb)
     (try clear Ba)
     (try clear HB)
     generalize (((w7.setCell ⟨Bc,0,none⟩ (.int .i64 ((rd_T35 l0_1 x3_1).f0))).setCell ⟨Bc,1,none⟩ (.int .i64 ((rd_T35 l0_1 x3_1).f1))).setCell ⟨Bc,2,none⟩ (.int .i64 ((rd_T35 l0_1 x3_1).f2)))=w31 at n0_ n1_ n2_ ⊢
     have Bb:=n0_
     have Ba:=n1_
     have HB:=n2_
     clear n0_ n1_ n2_
     have n0_:=Am (bD Bb.out)
     have n1_:=Am (bD Ba.out)
     have n2_:=Am (o1 HB.out)
     clear Bb
     clear Ba
     clear HB
     have Bb:=n0_
     have Ba:=n1_
     have HB:=n2_
     clear n0_ n1_ n2_
     refine start_ (n:=38) (S:=fun w'=>w'.cell? ⟨Bc,0,none⟩=some (.int .i64 ((rd_T35 l0_1 x3_1).f0))∧w'.cell? ⟨Bc,1,none⟩=some (.int .i64 ((rd_T35 l0_1 x3_1).f1))∧w'.cell? ⟨Bc,2,none⟩=some (.int .i64 ((rd_T35 l0_1 x3_1).f2))) (ds:=[]) z18q0 (by kernel_rfl) rfl rfl ⟨(bC Ba.out 0).trans rfl,(bC Ba.out 1).trans rfl,(bC Ba.out 2).trans rfl⟩ (fun hHeld=>?_);refine with_st spec_ClockOk.tab5 spec_ClockOk.bits5 (fun _ _ _ _ _ h=>h) (fun HT_=>?_)
     generalize w31.drew=w32 at Bb Ba HB hHeld ⊢
     refine pS 0 18 z18q1 HT_ rfl rfl (by kernel_rfl) (by rfl) (by intro w';go_simp;with_reducible rfl) (by simp only [Act.put,lA,lZ,lS,iw,jw];rfl) ?_
     refine tS 1 19 z18q2 HT_ hHeld rfl rfl (by kernel_rfl) (by rfl) (by rintro w' ⟨s0,s1,s2⟩;go_simp;with_reducible rfl) (by simp only [Act.put,lA,lZ,lS,iw,jw];rfl) ?_
     refine oS 2 20 z18q3 HT_ rfl rfl (by kernel_rfl) (by decide) (fun K hK=>?_)
     refine goes_ Try.func27 (by kernel_rfl) rfl #[.int .i64 ((rd_T35 l0_1 x3_1).f0),.int .i64 0,.int .i64 99] (by rfl) rfl rfl (by (try simp only [lM,lC,lN]);first|done|rfl|(simp only [lD,lT];rfl)) ?_
     with_reducible refine (spec_l6In.calls ((rd_T35 l0_1 x3_1).f0) 0 99 true _ A10.out).mono ?_
     rintro e w' ⟨rfl,⟨nd,rfl⟩⟩
     refine ⟨_,rfl,?_⟩
     refine hK.out _ _ ⟨(bC Ba.out 0).trans rfl,(bC Ba.out 1).trans rfl,(bC Ba.out 2).trans rfl⟩ (fun hHeld=>?_)
     clear hK K
     refine norm_ (by show Act.put _ (some 20) _=_;simp only [Act.put,lA,lZ,lS,iw,jw];rfl) ?_
     refine pS 3 21 z18q4 HT_ rfl rfl (by kernel_rfl) (by rfl) (by intro w';go_simp;with_reducible rfl) (by simp only [Act.put,lA,lZ,lS,iw,jw];rfl) ?_
     refine pS 4 22 z18q5 HT_ rfl rfl (by kernel_rfl) (by rfl) (by intro w';go_simp;with_reducible rfl) (by simp only [Act.put,lA,lZ,lS,iw,jw];rfl) ?_
     refine pS 5 23 z18q6 HT_ rfl rfl (by kernel_rfl) (by rfl) (by intro w';go_simp;with_reducible rfl) (by simp only [Act.put,lA,lZ,lS,iw,jw];rfl) ?_
     refine tS 6 24 z18q7 HT_ hHeld rfl rfl (by kernel_rfl) (by rfl) (by rintro w' ⟨s0,s1,s2⟩;go_simp;with_reducible rfl) (by simp only [Act.put,lA,lZ,lS,iw,jw];rfl) ?_
     refine oS 7 25 z18q8 HT_ rfl rfl (by kernel_rfl) (by decide) (fun K hK=>?_)
     refine goes_ Try.func28 (by kernel_rfl) rfl #[.int .i64 ((rd_T35 l0_1 x3_1).f1)] (by rfl) rfl rfl (by (try simp only [lM,lC,lN]);first|done|rfl|(simp only [lD,lT];rfl)) ?_
     with_reducible refine (spec_l19Time.calls ((rd_T35 l0_1 x3_1).f1) false _ A12.out).mono ?_
     rintro e w' ⟨rfl,⟨nd,rfl⟩⟩
     refine ⟨_,rfl,?_⟩
     refine hK.out _ _ ⟨(bC Ba.out 0).trans rfl,(bC Ba.out 1).trans rfl,(bC Ba.out 2).trans rfl⟩ (fun hHeld=>?_)
     clear hK K
     refine norm_ (by show Act.put _ (some 25) _=_;simp only [Act.put,lA,lZ,lS,iw,jw];rfl) ?_
     refine pS 8 26 z18q9 HT_ rfl rfl (by kernel_rfl) (by rfl) (by intro w';go_simp;with_reducible rfl) (by simp only [Act.put,lA,lZ,lS,iw,jw];rfl) ?_
     refine pS 9 27 z18q10 HT_ rfl rfl (by kernel_rfl) (by rfl) (by intro w';go_simp;with_reducible rfl) (by simp only [Act.put,lA,lZ,lS,iw,jw];rfl) ?_
     refine pS 10 28 z18q11 HT_ rfl rfl (by kernel_rfl) (by rfl) (by intro w';go_simp;with_reducible rfl) (by simp only [Act.put,lA,lZ,lS,iw,jw];rfl) ?_
     refine vS 11 29 z18q12 HT_ rfl rfl (by kernel_rfl) (by rfl) (by simp only [Act.put,lA,lZ,lS,iw,jw];rfl) ?_
     refine vS 12 30 z18q41 HT_ rfl rfl (by kernel_rfl) (by rfl) (by simp only [Act.put,lA,lZ,lS,iw,jw];rfl) ?_
     refine vS 13 31 z18q14 HT_ rfl rfl (by kernel_rfl) (by rfl) (by simp only [Act.put,lA,lZ,lS,iw,jw];rfl) ?_
     refine vS 14 32 z18q15 HT_ rfl rfl (by kernel_rfl) (by rfl) (by simp only [Act.put,lA,lZ,lS,iw,jw];rfl) ?_
     refine vS 15 33 z18q16 HT_ rfl rfl (by kernel_rfl) (by rfl) (by simp only [Act.put,lA,lZ,lS,iw,jw];rfl) ?_
     refine pS 16 34 z18q17 HT_ rfl rfl (by kernel_rfl) (by rfl) (by intro w';go_simp;with_reducible rfl) (by simp only [Act.put,lA,lZ,lS,iw,jw];rfl) ?_
     refine pS 17 35 z18q18 HT_ rfl rfl (by kernel_rfl) (by rfl) (by intro w';go_simp;with_reducible rfl) (by simp only [Act.put,lA,lZ,lS,iw,jw];rfl) ?_
     refine vS 18 36 z18q19 HT_ rfl rfl (by kernel_rfl) (by rfl) (by simp only [Act.put,lA,lZ,lS,iw,jw];rfl) ?_
     refine vS 19 37 z18q20 HT_ rfl rfl (by kernel_rfl) (by rfl) (by simp only [Act.put,lA,lZ,lS,iw,jw];rfl) ?_
     refine vS 20 38 z18q21 HT_ rfl rfl (by kernel_rfl) (by rfl) (by simp only [Act.put,lA,lZ,lS,iw,jw];rfl) ?_
     refine vS 21 39 z18q22 HT_ rfl rfl (by kernel_rfl) (by rfl) (by simp only [Act.put,lA,lZ,lS,iw,jw];rfl) ?_
     refine pS 22 40 z18q23 HT_ rfl rfl (by kernel_rfl) (by rfl) (by intro w';go_simp;with_reducible rfl) (by simp only [Act.put,lA,lZ,lS,iw,jw];rfl) ?_
     refine pS 23 41 z18q24 HT_ rfl rfl (by kernel_rfl) (by rfl) (by intro w';go_simp;with_reducible rfl) (by simp only [Act.put,lA,lZ,lS,iw,jw];rfl) ?_
     refine vS 24 42 z18q25 HT_ rfl rfl (by kernel_rfl) (by rfl) (by simp only [Act.put,lA,lZ,lS,iw,jw];rfl) ?_
     refine vS 25 43 z18q26 HT_ rfl rfl (by kernel_rfl) (by rfl) (by simp only [Act.put,lA,lZ,lS,iw,jw];rfl) ?_
     refine vS 26 44 z18q27 HT_ rfl rfl (by kernel_rfl) (by rfl) (by simp only [Act.put,lA,lZ,lS,iw,jw];rfl) ?_
     refine vS 27 45 z18q28 HT_ rfl rfl (by kernel_rfl) (by rfl) (by simp only [Act.put,lA,lZ,lS,iw,jw];rfl) ?_
     refine vS 28 46 z18q29 HT_ rfl rfl (by kernel_rfl) (by rfl) (by simp only [Act.put,lA,lZ,lS,iw,jw];rfl) ?_
     refine vS 29 47 z18q30 HT_ rfl rfl (by kernel_rfl) (by rfl) (by simp only [Act.put,lA,lZ,lS,iw,jw];rfl) ?_
     refine vS 30 48 z18q31 HT_ rfl rfl (by kernel_rfl) (by rfl) (by simp only [Act.put,lA,lZ,lS,iw,jw];rfl) ?_
     refine vS 31 49 z18q32 HT_ rfl rfl (by kernel_rfl) (by rfl) (by simp only [Act.put,lA,lZ,lS,iw,jw];rfl) ?_
     refine vS 32 50 z18q33 HT_ rfl rfl (by kernel_rfl) (by rfl) (by simp only [Act.put,lA,lZ,lS,iw,jw];rfl) ?_
     refine vS 33 51 z18q34 HT_ rfl rfl (by kernel_rfl) (by rfl) (by simp only [Act.put,lA,lZ,lS,iw,jw];rfl) ?_
     refine vS 34 52 z18q35 HT_ rfl rfl (by kernel_rfl) (by rfl) (by simp only [Act.put,lA,lZ,lS,iw,jw];rfl) ?_
     refine vS 35 53 z18q36 HT_ rfl rfl (by kernel_rfl) (by rfl) (by simp only [Act.put,lA,lZ,lS,iw,jw];rfl) ?_
     refine vS 36 54 z18q37 HT_ rfl rfl (by kernel_rfl) (by rfl) (by simp only [Act.put,lA,lZ,lS,iw,jw];rfl) ?_
     refine pS 37 55 z18q38 HT_ rfl rfl (by kernel_rfl) (by rfl) (by intro w';go_simp;with_reducible rfl) (by simp only [Act.put,lA,lZ,lS,iw,jw];rfl) ?_
     refine done_ (done_of HT_.out (by kernel_rfl)) ?_
     try go_wp2
     go_meet
     case rel=>exact ⟨_,(true),(by first|rfl|(simp;done)|(simp [*];done)),H',⟨by have:=HK1.out;first|omega|exact nR _⟩,⟨by (with_reducible repeat (first|refine bN ?_ _|refine bD ?_|refine bA ?_ _));exact Bb.out⟩,⟨by (with_reducible repeat (first|refine bN ?_ _|refine bD ?_|refine bA ?_ _));exact Ba.out⟩,⟨by repeat (first|(with_reducible first|exact HB.out|apply oA|apply pN|apply o1|refine bS ?_ Be.out|refine bS ?_ Bf.out)|exact HB.out)⟩⟩
    subst c13
    have H1:(if ((rd_T35 l0_1 x3_1).f1)≤a0_0 then (spec_ClockOk.j1 k1 x3_1 true a0_0 l0_1 ((rd_T35 l0_1 x3_1).f0) ((rd_T35 l0_1 x3_1).f1) ((rd_T35 l0_1 x3_1).f2)) else ((spec_l6In.f ((rd_T35 l0_1 x3_1).f2) 0 99).bind fun t129=>(if t129=true then (if x3_1 > 0 then (if 0≤(wrap64 (x3_1 - 1)) then (if (wrap64 (x3_1 - 1))<(l0_1.length:Int) then ((spec_l19Ahead.f ((rd_T35 l0_1 (wrap64 (x3_1 - 1))).f0) ((rd_T35 l0_1 (wrap64 (x3_1 - 1))).f1) ((rd_T35 l0_1 (wrap64 (x3_1 - 1))).f2) ((rd_T35 l0_1 x3_1).f0) ((rd_T35 l0_1 x3_1).f1) ((rd_T35 l0_1 x3_1).f2)).bind fun t131=>(spec_ClockOk.j1 k1 x3_1 (!t131) a0_0 l0_1 ((rd_T35 l0_1 x3_1).f0) ((rd_T35 l0_1 x3_1).f1) ((rd_T35 l0_1 x3_1).f2))) else (none)) else (none)) else (spec_ClockOk.j1 k1 x3_1 false a0_0 l0_1 ((rd_T35 l0_1 x3_1).f0) ((rd_T35 l0_1 x3_1).f1) ((rd_T35 l0_1 x3_1).f2))) else (spec_ClockOk.j1 k1 x3_1 true a0_0 l0_1 ((rd_T35 l0_1 x3_1).f0) ((rd_T35 l0_1 x3_1).f1) ((rd_T35 l0_1 x3_1).f2)))))=some r:=by rw [if_pos rfl] at H;exact H
    clear H
    have H:=H1
    clear H1
    by_cases c14:((rd_T35 l0_1 x3_1).f1)≤a0_0
    ·rw [if_pos c14] at H
     have c14b0:decide (((rd_T35 l0_1 x3_1).f1)≤a0_0)=true:=dT c14
     clear c14
     (first|rw [c14b0]|(simp only [i64_w,i32_w];rw [c14b0])|skip)
     have H':=Am H
     clear H
     try go_wp2
     have n0_:Aside0 ((((w7.setCell ⟨Bc,0,none⟩ (.int .i64 ((rd_T35 l0_1 x3_1).f0))).setCell ⟨Bc,1,none⟩ (.int .i64 ((rd_T35 l0_1 x3_1).f1))).setCell ⟨Bc,2,none⟩ (.int .i64 ((rd_T35 l0_1 x3_1).f2))).heap[Bd]?=some (.cells #[.int .i64 a0_0,.slice (some ad125) l0_1.length c0_1] 25 (0,0))):=⟨by (with_reducible repeat (first|refine bN ?_ _|refine bD ?_|refine bA ?_ _|refine bE ?_ Bg.out _));exact Bb.out⟩
     have n1_:Aside0 ((((w7.setCell ⟨Bc,0,none⟩ (.int .i64 ((rd_T35 l0_1 x3_1).f0))).setCell ⟨Bc,1,none⟩ (.int .i64 ((rd_T35 l0_1 x3_1).f1))).setCell ⟨Bc,2,none⟩ (.int .i64 ((rd_T35 l0_1 x3_1).f2))).heap[Bc]?=some (.cells #[.int .i64 ((rd_T35 l0_1 x3_1).f0),.int .i64 ((rd_T35 l0_1 x3_1).f1),.int .i64 ((rd_T35 l0_1 x3_1).f2)] 35 (0,0))):=⟨by (with_reducible repeat (first|refine bN ?_ _|refine bD ?_|refine bA ?_ _));refine bT (cs:=#[.int .i64 ((rd_T35 l0_1 x3_1).f0),.int .i64 ((rd_T35 l0_1 x3_1).f1),.int .i64 0]) ?_ 2 _ rfl;(with_reducible repeat (first|refine bN ?_ _|refine bD ?_|refine bA ?_ _));refine bT (cs:=#[.int .i64 ((rd_T35 l0_1 x3_1).f0),.int .i64 0,.int .i64 0]) ?_ 1 _ rfl;(with_reducible repeat (first|refine bN ?_ _|refine bD ?_|refine bA ?_ _));refine bT (cs:=#[.int .i64 0,.int .i64 0,.int .i64 0]) ?_ 0 _ rfl;(with_reducible repeat (first|refine bN ?_ _|refine bD ?_|refine bA ?_ _));exact Ba.out⟩
     have n2_:Aside0 (Below w.heap.size w (((w7.setCell ⟨Bc,0,none⟩ (.int .i64 ((rd_T35 l0_1 x3_1).f0))).setCell ⟨Bc,1,none⟩ (.int .i64 ((rd_T35 l0_1 x3_1).f1))).setCell ⟨Bc,2,none⟩ (.int .i64 ((rd_T35 l0_1 x3_1).f2)))):=⟨by repeat (first|(with_reducible first|exact HB.out|apply oA|apply pN|apply o1|refine bS ?_ Be.out|refine bS ?_ Bf.out)|exact HB.out)⟩
     (try clear Bb)
     (try clear Ba)
     (try clear HB)
     generalize (((w7.setCell ⟨Bc,0,none⟩ (.int .i64 ((rd_T35 l0_1 x3_1).f0))).setCell ⟨Bc,1,none⟩ (.int .i64 ((rd_T35 l0_1 x3_1).f1))).setCell ⟨Bc,2,none⟩ (.int .i64 ((rd_T35 l0_1 x3_1).f2)))=w15 at n0_ n1_ n2_ ⊢
     have Bb:=n0_
     have Ba:=n1_
     have HB:=n2_
     clear n0_ n1_ n2_
     have n0_:=Am (bD Bb.out)
     have n1_:=Am (bD Ba.out)
     have n2_:=Am (o1 HB.out)
     clear Bb
     clear Ba
     clear HB
     have Bb:=n0_
     have Ba:=n1_
     have HB:=n2_
     clear n0_ n1_ n2_
     refine start_ (n:=38) (S:=fun w'=>w'.cell? ⟨Bc,0,none⟩=some (.int .i64 ((rd_T35 l0_1 x3_1).f0))∧w'.cell? ⟨Bc,1,none⟩=some (.int .i64 ((rd_T35 l0_1 x3_1).f1))∧w'.cell? ⟨Bc,2,none⟩=some (.int .i64 ((rd_T35 l0_1 x3_1).f2))∧w'.cell? ⟨Bd,0,none⟩=some (.int .i64 a0_0)∧w'.cell? ⟨Bd,1,none⟩=some (.slice (some ad125) l0_1.length c0_1)) (ds:=[]) z18q0 (by kernel_rfl) rfl rfl ⟨(bC Ba.out 0).trans rfl,(bC Ba.out 1).trans rfl,(bC Ba.out 2).trans rfl,(bC Bb.out 0).trans rfl,(bC Bb.out 1).trans rfl⟩ (fun hHeld=>?_);refine with_st spec_ClockOk.tab5 spec_ClockOk.bits5 (fun _ _ _ _ _ h=>h) (fun HT_=>?_)
     generalize w15.drew=w16 at Bb Ba HB hHeld ⊢
     refine pS 0 18 z18q1 HT_ rfl rfl (by kernel_rfl) (by rfl) (by intro w';go_simp;with_reducible rfl) (by simp only [Act.put,lA,lZ,lS,iw,jw];rfl) ?_
     refine tS 1 19 z18q2 HT_ hHeld rfl rfl (by kernel_rfl) (by rfl) (by rintro w' ⟨s0,s1,s2,s3,s4⟩;go_simp;with_reducible rfl) (by simp only [Act.put,lA,lZ,lS,iw,jw];rfl) ?_
     refine oS 2 20 z18q3 HT_ rfl rfl (by kernel_rfl) (by decide) (fun K hK=>?_)
     refine goes_ Try.func27 (by kernel_rfl) rfl #[.int .i64 ((rd_T35 l0_1 x3_1).f0),.int .i64 0,.int .i64 99] (by rfl) rfl rfl (by (try simp only [lM,lC,lN]);first|done|rfl|(simp only [lD,lT];rfl)) ?_
     with_reducible refine (spec_l6In.calls ((rd_T35 l0_1 x3_1).f0) 0 99 true _ A10.out).mono ?_
     rintro e w' ⟨rfl,⟨nd,rfl⟩⟩
     refine ⟨_,rfl,?_⟩
     refine hK.out _ _ ⟨(bC Ba.out 0).trans rfl,(bC Ba.out 1).trans rfl,(bC Ba.out 2).trans rfl,(bC Bb.out 0).trans rfl,(bC Bb.out 1).trans rfl⟩ (fun hHeld=>?_)
     clear hK K
     refine norm_ (by show Act.put _ (some 20) _=_;simp only [Act.put,lA,lZ,lS,iw,jw];rfl) ?_
     refine pS 3 21 z18q4 HT_ rfl rfl (by kernel_rfl) (by rfl) (by intro w';go_simp;with_reducible rfl) (by simp only [Act.put,lA,lZ,lS,iw,jw];rfl) ?_
     refine pS 4 22 z18q5 HT_ rfl rfl (by kernel_rfl) (by rfl) (by intro w';go_simp;with_reducible rfl) (by simp only [Act.put,lA,lZ,lS,iw,jw];rfl) ?_
     refine pS 5 23 z18q6 HT_ rfl rfl (by kernel_rfl) (by rfl) (by intro w';go_simp;with_reducible rfl) (by simp only [Act.put,lA,lZ,lS,iw,jw];rfl) ?_
     refine tS 6 24 z18q7 HT_ hHeld rfl rfl (by kernel_rfl) (by rfl) (by rintro w' ⟨s0,s1,s2,s3,s4⟩;go_simp;with_reducible rfl) (by simp only [Act.put,lA,lZ,lS,iw,jw];rfl) ?_
     refine oS 7 25 z18q8 HT_ rfl rfl (by kernel_rfl) (by decide) (fun K hK=>?_)
     refine goes_ Try.func28 (by kernel_rfl) rfl #[.int .i64 ((rd_T35 l0_1 x3_1).f1)] (by rfl) rfl rfl (by (try simp only [lM,lC,lN]);first|done|rfl|(simp only [lD,lT];rfl)) ?_
     with_reducible refine (spec_l19Time.calls ((rd_T35 l0_1 x3_1).f1) true _ A12.out).mono ?_
     rintro e w' ⟨rfl,⟨nd,rfl⟩⟩
     refine ⟨_,rfl,?_⟩
     refine hK.out _ _ ⟨(bC Ba.out 0).trans rfl,(bC Ba.out 1).trans rfl,(bC Ba.out 2).trans rfl,(bC Bb.out 0).trans rfl,(bC Bb.out 1).trans rfl⟩ (fun hHeld=>?_)
     clear hK K
     refine norm_ (by show Act.put _ (some 25) _=_;simp only [Act.put,lA,lZ,lS,iw,jw];rfl) ?_
     refine pS 8 26 z18q9 HT_ rfl rfl (by kernel_rfl) (by rfl) (by intro w';go_simp;with_reducible rfl) (by simp only [Act.put,lA,lZ,lS,iw,jw];rfl) ?_
     refine pS 9 27 z18q10 HT_ rfl rfl (by kernel_rfl) (by rfl) (by intro w';go_simp;with_reducible rfl) (by simp only [Act.put,lA,lZ,lS,iw,jw];rfl) ?_
     refine pS 10 28 z18q11 HT_ rfl rfl (by kernel_rfl) (by rfl) (by intro w';go_simp;with_reducible rfl) (by simp only [Act.put,lA,lZ,lS,iw,jw];rfl) ?_
     refine pS 11 29 z18q12 HT_ rfl rfl (by kernel_rfl) (by rfl) (by intro w';go_simp;with_reducible rfl) (by simp only [Act.put,lA,lZ,lS,iw,jw];rfl) ?_
     refine pS 13 31 z18q13 HT_ rfl rfl (by kernel_rfl) (by rfl) (by intro w';go_simp;with_reducible rfl) (by simp only [Act.put,lA,lZ,lS,iw,jw];rfl) ?_
     refine tS 12 30 z18q14 HT_ hHeld rfl rfl (by kernel_rfl) (by rfl) (by rintro w' ⟨s0,s1,s2,s3,s4⟩;go_simp;with_reducible rfl) (by simp only [Act.put,lA,lZ,lS,iw,jw];rfl) ?_
     refine tS 14 32 z18q15 HT_ hHeld rfl rfl (by kernel_rfl) (by rfl) (by rintro w' ⟨s0,s1,s2,s3,s4⟩;go_simp;with_reducible rfl) (by simp only [Act.put,lA,lZ,lS,iw,jw];rfl) ?_
     refine pS 15 33 z18q16 HT_ rfl rfl (by kernel_rfl) (by rfl) (by intro w';go_simp;with_reducible rfl) (by simp only [Act.put,lA,lZ,lS,iw,jw];rfl) ?_
     refine pS 16 34 z18q17 HT_ rfl rfl (by kernel_rfl) (by rfl) (by intro w';go_simp;with_reducible rfl) (by simp only [Act.put,lA,lZ,lS,iw,jw];rfl) ?_
     refine pS 17 35 z18q18 HT_ rfl rfl (by kernel_rfl) (by rfl) (by intro w';go_simp;with_reducible rfl) (by simp only [Act.put,lA,lZ,lS,iw,jw];rfl) ?_
     refine vS 18 36 z18q19 HT_ rfl rfl (by kernel_rfl) (by rfl) (by simp only [Act.put,lA,lZ,lS,iw,jw];rfl) ?_
     refine vS 19 37 z18q20 HT_ rfl rfl (by kernel_rfl) (by rfl) (by simp only [Act.put,lA,lZ,lS,iw,jw];rfl) ?_
     refine vS 20 38 z18q21 HT_ rfl rfl (by kernel_rfl) (by rfl) (by simp only [Act.put,lA,lZ,lS,iw,jw];rfl) ?_
     refine vS 21 39 z18q22 HT_ rfl rfl (by kernel_rfl) (by rfl) (by simp only [Act.put,lA,lZ,lS,iw,jw];rfl) ?_
     refine pS 22 40 z18q23 HT_ rfl rfl (by kernel_rfl) (by rfl) (by intro w';go_simp;with_reducible rfl) (by simp only [Act.put,lA,lZ,lS,iw,jw];rfl) ?_
     refine pS 23 41 z18q24 HT_ rfl rfl (by kernel_rfl) (by rfl) (by intro w';go_simp;with_reducible rfl) (by simp only [Act.put,lA,lZ,lS,iw,jw];rfl) ?_
     refine vS 24 42 z18q25 HT_ rfl rfl (by kernel_rfl) (by rfl) (by simp only [Act.put,lA,lZ,lS,iw,jw];rfl) ?_
     refine vS 25 43 z18q26 HT_ rfl rfl (by kernel_rfl) (by rfl) (by simp only [Act.put,lA,lZ,lS,iw,jw];rfl) ?_
     refine vS 26 44 z18q27 HT_ rfl rfl (by kernel_rfl) (by rfl) (by simp only [Act.put,lA,lZ,lS,iw,jw];rfl) ?_
     refine vS 27 45 z18q28 HT_ rfl rfl (by kernel_rfl) (by rfl) (by simp only [Act.put,lA,lZ,lS,iw,jw];rfl) ?_
     refine vS 28 46 z18q29 HT_ rfl rfl (by kernel_rfl) (by rfl) (by simp only [Act.put,lA,lZ,lS,iw,jw];rfl) ?_
     refine vS 29 47 z18q30 HT_ rfl rfl (by kernel_rfl) (by rfl) (by simp only [Act.put,lA,lZ,lS,iw,jw];rfl) ?_
     refine vS 30 48 z18q31 HT_ rfl rfl (by kernel_rfl) (by rfl) (by simp only [Act.put,lA,lZ,lS,iw,jw];rfl) ?_
     refine vS 31 49 z18q32 HT_ rfl rfl (by kernel_rfl) (by rfl) (by simp only [Act.put,lA,lZ,lS,iw,jw];rfl) ?_
     refine vS 32 50 z18q33 HT_ rfl rfl (by kernel_rfl) (by rfl) (by simp only [Act.put,lA,lZ,lS,iw,jw];rfl) ?_
     refine vS 33 51 z18q34 HT_ rfl rfl (by kernel_rfl) (by rfl) (by simp only [Act.put,lA,lZ,lS,iw,jw];rfl) ?_
     refine vS 34 52 z18q35 HT_ rfl rfl (by kernel_rfl) (by rfl) (by simp only [Act.put,lA,lZ,lS,iw,jw];rfl) ?_
     refine vS 35 53 z18q36 HT_ rfl rfl (by kernel_rfl) (by rfl) (by simp only [Act.put,lA,lZ,lS,iw,jw];rfl) ?_
     refine vS 36 54 z18q37 HT_ rfl rfl (by kernel_rfl) (by rfl) (by simp only [Act.put,lA,lZ,lS,iw,jw];rfl) ?_
     refine pS 37 55 z18q38 HT_ rfl rfl (by kernel_rfl) (by rfl) (by intro w';go_simp;with_reducible rfl) (by simp only [Act.put,lA,lZ,lS,iw,jw];rfl) ?_
     refine done_ (done_of HT_.out (by kernel_rfl)) ?_
     try go_wp2
     go_meet
     case rel=>exact ⟨_,(true),(by first|rfl|(simp;done)|(simp [*];done)),H',⟨by have:=HK1.out;first|omega|exact nR _⟩,⟨by (with_reducible repeat (first|refine bN ?_ _|refine bD ?_|refine bA ?_ _));exact Bb.out⟩,⟨by (with_reducible repeat (first|refine bN ?_ _|refine bD ?_|refine bA ?_ _));exact Ba.out⟩,⟨by repeat (first|(with_reducible first|exact HB.out|apply oA|apply pN|apply o1|refine bS ?_ Be.out|refine bS ?_ Bf.out)|exact HB.out)⟩⟩
    rw [if_neg c14] at H
    have c14b0:decide (((rd_T35 l0_1 x3_1).f1)≤a0_0)=false:=dF c14
    clear c14
    (first|rw [c14b0]|(simp only [i64_w,i32_w];rw [c14b0])|skip)
    replace H:=oC H
    obtain ⟨t129,A170,H⟩:=H
    replace H:(if t129=true then (if x3_1 > 0 then (if 0≤(wrap64 (x3_1 - 1)) then (if (wrap64 (x3_1 - 1))<(l0_1.length:Int) then ((spec_l19Ahead.f ((rd_T35 l0_1 (wrap64 (x3_1 - 1))).f0) ((rd_T35 l0_1 (wrap64 (x3_1 - 1))).f1) ((rd_T35 l0_1 (wrap64 (x3_1 - 1))).f2) ((rd_T35 l0_1 x3_1).f0) ((rd_T35 l0_1 x3_1).f1) ((rd_T35 l0_1 x3_1).f2)).bind fun t131=>(spec_ClockOk.j1 k1 x3_1 (!t131) a0_0 l0_1 ((rd_T35 l0_1 x3_1).f0) ((rd_T35 l0_1 x3_1).f1) ((rd_T35 l0_1 x3_1).f2))) else (none)) else (none)) else (spec_ClockOk.j1 k1 x3_1 false a0_0 l0_1 ((rd_T35 l0_1 x3_1).f0) ((rd_T35 l0_1 x3_1).f1) ((rd_T35 l0_1 x3_1).f2))) else (spec_ClockOk.j1 k1 x3_1 true a0_0 l0_1 ((rd_T35 l0_1 x3_1).f0) ((rd_T35 l0_1 x3_1).f1) ((rd_T35 l0_1 x3_1).f2)))=some r:=H
    have A17:=Am A170
    clear A170
    by_cases c18:t129=true
    rotate_left
    ·replace c18:=Bool.eq_false_iff.mpr c18
     subst c18
     have H1:(spec_ClockOk.j1 k1 x3_1 true a0_0 l0_1 ((rd_T35 l0_1 x3_1).f0) ((rd_T35 l0_1 x3_1).f1) ((rd_T35 l0_1 x3_1).f2))=some r:=by rw [if_neg (show ¬ (false=true) by decide)] at H;exact H
     clear H
     have H:=H1
     clear H1
     have H':=Am H
     clear H
     try go_wp2
     have n0_:Aside0 ((((w7.setCell ⟨Bc,0,none⟩ (.int .i64 ((rd_T35 l0_1 x3_1).f0))).setCell ⟨Bc,1,none⟩ (.int .i64 ((rd_T35 l0_1 x3_1).f1))).setCell ⟨Bc,2,none⟩ (.int .i64 ((rd_T35 l0_1 x3_1).f2))).heap[Bd]?=some (.cells #[.int .i64 a0_0,.slice (some ad125) l0_1.length c0_1] 25 (0,0))):=⟨by (with_reducible repeat (first|refine bN ?_ _|refine bD ?_|refine bA ?_ _|refine bE ?_ Bg.out _));exact Bb.out⟩
     have n1_:Aside0 ((((w7.setCell ⟨Bc,0,none⟩ (.int .i64 ((rd_T35 l0_1 x3_1).f0))).setCell ⟨Bc,1,none⟩ (.int .i64 ((rd_T35 l0_1 x3_1).f1))).setCell ⟨Bc,2,none⟩ (.int .i64 ((rd_T35 l0_1 x3_1).f2))).heap[Bc]?=some (.cells #[.int .i64 ((rd_T35 l0_1 x3_1).f0),.int .i64 ((rd_T35 l0_1 x3_1).f1),.int .i64 ((rd_T35 l0_1 x3_1).f2)] 35 (0,0))):=⟨by (with_reducible repeat (first|refine bN ?_ _|refine bD ?_|refine bA ?_ _));refine bT (cs:=#[.int .i64 ((rd_T35 l0_1 x3_1).f0),.int .i64 ((rd_T35 l0_1 x3_1).f1),.int .i64 0]) ?_ 2 _ rfl;(with_reducible repeat (first|refine bN ?_ _|refine bD ?_|refine bA ?_ _));refine bT (cs:=#[.int .i64 ((rd_T35 l0_1 x3_1).f0),.int .i64 0,.int .i64 0]) ?_ 1 _ rfl;(with_reducible repeat (first|refine bN ?_ _|refine bD ?_|refine bA ?_ _));refine bT (cs:=#[.int .i64 0,.int .i64 0,.int .i64 0]) ?_ 0 _ rfl;(with_reducible repeat (first|refine bN ?_ _|refine bD ?_|refine bA ?_ _));exact Ba.out⟩
     have n2_:Aside0 (Below w.heap.size w (((w7.setCell ⟨Bc,0,none⟩ (.int .i64 ((rd_T35 l0_1 x3_1).f0))).setCell ⟨Bc,1,none⟩ (.int .i64 ((rd_T35 l0_1 x3_1).f1))).setCell ⟨Bc,2,none⟩ (.int .i64 ((rd_T35 l0_1 x3_1).f2)))):=⟨by repeat (first|(with_reducible first|exact HB.out|apply oA|apply pN|apply o1|refine bS ?_ Be.out|refine bS ?_ Bf.out)|exact HB.out)⟩
     (try clear Bb)
     (try clear Ba)
     (try clear HB)
     generalize (((w7.setCell ⟨Bc,0,none⟩ (.int .i64 ((rd_T35 l0_1 x3_1).f0))).setCell ⟨Bc,1,none⟩ (.int .i64 ((rd_T35 l0_1 x3_1).f1))).setCell ⟨Bc,2,none⟩ (.int .i64 ((rd_T35 l0_1 x3_1).f2)))=w29 at n0_ n1_ n2_ ⊢
     have Bb:=n0_
     have Ba:=n1_
     have HB:=n2_
     clear n0_ n1_ n2_
     have n0_:=Am (bD Bb.out)
     have n1_:=Am (bD Ba.out)
     have n2_:=Am (o1 HB.out)
     clear Bb
     clear Ba
     clear HB
     have Bb:=n0_
     have Ba:=n1_
     have HB:=n2_
     clear n0_ n1_ n2_
     refine start_ (n:=38) (S:=fun w'=>w'.cell? ⟨Bc,0,none⟩=some (.int .i64 ((rd_T35 l0_1 x3_1).f0))∧w'.cell? ⟨Bc,1,none⟩=some (.int .i64 ((rd_T35 l0_1 x3_1).f1))∧w'.cell? ⟨Bc,2,none⟩=some (.int .i64 ((rd_T35 l0_1 x3_1).f2))∧w'.cell? ⟨Bd,0,none⟩=some (.int .i64 a0_0)∧w'.cell? ⟨Bd,1,none⟩=some (.slice (some ad125) l0_1.length c0_1)) (ds:=[]) z18q0 (by kernel_rfl) rfl rfl ⟨(bC Ba.out 0).trans rfl,(bC Ba.out 1).trans rfl,(bC Ba.out 2).trans rfl,(bC Bb.out 0).trans rfl,(bC Bb.out 1).trans rfl⟩ (fun hHeld=>?_);refine with_st spec_ClockOk.tab5 spec_ClockOk.bits5 (fun _ _ _ _ _ h=>h) (fun HT_=>?_)
     generalize w29.drew=w30 at Bb Ba HB hHeld ⊢
     refine pS 0 18 z18q1 HT_ rfl rfl (by kernel_rfl) (by rfl) (by intro w';go_simp;with_reducible rfl) (by simp only [Act.put,lA,lZ,lS,iw,jw];rfl) ?_
     refine tS 1 19 z18q2 HT_ hHeld rfl rfl (by kernel_rfl) (by rfl) (by rintro w' ⟨s0,s1,s2,s3,s4⟩;go_simp;with_reducible rfl) (by simp only [Act.put,lA,lZ,lS,iw,jw];rfl) ?_
     refine oS 2 20 z18q3 HT_ rfl rfl (by kernel_rfl) (by decide) (fun K hK=>?_)
     refine goes_ Try.func27 (by kernel_rfl) rfl #[.int .i64 ((rd_T35 l0_1 x3_1).f0),.int .i64 0,.int .i64 99] (by rfl) rfl rfl (by (try simp only [lM,lC,lN]);first|done|rfl|(simp only [lD,lT];rfl)) ?_
     with_reducible refine (spec_l6In.calls ((rd_T35 l0_1 x3_1).f0) 0 99 true _ A10.out).mono ?_
     rintro e w' ⟨rfl,⟨nd,rfl⟩⟩
     refine ⟨_,rfl,?_⟩
     refine hK.out _ _ ⟨(bC Ba.out 0).trans rfl,(bC Ba.out 1).trans rfl,(bC Ba.out 2).trans rfl,(bC Bb.out 0).trans rfl,(bC Bb.out 1).trans rfl⟩ (fun hHeld=>?_)
     clear hK K
     refine norm_ (by show Act.put _ (some 20) _=_;simp only [Act.put,lA,lZ,lS,iw,jw];rfl) ?_
     refine pS 3 21 z18q4 HT_ rfl rfl (by kernel_rfl) (by rfl) (by intro w';go_simp;with_reducible rfl) (by simp only [Act.put,lA,lZ,lS,iw,jw];rfl) ?_
     refine pS 4 22 z18q5 HT_ rfl rfl (by kernel_rfl) (by rfl) (by intro w';go_simp;with_reducible rfl) (by simp only [Act.put,lA,lZ,lS,iw,jw];rfl) ?_
     refine pS 5 23 z18q6 HT_ rfl rfl (by kernel_rfl) (by rfl) (by intro w';go_simp;with_reducible rfl) (by simp only [Act.put,lA,lZ,lS,iw,jw];rfl) ?_
     refine tS 6 24 z18q7 HT_ hHeld rfl rfl (by kernel_rfl) (by rfl) (by rintro w' ⟨s0,s1,s2,s3,s4⟩;go_simp;with_reducible rfl) (by simp only [Act.put,lA,lZ,lS,iw,jw];rfl) ?_
     refine oS 7 25 z18q8 HT_ rfl rfl (by kernel_rfl) (by decide) (fun K hK=>?_)
     refine goes_ Try.func28 (by kernel_rfl) rfl #[.int .i64 ((rd_T35 l0_1 x3_1).f1)] (by rfl) rfl rfl (by (try simp only [lM,lC,lN]);first|done|rfl|(simp only [lD,lT];rfl)) ?_
     with_reducible refine (spec_l19Time.calls ((rd_T35 l0_1 x3_1).f1) true _ A12.out).mono ?_
     rintro e w' ⟨rfl,⟨nd,rfl⟩⟩
     refine ⟨_,rfl,?_⟩
     refine hK.out _ _ ⟨(bC Ba.out 0).trans rfl,(bC Ba.out 1).trans rfl,(bC Ba.out 2).trans rfl,(bC Bb.out 0).trans rfl,(bC Bb.out 1).trans rfl⟩ (fun hHeld=>?_)
     clear hK K
     refine norm_ (by show Act.put _ (some 25) _=_;simp only [Act.put,lA,lZ,lS,iw,jw];rfl) ?_
     refine pS 8 26 z18q9 HT_ rfl rfl (by kernel_rfl) (by rfl) (by intro w';go_simp;with_reducible rfl) (by simp only [Act.put,lA,lZ,lS,iw,jw];rfl) ?_
     refine pS 9 27 z18q10 HT_ rfl rfl (by kernel_rfl) (by rfl) (by intro w';go_simp;with_reducible rfl) (by simp only [Act.put,lA,lZ,lS,iw,jw];rfl) ?_
     refine pS 10 28 z18q11 HT_ rfl rfl (by kernel_rfl) (by rfl) (by intro w';go_simp;with_reducible rfl) (by simp only [Act.put,lA,lZ,lS,iw,jw];rfl) ?_
     refine pS 11 29 z18q12 HT_ rfl rfl (by kernel_rfl) (by rfl) (by intro w';go_simp;with_reducible rfl) (by simp only [Act.put,lA,lZ,lS,iw,jw];rfl) ?_
     refine pS 13 31 z18q13 HT_ rfl rfl (by kernel_rfl) (by rfl) (by intro w';go_simp;with_reducible rfl) (by simp only [Act.put,lA,lZ,lS,iw,jw];rfl) ?_
     refine tS 12 30 z18q14 HT_ hHeld rfl rfl (by kernel_rfl) (by rfl) (by rintro w' ⟨s0,s1,s2,s3,s4⟩;go_simp;with_reducible rfl) (by simp only [Act.put,lA,lZ,lS,iw,jw];rfl) ?_
     refine tS 14 32 z18q15 HT_ hHeld rfl rfl (by kernel_rfl) (by rfl) (by rintro w' ⟨s0,s1,s2,s3,s4⟩;go_simp;with_reducible rfl) (by simp only [Act.put,lA,lZ,lS,iw,jw];rfl) ?_
     refine pS 15 33 z18q16 HT_ rfl rfl (by kernel_rfl) (by rfl) (by intro w';go_simp;with_reducible rfl) (by simp only [Act.put,lA,lZ,lS,iw,jw];rfl) ?_
     refine pS 16 34 z18q17 HT_ rfl rfl (by kernel_rfl) (by rfl) (by intro w';go_simp;with_reducible rfl) (by simp only [Act.put,lA,lZ,lS,iw,jw];rfl) ?_
     refine pS 17 35 z18q18 HT_ rfl rfl (by kernel_rfl) (by rfl) (by intro w';go_simp;with_reducible rfl) (by simp only [Act.put,lA,lZ,lS,iw,jw];rfl) ?_
     refine pS 18 36 z18q19 HT_ rfl rfl (by kernel_rfl) (by rfl) (by intro w';go_simp;with_reducible rfl) (by simp only [Act.put,lA,lZ,lS,iw,jw];rfl) ?_
     refine tS 19 37 z18q20 HT_ hHeld rfl rfl (by kernel_rfl) (by rfl) (by rintro w' ⟨s0,s1,s2,s3,s4⟩;go_simp;with_reducible rfl) (by simp only [Act.put,lA,lZ,lS,iw,jw];rfl) ?_
     refine oS 20 38 z18q21 HT_ rfl rfl (by kernel_rfl) (by decide) (fun K hK=>?_)
     refine goes_ Try.func27 (by kernel_rfl) rfl #[.int .i64 ((rd_T35 l0_1 x3_1).f2),.int .i64 0,.int .i64 99] (by rfl) rfl rfl (by (try simp only [lM,lC,lN]);first|done|rfl|(simp only [lD,lT];rfl)) ?_
     with_reducible refine (spec_l6In.calls ((rd_T35 l0_1 x3_1).f2) 0 99 false _ A17.out).mono ?_
     rintro e w' ⟨rfl,⟨nd,rfl⟩⟩
     refine ⟨_,rfl,?_⟩
     refine hK.out _ _ ⟨(bC Ba.out 0).trans rfl,(bC Ba.out 1).trans rfl,(bC Ba.out 2).trans rfl,(bC Bb.out 0).trans rfl,(bC Bb.out 1).trans rfl⟩ (fun hHeld=>?_)
     clear hK K
     refine norm_ (by show Act.put _ (some 38) _=_;simp only [Act.put,lA,lZ,lS,iw,jw];rfl) ?_
     refine pS 21 39 z18q22 HT_ rfl rfl (by kernel_rfl) (by rfl) (by intro w';go_simp;with_reducible rfl) (by simp only [Act.put,lA,lZ,lS,iw,jw];rfl) ?_
     refine pS 22 40 z18q23 HT_ rfl rfl (by kernel_rfl) (by rfl) (by intro w';go_simp;with_reducible rfl) (by simp only [Act.put,lA,lZ,lS,iw,jw];rfl) ?_
     refine pS 23 41 z18q24 HT_ rfl rfl (by kernel_rfl) (by rfl) (by intro w';go_simp;with_reducible rfl) (by simp only [Act.put,lA,lZ,lS,iw,jw];rfl) ?_
     refine vS 24 42 z18q25 HT_ rfl rfl (by kernel_rfl) (by rfl) (by simp only [Act.put,lA,lZ,lS,iw,jw];rfl) ?_
     refine vS 25 43 z18q26 HT_ rfl rfl (by kernel_rfl) (by rfl) (by simp only [Act.put,lA,lZ,lS,iw,jw];rfl) ?_
     refine vS 26 44 z18q27 HT_ rfl rfl (by kernel_rfl) (by rfl) (by simp only [Act.put,lA,lZ,lS,iw,jw];rfl) ?_
     refine vS 27 45 z18q28 HT_ rfl rfl (by kernel_rfl) (by rfl) (by simp only [Act.put,lA,lZ,lS,iw,jw];rfl) ?_
     refine vS 28 46 z18q29 HT_ rfl rfl (by kernel_rfl) (by rfl) (by simp only [Act.put,lA,lZ,lS,iw,jw];rfl) ?_
     refine vS 29 47 z18q30 HT_ rfl rfl (by kernel_rfl) (by rfl) (by simp only [Act.put,lA,lZ,lS,iw,jw];rfl) ?_
     refine vS 30 48 z18q31 HT_ rfl rfl (by kernel_rfl) (by rfl) (by simp only [Act.put,lA,lZ,lS,iw,jw];rfl) ?_
     refine vS 31 49 z18q32 HT_ rfl rfl (by kernel_rfl) (by rfl) (by simp only [Act.put,lA,lZ,lS,iw,jw];rfl) ?_
     refine vS 32 50 z18q33 HT_ rfl rfl (by kernel_rfl) (by rfl) (by simp only [Act.put,lA,lZ,lS,iw,jw];rfl) ?_
     refine vS 33 51 z18q34 HT_ rfl rfl (by kernel_rfl) (by rfl) (by simp only [Act.put,lA,lZ,lS,iw,jw];rfl) ?_
     refine vS 34 52 z18q35 HT_ rfl rfl (by kernel_rfl) (by rfl) (by simp only [Act.put,lA,lZ,lS,iw,jw];rfl) ?_
     refine vS 35 53 z18q36 HT_ rfl rfl (by kernel_rfl) (by rfl) (by simp only [Act.put,lA,lZ,lS,iw,jw];rfl) ?_
     refine vS 36 54 z18q37 HT_ rfl rfl (by kernel_rfl) (by rfl) (by simp only [Act.put,lA,lZ,lS,iw,jw];rfl) ?_
     refine pS 37 55 z18q38 HT_ rfl rfl (by kernel_rfl) (by rfl) (by intro w';go_simp;with_reducible rfl) (by simp only [Act.put,lA,lZ,lS,iw,jw];rfl) ?_
     refine done_ (done_of HT_.out (by kernel_rfl)) ?_
     try go_wp2
     go_meet
     case rel=>exact ⟨_,(true),(by first|rfl|(simp;done)|(simp [*];done)),H',⟨by have:=HK1.out;first|omega|exact nR _⟩,⟨by (with_reducible repeat (first|refine bN ?_ _|refine bD ?_|refine bA ?_ _));exact Bb.out⟩,⟨by (with_reducible repeat (first|refine bN ?_ _|refine bD ?_|refine bA ?_ _));exact Ba.out⟩,⟨by repeat (first|(with_reducible first|exact HB.out|apply oA|apply pN|apply o1|refine bS ?_ Be.out|refine bS ?_ Bf.out)|exact HB.out)⟩⟩
    subst c18
    have H1:(if x3_1 > 0 then (if 0≤(wrap64 (x3_1 - 1)) then (if (wrap64 (x3_1 - 1))<(l0_1.length:Int) then ((spec_l19Ahead.f ((rd_T35 l0_1 (wrap64 (x3_1 - 1))).f0) ((rd_T35 l0_1 (wrap64 (x3_1 - 1))).f1) ((rd_T35 l0_1 (wrap64 (x3_1 - 1))).f2) ((rd_T35 l0_1 x3_1).f0) ((rd_T35 l0_1 x3_1).f1) ((rd_T35 l0_1 x3_1).f2)).bind fun t131=>(spec_ClockOk.j1 k1 x3_1 (!t131) a0_0 l0_1 ((rd_T35 l0_1 x3_1).f0) ((rd_T35 l0_1 x3_1).f1) ((rd_T35 l0_1 x3_1).f2))) else (none)) else (none)) else (spec_ClockOk.j1 k1 x3_1 false a0_0 l0_1 ((rd_T35 l0_1 x3_1).f0) ((rd_T35 l0_1 x3_1).f1) ((rd_T35 l0_1 x3_1).f2)))=some r:=by rw [if_pos rfl] at H;exact H
    clear H
    have H:=H1
    clear H1
    by_cases c19:x3_1 > 0
    rotate_left
    ·rw [if_neg c19] at H
     have c19b0:decide (0<x3_1)=false:=dF c19
     clear c19
     have H':=Am H
     clear H
     try go_wp2
     have n0_:Aside0 ((((w7.setCell ⟨Bc,0,none⟩ (.int .i64 ((rd_T35 l0_1 x3_1).f0))).setCell ⟨Bc,1,none⟩ (.int .i64 ((rd_T35 l0_1 x3_1).f1))).setCell ⟨Bc,2,none⟩ (.int .i64 ((rd_T35 l0_1 x3_1).f2))).heap[Bd]?=some (.cells #[.int .i64 a0_0,.slice (some ad125) l0_1.length c0_1] 25 (0,0))):=⟨by (with_reducible repeat (first|refine bN ?_ _|refine bD ?_|refine bA ?_ _|refine bE ?_ Bg.out _));exact Bb.out⟩
     have n1_:Aside0 ((((w7.setCell ⟨Bc,0,none⟩ (.int .i64 ((rd_T35 l0_1 x3_1).f0))).setCell ⟨Bc,1,none⟩ (.int .i64 ((rd_T35 l0_1 x3_1).f1))).setCell ⟨Bc,2,none⟩ (.int .i64 ((rd_T35 l0_1 x3_1).f2))).heap[Bc]?=some (.cells #[.int .i64 ((rd_T35 l0_1 x3_1).f0),.int .i64 ((rd_T35 l0_1 x3_1).f1),.int .i64 ((rd_T35 l0_1 x3_1).f2)] 35 (0,0))):=⟨by (with_reducible repeat (first|refine bN ?_ _|refine bD ?_|refine bA ?_ _));refine bT (cs:=#[.int .i64 ((rd_T35 l0_1 x3_1).f0),.int .i64 ((rd_T35 l0_1 x3_1).f1),.int .i64 0]) ?_ 2 _ rfl;(with_reducible repeat (first|refine bN ?_ _|refine bD ?_|refine bA ?_ _));refine bT (cs:=#[.int .i64 ((rd_T35 l0_1 x3_1).f0),.int .i64 0,.int .i64 0]) ?_ 1 _ rfl;(with_reducible repeat (first|refine bN ?_ _|refine bD ?_|refine bA ?_ _));refine bT (cs:=#[.int .i64 0,.int .i64 0,.int .i64 0]) ?_ 0 _ rfl;(with_reducible repeat (first|refine bN ?_ _|refine bD ?_|refine bA ?_ _));exact Ba.out⟩
     have n2_:Aside0 (Below w.heap.size w (((w7.setCell ⟨Bc,0,none⟩ (.int .i64 ((rd_T35 l0_1 x3_1).f0))).setCell ⟨Bc,1,none⟩ (.int .i64 ((rd_T35 l0_1 x3_1).f1))).setCell ⟨Bc,2,none⟩ (.int .i64 ((rd_T35 l0_1 x3_1).f2)))):=⟨by repeat (first|(with_reducible first|exact HB.out|apply oA|apply pN|apply o1|refine bS ?_ Be.out|refine bS ?_ Bf.out)|exact HB.out)⟩
     (try clear Bb)
     (try clear Ba)
     (try clear HB)
     generalize (((w7.setCell ⟨Bc,0,none⟩ (.int .i64 ((rd_T35 l0_1 x3_1).f0))).setCell ⟨Bc,1,none⟩ (.int .i64 ((rd_T35 l0_1 x3_1).f1))).setCell ⟨Bc,2,none⟩ (.int .i64 ((rd_T35 l0_1 x3_1).f2)))=w27 at n0_ n1_ n2_ ⊢
     have Bb:=n0_
     have Ba:=n1_
     have HB:=n2_
     clear n0_ n1_ n2_
     have n0_:=Am (bD Bb.out)
     have n1_:=Am (bD Ba.out)
     have n2_:=Am (o1 HB.out)
     clear Bb
     clear Ba
     clear HB
     have Bb:=n0_
     have Ba:=n1_
     have HB:=n2_
     clear n0_ n1_ n2_
     refine start_ (n:=38) (S:=fun w'=>w'.cell? ⟨Bc,0,none⟩=some (.int .i64 ((rd_T35 l0_1 x3_1).f0))∧w'.cell? ⟨Bc,1,none⟩=some (.int .i64 ((rd_T35 l0_1 x3_1).f1))∧w'.cell? ⟨Bc,2,none⟩=some (.int .i64 ((rd_T35 l0_1 x3_1).f2))∧w'.cell? ⟨Bd,0,none⟩=some (.int .i64 a0_0)∧w'.cell? ⟨Bd,1,none⟩=some (.slice (some ad125) l0_1.length c0_1)) (ds:=[]) z18q0 (by kernel_rfl) rfl rfl ⟨(bC Ba.out 0).trans rfl,(bC Ba.out 1).trans rfl,(bC Ba.out 2).trans rfl,(bC Bb.out 0).trans rfl,(bC Bb.out 1).trans rfl⟩ (fun hHeld=>?_);refine with_st spec_ClockOk.tab5 spec_ClockOk.bits5 (fun _ _ _ _ _ h=>h) (fun HT_=>?_)
     generalize w27.drew=w28 at Bb Ba HB hHeld ⊢
     refine pS 0 18 z18q1 HT_ rfl rfl (by kernel_rfl) (by rfl) (by intro w';go_simp;with_reducible rfl) (by simp only [Act.put,lA,lZ,lS,iw,jw];rfl) ?_
     refine tS 1 19 z18q2 HT_ hHeld rfl rfl (by kernel_rfl) (by rfl) (by rintro w' ⟨s0,s1,s2,s3,s4⟩;go_simp;with_reducible rfl) (by simp only [Act.put,lA,lZ,lS,iw,jw];rfl) ?_
     refine oS 2 20 z18q3 HT_ rfl rfl (by kernel_rfl) (by decide) (fun K hK=>?_)
     refine goes_ Try.func27 (by kernel_rfl) rfl #[.int .i64 ((rd_T35 l0_1 x3_1).f0),.int .i64 0,.int .i64 99] (by rfl) rfl rfl (by (try simp only [lM,lC,lN]);first|done|rfl|(simp only [lD,lT];rfl)) ?_
     with_reducible refine (spec_l6In.calls ((rd_T35 l0_1 x3_1).f0) 0 99 true _ A10.out).mono ?_
     rintro e w' ⟨rfl,⟨nd,rfl⟩⟩
     refine ⟨_,rfl,?_⟩
     refine hK.out _ _ ⟨(bC Ba.out 0).trans rfl,(bC Ba.out 1).trans rfl,(bC Ba.out 2).trans rfl,(bC Bb.out 0).trans rfl,(bC Bb.out 1).trans rfl⟩ (fun hHeld=>?_)
     clear hK K
     refine norm_ (by show Act.put _ (some 20) _=_;simp only [Act.put,lA,lZ,lS,iw,jw];rfl) ?_
     refine pS 3 21 z18q4 HT_ rfl rfl (by kernel_rfl) (by rfl) (by intro w';go_simp;with_reducible rfl) (by simp only [Act.put,lA,lZ,lS,iw,jw];rfl) ?_
     refine pS 4 22 z18q5 HT_ rfl rfl (by kernel_rfl) (by rfl) (by intro w';go_simp;with_reducible rfl) (by simp only [Act.put,lA,lZ,lS,iw,jw];rfl) ?_
     refine pS 5 23 z18q6 HT_ rfl rfl (by kernel_rfl) (by rfl) (by intro w';go_simp;with_reducible rfl) (by simp only [Act.put,lA,lZ,lS,iw,jw];rfl) ?_
     refine tS 6 24 z18q7 HT_ hHeld rfl rfl (by kernel_rfl) (by rfl) (by rintro w' ⟨s0,s1,s2,s3,s4⟩;go_simp;with_reducible rfl) (by simp only [Act.put,lA,lZ,lS,iw,jw];rfl) ?_
     refine oS 7 25 z18q8 HT_ rfl rfl (by kernel_rfl) (by decide) (fun K hK=>?_)
     refine goes_ Try.func28 (by kernel_rfl) rfl #[.int .i64 ((rd_T35 l0_1 x3_1).f1)] (by rfl) rfl rfl (by (try simp only [lM,lC,lN]);first|done|rfl|(simp only [lD,lT];rfl)) ?_
     with_reducible refine (spec_l19Time.calls ((rd_T35 l0_1 x3_1).f1) true _ A12.out).mono ?_
     rintro e w' ⟨rfl,⟨nd,rfl⟩⟩
     refine ⟨_,rfl,?_⟩
     refine hK.out _ _ ⟨(bC Ba.out 0).trans rfl,(bC Ba.out 1).trans rfl,(bC Ba.out 2).trans rfl,(bC Bb.out 0).trans rfl,(bC Bb.out 1).trans rfl⟩ (fun hHeld=>?_)
     clear hK K
     refine norm_ (by show Act.put _ (some 25) _=_;simp only [Act.put,lA,lZ,lS,iw,jw];rfl) ?_
     refine pS 8 26 z18q9 HT_ rfl rfl (by kernel_rfl) (by rfl) (by intro w';go_simp;with_reducible rfl) (by simp only [Act.put,lA,lZ,lS,iw,jw];rfl) ?_
     refine pS 9 27 z18q10 HT_ rfl rfl (by kernel_rfl) (by rfl) (by intro w';go_simp;with_reducible rfl) (by simp only [Act.put,lA,lZ,lS,iw,jw];rfl) ?_
     refine pS 10 28 z18q11 HT_ rfl rfl (by kernel_rfl) (by rfl) (by intro w';go_simp;with_reducible rfl) (by simp only [Act.put,lA,lZ,lS,iw,jw];rfl) ?_
     refine pS 11 29 z18q12 HT_ rfl rfl (by kernel_rfl) (by rfl) (by intro w';go_simp;with_reducible rfl) (by simp only [Act.put,lA,lZ,lS,iw,jw];rfl) ?_
     refine pS 13 31 z18q13 HT_ rfl rfl (by kernel_rfl) (by rfl) (by intro w';go_simp;with_reducible rfl) (by simp only [Act.put,lA,lZ,lS,iw,jw];rfl) ?_
     refine tS 12 30 z18q14 HT_ hHeld rfl rfl (by kernel_rfl) (by rfl) (by rintro w' ⟨s0,s1,s2,s3,s4⟩;go_simp;with_reducible rfl) (by simp only [Act.put,lA,lZ,lS,iw,jw];rfl) ?_
     refine tS 14 32 z18q15 HT_ hHeld rfl rfl (by kernel_rfl) (by rfl) (by rintro w' ⟨s0,s1,s2,s3,s4⟩;go_simp;with_reducible rfl) (by simp only [Act.put,lA,lZ,lS,iw,jw];rfl) ?_
     refine pS 15 33 z18q16 HT_ rfl rfl (by kernel_rfl) (by rfl) (by intro w';go_simp;with_reducible rfl) (by simp only [Act.put,lA,lZ,lS,iw,jw];rfl) ?_
     refine pS 16 34 z18q17 HT_ rfl rfl (by kernel_rfl) (by rfl) (by intro w';go_simp;with_reducible rfl) (by simp only [Act.put,lA,lZ,lS,iw,jw];rfl) ?_
     refine pS 17 35 z18q18 HT_ rfl rfl (by kernel_rfl) (by rfl) (by intro w';go_simp;with_reducible rfl) (by simp only [Act.put,lA,lZ,lS,iw,jw];rfl) ?_
     refine pS 18 36 z18q19 HT_ rfl rfl (by kernel_rfl) (by rfl) (by intro w';go_simp;with_reducible rfl) (by simp only [Act.put,lA,lZ,lS,iw,jw];rfl) ?_
     refine tS 19 37 z18q20 HT_ hHeld rfl rfl (by kernel_rfl) (by rfl) (by rintro w' ⟨s0,s1,s2,s3,s4⟩;go_simp;with_reducible rfl) (by simp only [Act.put,lA,lZ,lS,iw,jw];rfl) ?_
     refine oS 20 38 z18q21 HT_ rfl rfl (by kernel_rfl) (by decide) (fun K hK=>?_)
     refine goes_ Try.func27 (by kernel_rfl) rfl #[.int .i64 ((rd_T35 l0_1 x3_1).f2),.int .i64 0,.int .i64 99] (by rfl) rfl rfl (by (try simp only [lM,lC,lN]);first|done|rfl|(simp only [lD,lT];rfl)) ?_
     with_reducible refine (spec_l6In.calls ((rd_T35 l0_1 x3_1).f2) 0 99 true _ A17.out).mono ?_
     rintro e w' ⟨rfl,⟨nd,rfl⟩⟩
     refine ⟨_,rfl,?_⟩
     refine hK.out _ _ ⟨(bC Ba.out 0).trans rfl,(bC Ba.out 1).trans rfl,(bC Ba.out 2).trans rfl,(bC Bb.out 0).trans rfl,(bC Bb.out 1).trans rfl⟩ (fun hHeld=>?_)
     clear hK K
     refine norm_ (by show Act.put _ (some 38) _=_;simp only [Act.put,lA,lZ,lS,iw,jw];rfl) ?_
     refine pS 21 39 z18q22 HT_ rfl rfl (by kernel_rfl) (by rfl) (by intro w';go_simp;with_reducible rfl) (by simp only [Act.put,lA,lZ,lS,iw,jw];rfl) ?_
     refine pS 22 40 z18q23 HT_ rfl rfl (by kernel_rfl) (by rfl) (by intro w';go_simp;with_reducible rfl) (by simp only [Act.put,lA,lZ,lS,iw,jw];rfl) ?_
     refine pS 23 41 z18q24 HT_ rfl rfl (by kernel_rfl) (by rfl) (by intro w';go_simp;with_reducible rfl) (by simp only [Act.put,lA,lZ,lS,iw,jw];rfl) ?_
     refine pS 24 42 z18q25 HT_ rfl rfl (by kernel_rfl) (by rfl) (by intro w';go_simp;with_reducible rfl) (by simp only [Act.put,lA,lZ,lS,iw,jw];rfl) ?_
     refine pS 25 43 z18q26 HT_ rfl rfl (by kernel_rfl) (by rfl) (by intro w';go_simp;with_reducible rfl) (by simp only [Act.put,lA,lZ,lS,iw,jw];rfl) ?_
     refine pS 26 44 z18q27 HT_ rfl rfl (by kernel_rfl) (by rfl) (by intro w';go_simp;with_reducible rfl) (by simp only [Act.put,lA,lZ,lS,iw,jw];rfl) ?_
     refine vS 27 45 z18q28 HT_ rfl rfl (by kernel_rfl) (by rfl) (by simp only [Act.put,lA,lZ,lS,iw,jw];rfl) ?_
     refine vS 28 46 z18q29 HT_ rfl rfl (by kernel_rfl) (by rfl) (by simp only [Act.put,lA,lZ,lS,iw,jw];rfl) ?_
     refine vS 29 47 z18q30 HT_ rfl rfl (by kernel_rfl) (by rfl) (by simp only [Act.put,lA,lZ,lS,iw,jw];rfl) ?_
     refine vS 30 48 z18q31 HT_ rfl rfl (by kernel_rfl) (by rfl) (by simp only [Act.put,lA,lZ,lS,iw,jw];rfl) ?_
     refine vS 31 49 z18q32 HT_ rfl rfl (by kernel_rfl) (by rfl) (by simp only [Act.put,lA,lZ,lS,iw,jw];rfl) ?_
     refine vS 32 50 z18q33 HT_ rfl rfl (by kernel_rfl) (by rfl) (by simp only [Act.put,lA,lZ,lS,iw,jw];rfl) ?_
     refine vS 33 51 z18q34 HT_ rfl rfl (by kernel_rfl) (by rfl) (by simp only [Act.put,lA,lZ,lS,iw,jw];rfl) ?_
     refine vS 34 52 z18q35 HT_ rfl rfl (by kernel_rfl) (by rfl) (by simp only [Act.put,lA,lZ,lS,iw,jw];rfl) ?_
     refine vS 35 53 z18q36 HT_ rfl rfl (by kernel_rfl) (by rfl) (by simp only [Act.put,lA,lZ,lS,iw,jw];rfl) ?_
     refine pS 36 54 z18q37 HT_ rfl rfl (by kernel_rfl) (by rfl) (by intro w';go_simp;with_reducible rfl) (by simp only [Act.put,lA,lZ,lS,iw,jw];rfl) ?_
     refine pS 37 55 z18q38 HT_ rfl rfl (by kernel_rfl) (by rfl) (by intro w';go_simp;with_reducible rfl) (by simp only [Act.put,lA,lZ,lS,iw,jw];rfl) ?_
     refine done_ (done_of HT_.out (by kernel_rfl)) ?_
     try go_wp2
     go_meet
     case rel=>exact ⟨_,(false),(by first|rfl|(simp;done)|(simp [*];done)),H',⟨by have:=HK1.out;first|omega|exact nR _⟩,⟨by (with_reducible repeat (first|refine bN ?_ _|refine bD ?_|refine bA ?_ _));exact Bb.out⟩,⟨by (with_reducible repeat (first|refine bN ?_ _|refine bD ?_|refine bA ?_ _));exact Ba.out⟩,⟨by repeat (first|(with_reducible first|exact HB.out|apply oA|apply pN|apply o1|refine bS ?_ Be.out|refine bS ?_ Bf.out)|exact HB.out)⟩⟩
    rw [if_pos c19] at H
    have c19b0:decide (0<x3_1)=true:=dT c19
    clear c19
    obtain ⟨ji20,hji20⟩:∃ j_:Int,(wrap64 (x3_1 - 1))=j_:=⟨_,rfl⟩
    replace H:(if 0≤(ji20) then (if (ji20)<(l0_1.length:Int) then ((spec_l19Ahead.f ((rd_T35 l0_1 (ji20)).f0) ((rd_T35 l0_1 (ji20)).f1) ((rd_T35 l0_1 (ji20)).f2) ((rd_T35 l0_1 x3_1).f0) ((rd_T35 l0_1 x3_1).f1) ((rd_T35 l0_1 x3_1).f2)).bind fun t131=>(spec_ClockOk.j1 k1 x3_1 (!t131) a0_0 l0_1 ((rd_T35 l0_1 x3_1).f0) ((rd_T35 l0_1 x3_1).f1) ((rd_T35 l0_1 x3_1).f2))) else (none)) else (none))=some r:=by first|(rw [hji20] at H;exact H)|(simp only [hji20] at H ⊢;exact H)
    (try rw [hji20] at A10)
    (try rw [hji20] at A12)
    (try rw [hji20] at A17)
    have hji20w:(IntKind.i64.wrap (x3_1 - 1))=ji20:=(i64_w _).trans hji20
    by_cases c21:0≤(ji20)
    rotate_left
    ·rw [if_neg c21] at H
     exact absurd H (by simp)
    rw [if_pos c21] at H
    have c21b0:decide (0≤(ji20))=true:=dT c21
    clear c21
    by_cases c22:(ji20)<(l0_1.length:Int)
    rotate_left
    ·rw [if_neg c22] at H
     exact absurd H (by simp)
    rw [if_pos c22] at H
    have c22b0:decide ((ji20)<(l0_1.length:Int))=true:=dT c22
    clear c22
    replace H:=oC H
    obtain ⟨t131,A230,H⟩:=H
    replace H:(spec_ClockOk.j1 k1 x3_1 (!t131) a0_0 l0_1 ((rd_T35 l0_1 x3_1).f0) ((rd_T35 l0_1 x3_1).f1) ((rd_T35 l0_1 x3_1).f2))=some r:=H
    have A23:=Am A230
    clear A230
    have H':=Am H
    clear H
    try go_wp2
    have n0_:Aside0 ((((w7.setCell ⟨Bc,0,none⟩ (.int .i64 ((rd_T35 l0_1 x3_1).f0))).setCell ⟨Bc,1,none⟩ (.int .i64 ((rd_T35 l0_1 x3_1).f1))).setCell ⟨Bc,2,none⟩ (.int .i64 ((rd_T35 l0_1 x3_1).f2))).heap[Bd]?=some (.cells #[.int .i64 a0_0,.slice (some ad125) l0_1.length c0_1] 25 (0,0))):=⟨by (with_reducible repeat (first|refine bN ?_ _|refine bD ?_|refine bA ?_ _|refine bE ?_ Bg.out _));exact Bb.out⟩
    have n1_:Aside0 ((((w7.setCell ⟨Bc,0,none⟩ (.int .i64 ((rd_T35 l0_1 x3_1).f0))).setCell ⟨Bc,1,none⟩ (.int .i64 ((rd_T35 l0_1 x3_1).f1))).setCell ⟨Bc,2,none⟩ (.int .i64 ((rd_T35 l0_1 x3_1).f2))).heap[Bc]?=some (.cells #[.int .i64 ((rd_T35 l0_1 x3_1).f0),.int .i64 ((rd_T35 l0_1 x3_1).f1),.int .i64 ((rd_T35 l0_1 x3_1).f2)] 35 (0,0))):=⟨by (with_reducible repeat (first|refine bN ?_ _|refine bD ?_|refine bA ?_ _));refine bT (cs:=#[.int .i64 ((rd_T35 l0_1 x3_1).f0),.int .i64 ((rd_T35 l0_1 x3_1).f1),.int .i64 0]) ?_ 2 _ rfl;(with_reducible repeat (first|refine bN ?_ _|refine bD ?_|refine bA ?_ _));refine bT (cs:=#[.int .i64 ((rd_T35 l0_1 x3_1).f0),.int .i64 0,.int .i64 0]) ?_ 1 _ rfl;(with_reducible repeat (first|refine bN ?_ _|refine bD ?_|refine bA ?_ _));refine bT (cs:=#[.int .i64 0,.int .i64 0,.int .i64 0]) ?_ 0 _ rfl;(with_reducible repeat (first|refine bN ?_ _|refine bD ?_|refine bA ?_ _));exact Ba.out⟩
    have n2_:Aside0 (Below w.heap.size w (((w7.setCell ⟨Bc,0,none⟩ (.int .i64 ((rd_T35 l0_1 x3_1).f0))).setCell ⟨Bc,1,none⟩ (.int .i64 ((rd_T35 l0_1 x3_1).f1))).setCell ⟨Bc,2,none⟩ (.int .i64 ((rd_T35 l0_1 x3_1).f2)))):=⟨by repeat (first|(with_reducible first|exact HB.out|apply oA|apply pN|apply o1|refine bS ?_ Be.out|refine bS ?_ Bf.out)|exact HB.out)⟩
    (try clear Bb)
    (try clear Ba)
    (try clear HB)
    generalize (((w7.setCell ⟨Bc,0,none⟩ (.int .i64 ((rd_T35 l0_1 x3_1).f0))).setCell ⟨Bc,1,none⟩ (.int .i64 ((rd_T35 l0_1 x3_1).f1))).setCell ⟨Bc,2,none⟩ (.int .i64 ((rd_T35 l0_1 x3_1).f2)))=w24 at n0_ n1_ n2_ ⊢
    have Bb:=n0_
    have Ba:=n1_
    have HB:=n2_
    clear n0_ n1_ n2_
    have n0_:=Am (bD Bb.out)
    have n1_:=Am (bD Ba.out)
    have n2_:=Am (o1 HB.out)
    clear Bb
    clear Ba
    clear HB
    have Bb:=n0_
    have Ba:=n1_
    have HB:=n2_
    clear n0_ n1_ n2_
    have p130:0≤((ji20):Int):=oE (by first|(with_reducible assumption)|assumption)
    have q130:(ji20)<(l0_1.length:Int):=oE (by first|(with_reducible assumption)|assumption)
    obtain ⟨ad130,e130,hx130_0,hx130_1,hx130_2⟩:=at_T35 HR0_1.out (ji20) p130 q130
    have hw130_2:=hx130_2
    have hw130_1:=hx130_1
    have hw130_0:=hx130_0
    obtain rfl:ad125=ad130:=(by injection e130)
    replace hx130_0:=(bW HB hx130_0:)
    replace hx130_1:=(bW HB hx130_1:)
    replace hx130_2:=(bW HB hx130_2:)
    replace p130:=eq_true p130
    replace q130:=eq_true q130
    refine start_ (n:=38) (S:=fun w'=>w'.cell? ⟨Bc,0,none⟩=some (.int .i64 ((rd_T35 l0_1 x3_1).f0))∧w'.cell? ⟨Bc,1,none⟩=some (.int .i64 ((rd_T35 l0_1 x3_1).f1))∧w'.cell? ⟨Bc,2,none⟩=some (.int .i64 ((rd_T35 l0_1 x3_1).f2))∧w'.cell? ⟨Bd,0,none⟩=some (.int .i64 a0_0)∧w'.cell? ⟨Bd,1,none⟩=some (.slice (some ad125) l0_1.length c0_1)∧w'.cell? (ad125.add (((ji20)).toNat * 3))=some (.int .i64 ((rd_T35 l0_1 (ji20)).f0))∧w'.cell? ⟨(ad125.add (((ji20)).toNat * 3)).block,(ad125.add (((ji20)).toNat * 3)).off + 1,none⟩=some (.int .i64 ((rd_T35 l0_1 (ji20)).f1))∧w'.cell? ⟨(ad125.add (((ji20)).toNat * 3)).block,(ad125.add (((ji20)).toNat * 3)).off + 2,none⟩=some (.int .i64 ((rd_T35 l0_1 (ji20)).f2))) (ds:=[]) z18q0 (by kernel_rfl) rfl rfl ⟨(bC Ba.out 0).trans rfl,(bC Ba.out 1).trans rfl,(bC Ba.out 2).trans rfl,(bC Bb.out 0).trans rfl,(bC Bb.out 1).trans rfl,(bW HB hw130_0:),(bW HB hw130_1:),(bW HB hw130_2:)⟩ (fun hHeld=>?_);refine with_st spec_ClockOk.tab5 spec_ClockOk.bits5 (fun _ _ _ _ _ h=>h) (fun HT_=>?_)
    generalize w24.drew=w25 at Bb Ba HB hx130_0 hx130_1 hx130_2 hHeld ⊢
    refine pS 0 18 z18q1 HT_ rfl rfl (by kernel_rfl) (by rfl) (by intro w';go_simp;with_reducible rfl) (by simp only [Act.put,lA,lZ,lS,iw,jw];rfl) ?_
    refine tS 1 19 z18q2 HT_ hHeld rfl rfl (by kernel_rfl) (by rfl) (by rintro w' ⟨s0,s1,s2,s3,s4,s5,s6,s7⟩;go_simp;with_reducible rfl) (by simp only [Act.put,lA,lZ,lS,iw,jw];rfl) ?_
    refine oS 2 20 z18q3 HT_ rfl rfl (by kernel_rfl) (by decide) (fun K hK=>?_)
    refine goes_ Try.func27 (by kernel_rfl) rfl #[.int .i64 ((rd_T35 l0_1 x3_1).f0),.int .i64 0,.int .i64 99] (by rfl) rfl rfl (by (try simp only [lM,lC,lN]);first|done|rfl|(simp only [lD,lT];rfl)) ?_
    with_reducible refine (spec_l6In.calls ((rd_T35 l0_1 x3_1).f0) 0 99 true _ A10.out).mono ?_
    rintro e w' ⟨rfl,⟨nd,rfl⟩⟩
    refine ⟨_,rfl,?_⟩
    refine hK.out _ _ ⟨(bC Ba.out 0).trans rfl,(bC Ba.out 1).trans rfl,(bC Ba.out 2).trans rfl,(bC Bb.out 0).trans rfl,(bC Bb.out 1).trans rfl,(bW HB hw130_0:),(bW HB hw130_1:),(bW HB hw130_2:)⟩ (fun hHeld=>?_)
    clear hK K
    refine norm_ (by show Act.put _ (some 20) _=_;simp only [Act.put,lA,lZ,lS,iw,jw];rfl) ?_
    refine pS 3 21 z18q4 HT_ rfl rfl (by kernel_rfl) (by rfl) (by intro w';go_simp;with_reducible rfl) (by simp only [Act.put,lA,lZ,lS,iw,jw];rfl) ?_
    refine pS 4 22 z18q5 HT_ rfl rfl (by kernel_rfl) (by rfl) (by intro w';go_simp;with_reducible rfl) (by simp only [Act.put,lA,lZ,lS,iw,jw];rfl) ?_
    refine pS 5 23 z18q6 HT_ rfl rfl (by kernel_rfl) (by rfl) (by intro w';go_simp;with_reducible rfl) (by simp only [Act.put,lA,lZ,lS,iw,jw];rfl) ?_
    refine tS 6 24 z18q7 HT_ hHeld rfl rfl (by kernel_rfl) (by rfl) (by rintro w' ⟨s0,s1,s2,s3,s4,s5,s6,s7⟩;go_simp;with_reducible rfl) (by simp only [Act.put,lA,lZ,lS,iw,jw];rfl) ?_
    refine oS 7 25 z18q8 HT_ rfl rfl (by kernel_rfl) (by decide) (fun K hK=>?_)
    refine goes_ Try.func28 (by kernel_rfl) rfl #[.int .i64 ((rd_T35 l0_1 x3_1).f1)] (by rfl) rfl rfl (by (try simp only [lM,lC,lN]);first|done|rfl|(simp only [lD,lT];rfl)) ?_
    with_reducible refine (spec_l19Time.calls ((rd_T35 l0_1 x3_1).f1) true _ A12.out).mono ?_
    rintro e w' ⟨rfl,⟨nd,rfl⟩⟩
    refine ⟨_,rfl,?_⟩
    refine hK.out _ _ ⟨(bC Ba.out 0).trans rfl,(bC Ba.out 1).trans rfl,(bC Ba.out 2).trans rfl,(bC Bb.out 0).trans rfl,(bC Bb.out 1).trans rfl,(bW HB hw130_0:),(bW HB hw130_1:),(bW HB hw130_2:)⟩ (fun hHeld=>?_)
    clear hK K
    refine norm_ (by show Act.put _ (some 25) _=_;simp only [Act.put,lA,lZ,lS,iw,jw];rfl) ?_
    refine pS 8 26 z18q9 HT_ rfl rfl (by kernel_rfl) (by rfl) (by intro w';go_simp;with_reducible rfl) (by simp only [Act.put,lA,lZ,lS,iw,jw];rfl) ?_
    refine pS 9 27 z18q10 HT_ rfl rfl (by kernel_rfl) (by rfl) (by intro w';go_simp;with_reducible rfl) (by simp only [Act.put,lA,lZ,lS,iw,jw];rfl) ?_
    refine pS 10 28 z18q11 HT_ rfl rfl (by kernel_rfl) (by rfl) (by intro w';go_simp;with_reducible rfl) (by simp only [Act.put,lA,lZ,lS,iw,jw];rfl) ?_
    refine pS 11 29 z18q12 HT_ rfl rfl (by kernel_rfl) (by rfl) (by intro w';go_simp;with_reducible rfl) (by simp only [Act.put,lA,lZ,lS,iw,jw];rfl) ?_
    refine pS 13 31 z18q13 HT_ rfl rfl (by kernel_rfl) (by rfl) (by intro w';go_simp;with_reducible rfl) (by simp only [Act.put,lA,lZ,lS,iw,jw];rfl) ?_
    refine tS 12 30 z18q14 HT_ hHeld rfl rfl (by kernel_rfl) (by rfl) (by rintro w' ⟨s0,s1,s2,s3,s4,s5,s6,s7⟩;go_simp;with_reducible rfl) (by simp only [Act.put,lA,lZ,lS,iw,jw];rfl) ?_
    refine tS 14 32 z18q15 HT_ hHeld rfl rfl (by kernel_rfl) (by rfl) (by rintro w' ⟨s0,s1,s2,s3,s4,s5,s6,s7⟩;go_simp;with_reducible rfl) (by simp only [Act.put,lA,lZ,lS,iw,jw];rfl) ?_
    refine pS 15 33 z18q16 HT_ rfl rfl (by kernel_rfl) (by rfl) (by intro w';go_simp;with_reducible rfl) (by simp only [Act.put,lA,lZ,lS,iw,jw];rfl) ?_
    refine pS 16 34 z18q17 HT_ rfl rfl (by kernel_rfl) (by rfl) (by intro w';go_simp;with_reducible rfl) (by simp only [Act.put,lA,lZ,lS,iw,jw];rfl) ?_
    refine pS 17 35 z18q18 HT_ rfl rfl (by kernel_rfl) (by rfl) (by intro w';go_simp;with_reducible rfl) (by simp only [Act.put,lA,lZ,lS,iw,jw];rfl) ?_
    refine pS 18 36 z18q19 HT_ rfl rfl (by kernel_rfl) (by rfl) (by intro w';go_simp;with_reducible rfl) (by simp only [Act.put,lA,lZ,lS,iw,jw];rfl) ?_
    refine tS 19 37 z18q20 HT_ hHeld rfl rfl (by kernel_rfl) (by rfl) (by rintro w' ⟨s0,s1,s2,s3,s4,s5,s6,s7⟩;go_simp;with_reducible rfl) (by simp only [Act.put,lA,lZ,lS,iw,jw];rfl) ?_
    refine oS 20 38 z18q21 HT_ rfl rfl (by kernel_rfl) (by decide) (fun K hK=>?_)
    refine goes_ Try.func27 (by kernel_rfl) rfl #[.int .i64 ((rd_T35 l0_1 x3_1).f2),.int .i64 0,.int .i64 99] (by rfl) rfl rfl (by (try simp only [lM,lC,lN]);first|done|rfl|(simp only [lD,lT];rfl)) ?_
    with_reducible refine (spec_l6In.calls ((rd_T35 l0_1 x3_1).f2) 0 99 true _ A17.out).mono ?_
    rintro e w' ⟨rfl,⟨nd,rfl⟩⟩
    refine ⟨_,rfl,?_⟩
    refine hK.out _ _ ⟨(bC Ba.out 0).trans rfl,(bC Ba.out 1).trans rfl,(bC Ba.out 2).trans rfl,(bC Bb.out 0).trans rfl,(bC Bb.out 1).trans rfl,(bW HB hw130_0:),(bW HB hw130_1:),(bW HB hw130_2:)⟩ (fun hHeld=>?_)
    clear hK K
    refine norm_ (by show Act.put _ (some 38) _=_;simp only [Act.put,lA,lZ,lS,iw,jw];rfl) ?_
    refine pS 21 39 z18q22 HT_ rfl rfl (by kernel_rfl) (by rfl) (by intro w';go_simp;with_reducible rfl) (by simp only [Act.put,lA,lZ,lS,iw,jw];rfl) ?_
    refine pS 22 40 z18q23 HT_ rfl rfl (by kernel_rfl) (by rfl) (by intro w';go_simp;with_reducible rfl) (by simp only [Act.put,lA,lZ,lS,iw,jw];rfl) ?_
    refine pS 23 41 z18q24 HT_ rfl rfl (by kernel_rfl) (by rfl) (by intro w';go_simp;with_reducible rfl) (by simp only [Act.put,lA,lZ,lS,iw,jw];rfl) ?_
    refine pS 24 42 z18q25 HT_ rfl rfl (by kernel_rfl) (by rfl) (by intro w';go_simp;with_reducible rfl) (by simp only [Act.put,lA,lZ,lS,iw,jw];rfl) ?_
    refine pS 25 43 z18q26 HT_ rfl rfl (by kernel_rfl) (by rfl) (by intro w';go_simp;with_reducible rfl) (by simp only [Act.put,lA,lZ,lS,iw,jw];rfl) ?_
    refine pS 26 44 z18q27 HT_ rfl rfl (by kernel_rfl) (by rfl) (by intro w';go_simp;with_reducible rfl) (by simp only [Act.put,lA,lZ,lS,iw,jw];rfl) ?_
    refine pS 27 45 z18q28 HT_ rfl rfl (by kernel_rfl) (by rfl) (by intro w';go_simp;with_reducible rfl) (by simp only [Act.put,lA,lZ,lS,iw,jw];rfl) ?_
    refine pS 29 47 z18q39 HT_ rfl rfl (by kernel_rfl) (by rfl) (by intro w';go_simp;with_reducible rfl) (by simp only [Act.put,lA,lZ,lS,iw,jw];rfl) ?_
    refine pS 30 48 z18q40 HT_ rfl rfl (by kernel_rfl) (by rfl) (by intro w';go_simp;with_reducible rfl) (by simp only [Act.put,lA,lZ,lS,iw,jw];rfl) ?_
    refine tS 28 46 z18q31 HT_ hHeld rfl rfl (by kernel_rfl) (by rfl) (by rintro w' ⟨s0,s1,s2,s3,s4,s5,s6,s7⟩;go_simp;with_reducible rfl) (by simp only [Act.put,lA,lZ,lS,iw,jw];rfl) ?_
    refine pS 31 49 z18q32 HT_ rfl rfl (by kernel_rfl) (by rfl) (by intro w';go_simp;with_reducible rfl) (by simp only [Act.put,lA,lZ,lS,iw,jw];rfl) ?_
    refine tS 32 50 z18q33 HT_ hHeld rfl rfl (by kernel_rfl) (by rfl) (by rintro w' ⟨s0,s1,s2,s3,s4,s5,s6,s7⟩;go_simp;with_reducible rfl) (by simp only [Act.put,lA,lZ,lS,iw,jw];rfl) ?_
    refine tS 33 51 z18q34 HT_ hHeld rfl rfl (by kernel_rfl) (by rfl) (by rintro w' ⟨s0,s1,s2,s3,s4,s5,s6,s7⟩;go_simp;with_reducible rfl) (by simp only [Act.put,lA,lZ,lS,iw,jw];rfl) ?_
    refine oS 34 52 z18q35 HT_ rfl rfl (by kernel_rfl) (by decide) (fun K hK=>?_)
    refine goes_ Try.func29 (by kernel_rfl) rfl #[.agg #[.int .i64 ((rd_T35 l0_1 (ji20)).f0),.int .i64 ((rd_T35 l0_1 (ji20)).f1),.int .i64 ((rd_T35 l0_1 (ji20)).f2)],.agg #[.int .i64 ((rd_T35 l0_1 x3_1).f0),.int .i64 ((rd_T35 l0_1 x3_1).f1),.int .i64 ((rd_T35 l0_1 x3_1).f2)]] (by rfl) rfl rfl (by (try simp only [lM,lC,lN]);first|done|(simp only [hji20];rfl)|rfl|(simp only [lD,lT];rfl)) ?_
    with_reducible refine (spec_l19Ahead.calls ((rd_T35 l0_1 (ji20)).f0) ((rd_T35 l0_1 (ji20)).f1) ((rd_T35 l0_1 (ji20)).f2) ((rd_T35 l0_1 x3_1).f0) ((rd_T35 l0_1 x3_1).f1) ((rd_T35 l0_1 x3_1).f2) t131 _ A23.out).mono ?_
    rintro e w26 ⟨rfl,hb⟩
    refine ⟨_,rfl,?_⟩
    have n0_:=Am (bX Bb.out hb)
    have n1_:=Am (bX Ba.out hb)
    have n2_:=Am (bP (by repeat (first|(with_reducible first|exact HB.out|apply oA|apply pN|apply o1|refine bS ?_ Be.out|refine bS ?_ Bf.out)|exact HB.out)) hb)
    clear Bb
    clear Ba
    clear HB
    have Bb:=n0_
    have Ba:=n1_
    have HB:=n2_
    clear n0_ n1_ n2_
    (try clear hb)
    (try clear hb2)
    (try clear hk)
    (try clear hi)
    refine hK.out _ _ ⟨(bC Ba.out 0).trans rfl,(bC Ba.out 1).trans rfl,(bC Ba.out 2).trans rfl,(bC Bb.out 0).trans rfl,(bC Bb.out 1).trans rfl,(bW HB hw130_0:),(bW HB hw130_1:),(bW HB hw130_2:)⟩ (fun hHeld=>?_)
    clear hK K
    refine norm_ (by show Act.put _ (some 52) _=_;simp only [Act.put,lA,lZ,lS,iw,jw];rfl) ?_
    refine pS 35 53 z18q36 HT_ rfl rfl (by kernel_rfl) (by rfl) (by intro w';go_simp;with_reducible rfl) (by simp only [Act.put,lA,lZ,lS,iw,jw];rfl) ?_
    refine pS 36 54 z18q37 HT_ rfl rfl (by kernel_rfl) (by rfl) (by intro w';go_simp;with_reducible rfl) (by simp only [Act.put,lA,lZ,lS,iw,jw];rfl) ?_
    refine pS 37 55 z18q38 HT_ rfl rfl (by kernel_rfl) (by rfl) (by intro w';go_simp;with_reducible rfl) (by simp only [Act.put,lA,lZ,lS,iw,jw];rfl) ?_
    refine done_ (done_of HT_.out (by kernel_rfl)) ?_
    try go_wp2
    go_meet
    case rel=>exact ⟨_,(!t131),(by first|rfl|(simp;done)|(simp [*];done)),H',⟨by have:=HK1.out;first|omega|exact nR _⟩,⟨by (with_reducible repeat (first|refine bN ?_ _|refine bD ?_|refine bA ?_ _));exact Bb.out⟩,⟨by (with_reducible repeat (first|refine bN ?_ _|refine bD ?_|refine bA ?_ _));exact Ba.out⟩,⟨by repeat (first|(with_reducible first|exact HB.out|apply oA|apply pN|apply o1|refine bS ?_ Be.out|refine bS ?_ Bf.out)|exact HB.out)⟩⟩
   case rest =>
    clear HC5
    try clear c1
    try clear c2
    try clear p2
    try clear c11
    try clear c13
    try clear c27
    try clear c28
    obtain ⟨kq,x55_4,rfl,HA,Bi,Bb,Ba,HB⟩:=hcut
    cases kq with
   |zero=>exact absurd HA.out (by simp [spec_ClockOk.j1])
   |succ kj4 =>
     have H:=HA.out
     clear HA
     simp only [spec_ClockOk.j1] at H
     by_cases c35:x55_4=true
     ·subst c35
      have H1:(some false)=some r:=by rw [if_pos rfl] at H;exact H
      clear H
      have H:=H1
      clear H1
      obtain rfl:=oJ H
      go_wp2
      go_ret
      exact ⟨by first|rfl|(simp [errW_none,errW_some] <;> rfl)|(simp [*,errW_none,errW_some] <;> rfl),by repeat (first|(with_reducible first|exact HB.out|apply oA|apply pN|apply o1|refine bS ?_ Be.out|refine bS ?_ Bf.out)|exact HB.out)⟩
     replace c35:=Bool.eq_false_iff.mpr c35
     subst c35
     have H1:(spec_ClockOk.l1 kj4 x3_1 0 a0_0 l0_1 ((rd_T35 l0_1 x3_1).f0) ((rd_T35 l0_1 x3_1).f1) ((rd_T35 l0_1 x3_1).f2))=some r:=by rw [if_neg (show ¬ (false=true) by decide)] at H;exact H
     clear H
     have H:=H1
     clear H1
     have H':=Am H
     clear H
     go_wp2
     go_loopg [5] kj4 (fun kq v5 w'=>∃ (x5_3:Int),v5=.int .i64 x5_3∧Aside0 (spec_ClockOk.l1 kq x3_1 x5_3 a0_0 l0_1 ((rd_T35 l0_1 x3_1).f0) ((rd_T35 l0_1 x3_1).f1) ((rd_T35 l0_1 x3_1).f2)=some r)∧Aside0 (kq≤kj4)∧Aside0 (w'.heap[Bd]?=some (.cells #[.int .i64 a0_0,(.slice (some ad125) l0_1.length c0_1)] 25 (0,0)))∧Aside0 (w'.heap[Bc]?=some (.cells #[.int .i64 ((rd_T35 l0_1 x3_1).f0),.int .i64 ((rd_T35 l0_1 x3_1).f1),.int .i64 ((rd_T35 l0_1 x3_1).f2)] 35 (0,0)))∧Aside0 (Below w.heap.size w w'))
     case atStart=>exact ⟨(0),(by first|rfl|(simp;done)|(simp [*];done)),H',⟨nR _⟩,⟨by (with_reducible repeat (first|refine bN ?_ _|refine bD ?_|refine bA ?_ _));exact Bb.out⟩,⟨by (with_reducible repeat (first|refine bN ?_ _|refine bD ?_|refine bA ?_ _));exact Ba.out⟩,⟨by repeat (first|(with_reducible first|exact HB.out|apply oA|apply pN|apply o1|refine bS ?_ Be.out|refine bS ?_ Bf.out)|exact HB.out)⟩⟩
     case round =>
      clear H'
      try clear c1
      try clear c2
      try clear p2
      try clear c3
      try clear c11
      try clear c13
      try clear c27
      try clear c28
      try clear c35
      try clear p2
      obtain ⟨x5_3,rfl,HA,HK3,Bb,Ba,HB⟩:=hrel
      cases gk with
     |zero=>exact absurd HA.out (by simp [spec_ClockOk.l1])
     |succ k3 =>
       have H:=HA.out
       clear HA
       simp only [spec_ClockOk.l1] at H
       by_cases c36:x5_3<x3_1
       rotate_left
       ·rw [if_neg c36] at H
        have c36b0:decide (x5_3<x3_1)=false:=dF c36
        clear c36
        have H':=Am H
        clear H
        go_wp2
        go_roundg k3
        case measure=>have:=HK1.out;have:=Bi.out;have:=HK3.out;omega
        case rel=>exact ⟨(wrap64 (x3_1 + 1)),(by first|rfl|(simp;done)|(simp [*];done)),H',⟨by have:=HK1.out;have:=Bi.out;have:=HK3.out;omega⟩,⟨by (with_reducible repeat (first|refine bN ?_ _|refine bD ?_|refine bA ?_ _));exact Bb.out⟩,⟨by repeat (first|(with_reducible first|exact HB.out|apply oA|apply pN|apply o1|refine bS ?_ Be.out|refine bS ?_ Bf.out)|exact HB.out)⟩⟩
       rw [if_pos c36] at H
       have c36b0:decide (x5_3<x3_1)=true:=dT c36
       clear c36
       by_cases c37:0≤x5_3
       rotate_left
       ·rw [if_neg c37] at H
        exact absurd H (by simp)
       rw [if_pos c37] at H
       have c37b0:decide (0≤x5_3)=true:=dT c37
       clear c37
       by_cases c38:x5_3<(l0_1.length:Int)
       rotate_left
       ·rw [if_neg c38] at H
        exact absurd H (by simp)
       rw [if_pos c38] at H
       have c38b0:decide (x5_3<(l0_1.length:Int))=true:=dT c38
       clear c38
       by_cases c39:((rd_T35 l0_1 x5_3).f0)=((rd_T35 l0_1 x3_1).f0)
       ·rw [if_pos c39] at H
        have c39b0:(((rd_T35 l0_1 x5_3).f0) == ((rd_T35 l0_1 x3_1).f0))=true:=beq_iff_eq.mpr c39
        have c39b1:(((rd_T35 l0_1 x5_3).f0) != ((rd_T35 l0_1 x3_1).f0))=false:=bne_eq_false_iff_eq.mpr c39
        clear c39
        obtain rfl:=oJ H
        try go_wp2
        have n0_:=Am (bD Bb.out)
        have n1_:=Am (bD Ba.out)
        have n2_:=Am (o1 HB.out)
        clear Bb
        clear Ba
        clear HB
        have Bb:=n0_
        have Ba:=n1_
        have HB:=n2_
        clear n0_ n1_ n2_
        have p132:0≤(x5_3:Int):=oE (by first|(with_reducible assumption)|assumption)
        have q132:x5_3<(l0_1.length:Int):=oE (by first|(with_reducible assumption)|assumption)
        obtain ⟨ad132,e132,hx132_0,hx132_1,hx132_2⟩:=at_T35 HR0_1.out x5_3 p132 q132
        have hw132_2:=hx132_2
        have hw132_1:=hx132_1
        have hw132_0:=hx132_0
        obtain rfl:ad125=ad132:=(by injection e132)
        replace hx132_0:=(bW HB hx132_0:)
        replace hx132_1:=(bW HB hx132_1:)
        replace hx132_2:=(bW HB hx132_2:)
        replace p132:=eq_true p132
        replace q132:=eq_true q132
        refine start_ (n:=9) (S:=fun w'=>w'.cell? ⟨Bd,0,none⟩=some (.int .i64 a0_0)∧w'.cell? ⟨Bd,1,none⟩=some (.slice (some ad125) l0_1.length c0_1)∧w'.cell? ⟨Bc,0,none⟩=some (.int .i64 ((rd_T35 l0_1 x3_1).f0))∧w'.cell? ⟨Bc,1,none⟩=some (.int .i64 ((rd_T35 l0_1 x3_1).f1))∧w'.cell? ⟨Bc,2,none⟩=some (.int .i64 ((rd_T35 l0_1 x3_1).f2))∧w'.cell? (ad125.add ((x5_3).toNat * 3))=some (.int .i64 ((rd_T35 l0_1 x5_3).f0))∧w'.cell? ⟨(ad125.add ((x5_3).toNat * 3)).block,(ad125.add ((x5_3).toNat * 3)).off + 1,none⟩=some (.int .i64 ((rd_T35 l0_1 x5_3).f1))∧w'.cell? ⟨(ad125.add ((x5_3).toNat * 3)).block,(ad125.add ((x5_3).toNat * 3)).off + 2,none⟩=some (.int .i64 ((rd_T35 l0_1 x5_3).f2))) (ds:=[]) z18q42 (by kernel_rfl) rfl rfl ⟨(bC Bb.out 0).trans rfl,(bC Bb.out 1).trans rfl,(bC Ba.out 0).trans rfl,(bC Ba.out 1).trans rfl,(bC Ba.out 2).trans rfl,(bW HB hw132_0:),(bW HB hw132_1:),(bW HB hw132_2:)⟩ (fun hHeld=>?_);refine with_st spec_ClockOk.tab10 spec_ClockOk.bits10 (fun _ _ _ _ _ h=>h) (fun HT_=>?_)
        generalize wr.drew=w40 at Bb Ba HB hx132_0 hx132_1 hx132_2 hHeld ⊢
        refine pS 0 61 z18q43 HT_ rfl rfl (by kernel_rfl) (by rfl) (by intro w';go_simp;with_reducible rfl) (by simp only [Act.put,lA,lZ,lS,iw,jw];rfl) ?_
        refine pS 2 63 z18q44 HT_ rfl rfl (by kernel_rfl) (by rfl) (by intro w';go_simp;with_reducible rfl) (by simp only [Act.put,lA,lZ,lS,iw,jw];rfl) ?_
        refine pS 6 67 z18q45 HT_ rfl rfl (by kernel_rfl) (by rfl) (by intro w';go_simp;with_reducible rfl) (by simp only [Act.put,lA,lZ,lS,iw,jw];rfl) ?_
        refine tS 1 62 z18q46 HT_ hHeld rfl rfl (by kernel_rfl) (by rfl) (by rintro w' ⟨s0,s1,s2,s3,s4,s5,s6,s7⟩;go_simp;with_reducible rfl) (by simp only [Act.put,lA,lZ,lS,iw,jw];rfl) ?_
        refine pS 3 64 z18q47 HT_ rfl rfl (by kernel_rfl) (by rfl) (by intro w';go_simp;with_reducible rfl) (by simp only [Act.put,lA,lZ,lS,iw,jw];rfl) ?_
        refine pS 4 65 z18q48 HT_ rfl rfl (by kernel_rfl) (by rfl) (by intro w';go_simp;with_reducible rfl) (by simp only [Act.put,lA,lZ,lS,iw,jw];rfl) ?_
        refine tS 5 66 z18q49 HT_ hHeld rfl rfl (by kernel_rfl) (by rfl) (by rintro w' ⟨s0,s1,s2,s3,s4,s5,s6,s7⟩;go_simp;with_reducible rfl) (by simp only [Act.put,lA,lZ,lS,iw,jw];rfl) ?_
        refine tS 7 68 z18q50 HT_ hHeld rfl rfl (by kernel_rfl) (by rfl) (by rintro w' ⟨s0,s1,s2,s3,s4,s5,s6,s7⟩;go_simp;with_reducible rfl) (by simp only [Act.put,lA,lZ,lS,iw,jw];rfl) ?_
        refine pS 8 69 z18q51 HT_ rfl rfl (by kernel_rfl) (by rfl) (by intro w';go_simp;with_reducible rfl) (by simp only [Act.put,lA,lZ,lS,iw,jw];rfl) ?_
        refine done_ (done_of HT_.out (by kernel_rfl)) ?_
        try go_wp2
        go_ret
        exact ⟨by first|rfl|(simp [errW_none,errW_some] <;> rfl)|(simp [*,errW_none,errW_some] <;> rfl),by repeat (first|(with_reducible first|exact HB.out|apply oA|apply pN|apply o1|refine bS ?_ Be.out|refine bS ?_ Bf.out)|exact HB.out)⟩
       rw [if_neg c39] at H
       have c39b0:(((rd_T35 l0_1 x5_3).f0) == ((rd_T35 l0_1 x3_1).f0))=false:=beq_eq_false_iff_ne.mpr c39
       have c39b1:(((rd_T35 l0_1 x5_3).f0) != ((rd_T35 l0_1 x3_1).f0))=true:=bne_iff_ne.mpr c39
       have H':=Am H
       clear H
       try go_wp2
       have n0_:=Am (bD Bb.out)
       have n1_:=Am (bD Ba.out)
       have n2_:=Am (o1 HB.out)
       clear Bb
       clear Ba
       clear HB
       have Bb:=n0_
       have Ba:=n1_
       have HB:=n2_
       clear n0_ n1_ n2_
       have p132:0≤(x5_3:Int):=oE (by first|(with_reducible assumption)|assumption)
       have q132:x5_3<(l0_1.length:Int):=oE (by first|(with_reducible assumption)|assumption)
       obtain ⟨ad132,e132,hx132_0,hx132_1,hx132_2⟩:=at_T35 HR0_1.out x5_3 p132 q132
       have hw132_2:=hx132_2
       have hw132_1:=hx132_1
       have hw132_0:=hx132_0
       obtain rfl:ad125=ad132:=(by injection e132)
       replace hx132_0:=(bW HB hx132_0:)
       replace hx132_1:=(bW HB hx132_1:)
       replace hx132_2:=(bW HB hx132_2:)
       replace p132:=eq_true p132
       replace q132:=eq_true q132
       refine start_ (n:=9) (S:=fun w'=>w'.cell? ⟨Bd,0,none⟩=some (.int .i64 a0_0)∧w'.cell? ⟨Bd,1,none⟩=some (.slice (some ad125) l0_1.length c0_1)∧w'.cell? ⟨Bc,0,none⟩=some (.int .i64 ((rd_T35 l0_1 x3_1).f0))∧w'.cell? ⟨Bc,1,none⟩=some (.int .i64 ((rd_T35 l0_1 x3_1).f1))∧w'.cell? ⟨Bc,2,none⟩=some (.int .i64 ((rd_T35 l0_1 x3_1).f2))∧w'.cell? (ad125.add ((x5_3).toNat * 3))=some (.int .i64 ((rd_T35 l0_1 x5_3).f0))∧w'.cell? ⟨(ad125.add ((x5_3).toNat * 3)).block,(ad125.add ((x5_3).toNat * 3)).off + 1,none⟩=some (.int .i64 ((rd_T35 l0_1 x5_3).f1))∧w'.cell? ⟨(ad125.add ((x5_3).toNat * 3)).block,(ad125.add ((x5_3).toNat * 3)).off + 2,none⟩=some (.int .i64 ((rd_T35 l0_1 x5_3).f2))) (ds:=[]) z18q42 (by kernel_rfl) rfl rfl ⟨(bC Bb.out 0).trans rfl,(bC Bb.out 1).trans rfl,(bC Ba.out 0).trans rfl,(bC Ba.out 1).trans rfl,(bC Ba.out 2).trans rfl,(bW HB hw132_0:),(bW HB hw132_1:),(bW HB hw132_2:)⟩ (fun hHeld=>?_);refine with_st spec_ClockOk.tab10 spec_ClockOk.bits10 (fun _ _ _ _ _ h=>h) (fun HT_=>?_)
       generalize wr.drew=w41 at Bb Ba HB hx132_0 hx132_1 hx132_2 hHeld ⊢
       refine pS 0 61 z18q43 HT_ rfl rfl (by kernel_rfl) (by rfl) (by intro w';go_simp;with_reducible rfl) (by simp only [Act.put,lA,lZ,lS,iw,jw];rfl) ?_
       refine pS 2 63 z18q44 HT_ rfl rfl (by kernel_rfl) (by rfl) (by intro w';go_simp;with_reducible rfl) (by simp only [Act.put,lA,lZ,lS,iw,jw];rfl) ?_
       refine pS 6 67 z18q45 HT_ rfl rfl (by kernel_rfl) (by rfl) (by intro w';go_simp;with_reducible rfl) (by simp only [Act.put,lA,lZ,lS,iw,jw];rfl) ?_
       refine tS 1 62 z18q46 HT_ hHeld rfl rfl (by kernel_rfl) (by rfl) (by rintro w' ⟨s0,s1,s2,s3,s4,s5,s6,s7⟩;go_simp;with_reducible rfl) (by simp only [Act.put,lA,lZ,lS,iw,jw];rfl) ?_
       refine pS 3 64 z18q47 HT_ rfl rfl (by kernel_rfl) (by rfl) (by intro w';go_simp;with_reducible rfl) (by simp only [Act.put,lA,lZ,lS,iw,jw];rfl) ?_
       refine pS 4 65 z18q48 HT_ rfl rfl (by kernel_rfl) (by rfl) (by intro w';go_simp;with_reducible rfl) (by simp only [Act.put,lA,lZ,lS,iw,jw];rfl) ?_
       refine tS 5 66 z18q49 HT_ hHeld rfl rfl (by kernel_rfl) (by rfl) (by rintro w' ⟨s0,s1,s2,s3,s4,s5,s6,s7⟩;go_simp;with_reducible rfl) (by simp only [Act.put,lA,lZ,lS,iw,jw];rfl) ?_
       refine tS 7 68 z18q50 HT_ hHeld rfl rfl (by kernel_rfl) (by rfl) (by rintro w' ⟨s0,s1,s2,s3,s4,s5,s6,s7⟩;go_simp;with_reducible rfl) (by simp only [Act.put,lA,lZ,lS,iw,jw];rfl) ?_
       refine pS 8 69 z18q51 HT_ rfl rfl (by kernel_rfl) (by rfl) (by intro w';go_simp;with_reducible rfl) (by simp only [Act.put,lA,lZ,lS,iw,jw];rfl) ?_
       refine done_ (done_of HT_.out (by kernel_rfl)) ?_
       try go_wp2
       go_roundg k3
       case measure=>have:=HK1.out;have:=Bi.out;have:=HK3.out;omega
       case rel=>exact ⟨(wrap64 (x5_3 + 1)),(by first|rfl|(simp;done)|(simp [*];done)),H',⟨by have:=HK1.out;have:=Bi.out;have:=HK3.out;omega⟩,⟨by (with_reducible repeat (first|refine bN ?_ _|refine bD ?_|refine bA ?_ _));exact Bb.out⟩,⟨by (with_reducible repeat (first|refine bN ?_ _|refine bD ?_|refine bA ?_ _));exact Ba.out⟩,⟨by repeat (first|(with_reducible first|exact HB.out|apply oA|apply pN|apply o1|refine bS ?_ Be.out|refine bS ?_ Bf.out)|exact HB.out)⟩⟩
end Go.Proofs.Ytpacdakadkblgaa.PFnClockDrop
