/- Proved here, without a condition beyond those that each theorem states: what the Go functions named below do is what the plain functions of the same names say. Written by xprint.py, a program of this session. -/
import Derived.Test.YtfhcgmfodfcpeaaPFnQueueRunx0
import Derived.Test.YtfhcgmfodfcpeaaPFnQueueRunx3
import Derived.Test.YtfhcgmfodfcpeaaPFnQueueRunx4
namespace Go.Proofs.Ytfhcgmfodfcpeaa.PFnQueueRun
open Go.RowKit Go.Proofs.YtfhcgmfodfcpeaaW.PrintWords Go.Proofs.YtfhcgmfodfcpeaaW.PrintLast Go.Proofs.YtfhcgmfodfcpeaaW.PrintMore
attribute [local go_sem] max2_int min2_int max_two min_two max_three min_three max_four min_four   -- for this text's walks alone
set_option linter.unusedVariables false
set_option linter.unusedSimpArgs false

attribute [local go_sem ↓] isSome_setCell_
/-! ### impl_QueueTick: function 21 -/
def impl_QueueTick.j0 : Nat → Int → Bool → List (S40) → Int → Option ((List (S40)) × Int × Int × Bool)
|0, _, _, _, _ => none
|k + 1, x5, x32, x130000, x130001 => if x32 = true then (some (([] : List (S40)), 0, (-1), false)) else ((impl_Queue_clone.f x130000 x130001).bind fun bt135 => (if 0 ≤ x5 then (if x5 < (bt135.1.length : Int) then (if ((rd_T40 bt135.1 x5).f1) = 0 then (none) else ((some (bt135.1.set (x5 : Int).toNat (⟨(rd_T40 bt135.1 x5).f0, (rd_T40 bt135.1 x5).f1, wrap64 (((rd_T40 bt135.1 x5).f2) + (wrap64 (Int.tdiv (60 : Int) ((rd_T40 bt135.1 x5).f1)))), (rd_T40 bt135.1 x5).f3⟩ : S40) : List (S40))).bind fun y142 => ((impl_Queue_next.f k y142 bt135.2).bind fun t143 => (if 0 ≤ t143 then (if t143 < (bt135.1.length : Int) then (some (y142, mx bt135.2 ((rd_T40 y142 t143).f2), (rd_T40 y142 x5).f0, true)) else (none)) else (none))))) else (none)) else (none)))
def impl_QueueTick.f (k : Nat) (l0_0 : List (S40)) (a0_1 : Int) : Option ((List (S40)) × Int × Int × Bool) := (impl_Queue_next.f k l0_0 a0_1).bind fun t131 => ((impl_QueueOk.f k l0_0 a0_1).bind fun t132 => (if t132 = true then (if t131 < 0 then (impl_QueueTick.j0 k t131 true l0_0 a0_1) else (if 0 ≤ t131 then (if t131 < (l0_0.length : Int) then (if ((rd_T40 l0_0 t131).f1) = 0 then (none) else (impl_QueueTick.j0 k t131 (decide ((wrap64 (((rd_T40 l0_0 t131).f2) + (wrap64 (Int.tdiv (60 : Int) ((rd_T40 l0_0 t131).f1))))) > 1000000)) l0_0 a0_1)) else (none)) else (none))) else (impl_QueueTick.j0 k t131 true l0_0 a0_1)))
theorem impl_QueueTick.mono_l : ∀ k, (∀ y0 y1 y2 y3, LeO (impl_QueueTick.j0 k y0 y1 y2 y3) (impl_QueueTick.j0 (k + 1) y0 y1 y2 y3))
|0 => fun _ _ _ _ r h => by simp [impl_QueueTick.j0] at h
|k + 1 => by
  have ih0 := impl_QueueTick.mono_l k
  ·intro y0 y1 y2 y3
   unfold impl_QueueTick.j0
   repeat' first
  |(with_reducible exact ih0 _ _ _ _)
  |(with_reducible exact impl_QueueOk.mono _ _ _)
  |(with_reducible exact impl_Queue_next.mono _ _ _)
  |(with_reducible exact LeO.refl _)
  |(with_reducible exact LeO.none _)
  |(with_reducible refine LeO.ite ?_ ?_)
  |(with_reducible refine LeO.bind ?_ (fun _ => ?_))
  |exact ih0 _ _ _ _
  |exact impl_QueueOk.mono _ _ _
  |exact impl_Queue_next.mono _ _ _
  |exact LeO.none _
  |refine LeO.ite ?_ ?_
  |refine LeO.bind ?_ (fun _ => ?_)
theorem impl_QueueTick.mono : ∀ a0 a1 k, LeO (impl_QueueTick.f k a0 a1) (impl_QueueTick.f (k + 1) a0 a1) := by
 intro a0 a1 k
 have ih0 := impl_QueueTick.mono_l k
 unfold impl_QueueTick.f
 repeat' first
  |(with_reducible exact ih0 _ _ _ _)
  |(with_reducible exact impl_QueueOk.mono _ _ _)
  |(with_reducible exact impl_Queue_next.mono _ _ _)
  |(with_reducible exact LeO.refl _)
  |(with_reducible exact LeO.none _)
  |(with_reducible refine LeO.ite ?_ ?_)
  |(with_reducible refine LeO.bind ?_ (fun _ => ?_))
  |exact ih0 _ _ _ _
  |exact impl_QueueOk.mono _ _ _
  |exact impl_Queue_next.mono _ _ _
  |exact LeO.none _
  |refine LeO.ite ?_ ?_
  |refine LeO.bind ?_ (fun _ => ?_)
def impl_QueueTick.T2 : Bool × List (List Nat × List Nat) := (true, [([], []), ([0], [0]), ([1], [1]), ([2, 1], [2]), ([3], [3]), ([4, 3], [3, 4]), ([3, 5], [3, 5]), ([6, 3], [6]), ([7], [7]), ([8, 7], [7, 8]), ([7], [7]), ([9, 10, 7], [7, 9, 10]), ([11, 7], [7, 11]), ([12, 7], [7, 12]), ([7], [7]), ([14, 7], [7, 14]), ([7], [7]), ([15, 16, 7], [7, 15, 16]), ([17, 7], [7, 17]), ([18, 7], [7, 18]), ([19, 7], [7, 19]), ([13, 20, 7], [7, 13, 20]), ([21, 7], [7, 21]), ([7, 22], [7, 22])])
def impl_QueueTick.B2 : List Nat := [0, 1, 3, 7, 15, 31, 63, 127, 255, 511, 255, 2047, 4095, 8191, 255, 16639, 255, 114943, 246015, 508159, 1032447, 2097151, 4194303, 8388607]
theorem impl_QueueTick.tab2 : rtab .any (opsOf Try.f21 2) = impl_QueueTick.T2 := by kernel_rfl
theorem impl_QueueTick.bits2 : waitsOk impl_QueueTick.T2.2 impl_QueueTick.B2 = true := by kernel_rfl
def impl_QueueTick.T5 : Bool × List (List Nat × List Nat) := (true, [([], []), ([0], [0]), ([], []), ([1, 2], [1, 2]), ([3], [3]), ([4], [4]), ([], []), ([6], [6]), ([], []), ([7, 8], [7, 8]), ([9], [9]), ([10], [10]), ([11], [11]), ([5, 12], [5, 12]), ([1, 2, 0, 1, 2, 3, 4, 5, 6, 7, 8, 9, 10, 11, 12, 13], [1, 2]), ([14, 0, 1, 2, 3, 4, 5, 6, 7, 8, 9, 10, 11, 12, 13], [14]), ([15, 13, 0, 1, 2, 3, 4, 5, 6, 7, 8, 9, 10, 11, 12, 13], [13, 15])])
def impl_QueueTick.B5 : List Nat := [0, 1, 0, 7, 15, 31, 0, 64, 0, 448, 960, 1984, 4032, 8191, 16383, 32767, 65535]
theorem impl_QueueTick.tab5 : rtab .any (opsOf Try.f21 5) = impl_QueueTick.T5 := by kernel_rfl
theorem impl_QueueTick.bits5 : waitsOk impl_QueueTick.T5.2 impl_QueueTick.B5 = true := by kernel_rfl
def impl_QueueTick.T6 : Bool × List (List Nat × List Nat) := (true, [([], []), ([0], [0]), ([], []), ([2], [2]), ([], []), ([4], [4]), ([3, 5], [3, 5]), ([6], [6]), ([7], [7]), ([1, 8], [1, 8]), ([0, 1, 2, 3, 4, 5, 6, 7, 8, 9], []), ([10, 9, 5, 0, 1, 2, 3, 4, 5, 6, 7, 8, 9], [9, 10])])
def impl_QueueTick.B6 : List Nat := [0, 1, 0, 4, 0, 16, 60, 124, 252, 511, 1023, 2047]
theorem impl_QueueTick.tab6 : rtab .any (opsOf Try.f21 6) = impl_QueueTick.T6 := by kernel_rfl
theorem impl_QueueTick.bits6 : waitsOk impl_QueueTick.T6.2 impl_QueueTick.B6 = true := by kernel_rfl
def impl_QueueTick.T7 : Bool × List (List Nat × List Nat) := (true, [([], []), ([], []), ([1], [1]), ([], []), ([2, 3], [2, 3]), ([4], [4]), ([5], [5]), ([0, 0], [0]), ([6, 7, 0, 1, 2, 3, 4, 5, 6, 7], [6]), ([8, 0, 1, 2, 3, 4, 5, 6, 7, 8], [])])
def impl_QueueTick.B7 : List Nat := [0, 0, 2, 0, 14, 30, 62, 1, 255, 511]
theorem impl_QueueTick.tab7 : rtab .any (opsOf Try.f21 7) = impl_QueueTick.T7 := by kernel_rfl
theorem impl_QueueTick.bits7 : waitsOk impl_QueueTick.T7.2 impl_QueueTick.B7 = true := by kernel_rfl
abbrev z21q0 : Array Bool := bQ 24 0
abbrev z21q1 : Array Bool := bQ 24 1
abbrev z21q2 : Array Bool := bQ 24 3
abbrev z21q3 : Array Bool := bQ 24 7
abbrev z21q4 : Array Bool := bQ 24 15
abbrev z21q5 : Array Bool := bQ 24 31
abbrev z21q6 : Array Bool := bQ 24 63
abbrev z21q7 : Array Bool := bQ 24 127
abbrev z21q8 : Array Bool := bQ 24 255
abbrev z21q9 : Array Bool := bQ 24 511
abbrev z21q10 : Array Bool := bQ 24 1023
abbrev z21q11 : Array Bool := bQ 24 2047
abbrev z21q12 : Array Bool := bQ 24 4095
abbrev z21q13 : Array Bool := bQ 24 8191
abbrev z21q14 : Array Bool := bQ 24 16383
abbrev z21q15 : Array Bool := bQ 24 32767
abbrev z21q16 : Array Bool := bQ 24 65535
abbrev z21q17 : Array Bool := bQ 24 131071
abbrev z21q18 : Array Bool := bQ 24 262143
abbrev z21q19 : Array Bool := bQ 24 524287
abbrev z21q20 : Array Bool := bQ 24 1048575
abbrev z21q21 : Array Bool := bQ 24 2097151
abbrev z21q22 : Array Bool := bQ 24 4194303
abbrev z21q23 : Array Bool := bQ 24 8388607
abbrev z21q24 : Array Bool := bQ 24 16777215
abbrev z21q25 : Array Bool := bQ 24 1535
abbrev z21q26 : Array Bool := bQ 24 17919
abbrev z21q27 : Array Bool := bQ 24 83455
abbrev z21q28 : Array Bool := bQ 24 83967
abbrev z21q29 : Array Bool := bQ 24 86015
abbrev z21q30 : Array Bool := bQ 24 90111
abbrev z21q31 : Array Bool := bQ 24 98303
abbrev z21q32 : Array Bool := bQ 17 0
abbrev z21q33 : Array Bool := bQ 17 1
abbrev z21q34 : Array Bool := bQ 17 5
abbrev z21q35 : Array Bool := bQ 17 69
abbrev z21q36 : Array Bool := bQ 17 325
abbrev z21q37 : Array Bool := bQ 17 327
abbrev z21q38 : Array Bool := bQ 17 335
abbrev z21q39 : Array Bool := bQ 17 351
abbrev z21q40 : Array Bool := bQ 17 383
abbrev z21q41 : Array Bool := bQ 17 511
abbrev z21q42 : Array Bool := bQ 17 1023
abbrev z21q43 : Array Bool := bQ 17 2047
abbrev z21q44 : Array Bool := bQ 17 4095
abbrev z21q45 : Array Bool := bQ 17 8191
abbrev z21q46 : Array Bool := bQ 17 16383
abbrev z21q47 : Array Bool := bQ 17 32767
abbrev z21q48 : Array Bool := bQ 17 65535
abbrev z21q49 : Array Bool := bQ 17 131071
abbrev z21q50 : Array Bool := bQ 12 0
abbrev z21q51 : Array Bool := bQ 12 1
abbrev z21q52 : Array Bool := bQ 12 5
abbrev z21q53 : Array Bool := bQ 12 7
abbrev z21q54 : Array Bool := bQ 12 15
abbrev z21q55 : Array Bool := bQ 12 31
abbrev z21q56 : Array Bool := bQ 12 63
abbrev z21q57 : Array Bool := bQ 12 127
abbrev z21q58 : Array Bool := bQ 12 255
abbrev z21q59 : Array Bool := bQ 12 511
abbrev z21q60 : Array Bool := bQ 12 1023
abbrev z21q61 : Array Bool := bQ 12 2047
abbrev z21q62 : Array Bool := bQ 12 4095
abbrev z21q63 : Array Bool := bQ 10 0
abbrev z21q64 : Array Bool := bQ 10 2
abbrev z21q65 : Array Bool := bQ 10 10
abbrev z21q66 : Array Bool := bQ 10 11
abbrev z21q67 : Array Bool := bQ 10 15
abbrev z21q68 : Array Bool := bQ 10 31
abbrev z21q69 : Array Bool := bQ 10 63
abbrev z21q70 : Array Bool := bQ 10 127
abbrev z21q71 : Array Bool := bQ 10 255
abbrev z21q72 : Array Bool := bQ 10 511
abbrev z21q73 : Array Bool := bQ 10 1023
set_option maxHeartbeats 2000000 in
set_option maxRecDepth 100000 in
theorem impl_QueueTick.calls (k:Nat) (A0_0:Option Addr) (c0_0:Nat) (l0_0:List (S40)) (a0_1:Int) (r1:List (S40)) (r2:Int) (r3:Int) (r4:Bool) (w:World) (hr0_0:Kd.C k40 w A0_0 l0_0.length l0_0) (hc0_0:l0_0.length≤c0_0) (h:impl_QueueTick.f k l0_0 a0_1=some (r1,r2,r3,r4)) :
  Calls Try.prog 21 #[.agg #[.slice A0_0 l0_0.length c0_0,.int .i64 a0_1]] w fun e w'=>∃ v0_:Value,e=.returned (.tuple #[.agg #[v0_,.int .i64 r2],.int .i64 r3,.bool r4])∧Kd.R k40 40 w' w.heap.size (fun _=>True) v0_ r1∧Below w.heap.size w w':=by
 have hu25:=Try.underlying25
 have HR0_0:=Am hr0_0
 have HC0_0:=Am hc0_0
 clear hr0_0 hc0_0
 have HB:=Am (Below.refl w.heap.size w)
 have H:((impl_Queue_next.f k l0_0 a0_1).bind fun t131=>((impl_QueueOk.f k l0_0 a0_1).bind fun t132=>(if t132=true then (if t131<0 then (impl_QueueTick.j0 k t131 true l0_0 a0_1) else (if 0≤t131 then (if t131<(l0_0.length:Int) then (if ((rd_T40 l0_0 t131).f1)=0 then (none) else (impl_QueueTick.j0 k t131 (decide ((wrap64 (((rd_T40 l0_0 t131).f2) + (wrap64 (Int.tdiv (60:Int) ((rd_T40 l0_0 t131).f1))))) > 1000000)) l0_0 a0_1)) else (none)) else (none))) else (impl_QueueTick.j0 k t131 true l0_0 a0_1))))=some (r1,r2,r3,r4):=h
 clear h
 replace H:=oC H
 obtain ⟨t131,A20,H⟩:=H
 replace H:((impl_QueueOk.f k l0_0 a0_1).bind fun t132=>(if t132=true then (if t131<0 then (impl_QueueTick.j0 k t131 true l0_0 a0_1) else (if 0≤t131 then (if t131<(l0_0.length:Int) then (if ((rd_T40 l0_0 t131).f1)=0 then (none) else (impl_QueueTick.j0 k t131 (decide ((wrap64 (((rd_T40 l0_0 t131).f2) + (wrap64 (Int.tdiv (60:Int) ((rd_T40 l0_0 t131).f1))))) > 1000000)) l0_0 a0_1)) else (none)) else (none))) else (impl_QueueTick.j0 k t131 true l0_0 a0_1)))=some (r1,r2,r3,r4):=H
 have A2:=Am A20
 clear A20
 have HC3:=Am H
 clear H
 go_enter Try.func21,Try.ntmps21
 go_upto_region 2 with (first|((with_reducible refine gate_dst (N:=1) rfl ?_);refine box_event ?hg (N:=1) ?hd (cs:=#[.slice A0_0 l0_0.length c0_0,.int .i64 a0_1]) (t:=25) ?hr ?_;(case hd=>rfl);(case hg=>rfl);(case hr=>first|(go_simp;done)|(go_simp;rfl));intro Bg hg w4 hbox hb;have n0_:=Am (bP (by repeat (first|(with_reducible first|exact HB.out|apply oA|apply pN|apply o1)|exact HB.out)) hb);have n1_:=Am (hbox);have n2_:=Am ((by rw [hg];exact (bZ (by repeat (first|(with_reducible first|exact HB.out|apply oA|apply pN|apply o1)|exact HB.out))):w.heap.size≤Bg));have n3_:=Am ((by rw [hg];exact (bZ (by repeat (first|(with_reducible first|exact HB.out|apply oA|apply pN|apply o1)|exact HB.out))):w.heap.size≤Bg));clear HB;revert n0_ n1_ n2_ n3_;intro HB Bb BH Bh;clear hb hbox hg)|((with_reducible refine gate_dst (N:=2) rfl ?_);refine box_event ?hg (N:=2) ?hd (cs:=#[.slice none 0 0,.int .i64 0]) (t:=25) ?hr ?_;(case hd=>rfl);(case hg=>rfl);(case hr=>first|(go_simp;done)|(go_simp;rfl));intro Bf hg w5 hbox hb;have n0_:=Am (bB (g:=Bg) (o:=.cells #[.slice A0_0 l0_0.length c0_0,.int .i64 a0_1] 25 (0,0)) (bL Bb.out) hb);have n1_:=Am (bP (by repeat (first|(with_reducible first|exact HB.out|apply oA|apply pN|apply o1|refine bS ?_ Bh.out)|exact HB.out)) hb);have n2_:=Am (hbox);have n3_:=Am ((by rw [hg];exact (bZ (by repeat (first|(with_reducible first|exact HB.out|apply oA|apply pN|apply o1|refine bS ?_ Bh.out)|exact HB.out))):w.heap.size≤Bf));have n4_:=Am ((by rw [hg];exact (bZ (by repeat (first|(with_reducible first|exact HB.out|apply oA|apply pN|apply o1|refine bS ?_ Bh.out)|exact HB.out))):w.heap.size≤Bf));have n5_:=Am ((by rw [hg];exact Nat.ne_of_lt (blk_lt (g:=Bg) (o:=.cells #[.slice A0_0 l0_0.length c0_0,.int .i64 a0_1] 25 (0,0)) (bL Bb.out)):Bg≠Bf));have n6_:=Am ((by rw [hg];exact Nat.ne_of_gt (blk_lt (g:=Bg) (o:=.cells #[.slice A0_0 l0_0.length c0_0,.int .i64 a0_1] 25 (0,0)) (bL Bb.out)):Bf≠Bg));clear Bb HB;revert n0_ n1_ n2_ n3_ n4_ n5_ n6_;intro Bb HB Ba BI Bi Bl Bm;clear hb hbox hg;have BS:=Bl.out;have BT:=Bm.out;have BD:w5.cell? ⟨Bg,0,none⟩=some (.slice A0_0 l0_0.length c0_0):=(bC Bb.out 0).trans rfl;have BE:w5.cell? ⟨Bg,1,none⟩=some (.int .i64 a0_1):=(bC Bb.out 1).trans rfl;have BF:=bF Bb.out 0;have BG:=bF Bb.out 1)|((with_reducible refine gate_callee (f:=43) rfl ?_);refine goesL_ (some 8) rfl rfl Try.func43 (by kernel_rfl) rfl #[.agg #[.slice A0_0 l0_0.length c0_0,.int .i64 a0_1]] rfl (by (try simp only [lM,lC,lN]);first|done|rfl|(simp only [lD,lT];rfl)) ?_;(with_reducible refine (impl_Queue_next.calls k _ _ l0_0 a0_1 t131 _ ?side1 ?side2 A2.out).mono ?_);(case side1=>repeat (first|exact (cB HR0_0.out HB.out)|(with_reducible refine cA ?_ _)|(with_reducible refine cN ?_ _)|(with_reducible refine cD ?_)));(case side2=>exact HC0_0.out);rintro e w8 ⟨rfl,hb⟩;refine ⟨_,rfl,?_⟩;have n0_:=Am (bB (g:=Bg) (o:=.cells #[.slice A0_0 l0_0.length c0_0,.int .i64 a0_1] 25 (0,0)) (bL Bb.out) hb);have n1_:=Am (bB (g:=Bf) (o:=.cells #[.slice none 0 0,.int .i64 0] 25 (0,0)) (bL Ba.out) hb);have n2_:=Am (bP (by repeat (first|(with_reducible first|exact HB.out|apply oA|apply pN|apply o1|refine bS ?_ Bh.out|refine bS ?_ Bi.out)|exact HB.out)) hb);clear Bb Ba HB;revert n0_ n1_ n2_;intro Bb Ba HB;(try clear hb);(try clear hb2);(try clear hk);(try clear hi)))
 (try simp only [Act.put,lA,lZ,lS])
 go_cut [32] (fun v32 wc=>∃ (kq:Nat) (x32_2:Bool),v32=.bool x32_2∧Aside0 (impl_QueueTick.j0 kq t131 x32_2 l0_0 a0_1=some (r1,r2,r3,r4))∧Aside0 (kq≤k)∧Aside0 (wc.heap[Bg]?=some (.cells #[(.slice A0_0 l0_0.length c0_0),.int .i64 a0_1] 25 (0,0)))∧Aside0 (wc.heap[Bf]?=some (.cells #[(.slice none 0 0),.int .i64 0] 25 (0,0)))∧Aside0 (Below w.heap.size w wc))
 case first =>
  have H:=HC3.out
  clear HC3
  replace H:=oC H
  obtain ⟨t132,A90,H⟩:=H
  replace H:(if t132=true then (if t131<0 then (impl_QueueTick.j0 k t131 true l0_0 a0_1) else (if 0≤t131 then (if t131<(l0_0.length:Int) then (if ((rd_T40 l0_0 t131).f1)=0 then (none) else (impl_QueueTick.j0 k t131 (decide ((wrap64 (((rd_T40 l0_0 t131).f2) + (wrap64 (Int.tdiv (60:Int) ((rd_T40 l0_0 t131).f1))))) > 1000000)) l0_0 a0_1)) else (none)) else (none))) else (impl_QueueTick.j0 k t131 true l0_0 a0_1))=some (r1,r2,r3,r4):=H
  have A9:=Am A90
  clear A90
  by_cases c10:t132=true
  rotate_left
  ·replace c10:=Bool.eq_false_iff.mpr c10
   subst c10
   have H1:(impl_QueueTick.j0 k t131 true l0_0 a0_1)=some (r1,r2,r3,r4):=by rw [if_neg (show ¬ (false=true) by decide)] at H;exact H
   clear H
   have H:=H1
   clear H1
   have H':=Am H
   clear H
   try go_wp2
   have n0_:=Am (bD Bb.out)
   have n1_:=Am (bD Ba.out)
   have n2_:=Am (o1 HB.out)
   clear Bb
   clear Ba
   clear HB
   have Bb:=n0_
   have Ba:=n1_
   have HB:=n2_
   clear n0_ n1_ n2_
   refine start_ (n:=24) (S:=fun w'=>w'.cell? ⟨Bg,0,none⟩=some (.slice A0_0 l0_0.length c0_0)∧w'.cell? ⟨Bg,1,none⟩=some (.int .i64 a0_1)) (ds:=[]) z21q0 (by kernel_rfl) rfl rfl ⟨(bC Bb.out 0).trans rfl,(bC Bb.out 1).trans rfl⟩ (fun hHeld=>?_);refine with_st impl_QueueTick.tab2 impl_QueueTick.bits2 (fun _ _ _ _ _ h=>h) (fun HT_=>?_)
   generalize w8.drew=w19 at Bb Ba HB hHeld ⊢
   refine tS 0 9 z21q1 HT_ hHeld rfl rfl (by kernel_rfl) (by rfl) (by rintro w' ⟨s0,s1⟩;go_simp;with_reducible rfl) (by simp only [Act.put,lA,lZ,lS,iw,jw];rfl) ?_
   refine oS 1 10 z21q2 HT_ rfl rfl (by kernel_rfl) (by decide) (fun K hK=>?_)
   refine goes_ Try.func16 (by kernel_rfl) rfl #[.agg #[.slice A0_0 l0_0.length c0_0,.int .i64 a0_1]] (by rfl) rfl rfl (by (try simp only [lM,lC,lN]);first|done|rfl|(simp only [lD,lT];rfl)) ?_
   with_reducible refine (impl_QueueOk.calls k _ _ l0_0 a0_1 false _ ?side1 ?side2 A9.out).mono ?_
   (case side1=>repeat (first|exact (cB HR0_0.out HB.out)|(with_reducible refine cA ?_ _)|(with_reducible refine cN ?_ _)|(with_reducible refine cD ?_)))
   (case side2=>exact HC0_0.out)
   rintro e w20 ⟨rfl,hb⟩
   refine ⟨_,rfl,?_⟩
   have n0_:=Am (bB (g:=Bg) (o:=.cells #[.slice A0_0 l0_0.length c0_0,.int .i64 a0_1] 25 (0,0)) (bL Bb.out) hb)
   have n1_:=Am (bB (g:=Bf) (o:=.cells #[.slice none 0 0,.int .i64 0] 25 (0,0)) (bL Ba.out) hb)
   have n2_:=Am (bP (by repeat (first|(with_reducible first|exact HB.out|apply oA|apply pN|apply o1|refine bS ?_ Bh.out|refine bS ?_ Bi.out)|exact HB.out)) hb)
   clear Bb
   clear Ba
   clear HB
   have Bb:=n0_
   have Ba:=n1_
   have HB:=n2_
   clear n0_ n1_ n2_
   (try clear hb)
   (try clear hb2)
   (try clear hk)
   (try clear hi)
   refine hK.out _ _ ⟨(bC Bb.out 0).trans rfl,(bC Bb.out 1).trans rfl⟩ (fun hHeld=>?_)
   clear hK K
   refine norm_ (by show Act.put _ (some 10) _=_;simp only [Act.put,lA,lZ,lS,iw,jw];rfl) ?_
   refine pS 2 11 z21q3 HT_ rfl rfl (by kernel_rfl) (by rfl) (by intro w';go_simp;with_reducible rfl) (by simp only [Act.put,lA,lZ,lS,iw,jw];rfl) ?_
   refine pS 3 12 z21q4 HT_ rfl rfl (by kernel_rfl) (by rfl) (by intro w';go_simp;with_reducible rfl) (by simp only [Act.put,lA,lZ,lS,iw,jw];rfl) ?_
   refine vS 4 13 z21q5 HT_ rfl rfl (by kernel_rfl) (by rfl) (by simp only [Act.put,lA,lZ,lS,iw,jw];rfl) ?_
   refine vS 5 14 z21q6 HT_ rfl rfl (by kernel_rfl) (by rfl) (by simp only [Act.put,lA,lZ,lS,iw,jw];rfl) ?_
   refine pS 6 15 z21q7 HT_ rfl rfl (by kernel_rfl) (by rfl) (by intro w';go_simp;with_reducible rfl) (by simp only [Act.put,lA,lZ,lS,iw,jw];rfl) ?_
   refine pS 7 16 z21q8 HT_ rfl rfl (by kernel_rfl) (by rfl) (by intro w';go_simp;with_reducible rfl) (by simp only [Act.put,lA,lZ,lS,iw,jw];rfl) ?_
   refine vS 8 17 z21q9 HT_ rfl rfl (by kernel_rfl) (by rfl) (by simp only [Act.put,lA,lZ,lS,iw,jw];rfl) ?_
   refine vS 9 18 z21q10 HT_ rfl rfl (by kernel_rfl) (by rfl) (by simp only [Act.put,lA,lZ,lS,iw,jw];rfl) ?_
   refine vS 10 19 z21q11 HT_ rfl rfl (by kernel_rfl) (by rfl) (by simp only [Act.put,lA,lZ,lS,iw,jw];rfl) ?_
   refine vS 11 20 z21q12 HT_ rfl rfl (by kernel_rfl) (by rfl) (by simp only [Act.put,lA,lZ,lS,iw,jw];rfl) ?_
   refine vS 12 21 z21q13 HT_ rfl rfl (by kernel_rfl) (by rfl) (by simp only [Act.put,lA,lZ,lS,iw,jw];rfl) ?_
   refine vS 13 22 z21q14 HT_ rfl rfl (by kernel_rfl) (by rfl) (by simp only [Act.put,lA,lZ,lS,iw,jw];rfl) ?_
   refine vS 14 23 z21q15 HT_ rfl rfl (by kernel_rfl) (by rfl) (by simp only [Act.put,lA,lZ,lS,iw,jw];rfl) ?_
   refine vS 15 24 z21q16 HT_ rfl rfl (by kernel_rfl) (by rfl) (by simp only [Act.put,lA,lZ,lS,iw,jw];rfl) ?_
   refine vS 16 25 z21q17 HT_ rfl rfl (by kernel_rfl) (by rfl) (by simp only [Act.put,lA,lZ,lS,iw,jw];rfl) ?_
   refine vS 17 26 z21q18 HT_ rfl rfl (by kernel_rfl) (by rfl) (by simp only [Act.put,lA,lZ,lS,iw,jw];rfl) ?_
   refine vS 18 27 z21q19 HT_ rfl rfl (by kernel_rfl) (by rfl) (by simp only [Act.put,lA,lZ,lS,iw,jw];rfl) ?_
   refine vS 19 28 z21q20 HT_ rfl rfl (by kernel_rfl) (by rfl) (by simp only [Act.put,lA,lZ,lS,iw,jw];rfl) ?_
   refine vS 20 29 z21q21 HT_ rfl rfl (by kernel_rfl) (by rfl) (by simp only [Act.put,lA,lZ,lS,iw,jw];rfl) ?_
   refine vS 21 30 z21q22 HT_ rfl rfl (by kernel_rfl) (by rfl) (by simp only [Act.put,lA,lZ,lS,iw,jw];rfl) ?_
   refine vS 22 31 z21q23 HT_ rfl rfl (by kernel_rfl) (by rfl) (by simp only [Act.put,lA,lZ,lS,iw,jw];rfl) ?_
   refine pS 23 32 z21q24 HT_ rfl rfl (by kernel_rfl) (by rfl) (by intro w';go_simp;with_reducible rfl) (by simp only [Act.put,lA,lZ,lS,iw,jw];rfl) ?_
   refine done_ (done_of HT_.out (by kernel_rfl)) ?_
   try go_wp2
   go_meet
   case rel=>exact ⟨_,(true),(by first|rfl|(simp;done)|(simp [*];done)),H',⟨by first|omega|exact Nat.le_refl _⟩,⟨by (with_reducible repeat (first|refine bN ?_ _|refine bD ?_|refine bA ?_ _));exact Bb.out⟩,⟨by (with_reducible repeat (first|refine bN ?_ _|refine bD ?_|refine bA ?_ _));exact Ba.out⟩,⟨by repeat (first|(with_reducible first|exact HB.out|apply oA|apply pN|apply o1|refine bS ?_ Bh.out|refine bS ?_ Bi.out)|exact HB.out)⟩⟩
  subst c10
  have H1:(if t131<0 then (impl_QueueTick.j0 k t131 true l0_0 a0_1) else (if 0≤t131 then (if t131<(l0_0.length:Int) then (if ((rd_T40 l0_0 t131).f1)=0 then (none) else (impl_QueueTick.j0 k t131 (decide ((wrap64 (((rd_T40 l0_0 t131).f2) + (wrap64 (Int.tdiv (60:Int) ((rd_T40 l0_0 t131).f1))))) > 1000000)) l0_0 a0_1)) else (none)) else (none)))=some (r1,r2,r3,r4):=by rw [if_pos rfl] at H;exact H
  clear H
  have H:=H1
  clear H1
  by_cases c11:t131<0
  ·rw [if_pos c11] at H
   have c11b0:decide (t131<0)=true:=decide_eq_true c11
   clear c11
   (first|rw [c11b0]|(simp only [i64_w,i32_w];rw [c11b0])|skip)
   have H':=Am H
   clear H
   try go_wp2
   have n0_:=Am (bD Bb.out)
   have n1_:=Am (bD Ba.out)
   have n2_:=Am (o1 HB.out)
   clear Bb
   clear Ba
   clear HB
   have Bb:=n0_
   have Ba:=n1_
   have HB:=n2_
   clear n0_ n1_ n2_
   refine start_ (n:=24) (S:=fun w'=>w'.cell? ⟨Bg,0,none⟩=some (.slice A0_0 l0_0.length c0_0)∧w'.cell? ⟨Bg,1,none⟩=some (.int .i64 a0_1)) (ds:=[]) z21q0 (by kernel_rfl) rfl rfl ⟨(bC Bb.out 0).trans rfl,(bC Bb.out 1).trans rfl⟩ (fun hHeld=>?_);refine with_st impl_QueueTick.tab2 impl_QueueTick.bits2 (fun _ _ _ _ _ h=>h) (fun HT_=>?_)
   generalize w8.drew=w12 at Bb Ba HB hHeld ⊢
   refine tS 0 9 z21q1 HT_ hHeld rfl rfl (by kernel_rfl) (by rfl) (by rintro w' ⟨s0,s1⟩;go_simp;with_reducible rfl) (by simp only [Act.put,lA,lZ,lS,iw,jw];rfl) ?_
   refine oS 1 10 z21q2 HT_ rfl rfl (by kernel_rfl) (by decide) (fun K hK=>?_)
   refine goes_ Try.func16 (by kernel_rfl) rfl #[.agg #[.slice A0_0 l0_0.length c0_0,.int .i64 a0_1]] (by rfl) rfl rfl (by (try simp only [lM,lC,lN]);first|done|rfl|(simp only [lD,lT];rfl)) ?_
   with_reducible refine (impl_QueueOk.calls k _ _ l0_0 a0_1 true _ ?side1 ?side2 A9.out).mono ?_
   (case side1=>repeat (first|exact (cB HR0_0.out HB.out)|(with_reducible refine cA ?_ _)|(with_reducible refine cN ?_ _)|(with_reducible refine cD ?_)))
   (case side2=>exact HC0_0.out)
   rintro e w13 ⟨rfl,hb⟩
   refine ⟨_,rfl,?_⟩
   have n0_:=Am (bB (g:=Bg) (o:=.cells #[.slice A0_0 l0_0.length c0_0,.int .i64 a0_1] 25 (0,0)) (bL Bb.out) hb)
   have n1_:=Am (bB (g:=Bf) (o:=.cells #[.slice none 0 0,.int .i64 0] 25 (0,0)) (bL Ba.out) hb)
   have n2_:=Am (bP (by repeat (first|(with_reducible first|exact HB.out|apply oA|apply pN|apply o1|refine bS ?_ Bh.out|refine bS ?_ Bi.out)|exact HB.out)) hb)
   clear Bb
   clear Ba
   clear HB
   have Bb:=n0_
   have Ba:=n1_
   have HB:=n2_
   clear n0_ n1_ n2_
   (try clear hb)
   (try clear hb2)
   (try clear hk)
   (try clear hi)
   refine hK.out _ _ ⟨(bC Bb.out 0).trans rfl,(bC Bb.out 1).trans rfl⟩ (fun hHeld=>?_)
   clear hK K
   refine norm_ (by show Act.put _ (some 10) _=_;simp only [Act.put,lA,lZ,lS,iw,jw];rfl) ?_
   refine pS 2 11 z21q3 HT_ rfl rfl (by kernel_rfl) (by rfl) (by intro w';go_simp;with_reducible rfl) (by simp only [Act.put,lA,lZ,lS,iw,jw];rfl) ?_
   refine pS 3 12 z21q4 HT_ rfl rfl (by kernel_rfl) (by rfl) (by intro w';go_simp;with_reducible rfl) (by simp only [Act.put,lA,lZ,lS,iw,jw];rfl) ?_
   refine pS 4 13 z21q5 HT_ rfl rfl (by kernel_rfl) (by rfl) (by intro w';go_simp;with_reducible rfl) (by simp only [Act.put,lA,lZ,lS,iw,jw];rfl) ?_
   refine pS 5 14 z21q6 HT_ rfl rfl (by kernel_rfl) (by rfl) (by intro w';go_simp;with_reducible rfl) (by simp only [Act.put,lA,lZ,lS,iw,jw];rfl) ?_
   refine pS 6 15 z21q7 HT_ rfl rfl (by kernel_rfl) (by rfl) (by intro w';go_simp;with_reducible rfl) (by simp only [Act.put,lA,lZ,lS,iw,jw];rfl) ?_
   refine pS 7 16 z21q8 HT_ rfl rfl (by kernel_rfl) (by rfl) (by intro w';go_simp;with_reducible rfl) (by simp only [Act.put,lA,lZ,lS,iw,jw];rfl) ?_
   refine vS 8 17 z21q9 HT_ rfl rfl (by kernel_rfl) (by rfl) (by simp only [Act.put,lA,lZ,lS,iw,jw];rfl) ?_
   refine vS 9 18 z21q10 HT_ rfl rfl (by kernel_rfl) (by rfl) (by simp only [Act.put,lA,lZ,lS,iw,jw];rfl) ?_
   refine vS 10 19 z21q11 HT_ rfl rfl (by kernel_rfl) (by rfl) (by simp only [Act.put,lA,lZ,lS,iw,jw];rfl) ?_
   refine vS 11 20 z21q12 HT_ rfl rfl (by kernel_rfl) (by rfl) (by simp only [Act.put,lA,lZ,lS,iw,jw];rfl) ?_
   refine vS 12 21 z21q13 HT_ rfl rfl (by kernel_rfl) (by rfl) (by simp only [Act.put,lA,lZ,lS,iw,jw];rfl) ?_
   refine vS 13 22 z21q14 HT_ rfl rfl (by kernel_rfl) (by rfl) (by simp only [Act.put,lA,lZ,lS,iw,jw];rfl) ?_
   refine vS 14 23 z21q15 HT_ rfl rfl (by kernel_rfl) (by rfl) (by simp only [Act.put,lA,lZ,lS,iw,jw];rfl) ?_
   refine vS 15 24 z21q16 HT_ rfl rfl (by kernel_rfl) (by rfl) (by simp only [Act.put,lA,lZ,lS,iw,jw];rfl) ?_
   refine vS 16 25 z21q17 HT_ rfl rfl (by kernel_rfl) (by rfl) (by simp only [Act.put,lA,lZ,lS,iw,jw];rfl) ?_
   refine vS 17 26 z21q18 HT_ rfl rfl (by kernel_rfl) (by rfl) (by simp only [Act.put,lA,lZ,lS,iw,jw];rfl) ?_
   refine vS 18 27 z21q19 HT_ rfl rfl (by kernel_rfl) (by rfl) (by simp only [Act.put,lA,lZ,lS,iw,jw];rfl) ?_
   refine vS 19 28 z21q20 HT_ rfl rfl (by kernel_rfl) (by rfl) (by simp only [Act.put,lA,lZ,lS,iw,jw];rfl) ?_
   refine vS 20 29 z21q21 HT_ rfl rfl (by kernel_rfl) (by rfl) (by simp only [Act.put,lA,lZ,lS,iw,jw];rfl) ?_
   refine vS 21 30 z21q22 HT_ rfl rfl (by kernel_rfl) (by rfl) (by simp only [Act.put,lA,lZ,lS,iw,jw];rfl) ?_
   refine vS 22 31 z21q23 HT_ rfl rfl (by kernel_rfl) (by rfl) (by simp only [Act.put,lA,lZ,lS,iw,jw];rfl) ?_
   refine pS 23 32 z21q24 HT_ rfl rfl (by kernel_rfl) (by rfl) (by intro w';go_simp;with_reducible rfl) (by simp only [Act.put,lA,lZ,lS,iw,jw];rfl) ?_
   refine done_ (done_of HT_.out (by kernel_rfl)) ?_
   try go_wp2
   go_meet
   case rel=>exact ⟨_,(true),(by first|rfl|(simp;done)|(simp [*];done)),H',⟨by first|omega|exact Nat.le_refl _⟩,⟨by (with_reducible repeat (first|refine bN ?_ _|refine bD ?_|refine bA ?_ _));exact Bb.out⟩,⟨by (with_reducible repeat (first|refine bN ?_ _|refine bD ?_|refine bA ?_ _));exact Ba.out⟩,⟨by repeat (first|(with_reducible first|exact HB.out|apply oA|apply pN|apply o1|refine bS ?_ Bh.out|refine bS ?_ Bi.out)|exact HB.out)⟩⟩
  rw [if_neg c11] at H
  have c11b0:decide (t131<0)=false:=decide_eq_false c11
  clear c11
  (first|rw [c11b0]|(simp only [i64_w,i32_w];rw [c11b0])|skip)
  by_cases c14:0≤t131
  rotate_left
  ·rw [if_neg c14] at H
   exact absurd H (by simp)
  rw [if_pos c14] at H
  have c14b0:decide (0≤t131)=true:=decide_eq_true c14
  clear c14
  by_cases c15:t131<(l0_0.length:Int)
  rotate_left
  ·rw [if_neg c15] at H
   exact absurd H (by simp)
  rw [if_pos c15] at H
  have c15b0:decide (t131<(l0_0.length:Int))=true:=decide_eq_true c15
  clear c15
  by_cases c16:((rd_T40 l0_0 t131).f1)=0
  ·rw [if_pos c16] at H
   exact absurd H (by simp)
  rw [if_neg c16] at H
  have c16b0:(((rd_T40 l0_0 t131).f1) == 0)=false:=beq_eq_false_iff_ne.mpr c16
  have c16b1:(((rd_T40 l0_0 t131).f1) != 0)=true:=bne_iff_ne.mpr c16
  have H':=Am H
  clear H
  try go_wp2
  have n0_:=Am (bD Bb.out)
  have n1_:=Am (bD Ba.out)
  have n2_:=Am (o1 HB.out)
  clear Bb
  clear Ba
  clear HB
  have Bb:=n0_
  have Ba:=n1_
  have HB:=n2_
  clear n0_ n1_ n2_
  have p133:0≤(t131:Int):=of_decide_eq_true (by first|(with_reducible assumption)|assumption)
  have q133:t131<(l0_0.length:Int):=of_decide_eq_true (by first|(with_reducible assumption)|assumption)
  obtain ⟨ad133,e133,hx133_0,hx133_1,hx133_2,hx133_3⟩:=at_T40 HR0_0.out t131 p133 q133
  have hw133_3:=hx133_3
  have hw133_2:=hx133_2
  have hw133_1:=hx133_1
  have hw133_0:=hx133_0
  cases e133
  replace hx133_0:=(bW HB hx133_0:)
  replace hx133_1:=(bW HB hx133_1:)
  replace hx133_2:=(bW HB hx133_2:)
  replace hx133_3:=(bW HB hx133_3:)
  replace p133:=eq_true p133
  replace q133:=eq_true q133
  have p134:0≤(t131:Int):=of_decide_eq_true (by first|(with_reducible assumption)|assumption)
  have q134:t131<(l0_0.length:Int):=of_decide_eq_true (by first|(with_reducible assumption)|assumption)
  obtain ⟨ad134,e134,hx134_0,hx134_1,hx134_2,hx134_3⟩:=at_T40 HR0_0.out t131 p134 q134
  have hw134_3:=hx134_3
  have hw134_2:=hx134_2
  have hw134_1:=hx134_1
  have hw134_0:=hx134_0
  obtain rfl:ad133=ad134:=(by injection e134)
  replace hx134_0:=(bW HB hx134_0:)
  replace hx134_1:=(bW HB hx134_1:)
  replace hx134_2:=(bW HB hx134_2:)
  replace hx134_3:=(bW HB hx134_3:)
  replace p134:=eq_true p134
  replace q134:=eq_true q134
  refine start_ (n:=24) (S:=fun w'=>w'.cell? ⟨Bg,0,none⟩=some (.slice (some ad133) l0_0.length c0_0)∧w'.cell? ⟨Bg,1,none⟩=some (.int .i64 a0_1)∧w'.cell? (ad133.add ((t131).toNat * 4))=some (.int .i64 ((rd_T40 l0_0 t131).f0))∧w'.cell? ⟨(ad133.add ((t131).toNat * 4)).block,(ad133.add ((t131).toNat * 4)).off + 1,none⟩=some (.int .i64 ((rd_T40 l0_0 t131).f1))∧w'.cell? ⟨(ad133.add ((t131).toNat * 4)).block,(ad133.add ((t131).toNat * 4)).off + 2,none⟩=some (.int .i64 ((rd_T40 l0_0 t131).f2))∧w'.cell? ⟨(ad133.add ((t131).toNat * 4)).block,(ad133.add ((t131).toNat * 4)).off + 3,none⟩=some (.bool ((rd_T40 l0_0 t131).f3))∧w'.cell? (ad133.add ((t131).toNat * 4))=some (.int .i64 ((rd_T40 l0_0 t131).f0))∧w'.cell? ⟨(ad133.add ((t131).toNat * 4)).block,(ad133.add ((t131).toNat * 4)).off + 1,none⟩=some (.int .i64 ((rd_T40 l0_0 t131).f1))∧w'.cell? ⟨(ad133.add ((t131).toNat * 4)).block,(ad133.add ((t131).toNat * 4)).off + 2,none⟩=some (.int .i64 ((rd_T40 l0_0 t131).f2))∧w'.cell? ⟨(ad133.add ((t131).toNat * 4)).block,(ad133.add ((t131).toNat * 4)).off + 3,none⟩=some (.bool ((rd_T40 l0_0 t131).f3))) (ds:=[]) z21q0 (by kernel_rfl) rfl rfl ⟨(bC Bb.out 0).trans rfl,(bC Bb.out 1).trans rfl,(bW HB hw133_0:),(bW HB hw133_1:),(bW HB hw133_2:),(bW HB hw133_3:),(bW HB hw134_0:),(bW HB hw134_1:),(bW HB hw134_2:),(bW HB hw134_3:)⟩ (fun hHeld=>?_);refine with_st impl_QueueTick.tab2 impl_QueueTick.bits2 (fun _ _ _ _ _ h=>h) (fun HT_=>?_)
  generalize w8.drew=w17 at Bb Ba HB hx133_0 hx133_1 hx133_2 hx133_3 hx134_0 hx134_1 hx134_2 hx134_3 hHeld ⊢
  refine tS 0 9 z21q1 HT_ hHeld rfl rfl (by kernel_rfl) (by rfl) (by rintro w' ⟨s0,s1,s2,s3,s4,s5,s6,s7,s8,s9⟩;go_simp;with_reducible rfl) (by simp only [Act.put,lA,lZ,lS,iw,jw];rfl) ?_
  refine oS 1 10 z21q2 HT_ rfl rfl (by kernel_rfl) (by decide) (fun K hK=>?_)
  refine goes_ Try.func16 (by kernel_rfl) rfl #[.agg #[.slice (some ad133) l0_0.length c0_0,.int .i64 a0_1]] (by rfl) rfl rfl (by (try simp only [lM,lC,lN]);first|done|rfl|(simp only [lD,lT];rfl)) ?_
  with_reducible refine (impl_QueueOk.calls k _ _ l0_0 a0_1 true _ ?side1 ?side2 A9.out).mono ?_
  (case side1=>repeat (first|exact (cB HR0_0.out HB.out)|(with_reducible refine cA ?_ _)|(with_reducible refine cN ?_ _)|(with_reducible refine cD ?_)))
  (case side2=>exact HC0_0.out)
  rintro e w18 ⟨rfl,hb⟩
  refine ⟨_,rfl,?_⟩
  have n0_:=Am (bB (g:=Bg) (o:=.cells #[.slice (some ad133) l0_0.length c0_0,.int .i64 a0_1] 25 (0,0)) (bL Bb.out) hb)
  have n1_:=Am (bB (g:=Bf) (o:=.cells #[.slice none 0 0,.int .i64 0] 25 (0,0)) (bL Ba.out) hb)
  have n2_:=Am (bP (by repeat (first|(with_reducible first|exact HB.out|apply oA|apply pN|apply o1|refine bS ?_ Bh.out|refine bS ?_ Bi.out)|exact HB.out)) hb)
  clear Bb
  clear Ba
  clear HB
  have Bb:=n0_
  have Ba:=n1_
  have HB:=n2_
  clear n0_ n1_ n2_
  (try clear hb)
  (try clear hb2)
  (try clear hk)
  (try clear hi)
  refine hK.out _ _ ⟨(bC Bb.out 0).trans rfl,(bC Bb.out 1).trans rfl,(bW HB hw133_0:),(bW HB hw133_1:),(bW HB hw133_2:),(bW HB hw133_3:),(bW HB hw134_0:),(bW HB hw134_1:),(bW HB hw134_2:),(bW HB hw134_3:)⟩ (fun hHeld=>?_)
  clear hK K
  refine norm_ (by show Act.put _ (some 10) _=_;simp only [Act.put,lA,lZ,lS,iw,jw];rfl) ?_
  refine pS 2 11 z21q3 HT_ rfl rfl (by kernel_rfl) (by rfl) (by intro w';go_simp;with_reducible rfl) (by simp only [Act.put,lA,lZ,lS,iw,jw];rfl) ?_
  refine pS 3 12 z21q4 HT_ rfl rfl (by kernel_rfl) (by rfl) (by intro w';go_simp;with_reducible rfl) (by simp only [Act.put,lA,lZ,lS,iw,jw];rfl) ?_
  refine pS 4 13 z21q5 HT_ rfl rfl (by kernel_rfl) (by rfl) (by intro w';go_simp;with_reducible rfl) (by simp only [Act.put,lA,lZ,lS,iw,jw];rfl) ?_
  refine pS 5 14 z21q6 HT_ rfl rfl (by kernel_rfl) (by rfl) (by intro w';go_simp;with_reducible rfl) (by simp only [Act.put,lA,lZ,lS,iw,jw];rfl) ?_
  refine pS 6 15 z21q7 HT_ rfl rfl (by kernel_rfl) (by rfl) (by intro w';go_simp;with_reducible rfl) (by simp only [Act.put,lA,lZ,lS,iw,jw];rfl) ?_
  refine pS 7 16 z21q8 HT_ rfl rfl (by kernel_rfl) (by rfl) (by intro w';go_simp;with_reducible rfl) (by simp only [Act.put,lA,lZ,lS,iw,jw];rfl) ?_
  refine pS 8 17 z21q9 HT_ rfl rfl (by kernel_rfl) (by rfl) (by intro w';go_simp;with_reducible rfl) (by simp only [Act.put,lA,lZ,lS,iw,jw];rfl) ?_
  refine pS 10 19 z21q25 HT_ rfl rfl (by kernel_rfl) (by rfl) (by intro w';go_simp;with_reducible rfl) (by simp only [Act.put,lA,lZ,lS,iw,jw];rfl) ?_
  refine pS 14 23 z21q26 HT_ rfl rfl (by kernel_rfl) (by rfl) (by intro w';go_simp;with_reducible rfl) (by simp only [Act.put,lA,lZ,lS,iw,jw];rfl) ?_
  refine pS 16 25 z21q27 HT_ rfl rfl (by kernel_rfl) (by rfl) (by intro w';go_simp;with_reducible rfl) (by simp only [Act.put,lA,lZ,lS,iw,jw];rfl) ?_
  refine tS 9 18 z21q28 HT_ hHeld rfl rfl (by kernel_rfl) (by rfl) (by rintro w' ⟨s0,s1,s2,s3,s4,s5,s6,s7,s8,s9⟩;go_simp;with_reducible rfl) (by simp only [Act.put,lA,lZ,lS,iw,jw];rfl) ?_
  refine pS 11 20 z21q29 HT_ rfl rfl (by kernel_rfl) (by rfl) (by intro w';go_simp;with_reducible rfl) (by simp only [Act.put,lA,lZ,lS,iw,jw];rfl) ?_
  refine pS 12 21 z21q30 HT_ rfl rfl (by kernel_rfl) (by rfl) (by intro w';go_simp;with_reducible rfl) (by simp only [Act.put,lA,lZ,lS,iw,jw];rfl) ?_
  refine tS 13 22 z21q31 HT_ hHeld rfl rfl (by kernel_rfl) (by rfl) (by rintro w' ⟨s0,s1,s2,s3,s4,s5,s6,s7,s8,s9⟩;go_simp;with_reducible rfl) (by simp only [Act.put,lA,lZ,lS,iw,jw];rfl) ?_
  refine tS 15 24 z21q17 HT_ hHeld rfl rfl (by kernel_rfl) (by rfl) (by rintro w' ⟨s0,s1,s2,s3,s4,s5,s6,s7,s8,s9⟩;go_simp;with_reducible rfl) (by simp only [Act.put,lA,lZ,lS,iw,jw];rfl) ?_
  refine pS 17 26 z21q18 HT_ rfl rfl (by kernel_rfl) (by rfl) (by intro w';go_simp;with_reducible rfl) (by simp only [Act.put,lA,lZ,lS,iw,jw];rfl) ?_
  refine pS 18 27 z21q19 HT_ rfl rfl (by kernel_rfl) (by rfl) (by intro w';go_simp;with_reducible rfl) (by simp only [Act.put,lA,lZ,lS,iw,jw];rfl) ?_
  refine tS 19 28 z21q20 HT_ hHeld rfl rfl (by kernel_rfl) (by rfl) (by rintro w' ⟨s0,s1,s2,s3,s4,s5,s6,s7,s8,s9⟩;go_simp;with_reducible rfl) (by simp only [Act.put,lA,lZ,lS,iw,jw];rfl) ?_
  refine pS 20 29 z21q21 HT_ rfl rfl (by kernel_rfl) (by rfl) (by intro w';go_simp;with_reducible rfl) (by simp only [Act.put,lA,lZ,lS,iw,jw];rfl) ?_
  refine pS 21 30 z21q22 HT_ rfl rfl (by kernel_rfl) (by rfl) (by intro w';go_simp;with_reducible rfl) (by simp only [Act.put,lA,lZ,lS,iw,jw];rfl) ?_
  refine pS 22 31 z21q23 HT_ rfl rfl (by kernel_rfl) (by rfl) (by intro w';go_simp;with_reducible rfl) (by simp only [Act.put,lA,lZ,lS,iw,jw];rfl) ?_
  refine pS 23 32 z21q24 HT_ rfl rfl (by kernel_rfl) (by rfl) (by intro w';go_simp;with_reducible rfl) (by simp only [Act.put,lA,lZ,lS,iw,jw];rfl) ?_
  refine done_ (done_of HT_.out (by kernel_rfl)) ?_
  try go_wp2
  go_meet
  case rel=>exact ⟨_,(decide ((wrap64 (((rd_T40 l0_0 t131).f2) + (wrap64 (Int.tdiv (60:Int) ((rd_T40 l0_0 t131).f1))))) > 1000000)),(by first|rfl|(simp;done)|(simp [*];done)),H',⟨by first|omega|exact Nat.le_refl _⟩,⟨by (with_reducible repeat (first|refine bN ?_ _|refine bD ?_|refine bA ?_ _));exact Bb.out⟩,⟨by (with_reducible repeat (first|refine bN ?_ _|refine bD ?_|refine bA ?_ _));exact Ba.out⟩,⟨by repeat (first|(with_reducible first|exact HB.out|apply oA|apply pN|apply o1|refine bS ?_ Bh.out|refine bS ?_ Bi.out)|exact HB.out)⟩⟩
 case rest =>
  clear HC3
  try clear c1
  try clear p1
  try clear q1
  try clear hx1
  try clear p2
  try clear p6
  try clear c10
  try clear c11
  try clear c11b0
  try clear p13
  try clear q13
  try clear hx13
  try clear c14
  try clear c14b0
  try clear c15
  try clear c15b0
  try clear c16
  try clear c16b0
  try clear c16b1
  try clear hx133_0
  try clear hx133_1
  try clear hx133_2
  try clear hx133_3
  try clear hx134_0
  try clear hx134_1
  try clear hx134_2
  try clear hx134_3
  try clear p133
  try clear p134
  try clear q133
  try clear q134
  obtain ⟨kq,x32_2,rfl,HA,BU,Bb,Ba,HB⟩:=hcut
  cases kq with
 |zero=>exact absurd HA.out (by simp [impl_QueueTick.j0])
 |succ kj2 =>
   have H:=HA.out
   clear HA
   simp only [impl_QueueTick.j0] at H
   by_cases c21:x32_2=true
   ·subst c21
    have H1:(some (([]:List (S40)),0,(-1),false))=some (r1,r2,r3,r4):=by rw [if_pos rfl] at H;exact H
    clear H
    have H:=H1
    clear H1
    simp only [Option.some.injEq,Prod.mk.injEq] at H
    obtain ⟨rfl,rfl,rfl,rfl⟩:=H
    have BJ:=Bm.out
    have BK:=Bl.out
    have Br:wc.cell? ⟨Bf,0,none⟩=some (.slice none 0 0):=(bC Ba.out 0).trans rfl
    have Bs:wc.cell? ⟨Bf,1,none⟩=some (.int .i64 0):=(bC Ba.out 1).trans rfl
    have Bt:=bF Ba.out 0
    have Bu:=bF Ba.out 1
    go_wp2
    refine bodyPost_ret (results_ctt rfl _ _ Bf 25 #[.slice none 0 0,.int .i64 0] (0,0) _ rfl (by (with_reducible repeat (first|refine bN ?_ _|refine bD ?_|refine bA ?_ _));refine blk_put (cs:=#[.slice none 0 0,.int .i64 0]) ?_ 1 _ rfl;(with_reducible repeat (first|refine bN ?_ _|refine bD ?_|refine bA ?_ _));refine blk_put (cs:=#[.slice none 0 0,.int .i64 0]) ?_ 0 _ rfl;(with_reducible repeat (first|refine bN ?_ _|refine bD ?_|refine bA ?_ _));exact Ba.out) Try.underlying25 rfl (by kernel_rfl)) rfl ?_
    exact ⟨_,by first|rfl|(simp [errW_none,errW_some] <;> rfl)|(simp [*,errW_none,errW_some] <;> rfl),by first|exact Kd.R_nil _ _ _ _ _|exact Kd.N_nil _ _ _ _ _|exact Kd.V_nil _ _ _ _ _|exact Kd.Q_nil _ _ _ _ _|exact Kd.S_nil _ _ _ _ _,by repeat (first|(with_reducible first|exact HB.out|apply oA|apply pN|apply o1|refine bS ?_ Bh.out|refine bS ?_ Bi.out)|exact HB.out)⟩
   replace c21:=Bool.eq_false_iff.mpr c21
   subst c21
   have H1:((impl_Queue_clone.f l0_0 a0_1).bind fun bt135=>(if 0≤t131 then (if t131<(bt135.1.length:Int) then (if ((rd_T40 bt135.1 t131).f1)=0 then (none) else ((some (bt135.1.set (t131:Int).toNat (⟨(rd_T40 bt135.1 t131).f0,(rd_T40 bt135.1 t131).f1,wrap64 (((rd_T40 bt135.1 t131).f2) + (wrap64 (Int.tdiv (60:Int) ((rd_T40 bt135.1 t131).f1)))),(rd_T40 bt135.1 t131).f3⟩:S40):List (S40))).bind fun y142=>((impl_Queue_next.f kj2 y142 bt135.2).bind fun t143=>(if 0≤t143 then (if t143<(bt135.1.length:Int) then (some (y142,mx bt135.2 ((rd_T40 y142 t143).f2),(rd_T40 y142 t131).f0,true)) else (none)) else (none))))) else (none)) else (none)))=some (r1,r2,r3,r4):=by rw [if_neg (show ¬ (false=true) by decide)] at H;exact H
   clear H
   have H:=H1
   clear H1
   replace H:=oC H
   obtain ⟨⟨t135,t138⟩,A240,H⟩:=H
   replace H:(if 0≤t131 then (if t131<(t135.length:Int) then (if ((rd_T40 t135 t131).f1)=0 then (none) else ((some (t135.set (t131:Int).toNat (⟨(rd_T40 t135 t131).f0,(rd_T40 t135 t131).f1,wrap64 (((rd_T40 t135 t131).f2) + (wrap64 (Int.tdiv (60:Int) ((rd_T40 t135 t131).f1)))),(rd_T40 t135 t131).f3⟩:S40):List (S40))).bind fun y142=>((impl_Queue_next.f kj2 y142 t138).bind fun t143=>(if 0≤t143 then (if t143<(t135.length:Int) then (some (y142,mx t138 ((rd_T40 y142 t143).f2),(rd_T40 y142 t131).f0,true)) else (none)) else (none))))) else (none)) else (none))=some (r1,r2,r3,r4):=H
   have A24:=Am A240
   clear A240
   by_cases c25:0≤t131
   rotate_left
   ·rw [if_neg c25] at H
    exact absurd H (by simp)

   rw [if_pos c25] at H
   have c25b0:decide (0≤t131)=true:=decide_eq_true c25
   clear c25
   by_cases c26:t131<(t135.length:Int)
   rotate_left
   ·rw [if_neg c26] at H
    exact absurd H (by simp)
   rw [if_pos c26] at H
   have c26b0:decide (t131<(t135.length:Int))=true:=decide_eq_true c26
   clear c26
   by_cases c27:((rd_T40 t135 t131).f1)=0
   ·rw [if_pos c27] at H
    exact absurd H (by simp)
   rw [if_neg c27] at H
   have c27b0:(((rd_T40 t135 t131).f1) == 0)=false:=beq_eq_false_iff_ne.mpr c27
   have c27b1:(((rd_T40 t135 t131).f1) != 0)=true:=bne_iff_ne.mpr c27
   obtain ⟨y142,hy142⟩:∃ y_:List (S40),y_=(t135.set (t131:Int).toNat (⟨(rd_T40 t135 t131).f0,(rd_T40 t135 t131).f1,wrap64 (((rd_T40 t135 t131).f2) + (wrap64 (Int.tdiv (60:Int) ((rd_T40 t135 t131).f1)))),(rd_T40 t135 t131).f3⟩:S40)):=⟨_,rfl⟩
   replace H:((impl_Queue_next.f kj2 y142 t138).bind fun t143=>(if 0≤t143 then (if t143<(t135.length:Int) then (some (y142,mx t138 ((rd_T40 y142 t143).f2),(rd_T40 y142 t131).f0,true)) else (none)) else (none)))=some (r1,r2,r3,r4):=by first|(rw [hy142];with_reducible exact H)|(have H2_:=(Option.bind_some _ _).symm.trans H;rw [hy142];with_reducible exact H2_)|(have H2_:=(Option.bind_some _ _).symm.trans H;with_reducible exact H2_)|with_reducible exact H|(rw [hy142];exact H)|exact H
   have Ny142:=Am hy142
   clear hy142
   replace H:=oC H
   obtain ⟨t143,A290,H⟩:=H
   replace H:(if 0≤t143 then (if t143<(t135.length:Int) then (some (y142,mx t138 ((rd_T40 y142 t143).f2),(rd_T40 y142 t131).f0,true)) else (none)) else (none))=some (r1,r2,r3,r4):=H
   have A29:=Am A290
   clear A290
   by_cases c30:0≤t143
   rotate_left
   ·rw [if_neg c30] at H
    exact absurd H (by simp)
   rw [if_pos c30] at H
   have c30b0:decide (0≤t143)=true:=decide_eq_true c30
   clear c30
   by_cases c31:t143<(t135.length:Int)
   rotate_left
   ·rw [if_neg c31] at H
    exact absurd H (by simp)
   rw [if_pos c31] at H
   have c31b0:decide (t143<(t135.length:Int))=true:=decide_eq_true c31
   clear c31
   obtain ⟨ji32,hji32⟩:∃ j_:Int,(mx t138 ((rd_T40 y142 t143).f2))=j_:=⟨_,rfl⟩
   replace H:(some (y142,ji32,(rd_T40 y142 t131).f0,true))=some (r1,r2,r3,r4):=by first|(rw [hji32] at H;exact H)|(simp only [hji32] at H ⊢;exact H)
   (try rw [hji32] at A24)
   (try rw [hji32] at A29)
   have hji32_:(if t138<((rd_T40 y142 t143).f2) then ((rd_T40 y142 t143).f2) else t138)=ji32:=hji32
   simp only [Option.some.injEq,Prod.mk.injEq] at H
   obtain ⟨rfl,rfl,rfl,rfl⟩:=H
   have BL:=Bl.out
   have BM:=Bm.out
   have Bv:wc.cell? ⟨Bg,0,none⟩=some (.slice A0_0 l0_0.length c0_0):=(bC Bb.out 0).trans rfl
   have Bw:wc.cell? ⟨Bg,1,none⟩=some (.int .i64 a0_1):=(bC Bb.out 1).trans rfl
   have Bx:=bF Bb.out 0
   have By:=bF Bb.out 1
   try go_wp2_with (first|((with_reducible refine gate_callee (f:=37) rfl ?_);refine goesL_ (some 35) rfl rfl Try.func37 (by kernel_rfl) rfl #[.agg #[.slice A0_0 l0_0.length c0_0,.int .i64 a0_1]] rfl (by (try simp only [lM,lC,lN]);first|done|rfl|(simp only [lD,lT];rfl)) ?_;(with_reducible refine (impl_Queue_clone.calls _ _ l0_0 a0_1 t135 t138 _ ?side1 ?side2 A24.out).mono ?_);(case side1=>repeat (first|exact (cB HR0_0.out HB.out)|(with_reducible refine cA ?_ _)|(with_reducible refine cN ?_ _)|(with_reducible refine cD ?_)));(case side2=>exact HC0_0.out);rintro e w35 ⟨v136,rfl,ho0,hb⟩;refine ⟨_,rfl,?_⟩;have n0_:=Am (Kd.R_lower ho0 (bZ (by repeat (first|(with_reducible first|exact HB.out|apply oA|apply pN|apply o1|refine bS ?_ Bh.out|refine bS ?_ Bi.out)|exact HB.out))));have n1_:=Am (bB (g:=Bg) (o:=.cells #[.slice A0_0 l0_0.length c0_0,.int .i64 a0_1] 25 (0,0)) (bL Bb.out) hb);have n2_:=Am (bB (g:=Bf) (o:=.cells #[.slice none 0 0,.int .i64 0] 25 (0,0)) (bL Ba.out) hb);have n3_:=Am (bP (by repeat (first|(with_reducible first|exact HB.out|apply oA|apply pN|apply o1|refine bS ?_ Bh.out|refine bS ?_ Bi.out)|exact HB.out)) hb);clear Bb Ba HB;revert n0_ n1_ n2_ n3_;intro Bc Bb Ba HB;(try clear hb);(try clear hb2);(try clear hk);(try clear hi);(try clear ho0))|((with_reducible refine gate_dst (N:=6) rfl ?_);refine box_event ?hg (N:=6) ?hd (cs:=#[.slice none 0 0,.int .i64 0]) (t:=25) ?hr ?_;(case hd=>rfl);(case hg=>rfl);(case hr=>first|(go_simp;done)|(go_simp;rfl));intro Be hg w36 hbox hb;have n0_:=Am (rB (rL Bc.out) hb);have n1_:=Am (bB (g:=Bg) (o:=.cells #[.slice A0_0 l0_0.length c0_0,.int .i64 a0_1] 25 (0,0)) (bL Bb.out) hb);have n2_:=Am (bB (g:=Bf) (o:=.cells #[.slice none 0 0,.int .i64 0] 25 (0,0)) (bL Ba.out) hb);have n3_:=Am (bP (by repeat (first|(with_reducible first|exact HB.out|apply oA|apply pN|apply o1|refine bS ?_ Bh.out|refine bS ?_ Bi.out)|exact HB.out)) hb);have n4_:=Am (hbox);have n5_:=Am ((by rw [hg];exact (bZ (by repeat (first|(with_reducible first|exact HB.out|apply oA|apply pN|apply o1|refine bS ?_ Bh.out|refine bS ?_ Bi.out)|exact HB.out))):w.heap.size≤Be));have n6_:=Am ((by rw [hg];exact (bZ (by repeat (first|(with_reducible first|exact HB.out|apply oA|apply pN|apply o1|refine bS ?_ Bh.out|refine bS ?_ Bi.out)|exact HB.out))):w.heap.size≤Be));have n7_:=Am ((by rw [hg];exact Nat.ne_of_lt (blk_lt (g:=Bg) (o:=.cells #[.slice A0_0 l0_0.length c0_0,.int .i64 a0_1] 25 (0,0)) (bL Bb.out)):Bg≠Be));have n8_:=Am ((by rw [hg];exact Nat.ne_of_gt (blk_lt (g:=Bg) (o:=.cells #[.slice A0_0 l0_0.length c0_0,.int .i64 a0_1] 25 (0,0)) (bL Bb.out)):Be≠Bg));have n9_:=Am ((by rw [hg];exact Nat.ne_of_lt (blk_lt (g:=Bf) (o:=.cells #[.slice none 0 0,.int .i64 0] 25 (0,0)) (bL Ba.out)):Bf≠Be));have n10_:=Am ((by rw [hg];exact Nat.ne_of_gt (blk_lt (g:=Bf) (o:=.cells #[.slice none 0 0,.int .i64 0] 25 (0,0)) (bL Ba.out)):Be≠Bf));clear Bc Bb Ba HB;revert n0_ n1_ n2_ n3_ n4_ n5_ n6_ n7_ n8_ n9_ n10_;intro Bc Bb Ba HB Bd BN Bo Bn Bp Bk Bj;clear hb hbox hg;obtain ⟨Ao37,co37,eo37⟩:=Kd.R_slice Bc.out;subst eo37;have BO:=Bp.out;have BP:=Bn.out;have BQ:=Bj.out;have BR:=Bk.out;have Bz:w36.cell? ⟨Be,0,none⟩=some (.slice none 0 0):=(bC Bd.out 0).trans rfl;have BA:w36.cell? ⟨Be,1,none⟩=some (.int .i64 0):=(bC Bd.out 1).trans rfl;have BB:=bF Bd.out 0;have BC:=bF Bd.out 1))
   have n0_:Aside0 (Kd.R k40 40 ((w36.setCell ⟨Be,0,none⟩ (.slice Ao37 t135.length co37)).setCell ⟨Be,1,none⟩ (.int .i64 t138)) w.heap.size (fun _=>True) (.slice Ao37 t135.length co37) t135):=⟨by (with_reducible repeat (first|apply rA|apply rN|apply rD));exact rM (rF (p:=⟨Be,1,none⟩) (rF (p:=⟨Be,0,none⟩) (rT Bc.out Bd.out (by decide)) (fun _ hk=>hk.2) (.slice Ao37 t135.length co37)) (fun _ hk=>hk.2) (.int .i64 t138)) (fun _ hk=>trivial)⟩
   have n1_:Aside0 (((w36.setCell ⟨Be,0,none⟩ (.slice Ao37 t135.length co37)).setCell ⟨Be,1,none⟩ (.int .i64 t138)).heap[Bg]?=some (.cells #[.slice A0_0 l0_0.length c0_0,.int .i64 a0_1] 25 (0,0))):=⟨by (with_reducible repeat (first|refine bN ?_ _|refine bD ?_|refine bA ?_ _|refine blk_far ?_ Bn.out _));exact Bb.out⟩
   have n2_:Aside0 (((w36.setCell ⟨Be,0,none⟩ (.slice Ao37 t135.length co37)).setCell ⟨Be,1,none⟩ (.int .i64 t138)).heap[Bf]?=some (.cells #[.slice none 0 0,.int .i64 0] 25 (0,0))):=⟨by (with_reducible repeat (first|refine bN ?_ _|refine bD ?_|refine bA ?_ _|refine blk_far ?_ Bk.out _));exact Ba.out⟩
   have n3_:Aside0 (((w36.setCell ⟨Be,0,none⟩ (.slice Ao37 t135.length co37)).setCell ⟨Be,1,none⟩ (.int .i64 t138)).heap[Be]?=some (.cells #[.slice Ao37 t135.length co37,.int .i64 t138] 25 (0,0))):=⟨by (with_reducible repeat (first|refine bN ?_ _|refine bD ?_|refine bA ?_ _));refine blk_put (cs:=#[.slice Ao37 t135.length co37,.int .i64 0]) ?_ 1 _ rfl;(with_reducible repeat (first|refine bN ?_ _|refine bD ?_|refine bA ?_ _));refine blk_put (cs:=#[.slice none 0 0,.int .i64 0]) ?_ 0 _ rfl;(with_reducible repeat (first|refine bN ?_ _|refine bD ?_|refine bA ?_ _));exact Bd.out⟩
   have n4_:Aside0 (Below w.heap.size w ((w36.setCell ⟨Be,0,none⟩ (.slice Ao37 t135.length co37)).setCell ⟨Be,1,none⟩ (.int .i64 t138))):=⟨by repeat (first|(with_reducible first|exact HB.out|apply oA|apply pN|apply o1|refine bS ?_ Bh.out|refine bS ?_ Bi.out|refine bS ?_ Bo.out)|exact HB.out)⟩
   (try clear Bc)
   (try clear Bb)
   (try clear Ba)
   (try clear Bd)
   (try clear HB)
   generalize ((w36.setCell ⟨Be,0,none⟩ (.slice Ao37 t135.length co37)).setCell ⟨Be,1,none⟩ (.int .i64 t138))=w41 at n0_ n1_ n2_ n3_ n4_ ⊢
   have Bc:=n0_
   have Bb:=n1_
   have Ba:=n2_
   have Bd:=n3_
   have HB:=n4_
   clear n0_ n1_ n2_ n3_ n4_
   have n0_:=Am (rD Bc.out)
   have n1_:=Am (bD Bb.out)
   have n2_:=Am (bD Ba.out)
   have n3_:=Am (bD Bd.out)
   have n4_:=Am (o1 HB.out)
   clear Bc
   clear Bb
   clear Ba
   clear Bd
   clear HB
   have Bc:=n0_
   have Bb:=n1_
   have Ba:=n2_
   have Bd:=n3_
   have HB:=n4_
   clear n0_ n1_ n2_ n3_ n4_
   have p140:0≤(t131:Int):=of_decide_eq_true (by first|(with_reducible assumption)|assumption)
   have q140:t131<(t135.length:Int):=of_decide_eq_true (by first|(with_reducible assumption)|assumption)
   obtain ⟨ad140,e140,hx140_0,hx140_1,hx140_2,hx140_3⟩:=at_T40 (Kd.R_reads' Bc.out).2.2 t131 p140 q140
   cases e140
   replace p140:=eq_true p140
   replace q140:=eq_true q140
   have p141:0≤(t131:Int):=of_decide_eq_true (by first|(with_reducible assumption)|assumption)
   have q141:t131<(t135.length:Int):=of_decide_eq_true (by first|(with_reducible assumption)|assumption)
   obtain ⟨ad141,e141,hx141_0,hx141_1,hx141_2,hx141_3⟩:=at_T40 (Kd.R_reads' Bc.out).2.2 t131 p141 q141
   obtain rfl:ad140=ad141:=(by injection e141)
   replace p141:=eq_true p141
   replace q141:=eq_true q141
   have p28:0≤(t131:Int):=of_decide_eq_true (by first|(with_reducible assumption)|assumption)
   have q28:(t131:Int)<((t135.length:Int):Int):=of_decide_eq_true (by first|(with_reducible assumption)|assumption)
   obtain ⟨go28,co28,eo28,Bq,gl28,cl28,HG28⟩:=Kd.R_form Bc.out (by omega)
   (first|cases eo28|(injection eo28 with ea_ en_ ec_;(first|subst ea_|(injection ea_ with ea_;subst ea_));subst ec_;clear en_))
   have GB28:=Am Bq
   have GG28:=Am HG28
   clear Bq gl28 HG28
   (first|simp only [add_plain] at hx140_0|skip)
   (first|simp only [add_plain] at hx140_1|skip)
   (first|simp only [add_plain] at hx140_2|skip)
   (first|simp only [add_plain] at hx140_3|skip)
   (first|simp only [add_plain] at hx141_0|skip)
   (first|simp only [add_plain] at hx141_1|skip)
   (first|simp only [add_plain] at hx141_2|skip)
   (first|simp only [add_plain] at hx141_3|skip)
   obtain ⟨ce28,hcl28,hM28,hcc28,hfr28⟩:=Kd.R_elem Bc.out z40 (t131:Int) p28 q28
   obtain rfl:=k40_openM hM28
   have hx28_0:World.cell? _ ⟨go28,(t131:Int).toNat * 4,none⟩=some (.int .i64 ((rd_T40 t135 t131).f0)):=hcc28 0 _ rfl
   have hx28_1:World.cell? _ ⟨go28,(t131:Int).toNat * 4 + 1,none⟩=some (.int .i64 ((rd_T40 t135 t131).f1)):=hcc28 1 _ rfl
   have hx28_2:World.cell? _ ⟨go28,(t131:Int).toNat * 4 + 2,none⟩=some (.int .i64 ((rd_T40 t135 t131).f2)):=hcc28 2 _ rfl
   have hx28_3:World.cell? _ ⟨go28,(t131:Int).toNat * 4 + 3,none⟩=some (.bool ((rd_T40 t135 t131).f3)):=hcc28 3 _ rfl
   have hf28_0:World.frozen? _ ⟨go28,(t131:Int).toNat * 4,none⟩=false:=hfr28 0
   have hf28_1:World.frozen? _ ⟨go28,(t131:Int).toNat * 4 + 1,none⟩=false:=hfr28 1
   have hf28_2:World.frozen? _ ⟨go28,(t131:Int).toNat * 4 + 2,none⟩=false:=hfr28 2
   have hf28_3:World.frozen? _ ⟨go28,(t131:Int).toNat * 4 + 3,none⟩=false:=hfr28 3
   clear hcl28 hcc28 hfr28 hM28
   replace p28:=eq_true p28
   replace q28:=eq_true q28
   obtain ⟨ce43,hcl43,hM43,hcc43,hfr43⟩:=Kd.R_elem Bc.out z40 (t131:Int) (of_decide_eq_true (by first|(with_reducible assumption)|assumption)) (by have h_:(t131:Int)<((t135.length:Int):Int):=of_decide_eq_true (by first|(with_reducible assumption)|assumption);first|exact h_|(have e_:=(Kd.R_reads' Bc.out).1;omega)|simpa using h_)
   obtain rfl:=k40_openM hM43
   have HP43:=(Kd.R_seg Bc.out (t131:Int) (of_decide_eq_true (by first|(with_reducible assumption)|assumption)) (by have h_:(t131:Int)<((t135.length:Int):Int):=of_decide_eq_true (by first|(with_reducible assumption)|assumption);first|exact h_|(have e_:=(Kd.R_reads' Bc.out).1;omega)|simpa using h_) (seg:=[.int .i64 (wrap64 (((rd_T40 t135 t131).f2) + (wrap64 (Int.tdiv (60:Int) ((rd_T40 t135 t131).f1)))))]) (j:=2) hcl43 hcc43 (show 3≤4 from by decide) (x':=(⟨(rd_T40 t135 t131).f0,(rd_T40 t135 t131).f1,wrap64 (((rd_T40 t135 t131).f2) + (wrap64 (Int.tdiv (60:Int) ((rd_T40 t135 t131).f1)))),(rd_T40 t135 t131).f3⟩:S40)) (k40_mkM _ _ _ (⟨(rd_T40 t135 t131).f0,(rd_T40 t135 t131).f1,wrap64 (((rd_T40 t135 t131).f2) + (wrap64 (Int.tdiv (60:Int) ((rd_T40 t135 t131).f1)))),(rd_T40 t135 t131).f3⟩:S40) ) (fun _ hk=>hk)).1
   rw [← Ny142.out] at HP43
   have HQ43:=Am HP43
   clear hcl43 hcc43 hfr43 hM43 HP43
   refine start_ (n:=17) (S:=fun w'=>w'.cell? ⟨Be,0,none⟩=some (.slice (some ⟨go28,0,none⟩) t135.length co37)∧w'.cell? ⟨Be,1,none⟩=some (.int .i64 t138)∧w'.cell? ⟨go28,((t131).toNat * 4),none⟩=some (.int .i64 ((rd_T40 t135 t131).f0))∧w'.cell? ⟨go28,((t131).toNat * 4) + 1,none⟩=some (.int .i64 ((rd_T40 t135 t131).f1))∧w'.cell? ⟨go28,((t131).toNat * 4) + 2,none⟩=some (.int .i64 ((rd_T40 t135 t131).f2))∧w'.cell? ⟨go28,((t131).toNat * 4) + 3,none⟩=some (.bool ((rd_T40 t135 t131).f3))∧w'.cell? ⟨go28,((t131).toNat * 4),none⟩=some (.int .i64 ((rd_T40 t135 t131).f0))∧w'.cell? ⟨go28,((t131).toNat * 4) + 1,none⟩=some (.int .i64 ((rd_T40 t135 t131).f1))∧w'.cell? ⟨go28,((t131).toNat * 4) + 2,none⟩=some (.int .i64 ((rd_T40 t135 t131).f2))∧w'.cell? ⟨go28,((t131).toNat * 4) + 3,none⟩=some (.bool ((rd_T40 t135 t131).f3))) (ds:=[16]) z21q32 (by kernel_rfl) rfl rfl ⟨(bC Bd.out 0).trans rfl,(bC Bd.out 1).trans rfl,hx140_0,hx140_1,hx140_2,hx140_3,hx141_0,hx141_1,hx141_2,hx141_3⟩ (fun hHeld=>?_);refine with_st impl_QueueTick.tab5 impl_QueueTick.bits5 (fun _ _ _ _ _ h=>h) (fun HT_=>?_)
   generalize w41.drew=w42 at Bc Bb Ba Bd HB GG28 HQ43 hf28_0 hf28_1 hf28_2 hf28_3 hx140_0 hx140_1 hx140_2 hx140_3 hx141_0 hx141_1 hx141_2 hx141_3 hx28_0 hx28_1 hx28_2 hx28_3 hHeld ⊢
   refine pS 0 36 z21q33 HT_ rfl rfl (by kernel_rfl) (by rfl) (by intro w';go_simp;with_reducible rfl) (by simp only [Act.put,lA,lZ,lS,iw,jw];rfl) ?_
   refine pS 2 38 z21q34 HT_ rfl rfl (by kernel_rfl) (by rfl) (by intro w';go_simp;with_reducible rfl) (by simp only [Act.put,lA,lZ,lS,iw,jw];rfl) ?_
   refine pS 6 42 z21q35 HT_ rfl rfl (by kernel_rfl) (by rfl) (by intro w';go_simp;with_reducible rfl) (by simp only [Act.put,lA,lZ,lS,iw,jw];rfl) ?_
   refine pS 8 44 z21q36 HT_ rfl rfl (by kernel_rfl) (by rfl) (by intro w';go_simp;with_reducible rfl) (by simp only [Act.put,lA,lZ,lS,iw,jw];rfl) ?_
   refine tS 1 37 z21q37 HT_ hHeld rfl rfl (by kernel_rfl) (by rfl) (by rintro w' ⟨s0,s1,s2,s3,s4,s5,s6,s7,s8,s9⟩;go_simp;with_reducible rfl) (by simp only [Act.put,lA,lZ,lS,iw,jw];rfl) ?_
   refine pS 3 39 z21q38 HT_ rfl rfl (by kernel_rfl) (by rfl) (by intro w';go_simp;with_reducible rfl) (by simp only [Act.put,lA,lZ,lS,iw,jw];rfl) ?_
   refine pS 4 40 z21q39 HT_ rfl rfl (by kernel_rfl) (by rfl) (by intro w';go_simp;with_reducible rfl) (by simp only [Act.put,lA,lZ,lS,iw,jw];rfl) ?_
   refine tS 5 41 z21q40 HT_ hHeld rfl rfl (by kernel_rfl) (by rfl) (by rintro w' ⟨s0,s1,s2,s3,s4,s5,s6,s7,s8,s9⟩;go_simp;with_reducible rfl) (by simp only [Act.put,lA,lZ,lS,iw,jw];rfl) ?_
   refine tS 7 43 z21q41 HT_ hHeld rfl rfl (by kernel_rfl) (by rfl) (by rintro w' ⟨s0,s1,s2,s3,s4,s5,s6,s7,s8,s9⟩;go_simp;with_reducible rfl) (by simp only [Act.put,lA,lZ,lS,iw,jw];rfl) ?_
   refine pS 9 45 z21q42 HT_ rfl rfl (by kernel_rfl) (by rfl) (by intro w';go_simp;with_reducible rfl) (by simp only [Act.put,lA,lZ,lS,iw,jw];rfl) ?_
   refine pS 10 46 z21q43 HT_ rfl rfl (by kernel_rfl) (by rfl) (by intro w';go_simp;with_reducible rfl) (by simp only [Act.put,lA,lZ,lS,iw,jw];rfl) ?_
   refine tS 11 47 z21q44 HT_ hHeld rfl rfl (by kernel_rfl) (by rfl) (by rintro w' ⟨s0,s1,s2,s3,s4,s5,s6,s7,s8,s9⟩;go_simp;with_reducible rfl) (by simp only [Act.put,lA,lZ,lS,iw,jw];rfl) ?_
   refine pS 12 48 z21q45 HT_ rfl rfl (by kernel_rfl) (by rfl) (by intro w';go_simp;with_reducible rfl) (by simp only [Act.put,lA,lZ,lS,iw,jw];rfl) ?_
   refine pS 13 49 z21q46 HT_ rfl rfl (by kernel_rfl) (by rfl) (by intro w';go_simp;with_reducible rfl) (by simp only [Act.put,lA,lZ,lS,iw,jw];rfl) ?_
   refine pS 14 50 z21q47 HT_ rfl rfl (by kernel_rfl) (by rfl) (by intro w';go_simp;with_reducible rfl) (by simp only [Act.put,lA,lZ,lS,iw,jw];rfl) ?_
   refine pS 15 51 z21q48 HT_ rfl rfl (by kernel_rfl) (by rfl) (by intro w';go_simp;with_reducible rfl) (by simp only [Act.put,lA,lZ,lS,iw,jw];rfl) ?_
   refine last_ (i:=16) (N:=none) z21q49 rfl rfl (one_of HT_.out (by kernel_rfl)) (by decide) (fun K hK=>?_)
   refine skip_ (w1:=?_) (by rfl) rfl ?_ ?_
   rotate_left;(go_simp;rfl)
   refine hK.out _ _ ?_
   clear hK K
   refine done_ (done_of HT_.out (by kernel_rfl)) ?_
   have n0_:Aside0 (Kd.R k40 40 (w42.setCell ⟨go28,(t131:Int).toNat * 4 + 2,none⟩ (.int .i64 (wrap64 (((rd_T40 t135 t131).f2) + (wrap64 (Int.tdiv (60:Int) ((rd_T40 t135 t131).f1))))))) w.heap.size (fun _=>True) (.slice (some ⟨go28,0,none⟩) t135.length co37) y142):=⟨by (with_reducible repeat (first|apply rA|apply rN|apply rD));exact HQ43.out⟩
   have n1_:Aside0 ((w42.setCell ⟨go28,(t131:Int).toNat * 4 + 2,none⟩ (.int .i64 (wrap64 (((rd_T40 t135 t131).f2) + (wrap64 (Int.tdiv (60:Int) ((rd_T40 t135 t131).f1))))))).heap[Bg]?=some (.cells #[.slice A0_0 l0_0.length c0_0,.int .i64 a0_1] 25 (0,0))):=⟨by (with_reducible repeat (first|refine bN ?_ _|refine bD ?_|refine bA ?_ _));refine blk_far ?_ (by have h_:=Kd.R_ne Bc.out Bb.out (by decide);intro e_;exact h_ (by rw [e_];rfl)) _;(with_reducible repeat (first|refine bN ?_ _|refine bD ?_|refine bA ?_ _));exact Bb.out⟩
   have n2_:Aside0 ((w42.setCell ⟨go28,(t131:Int).toNat * 4 + 2,none⟩ (.int .i64 (wrap64 (((rd_T40 t135 t131).f2) + (wrap64 (Int.tdiv (60:Int) ((rd_T40 t135 t131).f1))))))).heap[Bf]?=some (.cells #[.slice none 0 0,.int .i64 0] 25 (0,0))):=⟨by (with_reducible repeat (first|refine bN ?_ _|refine bD ?_|refine bA ?_ _));refine blk_far ?_ (by have h_:=Kd.R_ne Bc.out Ba.out (by decide);intro e_;exact h_ (by rw [e_];rfl)) _;(with_reducible repeat (first|refine bN ?_ _|refine bD ?_|refine bA ?_ _));exact Ba.out⟩
   have n3_:Aside0 ((w42.setCell ⟨go28,(t131:Int).toNat * 4 + 2,none⟩ (.int .i64 (wrap64 (((rd_T40 t135 t131).f2) + (wrap64 (Int.tdiv (60:Int) ((rd_T40 t135 t131).f1))))))).heap[Be]?=some (.cells #[.slice (some ⟨go28,0,none⟩) t135.length co37,.int .i64 t138] 25 (0,0))):=⟨by (with_reducible repeat (first|refine bN ?_ _|refine bD ?_|refine bA ?_ _));refine blk_far ?_ (by have h_:=Kd.R_ne Bc.out Bd.out (by decide);intro e_;exact h_ (by rw [e_];rfl)) _;(with_reducible repeat (first|refine bN ?_ _|refine bD ?_|refine bA ?_ _));exact Bd.out⟩
   have n4_:Aside0 (Below w.heap.size w (w42.setCell ⟨go28,(t131:Int).toNat * 4 + 2,none⟩ (.int .i64 (wrap64 (((rd_T40 t135 t131).f2) + (wrap64 (Int.tdiv (60:Int) ((rd_T40 t135 t131).f1)))))))):=⟨by repeat (first|(with_reducible first|exact HB.out|apply oA|apply pN|apply o1|refine bS ?_ GB28.out|refine bS ?_ Bh.out|refine bS ?_ Bi.out|refine bS ?_ Bo.out)|exact HB.out)⟩
   (try clear Bc)
   (try clear Bb)
   (try clear Ba)
   (try clear Bd)
   (try clear HB)
   generalize (w42.setCell ⟨go28,(t131:Int).toNat * 4 + 2,none⟩ (.int .i64 (wrap64 (((rd_T40 t135 t131).f2) + (wrap64 (Int.tdiv (60:Int) ((rd_T40 t135 t131).f1)))))))=w44 at n0_ n1_ n2_ n3_ n4_ ⊢
   have Bc:=n0_
   have Bb:=n1_
   have Ba:=n2_
   have Bd:=n3_
   have HB:=n4_
   clear n0_ n1_ n2_ n3_ n4_
   try go_wp2
   have n0_:=Am (rD Bc.out)
   have n1_:=Am (bD Bb.out)
   have n2_:=Am (bD Ba.out)
   have n3_:=Am (bD Bd.out)
   have n4_:=Am (o1 HB.out)
   clear Bc
   clear Bb
   clear Ba
   clear Bd
   clear HB
   have Bc:=n0_
   have Bb:=n1_
   have Ba:=n2_
   have Bd:=n3_
   have HB:=n4_
   clear n0_ n1_ n2_ n3_ n4_
   have p144:0≤(t143:Int):=of_decide_eq_true (by first|(with_reducible assumption)|assumption)
   have q144:t143<(y142.length:Int):=(by have h_:(t143:Int)<((t135.length:Int):Int):=of_decide_eq_true (by first|(with_reducible assumption)|assumption);first|(have e_:=(Kd.R_reads' Bc.out).1;omega)|simpa only [Ny142.out,List.length_set] using h_)
   have ql144:((t143:Int)<((t135.length:Int):Int))=True:=eq_true (of_decide_eq_true (by first|(with_reducible assumption)|assumption))
   obtain ⟨ad144,e144,hx144_0,hx144_1,hx144_2,hx144_3⟩:=at_T40 (Kd.R_reads' Bc.out).2.2 t143 p144 q144
   obtain rfl:(⟨go28,0,none⟩:Addr)=ad144:=(by injection e144)
   (first|simp only [add_plain] at hx144_0|simp only [add_at] at hx144_0|simp only [Addr.add,Nat.zero_add] at hx144_0|skip)
   (first|simp only [add_plain] at hx144_1|simp only [add_at] at hx144_1|simp only [Addr.add,Nat.zero_add] at hx144_1|skip)
   (first|simp only [add_plain] at hx144_2|simp only [add_at] at hx144_2|simp only [Addr.add,Nat.zero_add] at hx144_2|skip)
   (first|simp only [add_plain] at hx144_3|simp only [add_at] at hx144_3|simp only [Addr.add,Nat.zero_add] at hx144_3|skip)
   replace p144:=eq_true p144
   replace q144:=eq_true q144
   refine start_ (n:=12) (S:=fun w'=>w'.cell? ⟨Be,0,none⟩=some (.slice (some ⟨go28,0,none⟩) t135.length co37)∧w'.cell? ⟨Be,1,none⟩=some (.int .i64 t138)∧w'.cell? ⟨go28,(t143).toNat * 4,none⟩=some (.int .i64 ((rd_T40 y142 t143).f0))∧w'.cell? ⟨go28,(t143).toNat * 4 + 1,none⟩=some (.int .i64 ((rd_T40 y142 t143).f1))∧w'.cell? ⟨go28,(t143).toNat * 4 + 2,none⟩=some (.int .i64 ((rd_T40 y142 t143).f2))∧w'.cell? ⟨go28,(t143).toNat * 4 + 3,none⟩=some (.bool ((rd_T40 y142 t143).f3))) (ds:=[11]) z21q50 (by kernel_rfl) rfl rfl ⟨(bC Bd.out 0).trans rfl,(bC Bd.out 1).trans rfl,hx144_0,hx144_1,hx144_2,hx144_3⟩ (fun hHeld=>?_);refine with_st impl_QueueTick.tab6 impl_QueueTick.bits6 (fun _ _ _ _ _ h=>h) (fun HT_=>?_)
   generalize w44.drew=w45 at Bc Bb Ba Bd HB hx144_0 hx144_1 hx144_2 hx144_3 hHeld ⊢
   refine pS 0 52 z21q51 HT_ rfl rfl (by kernel_rfl) (by rfl) (by intro w';go_simp;with_reducible rfl) (by simp only [Act.put,lA,lZ,lS,iw,jw];rfl) ?_
   refine pS 2 54 z21q52 HT_ rfl rfl (by kernel_rfl) (by rfl) (by intro w';go_simp;with_reducible rfl) (by simp only [Act.put,lA,lZ,lS,iw,jw];rfl) ?_
   refine tS 1 53 z21q53 HT_ hHeld rfl rfl (by kernel_rfl) (by rfl) (by rintro w' ⟨s0,s1,s2,s3,s4,s5⟩;go_simp;with_reducible rfl) (by simp only [Act.put,lA,lZ,lS,iw,jw];rfl) ?_
   refine tS 3 55 z21q54 HT_ hHeld rfl rfl (by kernel_rfl) (by rfl) (by rintro w' ⟨s0,s1,s2,s3,s4,s5⟩;go_simp;with_reducible rfl) (by simp only [Act.put,lA,lZ,lS,iw,jw];rfl) ?_
   refine tS 4 56 z21q55 HT_ hHeld rfl rfl (by kernel_rfl) (by rfl) (by rintro w' ⟨s0,s1,s2,s3,s4,s5⟩;go_simp;with_reducible rfl) (by simp only [Act.put,lA,lZ,lS,iw,jw];rfl) ?_
   refine oS 5 57 z21q56 HT_ rfl rfl (by kernel_rfl) (by decide) (fun K hK=>?_)
   refine goes_ Try.func43 (by kernel_rfl) rfl #[.agg #[.slice (some ⟨go28,0,none⟩) y142.length co37,.int .i64 t138]] (by rfl) rfl rfl (by (try simp only [lM,lC,lN]);first|done|(rw [show y142.length=t135.length from (Kd.R_reads' Bc.out).1.symm] <;> rfl)|rfl|(simp only [lD,lT];rfl)) ?_
   with_reducible refine (impl_Queue_next.calls kj2 _ _ y142 t138 t143 _ ?side1 ?side2 A29.out).mono ?_
   (case side1=>repeat (first|exact (Kd.R_reads' Bc.out).2.2|(with_reducible refine cA ?_ _)|(with_reducible refine cN ?_ _)|(with_reducible refine cD ?_)))
   (case side2=>rw [show y142.length=t135.length from (Kd.R_reads' Bc.out).1.symm];exact (Kd.R_reads' Bc.out).2.1)
   rintro e w46 ⟨rfl,hb⟩
   have HS2_:=(hb.cell (World.block_lt_of_cell? _ _ (hHeld.2.2.1))).trans (hHeld.2.2.1)
   have HS3_:=(hb.cell (World.block_lt_of_cell? _ _ (hHeld.2.2.2.1))).trans (hHeld.2.2.2.1)
   have HS4_:=(hb.cell (World.block_lt_of_cell? _ _ (hHeld.2.2.2.2.1))).trans (hHeld.2.2.2.2.1)
   have HS5_:=(hb.cell (World.block_lt_of_cell? _ _ (hHeld.2.2.2.2.2))).trans (hHeld.2.2.2.2.2)
   refine ⟨_,rfl,?_⟩
   have n0_:=Am (rB (rL Bc.out) hb)
   have n1_:=Am (bB (g:=Bg) (o:=.cells #[.slice A0_0 l0_0.length c0_0,.int .i64 a0_1] 25 (0,0)) (bL Bb.out) hb)
   have n2_:=Am (bB (g:=Bf) (o:=.cells #[.slice none 0 0,.int .i64 0] 25 (0,0)) (bL Ba.out) hb)
   have n3_:=Am (bB (g:=Be) (o:=.cells #[.slice (some ⟨go28,0,none⟩) t135.length co37,.int .i64 t138] 25 (0,0)) (bL Bd.out) hb)
   have n4_:=Am (bP (by repeat (first|(with_reducible first|exact HB.out|apply oA|apply pN|apply o1|refine bS ?_ Bh.out|refine bS ?_ Bi.out|refine bS ?_ Bo.out)|exact HB.out)) hb)
   clear Bc
   clear Bb
   clear Ba
   clear Bd
   clear HB
   have Bc:=n0_
   have Bb:=n1_
   have Ba:=n2_
   have Bd:=n3_
   have HB:=n4_
   clear n0_ n1_ n2_ n3_ n4_
   (try clear hb)
   (try clear hb2)
   (try clear hk)
   (try clear hi)
   refine hK.out _ _ ⟨(bC Bd.out 0).trans rfl,(bC Bd.out 1).trans rfl,HS2_,HS3_,HS4_,HS5_⟩ (fun hHeld=>?_)
   clear hK K
   refine norm_ (by show Act.put _ (some 57) _=_;simp only [Act.put,lA,lZ,lS,iw,jw];rfl) ?_
   refine pS 6 58 z21q57 HT_ rfl rfl (by kernel_rfl) (by rfl) (by intro w';go_simp;with_reducible rfl) (by simp only [Act.put,lA,lZ,lS,iw,jw];rfl) ?_
   refine pS 7 59 z21q58 HT_ rfl rfl (by kernel_rfl) (by rfl) (by intro w';go_simp;with_reducible rfl) (by simp only [Act.put,lA,lZ,lS,iw,jw];rfl) ?_
   refine tS 8 60 z21q59 HT_ hHeld rfl rfl (by kernel_rfl) (by rfl) (by rintro w' ⟨s0,s1,s2,s3,s4,s5⟩;go_simp;with_reducible rfl) (by simp only [Act.put,lA,lZ,lS,iw,jw];rfl) ?_
   refine pS 9 61 z21q60 HT_ rfl rfl (by kernel_rfl) (by rfl) (by intro w';go_simp;with_reducible rfl) (by simp only [Act.put,lA,lZ,lS,iw,jw];rfl) ?_
   refine pS 10 62 z21q61 HT_ rfl rfl (by kernel_rfl) (by rfl) (by intro w';go_simp;with_reducible rfl) (by simp only [Act.put,lA,lZ,lS,iw,jw];rfl) ?_
   refine last_ (i:=11) (N:=none) z21q62 rfl rfl (one_of HT_.out (by kernel_rfl)) (by decide) (fun K hK=>?_)
   have hs47:w46.cell? ⟨Be,1,none⟩=some (.int .i64 t138):=(bC Bd.out 1).trans rfl
   have hfs47:=bF Bd.out 1
   have hns47_0:=Bn.out
   have hns47_1:=Bk.out
   have hms47_0:=Bp.out
   have hms47_1:=Bj.out
   refine skip_ (w1:=?_) (by rfl) rfl ?_ ?_
   rotate_left;(go_simp;rfl)
   refine hK.out _ _ ?_
   clear hK K
   refine done_ (done_of HT_.out (by kernel_rfl)) ?_
   try go_wp2
   have n0_:Aside0 (Kd.R k40 40 (w46.setCell ⟨Be,1,none⟩ (.int .i64 ji32)) w.heap.size (fun _=>True) (.slice (some ⟨go28,0,none⟩) t135.length co37) y142):=⟨by (with_reducible repeat (first|apply rA|apply rN|apply rD));exact rM (rF (p:=⟨Be,1,none⟩) (rT Bc.out Bd.out (by decide)) (fun _ hk=>hk.2) (.int .i64 ji32)) (fun _ hk=>trivial)⟩
   have n1_:Aside0 ((w46.setCell ⟨Be,1,none⟩ (.int .i64 ji32)).heap[Bg]?=some (.cells #[.slice A0_0 l0_0.length c0_0,.int .i64 a0_1] 25 (0,0))):=⟨by (with_reducible repeat (first|refine bN ?_ _|refine bD ?_|refine bA ?_ _|refine blk_far ?_ Bn.out _));exact Bb.out⟩
   have n2_:Aside0 ((w46.setCell ⟨Be,1,none⟩ (.int .i64 ji32)).heap[Bf]?=some (.cells #[.slice none 0 0,.int .i64 0] 25 (0,0))):=⟨by (with_reducible repeat (first|refine bN ?_ _|refine bD ?_|refine bA ?_ _|refine blk_far ?_ Bk.out _));exact Ba.out⟩
   have n3_:Aside0 ((w46.setCell ⟨Be,1,none⟩ (.int .i64 ji32)).heap[Be]?=some (.cells #[.slice (some ⟨go28,0,none⟩) t135.length co37,.int .i64 ji32] 25 (0,0))):=⟨by (with_reducible repeat (first|refine bN ?_ _|refine bD ?_|refine bA ?_ _));refine blk_put (cs:=#[.slice (some ⟨go28,0,none⟩) t135.length co37,.int .i64 t138]) ?_ 1 _ rfl;(with_reducible repeat (first|refine bN ?_ _|refine bD ?_|refine bA ?_ _));exact Bd.out⟩
   have n4_:Aside0 (Below w.heap.size w (w46.setCell ⟨Be,1,none⟩ (.int .i64 ji32))):=⟨by repeat (first|(with_reducible first|exact HB.out|apply oA|apply pN|apply o1|refine bS ?_ Bh.out|refine bS ?_ Bi.out|refine bS ?_ Bo.out)|exact HB.out)⟩
   (try clear Bc)
   (try clear Bb)
   (try clear Ba)
   (try clear Bd)
   (try clear HB)
   generalize (w46.setCell ⟨Be,1,none⟩ (.int .i64 ji32))=w48 at n0_ n1_ n2_ n3_ n4_ ⊢
   have Bc:=n0_
   have Bb:=n1_
   have Ba:=n2_
   have Bd:=n3_
   have HB:=n4_
   clear n0_ n1_ n2_ n3_ n4_
   have n0_:=Am (rD Bc.out)
   have n1_:=Am (bD Bb.out)
   have n2_:=Am (bD Ba.out)
   have n3_:=Am (bD Bd.out)
   have n4_:=Am (o1 HB.out)
   clear Bc
   clear Bb
   clear Ba
   clear Bd
   clear HB
   have Bc:=n0_
   have Bb:=n1_
   have Ba:=n2_
   have Bd:=n3_
   have HB:=n4_
   clear n0_ n1_ n2_ n3_ n4_
   have p145:0≤(t131:Int):=of_decide_eq_true (by first|(with_reducible assumption)|assumption)
   have q145:t131<(y142.length:Int):=(by have h_:(t131:Int)<((t135.length:Int):Int):=of_decide_eq_true (by first|(with_reducible assumption)|assumption);first|(have e_:=(Kd.R_reads' Bc.out).1;omega)|simpa only [Ny142.out,List.length_set] using h_)
   have ql145:((t131:Int)<((t135.length:Int):Int))=True:=eq_true (of_decide_eq_true (by first|(with_reducible assumption)|assumption))
   obtain ⟨ad145,e145,hx145_0,hx145_1,hx145_2,hx145_3⟩:=at_T40 (Kd.R_reads' Bc.out).2.2 t131 p145 q145
   obtain rfl:(⟨go28,0,none⟩:Addr)=ad145:=(by injection e145)
   (first|simp only [add_plain] at hx145_0|simp only [add_at] at hx145_0|simp only [Addr.add,Nat.zero_add] at hx145_0|skip)
   (first|simp only [add_plain] at hx145_1|simp only [add_at] at hx145_1|simp only [Addr.add,Nat.zero_add] at hx145_1|skip)
   (first|simp only [add_plain] at hx145_2|simp only [add_at] at hx145_2|simp only [Addr.add,Nat.zero_add] at hx145_2|skip)
   (first|simp only [add_plain] at hx145_3|simp only [add_at] at hx145_3|simp only [Addr.add,Nat.zero_add] at hx145_3|skip)
   replace p145:=eq_true p145
   replace q145:=eq_true q145
   refine start_ (n:=10) (S:=fun w'=>w'.cell? ⟨Be,0,none⟩=some (.slice (some ⟨go28,0,none⟩) t135.length co37)∧w'.cell? ⟨Be,1,none⟩=some (.int .i64 ji32)∧w'.cell? ⟨go28,(t131).toNat * 4,none⟩=some (.int .i64 ((rd_T40 y142 t131).f0))∧w'.cell? ⟨go28,(t131).toNat * 4 + 1,none⟩=some (.int .i64 ((rd_T40 y142 t131).f1))∧w'.cell? ⟨go28,(t131).toNat * 4 + 2,none⟩=some (.int .i64 ((rd_T40 y142 t131).f2))∧w'.cell? ⟨go28,(t131).toNat * 4 + 3,none⟩=some (.bool ((rd_T40 y142 t131).f3))) (ds:=[]) z21q63 (by kernel_rfl) rfl rfl ⟨(bC Bd.out 0).trans rfl,(bC Bd.out 1).trans rfl,hx145_0,hx145_1,hx145_2,hx145_3⟩ (fun hHeld=>?_);refine with_st impl_QueueTick.tab7 impl_QueueTick.bits7 (fun _ _ _ _ _ h=>h) (fun HT_=>?_)
   generalize w48.drew=w49 at Bc Bb Ba Bd HB hx145_0 hx145_1 hx145_2 hx145_3 hHeld ⊢
   refine pS 1 64 z21q64 HT_ rfl rfl (by kernel_rfl) (by rfl) (by intro w';go_simp;with_reducible rfl) (by simp only [Act.put,lA,lZ,lS,iw,jw];rfl) ?_
   refine pS 3 66 z21q65 HT_ rfl rfl (by kernel_rfl) (by rfl) (by intro w';go_simp;with_reducible rfl) (by simp only [Act.put,lA,lZ,lS,iw,jw];rfl) ?_
   refine tS 0 63 z21q66 HT_ hHeld rfl rfl (by kernel_rfl) (by rfl) (by rintro w' ⟨s0,s1,s2,s3,s4,s5⟩;go_simp;with_reducible rfl) (by simp only [Act.put,lA,lZ,lS,iw,jw];rfl) ?_
   refine tS 2 65 z21q67 HT_ hHeld rfl rfl (by kernel_rfl) (by rfl) (by rintro w' ⟨s0,s1,s2,s3,s4,s5⟩;go_simp;with_reducible rfl) (by simp only [Act.put,lA,lZ,lS,iw,jw];rfl) ?_
   refine pS 4 67 z21q68 HT_ rfl rfl (by kernel_rfl) (by rfl) (by intro w';go_simp;with_reducible rfl) (by simp only [Act.put,lA,lZ,lS,iw,jw];rfl) ?_
   refine pS 5 68 z21q69 HT_ rfl rfl (by kernel_rfl) (by rfl) (by intro w';go_simp;with_reducible rfl) (by simp only [Act.put,lA,lZ,lS,iw,jw];rfl) ?_
   refine tS 6 69 z21q70 HT_ hHeld rfl rfl (by kernel_rfl) (by rfl) (by rintro w' ⟨s0,s1,s2,s3,s4,s5⟩;go_simp;with_reducible rfl) (by simp only [Act.put,lA,lZ,lS,iw,jw];rfl) ?_
   refine oU 7 none z21q71 HT_ rfl rfl (by kernel_rfl) (by decide) (fun K hK=>?_)
   have hs50:w49.cell? ⟨Bf,0,none⟩=some (.slice none 0 0):=(bC Ba.out 0).trans rfl
   have hfs50:=bF Ba.out 0
   have hns50_0:=Bl.out
   have hns50_2:=Bj.out
   have hms50_0:=Bm.out
   have hms50_2:=Bk.out
   have hs51:w49.cell? ⟨Bf,1,none⟩=some (.int .i64 0):=(bC Ba.out 1).trans rfl
   have hfs51:=bF Ba.out 1
   have hns51_0:=Bl.out
   have hns51_2:=Bj.out
   have hms51_0:=Bm.out
   have hms51_2:=Bk.out
   refine skip_ (w1:=?_) (by rfl) rfl ?_ ?_
   rotate_left;(go_simp;rfl)
   refine hK.out _ _ ⟨((cell_far (p:=⟨Bf,_,none⟩) Bj.out _).trans (((cell_far (p:=⟨Bf,_,none⟩) Bj.out _).trans (hHeld.1)))),((cell_far (p:=⟨Bf,_,none⟩) Bj.out _).trans (((cell_far (p:=⟨Bf,_,none⟩) Bj.out _).trans (hHeld.2.1)))),((cell_far (p:=⟨Bf,_,none⟩) (by first|exact Kd.own_blk (Kd.R_ne Bc.out Ba.out (by decide))|(rw [add_block];exact Kd.own_blk (Kd.R_ne Bc.out Ba.out (by decide)))|(show (Addr.add _ _).block≠_;rw [add_block];exact Kd.own_blk (Kd.R_ne Bc.out Ba.out (by decide)))|(dsimp only;exact Kd.own_blk (Kd.R_ne Bc.out Ba.out (by decide)))) _).trans (((cell_far (p:=⟨Bf,_,none⟩) (by first|exact Kd.own_blk (Kd.R_ne Bc.out Ba.out (by decide))|(rw [add_block];exact Kd.own_blk (Kd.R_ne Bc.out Ba.out (by decide)))|(show (Addr.add _ _).block≠_;rw [add_block];exact Kd.own_blk (Kd.R_ne Bc.out Ba.out (by decide)))|(dsimp only;exact Kd.own_blk (Kd.R_ne Bc.out Ba.out (by decide)))) _).trans (hHeld.2.2.1)))),((cell_far (p:=⟨Bf,_,none⟩) (by first|exact Kd.own_blk (Kd.R_ne Bc.out Ba.out (by decide))|(rw [add_block];exact Kd.own_blk (Kd.R_ne Bc.out Ba.out (by decide)))|(show (Addr.add _ _).block≠_;rw [add_block];exact Kd.own_blk (Kd.R_ne Bc.out Ba.out (by decide)))|(dsimp only;exact Kd.own_blk (Kd.R_ne Bc.out Ba.out (by decide)))) _).trans (((cell_far (p:=⟨Bf,_,none⟩) (by first|exact Kd.own_blk (Kd.R_ne Bc.out Ba.out (by decide))|(rw [add_block];exact Kd.own_blk (Kd.R_ne Bc.out Ba.out (by decide)))|(show (Addr.add _ _).block≠_;rw [add_block];exact Kd.own_blk (Kd.R_ne Bc.out Ba.out (by decide)))|(dsimp only;exact Kd.own_blk (Kd.R_ne Bc.out Ba.out (by decide)))) _).trans (hHeld.2.2.2.1)))),((cell_far (p:=⟨Bf,_,none⟩) (by first|exact Kd.own_blk (Kd.R_ne Bc.out Ba.out (by decide))|(rw [add_block];exact Kd.own_blk (Kd.R_ne Bc.out Ba.out (by decide)))|(show (Addr.add _ _).block≠_;rw [add_block];exact Kd.own_blk (Kd.R_ne Bc.out Ba.out (by decide)))|(dsimp only;exact Kd.own_blk (Kd.R_ne Bc.out Ba.out (by decide)))) _).trans (((cell_far (p:=⟨Bf,_,none⟩) (by first|exact Kd.own_blk (Kd.R_ne Bc.out Ba.out (by decide))|(rw [add_block];exact Kd.own_blk (Kd.R_ne Bc.out Ba.out (by decide)))|(show (Addr.add _ _).block≠_;rw [add_block];exact Kd.own_blk (Kd.R_ne Bc.out Ba.out (by decide)))|(dsimp only;exact Kd.own_blk (Kd.R_ne Bc.out Ba.out (by decide)))) _).trans (hHeld.2.2.2.2.1)))),((cell_far (p:=⟨Bf,_,none⟩) (by first|exact Kd.own_blk (Kd.R_ne Bc.out Ba.out (by decide))|(rw [add_block];exact Kd.own_blk (Kd.R_ne Bc.out Ba.out (by decide)))|(show (Addr.add _ _).block≠_;rw [add_block];exact Kd.own_blk (Kd.R_ne Bc.out Ba.out (by decide)))|(dsimp only;exact Kd.own_blk (Kd.R_ne Bc.out Ba.out (by decide)))) _).trans (((cell_far (p:=⟨Bf,_,none⟩) (by first|exact Kd.own_blk (Kd.R_ne Bc.out Ba.out (by decide))|(rw [add_block];exact Kd.own_blk (Kd.R_ne Bc.out Ba.out (by decide)))|(show (Addr.add _ _).block≠_;rw [add_block];exact Kd.own_blk (Kd.R_ne Bc.out Ba.out (by decide)))|(dsimp only;exact Kd.own_blk (Kd.R_ne Bc.out Ba.out (by decide)))) _).trans (hHeld.2.2.2.2.2))))⟩ (fun hHeld=>?_)
   clear hK K
   refine pS 8 3 z21q72 HT_ rfl rfl (by kernel_rfl) (by rfl) (by intro w';go_simp;with_reducible rfl) (by simp only [Act.put,lA,lZ,lS,iw,jw];rfl) ?_
   refine pS 9 4 z21q73 HT_ rfl rfl (by kernel_rfl) (by rfl) (by intro w';go_simp;with_reducible rfl) (by simp only [Act.put,lA,lZ,lS,iw,jw];rfl) ?_
   refine done_ (done_of HT_.out (by kernel_rfl)) ?_
   try go_wp2
   refine bodyPost_ret (results_ctt rfl _ _ Bf 25 #[.slice (some ⟨go28,0,none⟩) t135.length co37,.int .i64 ji32] (0,0) _ rfl (by (with_reducible repeat (first|refine bN ?_ _|refine bD ?_|refine bA ?_ _));refine blk_put (cs:=#[.slice (some ⟨go28,0,none⟩) t135.length co37,.int .i64 0]) ?_ 1 _ rfl;(with_reducible repeat (first|refine bN ?_ _|refine bD ?_|refine bA ?_ _));refine blk_put (cs:=#[.slice none 0 0,.int .i64 0]) ?_ 0 _ rfl;(with_reducible repeat (first|refine bN ?_ _|refine bD ?_|refine bA ?_ _));exact Ba.out) Try.underlying25 rfl (by kernel_rfl)) rfl ?_
   exact ⟨_,by first|rfl|(simp [errW_none,errW_some] <;> rfl)|(simp only [← hji32];first|rfl|(simp [errW_none,errW_some] <;> rfl))|(simp [*,errW_none,errW_some] <;> rfl),by (with_reducible repeat (first|apply rA|apply rN|apply rD));exact rM (rF (p:=⟨Bf,1,none⟩) (rF (p:=⟨Bf,0,none⟩) (rT Bc.out Ba.out (by decide)) (fun _ hk=>hk.2) (.slice (some ⟨go28,0,none⟩) t135.length co37)) (fun _ hk=>hk.2) (.int .i64 ji32)) (fun _ hk=>trivial),by repeat (first|(with_reducible first|exact HB.out|apply oA|apply pN|apply o1|refine bS ?_ Bh.out|refine bS ?_ Bi.out|refine bS ?_ Bo.out)|exact HB.out)⟩
end Go.Proofs.Ytfhcgmfodfcpeaa.PFnQueueRun
