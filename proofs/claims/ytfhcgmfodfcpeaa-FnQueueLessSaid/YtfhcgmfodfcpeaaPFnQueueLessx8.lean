/- Proved here, without a condition beyond those that each theorem states: what the Go functions named below do is what the plain functions of the same names say. Written by xprint.py, a program of this session. -/
import Derived.Test.YtfhcgmfodfcpeaaPFnQueueLessx0
import Derived.Test.YtfhcgmfodfcpeaaPFnQueueLessx7
namespace Go.Proofs.Ytfhcgmfodfcpeaa.PFnQueueLess
open Go.RowKit Go.Proofs.YtfhcgmfodfcpeaaW.PrintWords Go.Proofs.YtfhcgmfodfcpeaaW.PrintLast Go.Proofs.YtfhcgmfodfcpeaaW.PrintMore
attribute [local go_sem] max2_int min2_int max_two min_two max_three min_three max_four min_four   -- for this text's walks alone
set_option linter.unusedVariables false
set_option linter.unusedSimpArgs false

attribute [local go_sem ↓] isSome_setCell_
/-! ### spec_l11Tick: function 44 -/
def spec_l11Tick.f (k : Nat) (l0_0 : List (S40)) (a0_1 : Int) : Option ((List (S40)) × Int × Int) := (spec_l11Next.f k l0_0 a0_1).bind fun t142 => (if t142 < 0 then (some (l0_0, a0_1, (-1))) else (if 0 ≤ t142 then (if t142 < (l0_0.length : Int) then (if ((rd_T40 l0_0 t142).f1) = 0 then (none) else (if (wrap64 (((rd_T40 l0_0 t142).f2) + (wrap64 (Int.tdiv (60 : Int) ((rd_T40 l0_0 t142).f1))))) > 1000000 then (some (l0_0, a0_1, (-1))) else ((some (l0_0.set (t142 : Int).toNat (⟨(rd_T40 l0_0 t142).f0, (rd_T40 l0_0 t142).f1, wrap64 (((rd_T40 l0_0 t142).f2) + (wrap64 (Int.tdiv (60 : Int) ((rd_T40 l0_0 t142).f1)))), (rd_T40 l0_0 t142).f3⟩ : S40) : List (S40))).bind fun y145 => ((spec_l11Next.f k y145 a0_1).bind fun t146 => (if 0 ≤ t146 then (if t146 < (l0_0.length : Int) then (some (y145, mx a0_1 ((rd_T40 y145 t146).f2), (rd_T40 y145 t142).f0)) else (none)) else (none)))))) else (none)) else (none)))
theorem spec_l11Tick.mono : ∀ a0 a1 k, LeO (spec_l11Tick.f k a0 a1) (spec_l11Tick.f (k + 1) a0 a1) := by
 intro a0 a1 k
 unfold spec_l11Tick.f
 repeat' first
  |(with_reducible exact spec_l11Next.mono _ _ _)
  |(with_reducible exact LeO.refl _)
  |(with_reducible exact LeO.none _)
  |(with_reducible refine LeO.ite ?_ ?_)
  |(with_reducible refine LeO.bind ?_ (fun _ => ?_))
  |exact spec_l11Next.mono _ _ _
  |exact LeO.none _
  |refine LeO.ite ?_ ?_
  |refine LeO.bind ?_ (fun _ => ?_)
def spec_l11Tick.T4 : Bool × List (List Nat × List Nat) := (true, [([], []), ([0], [0]), ([], []), ([1, 2], [1, 2]), ([3], [3]), ([4], [4]), ([], []), ([6], [6]), ([], []), ([7, 8], [7, 8]), ([9], [9]), ([10], [10]), ([11], [11]), ([5, 12], [5, 12]), ([13, 0, 1, 2, 3, 4, 5, 6, 7, 8, 9, 10, 11, 12, 13], [13])])
def spec_l11Tick.B4 : List Nat := [0, 1, 0, 7, 15, 31, 0, 64, 0, 448, 960, 1984, 4032, 8191, 16383]
theorem spec_l11Tick.tab4 : rtab .any (opsOf Try.f44 4) = spec_l11Tick.T4 := by kernel_rfl
theorem spec_l11Tick.bits4 : waitsOk spec_l11Tick.T4.2 spec_l11Tick.B4 = true := by kernel_rfl
def spec_l11Tick.T8 : Bool × List (List Nat × List Nat) := (true, [([], []), ([0], [0]), ([], []), ([2], [2]), ([], []), ([4], [4]), ([3, 5], [3, 5]), ([6], [6]), ([7], [7]), ([1, 8], [1, 8]), ([0, 1, 2, 3, 4, 5, 6, 7, 8, 9], []), ([10, 9, 5, 0, 1, 2, 3, 4, 5, 6, 7, 8, 9], [9, 10])])
def spec_l11Tick.B8 : List Nat := [0, 1, 0, 4, 0, 16, 60, 124, 252, 511, 1023, 2047]
theorem spec_l11Tick.tab8 : rtab .any (opsOf Try.f44 8) = spec_l11Tick.T8 := by kernel_rfl
theorem spec_l11Tick.bits8 : waitsOk spec_l11Tick.T8.2 spec_l11Tick.B8 = true := by kernel_rfl
def spec_l11Tick.T9 : Bool × List (List Nat × List Nat) := (true, [([], []), ([], []), ([1], [1]), ([], []), ([2, 3], [2, 3]), ([4], [4]), ([5], [5]), ([0, 0], [0]), ([6, 7, 0, 1, 2, 3, 4, 5, 6, 7], [6])])
def spec_l11Tick.B9 : List Nat := [0, 0, 2, 0, 14, 30, 62, 1, 255]
theorem spec_l11Tick.tab9 : rtab .any (opsOf Try.f44 9) = spec_l11Tick.T9 := by kernel_rfl
theorem spec_l11Tick.bits9 : waitsOk spec_l11Tick.T9.2 spec_l11Tick.B9 = true := by kernel_rfl
abbrev z44q0 : Array Bool := bQ 15 0
abbrev z44q1 : Array Bool := bQ 15 1
abbrev z44q2 : Array Bool := bQ 15 5
abbrev z44q3 : Array Bool := bQ 15 69
abbrev z44q4 : Array Bool := bQ 15 325
abbrev z44q5 : Array Bool := bQ 15 327
abbrev z44q6 : Array Bool := bQ 15 335
abbrev z44q7 : Array Bool := bQ 15 351
abbrev z44q8 : Array Bool := bQ 15 383
abbrev z44q9 : Array Bool := bQ 15 511
abbrev z44q10 : Array Bool := bQ 15 1023
abbrev z44q11 : Array Bool := bQ 15 2047
abbrev z44q12 : Array Bool := bQ 15 4095
abbrev z44q13 : Array Bool := bQ 15 8191
abbrev z44q14 : Array Bool := bQ 15 16383
abbrev z44q15 : Array Bool := bQ 15 32767
abbrev z44q16 : Array Bool := bQ 12 0
abbrev z44q17 : Array Bool := bQ 12 1
abbrev z44q18 : Array Bool := bQ 12 5
abbrev z44q19 : Array Bool := bQ 12 7
abbrev z44q20 : Array Bool := bQ 12 15
abbrev z44q21 : Array Bool := bQ 12 31
abbrev z44q22 : Array Bool := bQ 12 63
abbrev z44q23 : Array Bool := bQ 12 127
abbrev z44q24 : Array Bool := bQ 12 255
abbrev z44q25 : Array Bool := bQ 12 511
abbrev z44q26 : Array Bool := bQ 12 1023
abbrev z44q27 : Array Bool := bQ 12 2047
abbrev z44q28 : Array Bool := bQ 12 4095
abbrev z44q29 : Array Bool := bQ 9 0
abbrev z44q30 : Array Bool := bQ 9 2
abbrev z44q31 : Array Bool := bQ 9 10
abbrev z44q32 : Array Bool := bQ 9 11
abbrev z44q33 : Array Bool := bQ 9 15
abbrev z44q34 : Array Bool := bQ 9 31
abbrev z44q35 : Array Bool := bQ 9 63
abbrev z44q36 : Array Bool := bQ 9 127
abbrev z44q37 : Array Bool := bQ 9 255
abbrev z44q38 : Array Bool := bQ 9 511
set_option maxHeartbeats 2000000 in
set_option maxRecDepth 100000 in
theorem spec_l11Tick.calls (k:Nat) (P0_0_:Nat → Prop) (u9000_:Value) (l0_0:List (S40)) (a0_1:Int) (r1:List (S40)) (r2:Int) (r3:Int) (w0 w:World) (hB:Below w0.heap.size w0 w) (ho0_0:Kd.R k40 40 w w0.heap.size P0_0_ u9000_ l0_0) (h:spec_l11Tick.f k l0_0 a0_1=some (r1,r2,r3)) :
  Calls Try.prog 44 #[.agg #[u9000_,.int .i64 a0_1]] w fun e w'=>∃ v0_:Value,e=.returned (.tuple #[.agg #[v0_,.int .i64 r2],.int .i64 r3])∧Kd.R k40 40 w' w0.heap.size (fun k_=>(P0_0_ k_∨w.heap.size≤k_)) v0_ r1∧Below w0.heap.size w0 w'∧Kept w w' (fun k_=>P0_0_ k_):=by
 have hu25:=Try.underlying25
 have Ba:=Am (show Kd.R k40 40 w w0.heap.size (fun k_=>(P0_0_ k_∨w.heap.size≤k_)) u9000_ l0_0 from rM ho0_0 (fun k_ hk=>(.inl hk)))
 have HK:=Am (Kept.refl w (fun k_=>P0_0_ k_))
 have HW0:=Am hB.size
 have HB:=Am hB
 clear hB
 have H:((spec_l11Next.f k l0_0 a0_1).bind fun t142=>(if t142<0 then (some (l0_0,a0_1,(-1))) else (if 0≤t142 then (if t142<(l0_0.length:Int) then (if ((rd_T40 l0_0 t142).f1)=0 then (none) else (if (wrap64 (((rd_T40 l0_0 t142).f2) + (wrap64 (Int.tdiv (60:Int) ((rd_T40 l0_0 t142).f1))))) > 1000000 then (some (l0_0,a0_1,(-1))) else ((some (l0_0.set (t142:Int).toNat (⟨(rd_T40 l0_0 t142).f0,(rd_T40 l0_0 t142).f1,wrap64 (((rd_T40 l0_0 t142).f2) + (wrap64 (Int.tdiv (60:Int) ((rd_T40 l0_0 t142).f1)))),(rd_T40 l0_0 t142).f3⟩:S40):List (S40))).bind fun y145=>((spec_l11Next.f k y145 a0_1).bind fun t146=>(if 0≤t146 then (if t146<(l0_0.length:Int) then (some (y145,mx a0_1 ((rd_T40 y145 t146).f2),(rd_T40 y145 t142).f0)) else (none)) else (none)))))) else (none)) else (none))))=some (r1,r2,r3):=h
 clear h
 replace H:=oC H
 obtain ⟨t142,A20,H⟩:=H
 replace H:(if t142<0 then (some (l0_0,a0_1,(-1))) else (if 0≤t142 then (if t142<(l0_0.length:Int) then (if ((rd_T40 l0_0 t142).f1)=0 then (none) else (if (wrap64 (((rd_T40 l0_0 t142).f2) + (wrap64 (Int.tdiv (60:Int) ((rd_T40 l0_0 t142).f1))))) > 1000000 then (some (l0_0,a0_1,(-1))) else ((some (l0_0.set (t142:Int).toNat (⟨(rd_T40 l0_0 t142).f0,(rd_T40 l0_0 t142).f1,wrap64 (((rd_T40 l0_0 t142).f2) + (wrap64 (Int.tdiv (60:Int) ((rd_T40 l0_0 t142).f1)))),(rd_T40 l0_0 t142).f3⟩:S40):List (S40))).bind fun y145=>((spec_l11Next.f k y145 a0_1).bind fun t146=>(if 0≤t146 then (if t146<(l0_0.length:Int) then (some (y145,mx a0_1 ((rd_T40 y145 t146).f2),(rd_T40 y145 t142).f0)) else (none)) else (none)))))) else (none)) else (none)))=some (r1,r2,r3):=H
 have A2:=Am A20
 clear A20
 by_cases c3:t142<0
 ·rw [if_pos c3] at H
  have c3b0:decide (t142<0)=true:=decide_eq_true c3
  clear c3
  simp only [Option.some.injEq,Prod.mk.injEq] at H
  obtain ⟨rfl,rfl,rfl⟩:=H
  obtain ⟨Ao4,co4,eo4⟩:=Kd.R_slice Ba.out
  subst eo4
  go_enter Try.func44,Try.ntmps44
  go_wp2_with (first|((with_reducible refine gate_dst (N:=1) rfl ?_);refine box_event ?hg (N:=1) ?hd (cs:=#[.slice Ao4 l0_0.length co4,.int .i64 a0_1]) (t:=25) ?hr ?_;(case hd=>rfl);(case hg=>rfl);(case hr=>first|(go_simp;done)|(go_simp;rfl));intro Bd hg w5 hbox hb;have n0_:=Am (rB (rL Ba.out) hb);have n1_:=Am (Kept.below (S:=(fun k_=>P0_0_ k_)) (by repeat (first|(with_reducible first|exact HK.out|apply Kept.alloc|apply Kept.drewN|apply Kept.drew)|exact HK.out)) hb);have n2_:=Am (bP (by repeat (first|(with_reducible first|exact HB.out|apply oA|apply pN|apply o1)|exact HB.out)) hb);have n3_:=Am (hbox);have n4_:=Am ((by rw [hg];exact (by first|exact HK.out.1|exact (show Kept w _ (fun k_=>P0_0_ k_) from by repeat (first|(with_reducible first|exact HK.out|apply Kept.alloc|apply Kept.drewN|apply Kept.drew)|exact HK.out)).1):w.heap.size≤Bd));have n5_:=Am ((by rw [hg];exact (bZ (by repeat (first|(with_reducible first|exact HB.out|apply oA|apply pN|apply o1)|exact HB.out))):w0.heap.size≤Bd));clear Ba HK HB;revert n0_ n1_ n2_ n3_ n4_ n5_;intro Ba HK HB Bb Bg Bi;clear hb hbox hg)|((with_reducible refine gate_dst (N:=2) rfl ?_);refine box_event ?hg (N:=2) ?hd (cs:=#[.slice none 0 0,.int .i64 0]) (t:=25) ?hr ?_;(case hd=>rfl);(case hg=>rfl);(case hr=>first|(go_simp;done)|(go_simp;rfl));intro Be hg w6 hbox hb;have n0_:=Am (rB (rL Ba.out) hb);have n1_:=Am (bX Bb.out hb);have n2_:=Am (Kept.below (S:=(fun k_=>P0_0_ k_)) (by repeat (first|(with_reducible first|exact HK.out|apply Kept.alloc|apply Kept.drewN|apply Kept.drew|refine Kept.setCell ?_ (.inr Bg.out) _)|exact HK.out)) hb);have n3_:=Am (bP (by repeat (first|(with_reducible first|exact HB.out|apply oA|apply pN|apply o1|refine bS ?_ Bi.out)|exact HB.out)) hb);have n4_:=Am (hbox);have n5_:=Am ((by rw [hg];exact (by first|exact HK.out.1|exact (show Kept w _ (fun k_=>P0_0_ k_) from by repeat (first|(with_reducible first|exact HK.out|apply Kept.alloc|apply Kept.drewN|apply Kept.drew|refine Kept.setCell ?_ (.inr Bg.out) _)|exact HK.out)).1):w.heap.size≤Be));have n6_:=Am ((by rw [hg];exact (bZ (by repeat (first|(with_reducible first|exact HB.out|apply oA|apply pN|apply o1|refine bS ?_ Bi.out)|exact HB.out))):w0.heap.size≤Be));have n7_:=Am ((nL Bb.out hg));have n8_:=Am ((nG Bb.out hg));clear Ba Bb HK HB;revert n0_ n1_ n2_ n3_ n4_ n5_ n6_ n7_ n8_;intro Ba Bb HK HB Bc Bj Bk Bf Bh;clear hb hbox hg;have BW:=Bf.out;have BX:=Bh.out;have BO:=cz0 Bb.out;have BP:=cz1 Bb.out;have BQ:=bF Bb.out 0;have BR:=bF Bb.out 1)|((with_reducible refine gate_callee (f:=51) rfl ?_);refine goesL_ (some 7) rfl rfl Try.func51 (by kernel_rfl) rfl #[.agg #[.slice Ao4 l0_0.length co4,.int .i64 a0_1]] rfl (by (try simp only [lM,lC,lN]);first|done|rfl|(simp only [lD,lT];rfl)) ?_;(with_reducible refine (spec_l11Next.calls k _ _ l0_0 a0_1 t142 _ ?side1 ?side2 A2.out).mono ?_);(case side1=>exact cL (Kd.R_reads' Ba.out).2.2);(case side2=>exact (Kd.R_reads' Ba.out).2.1);rintro e w9 ⟨rfl,hb⟩;refine ⟨_,rfl,?_⟩;have n0_:=Am (rB (rL Ba.out) hb);have n1_:=Am (bX Bb.out hb);have n2_:=Am (bX Bc.out hb);have n3_:=Am (Kept.below (S:=(fun k_=>P0_0_ k_)) (by repeat (first|(with_reducible first|exact HK.out|apply Kept.alloc|apply Kept.drewN|apply Kept.drew|refine Kept.setCell ?_ (.inr Bg.out) _|refine Kept.setCell ?_ (.inr Bj.out) _)|exact HK.out)) hb);have n4_:=Am (bP (by repeat (first|(with_reducible first|exact HB.out|apply oA|apply pN|apply o1|refine bS ?_ Bi.out|refine bS ?_ Bk.out)|exact HB.out)) hb);clear Ba Bb Bc HK HB;revert n0_ n1_ n2_ n3_ n4_;intro Ba Bb Bc HK HB;(try clear hb);(try clear hb2);(try clear hk);(try clear hi);have Bm:=cz0 Bb.out;have Bn:=cz1 Bb.out;have Bo:=bF Bb.out 0;have Bp:=bF Bb.out 1;have Bq:=cz0 Bc.out;have Br:=cz1 Bc.out;have Bs:=bF Bc.out 0;have Bt:=bF Bc.out 1))
  refine bodyPost_ret (results_ct rfl _ _ Be 25 #[.slice Ao4 l0_0.length co4,.int .i64 a0_1] (0,0) _ rfl (by (with_reducible repeat (first|refine bN ?_ _|refine bD ?_|refine bA ?_ _));refine blk_put (cs:=#[.slice Ao4 l0_0.length co4,.int .i64 0]) ?_ 1 _ rfl;(with_reducible repeat (first|refine bN ?_ _|refine bD ?_|refine bA ?_ _));refine blk_put (cs:=#[.slice none 0 0,.int .i64 0]) ?_ 0 _ rfl;(with_reducible repeat (first|refine bN ?_ _|refine bD ?_|refine bA ?_ _));exact Bc.out) Try.underlying25 rfl (by kernel_rfl)) rfl ?_
  exact ⟨_,by first|rfl|(simp [errW_none,errW_some] <;> rfl)|(simp [*,errW_none,errW_some] <;> rfl),by (with_reducible repeat (first|apply rA|apply rN|apply rD));exact rM (rF (p:=⟨Be,1,none⟩) (rF (p:=⟨Be,0,none⟩) (rT Ba.out Bc.out (by decide)) (fun _ hk=>hk.2) (.slice Ao4 l0_0.length co4)) (fun _ hk=>hk.2) (.int .i64 a0_1)) (fun _ hk=>hk.1),by repeat (first|(with_reducible first|exact HB.out|apply oA|apply pN|apply o1|refine bS ?_ Bi.out|refine bS ?_ Bk.out)|exact HB.out),by repeat (first|(with_reducible first|exact HK.out|apply Kept.alloc|apply Kept.drewN|apply Kept.drew|refine Kept.setCell ?_ (.inr Bg.out) _|refine Kept.setCell ?_ (.inr Bj.out) _)|exact HK.out)⟩
 rw [if_neg c3] at H
 have c3b0:decide (t142<0)=false:=decide_eq_false c3
 clear c3
 by_cases c12:0≤t142
 rotate_left
 ·rw [if_neg c12] at H
  exact absurd H (by simp)

 rw [if_pos c12] at H
 have c12b0:decide (0≤t142)=true:=decide_eq_true c12
 clear c12
 by_cases c13:t142<(l0_0.length:Int)
 rotate_left
 ·rw [if_neg c13] at H
  exact absurd H (by simp)
 rw [if_pos c13] at H
 have c13b0:decide (t142<(l0_0.length:Int))=true:=decide_eq_true c13
 clear c13
 by_cases c14:((rd_T40 l0_0 t142).f1)=0
 ·rw [if_pos c14] at H
  exact absurd H (by simp)
 rw [if_neg c14] at H
 have c14b0:(((rd_T40 l0_0 t142).f1) == 0)=false:=beq_eq_false_iff_ne.mpr c14
 have c14b1:(((rd_T40 l0_0 t142).f1) != 0)=true:=bne_iff_ne.mpr c14
 by_cases c15:(wrap64 (((rd_T40 l0_0 t142).f2) + (wrap64 (Int.tdiv (60:Int) ((rd_T40 l0_0 t142).f1))))) > 1000000
 ·rw [if_pos c15] at H
  have c15b0:decide (1000000<(wrap64 (((rd_T40 l0_0 t142).f2) + (wrap64 (Int.tdiv (60:Int) ((rd_T40 l0_0 t142).f1))))))=true:=decide_eq_true c15
  clear c15
  simp only [Option.some.injEq,Prod.mk.injEq] at H
  obtain ⟨rfl,rfl,rfl⟩:=H
  obtain ⟨Ao16,co16,eo16⟩:=Kd.R_slice Ba.out
  subst eo16
  go_enter Try.func44,Try.ntmps44
  try go_wp2_with (first|((with_reducible refine gate_dst (N:=1) rfl ?_);refine box_event ?hg (N:=1) ?hd (cs:=#[.slice Ao16 l0_0.length co16,.int .i64 a0_1]) (t:=25) ?hr ?_;(case hd=>rfl);(case hg=>rfl);(case hr=>first|(go_simp;done)|(go_simp;rfl));intro Bd hg w17 hbox hb;have n0_:=Am (rB (rL Ba.out) hb);have n1_:=Am (Kept.below (S:=(fun k_=>P0_0_ k_)) (by repeat (first|(with_reducible first|exact HK.out|apply Kept.alloc|apply Kept.drewN|apply Kept.drew)|exact HK.out)) hb);have n2_:=Am (bP (by repeat (first|(with_reducible first|exact HB.out|apply oA|apply pN|apply o1)|exact HB.out)) hb);have n3_:=Am (hbox);have n4_:=Am ((by rw [hg];exact (by first|exact HK.out.1|exact (show Kept w _ (fun k_=>P0_0_ k_) from by repeat (first|(with_reducible first|exact HK.out|apply Kept.alloc|apply Kept.drewN|apply Kept.drew)|exact HK.out)).1):w.heap.size≤Bd));have n5_:=Am ((by rw [hg];exact (bZ (by repeat (first|(with_reducible first|exact HB.out|apply oA|apply pN|apply o1)|exact HB.out))):w0.heap.size≤Bd));clear Ba HK HB;revert n0_ n1_ n2_ n3_ n4_ n5_;intro Ba HK HB Bb Bg Bi;clear hb hbox hg)|((with_reducible refine gate_dst (N:=2) rfl ?_);refine box_event ?hg (N:=2) ?hd (cs:=#[.slice none 0 0,.int .i64 0]) (t:=25) ?hr ?_;(case hd=>rfl);(case hg=>rfl);(case hr=>first|(go_simp;done)|(go_simp;rfl));intro Be hg w18 hbox hb;have n0_:=Am (rB (rL Ba.out) hb);have n1_:=Am (bX Bb.out hb);have n2_:=Am (Kept.below (S:=(fun k_=>P0_0_ k_)) (by repeat (first|(with_reducible first|exact HK.out|apply Kept.alloc|apply Kept.drewN|apply Kept.drew|refine Kept.setCell ?_ (.inr Bg.out) _)|exact HK.out)) hb);have n3_:=Am (bP (by repeat (first|(with_reducible first|exact HB.out|apply oA|apply pN|apply o1|refine bS ?_ Bi.out)|exact HB.out)) hb);have n4_:=Am (hbox);have n5_:=Am ((by rw [hg];exact (by first|exact HK.out.1|exact (show Kept w _ (fun k_=>P0_0_ k_) from by repeat (first|(with_reducible first|exact HK.out|apply Kept.alloc|apply Kept.drewN|apply Kept.drew|refine Kept.setCell ?_ (.inr Bg.out) _)|exact HK.out)).1):w.heap.size≤Be));have n6_:=Am ((by rw [hg];exact (bZ (by repeat (first|(with_reducible first|exact HB.out|apply oA|apply pN|apply o1|refine bS ?_ Bi.out)|exact HB.out))):w0.heap.size≤Be));have n7_:=Am ((nL Bb.out hg));have n8_:=Am ((nG Bb.out hg));clear Ba Bb HK HB;revert n0_ n1_ n2_ n3_ n4_ n5_ n6_ n7_ n8_;intro Ba Bb HK HB Bc Bj Bk Bf Bh;clear hb hbox hg;have BS:=Bf.out;have BT:=Bh.out;have Bu:=cz0 Bb.out;have Bv:=cz1 Bb.out;have Bw:=bF Bb.out 0;have Bx:=bF Bb.out 1)|((with_reducible refine gate_callee (f:=51) rfl ?_);refine goesL_ (some 7) rfl rfl Try.func51 (by kernel_rfl) rfl #[.agg #[.slice Ao16 l0_0.length co16,.int .i64 a0_1]] rfl (by (try simp only [lM,lC,lN]);first|done|rfl|(simp only [lD,lT];rfl)) ?_;(with_reducible refine (spec_l11Next.calls k _ _ l0_0 a0_1 t142 _ ?side1 ?side2 A2.out).mono ?_);(case side1=>exact cL (Kd.R_reads' Ba.out).2.2);(case side2=>exact (Kd.R_reads' Ba.out).2.1);rintro e w21 ⟨rfl,hb⟩;refine ⟨_,rfl,?_⟩;have n0_:=Am (rB (rL Ba.out) hb);have n1_:=Am (bX Bb.out hb);have n2_:=Am (bX Bc.out hb);have n3_:=Am (Kept.below (S:=(fun k_=>P0_0_ k_)) (by repeat (first|(with_reducible first|exact HK.out|apply Kept.alloc|apply Kept.drewN|apply Kept.drew|refine Kept.setCell ?_ (.inr Bg.out) _|refine Kept.setCell ?_ (.inr Bj.out) _)|exact HK.out)) hb);have n4_:=Am (bP (by repeat (first|(with_reducible first|exact HB.out|apply oA|apply pN|apply o1|refine bS ?_ Bi.out|refine bS ?_ Bk.out)|exact HB.out)) hb);clear Ba Bb Bc HK HB;revert n0_ n1_ n2_ n3_ n4_;intro Ba Bb Bc HK HB;(try clear hb);(try clear hb2);(try clear hk);(try clear hi)))
  have n0_:=Am (rD Ba.out)
  have n1_:=Am (bD Bb.out)
  have n2_:=Am (bD Bc.out)
  have n3_:=Am (Kept.drew HK.out)
  have n4_:=Am (o1 HB.out)
  clear Ba
  clear Bb
  clear Bc
  clear HK
  clear HB
  have Ba:=n0_
  have Bb:=n1_
  have Bc:=n2_
  have HK:=n3_
  have HB:=n4_
  clear n0_ n1_ n2_ n3_ n4_
  have p143:0≤(t142:Int):=of_decide_eq_true (by first|(with_reducible assumption)|assumption)
  have q143:t142<(l0_0.length:Int):=of_decide_eq_true (by first|(with_reducible assumption)|assumption)
  obtain ⟨ad143,e143,hx143_0,hx143_1,hx143_2,hx143_3⟩:=at_T40 (Kd.R_reads' Ba.out).2.2 t142 p143 q143
  cases e143
  replace p143:=eq_true p143
  replace q143:=eq_true q143
  have p144:0≤(t142:Int):=of_decide_eq_true (by first|(with_reducible assumption)|assumption)
  have q144:t142<(l0_0.length:Int):=of_decide_eq_true (by first|(with_reducible assumption)|assumption)
  obtain ⟨ad144,e144,hx144_0,hx144_1,hx144_2,hx144_3⟩:=at_T40 (Kd.R_reads' Ba.out).2.2 t142 p144 q144
  obtain rfl:ad143=ad144:=(by injection e144)
  replace p144:=eq_true p144
  replace q144:=eq_true q144
  refine start_ (n:=15) (S:=fun w'=>w'.cell? ⟨Bd,0,none⟩=some (.slice (some ad143) l0_0.length co16)∧w'.cell? ⟨Bd,1,none⟩=some (.int .i64 a0_1)∧w'.cell? (ad143.add ((t142).toNat * 4))=some (.int .i64 ((rd_T40 l0_0 t142).f0))∧w'.cell? ⟨(ad143.add ((t142).toNat * 4)).block,(ad143.add ((t142).toNat * 4)).off + 1,none⟩=some (.int .i64 ((rd_T40 l0_0 t142).f1))∧w'.cell? ⟨(ad143.add ((t142).toNat * 4)).block,(ad143.add ((t142).toNat * 4)).off + 2,none⟩=some (.int .i64 ((rd_T40 l0_0 t142).f2))∧w'.cell? ⟨(ad143.add ((t142).toNat * 4)).block,(ad143.add ((t142).toNat * 4)).off + 3,none⟩=some (.bool ((rd_T40 l0_0 t142).f3))∧w'.cell? (ad143.add ((t142).toNat * 4))=some (.int .i64 ((rd_T40 l0_0 t142).f0))∧w'.cell? ⟨(ad143.add ((t142).toNat * 4)).block,(ad143.add ((t142).toNat * 4)).off + 1,none⟩=some (.int .i64 ((rd_T40 l0_0 t142).f1))∧w'.cell? ⟨(ad143.add ((t142).toNat * 4)).block,(ad143.add ((t142).toNat * 4)).off + 2,none⟩=some (.int .i64 ((rd_T40 l0_0 t142).f2))∧w'.cell? ⟨(ad143.add ((t142).toNat * 4)).block,(ad143.add ((t142).toNat * 4)).off + 3,none⟩=some (.bool ((rd_T40 l0_0 t142).f3))) (ds:=[]) z44q0 (by kernel_rfl) rfl rfl ⟨(bC Bb.out 0).trans rfl,(bC Bb.out 1).trans rfl,hx143_0,hx143_1,hx143_2,hx143_3,hx144_0,hx144_1,hx144_2,hx144_3⟩ (fun hHeld=>?_);refine with_st spec_l11Tick.tab4 spec_l11Tick.bits4 (fun _ _ _ _ _ h=>h) (fun HT_=>?_)
  generalize w21.drew=w22 at Ba Bb Bc HK HB hx143_0 hx143_1 hx143_2 hx143_3 hx144_0 hx144_1 hx144_2 hx144_3 hHeld ⊢
  refine pS 0 11 z44q1 HT_ rfl rfl (by kernel_rfl) (by rfl) (by intro w';go_simp;with_reducible rfl) (by simp only [Act.put,lA,lZ,lS,iw,jw];rfl) ?_
  refine pS 2 13 z44q2 HT_ rfl rfl (by kernel_rfl) (by rfl) (by intro w';go_simp;with_reducible rfl) (by simp only [Act.put,lA,lZ,lS,iw,jw];rfl) ?_
  refine pS 6 17 z44q3 HT_ rfl rfl (by kernel_rfl) (by rfl) (by intro w';go_simp;with_reducible rfl) (by simp only [Act.put,lA,lZ,lS,iw,jw];rfl) ?_
  refine pS 8 19 z44q4 HT_ rfl rfl (by kernel_rfl) (by rfl) (by intro w';go_simp;with_reducible rfl) (by simp only [Act.put,lA,lZ,lS,iw,jw];rfl) ?_
  refine tS 1 12 z44q5 HT_ hHeld rfl rfl (by kernel_rfl) (by rfl) (by rintro w' ⟨s0,s1,s2,s3,s4,s5,s6,s7,s8,s9⟩;go_simp;with_reducible rfl) (by simp only [Act.put,lA,lZ,lS,iw,jw];rfl) ?_
  refine pS 3 14 z44q6 HT_ rfl rfl (by kernel_rfl) (by rfl) (by intro w';go_simp;with_reducible rfl) (by simp only [Act.put,lA,lZ,lS,iw,jw];rfl) ?_
  refine pS 4 15 z44q7 HT_ rfl rfl (by kernel_rfl) (by rfl) (by intro w';go_simp;with_reducible rfl) (by simp only [Act.put,lA,lZ,lS,iw,jw];rfl) ?_
  refine tS 5 16 z44q8 HT_ hHeld rfl rfl (by kernel_rfl) (by rfl) (by rintro w' ⟨s0,s1,s2,s3,s4,s5,s6,s7,s8,s9⟩;go_simp;with_reducible rfl) (by simp only [Act.put,lA,lZ,lS,iw,jw];rfl) ?_
  refine tS 7 18 z44q9 HT_ hHeld rfl rfl (by kernel_rfl) (by rfl) (by rintro w' ⟨s0,s1,s2,s3,s4,s5,s6,s7,s8,s9⟩;go_simp;with_reducible rfl) (by simp only [Act.put,lA,lZ,lS,iw,jw];rfl) ?_
  refine pS 9 20 z44q10 HT_ rfl rfl (by kernel_rfl) (by rfl) (by intro w';go_simp;with_reducible rfl) (by simp only [Act.put,lA,lZ,lS,iw,jw];rfl) ?_
  refine pS 10 21 z44q11 HT_ rfl rfl (by kernel_rfl) (by rfl) (by intro w';go_simp;with_reducible rfl) (by simp only [Act.put,lA,lZ,lS,iw,jw];rfl) ?_
  refine tS 11 22 z44q12 HT_ hHeld rfl rfl (by kernel_rfl) (by rfl) (by rintro w' ⟨s0,s1,s2,s3,s4,s5,s6,s7,s8,s9⟩;go_simp;with_reducible rfl) (by simp only [Act.put,lA,lZ,lS,iw,jw];rfl) ?_
  refine pS 12 23 z44q13 HT_ rfl rfl (by kernel_rfl) (by rfl) (by intro w';go_simp;with_reducible rfl) (by simp only [Act.put,lA,lZ,lS,iw,jw];rfl) ?_
  refine pS 13 24 z44q14 HT_ rfl rfl (by kernel_rfl) (by rfl) (by intro w';go_simp;with_reducible rfl) (by simp only [Act.put,lA,lZ,lS,iw,jw];rfl) ?_
  refine pS 14 5 z44q15 HT_ rfl rfl (by kernel_rfl) (by rfl) (by intro w';go_simp;with_reducible rfl) (by simp only [Act.put,lA,lZ,lS,iw,jw];rfl) ?_
  refine done_ (done_of HT_.out (by kernel_rfl)) ?_
  have By:=cz0 Bb.out
  have Bz:=cz1 Bb.out
  have BA:=bF Bb.out 0
  have BB:=bF Bb.out 1
  have BC:=cz0 Bc.out
  have BD:=cz1 Bc.out
  have BE:=bF Bc.out 0
  have BF:=bF Bc.out 1
  try go_wp2
  refine bodyPost_ret (results_ct rfl _ _ Be 25 #[.slice (some ad143) l0_0.length co16,.int .i64 a0_1] (0,0) _ rfl (by (with_reducible repeat (first|refine bN ?_ _|refine bD ?_|refine bA ?_ _));refine blk_put (cs:=#[.slice (some ad143) l0_0.length co16,.int .i64 0]) ?_ 1 _ rfl;(with_reducible repeat (first|refine bN ?_ _|refine bD ?_|refine bA ?_ _));refine blk_put (cs:=#[.slice none 0 0,.int .i64 0]) ?_ 0 _ rfl;(with_reducible repeat (first|refine bN ?_ _|refine bD ?_|refine bA ?_ _));exact Bc.out) Try.underlying25 rfl (by kernel_rfl)) rfl ?_
  exact ⟨_,by first|rfl|(simp [errW_none,errW_some] <;> rfl)|(simp [*,errW_none,errW_some] <;> rfl),by (with_reducible repeat (first|apply rA|apply rN|apply rD));exact rM (rF (p:=⟨Be,1,none⟩) (rF (p:=⟨Be,0,none⟩) (rT Ba.out Bc.out (by decide)) (fun _ hk=>hk.2) (.slice (some ad143) l0_0.length co16)) (fun _ hk=>hk.2) (.int .i64 a0_1)) (fun _ hk=>hk.1),by repeat (first|(with_reducible first|exact HB.out|apply oA|apply pN|apply o1|refine bS ?_ Bi.out|refine bS ?_ Bk.out)|exact HB.out),by repeat (first|(with_reducible first|exact HK.out|apply Kept.alloc|apply Kept.drewN|apply Kept.drew|refine Kept.setCell ?_ (.inr Bg.out) _|refine Kept.setCell ?_ (.inr Bj.out) _)|exact HK.out)⟩
 rw [if_neg c15] at H
 have c15b0:decide (1000000<(wrap64 (((rd_T40 l0_0 t142).f2) + (wrap64 (Int.tdiv (60:Int) ((rd_T40 l0_0 t142).f1))))))=false:=decide_eq_false c15
 clear c15
 obtain ⟨y145,hy145⟩:∃ y_:List (S40),y_=(l0_0.set (t142:Int).toNat (⟨(rd_T40 l0_0 t142).f0,(rd_T40 l0_0 t142).f1,wrap64 (((rd_T40 l0_0 t142).f2) + (wrap64 (Int.tdiv (60:Int) ((rd_T40 l0_0 t142).f1)))),(rd_T40 l0_0 t142).f3⟩:S40)):=⟨_,rfl⟩
 replace H:((spec_l11Next.f k y145 a0_1).bind fun t146=>(if 0≤t146 then (if t146<(l0_0.length:Int) then (some (y145,mx a0_1 ((rd_T40 y145 t146).f2),(rd_T40 y145 t142).f0)) else (none)) else (none)))=some (r1,r2,r3):=by first|(rw [hy145];with_reducible exact H)|(have H2_:=(Option.bind_some _ _).symm.trans H;rw [hy145];with_reducible exact H2_)|(have H2_:=(Option.bind_some _ _).symm.trans H;with_reducible exact H2_)|with_reducible exact H|(rw [hy145];exact H)|exact H
 have Ny145:=Am hy145
 clear hy145
 replace H:=oC H
 obtain ⟨t146,A260,H⟩:=H
 replace H:(if 0≤t146 then (if t146<(l0_0.length:Int) then (some (y145,mx a0_1 ((rd_T40 y145 t146).f2),(rd_T40 y145 t142).f0)) else (none)) else (none))=some (r1,r2,r3):=H
 have A26:=Am A260
 clear A260
 by_cases c27:0≤t146
 rotate_left
 ·rw [if_neg c27] at H
  exact absurd H (by simp)
 rw [if_pos c27] at H
 have c27b0:decide (0≤t146)=true:=decide_eq_true c27
 clear c27
 by_cases c28:t146<(l0_0.length:Int)
 rotate_left
 ·rw [if_neg c28] at H
  exact absurd H (by simp)
 rw [if_pos c28] at H
 have c28b0:decide (t146<(l0_0.length:Int))=true:=decide_eq_true c28
 clear c28
 obtain ⟨ji29,hji29⟩:∃ j_:Int,(mx a0_1 ((rd_T40 y145 t146).f2))=j_:=⟨_,rfl⟩
 replace H:(some (y145,ji29,(rd_T40 y145 t142).f0))=some (r1,r2,r3):=by first|(rw [hji29] at H;exact H)|(simp only [hji29] at H ⊢;exact H)
 (try rw [hji29] at A2)
 (try rw [hji29] at A26)
 have hji29_:(if a0_1<((rd_T40 y145 t146).f2) then ((rd_T40 y145 t146).f2) else a0_1)=ji29:=hji29
 simp only [Option.some.injEq,Prod.mk.injEq] at H
 obtain ⟨rfl,rfl,rfl⟩:=H
 obtain ⟨Ao30,co30,eo30⟩:=Kd.R_slice Ba.out
 subst eo30
 go_enter Try.func44,Try.ntmps44
 try go_wp2_with (first|((with_reducible refine gate_dst (N:=1) rfl ?_);refine box_event ?hg (N:=1) ?hd (cs:=#[.slice Ao30 l0_0.length co30,.int .i64 a0_1]) (t:=25) ?hr ?_;(case hd=>rfl);(case hg=>rfl);(case hr=>first|(go_simp;done)|(go_simp;rfl));intro Bd hg w31 hbox hb;have n0_:=Am (rB (rL Ba.out) hb);have n1_:=Am (Kept.below (S:=(fun k_=>P0_0_ k_)) (by repeat (first|(with_reducible first|exact HK.out|apply Kept.alloc|apply Kept.drewN|apply Kept.drew)|exact HK.out)) hb);have n2_:=Am (bP (by repeat (first|(with_reducible first|exact HB.out|apply oA|apply pN|apply o1)|exact HB.out)) hb);have n3_:=Am (hbox);have n4_:=Am ((by rw [hg];exact (by first|exact HK.out.1|exact (show Kept w _ (fun k_=>P0_0_ k_) from by repeat (first|(with_reducible first|exact HK.out|apply Kept.alloc|apply Kept.drewN|apply Kept.drew)|exact HK.out)).1):w.heap.size≤Bd));have n5_:=Am ((by rw [hg];exact (bZ (by repeat (first|(with_reducible first|exact HB.out|apply oA|apply pN|apply o1)|exact HB.out))):w0.heap.size≤Bd));clear Ba HK HB;revert n0_ n1_ n2_ n3_ n4_ n5_;intro Ba HK HB Bb Bg Bi;clear hb hbox hg)|((with_reducible refine gate_dst (N:=2) rfl ?_);refine box_event ?hg (N:=2) ?hd (cs:=#[.slice none 0 0,.int .i64 0]) (t:=25) ?hr ?_;(case hd=>rfl);(case hg=>rfl);(case hr=>first|(go_simp;done)|(go_simp;rfl));intro Be hg w32 hbox hb;have n0_:=Am (rB (rL Ba.out) hb);have n1_:=Am (bX Bb.out hb);have n2_:=Am (Kept.below (S:=(fun k_=>P0_0_ k_)) (by repeat (first|(with_reducible first|exact HK.out|apply Kept.alloc|apply Kept.drewN|apply Kept.drew|refine Kept.setCell ?_ (.inr Bg.out) _)|exact HK.out)) hb);have n3_:=Am (bP (by repeat (first|(with_reducible first|exact HB.out|apply oA|apply pN|apply o1|refine bS ?_ Bi.out)|exact HB.out)) hb);have n4_:=Am (hbox);have n5_:=Am ((by rw [hg];exact (by first|exact HK.out.1|exact (show Kept w _ (fun k_=>P0_0_ k_) from by repeat (first|(with_reducible first|exact HK.out|apply Kept.alloc|apply Kept.drewN|apply Kept.drew|refine Kept.setCell ?_ (.inr Bg.out) _)|exact HK.out)).1):w.heap.size≤Be));have n6_:=Am ((by rw [hg];exact (bZ (by repeat (first|(with_reducible first|exact HB.out|apply oA|apply pN|apply o1|refine bS ?_ Bi.out)|exact HB.out))):w0.heap.size≤Be));have n7_:=Am ((nL Bb.out hg));have n8_:=Am ((nG Bb.out hg));clear Ba Bb HK HB;revert n0_ n1_ n2_ n3_ n4_ n5_ n6_ n7_ n8_;intro Ba Bb HK HB Bc Bj Bk Bf Bh;clear hb hbox hg;have BU:=Bf.out;have BV:=Bh.out;have BG:=cz0 Bb.out;have BH:=cz1 Bb.out;have BI:=bF Bb.out 0;have BJ:=bF Bb.out 1)|((with_reducible refine gate_callee (f:=51) rfl ?_);refine goesL_ (some 7) rfl rfl Try.func51 (by kernel_rfl) rfl #[.agg #[.slice Ao30 l0_0.length co30,.int .i64 a0_1]] rfl (by (try simp only [lM,lC,lN]);first|done|rfl|(simp only [lD,lT];rfl)) ?_;(with_reducible refine (spec_l11Next.calls k _ _ l0_0 a0_1 t142 _ ?side1 ?side2 A2.out).mono ?_);(case side1=>exact cL (Kd.R_reads' Ba.out).2.2);(case side2=>exact (Kd.R_reads' Ba.out).2.1);rintro e w35 ⟨rfl,hb⟩;refine ⟨_,rfl,?_⟩;have n0_:=Am (rB (rL Ba.out) hb);have n1_:=Am (bX Bb.out hb);have n2_:=Am (bX Bc.out hb);have n3_:=Am (Kept.below (S:=(fun k_=>P0_0_ k_)) (by repeat (first|(with_reducible first|exact HK.out|apply Kept.alloc|apply Kept.drewN|apply Kept.drew|refine Kept.setCell ?_ (.inr Bg.out) _|refine Kept.setCell ?_ (.inr Bj.out) _)|exact HK.out)) hb);have n4_:=Am (bP (by repeat (first|(with_reducible first|exact HB.out|apply oA|apply pN|apply o1|refine bS ?_ Bi.out|refine bS ?_ Bk.out)|exact HB.out)) hb);clear Ba Bb Bc HK HB;revert n0_ n1_ n2_ n3_ n4_;intro Ba Bb Bc HK HB;(try clear hb);(try clear hb2);(try clear hk);(try clear hi)))
 have n0_:=Am (rD Ba.out)
 have n1_:=Am (bD Bb.out)
 have n2_:=Am (bD Bc.out)
 have n3_:=Am (Kept.drew HK.out)
 have n4_:=Am (o1 HB.out)
 clear Ba
 clear Bb
 clear Bc
 clear HK
 clear HB
 have Ba:=n0_
 have Bb:=n1_
 have Bc:=n2_
 have HK:=n3_
 have HB:=n4_
 clear n0_ n1_ n2_ n3_ n4_
 have p143:0≤(t142:Int):=of_decide_eq_true (by first|(with_reducible assumption)|assumption)
 have q143:t142<(l0_0.length:Int):=of_decide_eq_true (by first|(with_reducible assumption)|assumption)
 obtain ⟨ad143,e143,hx143_0,hx143_1,hx143_2,hx143_3⟩:=at_T40 (Kd.R_reads' Ba.out).2.2 t142 p143 q143
 cases e143
 replace p143:=eq_true p143
 replace q143:=eq_true q143
 have p144:0≤(t142:Int):=of_decide_eq_true (by first|(with_reducible assumption)|assumption)
 have q144:t142<(l0_0.length:Int):=of_decide_eq_true (by first|(with_reducible assumption)|assumption)
 obtain ⟨ad144,e144,hx144_0,hx144_1,hx144_2,hx144_3⟩:=at_T40 (Kd.R_reads' Ba.out).2.2 t142 p144 q144
 obtain rfl:ad143=ad144:=(by injection e144)
 replace p144:=eq_true p144
 replace q144:=eq_true q144
 refine start_ (n:=15) (S:=fun w'=>w'.cell? ⟨Bd,0,none⟩=some (.slice (some ad143) l0_0.length co30)∧w'.cell? ⟨Bd,1,none⟩=some (.int .i64 a0_1)∧w'.cell? (ad143.add ((t142).toNat * 4))=some (.int .i64 ((rd_T40 l0_0 t142).f0))∧w'.cell? ⟨(ad143.add ((t142).toNat * 4)).block,(ad143.add ((t142).toNat * 4)).off + 1,none⟩=some (.int .i64 ((rd_T40 l0_0 t142).f1))∧w'.cell? ⟨(ad143.add ((t142).toNat * 4)).block,(ad143.add ((t142).toNat * 4)).off + 2,none⟩=some (.int .i64 ((rd_T40 l0_0 t142).f2))∧w'.cell? ⟨(ad143.add ((t142).toNat * 4)).block,(ad143.add ((t142).toNat * 4)).off + 3,none⟩=some (.bool ((rd_T40 l0_0 t142).f3))∧w'.cell? (ad143.add ((t142).toNat * 4))=some (.int .i64 ((rd_T40 l0_0 t142).f0))∧w'.cell? ⟨(ad143.add ((t142).toNat * 4)).block,(ad143.add ((t142).toNat * 4)).off + 1,none⟩=some (.int .i64 ((rd_T40 l0_0 t142).f1))∧w'.cell? ⟨(ad143.add ((t142).toNat * 4)).block,(ad143.add ((t142).toNat * 4)).off + 2,none⟩=some (.int .i64 ((rd_T40 l0_0 t142).f2))∧w'.cell? ⟨(ad143.add ((t142).toNat * 4)).block,(ad143.add ((t142).toNat * 4)).off + 3,none⟩=some (.bool ((rd_T40 l0_0 t142).f3))) (ds:=[]) z44q0 (by kernel_rfl) rfl rfl ⟨(bC Bb.out 0).trans rfl,(bC Bb.out 1).trans rfl,hx143_0,hx143_1,hx143_2,hx143_3,hx144_0,hx144_1,hx144_2,hx144_3⟩ (fun hHeld=>?_);refine with_st spec_l11Tick.tab4 spec_l11Tick.bits4 (fun _ _ _ _ _ h=>h) (fun HT_=>?_)
 generalize w35.drew=w36 at Ba Bb Bc HK HB hx143_0 hx143_1 hx143_2 hx143_3 hx144_0 hx144_1 hx144_2 hx144_3 hHeld ⊢
 refine pS 0 11 z44q1 HT_ rfl rfl (by kernel_rfl) (by rfl) (by intro w';go_simp;with_reducible rfl) (by simp only [Act.put,lA,lZ,lS,iw,jw];rfl) ?_
 refine pS 2 13 z44q2 HT_ rfl rfl (by kernel_rfl) (by rfl) (by intro w';go_simp;with_reducible rfl) (by simp only [Act.put,lA,lZ,lS,iw,jw];rfl) ?_
 refine pS 6 17 z44q3 HT_ rfl rfl (by kernel_rfl) (by rfl) (by intro w';go_simp;with_reducible rfl) (by simp only [Act.put,lA,lZ,lS,iw,jw];rfl) ?_
 refine pS 8 19 z44q4 HT_ rfl rfl (by kernel_rfl) (by rfl) (by intro w';go_simp;with_reducible rfl) (by simp only [Act.put,lA,lZ,lS,iw,jw];rfl) ?_
 refine tS 1 12 z44q5 HT_ hHeld rfl rfl (by kernel_rfl) (by rfl) (by rintro w' ⟨s0,s1,s2,s3,s4,s5,s6,s7,s8,s9⟩;go_simp;with_reducible rfl) (by simp only [Act.put,lA,lZ,lS,iw,jw];rfl) ?_
 refine pS 3 14 z44q6 HT_ rfl rfl (by kernel_rfl) (by rfl) (by intro w';go_simp;with_reducible rfl) (by simp only [Act.put,lA,lZ,lS,iw,jw];rfl) ?_
 refine pS 4 15 z44q7 HT_ rfl rfl (by kernel_rfl) (by rfl) (by intro w';go_simp;with_reducible rfl) (by simp only [Act.put,lA,lZ,lS,iw,jw];rfl) ?_
 refine tS 5 16 z44q8 HT_ hHeld rfl rfl (by kernel_rfl) (by rfl) (by rintro w' ⟨s0,s1,s2,s3,s4,s5,s6,s7,s8,s9⟩;go_simp;with_reducible rfl) (by simp only [Act.put,lA,lZ,lS,iw,jw];rfl) ?_
 refine tS 7 18 z44q9 HT_ hHeld rfl rfl (by kernel_rfl) (by rfl) (by rintro w' ⟨s0,s1,s2,s3,s4,s5,s6,s7,s8,s9⟩;go_simp;with_reducible rfl) (by simp only [Act.put,lA,lZ,lS,iw,jw];rfl) ?_
 refine pS 9 20 z44q10 HT_ rfl rfl (by kernel_rfl) (by rfl) (by intro w';go_simp;with_reducible rfl) (by simp only [Act.put,lA,lZ,lS,iw,jw];rfl) ?_
 refine pS 10 21 z44q11 HT_ rfl rfl (by kernel_rfl) (by rfl) (by intro w';go_simp;with_reducible rfl) (by simp only [Act.put,lA,lZ,lS,iw,jw];rfl) ?_
 refine tS 11 22 z44q12 HT_ hHeld rfl rfl (by kernel_rfl) (by rfl) (by rintro w' ⟨s0,s1,s2,s3,s4,s5,s6,s7,s8,s9⟩;go_simp;with_reducible rfl) (by simp only [Act.put,lA,lZ,lS,iw,jw];rfl) ?_
 refine pS 12 23 z44q13 HT_ rfl rfl (by kernel_rfl) (by rfl) (by intro w';go_simp;with_reducible rfl) (by simp only [Act.put,lA,lZ,lS,iw,jw];rfl) ?_
 refine pS 13 24 z44q14 HT_ rfl rfl (by kernel_rfl) (by rfl) (by intro w';go_simp;with_reducible rfl) (by simp only [Act.put,lA,lZ,lS,iw,jw];rfl) ?_
 refine pS 14 5 z44q15 HT_ rfl rfl (by kernel_rfl) (by rfl) (by intro w';go_simp;with_reducible rfl) (by simp only [Act.put,lA,lZ,lS,iw,jw];rfl) ?_
 refine done_ (done_of HT_.out (by kernel_rfl)) ?_
 have BK:=cz0 Bb.out
 have BL:=cz1 Bb.out
 have BM:=bF Bb.out 0
 have BN:=bF Bb.out 1
 have p25:0≤(t142:Int):=of_decide_eq_true (by first|(with_reducible assumption)|assumption)
 have q25:(t142:Int)<((l0_0.length:Int):Int):=of_decide_eq_true (by first|(with_reducible assumption)|assumption)
 obtain ⟨go25,co25,eo25,Bl,gl25,cl25,HG25⟩:=Kd.R_form Ba.out (by omega)
 (first|cases eo25|(injection eo25 with ea_ en_ ec_;(first|subst ea_|(injection ea_ with ea_;subst ea_));subst ec_;clear en_))
 have GB25:=Am Bl
 have GG25:=Am HG25
 clear Bl gl25 HG25
 have HMgo25:=Am (show (P0_0_ go25∨w.heap.size≤go25) from (Ba.out.1 _ rfl))
 (first|simp only [add_plain] at hx143_0|skip)
 (first|simp only [add_plain] at hx143_1|skip)
 (first|simp only [add_plain] at hx143_2|skip)
 (first|simp only [add_plain] at hx143_3|skip)
 (first|simp only [add_plain] at hx144_0|skip)
 (first|simp only [add_plain] at hx144_1|skip)
 (first|simp only [add_plain] at hx144_2|skip)
 (first|simp only [add_plain] at hx144_3|skip)
 obtain ⟨ce25,hcl25,hM25,hcc25,hfr25⟩:=Kd.R_elem Ba.out z40 (t142:Int) p25 q25
 obtain rfl:=k40_openM hM25
 have hx25_0:w36.cell? ⟨go25,(t142:Int).toNat * 4,none⟩=some (.int .i64 ((rd_T40 l0_0 t142).f0)):=hcc25 0 _ rfl
 have hx25_1:w36.cell? ⟨go25,(t142:Int).toNat * 4 + 1,none⟩=some (.int .i64 ((rd_T40 l0_0 t142).f1)):=hcc25 1 _ rfl
 have hx25_2:w36.cell? ⟨go25,(t142:Int).toNat * 4 + 2,none⟩=some (.int .i64 ((rd_T40 l0_0 t142).f2)):=hcc25 2 _ rfl
 have hx25_3:w36.cell? ⟨go25,(t142:Int).toNat * 4 + 3,none⟩=some (.bool ((rd_T40 l0_0 t142).f3)):=hcc25 3 _ rfl
 have hf25_0:w36.frozen? ⟨go25,(t142:Int).toNat * 4,none⟩=false:=hfr25 0
 have hf25_1:w36.frozen? ⟨go25,(t142:Int).toNat * 4 + 1,none⟩=false:=hfr25 1
 have hf25_2:w36.frozen? ⟨go25,(t142:Int).toNat * 4 + 2,none⟩=false:=hfr25 2
 have hf25_3:w36.frozen? ⟨go25,(t142:Int).toNat * 4 + 3,none⟩=false:=hfr25 3
 clear hcl25 hcc25 hfr25 hM25
 replace p25:=eq_true p25
 replace q25:=eq_true q25
 have HX38:=Am (show Kd.R k40 40 w36 w0.heap.size (fun k_=>(P0_0_ k_∨w.heap.size≤k_)) (.slice (some ⟨go25,0,none⟩) l0_0.length co30) l0_0 from (rL Ba.out))
 obtain ⟨ce38,hcl38,hM38,hcc38,hfr38⟩:=Kd.R_elem HX38.out z40 (t142:Int) (of_decide_eq_true (by first|(with_reducible assumption)|assumption)) (by have h_:(t142:Int)<((l0_0.length:Int):Int):=of_decide_eq_true (by first|(with_reducible assumption)|assumption);first|exact h_|(have e_:=(Kd.R_reads' Ba.out).1;omega)|simpa using h_)
 obtain rfl:=k40_openM hM38
 have HP38:=Kd.R_seg HX38.out (t142:Int) (of_decide_eq_true (by first|(with_reducible assumption)|assumption)) (by have h_:(t142:Int)<((l0_0.length:Int):Int):=of_decide_eq_true (by first|(with_reducible assumption)|assumption);first|exact h_|(have e_:=(Kd.R_reads' Ba.out).1;omega)|simpa using h_) (seg:=[.int .i64 (wrap64 (((rd_T40 l0_0 t142).f2) + (wrap64 (Int.tdiv (60:Int) ((rd_T40 l0_0 t142).f1)))))]) (j:=2) hcl38 hcc38 (show 3≤4 from by decide) (x':=(⟨(rd_T40 l0_0 t142).f0,(rd_T40 l0_0 t142).f1,wrap64 (((rd_T40 l0_0 t142).f2) + (wrap64 (Int.tdiv (60:Int) ((rd_T40 l0_0 t142).f1)))),(rd_T40 l0_0 t142).f3⟩:S40)) (k40_mkM _ _ _ (⟨(rd_T40 l0_0 t142).f0,(rd_T40 l0_0 t142).f1,wrap64 (((rd_T40 l0_0 t142).f2) + (wrap64 (Int.tdiv (60:Int) ((rd_T40 l0_0 t142).f1)))),(rd_T40 l0_0 t142).f3⟩:S40) ) (fun _ hk=>hk)
 have hx38_2:=hcc38 2 _ rfl
 (try simp only [show (k40).sz=4 from rfl,Nat.mul_one,Nat.add_zero] at hx38_2)
 have hf38_2:=hfr38 2
 (try simp only [show (k40).sz=4 from rfl,Nat.mul_one,Nat.add_zero] at hf38_2)
 clear hcl38 hcc38 hfr38 hM38
 try go_wp2_with (first|((with_reducible refine gate_store (t:=3) (p:=33) rfl ?_);refine store_event (t:=3) (p:=33) (v:=?vo_w39) (w1:=(w36.setCell ⟨go25,(t142:Int).toNat * 4 + 2,none⟩ (.int .i64 (wrap64 (((rd_T40 l0_0 t142).f2) + (wrap64 (Int.tdiv (60:Int) ((rd_T40 l0_0 t142).f1)))))))) ?hg ?ho ?hn ?hr ?_;(case ho=>rfl);(case hg=>rfl);(case hn=>rfl);(case hr=>first|(go_simp;done)|(go_simp;rfl));intro w39 hw;have hg:w36.grownBy w39 (some go25):=(by rw [hw];exact HP38.2);have hp_:Kd.R k40 40 w39 w0.heap.size (fun k_=>(P0_0_ k_∨w.heap.size≤k_)) (.slice (some ⟨go25,0,none⟩) l0_0.length co30) y145:=(by rw [hw,Ny145.out];exact HP38.1);clear HP38;have n0_:=Am (hp_);have n1_:=Am (blk_grown (g:=Bd) (o:=.cells #[.slice (some ⟨go25,0,none⟩) l0_0.length co30,.int .i64 a0_1] 25 (0,0)) (bL Bb.out) hg (Kd.R_ne Ba.out Bb.out (by decide)));have n2_:=Am (blk_grown (g:=Be) (o:=.cells #[.slice none 0 0,.int .i64 0] 25 (0,0)) (bL Bc.out) hg (Kd.R_ne Ba.out Bc.out (by decide)));have n3_:=Am ((by rw [hw];exact bS (HB.out) GB25.out:Below w0.heap.size w0 w39));have n4_:=Am (Kept.of_grown (S:=(fun k_=>P0_0_ k_)) hg (by repeat (first|(with_reducible first|exact HK.out|apply Kept.alloc|apply Kept.drewN|apply Kept.drew|refine Kept.setCell ?_ (.inr Bg.out) _|refine Kept.setCell ?_ (.inr Bj.out) _)|exact HK.out)) (fun k_ e_=>(Ba.out.1 k_ e_)));clear Ba Bb Bc HB HK;revert n0_ n1_ n2_ n3_ n4_;intro Ba Bb Bc HB HK;clear hg hw hp_))
 have n0_:=Am (rD Ba.out)
 have n1_:=Am (bD Bb.out)
 have n2_:=Am (bD Bc.out)
 have n3_:=Am (Kept.drew HK.out)
 have n4_:=Am (o1 HB.out)
 clear Ba
 clear Bb
 clear Bc
 clear HK
 clear HB
 have Ba:=n0_
 have Bb:=n1_
 have Bc:=n2_
 have HK:=n3_
 have HB:=n4_
 clear n0_ n1_ n2_ n3_ n4_
 have p147:0≤(t146:Int):=of_decide_eq_true (by first|(with_reducible assumption)|assumption)
 have q147:t146<(y145.length:Int):=(by have h_:(t146:Int)<((l0_0.length:Int):Int):=of_decide_eq_true (by first|(with_reducible assumption)|assumption);first|(have e_:=(Kd.R_reads' Ba.out).1;omega)|simpa only [Ny145.out,List.length_set] using h_)
 have ql147:((t146:Int)<((l0_0.length:Int):Int))=True:=eq_true (of_decide_eq_true (by first|(with_reducible assumption)|assumption))
 obtain ⟨ad147,e147,hx147_0,hx147_1,hx147_2,hx147_3⟩:=at_T40 (Kd.R_reads' Ba.out).2.2 t146 p147 q147
 obtain rfl:(⟨go25,0,none⟩:Addr)=ad147:=(by injection e147)
 (first|simp only [add_plain] at hx147_0|simp only [add_at] at hx147_0|simp only [Addr.add,Nat.zero_add] at hx147_0|skip)
 (first|simp only [add_plain] at hx147_1|simp only [add_at] at hx147_1|simp only [Addr.add,Nat.zero_add] at hx147_1|skip)
 (first|simp only [add_plain] at hx147_2|simp only [add_at] at hx147_2|simp only [Addr.add,Nat.zero_add] at hx147_2|skip)
 (first|simp only [add_plain] at hx147_3|simp only [add_at] at hx147_3|simp only [Addr.add,Nat.zero_add] at hx147_3|skip)
 replace p147:=eq_true p147
 replace q147:=eq_true q147
 refine start_ (n:=12) (S:=fun w'=>w'.cell? ⟨Bd,0,none⟩=some (.slice (some ⟨go25,0,none⟩) l0_0.length co30)∧w'.cell? ⟨Bd,1,none⟩=some (.int .i64 a0_1)∧w'.cell? ⟨go25,(t146).toNat * 4,none⟩=some (.int .i64 ((rd_T40 y145 t146).f0))∧w'.cell? ⟨go25,(t146).toNat * 4 + 1,none⟩=some (.int .i64 ((rd_T40 y145 t146).f1))∧w'.cell? ⟨go25,(t146).toNat * 4 + 2,none⟩=some (.int .i64 ((rd_T40 y145 t146).f2))∧w'.cell? ⟨go25,(t146).toNat * 4 + 3,none⟩=some (.bool ((rd_T40 y145 t146).f3))) (ds:=[11]) z44q16 (by kernel_rfl) rfl rfl ⟨(bC Bb.out 0).trans rfl,(bC Bb.out 1).trans rfl,hx147_0,hx147_1,hx147_2,hx147_3⟩ (fun hHeld=>?_);refine with_st spec_l11Tick.tab8 spec_l11Tick.bits8 (fun _ _ _ _ _ h=>h) (fun HT_=>?_)
 generalize w39.drew=w40 at Ba Bb Bc HK HB hx147_0 hx147_1 hx147_2 hx147_3 hHeld ⊢
 refine pS 0 34 z44q17 HT_ rfl rfl (by kernel_rfl) (by rfl) (by intro w';go_simp;with_reducible rfl) (by simp only [Act.put,lA,lZ,lS,iw,jw];rfl) ?_
 refine pS 2 36 z44q18 HT_ rfl rfl (by kernel_rfl) (by rfl) (by intro w';go_simp;with_reducible rfl) (by simp only [Act.put,lA,lZ,lS,iw,jw];rfl) ?_
 refine tS 1 35 z44q19 HT_ hHeld rfl rfl (by kernel_rfl) (by rfl) (by rintro w' ⟨s0,s1,s2,s3,s4,s5⟩;go_simp;with_reducible rfl) (by simp only [Act.put,lA,lZ,lS,iw,jw];rfl) ?_
 refine tS 3 37 z44q20 HT_ hHeld rfl rfl (by kernel_rfl) (by rfl) (by rintro w' ⟨s0,s1,s2,s3,s4,s5⟩;go_simp;with_reducible rfl) (by simp only [Act.put,lA,lZ,lS,iw,jw];rfl) ?_
 refine tS 4 38 z44q21 HT_ hHeld rfl rfl (by kernel_rfl) (by rfl) (by rintro w' ⟨s0,s1,s2,s3,s4,s5⟩;go_simp;with_reducible rfl) (by simp only [Act.put,lA,lZ,lS,iw,jw];rfl) ?_
 refine oS 5 39 z44q22 HT_ rfl rfl (by kernel_rfl) (by decide) (fun K hK=>?_)
 refine goes_ Try.func51 (by kernel_rfl) rfl #[.agg #[.slice (some ⟨go25,0,none⟩) y145.length co30,.int .i64 a0_1]] (by rfl) rfl rfl (by (try simp only [lM,lC,lN]);first|done|(rw [show y145.length=l0_0.length from (Kd.R_reads' Ba.out).1.symm] <;> rfl)|rfl|(simp only [lD,lT];rfl)) ?_
 with_reducible refine (spec_l11Next.calls k _ _ y145 a0_1 t146 _ ?side1 ?side2 A26.out).mono ?_
 (case side1=>exact cL (Kd.R_reads' Ba.out).2.2)
 (case side2=>rw [show y145.length=l0_0.length from (Kd.R_reads' Ba.out).1.symm];exact (Kd.R_reads' Ba.out).2.1)
 rintro e w41 ⟨rfl,hb⟩
 have HS2_:=(hb.cell (World.block_lt_of_cell? _ _ (hHeld.2.2.1))).trans (hHeld.2.2.1)
 have HS3_:=(hb.cell (World.block_lt_of_cell? _ _ (hHeld.2.2.2.1))).trans (hHeld.2.2.2.1)
 have HS4_:=(hb.cell (World.block_lt_of_cell? _ _ (hHeld.2.2.2.2.1))).trans (hHeld.2.2.2.2.1)
 have HS5_:=(hb.cell (World.block_lt_of_cell? _ _ (hHeld.2.2.2.2.2))).trans (hHeld.2.2.2.2.2)
 refine ⟨_,rfl,?_⟩
 have n0_:=Am (rB (rL Ba.out) hb)
 have n1_:=Am (bX Bb.out hb)
 have n2_:=Am (bX Bc.out hb)
 have n3_:=Am (Kept.below (S:=(fun k_=>P0_0_ k_)) (by repeat (first|(with_reducible first|exact HK.out|apply Kept.alloc|apply Kept.drewN|apply Kept.drew|refine Kept.setCell ?_ (.inr Bg.out) _|refine Kept.setCell ?_ (.inr Bj.out) _)|exact HK.out)) hb)
 have n4_:=Am (bP (by repeat (first|(with_reducible first|exact HB.out|apply oA|apply pN|apply o1|refine bS ?_ Bi.out|refine bS ?_ Bk.out)|exact HB.out)) hb)
 clear Ba
 clear Bb
 clear Bc
 clear HK
 clear HB
 have Ba:=n0_
 have Bb:=n1_
 have Bc:=n2_
 have HK:=n3_
 have HB:=n4_
 clear n0_ n1_ n2_ n3_ n4_
 (try clear hb)
 (try clear hb2)
 (try clear hk)
 (try clear hi)
 refine hK.out _ _ ⟨(bC Bb.out 0).trans rfl,(bC Bb.out 1).trans rfl,HS2_,HS3_,HS4_,HS5_⟩ (fun hHeld=>?_)
 clear hK K
 refine norm_ (by show Act.put _ (some 39) _=_;simp only [Act.put,lA,lZ,lS,iw,jw];rfl) ?_
 refine pS 6 40 z44q23 HT_ rfl rfl (by kernel_rfl) (by rfl) (by intro w';go_simp;with_reducible rfl) (by simp only [Act.put,lA,lZ,lS,iw,jw];rfl) ?_
 refine pS 7 41 z44q24 HT_ rfl rfl (by kernel_rfl) (by rfl) (by intro w';go_simp;with_reducible rfl) (by simp only [Act.put,lA,lZ,lS,iw,jw];rfl) ?_
 refine tS 8 42 z44q25 HT_ hHeld rfl rfl (by kernel_rfl) (by rfl) (by rintro w' ⟨s0,s1,s2,s3,s4,s5⟩;go_simp;with_reducible rfl) (by simp only [Act.put,lA,lZ,lS,iw,jw];rfl) ?_
 refine pS 9 43 z44q26 HT_ rfl rfl (by kernel_rfl) (by rfl) (by intro w';go_simp;with_reducible rfl) (by simp only [Act.put,lA,lZ,lS,iw,jw];rfl) ?_
 refine pS 10 44 z44q27 HT_ rfl rfl (by kernel_rfl) (by rfl) (by intro w';go_simp;with_reducible rfl) (by simp only [Act.put,lA,lZ,lS,iw,jw];rfl) ?_
 refine last_ (i:=11) (N:=none) z44q28 rfl rfl (one_of HT_.out (by kernel_rfl)) (by decide) (fun K hK=>?_)
 have hs42:=cz1 Bb.out
 have hfs42:=bF Bb.out 1
 have hns42_1:=Bh.out
 have hms42_1:=Bf.out
 refine skip_ (w1:=?_) (by rfl) rfl ?_ ?_
 rotate_left;(go_simp;rfl)
 refine hK.out _ _ ?_
 clear hK K
 refine done_ (done_of HT_.out (by kernel_rfl)) ?_
 try go_wp2
 have n0_:Aside0 (Kd.R k40 40 (w41.setCell ⟨Bd,1,none⟩ (.int .i64 ji29)) w0.heap.size (fun k_=>(P0_0_ k_∨w.heap.size≤k_)) (.slice (some ⟨go25,0,none⟩) l0_0.length co30) y145):=⟨by (with_reducible repeat (first|apply rA|apply rN|apply rD));exact rM (rF (p:=⟨Bd,1,none⟩) (rT Ba.out Bb.out (by decide)) (fun _ hk=>hk.2) (.int .i64 ji29)) (fun _ hk=>hk.1)⟩
 have n1_:Aside0 ((w41.setCell ⟨Bd,1,none⟩ (.int .i64 ji29)).heap[Bd]?=some (.cells #[.slice (some ⟨go25,0,none⟩) l0_0.length co30,.int .i64 ji29] 25 (0,0))):=⟨by (with_reducible repeat (first|refine bN ?_ _|refine bD ?_|refine bA ?_ _));refine blk_put (cs:=#[.slice (some ⟨go25,0,none⟩) l0_0.length co30,.int .i64 a0_1]) ?_ 1 _ rfl;(with_reducible repeat (first|refine bN ?_ _|refine bD ?_|refine bA ?_ _));exact Bb.out⟩
 have n2_:Aside0 ((w41.setCell ⟨Bd,1,none⟩ (.int .i64 ji29)).heap[Be]?=some (.cells #[.slice none 0 0,.int .i64 0] 25 (0,0))):=⟨by (with_reducible repeat (first|refine bN ?_ _|refine bD ?_|refine bA ?_ _|refine blk_far ?_ Bh.out _));exact Bc.out⟩
 have n3_:Aside0 (Kept w (w41.setCell ⟨Bd,1,none⟩ (.int .i64 ji29)) (fun k_=>P0_0_ k_)):=⟨by repeat (first|(with_reducible first|exact HK.out|apply Kept.alloc|apply Kept.drewN|apply Kept.drew|refine Kept.setCell ?_ (.inr Bg.out) _|refine Kept.setCell ?_ (.inr Bj.out) _)|exact HK.out)⟩
 have n4_:Aside0 (Below w0.heap.size w0 (w41.setCell ⟨Bd,1,none⟩ (.int .i64 ji29))):=⟨by repeat (first|(with_reducible first|exact HB.out|apply oA|apply pN|apply o1|refine bS ?_ Bi.out|refine bS ?_ Bk.out)|exact HB.out)⟩
 (try clear Ba)
 (try clear Bb)
 (try clear Bc)
 (try clear HK)
 (try clear HB)
 generalize (w41.setCell ⟨Bd,1,none⟩ (.int .i64 ji29))=w43 at n0_ n1_ n2_ n3_ n4_ ⊢
 have Ba:=n0_
 have Bb:=n1_
 have Bc:=n2_
 have HK:=n3_
 have HB:=n4_
 clear n0_ n1_ n2_ n3_ n4_
 have n0_:=Am (rD Ba.out)
 have n1_:=Am (bD Bb.out)
 have n2_:=Am (bD Bc.out)
 have n3_:=Am (Kept.drew HK.out)
 have n4_:=Am (o1 HB.out)
 clear Ba
 clear Bb
 clear Bc
 clear HK
 clear HB
 have Ba:=n0_
 have Bb:=n1_
 have Bc:=n2_
 have HK:=n3_
 have HB:=n4_
 clear n0_ n1_ n2_ n3_ n4_
 have p148:0≤(t142:Int):=of_decide_eq_true (by first|(with_reducible assumption)|assumption)
 have q148:t142<(y145.length:Int):=(by have h_:(t142:Int)<((l0_0.length:Int):Int):=of_decide_eq_true (by first|(with_reducible assumption)|assumption);first|(have e_:=(Kd.R_reads' Ba.out).1;omega)|simpa only [Ny145.out,List.length_set] using h_)
 have ql148:((t142:Int)<((l0_0.length:Int):Int))=True:=eq_true (of_decide_eq_true (by first|(with_reducible assumption)|assumption))
 obtain ⟨ad148,e148,hx148_0,hx148_1,hx148_2,hx148_3⟩:=at_T40 (Kd.R_reads' Ba.out).2.2 t142 p148 q148
 obtain rfl:(⟨go25,0,none⟩:Addr)=ad148:=(by injection e148)
 (first|simp only [add_plain] at hx148_0|simp only [add_at] at hx148_0|simp only [Addr.add,Nat.zero_add] at hx148_0|skip)
 (first|simp only [add_plain] at hx148_1|simp only [add_at] at hx148_1|simp only [Addr.add,Nat.zero_add] at hx148_1|skip)
 (first|simp only [add_plain] at hx148_2|simp only [add_at] at hx148_2|simp only [Addr.add,Nat.zero_add] at hx148_2|skip)
 (first|simp only [add_plain] at hx148_3|simp only [add_at] at hx148_3|simp only [Addr.add,Nat.zero_add] at hx148_3|skip)
 replace p148:=eq_true p148
 replace q148:=eq_true q148
 refine start_ (n:=9) (S:=fun w'=>w'.cell? ⟨Bd,0,none⟩=some (.slice (some ⟨go25,0,none⟩) l0_0.length co30)∧w'.cell? ⟨Bd,1,none⟩=some (.int .i64 ji29)∧w'.cell? ⟨go25,(t142).toNat * 4,none⟩=some (.int .i64 ((rd_T40 y145 t142).f0))∧w'.cell? ⟨go25,(t142).toNat * 4 + 1,none⟩=some (.int .i64 ((rd_T40 y145 t142).f1))∧w'.cell? ⟨go25,(t142).toNat * 4 + 2,none⟩=some (.int .i64 ((rd_T40 y145 t142).f2))∧w'.cell? ⟨go25,(t142).toNat * 4 + 3,none⟩=some (.bool ((rd_T40 y145 t142).f3))) (ds:=[]) z44q29 (by kernel_rfl) rfl rfl ⟨(bC Bb.out 0).trans rfl,(bC Bb.out 1).trans rfl,hx148_0,hx148_1,hx148_2,hx148_3⟩ (fun hHeld=>?_);refine with_st spec_l11Tick.tab9 spec_l11Tick.bits9 (fun _ _ _ _ _ h=>h) (fun HT_=>?_)
 generalize w43.drew=w44 at Ba Bb Bc HK HB hx148_0 hx148_1 hx148_2 hx148_3 hHeld ⊢
 refine pS 1 46 z44q30 HT_ rfl rfl (by kernel_rfl) (by rfl) (by intro w';go_simp;with_reducible rfl) (by simp only [Act.put,lA,lZ,lS,iw,jw];rfl) ?_
 refine pS 3 48 z44q31 HT_ rfl rfl (by kernel_rfl) (by rfl) (by intro w';go_simp;with_reducible rfl) (by simp only [Act.put,lA,lZ,lS,iw,jw];rfl) ?_
 refine tS 0 45 z44q32 HT_ hHeld rfl rfl (by kernel_rfl) (by rfl) (by rintro w' ⟨s0,s1,s2,s3,s4,s5⟩;go_simp;with_reducible rfl) (by simp only [Act.put,lA,lZ,lS,iw,jw];rfl) ?_
 refine tS 2 47 z44q33 HT_ hHeld rfl rfl (by kernel_rfl) (by rfl) (by rintro w' ⟨s0,s1,s2,s3,s4,s5⟩;go_simp;with_reducible rfl) (by simp only [Act.put,lA,lZ,lS,iw,jw];rfl) ?_
 refine pS 4 49 z44q34 HT_ rfl rfl (by kernel_rfl) (by rfl) (by intro w';go_simp;with_reducible rfl) (by simp only [Act.put,lA,lZ,lS,iw,jw];rfl) ?_
 refine pS 5 50 z44q35 HT_ rfl rfl (by kernel_rfl) (by rfl) (by intro w';go_simp;with_reducible rfl) (by simp only [Act.put,lA,lZ,lS,iw,jw];rfl) ?_
 refine tS 6 51 z44q36 HT_ hHeld rfl rfl (by kernel_rfl) (by rfl) (by rintro w' ⟨s0,s1,s2,s3,s4,s5⟩;go_simp;with_reducible rfl) (by simp only [Act.put,lA,lZ,lS,iw,jw];rfl) ?_
 refine oU 7 none z44q37 HT_ rfl rfl (by kernel_rfl) (by decide) (fun K hK=>?_)
 have hs45:=cz0 Bc.out
 have hfs45:=bF Bc.out 0
 have hns45_0:=Bf.out
 have hms45_0:=Bh.out
 have hs46:=cz1 Bc.out
 have hfs46:=bF Bc.out 1
 have hns46_0:=Bf.out
 have hms46_0:=Bh.out
 refine skip_ (w1:=?_) (by rfl) rfl ?_ ?_
 rotate_left;(go_simp;rfl)
 refine hK.out _ _ ⟨((cell_far (p:=⟨Be,_,none⟩) Bf.out _).trans (((cell_far (p:=⟨Be,_,none⟩) Bf.out _).trans (hHeld.1)))),((cell_far (p:=⟨Be,_,none⟩) Bf.out _).trans (((cell_far (p:=⟨Be,_,none⟩) Bf.out _).trans (hHeld.2.1)))),((cell_far (p:=⟨Be,_,none⟩) (by first|exact Kd.own_blk (Kd.R_ne Ba.out Bc.out (by decide))|(rw [add_block];exact Kd.own_blk (Kd.R_ne Ba.out Bc.out (by decide)))|(show (Addr.add _ _).block≠_;rw [add_block];exact Kd.own_blk (Kd.R_ne Ba.out Bc.out (by decide)))|(dsimp only;exact Kd.own_blk (Kd.R_ne Ba.out Bc.out (by decide)))) _).trans (((cell_far (p:=⟨Be,_,none⟩) (by first|exact Kd.own_blk (Kd.R_ne Ba.out Bc.out (by decide))|(rw [add_block];exact Kd.own_blk (Kd.R_ne Ba.out Bc.out (by decide)))|(show (Addr.add _ _).block≠_;rw [add_block];exact Kd.own_blk (Kd.R_ne Ba.out Bc.out (by decide)))|(dsimp only;exact Kd.own_blk (Kd.R_ne Ba.out Bc.out (by decide)))) _).trans (hHeld.2.2.1)))),((cell_far (p:=⟨Be,_,none⟩) (by first|exact Kd.own_blk (Kd.R_ne Ba.out Bc.out (by decide))|(rw [add_block];exact Kd.own_blk (Kd.R_ne Ba.out Bc.out (by decide)))|(show (Addr.add _ _).block≠_;rw [add_block];exact Kd.own_blk (Kd.R_ne Ba.out Bc.out (by decide)))|(dsimp only;exact Kd.own_blk (Kd.R_ne Ba.out Bc.out (by decide)))) _).trans (((cell_far (p:=⟨Be,_,none⟩) (by first|exact Kd.own_blk (Kd.R_ne Ba.out Bc.out (by decide))|(rw [add_block];exact Kd.own_blk (Kd.R_ne Ba.out Bc.out (by decide)))|(show (Addr.add _ _).block≠_;rw [add_block];exact Kd.own_blk (Kd.R_ne Ba.out Bc.out (by decide)))|(dsimp only;exact Kd.own_blk (Kd.R_ne Ba.out Bc.out (by decide)))) _).trans (hHeld.2.2.2.1)))),((cell_far (p:=⟨Be,_,none⟩) (by first|exact Kd.own_blk (Kd.R_ne Ba.out Bc.out (by decide))|(rw [add_block];exact Kd.own_blk (Kd.R_ne Ba.out Bc.out (by decide)))|(show (Addr.add _ _).block≠_;rw [add_block];exact Kd.own_blk (Kd.R_ne Ba.out Bc.out (by decide)))|(dsimp only;exact Kd.own_blk (Kd.R_ne Ba.out Bc.out (by decide)))) _).trans (((cell_far (p:=⟨Be,_,none⟩) (by first|exact Kd.own_blk (Kd.R_ne Ba.out Bc.out (by decide))|(rw [add_block];exact Kd.own_blk (Kd.R_ne Ba.out Bc.out (by decide)))|(show (Addr.add _ _).block≠_;rw [add_block];exact Kd.own_blk (Kd.R_ne Ba.out Bc.out (by decide)))|(dsimp only;exact Kd.own_blk (Kd.R_ne Ba.out Bc.out (by decide)))) _).trans (hHeld.2.2.2.2.1)))),((cell_far (p:=⟨Be,_,none⟩) (by first|exact Kd.own_blk (Kd.R_ne Ba.out Bc.out (by decide))|(rw [add_block];exact Kd.own_blk (Kd.R_ne Ba.out Bc.out (by decide)))|(show (Addr.add _ _).block≠_;rw [add_block];exact Kd.own_blk (Kd.R_ne Ba.out Bc.out (by decide)))|(dsimp only;exact Kd.own_blk (Kd.R_ne Ba.out Bc.out (by decide)))) _).trans (((cell_far (p:=⟨Be,_,none⟩) (by first|exact Kd.own_blk (Kd.R_ne Ba.out Bc.out (by decide))|(rw [add_block];exact Kd.own_blk (Kd.R_ne Ba.out Bc.out (by decide)))|(show (Addr.add _ _).block≠_;rw [add_block];exact Kd.own_blk (Kd.R_ne Ba.out Bc.out (by decide)))|(dsimp only;exact Kd.own_blk (Kd.R_ne Ba.out Bc.out (by decide)))) _).trans (hHeld.2.2.2.2.2))))⟩ (fun hHeld=>?_)
 clear hK K
 refine pS 8 3 z44q38 HT_ rfl rfl (by kernel_rfl) (by rfl) (by intro w';go_simp;with_reducible rfl) (by simp only [Act.put,lA,lZ,lS,iw,jw];rfl) ?_
 refine done_ (done_of HT_.out (by kernel_rfl)) ?_
 try go_wp2
 refine bodyPost_ret (results_ct rfl _ _ Be 25 #[.slice (some ⟨go25,0,none⟩) l0_0.length co30,.int .i64 ji29] (0,0) _ rfl (by (with_reducible repeat (first|refine bN ?_ _|refine bD ?_|refine bA ?_ _));refine blk_put (cs:=#[.slice (some ⟨go25,0,none⟩) l0_0.length co30,.int .i64 0]) ?_ 1 _ rfl;(with_reducible repeat (first|refine bN ?_ _|refine bD ?_|refine bA ?_ _));refine blk_put (cs:=#[.slice none 0 0,.int .i64 0]) ?_ 0 _ rfl;(with_reducible repeat (first|refine bN ?_ _|refine bD ?_|refine bA ?_ _));exact Bc.out) Try.underlying25 rfl (by kernel_rfl)) rfl ?_
 exact ⟨_,by first|rfl|(simp [errW_none,errW_some] <;> rfl)|(simp only [← hji29];first|rfl|(simp [errW_none,errW_some] <;> rfl))|(simp [*,errW_none,errW_some] <;> rfl),by (with_reducible repeat (first|apply rA|apply rN|apply rD));exact rM (rF (p:=⟨Be,1,none⟩) (rF (p:=⟨Be,0,none⟩) (rT Ba.out Bc.out (by decide)) (fun _ hk=>hk.2) (.slice (some ⟨go25,0,none⟩) l0_0.length co30)) (fun _ hk=>hk.2) (.int .i64 ji29)) (fun _ hk=>hk.1),by repeat (first|(with_reducible first|exact HB.out|apply oA|apply pN|apply o1|refine bS ?_ Bi.out|refine bS ?_ Bk.out)|exact HB.out),by repeat (first|(with_reducible first|exact HK.out|apply Kept.alloc|apply Kept.drewN|apply Kept.drew|refine Kept.setCell ?_ (.inr Bg.out) _|refine Kept.setCell ?_ (.inr Bj.out) _)|exact HK.out)⟩
end Go.Proofs.Ytfhcgmfodfcpeaa.PFnQueueLess
