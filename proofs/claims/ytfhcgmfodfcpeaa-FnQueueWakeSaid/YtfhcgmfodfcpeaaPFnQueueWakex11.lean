/- Proved here, without a condition beyond those that each theorem states: what the Go functions named below do is what the plain functions of the same names say. Written by xprint.py, a program of this session. -/
import Derived.Test.YtfhcgmfodfcpeaaPFnQueueWakex0
import Derived.Test.YtfhcgmfodfcpeaaPFnQueueWakex9
import Derived.Test.YtfhcgmfodfcpeaaPFnQueueWakex10
namespace Go.Proofs.Ytfhcgmfodfcpeaa.PFnQueueWake
open Go.RowKit Go.Proofs.YtfhcgmfodfcpeaaW.PrintWords Go.Proofs.YtfhcgmfodfcpeaaW.PrintLast Go.Proofs.YtfhcgmfodfcpeaaW.PrintMore
attribute [local go_sem] max2_int min2_int max_two min_two max_three min_three max_four min_four   -- for this text's walks alone
set_option linter.unusedVariables false
set_option linter.unusedSimpArgs false

attribute [local go_sem ↓] isSome_setCell_
/-! ### impl_QueueWake: function 13 -/
def impl_QueueWake.j0 : Nat → Int → Bool → List (S40) → Int → Option ((List (S40)) × Int × Bool)
|0, _, _, _, _ => none
|k + 1, x6, x18, x240000, x240001 => if x18 = true then (some (([] : List (S40)), 0, false)) else ((impl_Queue_clone.f x240000 x240001).bind fun bt243 => (if 0 ≤ x6 then (if x6 < (bt243.1.length : Int) then (if ((rd_T40 bt243.1 x6).f3 = true) then (some (bt243.1, bt243.2, true)) else ((some (bt243.1.set (x6 : Int).toNat (⟨(rd_T40 bt243.1 x6).f0, (rd_T40 bt243.1 x6).f1, (rd_T40 bt243.1 x6).f2, true⟩ : S40) : List (S40))).bind fun y249 => (some ((y249.set (x6 : Int).toNat (⟨(rd_T40 y249 x6).f0, (rd_T40 y249 x6).f1, mx ((rd_T40 bt243.1 x6).f2) bt243.2, (rd_T40 y249 x6).f3⟩ : S40)), bt243.2, true)))) else (none)) else (none)))
def impl_QueueWake.f (k : Nat) (l0_0 : List (S40)) (a0_1 : Int) (a1 : Int) : Option ((List (S40)) × Int × Bool) := (impl_Queue_at.f l0_0 a0_1 a1).bind fun t241 => ((impl_QueueOk.f k l0_0 a0_1).bind fun t242 => (if t242 = true then (impl_QueueWake.j0 k t241 (decide (t241 < 0)) l0_0 a0_1) else (impl_QueueWake.j0 k t241 true l0_0 a0_1)))
theorem impl_QueueWake.mono_l : ∀ k, (∀ y0 y1 y2 y3, LeO (impl_QueueWake.j0 k y0 y1 y2 y3) (impl_QueueWake.j0 (k + 1) y0 y1 y2 y3))
|0 => fun _ _ _ _ r h => by simp [impl_QueueWake.j0] at h
|k + 1 => by
  have ih0 := impl_QueueWake.mono_l k
  ·intro y0 y1 y2 y3
   unfold impl_QueueWake.j0
   repeat' first
  |(with_reducible exact ih0 _ _ _ _)
  |(with_reducible exact impl_QueueOk.mono _ _ _)
  |(with_reducible exact LeO.refl _)
  |(with_reducible exact LeO.none _)
  |(with_reducible refine LeO.ite ?_ ?_)
  |(with_reducible refine LeO.bind ?_ (fun _ => ?_))
  |exact ih0 _ _ _ _
  |exact impl_QueueOk.mono _ _ _
  |exact LeO.none _
  |refine LeO.ite ?_ ?_
  |refine LeO.bind ?_ (fun _ => ?_)
theorem impl_QueueWake.mono : ∀ a0 a1 a2 k, LeO (impl_QueueWake.f k a0 a1 a2) (impl_QueueWake.f (k + 1) a0 a1 a2) := by
 intro a0 a1 a2 k
 have ih0 := impl_QueueWake.mono_l k
 unfold impl_QueueWake.f
 repeat' first
  |(with_reducible exact ih0 _ _ _ _)
  |(with_reducible exact impl_QueueOk.mono _ _ _)
  |(with_reducible exact LeO.refl _)
  |(with_reducible exact LeO.none _)
  |(with_reducible refine LeO.ite ?_ ?_)
  |(with_reducible refine LeO.bind ?_ (fun _ => ?_))
  |exact ih0 _ _ _ _
  |exact impl_QueueOk.mono _ _ _
  |exact LeO.none _
  |refine LeO.ite ?_ ?_
  |refine LeO.bind ?_ (fun _ => ?_)
def impl_QueueWake.T7 : Bool × List (List Nat × List Nat) := (true, [([], []), ([], []), ([], []), ([2], [2]), ([3], [3]), ([4], [4]), ([], []), ([6], [6]), ([5, 7], [5, 7]), ([0, 0, 5], [0]), ([9, 0, 5], [9]), ([10, 0, 5], [10]), ([1, 0, 1, 2, 3, 4, 5, 6, 7, 8, 9, 10, 11], [1]), ([12, 0, 1, 2, 3, 4, 5, 6, 7, 8, 9, 10, 11], [12]), ([13, 8, 11, 0, 1, 2, 3, 4, 5, 6, 7, 8, 9, 10, 11], [8, 13])])
def impl_QueueWake.B7 : List Nat := [0, 0, 0, 4, 12, 28, 0, 64, 252, 61, 573, 1597, 4095, 8191, 16383]
theorem impl_QueueWake.tab7 : rtab .any (opsOf Try.f13 7) = impl_QueueWake.T7 := by kernel_rfl
theorem impl_QueueWake.bits7 : waitsOk impl_QueueWake.T7.2 impl_QueueWake.B7 = true := by kernel_rfl
abbrev z13q0 : Array Bool := bQ 15 0
abbrev z13q1 : Array Bool := bQ 15 1
abbrev z13q2 : Array Bool := bQ 15 5
abbrev z13q3 : Array Bool := bQ 15 69
abbrev z13q4 : Array Bool := bQ 15 71
abbrev z13q5 : Array Bool := bQ 15 79
abbrev z13q6 : Array Bool := bQ 15 95
abbrev z13q7 : Array Bool := bQ 15 127
abbrev z13q8 : Array Bool := bQ 15 639
abbrev z13q9 : Array Bool := bQ 15 1663
abbrev z13q10 : Array Bool := bQ 15 1791
abbrev z13q11 : Array Bool := bQ 15 2047
abbrev z13q12 : Array Bool := bQ 15 4095
abbrev z13q13 : Array Bool := bQ 15 8191
abbrev z13q14 : Array Bool := bQ 15 16383
abbrev z13q15 : Array Bool := bQ 15 32767
set_option maxHeartbeats 2000000 in
set_option maxRecDepth 100000 in
theorem impl_QueueWake.calls (k:Nat) (A0_0:Option Addr) (c0_0:Nat) (l0_0:List (S40)) (a0_1:Int) (a1:Int) (r1:List (S40)) (r2:Int) (r3:Bool) (w:World) (hr0_0:Kd.C k40 w A0_0 l0_0.length l0_0) (hc0_0:l0_0.length≤c0_0) (h:impl_QueueWake.f k l0_0 a0_1 a1=some (r1,r2,r3)) :
  Calls Try.prog 13 #[.agg #[.slice A0_0 l0_0.length c0_0,.int .i64 a0_1],.int .i64 a1] w fun e w'=>∃ v0_:Value,e=.returned (.tuple #[.agg #[v0_,.int .i64 r2],.bool r3])∧Kd.R k40 40 w' w.heap.size (fun _=>True) v0_ r1∧Below w.heap.size w w':=by
 have hu25:=Try.underlying25
 have HR0_0:=Am hr0_0
 have HC0_0:=Am hc0_0
 clear hr0_0 hc0_0
 have HB:=Am (Below.refl w.heap.size w)
 have H:((impl_Queue_at.f l0_0 a0_1 a1).bind fun t241=>((impl_QueueOk.f k l0_0 a0_1).bind fun t242=>(if t242=true then (impl_QueueWake.j0 k t241 (decide (t241<0)) l0_0 a0_1) else (impl_QueueWake.j0 k t241 true l0_0 a0_1))))=some (r1,r2,r3):=h
 clear h
 replace H:=oC H
 obtain ⟨t241,A30,H⟩:=H
 replace H:((impl_QueueOk.f k l0_0 a0_1).bind fun t242=>(if t242=true then (impl_QueueWake.j0 k t241 (decide (t241<0)) l0_0 a0_1) else (impl_QueueWake.j0 k t241 true l0_0 a0_1)))=some (r1,r2,r3):=H
 have A3:=Am A30
 clear A30
 have HC4:=Am H
 clear H
 go_enter Try.func13,Try.ntmps13
 go_upto_region 2 with (first|((with_reducible refine gate_dst (N:=2) rfl ?_);refine box_event ?hg (N:=2) ?hd (cs:=#[.slice A0_0 l0_0.length c0_0,.int .i64 a0_1]) (t:=25) ?hr ?_;(case hd=>rfl);(case hg=>rfl);(case hr=>first|(go_simp;done)|(go_simp;rfl));intro Be hg w5 hbox hb;have n0_:=Am (bP (by repeat (first|(with_reducible first|exact HB.out|apply oA|apply pN|apply o1)|exact HB.out)) hb);have n1_:=Am (hbox);have n2_:=Am ((by rw [hg];exact (bZ (by repeat (first|(with_reducible first|exact HB.out|apply oA|apply pN|apply o1)|exact HB.out))):w.heap.size≤Be));have n3_:=Am ((by rw [hg];exact (bZ (by repeat (first|(with_reducible first|exact HB.out|apply oA|apply pN|apply o1)|exact HB.out))):w.heap.size≤Be));clear HB;revert n0_ n1_ n2_ n3_;intro HB Ba Db Bh;clear hb hbox hg)|((with_reducible refine gate_dst (N:=4) rfl ?_);refine box_event ?hg (N:=4) ?hd (cs:=#[.slice none 0 0,.int .i64 0]) (t:=25) ?hr ?_;(case hd=>rfl);(case hg=>rfl);(case hr=>first|(go_simp;done)|(go_simp;rfl));intro Bf hg w6 hbox hb;have n0_:=Am (bB (g:=Be) (o:=.cells #[.slice A0_0 l0_0.length c0_0,.int .i64 a0_1] 25 (0,0)) (bL Ba.out) hb);have n1_:=Am (bP (by repeat (first|(with_reducible first|exact HB.out|apply oA|apply pN|apply o1|refine bS ?_ Bh.out)|exact HB.out)) hb);have n2_:=Am (hbox);have n3_:=Am ((by rw [hg];exact (bZ (by repeat (first|(with_reducible first|exact HB.out|apply oA|apply pN|apply o1|refine bS ?_ Bh.out)|exact HB.out))):w.heap.size≤Bf));have n4_:=Am ((by rw [hg];exact (bZ (by repeat (first|(with_reducible first|exact HB.out|apply oA|apply pN|apply o1|refine bS ?_ Bh.out)|exact HB.out))):w.heap.size≤Bf));have n5_:=Am ((by rw [hg];exact Nat.ne_of_lt (blk_lt (g:=Be) (o:=.cells #[.slice A0_0 l0_0.length c0_0,.int .i64 a0_1] 25 (0,0)) (bL Ba.out)):Be≠Bf));have n6_:=Am ((by rw [hg];exact Nat.ne_of_gt (blk_lt (g:=Be) (o:=.cells #[.slice A0_0 l0_0.length c0_0,.int .i64 a0_1] 25 (0,0)) (bL Ba.out)):Bf≠Be));clear Ba HB;revert n0_ n1_ n2_ n3_ n4_ n5_ n6_;intro Ba HB Bc Dc Bi Bj Bk;clear hb hbox hg;have Dv:=Bj.out;have Dw:=Bk.out;have By:w6.cell? ⟨Be,0,none⟩=some (.slice A0_0 l0_0.length c0_0):=(bC Ba.out 0).trans rfl;have Bz:w6.cell? ⟨Be,1,none⟩=some (.int .i64 a0_1):=(bC Ba.out 1).trans rfl;have BA:=bF Ba.out 0;have BB:=bF Ba.out 1)|((with_reducible refine gate_callee (f:=36) rfl ?_);refine goesL_ (some 11) rfl rfl Try.func36 (by kernel_rfl) rfl #[.agg #[.slice A0_0 l0_0.length c0_0,.int .i64 a0_1],.int .i64 a1] rfl (by (try simp only [lM,lC,lN]);first|done|rfl|(simp only [lD,lT];rfl)) ?_;(with_reducible refine (impl_Queue_at.calls _ _ l0_0 a0_1 a1 t241 _ ?side1 ?side2 A3.out).mono ?_);(case side1=>repeat (first|exact (cB HR0_0.out HB.out)|(with_reducible refine cA ?_ _)|(with_reducible refine cN ?_ _)|(with_reducible refine cD ?_)));(case side2=>exact HC0_0.out);rintro e w9 ⟨rfl,hb⟩;refine ⟨_,rfl,?_⟩;have n0_:=Am (bB (g:=Be) (o:=.cells #[.slice A0_0 l0_0.length c0_0,.int .i64 a0_1] 25 (0,0)) (bL Ba.out) hb);have n1_:=Am (bB (g:=Bf) (o:=.cells #[.slice none 0 0,.int .i64 0] 25 (0,0)) (bL Bc.out) hb);have n2_:=Am (bP (by repeat (first|(with_reducible first|exact HB.out|apply oA|apply pN|apply o1|refine bS ?_ Bh.out|refine bS ?_ Bi.out)|exact HB.out)) hb);clear Ba Bc HB;revert n0_ n1_ n2_;intro Ba Bc HB;(try clear hb);(try clear hb2);(try clear hk);(try clear hi)))
 (try simp only [Act.put,lA,lZ,lS])
 go_cut [18] (fun v18 wc=>∃ (kq:Nat) (x18_3:Bool),v18=.bool x18_3∧Aside0 (impl_QueueWake.j0 kq t241 x18_3 l0_0 a0_1=some (r1,r2,r3))∧Aside0 (kq≤k)∧Aside0 (wc.heap[Be]?=some (.cells #[(.slice A0_0 l0_0.length c0_0),.int .i64 a0_1] 25 (0,0)))∧Aside0 (wc.heap[Bf]?=some (.cells #[(.slice none 0 0),.int .i64 0] 25 (0,0)))∧Aside0 (Below w.heap.size w wc))
 case first =>
  have H:=HC4.out
  clear HC4
  replace H:=oC H
  obtain ⟨t242,A100,H⟩:=H
  replace H:(if t242=true then (impl_QueueWake.j0 k t241 (decide (t241<0)) l0_0 a0_1) else (impl_QueueWake.j0 k t241 true l0_0 a0_1))=some (r1,r2,r3):=H
  have A10:=Am A100
  clear A100
  by_cases c11:t242=true
  ·subst c11
   have H1:(impl_QueueWake.j0 k t241 (decide (t241<0)) l0_0 a0_1)=some (r1,r2,r3):=by rw [if_pos rfl] at H;exact H
   clear H
   have H:=H1
   clear H1
   have H':=Am H
   clear H
   have Dd:=Bj.out
   have De:=Bk.out
   have Bq:w9.cell? ⟨Be,0,none⟩=some (.slice A0_0 l0_0.length c0_0):=(bC Ba.out 0).trans rfl
   have Br:w9.cell? ⟨Be,1,none⟩=some (.int .i64 a0_1):=(bC Ba.out 1).trans rfl
   have Bs:=bF Ba.out 0
   have Bt:=bF Ba.out 1
   go_wp2_with (first|((with_reducible refine gate_callee (f:=16) rfl ?_);refine goesL_ (some 13) rfl rfl Try.func16 (by kernel_rfl) rfl #[.agg #[.slice A0_0 l0_0.length c0_0,.int .i64 a0_1]] rfl (by (try simp only [lM,lC,lN]);first|done|rfl|(simp only [lD,lT];rfl)) ?_;(with_reducible refine (impl_QueueOk.calls k _ _ l0_0 a0_1 true _ ?side1 ?side2 A10.out).mono ?_);(case side1=>repeat (first|exact (cB HR0_0.out HB.out)|(with_reducible refine cA ?_ _)|(with_reducible refine cN ?_ _)|(with_reducible refine cD ?_)));(case side2=>exact HC0_0.out);rintro e w14 ⟨rfl,hb⟩;refine ⟨_,rfl,?_⟩;have n0_:=Am (bB (g:=Be) (o:=.cells #[.slice A0_0 l0_0.length c0_0,.int .i64 a0_1] 25 (0,0)) (bL Ba.out) hb);have n1_:=Am (bB (g:=Bf) (o:=.cells #[.slice none 0 0,.int .i64 0] 25 (0,0)) (bL Bc.out) hb);have n2_:=Am (bP (by repeat (first|(with_reducible first|exact HB.out|apply oA|apply pN|apply o1|refine bS ?_ Bh.out|refine bS ?_ Bi.out)|exact HB.out)) hb);clear Ba Bc HB;revert n0_ n1_ n2_;intro Ba Bc HB;(try clear hb);(try clear hb2);(try clear hk);(try clear hi)))
   go_meet
   case rel=>exact ⟨_,(decide (t241<0)),(by first|rfl|(simp;done)|(simp [*];done)),H',⟨by first|omega|exact Nat.le_refl _⟩,⟨by (with_reducible repeat (first|refine bN ?_ _|refine bD ?_|refine bA ?_ _));exact Ba.out⟩,⟨by (with_reducible repeat (first|refine bN ?_ _|refine bD ?_|refine bA ?_ _));exact Bc.out⟩,⟨by repeat (first|(with_reducible first|exact HB.out|apply oA|apply pN|apply o1|refine bS ?_ Bh.out|refine bS ?_ Bi.out)|exact HB.out)⟩⟩
  replace c11:=Bool.eq_false_iff.mpr c11
  subst c11
  have H1:(impl_QueueWake.j0 k t241 true l0_0 a0_1)=some (r1,r2,r3):=by rw [if_neg (show ¬ (false=true) by decide)] at H;exact H
  clear H
  have H:=H1
  clear H1
  have H':=Am H
  clear H
  have Df:=Bj.out
  have Dg:=Bk.out
  have Bu:w9.cell? ⟨Be,0,none⟩=some (.slice A0_0 l0_0.length c0_0):=(bC Ba.out 0).trans rfl
  have Bv:w9.cell? ⟨Be,1,none⟩=some (.int .i64 a0_1):=(bC Ba.out 1).trans rfl
  have Bw:=bF Ba.out 0
  have Bx:=bF Ba.out 1
  go_wp2_with (first|((with_reducible refine gate_callee (f:=16) rfl ?_);refine goesL_ (some 13) rfl rfl Try.func16 (by kernel_rfl) rfl #[.agg #[.slice A0_0 l0_0.length c0_0,.int .i64 a0_1]] rfl (by (try simp only [lM,lC,lN]);first|done|rfl|(simp only [lD,lT];rfl)) ?_;(with_reducible refine (impl_QueueOk.calls k _ _ l0_0 a0_1 false _ ?side1 ?side2 A10.out).mono ?_);(case side1=>repeat (first|exact (cB HR0_0.out HB.out)|(with_reducible refine cA ?_ _)|(with_reducible refine cN ?_ _)|(with_reducible refine cD ?_)));(case side2=>exact HC0_0.out);rintro e w17 ⟨rfl,hb⟩;refine ⟨_,rfl,?_⟩;have n0_:=Am (bB (g:=Be) (o:=.cells #[.slice A0_0 l0_0.length c0_0,.int .i64 a0_1] 25 (0,0)) (bL Ba.out) hb);have n1_:=Am (bB (g:=Bf) (o:=.cells #[.slice none 0 0,.int .i64 0] 25 (0,0)) (bL Bc.out) hb);have n2_:=Am (bP (by repeat (first|(with_reducible first|exact HB.out|apply oA|apply pN|apply o1|refine bS ?_ Bh.out|refine bS ?_ Bi.out)|exact HB.out)) hb);clear Ba Bc HB;revert n0_ n1_ n2_;intro Ba Bc HB;(try clear hb);(try clear hb2);(try clear hk);(try clear hi)))
  go_meet
  case rel=>exact ⟨_,(true),(by first|rfl|(simp;done)|(simp [*];done)),H',⟨by first|omega|exact Nat.le_refl _⟩,⟨by (with_reducible repeat (first|refine bN ?_ _|refine bD ?_|refine bA ?_ _));exact Ba.out⟩,⟨by (with_reducible repeat (first|refine bN ?_ _|refine bD ?_|refine bA ?_ _));exact Bc.out⟩,⟨by repeat (first|(with_reducible first|exact HB.out|apply oA|apply pN|apply o1|refine bS ?_ Bh.out|refine bS ?_ Bi.out)|exact HB.out)⟩⟩
 case rest =>
  clear HC4
  try clear c1
  try clear p2
  try clear c3
  try clear c7
  try clear c11
  try clear c12
  try clear c13
  try clear c15
  try clear c16
  try clear Bq
  try clear Br
  try clear Bu
  try clear Bv
  try clear By
  try clear Bz
  try clear Bs
  try clear Bt
  try clear Bw
  try clear Bx
  try clear BA
  try clear BB
  obtain ⟨kq,x18_3,rfl,HA,Dx,Ba,Bc,HB⟩:=hcut
  cases kq with
 |zero=>exact absurd HA.out (by simp [impl_QueueWake.j0])
 |succ kj3 =>
   have H:=HA.out
   clear HA
   simp only [impl_QueueWake.j0] at H
   by_cases c18:x18_3=true
   ·subst c18
    have H1:(some (([]:List (S40)),0,false))=some (r1,r2,r3):=by rw [if_pos rfl] at H;exact H
    clear H
    have H:=H1
    clear H1
    simp only [Option.some.injEq,Prod.mk.injEq] at H
    obtain ⟨rfl,rfl,rfl⟩:=H
    have Dh:=Bk.out
    have Di:=Bj.out
    have BE:wc.cell? ⟨Bf,0,none⟩=some (.slice none 0 0):=(bC Bc.out 0).trans rfl
    have BF:wc.cell? ⟨Bf,1,none⟩=some (.int .i64 0):=(bC Bc.out 1).trans rfl
    have BG:=bF Bc.out 0
    have BH:=bF Bc.out 1
    go_wp2
    refine bodyPost_ret (results_ct rfl _ _ Bf 25 #[.slice none 0 0,.int .i64 0] (0,0) _ rfl (by (with_reducible repeat (first|refine bN ?_ _|refine bD ?_|refine bA ?_ _));refine blk_put (cs:=#[.slice none 0 0,.int .i64 0]) ?_ 1 _ rfl;(with_reducible repeat (first|refine bN ?_ _|refine bD ?_|refine bA ?_ _));refine blk_put (cs:=#[.slice none 0 0,.int .i64 0]) ?_ 0 _ rfl;(with_reducible repeat (first|refine bN ?_ _|refine bD ?_|refine bA ?_ _));exact Bc.out) Try.underlying25 rfl (by kernel_rfl)) rfl ?_
    exact ⟨_,by first|rfl|(simp [errW_none,errW_some] <;> rfl)|(simp [*,errW_none,errW_some] <;> rfl),by first|exact Kd.R_nil _ _ _ _ _|exact Kd.N_nil _ _ _ _ _|exact Kd.V_nil _ _ _ _ _|exact Kd.Q_nil _ _ _ _ _|exact Kd.S_nil _ _ _ _ _,by repeat (first|(with_reducible first|exact HB.out|apply oA|apply pN|apply o1|refine bS ?_ Bh.out|refine bS ?_ Bi.out)|exact HB.out)⟩
   replace c18:=Bool.eq_false_iff.mpr c18
   subst c18
   have H1:((impl_Queue_clone.f l0_0 a0_1).bind fun bt243=>(if 0≤t241 then (if t241<(bt243.1.length:Int) then (if ((rd_T40 bt243.1 t241).f3=true) then (some (bt243.1,bt243.2,true)) else ((some (bt243.1.set (t241:Int).toNat (⟨(rd_T40 bt243.1 t241).f0,(rd_T40 bt243.1 t241).f1,(rd_T40 bt243.1 t241).f2,true⟩:S40):List (S40))).bind fun y249=>(some ((y249.set (t241:Int).toNat (⟨(rd_T40 y249 t241).f0,(rd_T40 y249 t241).f1,mx ((rd_T40 bt243.1 t241).f2) bt243.2,(rd_T40 y249 t241).f3⟩:S40)),bt243.2,true)))) else (none)) else (none)))=some (r1,r2,r3):=by rw [if_neg (show ¬ (false=true) by decide)] at H;exact H
   clear H
   have H:=H1
   clear H1
   replace H:=oC H
   obtain ⟨⟨t243,t246⟩,A210,H⟩:=H
   replace H:(if 0≤t241 then (if t241<(t243.length:Int) then (if ((rd_T40 t243 t241).f3=true) then (some (t243,t246,true)) else ((some (t243.set (t241:Int).toNat (⟨(rd_T40 t243 t241).f0,(rd_T40 t243 t241).f1,(rd_T40 t243 t241).f2,true⟩:S40):List (S40))).bind fun y249=>(some ((y249.set (t241:Int).toNat (⟨(rd_T40 y249 t241).f0,(rd_T40 y249 t241).f1,mx ((rd_T40 t243 t241).f2) t246,(rd_T40 y249 t241).f3⟩:S40)),t246,true)))) else (none)) else (none))=some (r1,r2,r3):=H
   have A21:=Am A210
   clear A210
   by_cases c22:0≤t241
   rotate_left
   ·rw [if_neg c22] at H
    exact absurd H (by simp)

   rw [if_pos c22] at H
   have c22b0:decide (0≤t241)=true:=decide_eq_true c22
   clear c22
   by_cases c23:t241<(t243.length:Int)
   rotate_left
   ·rw [if_neg c23] at H
    exact absurd H (by simp)
   rw [if_pos c23] at H
   have c23b0:decide (t241<(t243.length:Int))=true:=decide_eq_true c23
   clear c23
   obtain ⟨bq24,hbq24⟩:∃ b_:Bool,b_=((rd_T40 t243 t241).f3):=⟨_,rfl⟩
   replace H:(if (bq24=true) then (some (t243,t246,true)) else ((some (t243.set (t241:Int).toNat (⟨(rd_T40 t243 t241).f0,(rd_T40 t243 t241).f1,(rd_T40 t243 t241).f2,true⟩:S40):List (S40))).bind fun y249=>(some ((y249.set (t241:Int).toNat (⟨(rd_T40 y249 t241).f0,(rd_T40 y249 t241).f1,mx ((rd_T40 t243 t241).f2) t246,(rd_T40 y249 t241).f3⟩:S40)),t246,true))))=some (r1,r2,r3):=by rw [← hbq24] at H;exact H
   have Nbq24:=Am hbq24
   clear hbq24
   by_cases c25:(bq24=true)
   ·subst c25
    have H1:(some (t243,t246,true))=some (r1,r2,r3):=by rw [if_pos rfl] at H;exact H
    clear H
    have H:=H1
    clear H1
    simp only [Option.some.injEq,Prod.mk.injEq] at H
    obtain ⟨rfl,rfl,rfl⟩:=H
    have Dj:=Bj.out
    have Dk:=Bk.out
    have BI:wc.cell? ⟨Be,0,none⟩=some (.slice A0_0 l0_0.length c0_0):=(bC Ba.out 0).trans rfl
    have BJ:wc.cell? ⟨Be,1,none⟩=some (.int .i64 a0_1):=(bC Ba.out 1).trans rfl
    have BK:=bF Ba.out 0
    have BL:=bF Ba.out 1
    go_wp2_with (first|((with_reducible refine gate_callee (f:=37) rfl ?_);refine goesL_ (some 21) rfl rfl Try.func37 (by kernel_rfl) rfl #[.agg #[.slice A0_0 l0_0.length c0_0,.int .i64 a0_1]] rfl (by (try simp only [lM,lC,lN]);first|done|rfl|(simp only [lD,lT];rfl)) ?_;(with_reducible refine (impl_Queue_clone.calls _ _ l0_0 a0_1 t243 t246 _ ?side1 ?side2 A21.out).mono ?_);(case side1=>repeat (first|exact (cB HR0_0.out HB.out)|(with_reducible refine cA ?_ _)|(with_reducible refine cN ?_ _)|(with_reducible refine cD ?_)));(case side2=>exact HC0_0.out);rintro e w28 ⟨v244,rfl,ho0,hb⟩;refine ⟨_,rfl,?_⟩;have n0_:=Am (Kd.R_lower ho0 (bZ (by repeat (first|(with_reducible first|exact HB.out|apply oA|apply pN|apply o1|refine bS ?_ Bh.out|refine bS ?_ Bi.out)|exact HB.out))));have n1_:=Am (bB (g:=Be) (o:=.cells #[.slice A0_0 l0_0.length c0_0,.int .i64 a0_1] 25 (0,0)) (bL Ba.out) hb);have n2_:=Am (bB (g:=Bf) (o:=.cells #[.slice none 0 0,.int .i64 0] 25 (0,0)) (bL Bc.out) hb);have n3_:=Am (bP (by repeat (first|(with_reducible first|exact HB.out|apply oA|apply pN|apply o1|refine bS ?_ Bh.out|refine bS ?_ Bi.out)|exact HB.out)) hb);clear Ba Bc HB;revert n0_ n1_ n2_ n3_;intro Bd Ba Bc HB;(try clear hb);(try clear hb2);(try clear hk);(try clear hi);(try clear ho0))|((with_reducible refine gate_dst (N:=7) rfl ?_);refine box_event ?hg (N:=7) ?hd (cs:=#[.slice none 0 0,.int .i64 0]) (t:=25) ?hr ?_;(case hd=>rfl);(case hg=>rfl);(case hr=>first|(go_simp;done)|(go_simp;rfl));intro Bb hg w29 hbox hb;have n0_:=Am (rB (rL Bd.out) hb);have n1_:=Am (bB (g:=Be) (o:=.cells #[.slice A0_0 l0_0.length c0_0,.int .i64 a0_1] 25 (0,0)) (bL Ba.out) hb);have n2_:=Am (bB (g:=Bf) (o:=.cells #[.slice none 0 0,.int .i64 0] 25 (0,0)) (bL Bc.out) hb);have n3_:=Am (bP (by repeat (first|(with_reducible first|exact HB.out|apply oA|apply pN|apply o1|refine bS ?_ Bh.out|refine bS ?_ Bi.out)|exact HB.out)) hb);have n4_:=Am (hbox);have n5_:=Am ((by rw [hg];exact (bZ (by repeat (first|(with_reducible first|exact HB.out|apply oA|apply pN|apply o1|refine bS ?_ Bh.out|refine bS ?_ Bi.out)|exact HB.out))):w.heap.size≤Bb));have n6_:=Am ((by rw [hg];exact (bZ (by repeat (first|(with_reducible first|exact HB.out|apply oA|apply pN|apply o1|refine bS ?_ Bh.out|refine bS ?_ Bi.out)|exact HB.out))):w.heap.size≤Bb));have n7_:=Am ((by rw [hg];exact Nat.ne_of_lt (blk_lt (g:=Be) (o:=.cells #[.slice A0_0 l0_0.length c0_0,.int .i64 a0_1] 25 (0,0)) (bL Ba.out)):Be≠Bb));have n8_:=Am ((by rw [hg];exact Nat.ne_of_gt (blk_lt (g:=Be) (o:=.cells #[.slice A0_0 l0_0.length c0_0,.int .i64 a0_1] 25 (0,0)) (bL Ba.out)):Bb≠Be));have n9_:=Am ((by rw [hg];exact Nat.ne_of_lt (blk_lt (g:=Bf) (o:=.cells #[.slice none 0 0,.int .i64 0] 25 (0,0)) (bL Bc.out)):Bf≠Bb));have n10_:=Am ((by rw [hg];exact Nat.ne_of_gt (blk_lt (g:=Bf) (o:=.cells #[.slice none 0 0,.int .i64 0] 25 (0,0)) (bL Bc.out)):Bb≠Bf));clear Bd Ba Bc HB;revert n0_ n1_ n2_ n3_ n4_ n5_ n6_ n7_ n8_ n9_ n10_;intro Bd Ba Bc HB Bg BD Bp Bm Bn Bl Bo;clear hb hbox hg;obtain ⟨Ao30,co30,eo30⟩:=Kd.R_slice Bd.out;subst eo30;have Dl:=Bn.out;have Dm:=Bm.out;have Dn:=Bo.out;have Do:=Bl.out;have BM:w29.cell? ⟨Bb,0,none⟩=some (.slice none 0 0):=(bC Bg.out 0).trans rfl;have BN:w29.cell? ⟨Bb,1,none⟩=some (.int .i64 0):=(bC Bg.out 1).trans rfl;have BO:=bF Bg.out 0;have BP:=bF Bg.out 1;have p248:0≤(t241:Int):=of_decide_eq_true (by first|(with_reducible assumption)|assumption);have q248:t241<(t243.length:Int):=of_decide_eq_true (by first|(with_reducible assumption)|assumption);obtain ⟨ad248,e248,hx248_0,hx248_1,hx248_2,hx248_3⟩:=at_T40 (Kd.R_reads' Bd.out).2.2 t241 p248 q248;(try rw [← Nbq24.out] at hx248_3);cases e248;have hn248_0:ad248.block≠Bb:=Kd.own_blk (Kd.R_ne Bd.out Bg.out (by decide));have hn248_1:ad248.block≠Bb:=Kd.own_blk (Kd.R_ne Bd.out Bg.out (by decide));replace hx248_0:=(cell_far (p:=⟨Bb,0,none⟩) (by first|(rw [add_block];exact hn248_0)|(show (Addr.add _ _).block≠_;rw [add_block];exact hn248_0)|exact hn248_0) (.slice (some ad248) t243.length co30)).trans hx248_0;replace hx248_1:=(cell_far (p:=⟨Bb,0,none⟩) (by first|(rw [add_block];exact hn248_0)|(show (Addr.add _ _).block≠_;rw [add_block];exact hn248_0)|exact hn248_0) (.slice (some ad248) t243.length co30)).trans hx248_1;replace hx248_2:=(cell_far (p:=⟨Bb,0,none⟩) (by first|(rw [add_block];exact hn248_0)|(show (Addr.add _ _).block≠_;rw [add_block];exact hn248_0)|exact hn248_0) (.slice (some ad248) t243.length co30)).trans hx248_2;replace hx248_3:=(cell_far (p:=⟨Bb,0,none⟩) (by first|(rw [add_block];exact hn248_0)|(show (Addr.add _ _).block≠_;rw [add_block];exact hn248_0)|exact hn248_0) (.slice (some ad248) t243.length co30)).trans hx248_3;replace hx248_0:=(cell_far (p:=⟨Bb,1,none⟩) (by first|(rw [add_block];exact hn248_1)|(show (Addr.add _ _).block≠_;rw [add_block];exact hn248_1)|exact hn248_1) (.int .i64 t246)).trans hx248_0;replace hx248_1:=(cell_far (p:=⟨Bb,1,none⟩) (by first|(rw [add_block];exact hn248_1)|(show (Addr.add _ _).block≠_;rw [add_block];exact hn248_1)|exact hn248_1) (.int .i64 t246)).trans hx248_1;replace hx248_2:=(cell_far (p:=⟨Bb,1,none⟩) (by first|(rw [add_block];exact hn248_1)|(show (Addr.add _ _).block≠_;rw [add_block];exact hn248_1)|exact hn248_1) (.int .i64 t246)).trans hx248_2;replace hx248_3:=(cell_far (p:=⟨Bb,1,none⟩) (by first|(rw [add_block];exact hn248_1)|(show (Addr.add _ _).block≠_;rw [add_block];exact hn248_1)|exact hn248_1) (.int .i64 t246)).trans hx248_3;clear hn248_0 hn248_1;replace p248:=eq_true p248;replace q248:=eq_true q248;have BQ:w29.cell? ⟨Bf,0,none⟩=some (.slice none 0 0):=(bC Bc.out 0).trans rfl;have BR:w29.cell? ⟨Bf,1,none⟩=some (.int .i64 0):=(bC Bc.out 1).trans rfl;have BS:=bF Bc.out 0;have BT:=bF Bc.out 1))
    refine bodyPost_ret (results_ct rfl _ _ Bf 25 #[.slice (some ad248) t243.length co30,.int .i64 t246] (0,0) _ rfl (by (with_reducible repeat (first|refine bN ?_ _|refine bD ?_|refine bA ?_ _));refine blk_put (cs:=#[.slice (some ad248) t243.length co30,.int .i64 0]) ?_ 1 _ rfl;(with_reducible repeat (first|refine bN ?_ _|refine bD ?_|refine bA ?_ _));refine blk_put (cs:=#[.slice none 0 0,.int .i64 0]) ?_ 0 _ rfl;(with_reducible repeat (first|refine bN ?_ _|refine bD ?_|refine bA ?_ _|refine blk_far ?_ Bl.out _));exact Bc.out) Try.underlying25 rfl (by kernel_rfl)) rfl ?_
    exact ⟨_,by first|rfl|(simp [errW_none,errW_some] <;> rfl)|(simp [*,errW_none,errW_some] <;> rfl),by (with_reducible repeat (first|apply rA|apply rN|apply rD));exact rM (rF (p:=⟨Bf,1,none⟩) (rF (p:=⟨Bf,0,none⟩) (rF (p:=⟨Bb,1,none⟩) (rF (p:=⟨Bb,0,none⟩) (rT (rT Bd.out Bg.out (by decide)) Bc.out (by decide)) (fun _ hk=>hk.1.2) (.slice (some ad248) t243.length co30)) (fun _ hk=>hk.1.2) (.int .i64 t246)) (fun _ hk=>hk.2) (.slice (some ad248) t243.length co30)) (fun _ hk=>hk.2) (.int .i64 t246)) (fun _ hk=>trivial),by repeat (first|(with_reducible first|exact HB.out|apply oA|apply pN|apply o1|refine bS ?_ Bh.out|refine bS ?_ Bi.out|refine bS ?_ Bp.out)|exact HB.out)⟩
   replace c25:=Bool.eq_false_iff.mpr c25
   subst c25
   have H1:((some (t243.set (t241:Int).toNat (⟨(rd_T40 t243 t241).f0,(rd_T40 t243 t241).f1,(rd_T40 t243 t241).f2,true⟩:S40):List (S40))).bind fun y249=>(some ((y249.set (t241:Int).toNat (⟨(rd_T40 y249 t241).f0,(rd_T40 y249 t241).f1,mx ((rd_T40 t243 t241).f2) t246,(rd_T40 y249 t241).f3⟩:S40)),t246,true)))=some (r1,r2,r3):=by rw [if_neg (show ¬ (false=true) by decide)] at H;exact H
   clear H
   have H:=H1
   clear H1
   obtain ⟨ji36,hji36⟩:∃ j_:Int,(mx ((rd_T40 t243 t241).f2) t246)=j_:=⟨_,rfl⟩
   replace H:((some (t243.set (t241:Int).toNat (⟨(rd_T40 t243 t241).f0,(rd_T40 t243 t241).f1,(rd_T40 t243 t241).f2,true⟩:S40):List (S40))).bind fun y249=>(some ((y249.set (t241:Int).toNat (⟨(rd_T40 y249 t241).f0,(rd_T40 y249 t241).f1,ji36,(rd_T40 y249 t241).f3⟩:S40)),t246,true)))=some (r1,r2,r3):=by first|(rw [hji36] at H;exact H)|(simp only [hji36] at H ⊢;exact H)
   (try rw [hji36] at A21)
   have hji36_:(if ((rd_T40 t243 t241).f2)<t246 then t246 else ((rd_T40 t243 t241).f2))=ji36:=hji36
   obtain ⟨y249,hy249⟩:∃ y_:List (S40),y_=(t243.set (t241:Int).toNat (⟨(rd_T40 t243 t241).f0,(rd_T40 t243 t241).f1,(rd_T40 t243 t241).f2,true⟩:S40)):=⟨_,rfl⟩
   replace H:(some ((y249.set (t241:Int).toNat (⟨(rd_T40 y249 t241).f0,(rd_T40 y249 t241).f1,ji36,(rd_T40 y249 t241).f3⟩:S40)),t246,true))=some (r1,r2,r3):=by first|(rw [hy249];with_reducible exact H)|(have H2_:=(Option.bind_some _ _).symm.trans H;rw [hy249];with_reducible exact H2_)|(have H2_:=(Option.bind_some _ _).symm.trans H;with_reducible exact H2_)|with_reducible exact H|(rw [hy249];exact H)|exact H
   have Ny249:=Am hy249
   clear hy249
   obtain ⟨y250,hy250⟩:∃ y_:List (S40),y_=(y249.set (t241:Int).toNat (⟨(rd_T40 y249 t241).f0,(rd_T40 y249 t241).f1,ji36,(rd_T40 y249 t241).f3⟩:S40)):=⟨_,rfl⟩
   replace H:(some (y250,t246,true))=some (r1,r2,r3):=by first|(rw [hy250];with_reducible exact H)|(have H2_:=(Option.bind_some _ _).symm.trans H;rw [hy250];with_reducible exact H2_)|(have H2_:=(Option.bind_some _ _).symm.trans H;with_reducible exact H2_)|with_reducible exact H|(rw [hy250];exact H)|exact H
   have Ny250:=Am hy250
   clear hy250
   simp only [Option.some.injEq,Prod.mk.injEq] at H
   obtain ⟨rfl,rfl,rfl⟩:=H
   have Dp:=Bj.out
   have Dq:=Bk.out
   have BU:wc.cell? ⟨Be,0,none⟩=some (.slice A0_0 l0_0.length c0_0):=(bC Ba.out 0).trans rfl
   have BV:wc.cell? ⟨Be,1,none⟩=some (.int .i64 a0_1):=(bC Ba.out 1).trans rfl
   have BW:=bF Ba.out 0
   have BX:=bF Ba.out 1
   try go_wp2_with (first|((with_reducible refine gate_callee (f:=37) rfl ?_);refine goesL_ (some 21) rfl rfl Try.func37 (by kernel_rfl) rfl #[.agg #[.slice A0_0 l0_0.length c0_0,.int .i64 a0_1]] rfl (by (try simp only [lM,lC,lN]);first|done|rfl|(simp only [lD,lT];rfl)) ?_;(with_reducible refine (impl_Queue_clone.calls _ _ l0_0 a0_1 t243 t246 _ ?side1 ?side2 A21.out).mono ?_);(case side1=>repeat (first|exact (cB HR0_0.out HB.out)|(with_reducible refine cA ?_ _)|(with_reducible refine cN ?_ _)|(with_reducible refine cD ?_)));(case side2=>exact HC0_0.out);rintro e w39 ⟨v244,rfl,ho0,hb⟩;refine ⟨_,rfl,?_⟩;have n0_:=Am (Kd.R_lower ho0 (bZ (by repeat (first|(with_reducible first|exact HB.out|apply oA|apply pN|apply o1|refine bS ?_ Bh.out|refine bS ?_ Bi.out)|exact HB.out))));have n1_:=Am (bB (g:=Be) (o:=.cells #[.slice A0_0 l0_0.length c0_0,.int .i64 a0_1] 25 (0,0)) (bL Ba.out) hb);have n2_:=Am (bB (g:=Bf) (o:=.cells #[.slice none 0 0,.int .i64 0] 25 (0,0)) (bL Bc.out) hb);have n3_:=Am (bP (by repeat (first|(with_reducible first|exact HB.out|apply oA|apply pN|apply o1|refine bS ?_ Bh.out|refine bS ?_ Bi.out)|exact HB.out)) hb);clear Ba Bc HB;revert n0_ n1_ n2_ n3_;intro Bd Ba Bc HB;(try clear hb);(try clear hb2);(try clear hk);(try clear hi);(try clear ho0))|((with_reducible refine gate_dst (N:=7) rfl ?_);refine box_event ?hg (N:=7) ?hd (cs:=#[.slice none 0 0,.int .i64 0]) (t:=25) ?hr ?_;(case hd=>rfl);(case hg=>rfl);(case hr=>first|(go_simp;done)|(go_simp;rfl));intro Bb hg w40 hbox hb;have n0_:=Am (rB (rL Bd.out) hb);have n1_:=Am (bB (g:=Be) (o:=.cells #[.slice A0_0 l0_0.length c0_0,.int .i64 a0_1] 25 (0,0)) (bL Ba.out) hb);have n2_:=Am (bB (g:=Bf) (o:=.cells #[.slice none 0 0,.int .i64 0] 25 (0,0)) (bL Bc.out) hb);have n3_:=Am (bP (by repeat (first|(with_reducible first|exact HB.out|apply oA|apply pN|apply o1|refine bS ?_ Bh.out|refine bS ?_ Bi.out)|exact HB.out)) hb);have n4_:=Am (hbox);have n5_:=Am ((by rw [hg];exact (bZ (by repeat (first|(with_reducible first|exact HB.out|apply oA|apply pN|apply o1|refine bS ?_ Bh.out|refine bS ?_ Bi.out)|exact HB.out))):w.heap.size≤Bb));have n6_:=Am ((by rw [hg];exact (bZ (by repeat (first|(with_reducible first|exact HB.out|apply oA|apply pN|apply o1|refine bS ?_ Bh.out|refine bS ?_ Bi.out)|exact HB.out))):w.heap.size≤Bb));have n7_:=Am ((by rw [hg];exact Nat.ne_of_lt (blk_lt (g:=Be) (o:=.cells #[.slice A0_0 l0_0.length c0_0,.int .i64 a0_1] 25 (0,0)) (bL Ba.out)):Be≠Bb));have n8_:=Am ((by rw [hg];exact Nat.ne_of_gt (blk_lt (g:=Be) (o:=.cells #[.slice A0_0 l0_0.length c0_0,.int .i64 a0_1] 25 (0,0)) (bL Ba.out)):Bb≠Be));have n9_:=Am ((by rw [hg];exact Nat.ne_of_lt (blk_lt (g:=Bf) (o:=.cells #[.slice none 0 0,.int .i64 0] 25 (0,0)) (bL Bc.out)):Bf≠Bb));have n10_:=Am ((by rw [hg];exact Nat.ne_of_gt (blk_lt (g:=Bf) (o:=.cells #[.slice none 0 0,.int .i64 0] 25 (0,0)) (bL Bc.out)):Bb≠Bf));clear Bd Ba Bc HB;revert n0_ n1_ n2_ n3_ n4_ n5_ n6_ n7_ n8_ n9_ n10_;intro Bd Ba Bc HB Bg BD Bp Bm Bn Bl Bo;clear hb hbox hg;obtain ⟨Ao41,co41,eo41⟩:=Kd.R_slice Bd.out;subst eo41;have Dr:=Bn.out;have Ds:=Bm.out;have Dt:=Bo.out;have Du:=Bl.out;have BY:w40.cell? ⟨Bb,0,none⟩=some (.slice none 0 0):=(bC Bg.out 0).trans rfl;have BZ:w40.cell? ⟨Bb,1,none⟩=some (.int .i64 0):=(bC Bg.out 1).trans rfl;have B0:=bF Bg.out 0;have B1:=bF Bg.out 1;have p248:0≤(t241:Int):=of_decide_eq_true (by first|(with_reducible assumption)|assumption);have q248:t241<(t243.length:Int):=of_decide_eq_true (by first|(with_reducible assumption)|assumption);obtain ⟨ad248,e248,hx248_0,hx248_1,hx248_2,hx248_3⟩:=at_T40 (Kd.R_reads' Bd.out).2.2 t241 p248 q248;(try rw [← Nbq24.out] at hx248_3);cases e248;have hn248_0:ad248.block≠Bb:=Kd.own_blk (Kd.R_ne Bd.out Bg.out (by decide));have hn248_1:ad248.block≠Bb:=Kd.own_blk (Kd.R_ne Bd.out Bg.out (by decide));replace hx248_0:=(cell_far (p:=⟨Bb,0,none⟩) (by first|(rw [add_block];exact hn248_0)|(show (Addr.add _ _).block≠_;rw [add_block];exact hn248_0)|exact hn248_0) (.slice (some ad248) t243.length co41)).trans hx248_0;replace hx248_1:=(cell_far (p:=⟨Bb,0,none⟩) (by first|(rw [add_block];exact hn248_0)|(show (Addr.add _ _).block≠_;rw [add_block];exact hn248_0)|exact hn248_0) (.slice (some ad248) t243.length co41)).trans hx248_1;replace hx248_2:=(cell_far (p:=⟨Bb,0,none⟩) (by first|(rw [add_block];exact hn248_0)|(show (Addr.add _ _).block≠_;rw [add_block];exact hn248_0)|exact hn248_0) (.slice (some ad248) t243.length co41)).trans hx248_2;replace hx248_3:=(cell_far (p:=⟨Bb,0,none⟩) (by first|(rw [add_block];exact hn248_0)|(show (Addr.add _ _).block≠_;rw [add_block];exact hn248_0)|exact hn248_0) (.slice (some ad248) t243.length co41)).trans hx248_3;replace hx248_0:=(cell_far (p:=⟨Bb,1,none⟩) (by first|(rw [add_block];exact hn248_1)|(show (Addr.add _ _).block≠_;rw [add_block];exact hn248_1)|exact hn248_1) (.int .i64 t246)).trans hx248_0;replace hx248_1:=(cell_far (p:=⟨Bb,1,none⟩) (by first|(rw [add_block];exact hn248_1)|(show (Addr.add _ _).block≠_;rw [add_block];exact hn248_1)|exact hn248_1) (.int .i64 t246)).trans hx248_1;replace hx248_2:=(cell_far (p:=⟨Bb,1,none⟩) (by first|(rw [add_block];exact hn248_1)|(show (Addr.add _ _).block≠_;rw [add_block];exact hn248_1)|exact hn248_1) (.int .i64 t246)).trans hx248_2;replace hx248_3:=(cell_far (p:=⟨Bb,1,none⟩) (by first|(rw [add_block];exact hn248_1)|(show (Addr.add _ _).block≠_;rw [add_block];exact hn248_1)|exact hn248_1) (.int .i64 t246)).trans hx248_3;clear hn248_0 hn248_1;replace p248:=eq_true p248;replace q248:=eq_true q248))
   have n0_:Aside0 (Kd.R k40 40 ((w40.setCell ⟨Bb,0,none⟩ (.slice (some ad248) t243.length co41)).setCell ⟨Bb,1,none⟩ (.int .i64 t246)) w.heap.size (fun _=>True) (.slice (some ad248) t243.length co41) t243):=⟨by (with_reducible repeat (first|apply rA|apply rN|apply rD));exact rM (rF (p:=⟨Bb,1,none⟩) (rF (p:=⟨Bb,0,none⟩) (rT Bd.out Bg.out (by decide)) (fun _ hk=>hk.2) (.slice (some ad248) t243.length co41)) (fun _ hk=>hk.2) (.int .i64 t246)) (fun _ hk=>trivial)⟩
   have n1_:Aside0 (((w40.setCell ⟨Bb,0,none⟩ (.slice (some ad248) t243.length co41)).setCell ⟨Bb,1,none⟩ (.int .i64 t246)).heap[Be]?=some (.cells #[.slice A0_0 l0_0.length c0_0,.int .i64 a0_1] 25 (0,0))):=⟨by (with_reducible repeat (first|refine bN ?_ _|refine bD ?_|refine bA ?_ _|refine blk_far ?_ Bm.out _));exact Ba.out⟩
   have n2_:Aside0 (((w40.setCell ⟨Bb,0,none⟩ (.slice (some ad248) t243.length co41)).setCell ⟨Bb,1,none⟩ (.int .i64 t246)).heap[Bf]?=some (.cells #[.slice none 0 0,.int .i64 0] 25 (0,0))):=⟨by (with_reducible repeat (first|refine bN ?_ _|refine bD ?_|refine bA ?_ _|refine blk_far ?_ Bl.out _));exact Bc.out⟩
   have n3_:Aside0 (((w40.setCell ⟨Bb,0,none⟩ (.slice (some ad248) t243.length co41)).setCell ⟨Bb,1,none⟩ (.int .i64 t246)).heap[Bb]?=some (.cells #[.slice (some ad248) t243.length co41,.int .i64 t246] 25 (0,0))):=⟨by (with_reducible repeat (first|refine bN ?_ _|refine bD ?_|refine bA ?_ _));refine blk_put (cs:=#[.slice (some ad248) t243.length co41,.int .i64 0]) ?_ 1 _ rfl;(with_reducible repeat (first|refine bN ?_ _|refine bD ?_|refine bA ?_ _));refine blk_put (cs:=#[.slice none 0 0,.int .i64 0]) ?_ 0 _ rfl;(with_reducible repeat (first|refine bN ?_ _|refine bD ?_|refine bA ?_ _));exact Bg.out⟩
   have n4_:Aside0 (Below w.heap.size w ((w40.setCell ⟨Bb,0,none⟩ (.slice (some ad248) t243.length co41)).setCell ⟨Bb,1,none⟩ (.int .i64 t246))):=⟨by repeat (first|(with_reducible first|exact HB.out|apply oA|apply pN|apply o1|refine bS ?_ Bh.out|refine bS ?_ Bi.out|refine bS ?_ Bp.out)|exact HB.out)⟩
   (try clear Bd)
   (try clear Ba)
   (try clear Bc)
   (try clear Bg)
   (try clear HB)
   generalize ((w40.setCell ⟨Bb,0,none⟩ (.slice (some ad248) t243.length co41)).setCell ⟨Bb,1,none⟩ (.int .i64 t246))=w45 at n0_ n1_ n2_ n3_ n4_ ⊢
   have Bd:=n0_
   have Ba:=n1_
   have Bc:=n2_
   have Bg:=n3_
   have HB:=n4_
   clear n0_ n1_ n2_ n3_ n4_
   have n0_:=Am (rD Bd.out)
   have n1_:=Am (bD Ba.out)
   have n2_:=Am (bD Bc.out)
   have n3_:=Am (bD Bg.out)
   have n4_:=Am (o1 HB.out)
   clear Bd
   clear Ba
   clear Bc
   clear Bg
   clear HB
   have Bd:=n0_
   have Ba:=n1_
   have Bc:=n2_
   have Bg:=n3_
   have HB:=n4_
   clear n0_ n1_ n2_ n3_ n4_
   have p35:0≤(t241:Int):=of_decide_eq_true (by first|(with_reducible assumption)|assumption)
   have q35:(t241:Int)<((t243.length:Int):Int):=of_decide_eq_true (by first|(with_reducible assumption)|assumption)
   obtain ⟨go35,co35,eo35,BC,gl35,cl35,HG35⟩:=Kd.R_form Bd.out (by omega)
   (first|cases eo35|(injection eo35 with ea_ en_ ec_;(first|subst ea_|(injection ea_ with ea_;subst ea_));subst ec_;clear en_))
   have GB35:=Am BC
   have GG35:=Am HG35
   clear BC gl35 HG35
   (first|simp only [add_plain] at hx248_0|skip)
   (first|simp only [add_plain] at hx248_1|skip)
   (first|simp only [add_plain] at hx248_2|skip)
   (first|simp only [add_plain] at hx248_3|skip)
   obtain ⟨ce35,hcl35,hM35,hcc35,hfr35⟩:=Kd.R_elem Bd.out z40 (t241:Int) p35 q35
   obtain rfl:=k40_openM hM35
   have hx35_0:World.cell? _ ⟨go35,(t241:Int).toNat * 4,none⟩=some (.int .i64 ((rd_T40 t243 t241).f0)):=hcc35 0 _ rfl
   have hx35_1:World.cell? _ ⟨go35,(t241:Int).toNat * 4 + 1,none⟩=some (.int .i64 ((rd_T40 t243 t241).f1)):=hcc35 1 _ rfl
   have hx35_2:World.cell? _ ⟨go35,(t241:Int).toNat * 4 + 2,none⟩=some (.int .i64 ((rd_T40 t243 t241).f2)):=hcc35 2 _ rfl
   have hx35_3:World.cell? _ ⟨go35,(t241:Int).toNat * 4 + 3,none⟩=some (.bool ((rd_T40 t243 t241).f3)):=hcc35 3 _ rfl
   have hf35_0:World.frozen? _ ⟨go35,(t241:Int).toNat * 4,none⟩=false:=hfr35 0
   have hf35_1:World.frozen? _ ⟨go35,(t241:Int).toNat * 4 + 1,none⟩=false:=hfr35 1
   have hf35_2:World.frozen? _ ⟨go35,(t241:Int).toNat * 4 + 2,none⟩=false:=hfr35 2
   have hf35_3:World.frozen? _ ⟨go35,(t241:Int).toNat * 4 + 3,none⟩=false:=hfr35 3
   clear hcl35 hcc35 hfr35 hM35
   replace p35:=eq_true p35
   replace q35:=eq_true q35
   obtain ⟨ce47,hcl47,hM47,hcc47,hfr47⟩:=Kd.R_elem Bd.out z40 (t241:Int) (of_decide_eq_true (by first|(with_reducible assumption)|assumption)) (by have h_:(t241:Int)<((t243.length:Int):Int):=of_decide_eq_true (by first|(with_reducible assumption)|assumption);first|exact h_|(have e_:=(Kd.R_reads' Bd.out).1;omega)|simpa using h_)
   obtain rfl:=k40_openM hM47
   have HP47:=(Kd.R_seg Bd.out (t241:Int) (of_decide_eq_true (by first|(with_reducible assumption)|assumption)) (by have h_:(t241:Int)<((t243.length:Int):Int):=of_decide_eq_true (by first|(with_reducible assumption)|assumption);first|exact h_|(have e_:=(Kd.R_reads' Bd.out).1;omega)|simpa using h_) (seg:=[.bool true]) (j:=3) hcl47 hcc47 (show 4≤4 from by decide) (x':=(⟨(rd_T40 t243 t241).f0,(rd_T40 t243 t241).f1,(rd_T40 t243 t241).f2,true⟩:S40)) (k40_mkM _ _ _ (⟨(rd_T40 t243 t241).f0,(rd_T40 t243 t241).f1,(rd_T40 t243 t241).f2,true⟩:S40) ) (fun _ hk=>hk)).1
   rw [← Ny249.out] at HP47
   have HQ47:=Am HP47
   clear hcl47 hcc47 hfr47 hM47 HP47
   obtain ⟨ce48,hcl48,hM48,hcc48,hfr48⟩:=Kd.R_elem HQ47.out z40 (t241:Int) (of_decide_eq_true (by first|(with_reducible assumption)|assumption)) (by have h_:(t241:Int)<((t243.length:Int):Int):=of_decide_eq_true (by first|(with_reducible assumption)|assumption);first|exact h_|(have e_:=(Kd.R_reads' Bd.out).1;omega)|simpa using h_)
   obtain rfl:=k40_openM hM48
   have HP48:=(Kd.R_seg HQ47.out (t241:Int) (of_decide_eq_true (by first|(with_reducible assumption)|assumption)) (by have h_:(t241:Int)<((t243.length:Int):Int):=of_decide_eq_true (by first|(with_reducible assumption)|assumption);first|exact h_|(have e_:=(Kd.R_reads' Bd.out).1;omega)|simpa using h_) (seg:=[.int .i64 ji36]) (j:=2) hcl48 hcc48 (show 3≤4 from by decide) (x':=(⟨(rd_T40 y249 t241).f0,(rd_T40 y249 t241).f1,ji36,(rd_T40 y249 t241).f3⟩:S40)) (k40_mkM _ _ _ (⟨(rd_T40 y249 t241).f0,(rd_T40 y249 t241).f1,ji36,(rd_T40 y249 t241).f3⟩:S40) ) (fun _ hk=>hk)).1
   rw [← Ny250.out] at HP48
   have HQ48:=Am HP48
   clear hcl48 hcc48 hfr48 hM48 HP48
   refine start_ (n:=15) (S:=fun w'=>w'.cell? ⟨Bb,0,none⟩=some (.slice (some ⟨go35,0,none⟩) t243.length co41)∧w'.cell? ⟨Bb,1,none⟩=some (.int .i64 t246)∧w'.cell? ⟨go35,(t241:Int).toNat * 4 + 2,none⟩=some (.int .i64 ((rd_T40 t243 t241).f2))) (ds:=[14]) z13q0 (by kernel_rfl) rfl rfl ⟨(bC Bg.out 0).trans rfl,(bC Bg.out 1).trans rfl,hx35_2⟩ (fun hHeld=>?_);refine with_st impl_QueueWake.tab7 impl_QueueWake.bits7 (fun _ _ _ _ _ h=>h) (fun HT_=>?_)
   generalize w45.drew=w46 at Bd Ba Bc Bg HB GG35 HQ47 HQ48 hf35_0 hf35_1 hf35_2 hf35_3 hx248_0 hx248_1 hx248_2 hx248_3 hx35_0 hx35_1 hx35_2 hx35_3 hHeld ⊢
   refine pS 0 31 z13q1 HT_ rfl rfl (by kernel_rfl) (by rfl) (by intro w';go_simp;with_reducible rfl) (by simp only [Act.put,lA,lZ,lS,iw,jw];rfl) ?_
   refine pS 2 33 z13q2 HT_ rfl rfl (by kernel_rfl) (by rfl) (by intro w';go_simp;with_reducible rfl) (by simp only [Act.put,lA,lZ,lS,iw,jw];rfl) ?_
   refine pS 6 37 z13q3 HT_ rfl rfl (by kernel_rfl) (by rfl) (by intro w';go_simp;with_reducible rfl) (by simp only [Act.put,lA,lZ,lS,iw,jw];rfl) ?_
   refine tS 1 32 z13q4 HT_ hHeld rfl rfl (by kernel_rfl) (by rfl) (by rintro w' ⟨s0,s1,s2⟩;go_simp;with_reducible rfl) (by simp only [Act.put,lA,lZ,lS,iw,jw];rfl) ?_
   refine pS 3 34 z13q5 HT_ rfl rfl (by kernel_rfl) (by rfl) (by intro w';go_simp;with_reducible rfl) (by simp only [Act.put,lA,lZ,lS,iw,jw];rfl) ?_
   refine pS 4 35 z13q6 HT_ rfl rfl (by kernel_rfl) (by rfl) (by intro w';go_simp;with_reducible rfl) (by simp only [Act.put,lA,lZ,lS,iw,jw];rfl) ?_
   refine tS 5 36 z13q7 HT_ hHeld rfl rfl (by kernel_rfl) (by rfl) (by rintro w' ⟨s0,s1,s2⟩;go_simp;with_reducible rfl) (by simp only [Act.put,lA,lZ,lS,iw,jw];rfl) ?_
   refine pS 9 40 z13q8 HT_ rfl rfl (by kernel_rfl) (by rfl) (by intro w';go_simp;with_reducible rfl) (by simp only [Act.put,lA,lZ,lS,iw,jw];rfl) ?_
   refine pS 10 41 z13q9 HT_ rfl rfl (by kernel_rfl) (by rfl) (by intro w';go_simp;with_reducible rfl) (by simp only [Act.put,lA,lZ,lS,iw,jw];rfl) ?_
   refine tS 7 38 z13q10 HT_ hHeld rfl rfl (by kernel_rfl) (by rfl) (by rintro w' ⟨s0,s1,s2⟩;go_simp;with_reducible rfl) (by simp only [Act.put,lA,lZ,lS,iw,jw];rfl) ?_
   refine pS 8 39 z13q11 HT_ rfl rfl (by kernel_rfl) (by rfl) (by intro w';go_simp;with_reducible rfl) (by simp only [Act.put,lA,lZ,lS,iw,jw];rfl) ?_
   refine oU 11 none z13q12 HT_ rfl rfl (by kernel_rfl) (by decide) (fun K hK=>?_)
   refine skip_ (w1:=?_) (by rfl) rfl ?_ ?_
   rotate_left;(go_simp;rfl)
   refine hK.out _ _ ⟨((cell_far (fun h_=>Kd.R_ne Bd.out Bg.out (by decide) (congrArg some h_)) _).trans (hHeld.1)),((cell_far (fun h_=>Kd.R_ne Bd.out Bg.out (by decide) (congrArg some h_)) _).trans (hHeld.2.1)),(by simp [go_sem];exact hHeld.2.2)⟩ (fun hHeld=>?_)
   clear hK K
   refine pS 12 42 z13q13 HT_ rfl rfl (by kernel_rfl) (by rfl) (by intro w';go_simp;with_reducible rfl) (by simp only [Act.put,lA,lZ,lS,iw,jw];rfl) ?_
   refine pS 13 43 z13q14 HT_ rfl rfl (by kernel_rfl) (by rfl) (by intro w';go_simp;with_reducible rfl) (by simp only [Act.put,lA,lZ,lS,iw,jw];rfl) ?_
   refine last_ (i:=14) (N:=none) z13q15 rfl rfl (one_of HT_.out (by kernel_rfl)) (by decide) (fun K hK=>?_)
   refine skip_ (w1:=?_) (by rfl) rfl ?_ ?_
   rotate_left;(go_simp;rfl)
   refine hK.out _ _ ?_
   clear hK K
   refine done_ (done_of HT_.out (by kernel_rfl)) ?_
   have n0_:Aside0 (Kd.R k40 40 ((w46.setCell ⟨go35,(t241:Int).toNat * 4 + 3,none⟩ (.bool true)).setCell ⟨go35,(t241:Int).toNat * 4 + 2,none⟩ (.int .i64 ji36)) w.heap.size (fun _=>True) (.slice (some ⟨go35,0,none⟩) t243.length co41) y250):=⟨by (with_reducible repeat (first|apply rA|apply rN|apply rD));exact HQ48.out⟩
   have n1_:Aside0 (((w46.setCell ⟨go35,(t241:Int).toNat * 4 + 3,none⟩ (.bool true)).setCell ⟨go35,(t241:Int).toNat * 4 + 2,none⟩ (.int .i64 ji36)).heap[Be]?=some (.cells #[.slice A0_0 l0_0.length c0_0,.int .i64 a0_1] 25 (0,0))):=⟨by (with_reducible repeat (first|refine bN ?_ _|refine bD ?_|refine bA ?_ _));refine blk_far ?_ (by have h_:=Kd.R_ne Bd.out Ba.out (by decide);intro e_;exact h_ (by rw [e_];rfl)) _;(with_reducible repeat (first|refine bN ?_ _|refine bD ?_|refine bA ?_ _));refine blk_far ?_ (by have h_:=Kd.R_ne Bd.out Ba.out (by decide);intro e_;exact h_ (by rw [e_];rfl)) _;(with_reducible repeat (first|refine bN ?_ _|refine bD ?_|refine bA ?_ _));exact Ba.out⟩
   have n2_:Aside0 (((w46.setCell ⟨go35,(t241:Int).toNat * 4 + 3,none⟩ (.bool true)).setCell ⟨go35,(t241:Int).toNat * 4 + 2,none⟩ (.int .i64 ji36)).heap[Bf]?=some (.cells #[.slice none 0 0,.int .i64 0] 25 (0,0))):=⟨by (with_reducible repeat (first|refine bN ?_ _|refine bD ?_|refine bA ?_ _));refine blk_far ?_ (by have h_:=Kd.R_ne Bd.out Bc.out (by decide);intro e_;exact h_ (by rw [e_];rfl)) _;(with_reducible repeat (first|refine bN ?_ _|refine bD ?_|refine bA ?_ _));refine blk_far ?_ (by have h_:=Kd.R_ne Bd.out Bc.out (by decide);intro e_;exact h_ (by rw [e_];rfl)) _;(with_reducible repeat (first|refine bN ?_ _|refine bD ?_|refine bA ?_ _));exact Bc.out⟩
   have n3_:Aside0 (((w46.setCell ⟨go35,(t241:Int).toNat * 4 + 3,none⟩ (.bool true)).setCell ⟨go35,(t241:Int).toNat * 4 + 2,none⟩ (.int .i64 ji36)).heap[Bb]?=some (.cells #[.slice (some ⟨go35,0,none⟩) t243.length co41,.int .i64 t246] 25 (0,0))):=⟨by (with_reducible repeat (first|refine bN ?_ _|refine bD ?_|refine bA ?_ _));refine blk_far ?_ (by have h_:=Kd.R_ne Bd.out Bg.out (by decide);intro e_;exact h_ (by rw [e_];rfl)) _;(with_reducible repeat (first|refine bN ?_ _|refine bD ?_|refine bA ?_ _));refine blk_far ?_ (by have h_:=Kd.R_ne Bd.out Bg.out (by decide);intro e_;exact h_ (by rw [e_];rfl)) _;(with_reducible repeat (first|refine bN ?_ _|refine bD ?_|refine bA ?_ _));exact Bg.out⟩
   have n4_:Aside0 (Below w.heap.size w ((w46.setCell ⟨go35,(t241:Int).toNat * 4 + 3,none⟩ (.bool true)).setCell ⟨go35,(t241:Int).toNat * 4 + 2,none⟩ (.int .i64 ji36))):=⟨by repeat (first|(with_reducible first|exact HB.out|apply oA|apply pN|apply o1|refine bS ?_ GB35.out|refine bS ?_ GB35.out|refine bS ?_ Bh.out|refine bS ?_ Bi.out|refine bS ?_ Bp.out)|exact HB.out)⟩
   (try clear Bd)
   (try clear Ba)
   (try clear Bc)
   (try clear Bg)
   (try clear HB)
   generalize ((w46.setCell ⟨go35,(t241:Int).toNat * 4 + 3,none⟩ (.bool true)).setCell ⟨go35,(t241:Int).toNat * 4 + 2,none⟩ (.int .i64 ji36))=w49 at n0_ n1_ n2_ n3_ n4_ ⊢
   have Bd:=n0_
   have Ba:=n1_
   have Bc:=n2_
   have Bg:=n3_
   have HB:=n4_
   clear n0_ n1_ n2_ n3_ n4_
   have B2:w49.cell? ⟨Bb,0,none⟩=some (.slice (some ⟨go35,0,none⟩) t243.length co41):=(bC Bg.out 0).trans rfl
   have B3:w49.cell? ⟨Bb,1,none⟩=some (.int .i64 t246):=(bC Bg.out 1).trans rfl
   have B4:=bF Bg.out 0
   have B5:=bF Bg.out 1
   have B6:w49.cell? ⟨Bf,0,none⟩=some (.slice none 0 0):=(bC Bc.out 0).trans rfl
   have B8:w49.cell? ⟨Bf,1,none⟩=some (.int .i64 0):=(bC Bc.out 1).trans rfl
   have B9:=bF Bc.out 0
   have Da:=bF Bc.out 1
   try go_wp2
   refine bodyPost_ret (results_ct rfl _ _ Bf 25 #[.slice (some ⟨go35,0,none⟩) t243.length co41,.int .i64 t246] (0,0) _ rfl (by (with_reducible repeat (first|refine bN ?_ _|refine bD ?_|refine bA ?_ _));refine blk_put (cs:=#[.slice (some ⟨go35,0,none⟩) t243.length co41,.int .i64 0]) ?_ 1 _ rfl;(with_reducible repeat (first|refine bN ?_ _|refine bD ?_|refine bA ?_ _));refine blk_put (cs:=#[.slice none 0 0,.int .i64 0]) ?_ 0 _ rfl;(with_reducible repeat (first|refine bN ?_ _|refine bD ?_|refine bA ?_ _));exact Bc.out) Try.underlying25 rfl (by kernel_rfl)) rfl ?_
   exact ⟨_,by first|rfl|(simp [errW_none,errW_some] <;> rfl)|(simp only [← hji36];first|rfl|(simp [errW_none,errW_some] <;> rfl))|(simp [*,errW_none,errW_some] <;> rfl),by (with_reducible repeat (first|apply rA|apply rN|apply rD));exact rM (rF (p:=⟨Bf,1,none⟩) (rF (p:=⟨Bf,0,none⟩) (rT Bd.out Bc.out (by decide)) (fun _ hk=>hk.2) (.slice (some ⟨go35,0,none⟩) t243.length co41)) (fun _ hk=>hk.2) (.int .i64 t246)) (fun _ hk=>trivial),by repeat (first|(with_reducible first|exact HB.out|apply oA|apply pN|apply o1|refine bS ?_ Bh.out|refine bS ?_ Bi.out|refine bS ?_ Bp.out)|exact HB.out)⟩
end Go.Proofs.Ytfhcgmfodfcpeaa.PFnQueueWake
