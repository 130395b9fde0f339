/- Proved here, without a condition beyond those that each theorem states: what the Go functions named below do is what the plain functions of the same names say. Written by xprint.py, a program of this session. -/
import Derived.Test.YtehekikjadjdaaaPFnExactQueueLessx0
import Derived.Test.YtehekikjadjdaaaPFnExactQueueLessx4
import Derived.Test.YtehekikjadjdaaaPFnExactQueueLessx6
import Derived.Test.YtehekikjadjdaaaPFnExactQueueLessx7
namespace Go.Proofs.Ytehekikjadjdaaa.PFnExactQueueLess
open Go.RowKit Go.Proofs.YtehekikjadjdaaaW.PrintWords Go.Proofs.YtehekikjadjdaaaW.PrintLast Go.Proofs.YtehekikjadjdaaaW.PrintMore
attribute [local go_sem] max2_int min2_int max_two min_two max_three min_three max_four min_four   -- for this text's walks alone
set_option linter.unusedVariables false
set_option linter.unusedSimpArgs false

attribute [local go_sem ↓] isSome_setCell_
/-! ### spec_QueueLess: function 38 -/
def spec_QueueLess.f (k : Nat) (l0_0 : List (S86)) (a0_1 : Int) (a1 : Int) : Option ((List (S86)) × Int × Bool) := (spec_l11At.f k l0_0 a0_1 a1).bind fun t173 => ((spec_QueueOk.f k l0_0 a0_1).bind fun t174 => (if t174 = true then (if t173 < 0 then (some (([] : List (S86)), 0, false)) else ((spec_l11Less.f l0_0 a0_1 t173).bind fun bt175 => (some (bt175.1, bt175.2, true)))) else (some (([] : List (S86)), 0, false))))
theorem spec_QueueLess.mono : ∀ a0 a1 a2 k, LeO (spec_QueueLess.f k a0 a1 a2) (spec_QueueLess.f (k + 1) a0 a1 a2) := by
 intro a0 a1 a2 k
 unfold spec_QueueLess.f
 repeat' first
  |(with_reducible exact spec_QueueOk.mono _ _ _)
  |(with_reducible exact spec_l11At.mono _ _ _ _)
  |(with_reducible exact LeO.refl _)
  |(with_reducible exact LeO.none _)
  |(with_reducible refine LeO.ite ?_ ?_)
  |(with_reducible refine LeO.bind ?_ (fun _ => ?_))
  |exact spec_QueueOk.mono _ _ _
  |exact spec_l11At.mono _ _ _ _
  |exact LeO.none _
  |refine LeO.ite ?_ ?_
  |refine LeO.bind ?_ (fun _ => ?_)
set_option maxHeartbeats 2000000 in
set_option maxRecDepth 100000 in
theorem spec_QueueLess.calls (k:Nat) (A0_0:Option Addr) (c0_0:Nat) (l0_0:List (S86)) (a0_1:Int) (a1:Int) (r1:List (S86)) (r2:Int) (r3:Bool) (w:World) (hr0_0:Kd.C k86 w A0_0 l0_0.length l0_0) (hc0_0:l0_0.length≤c0_0) (h:spec_QueueLess.f k l0_0 a0_1 a1=some (r1,r2,r3)) :
  Calls Try.prog 38 #[.agg #[.slice A0_0 l0_0.length c0_0,.int .i64 a0_1],.int .i64 a1] w fun e w'=>∃ v0_:Value,e=.returned (.tuple #[.agg #[v0_,.int .i64 r2],.bool r3])∧Kd.R k86 86 w' w.heap.size (fun _=>True) v0_ r1∧Below w.heap.size w w':=by
 have hu47:=Try.underlying47
 have HR0_0:=Am hr0_0
 have HC0_0:=Am hc0_0
 clear hr0_0 hc0_0
 have HB:=Am (Below.refl w.heap.size w)
 have H:((spec_l11At.f k l0_0 a0_1 a1).bind fun t173=>((spec_QueueOk.f k l0_0 a0_1).bind fun t174=>(if t174=true then (if t173<0 then (some (([]:List (S86)),0,false)) else ((spec_l11Less.f l0_0 a0_1 t173).bind fun bt175=>(some (bt175.1,bt175.2,true)))) else (some (([]:List (S86)),0,false)))))=some (r1,r2,r3):=h
 clear h
 replace H:=oC H
 obtain ⟨t173,A30,H⟩:=H
 replace H:((spec_QueueOk.f k l0_0 a0_1).bind fun t174=>(if t174=true then (if t173<0 then (some (([]:List (S86)),0,false)) else ((spec_l11Less.f l0_0 a0_1 t173).bind fun bt175=>(some (bt175.1,bt175.2,true)))) else (some (([]:List (S86)),0,false))))=some (r1,r2,r3):=H
 have A3:=Am A30
 clear A30
 replace H:=oC H
 obtain ⟨t174,A40,H⟩:=H
 replace H:(if t174=true then (if t173<0 then (some (([]:List (S86)),0,false)) else ((spec_l11Less.f l0_0 a0_1 t173).bind fun bt175=>(some (bt175.1,bt175.2,true)))) else (some (([]:List (S86)),0,false)))=some (r1,r2,r3):=H
 have A4:=Am A40
 clear A40
 by_cases c5:t174=true
 rotate_left
 ·replace c5:=Bool.eq_false_iff.mpr c5
  subst c5
  have H1:(some (([]:List (S86)),0,false))=some (r1,r2,r3):=by rw [if_neg (show ¬ (false=true) by decide)] at H;exact H
  clear H
  have H:=H1
  clear H1
  simp only [Option.some.injEq,Prod.mk.injEq] at H
  obtain ⟨rfl,rfl,rfl⟩:=H
  go_enter Try.func38,Try.ntmps38
  go_wp2_with (first|((with_reducible refine gate_dst (N:=2) rfl ?_);refine box_event ?hg (N:=2) ?hd (cs:=#[.slice A0_0 l0_0.length c0_0,.int .i64 a0_1]) (t:=47) ?hr ?_;(case hd=>rfl);(case hg=>rfl);(case hr=>first|(go_simp;done)|(go_simp;rfl));intro Bb hg w27 hbox hb;have n0_:=Am (bP (by repeat (first|(with_reducible first|exact HB.out|apply oA|apply pN|apply o1)|exact HB.out)) hb);have n1_:=Am (hbox);have n2_:=Am ((by rw [hg];exact (bZ (by repeat (first|(with_reducible first|exact HB.out|apply oA|apply pN|apply o1)|exact HB.out))):w.heap.size≤Bb));have n3_:=Am ((by rw [hg];exact (bZ (by repeat (first|(with_reducible first|exact HB.out|apply oA|apply pN|apply o1)|exact HB.out))):w.heap.size≤Bb));clear HB;revert n0_ n1_ n2_ n3_;intro HB Ba Bi Be;clear hb hbox hg)|((with_reducible refine gate_dst (N:=4) rfl ?_);refine box_event ?hg (N:=4) ?hd (cs:=#[.slice none 0 0,.int .i64 0]) (t:=47) ?hr ?_;(case hd=>rfl);(case hg=>rfl);(case hr=>first|(go_simp;done)|(go_simp;rfl));intro Bd hg w28 hbox hb;have n0_:=Am (bX Ba.out hb);have n1_:=Am (bP (by repeat (first|(with_reducible first|exact HB.out|apply oA|apply pN|apply o1|refine bS ?_ Be.out)|exact HB.out)) hb);have n2_:=Am (hbox);have n3_:=Am ((by rw [hg];exact (bZ (by repeat (first|(with_reducible first|exact HB.out|apply oA|apply pN|apply o1|refine bS ?_ Be.out)|exact HB.out))):w.heap.size≤Bd));have n4_:=Am ((by rw [hg];exact (bZ (by repeat (first|(with_reducible first|exact HB.out|apply oA|apply pN|apply o1|refine bS ?_ Be.out)|exact HB.out))):w.heap.size≤Bd));have n5_:=Am ((nL Ba.out hg));have n6_:=Am ((nG Ba.out hg));clear Ba HB;revert n0_ n1_ n2_ n3_ n4_ n5_ n6_;intro Ba HB Bc Bj Bf Bg Bh;clear hb hbox hg;have B1:=Bg.out;have B2:=Bh.out;have BN:=cz0 Ba.out;have BO:=cz1 Ba.out;have BP:=bF Ba.out 0;have BQ:=bF Ba.out 1)|((with_reducible refine gate_callee (f:=69) rfl ?_);refine goesL_ (some 9) rfl rfl Try.func69 (by kernel_rfl) rfl #[.agg #[.slice A0_0 l0_0.length c0_0,.int .i64 a0_1],.int .i64 a1] rfl (by (try simp only [lM,lC,lN]);first|done|rfl|(simp only [lD,lT];rfl)) ?_;(with_reducible refine (spec_l11At.calls k _ _ l0_0 a0_1 a1 t173 _ ?side1 ?side2 A3.out).mono ?_);(case side1=>repeat (first|exact (cB HR0_0.out HB.out)|(with_reducible refine cA ?_ _)|(with_reducible refine cN ?_ _)|(with_reducible refine cD ?_)));(case side2=>exact HC0_0.out);rintro e w31 ⟨rfl,hb⟩;refine ⟨_,rfl,?_⟩;have n0_:=Am (bX Ba.out hb);have n1_:=Am (bX Bc.out hb);have n2_:=Am (bP (by repeat (first|(with_reducible first|exact HB.out|apply oA|apply pN|apply o1|refine bS ?_ Be.out|refine bS ?_ Bf.out)|exact HB.out)) hb);clear Ba Bc HB;revert n0_ n1_ n2_;intro Ba Bc HB;(try clear hb);(try clear hb2);(try clear hk);(try clear hi);have BR:=cz0 Ba.out;have BS:=cz1 Ba.out;have BT:=bF Ba.out 0;have BU:=bF Ba.out 1)|((with_reducible refine gate_callee (f:=70) rfl ?_);refine goesL_ (some 11) rfl rfl Try.func70 (by kernel_rfl) rfl #[.agg #[.slice A0_0 l0_0.length c0_0,.int .i64 a0_1]] rfl (by (try simp only [lM,lC,lN]);first|done|rfl|(simp only [lD,lT];rfl)) ?_;(with_reducible refine (spec_QueueOk.calls k _ _ l0_0 a0_1 false _ ?side1 ?side2 A4.out).mono ?_);(case side1=>repeat (first|exact (cB HR0_0.out HB.out)|(with_reducible refine cA ?_ _)|(with_reducible refine cN ?_ _)|(with_reducible refine cD ?_)));(case side2=>exact HC0_0.out);rintro e w33 ⟨rfl,hb⟩;refine ⟨_,rfl,?_⟩;have n0_:=Am (bX Ba.out hb);have n1_:=Am (bX Bc.out hb);have n2_:=Am (bP (by repeat (first|(with_reducible first|exact HB.out|apply oA|apply pN|apply o1|refine bS ?_ Be.out|refine bS ?_ Bf.out)|exact HB.out)) hb);clear Ba Bc HB;revert n0_ n1_ n2_;intro Ba Bc HB;(try clear hb);(try clear hb2);(try clear hk);(try clear hi);have BV:=cz0 Bc.out;have BW:=cz1 Bc.out;have BX:=bF Bc.out 0;have BY:=bF Bc.out 1))
  refine bodyPost_ret (results_ct rfl _ _ Bd 47 #[.slice none 0 0,.int .i64 0] (0,0) _ rfl (by (with_reducible repeat (first|refine bN ?_ _|refine bD ?_|refine bA ?_ _));refine blk_put (cs:=#[.slice none 0 0,.int .i64 0]) ?_ 1 _ rfl;(with_reducible repeat (first|refine bN ?_ _|refine bD ?_|refine bA ?_ _));refine blk_put (cs:=#[.slice none 0 0,.int .i64 0]) ?_ 0 _ rfl;(with_reducible repeat (first|refine bN ?_ _|refine bD ?_|refine bA ?_ _));exact Bc.out) Try.underlying47 rfl (by kernel_rfl)) rfl ?_
  exact ⟨_,by first|rfl|(simp [errW_none,errW_some] <;> rfl)|(simp [*,errW_none,errW_some] <;> rfl),by first|exact Kd.R_nil _ _ _ _ _|exact Kd.N_nil _ _ _ _ _|exact Kd.V_nil _ _ _ _ _|exact Kd.Q_nil _ _ _ _ _|exact Kd.S_nil _ _ _ _ _,by repeat (first|(with_reducible first|exact HB.out|apply oA|apply pN|apply o1|refine bS ?_ Be.out|refine bS ?_ Bf.out)|exact HB.out)⟩

 subst c5
 have H1:(if t173<0 then (some (([]:List (S86)),0,false)) else ((spec_l11Less.f l0_0 a0_1 t173).bind fun bt175=>(some (bt175.1,bt175.2,true))))=some (r1,r2,r3):=by rw [if_pos rfl] at H;exact H
 clear H
 have H:=H1
 clear H1
 by_cases c6:t173<0
 ·rw [if_pos c6] at H
  have c6b0:decide (t173<0)=true:=decide_eq_true c6
  clear c6
  simp only [Option.some.injEq,Prod.mk.injEq] at H
  obtain ⟨rfl,rfl,rfl⟩:=H
  go_enter Try.func38,Try.ntmps38
  go_wp2_with (first|((with_reducible refine gate_dst (N:=2) rfl ?_);refine box_event ?hg (N:=2) ?hd (cs:=#[.slice A0_0 l0_0.length c0_0,.int .i64 a0_1]) (t:=47) ?hr ?_;(case hd=>rfl);(case hg=>rfl);(case hr=>first|(go_simp;done)|(go_simp;rfl));intro Bb hg w7 hbox hb;have n0_:=Am (bP (by repeat (first|(with_reducible first|exact HB.out|apply oA|apply pN|apply o1)|exact HB.out)) hb);have n1_:=Am (hbox);have n2_:=Am ((by rw [hg];exact (bZ (by repeat (first|(with_reducible first|exact HB.out|apply oA|apply pN|apply o1)|exact HB.out))):w.heap.size≤Bb));have n3_:=Am ((by rw [hg];exact (bZ (by repeat (first|(with_reducible first|exact HB.out|apply oA|apply pN|apply o1)|exact HB.out))):w.heap.size≤Bb));clear HB;revert n0_ n1_ n2_ n3_;intro HB Ba Bi Be;clear hb hbox hg)|((with_reducible refine gate_dst (N:=4) rfl ?_);refine box_event ?hg (N:=4) ?hd (cs:=#[.slice none 0 0,.int .i64 0]) (t:=47) ?hr ?_;(case hd=>rfl);(case hg=>rfl);(case hr=>first|(go_simp;done)|(go_simp;rfl));intro Bd hg w8 hbox hb;have n0_:=Am (bX Ba.out hb);have n1_:=Am (bP (by repeat (first|(with_reducible first|exact HB.out|apply oA|apply pN|apply o1|refine bS ?_ Be.out)|exact HB.out)) hb);have n2_:=Am (hbox);have n3_:=Am ((by rw [hg];exact (bZ (by repeat (first|(with_reducible first|exact HB.out|apply oA|apply pN|apply o1|refine bS ?_ Be.out)|exact HB.out))):w.heap.size≤Bd));have n4_:=Am ((by rw [hg];exact (bZ (by repeat (first|(with_reducible first|exact HB.out|apply oA|apply pN|apply o1|refine bS ?_ Be.out)|exact HB.out))):w.heap.size≤Bd));have n5_:=Am ((nL Ba.out hg));have n6_:=Am ((nG Ba.out hg));clear Ba HB;revert n0_ n1_ n2_ n3_ n4_ n5_ n6_;intro Ba HB Bc Bj Bf Bg Bh;clear hb hbox hg;have B3:=Bg.out;have B4:=Bh.out;have Bl:=cz0 Ba.out;have Bm:=cz1 Ba.out;have Bn:=bF Ba.out 0;have Bo:=bF Ba.out 1)|((with_reducible refine gate_callee (f:=69) rfl ?_);refine goesL_ (some 9) rfl rfl Try.func69 (by kernel_rfl) rfl #[.agg #[.slice A0_0 l0_0.length c0_0,.int .i64 a0_1],.int .i64 a1] rfl (by (try simp only [lM,lC,lN]);first|done|rfl|(simp only [lD,lT];rfl)) ?_;(with_reducible refine (spec_l11At.calls k _ _ l0_0 a0_1 a1 t173 _ ?side1 ?side2 A3.out).mono ?_);(case side1=>repeat (first|exact (cB HR0_0.out HB.out)|(with_reducible refine cA ?_ _)|(with_reducible refine cN ?_ _)|(with_reducible refine cD ?_)));(case side2=>exact HC0_0.out);rintro e w11 ⟨rfl,hb⟩;refine ⟨_,rfl,?_⟩;have n0_:=Am (bX Ba.out hb);have n1_:=Am (bX Bc.out hb);have n2_:=Am (bP (by repeat (first|(with_reducible first|exact HB.out|apply oA|apply pN|apply o1|refine bS ?_ Be.out|refine bS ?_ Bf.out)|exact HB.out)) hb);clear Ba Bc HB;revert n0_ n1_ n2_;intro Ba Bc HB;(try clear hb);(try clear hb2);(try clear hk);(try clear hi);have Bp:=cz0 Ba.out;have Bq:=cz1 Ba.out;have Br:=bF Ba.out 0;have Bs:=bF Ba.out 1)|((with_reducible refine gate_callee (f:=70) rfl ?_);refine goesL_ (some 11) rfl rfl Try.func70 (by kernel_rfl) rfl #[.agg #[.slice A0_0 l0_0.length c0_0,.int .i64 a0_1]] rfl (by (try simp only [lM,lC,lN]);first|done|rfl|(simp only [lD,lT];rfl)) ?_;(with_reducible refine (spec_QueueOk.calls k _ _ l0_0 a0_1 true _ ?side1 ?side2 A4.out).mono ?_);(case side1=>repeat (first|exact (cB HR0_0.out HB.out)|(with_reducible refine cA ?_ _)|(with_reducible refine cN ?_ _)|(with_reducible refine cD ?_)));(case side2=>exact HC0_0.out);rintro e w13 ⟨rfl,hb⟩;refine ⟨_,rfl,?_⟩;have n0_:=Am (bX Ba.out hb);have n1_:=Am (bX Bc.out hb);have n2_:=Am (bP (by repeat (first|(with_reducible first|exact HB.out|apply oA|apply pN|apply o1|refine bS ?_ Be.out|refine bS ?_ Bf.out)|exact HB.out)) hb);clear Ba Bc HB;revert n0_ n1_ n2_;intro Ba Bc HB;(try clear hb);(try clear hb2);(try clear hk);(try clear hi);have Bt:=cz0 Bc.out;have Bu:=cz1 Bc.out;have Bv:=bF Bc.out 0;have Bw:=bF Bc.out 1))
  refine bodyPost_ret (results_ct rfl _ _ Bd 47 #[.slice none 0 0,.int .i64 0] (0,0) _ rfl (by (with_reducible repeat (first|refine bN ?_ _|refine bD ?_|refine bA ?_ _));refine blk_put (cs:=#[.slice none 0 0,.int .i64 0]) ?_ 1 _ rfl;(with_reducible repeat (first|refine bN ?_ _|refine bD ?_|refine bA ?_ _));refine blk_put (cs:=#[.slice none 0 0,.int .i64 0]) ?_ 0 _ rfl;(with_reducible repeat (first|refine bN ?_ _|refine bD ?_|refine bA ?_ _));exact Bc.out) Try.underlying47 rfl (by kernel_rfl)) rfl ?_
  exact ⟨_,by first|rfl|(simp [errW_none,errW_some] <;> rfl)|(simp [*,errW_none,errW_some] <;> rfl),by first|exact Kd.R_nil _ _ _ _ _|exact Kd.N_nil _ _ _ _ _|exact Kd.V_nil _ _ _ _ _|exact Kd.Q_nil _ _ _ _ _|exact Kd.S_nil _ _ _ _ _,by repeat (first|(with_reducible first|exact HB.out|apply oA|apply pN|apply o1|refine bS ?_ Be.out|refine bS ?_ Bf.out)|exact HB.out)⟩
 rw [if_neg c6] at H
 have c6b0:decide (t173<0)=false:=decide_eq_false c6
 clear c6
 replace H:=oC H
 obtain ⟨⟨t175,t178⟩,A150,H⟩:=H
 replace H:(some (t175,t178,true))=some (r1,r2,r3):=H
 have A15:=Am A150
 clear A150
 simp only [Option.some.injEq,Prod.mk.injEq] at H
 obtain ⟨rfl,rfl,rfl⟩:=H
 go_enter Try.func38,Try.ntmps38
 go_wp2_with (first|((with_reducible refine gate_dst (N:=2) rfl ?_);refine box_event ?hg (N:=2) ?hd (cs:=#[.slice A0_0 l0_0.length c0_0,.int .i64 a0_1]) (t:=47) ?hr ?_;(case hd=>rfl);(case hg=>rfl);(case hr=>first|(go_simp;done)|(go_simp;rfl));intro Bb hg w16 hbox hb;have n0_:=Am (bP (by repeat (first|(with_reducible first|exact HB.out|apply oA|apply pN|apply o1)|exact HB.out)) hb);have n1_:=Am (hbox);have n2_:=Am ((by rw [hg];exact (bZ (by repeat (first|(with_reducible first|exact HB.out|apply oA|apply pN|apply o1)|exact HB.out))):w.heap.size≤Bb));have n3_:=Am ((by rw [hg];exact (bZ (by repeat (first|(with_reducible first|exact HB.out|apply oA|apply pN|apply o1)|exact HB.out))):w.heap.size≤Bb));clear HB;revert n0_ n1_ n2_ n3_;intro HB Ba Bi Be;clear hb hbox hg)|((with_reducible refine gate_dst (N:=4) rfl ?_);refine box_event ?hg (N:=4) ?hd (cs:=#[.slice none 0 0,.int .i64 0]) (t:=47) ?hr ?_;(case hd=>rfl);(case hg=>rfl);(case hr=>first|(go_simp;done)|(go_simp;rfl));intro Bd hg w17 hbox hb;have n0_:=Am (bX Ba.out hb);have n1_:=Am (bP (by repeat (first|(with_reducible first|exact HB.out|apply oA|apply pN|apply o1|refine bS ?_ Be.out)|exact HB.out)) hb);have n2_:=Am (hbox);have n3_:=Am ((by rw [hg];exact (bZ (by repeat (first|(with_reducible first|exact HB.out|apply oA|apply pN|apply o1|refine bS ?_ Be.out)|exact HB.out))):w.heap.size≤Bd));have n4_:=Am ((by rw [hg];exact (bZ (by repeat (first|(with_reducible first|exact HB.out|apply oA|apply pN|apply o1|refine bS ?_ Be.out)|exact HB.out))):w.heap.size≤Bd));have n5_:=Am ((nL Ba.out hg));have n6_:=Am ((nG Ba.out hg));clear Ba HB;revert n0_ n1_ n2_ n3_ n4_ n5_ n6_;intro Ba HB Bc Bj Bf Bg Bh;clear hb hbox hg;have BZ:=Bg.out;have B0:=Bh.out;have Bx:=cz0 Ba.out;have By:=cz1 Ba.out;have Bz:=bF Ba.out 0;have BA:=bF Ba.out 1)|((with_reducible refine gate_callee (f:=69) rfl ?_);refine goesL_ (some 9) rfl rfl Try.func69 (by kernel_rfl) rfl #[.agg #[.slice A0_0 l0_0.length c0_0,.int .i64 a0_1],.int .i64 a1] rfl (by (try simp only [lM,lC,lN]);first|done|rfl|(simp only [lD,lT];rfl)) ?_;(with_reducible refine (spec_l11At.calls k _ _ l0_0 a0_1 a1 t173 _ ?side1 ?side2 A3.out).mono ?_);(case side1=>repeat (first|exact (cB HR0_0.out HB.out)|(with_reducible refine cA ?_ _)|(with_reducible refine cN ?_ _)|(with_reducible refine cD ?_)));(case side2=>exact HC0_0.out);rintro e w20 ⟨rfl,hb⟩;refine ⟨_,rfl,?_⟩;have n0_:=Am (bX Ba.out hb);have n1_:=Am (bX Bc.out hb);have n2_:=Am (bP (by repeat (first|(with_reducible first|exact HB.out|apply oA|apply pN|apply o1|refine bS ?_ Be.out|refine bS ?_ Bf.out)|exact HB.out)) hb);clear Ba Bc HB;revert n0_ n1_ n2_;intro Ba Bc HB;(try clear hb);(try clear hb2);(try clear hk);(try clear hi);have BB:=cz0 Ba.out;have BC:=cz1 Ba.out;have BD:=bF Ba.out 0;have BE:=bF Ba.out 1)|((with_reducible refine gate_callee (f:=70) rfl ?_);refine goesL_ (some 11) rfl rfl Try.func70 (by kernel_rfl) rfl #[.agg #[.slice A0_0 l0_0.length c0_0,.int .i64 a0_1]] rfl (by (try simp only [lM,lC,lN]);first|done|rfl|(simp only [lD,lT];rfl)) ?_;(with_reducible refine (spec_QueueOk.calls k _ _ l0_0 a0_1 true _ ?side1 ?side2 A4.out).mono ?_);(case side1=>repeat (first|exact (cB HR0_0.out HB.out)|(with_reducible refine cA ?_ _)|(with_reducible refine cN ?_ _)|(with_reducible refine cD ?_)));(case side2=>exact HC0_0.out);rintro e w22 ⟨rfl,hb⟩;refine ⟨_,rfl,?_⟩;have n0_:=Am (bX Ba.out hb);have n1_:=Am (bX Bc.out hb);have n2_:=Am (bP (by repeat (first|(with_reducible first|exact HB.out|apply oA|apply pN|apply o1|refine bS ?_ Be.out|refine bS ?_ Bf.out)|exact HB.out)) hb);clear Ba Bc HB;revert n0_ n1_ n2_;intro Ba Bc HB;(try clear hb);(try clear hb2);(try clear hk);(try clear hi);have BF:=cz0 Ba.out;have BG:=cz1 Ba.out;have BH:=bF Ba.out 0;have BI:=bF Ba.out 1)|((with_reducible refine gate_callee (f:=80) rfl ?_);refine goesL_ (some 20) rfl rfl Try.func80 (by kernel_rfl) rfl #[.agg #[.slice A0_0 l0_0.length c0_0,.int .i64 a0_1],.int .i64 t173] rfl (by (try simp only [lM,lC,lN]);first|done|rfl|(simp only [lD,lT];rfl)) ?_;(with_reducible refine (spec_l11Less.calls _ _ l0_0 a0_1 t173 t175 t178 _ ?side1 ?side2 A15.out).mono ?_);(case side1=>repeat (first|exact (cB HR0_0.out HB.out)|(with_reducible refine cA ?_ _)|(with_reducible refine cN ?_ _)|(with_reducible refine cD ?_)));(case side2=>exact HC0_0.out);rintro e w24 ⟨v176,rfl,ho0,hb⟩;refine ⟨_,rfl,?_⟩;have n0_:=Am (Kd.R_lower ho0 (bZ (by repeat (first|(with_reducible first|exact HB.out|apply oA|apply pN|apply o1|refine bS ?_ Be.out|refine bS ?_ Bf.out)|exact HB.out))));have n1_:=Am (bX Ba.out hb);have n2_:=Am (bX Bc.out hb);have n3_:=Am (bP (by repeat (first|(with_reducible first|exact HB.out|apply oA|apply pN|apply o1|refine bS ?_ Be.out|refine bS ?_ Bf.out)|exact HB.out)) hb);clear Ba Bc HB;revert n0_ n1_ n2_ n3_;intro Bk Ba Bc HB;(try clear hb);(try clear hb2);(try clear hk);(try clear hi);(try clear ho0);obtain ⟨Ao25,co25,eo25⟩:=Kd.R_slice Bk.out;subst eo25;have BJ:=cz0 Bc.out;have BK:=cz1 Bc.out;have BL:=bF Bc.out 0;have BM:=bF Bc.out 1))
 refine bodyPost_ret (results_ct rfl _ _ Bd 47 #[.slice Ao25 t175.length co25,.int .i64 t178] (0,0) _ rfl (by (with_reducible repeat (first|refine bN ?_ _|refine bD ?_|refine bA ?_ _));refine blk_put (cs:=#[.slice Ao25 t175.length co25,.int .i64 0]) ?_ 1 _ rfl;(with_reducible repeat (first|refine bN ?_ _|refine bD ?_|refine bA ?_ _));refine blk_put (cs:=#[.slice none 0 0,.int .i64 0]) ?_ 0 _ rfl;(with_reducible repeat (first|refine bN ?_ _|refine bD ?_|refine bA ?_ _));exact Bc.out) Try.underlying47 rfl (by kernel_rfl)) rfl ?_
 exact ⟨_,by first|rfl|(simp [errW_none,errW_some] <;> rfl)|(simp [*,errW_none,errW_some] <;> rfl),by (with_reducible repeat (first|apply rA|apply rN|apply rD));exact rM (rF (p:=⟨Bd,1,none⟩) (rF (p:=⟨Bd,0,none⟩) (rT Bk.out Bc.out (by decide)) (fun _ hk=>hk.2) (.slice Ao25 t175.length co25)) (fun _ hk=>hk.2) (.int .i64 t178)) (fun _ hk=>trivial),by repeat (first|(with_reducible first|exact HB.out|apply oA|apply pN|apply o1|refine bS ?_ Be.out|refine bS ?_ Bf.out)|exact HB.out)⟩
-- NOT PRINTED: function 101 (impl_Task_101)

/-! ### impl_Queue_at: function 73 -/
set_option maxRecDepth 100000 in
theorem impl_Queue_at.pred (x : S86) (id : Int) (pg : Nat) (w : World) (hc : w.heap[pg]? = some (.cells #[.int .i64 id] 3 (0, 0))) :
 Calls Try.prog 102 #[.agg #[.int .i64 x.f0, .int .i64 x.f1, .int .i64 x.f2, .bool x.f3], .pointer (some ⟨pg, 0, none⟩)] w fun e w' => e = .returned (.bool (x.f0 == id)) ∧ Below w.heap.size w w' := by
 have hu86 := Try.underlying86
 have HP := Am hc
 clear hc
 have HB := Am (Below.refl w.heap.size w)
 go_enter Try.func102, Try.ntmps102
 go_wp2_with (first|((with_reducible refine gate_dst (N := 2) rfl ?_);refine box_event ?hg (N := 2) ?hd (cs := #[.int .i64 x.f0, .int .i64 x.f1, .int .i64 x.f2, .bool x.f3]) (t := 86) ?hr ?_;(case hd => rfl);(case hg => rfl);(case hr => first|(go_simp;done)|(go_simp;rfl));intro gb hg w2 hbox hb;have n0_ := Am (bB (g := pg) (o := .cells #[.int .i64 id] 3 (0, 0)) HP.out hb);have n1_ := Am hb;have n2_ := Am hbox;clear HP HB hb hbox hg;have hcz : w2.cell? ⟨gb, 0, none⟩ = some (.int .i64 x.f0) := (bC n2_.out 0).trans rfl;have hpz : w2.cell? ⟨pg, 0, none⟩ = some (.int .i64 id) := (bC n0_.out 0).trans rfl))
 go_ret
 exact ⟨rfl, n1_.out⟩

def impl_Queue_at.idx (l : List S86) (id : Int) : Nat → Nat → Int
|0, _ => -1
|d + 1, i => if (rd_T86 l (i : Int)).f0 = id then (i : Int) else impl_Queue_at.idx l id d (i + 1)
set_option maxHeartbeats 2000000 in
set_option maxRecDepth 100000 in
theorem impl_Queue_at.index (A : Option Addr) (c : Nat) (l : List S86) (id : Int) (pg : Nat) (w : World) (hr : Kd.C k86 w A l.length l) (hc : w.heap[pg]? = some (.cells #[.int .i64 id] 3 (0, 0))) :
 Calls Try.prog 101 #[.slice A l.length c, .func (.func 102) #[] #[.pointer (some ⟨pg, 0, none⟩)]] w fun e w' => e = .returned (.int .i64 (impl_Queue_at.idx l id l.length 0)) ∧ Below w.heap.size w w' := by
 have hu86 := Try.underlying86
 have HR := Am hr
 have HP := Am hc
 have hmax := (show l.length ≤ 9223372036854775807 from hr.2.1)
 clear hc hr
 have HB := Am (Below.refl w.heap.size w)
 go_enter Try.func101, Try.ntmps101
 go_wp2
 go_loopg [5, 8] l.length (fun kq v5 v8 w' => ∃ x : Int, v8 = .int .i64 x ∧ Aside0 (0 ≤ x) ∧ Aside0 (x ≤ l.length) ∧ Aside0 (l.length - x.toNat ≤ kq) ∧ Aside0 (Below w.heap.size w w') ∧ Aside0 (impl_Queue_at.idx l id l.length 0 = impl_Queue_at.idx l id (l.length - x.toNat) x.toNat))
 case atStart => exact ⟨0, rfl, ⟨by omega⟩, ⟨by omega⟩, ⟨by omega⟩, HB, ⟨rfl⟩⟩
 case round =>
  obtain ⟨x, rfl, H0, H1, H2, BW, A1⟩ := hrel
  have Hm := Am hmax
  clear hmax
  by_cases hlt : x < (l.length : Int)
  rotate_left
  ·have c1 : decide (x < (l.length : Int)) = false := decide_eq_false hlt
   have hx : x.toNat = l.length := by have := H0.out;have := H1.out;omega
   have A2 : impl_Queue_at.idx l id l.length 0 = -1 := by rw [A1.out, hx, Nat.sub_self];rfl
   have A3 := Am A2
   clear A2 A1 hx hlt
   go_wp2
   go_ret
   exact ⟨by rw [A3.out];rfl, BW.out⟩
  have e1 : Aside0 (impl_Queue_at.idx l id (l.length - x.toNat) x.toNat = if (rd_T86 l x).f0 = id then x else impl_Queue_at.idx l id (l.length - (x.toNat + 1)) (x.toNat + 1)) := by
   have := H0.out
   refine ⟨?_⟩
   rw [show l.length - x.toNat = (l.length - (x.toNat + 1)) + 1 from by omega, impl_Queue_at.idx, show ((x.toNat : Nat) : Int) = x from by omega]
  obtain ⟨ad, e, hx0, hx1, hx2, hx3⟩ := at_T86 (cB HR.out BW.out) x H0.out hlt
  cases e
  have hp : Aside0 (wr.heap[pg]? = some (.cells #[.int .i64 id] 3 (0, 0))) := ⟨bB HP.out BW.out⟩
  have hcall := Am (impl_Queue_at.pred (rd_T86 l x) id pg wr hp.out)
  have c1 : decide (x < (l.length : Int)) = true := decide_eq_true hlt
  have c2 : decide (0 ≤ x) = true := decide_eq_true H0.out
  have p1 := eq_true H0.out
  have p2 := eq_true hlt
  clear hlt
  by_cases q : (rd_T86 l x).f0 = id
  ·have e2 := Am (show impl_Queue_at.idx l id l.length 0 = x by rw [A1.out, e1.out, if_pos q])
   rw [beq_iff_eq.mpr q] at hcall
   clear q e1 A1
   repeat go_step
   refine hcall.out.mono ?_
   rintro e w' ⟨rfl, hb'⟩
   have hb2 := Am (bP BW.out hb')
   clear hcall hb' BW
   go_wp2
   go_ret
   exact ⟨by rw [e2.out];rfl, hb2.out⟩
  have e2 := Am (show impl_Queue_at.idx l id l.length 0 = impl_Queue_at.idx l id (l.length - (x.toNat + 1)) (x.toNat + 1) by rw [A1.out, e1.out, if_neg q])
  rw [beq_eq_false_iff_ne.mpr q] at hcall
  have H3 := Am (of_decide_eq_true c1)
  clear q e1 A1
  repeat go_step
  refine hcall.out.mono ?_
  rintro e w' ⟨rfl, hb'⟩
  have hb2 := Am (bP BW.out hb')
  clear hcall hb' BW
  go_wp2
  go_roundg (l.length - (x.toNat + 1))
  case measure => have := H0.out;have := H2.out;have := H3.out;omega
  case rel =>
   have h0 := H0.out
   have h3 := H3.out
   have h4 := Hm.out
   have hw : wrap64 (x + 1) = x + 1 := by unfold wrap64;omega
   refine ⟨wrap64 (x + 1), (by first|rfl|(simp;done)|(simp [*];done)), ⟨by omega⟩, ⟨by omega⟩, ⟨by omega⟩, hb2, ⟨?_⟩⟩
   rw [e2.out, hw, show (x + 1).toNat = x.toNat + 1 from by omega]
def impl_Queue_at.f (l0_0 : List (S86)) (a0_1 : Int) (a1 : Int) : Option (Int) := some (impl_Queue_at.idx l0_0 a1 l0_0.length 0)
set_option maxHeartbeats 2000000 in
set_option maxRecDepth 100000 in
theorem impl_Queue_at.calls (A0_0:Option Addr) (c0_0:Nat) (l0_0:List (S86)) (a0_1:Int) (a1:Int) (r:Int) (w:World) (hr0_0:Kd.C k86 w A0_0 l0_0.length l0_0) (hc0_0:l0_0.length≤c0_0) (h:impl_Queue_at.f l0_0 a0_1 a1=some r) :
 Calls Try.prog 73 #[.agg #[.slice A0_0 l0_0.length c0_0,.int .i64 a0_1],.int .i64 a1] w fun e w'=>e=.returned (.int .i64 r)∧Below w.heap.size w w':=by
 have hu47:=Try.underlying47
 have HR:=Am hr0_0
 obtain rfl:=Option.some.inj h
 clear h hr0_0
 have HB:=Am (Below.refl w.heap.size w)
 go_enter Try.func73,Try.ntmps73
 go_upto_region 1 with (first|((with_reducible refine gate_dst (N:=2) rfl ?_);refine box_event ?hg (N:=2) ?hd (cs:=#[.slice A0_0 l0_0.length c0_0,.int .i64 a0_1]) (t:=47) ?hr ?_;(case hd=>rfl);(case hg=>rfl);(case hr=>first|(go_simp;done)|(go_simp;rfl));intro g1 hg w2 hbox hb;have n1_:=Am (bP HB.out hb);have n2_:=Am hbox;clear HB hb hbox hg;have hcz:=cz0 n2_.out)|((with_reducible refine gate_dst (N:=3) rfl ?_);refine box_event ?hg (N:=3) ?hd (cs:=#[.int .i64 a1]) (t:=3) ?hr ?_;(case hd=>rfl);(case hg=>rfl);(case hr=>first|(go_simp;done)|(go_simp;rfl));intro g2 hg w3 hbox hb;have n3_:=Am (bP n1_.out hb);have n4_:=Am (bB n2_.out hb);have n5_:=Am hbox;clear n1_ n2_ hb hbox hg hcz;have hcz:=cz0 n4_.out))
 have hcall:=Am (impl_Queue_at.index A0_0 c0_0 l0_0 a1 g2 w3 (cB HR.out n3_.out) n5_.out)
 repeat go_step
 refine hcall.out.mono ?_
 rintro e w' ⟨rfl,hb'⟩
 have hb2:=Am (bP n3_.out hb')
 clear hcall hb'
 go_wp2
 go_ret
 exact ⟨rfl,hb2.out⟩

/-! ### impl_in: function 67 -/
def impl_in.f (a0 : Int) (a1 : Int) (a2 : Int) : Option (Bool) := if a0 ≥ a1 then (some (decide (a0 ≤ a2))) else (some false)
set_option maxHeartbeats 2000000 in
set_option maxRecDepth 100000 in
theorem impl_in.calls (a0:Int) (a1:Int) (a2:Int) (r:Bool) (w:World) (h:impl_in.f a0 a1 a2=some r) :
  Calls Try.prog 67 #[.int .i64 a0,.int .i64 a1,.int .i64 a2] w fun e w'=>e=.returned (.bool r)∧Drawn0 w w':=by
 have H:(if a0 ≥ a1 then (some (decide (a0≤a2))) else (some false))=some r:=h
 clear h
 by_cases c4:a0 ≥ a1
 ·rw [if_pos c4] at H
  have c4b0:decide (a1≤a0)=true:=decide_eq_true c4
  clear c4
  obtain rfl:=Option.some.inj H
  go_enter Try.func67,Try.ntmps67
  go_wp2
  go_ret
  exact ⟨by first|rfl|(simp;done)|(simp [*];done),by repeat (first|exact Drawn0.refl _|apply Drawn0.step)⟩
 rw [if_neg c4] at H
 have c4b0:decide (a1≤a0)=false:=decide_eq_false c4
 clear c4
 obtain rfl:=Option.some.inj H
 go_enter Try.func67,Try.ntmps67
 go_wp2
 go_ret
 exact ⟨by first|rfl|(simp;done)|(simp [*];done),by repeat (first|exact Drawn0.refl _|apply Drawn0.step)⟩

end Go.Proofs.Ytehekikjadjdaaa.PFnExactQueueLess
