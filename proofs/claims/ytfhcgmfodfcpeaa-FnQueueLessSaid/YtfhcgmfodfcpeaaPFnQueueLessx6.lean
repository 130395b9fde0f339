/- Proved here, without a condition beyond those that each theorem states: what the Go functions named below do is what the plain functions of the same names say. Written by xprint.py, a program of this session. -/
import Derived.Test.YtfhcgmfodfcpeaaPFnQueueLessx0
namespace Go.Proofs.Ytfhcgmfodfcpeaa.PFnQueueLess
open Go.RowKit Go.Proofs.YtfhcgmfodfcpeaaW.PrintWords Go.Proofs.YtfhcgmfodfcpeaaW.PrintLast Go.Proofs.YtfhcgmfodfcpeaaW.PrintMore
attribute [local go_sem] max2_int min2_int max_two min_two max_three min_three max_four min_four   -- for this text's walks alone
set_option linter.unusedVariables false
set_option linter.unusedSimpArgs false

attribute [local go_sem ↓] isSome_setCell_
/-! ### spec_l11Wake: function 39 -/
def spec_l11Wake.f (l0_0 : List (S40)) (a0_1 : Int) (a1 : Int) : Option ((List (S40)) × Int) := if 0 ≤ a1 then (if a1 < (l0_0.length : Int) then (if ((rd_T40 l0_0 a1).f3 = true) then (some (l0_0, a0_1)) else ((some (l0_0.set (a1 : Int).toNat (⟨(rd_T40 l0_0 a1).f0, (rd_T40 l0_0 a1).f1, (rd_T40 l0_0 a1).f2, true⟩ : S40) : List (S40))).bind fun y133 => (some ((y133.set (a1 : Int).toNat (⟨(rd_T40 y133 a1).f0, (rd_T40 y133 a1).f1, mx ((rd_T40 y133 a1).f2) a0_1, (rd_T40 y133 a1).f3⟩ : S40)), a0_1)))) else (none)) else (none)
def spec_l11Wake.T3 : Bool × List (List Nat × List Nat) := (true, [([], []), ([0], [0]), ([], []), ([], []), ([3], [3]), ([], []), ([4, 5], [4, 5]), ([6], [6]), ([7], [7]), ([], []), ([9], [9]), ([8, 10], [8, 10]), ([1, 2, 0, 1, 2, 3, 4, 5, 6, 7, 8, 9, 10, 11], [1, 2]), ([12, 0, 1, 2, 3, 4, 5, 6, 7, 8, 9, 10, 11], [12]), ([13, 11, 0, 1, 2, 3, 4, 5, 6, 7, 8, 9, 10, 11], [11, 13])])
def spec_l11Wake.B3 : List Nat := [0, 1, 0, 0, 8, 0, 56, 120, 248, 0, 512, 2040, 4095, 8191, 16383]
theorem spec_l11Wake.tab3 : rtab .any (opsOf Try.f39 3) = spec_l11Wake.T3 := by kernel_rfl
theorem spec_l11Wake.bits3 : waitsOk spec_l11Wake.T3.2 spec_l11Wake.B3 = true := by kernel_rfl
abbrev z39q0 : Array Bool := bQ 15 0
abbrev z39q1 : Array Bool := bQ 15 1
abbrev z39q2 : Array Bool := bQ 15 5
abbrev z39q3 : Array Bool := bQ 15 13
abbrev z39q4 : Array Bool := bQ 15 45
abbrev z39q5 : Array Bool := bQ 15 557
abbrev z39q6 : Array Bool := bQ 15 559
abbrev z39q7 : Array Bool := bQ 15 575
abbrev z39q8 : Array Bool := bQ 15 639
abbrev z39q9 : Array Bool := bQ 15 767
abbrev z39q10 : Array Bool := bQ 15 1023
abbrev z39q11 : Array Bool := bQ 15 2047
abbrev z39q12 : Array Bool := bQ 15 4095
abbrev z39q13 : Array Bool := bQ 15 8191
abbrev z39q14 : Array Bool := bQ 15 16383
abbrev z39q15 : Array Bool := bQ 15 32767
set_option maxHeartbeats 2000000 in
set_option maxRecDepth 100000 in
theorem spec_l11Wake.calls (P0_0_:Nat → Prop) (u9000_:Value) (l0_0:List (S40)) (a0_1:Int) (a1:Int) (r1:List (S40)) (r2:Int) (w0 w:World) (hB:Below w0.heap.size w0 w) (ho0_0:Kd.R k40 40 w w0.heap.size P0_0_ u9000_ l0_0) (h:spec_l11Wake.f l0_0 a0_1 a1=some (r1,r2)) :
  Calls Try.prog 39 #[.agg #[u9000_,.int .i64 a0_1],.int .i64 a1] w fun e w'=>∃ v0_:Value,e=.returned (.agg #[v0_,.int .i64 r2])∧Kd.R k40 40 w' w0.heap.size (fun k_=>(P0_0_ k_∨w.heap.size≤k_)) v0_ r1∧Below w0.heap.size w0 w'∧Kept w w' (fun k_=>P0_0_ k_):=by
 have hu25:=Try.underlying25
 have Ba:=Am (show Kd.R k40 40 w w0.heap.size (fun k_=>(P0_0_ k_∨w.heap.size≤k_)) u9000_ l0_0 from rM ho0_0 (fun k_ hk=>(.inl hk)))
 have HK:=Am (Kept.refl w (fun k_=>P0_0_ k_))
 have HW0:=Am hB.size
 have HB:=Am hB
 clear hB
 have H:(if 0≤a1 then (if a1<(l0_0.length:Int) then (if ((rd_T40 l0_0 a1).f3=true) then (some (l0_0,a0_1)) else ((some (l0_0.set (a1:Int).toNat (⟨(rd_T40 l0_0 a1).f0,(rd_T40 l0_0 a1).f1,(rd_T40 l0_0 a1).f2,true⟩:S40):List (S40))).bind fun y133=>(some ((y133.set (a1:Int).toNat (⟨(rd_T40 y133 a1).f0,(rd_T40 y133 a1).f1,mx ((rd_T40 y133 a1).f2) a0_1,(rd_T40 y133 a1).f3⟩:S40)),a0_1)))) else (none)) else (none))=some (r1,r2):=h
 clear h
 by_cases c3:0≤a1
 rotate_left
 ·rw [if_neg c3] at H
  exact absurd H (by simp)

 rw [if_pos c3] at H
 have c3b0:decide (0≤a1)=true:=decide_eq_true c3
 clear c3
 by_cases c4:a1<(l0_0.length:Int)
 rotate_left
 ·rw [if_neg c4] at H
  exact absurd H (by simp)
 rw [if_pos c4] at H
 have c4b0:decide (a1<(l0_0.length:Int))=true:=decide_eq_true c4
 clear c4
 obtain ⟨bq5,hbq5⟩:∃ b_:Bool,b_=((rd_T40 l0_0 a1).f3):=⟨_,rfl⟩
 replace H:(if (bq5=true) then (some (l0_0,a0_1)) else ((some (l0_0.set (a1:Int).toNat (⟨(rd_T40 l0_0 a1).f0,(rd_T40 l0_0 a1).f1,(rd_T40 l0_0 a1).f2,true⟩:S40):List (S40))).bind fun y133=>(some ((y133.set (a1:Int).toNat (⟨(rd_T40 y133 a1).f0,(rd_T40 y133 a1).f1,mx ((rd_T40 y133 a1).f2) a0_1,(rd_T40 y133 a1).f3⟩:S40)),a0_1))))=some (r1,r2):=by rw [← hbq5] at H;exact H
 have Nbq5:=Am hbq5
 clear hbq5
 by_cases c6:(bq5=true)
 ·subst c6
  have H1:(some (l0_0,a0_1))=some (r1,r2):=by rw [if_pos rfl] at H;exact H
  clear H
  have H:=H1
  clear H1
  simp only [Option.some.injEq,Prod.mk.injEq] at H
  obtain ⟨rfl,rfl⟩:=H
  obtain ⟨Ao7,co7,eo7⟩:=Kd.R_slice Ba.out
  subst eo7
  go_enter Try.func39,Try.ntmps39
  go_wp2_with (first|((with_reducible refine gate_dst (N:=2) rfl ?_);refine box_event ?hg (N:=2) ?hd (cs:=#[.slice Ao7 l0_0.length co7,.int .i64 a0_1]) (t:=25) ?hr ?_;(case hd=>rfl);(case hg=>rfl);(case hr=>first|(go_simp;done)|(go_simp;rfl));intro Bc hg w8 hbox hb;have n0_:=Am (rB (rL Ba.out) hb);have n1_:=Am (Kept.below (S:=(fun k_=>P0_0_ k_)) (by repeat (first|(with_reducible first|exact HK.out|apply Kept.alloc|apply Kept.drewN|apply Kept.drew)|exact HK.out)) hb);have n2_:=Am (bP (by repeat (first|(with_reducible first|exact HB.out|apply oA|apply pN|apply o1)|exact HB.out)) hb);have n3_:=Am (hbox);have n4_:=Am ((by rw [hg];exact (by first|exact HK.out.1|exact (show Kept w _ (fun k_=>P0_0_ k_) from by repeat (first|(with_reducible first|exact HK.out|apply Kept.alloc|apply Kept.drewN|apply Kept.drew)|exact HK.out)).1):w.heap.size≤Bc));have n5_:=Am ((by rw [hg];exact (bZ (by repeat (first|(with_reducible first|exact HB.out|apply oA|apply pN|apply o1)|exact HB.out))):w0.heap.size≤Bc));clear Ba HK HB;revert n0_ n1_ n2_ n3_ n4_ n5_;intro Ba HK HB Bb Bf Bg;clear hb hbox hg)|((with_reducible refine gate_dst (N:=4) rfl ?_);refine box_event ?hg (N:=4) ?hd (cs:=#[.slice none 0 0,.int .i64 0]) (t:=25) ?hr ?_;(case hd=>rfl);(case hg=>rfl);(case hr=>first|(go_simp;done)|(go_simp;rfl));intro Be hg w9 hbox hb;have n0_:=Am (rB (rL Ba.out) hb);have n1_:=Am (bX Bb.out hb);have n2_:=Am (Kept.below (S:=(fun k_=>P0_0_ k_)) (by repeat (first|(with_reducible first|exact HK.out|apply Kept.alloc|apply Kept.drewN|apply Kept.drew|refine Kept.setCell ?_ (.inr Bf.out) _)|exact HK.out)) hb);have n3_:=Am (bP (by repeat (first|(with_reducible first|exact HB.out|apply oA|apply pN|apply o1|refine bS ?_ Bg.out)|exact HB.out)) hb);have n4_:=Am (hbox);have n5_:=Am ((by rw [hg];exact (by first|exact HK.out.1|exact (show Kept w _ (fun k_=>P0_0_ k_) from by repeat (first|(with_reducible first|exact HK.out|apply Kept.alloc|apply Kept.drewN|apply Kept.drew|refine Kept.setCell ?_ (.inr Bf.out) _)|exact HK.out)).1):w.heap.size≤Be));have n6_:=Am ((by rw [hg];exact (bZ (by repeat (first|(with_reducible first|exact HB.out|apply oA|apply pN|apply o1|refine bS ?_ Bg.out)|exact HB.out))):w0.heap.size≤Be));have n7_:=Am ((nL Bb.out hg));have n8_:=Am ((nG Bb.out hg));clear Ba Bb HK HB;revert n0_ n1_ n2_ n3_ n4_ n5_ n6_ n7_ n8_;intro Ba Bb HK HB Bd Bj Bk Bh Bi;clear hb hbox hg;have BG:=Bh.out;have BH:=Bi.out;have Bm:=cz0 Bb.out;have Bn:=cz1 Bb.out;have Bo:=bF Bb.out 0;have Bp:=bF Bb.out 1;have p132:0≤(a1:Int):=of_decide_eq_true (by first|(with_reducible assumption)|assumption);have q132:a1<(l0_0.length:Int):=of_decide_eq_true (by first|(with_reducible assumption)|assumption);obtain ⟨ad132,e132,hx132_0,hx132_1,hx132_2,hx132_3⟩:=at_T40 (Kd.R_reads' Ba.out).2.2 a1 p132 q132;(try rw [← Nbq5.out] at hx132_3);cases e132;replace p132:=eq_true p132;replace q132:=eq_true q132;have Bq:=cz0 Bd.out;have Br:=cz1 Bd.out;have Bs:=bF Bd.out 0;have Bt:=bF Bd.out 1))
  refine bodyPost_ret (results_cell_row rfl _ _ Be 25 #[.slice (some ad132) l0_0.length co7,.int .i64 a0_1] (0,0) _ rfl (by (with_reducible repeat (first|refine bN ?_ _|refine bD ?_|refine bA ?_ _));refine blk_put (cs:=#[.slice (some ad132) l0_0.length co7,.int .i64 0]) ?_ 1 _ rfl;(with_reducible repeat (first|refine bN ?_ _|refine bD ?_|refine bA ?_ _));refine blk_put (cs:=#[.slice none 0 0,.int .i64 0]) ?_ 0 _ rfl;(with_reducible repeat (first|refine bN ?_ _|refine bD ?_|refine bA ?_ _));exact Bd.out) Try.underlying25 rfl (by kernel_rfl)) rfl ?_
  exact ⟨_,by first|rfl|(simp [errW_none,errW_some] <;> rfl)|(simp [*,errW_none,errW_some] <;> rfl),by (with_reducible repeat (first|apply rA|apply rN|apply rD));exact rM (rF (p:=⟨Be,1,none⟩) (rF (p:=⟨Be,0,none⟩) (rT Ba.out Bd.out (by decide)) (fun _ hk=>hk.2) (.slice (some ad132) l0_0.length co7)) (fun _ hk=>hk.2) (.int .i64 a0_1)) (fun _ hk=>hk.1),by repeat (first|(with_reducible first|exact HB.out|apply oA|apply pN|apply o1|refine bS ?_ Bg.out|refine bS ?_ Bk.out)|exact HB.out),by repeat (first|(with_reducible first|exact HK.out|apply Kept.alloc|apply Kept.drewN|apply Kept.drew|refine Kept.setCell ?_ (.inr Bf.out) _|refine Kept.setCell ?_ (.inr Bj.out) _)|exact HK.out)⟩
 replace c6:=Bool.eq_false_iff.mpr c6
 subst c6
 have H1:((some (l0_0.set (a1:Int).toNat (⟨(rd_T40 l0_0 a1).f0,(rd_T40 l0_0 a1).f1,(rd_T40 l0_0 a1).f2,true⟩:S40):List (S40))).bind fun y133=>(some ((y133.set (a1:Int).toNat (⟨(rd_T40 y133 a1).f0,(rd_T40 y133 a1).f1,mx ((rd_T40 y133 a1).f2) a0_1,(rd_T40 y133 a1).f3⟩:S40)),a0_1)))=some (r1,r2):=by rw [if_neg (show ¬ (false=true) by decide)] at H;exact H
 clear H
 have H:=H1
 clear H1
 obtain ⟨y133,hy133⟩:∃ y_:List (S40),y_=(l0_0.set (a1:Int).toNat (⟨(rd_T40 l0_0 a1).f0,(rd_T40 l0_0 a1).f1,(rd_T40 l0_0 a1).f2,true⟩:S40)):=⟨_,rfl⟩
 replace H:(some ((y133.set (a1:Int).toNat (⟨(rd_T40 y133 a1).f0,(rd_T40 y133 a1).f1,mx ((rd_T40 y133 a1).f2) a0_1,(rd_T40 y133 a1).f3⟩:S40)),a0_1))=some (r1,r2):=by first|(rw [hy133];with_reducible exact H)|(have H2_:=(Option.bind_some _ _).symm.trans H;rw [hy133];with_reducible exact H2_)|(have H2_:=(Option.bind_some _ _).symm.trans H;with_reducible exact H2_)|with_reducible exact H|(rw [hy133];exact H)|exact H
 have Ny133:=Am hy133
 clear hy133
 obtain ⟨ji14,hji14⟩:∃ j_:Int,(mx ((rd_T40 y133 a1).f2) a0_1)=j_:=⟨_,rfl⟩
 replace H:(some ((y133.set (a1:Int).toNat (⟨(rd_T40 y133 a1).f0,(rd_T40 y133 a1).f1,ji14,(rd_T40 y133 a1).f3⟩:S40)),a0_1))=some (r1,r2):=by first|(rw [hji14] at H;exact H)|(simp only [hji14] at H ⊢;exact H)
 have hji14_:(if ((rd_T40 y133 a1).f2)<a0_1 then a0_1 else ((rd_T40 y133 a1).f2))=ji14:=hji14
 obtain ⟨y135,hy135⟩:∃ y_:List (S40),y_=(y133.set (a1:Int).toNat (⟨(rd_T40 y133 a1).f0,(rd_T40 y133 a1).f1,ji14,(rd_T40 y133 a1).f3⟩:S40)):=⟨_,rfl⟩
 replace H:(some (y135,a0_1))=some (r1,r2):=by first|(rw [hy135];with_reducible exact H)|(have H2_:=(Option.bind_some _ _).symm.trans H;rw [hy135];with_reducible exact H2_)|(have H2_:=(Option.bind_some _ _).symm.trans H;with_reducible exact H2_)|with_reducible exact H|(rw [hy135];exact H)|exact H
 have Ny135:=Am hy135
 clear hy135
 simp only [Option.some.injEq,Prod.mk.injEq] at H
 obtain ⟨rfl,rfl⟩:=H
 obtain ⟨Ao16,co16,eo16⟩:=Kd.R_slice Ba.out
 subst eo16
 go_enter Try.func39,Try.ntmps39
 try go_wp2_with (first|((with_reducible refine gate_dst (N:=2) rfl ?_);refine box_event ?hg (N:=2) ?hd (cs:=#[.slice Ao16 l0_0.length co16,.int .i64 a0_1]) (t:=25) ?hr ?_;(case hd=>rfl);(case hg=>rfl);(case hr=>first|(go_simp;done)|(go_simp;rfl));intro Bc hg w17 hbox hb;have n0_:=Am (rB (rL Ba.out) hb);have n1_:=Am (Kept.below (S:=(fun k_=>P0_0_ k_)) (by repeat (first|(with_reducible first|exact HK.out|apply Kept.alloc|apply Kept.drewN|apply Kept.drew)|exact HK.out)) hb);have n2_:=Am (bP (by repeat (first|(with_reducible first|exact HB.out|apply oA|apply pN|apply o1)|exact HB.out)) hb);have n3_:=Am (hbox);have n4_:=Am ((by rw [hg];exact (by first|exact HK.out.1|exact (show Kept w _ (fun k_=>P0_0_ k_) from by repeat (first|(with_reducible first|exact HK.out|apply Kept.alloc|apply Kept.drewN|apply Kept.drew)|exact HK.out)).1):w.heap.size≤Bc));have n5_:=Am ((by rw [hg];exact (bZ (by repeat (first|(with_reducible first|exact HB.out|apply oA|apply pN|apply o1)|exact HB.out))):w0.heap.size≤Bc));clear Ba HK HB;revert n0_ n1_ n2_ n3_ n4_ n5_;intro Ba HK HB Bb Bf Bg;clear hb hbox hg)|((with_reducible refine gate_dst (N:=4) rfl ?_);refine box_event ?hg (N:=4) ?hd (cs:=#[.slice none 0 0,.int .i64 0]) (t:=25) ?hr ?_;(case hd=>rfl);(case hg=>rfl);(case hr=>first|(go_simp;done)|(go_simp;rfl));intro Be hg w18 hbox hb;have n0_:=Am (rB (rL Ba.out) hb);have n1_:=Am (bX Bb.out hb);have n2_:=Am (Kept.below (S:=(fun k_=>P0_0_ k_)) (by repeat (first|(with_reducible first|exact HK.out|apply Kept.alloc|apply Kept.drewN|apply Kept.drew|refine Kept.setCell ?_ (.inr Bf.out) _)|exact HK.out)) hb);have n3_:=Am (bP (by repeat (first|(with_reducible first|exact HB.out|apply oA|apply pN|apply o1|refine bS ?_ Bg.out)|exact HB.out)) hb);have n4_:=Am (hbox);have n5_:=Am ((by rw [hg];exact (by first|exact HK.out.1|exact (show Kept w _ (fun k_=>P0_0_ k_) from by repeat (first|(with_reducible first|exact HK.out|apply Kept.alloc|apply Kept.drewN|apply Kept.drew|refine Kept.setCell ?_ (.inr Bf.out) _)|exact HK.out)).1):w.heap.size≤Be));have n6_:=Am ((by rw [hg];exact (bZ (by repeat (first|(with_reducible first|exact HB.out|apply oA|apply pN|apply o1|refine bS ?_ Bg.out)|exact HB.out))):w0.heap.size≤Be));have n7_:=Am ((nL Bb.out hg));have n8_:=Am ((nG Bb.out hg));clear Ba Bb HK HB;revert n0_ n1_ n2_ n3_ n4_ n5_ n6_ n7_ n8_;intro Ba Bb HK HB Bd Bj Bk Bh Bi;clear hb hbox hg;have BI:=Bh.out;have BJ:=Bi.out;have Bu:=cz0 Bb.out;have Bv:=cz1 Bb.out;have Bw:=bF Bb.out 0;have Bx:=bF Bb.out 1;have p132:0≤(a1:Int):=of_decide_eq_true (by first|(with_reducible assumption)|assumption);have q132:a1<(l0_0.length:Int):=of_decide_eq_true (by first|(with_reducible assumption)|assumption);obtain ⟨ad132,e132,hx132_0,hx132_1,hx132_2,hx132_3⟩:=at_T40 (Kd.R_reads' Ba.out).2.2 a1 p132 q132;(try rw [← Nbq5.out] at hx132_3);cases e132;replace p132:=eq_true p132;replace q132:=eq_true q132;have p13:0≤(a1:Int):=of_decide_eq_true (by first|(with_reducible assumption)|assumption);have q13:(a1:Int)<((l0_0.length:Int):Int):=of_decide_eq_true (by first|(with_reducible assumption)|assumption);obtain ⟨go13,co13,eo13,Bl,gl13,cl13,HG13⟩:=Kd.R_form Ba.out (by omega);(first|cases eo13|(injection eo13 with ea_ en_ ec_;(first|subst ea_|(injection ea_ with ea_;subst ea_));subst ec_;clear en_));have GB13:=Am Bl;have GG13:=Am HG13;clear Bl gl13 HG13;have HMgo13:=Am (show (P0_0_ go13∨w.heap.size≤go13) from (Ba.out.1 _ rfl));(first|simp only [add_plain] at hx132_0|skip);(first|simp only [add_plain] at hx132_1|skip);(first|simp only [add_plain] at hx132_2|skip);(first|simp only [add_plain] at hx132_3|skip);obtain ⟨ce13,hcl13,hM13,hcc13,hfr13⟩:=Kd.R_elem Ba.out z40 (a1:Int) p13 q13;obtain rfl:=k40_openM hM13;have hx13_0:w18.cell? ⟨go13,(a1:Int).toNat * 4,none⟩=some (.int .i64 ((rd_T40 l0_0 a1).f0)):=hcc13 0 _ rfl;have hx13_1:w18.cell? ⟨go13,(a1:Int).toNat * 4 + 1,none⟩=some (.int .i64 ((rd_T40 l0_0 a1).f1)):=hcc13 1 _ rfl;have hx13_2:w18.cell? ⟨go13,(a1:Int).toNat * 4 + 2,none⟩=some (.int .i64 ((rd_T40 l0_0 a1).f2)):=hcc13 2 _ rfl;have hx13_3:w18.cell? ⟨go13,(a1:Int).toNat * 4 + 3,none⟩=some (.bool ((rd_T40 l0_0 a1).f3)):=hcc13 3 _ rfl;have hf13_0:w18.frozen? ⟨go13,(a1:Int).toNat * 4,none⟩=false:=hfr13 0;have hf13_1:w18.frozen? ⟨go13,(a1:Int).toNat * 4 + 1,none⟩=false:=hfr13 1;have hf13_2:w18.frozen? ⟨go13,(a1:Int).toNat * 4 + 2,none⟩=false:=hfr13 2;have hf13_3:w18.frozen? ⟨go13,(a1:Int).toNat * 4 + 3,none⟩=false:=hfr13 3;clear hcl13 hcc13 hfr13 hM13;replace p13:=eq_true p13;replace q13:=eq_true q13;have HX21:=Am (show Kd.R k40 40 w18 w0.heap.size (fun k_=>(P0_0_ k_∨w.heap.size≤k_)) (.slice (some ⟨go13,0,none⟩) l0_0.length co16) l0_0 from (rL Ba.out));obtain ⟨ce21,hcl21,hM21,hcc21,hfr21⟩:=Kd.R_elem HX21.out z40 (a1:Int) (of_decide_eq_true (by first|(with_reducible assumption)|assumption)) (by have h_:(a1:Int)<((l0_0.length:Int):Int):=of_decide_eq_true (by first|(with_reducible assumption)|assumption);first|exact h_|(have e_:=(Kd.R_reads' Ba.out).1;omega)|simpa using h_);obtain rfl:=k40_openM hM21;have HP21:=Kd.R_seg HX21.out (a1:Int) (of_decide_eq_true (by first|(with_reducible assumption)|assumption)) (by have h_:(a1:Int)<((l0_0.length:Int):Int):=of_decide_eq_true (by first|(with_reducible assumption)|assumption);first|exact h_|(have e_:=(Kd.R_reads' Ba.out).1;omega)|simpa using h_) (seg:=[.bool true]) (j:=3) hcl21 hcc21 (show 4≤4 from by decide) (x':=(⟨(rd_T40 l0_0 a1).f0,(rd_T40 l0_0 a1).f1,(rd_T40 l0_0 a1).f2,true⟩:S40)) (k40_mkM _ _ _ (⟨(rd_T40 l0_0 a1).f0,(rd_T40 l0_0 a1).f1,(rd_T40 l0_0 a1).f2,true⟩:S40) ) (fun _ hk=>hk);have hx21_3:=hcc21 3 _ rfl;(try simp only [show (k40).sz=4 from rfl,Nat.mul_one,Nat.add_zero] at hx21_3);have hf21_3:=hfr21 3;(try simp only [show (k40).sz=4 from rfl,Nat.mul_one,Nat.add_zero] at hf21_3);clear hcl21 hcc21 hfr21 hM21)|((with_reducible refine gate_store (t:=4) (p:=16) rfl ?_);refine store_event (t:=4) (p:=16) (v:=?vo_w22) (w1:=(w18.setCell ⟨go13,(a1:Int).toNat * 4 + 3,none⟩ (.bool true))) ?hg ?ho ?hn ?hr ?_;(case ho=>rfl);(case hg=>rfl);(case hn=>rfl);(case hr=>first|(go_simp;done)|(go_simp;rfl));intro w22 hw;have hg:w18.grownBy w22 (some go13):=(by rw [hw];exact HP21.2);have hp_:Kd.R k40 40 w22 w0.heap.size (fun k_=>(P0_0_ k_∨w.heap.size≤k_)) (.slice (some ⟨go13,0,none⟩) l0_0.length co16) y133:=(by rw [hw,Ny133.out];exact HP21.1);clear HP21;have n0_:=Am (hp_);have n1_:=Am (blk_grown (g:=Bc) (o:=.cells #[.slice (some ⟨go13,0,none⟩) l0_0.length co16,.int .i64 a0_1] 25 (0,0)) (bL Bb.out) hg (Kd.R_ne Ba.out Bb.out (by decide)));have n2_:=Am (blk_grown (g:=Be) (o:=.cells #[.slice none 0 0,.int .i64 0] 25 (0,0)) (bL Bd.out) hg (Kd.R_ne Ba.out Bd.out (by decide)));have n3_:=Am ((by rw [hw];exact bS (HB.out) GB13.out:Below w0.heap.size w0 w22));have n4_:=Am (Kept.of_grown (S:=(fun k_=>P0_0_ k_)) hg (by repeat (first|(with_reducible first|exact HK.out|apply Kept.alloc|apply Kept.drewN|apply Kept.drew|refine Kept.setCell ?_ (.inr Bf.out) _|refine Kept.setCell ?_ (.inr Bj.out) _)|exact HK.out)) (fun k_ e_=>(Ba.out.1 k_ e_)));clear Ba Bb Bd HB HK;revert n0_ n1_ n2_ n3_ n4_;intro Ba Bb Bd HB HK;clear hg hw hp_))
 have n0_:=Am (rD Ba.out)
 have n1_:=Am (bD Bb.out)
 have n2_:=Am (bD Bd.out)
 have n3_:=Am (Kept.drew HK.out)
 have n4_:=Am (o1 HB.out)
 clear Ba
 clear Bb
 clear Bd
 clear HK
 clear HB
 have Ba:=n0_
 have Bb:=n1_
 have Bd:=n2_
 have HK:=n3_
 have HB:=n4_
 clear n0_ n1_ n2_ n3_ n4_
 have p134:0≤(a1:Int):=of_decide_eq_true (by first|(with_reducible assumption)|assumption)
 have q134:a1<(y133.length:Int):=(by have h_:(a1:Int)<((l0_0.length:Int):Int):=of_decide_eq_true (by first|(with_reducible assumption)|assumption);first|(have e_:=(Kd.R_reads' Ba.out).1;omega)|simpa only [Ny133.out,List.length_set] using h_)
 have ql134:((a1:Int)<((l0_0.length:Int):Int))=True:=eq_true (of_decide_eq_true (by first|(with_reducible assumption)|assumption))
 obtain ⟨ad134,e134,hx134_0,hx134_1,hx134_2,hx134_3⟩:=at_T40 (Kd.R_reads' Ba.out).2.2 a1 p134 q134
 (try rw [← Nbq5.out] at hx134_3)
 obtain rfl:(⟨go13,0,none⟩:Addr)=ad134:=(by injection e134)
 (first|simp only [add_plain] at hx134_0|simp only [add_at] at hx134_0|simp only [Addr.add,Nat.zero_add] at hx134_0|skip)
 (first|simp only [add_plain] at hx134_1|simp only [add_at] at hx134_1|simp only [Addr.add,Nat.zero_add] at hx134_1|skip)
 (first|simp only [add_plain] at hx134_2|simp only [add_at] at hx134_2|simp only [Addr.add,Nat.zero_add] at hx134_2|skip)
 (first|simp only [add_plain] at hx134_3|simp only [add_at] at hx134_3|simp only [Addr.add,Nat.zero_add] at hx134_3|skip)
 replace p134:=eq_true p134
 replace q134:=eq_true q134
 have p15:0≤(a1:Int):=of_decide_eq_true (by first|(with_reducible assumption)|assumption)
 have q15:(a1:Int)<((l0_0.length:Int):Int):=of_decide_eq_true (by first|(with_reducible assumption)|assumption)
 obtain ⟨ce15,hcl15,hM15,hcc15,hfr15⟩:=Kd.R_elem Ba.out z40 (a1:Int) p15 q15
 obtain rfl:=k40_openM hM15
 have hx15_0:World.cell? _ ⟨go13,(a1:Int).toNat * 4,none⟩=some (.int .i64 ((rd_T40 y133 a1).f0)):=hcc15 0 _ rfl
 have hx15_1:World.cell? _ ⟨go13,(a1:Int).toNat * 4 + 1,none⟩=some (.int .i64 ((rd_T40 y133 a1).f1)):=hcc15 1 _ rfl
 have hx15_2:World.cell? _ ⟨go13,(a1:Int).toNat * 4 + 2,none⟩=some (.int .i64 ((rd_T40 y133 a1).f2)):=hcc15 2 _ rfl
 have hx15_3:World.cell? _ ⟨go13,(a1:Int).toNat * 4 + 3,none⟩=some (.bool ((rd_T40 y133 a1).f3)):=hcc15 3 _ rfl
 have hf15_0:World.frozen? _ ⟨go13,(a1:Int).toNat * 4,none⟩=false:=hfr15 0
 have hf15_1:World.frozen? _ ⟨go13,(a1:Int).toNat * 4 + 1,none⟩=false:=hfr15 1
 have hf15_2:World.frozen? _ ⟨go13,(a1:Int).toNat * 4 + 2,none⟩=false:=hfr15 2
 have hf15_3:World.frozen? _ ⟨go13,(a1:Int).toNat * 4 + 3,none⟩=false:=hfr15 3
 clear hcl15 hcc15 hfr15 hM15
 replace p15:=eq_true p15
 replace q15:=eq_true q15
 obtain ⟨ce24,hcl24,hM24,hcc24,hfr24⟩:=Kd.R_elem Ba.out z40 (a1:Int) (of_decide_eq_true (by first|(with_reducible assumption)|assumption)) (by have h_:(a1:Int)<((l0_0.length:Int):Int):=of_decide_eq_true (by first|(with_reducible assumption)|assumption);first|exact h_|(have e_:=(Kd.R_reads' Ba.out).1;omega)|simpa using h_)
 obtain rfl:=k40_openM hM24
 have HP24:=(Kd.R_seg Ba.out (a1:Int) (of_decide_eq_true (by first|(with_reducible assumption)|assumption)) (by have h_:(a1:Int)<((l0_0.length:Int):Int):=of_decide_eq_true (by first|(with_reducible assumption)|assumption);first|exact h_|(have e_:=(Kd.R_reads' Ba.out).1;omega)|simpa using h_) (seg:=[.int .i64 ji14]) (j:=2) hcl24 hcc24 (show 3≤4 from by decide) (x':=(⟨(rd_T40 y133 a1).f0,(rd_T40 y133 a1).f1,ji14,(rd_T40 y133 a1).f3⟩:S40)) (k40_mkM _ _ _ (⟨(rd_T40 y133 a1).f0,(rd_T40 y133 a1).f1,ji14,(rd_T40 y133 a1).f3⟩:S40) ) (fun _ hk=>hk)).1
 rw [← Ny135.out] at HP24
 have HQ24:=Am HP24
 clear hcl24 hcc24 hfr24 hM24 HP24
 refine start_ (n:=15) (S:=fun w'=>w'.cell? ⟨Bc,0,none⟩=some (.slice (some ⟨go13,0,none⟩) l0_0.length co16)∧w'.cell? ⟨Bc,1,none⟩=some (.int .i64 a0_1)∧w'.cell? ⟨go13,(a1).toNat * 4,none⟩=some (.int .i64 ((rd_T40 y133 a1).f0))∧w'.cell? ⟨go13,(a1).toNat * 4 + 1,none⟩=some (.int .i64 ((rd_T40 y133 a1).f1))∧w'.cell? ⟨go13,(a1).toNat * 4 + 2,none⟩=some (.int .i64 ((rd_T40 y133 a1).f2))∧w'.cell? ⟨go13,(a1).toNat * 4 + 3,none⟩=some (.bool ((rd_T40 y133 a1).f3))) (ds:=[14]) z39q0 (by kernel_rfl) rfl rfl ⟨(bC Bb.out 0).trans rfl,(bC Bb.out 1).trans rfl,hx134_0,hx134_1,hx134_2,hx134_3⟩ (fun hHeld=>?_);refine with_st spec_l11Wake.tab3 spec_l11Wake.bits3 (fun _ _ _ _ _ h=>h) (fun HT_=>?_)
 generalize w22.drew=w23 at Ba Bb Bd HK HB HQ24 hf15_0 hf15_1 hf15_2 hf15_3 hx134_0 hx134_1 hx134_2 hx134_3 hx15_0 hx15_1 hx15_2 hx15_3 hHeld ⊢
 refine pS 0 17 z39q1 HT_ rfl rfl (by kernel_rfl) (by rfl) (by intro w';go_simp;with_reducible rfl) (by simp only [Act.put,lA,lZ,lS,iw,jw];rfl) ?_
 refine pS 2 19 z39q2 HT_ rfl rfl (by kernel_rfl) (by rfl) (by intro w';go_simp;with_reducible rfl) (by simp only [Act.put,lA,lZ,lS,iw,jw];rfl) ?_
 refine pS 3 20 z39q3 HT_ rfl rfl (by kernel_rfl) (by rfl) (by intro w';go_simp;with_reducible rfl) (by simp only [Act.put,lA,lZ,lS,iw,jw];rfl) ?_
 refine pS 5 22 z39q4 HT_ rfl rfl (by kernel_rfl) (by rfl) (by intro w';go_simp;with_reducible rfl) (by simp only [Act.put,lA,lZ,lS,iw,jw];rfl) ?_
 refine pS 9 26 z39q5 HT_ rfl rfl (by kernel_rfl) (by rfl) (by intro w';go_simp;with_reducible rfl) (by simp only [Act.put,lA,lZ,lS,iw,jw];rfl) ?_
 refine tS 1 18 z39q6 HT_ hHeld rfl rfl (by kernel_rfl) (by rfl) (by rintro w' ⟨s0,s1,s2,s3,s4,s5⟩;go_simp;with_reducible rfl) (by simp only [Act.put,lA,lZ,lS,iw,jw];rfl) ?_
 refine tS 4 21 z39q7 HT_ hHeld rfl rfl (by kernel_rfl) (by rfl) (by rintro w' ⟨s0,s1,s2,s3,s4,s5⟩;go_simp;with_reducible rfl) (by simp only [Act.put,lA,lZ,lS,iw,jw];rfl) ?_
 refine pS 6 23 z39q8 HT_ rfl rfl (by kernel_rfl) (by rfl) (by intro w';go_simp;with_reducible rfl) (by simp only [Act.put,lA,lZ,lS,iw,jw];rfl) ?_
 refine pS 7 24 z39q9 HT_ rfl rfl (by kernel_rfl) (by rfl) (by intro w';go_simp;with_reducible rfl) (by simp only [Act.put,lA,lZ,lS,iw,jw];rfl) ?_
 refine tS 8 25 z39q10 HT_ hHeld rfl rfl (by kernel_rfl) (by rfl) (by rintro w' ⟨s0,s1,s2,s3,s4,s5⟩;go_simp;with_reducible rfl) (by simp only [Act.put,lA,lZ,lS,iw,jw];rfl) ?_
 refine tS 10 27 z39q11 HT_ hHeld rfl rfl (by kernel_rfl) (by rfl) (by rintro w' ⟨s0,s1,s2,s3,s4,s5⟩;go_simp;with_reducible rfl) (by simp only [Act.put,lA,lZ,lS,iw,jw];rfl) ?_
 refine pS 11 28 z39q12 HT_ rfl rfl (by kernel_rfl) (by rfl) (by intro w';go_simp;with_reducible rfl) (by simp only [Act.put,lA,lZ,lS,iw,jw];rfl) ?_
 refine pS 12 29 z39q13 HT_ rfl rfl (by kernel_rfl) (by rfl) (by intro w';go_simp;with_reducible rfl) (by simp only [Act.put,lA,lZ,lS,iw,jw];rfl) ?_
 refine pS 13 30 z39q14 HT_ rfl rfl (by kernel_rfl) (by rfl) (by intro w';go_simp;with_reducible rfl) (by simp only [Act.put,lA,lZ,lS,iw,jw];rfl) ?_
 refine last_ (i:=14) (N:=none) z39q15 rfl rfl (one_of HT_.out (by kernel_rfl)) (by decide) (fun K hK=>?_)
 refine skip_ (w1:=?_) (by rfl) rfl ?_ ?_
 rotate_left;(go_simp;rfl)
 refine hK.out _ _ ?_
 clear hK K
 refine done_ (done_of HT_.out (by kernel_rfl)) ?_
 have n0_:Aside0 (Kd.R k40 40 (w23.setCell ⟨go13,(a1:Int).toNat * 4 + 2,none⟩ (.int .i64 ji14)) w0.heap.size (fun k_=>(P0_0_ k_∨w.heap.size≤k_)) (.slice (some ⟨go13,0,none⟩) l0_0.length co16) y135):=⟨by (with_reducible repeat (first|apply rA|apply rN|apply rD));exact HQ24.out⟩
 have n1_:Aside0 ((w23.setCell ⟨go13,(a1:Int).toNat * 4 + 2,none⟩ (.int .i64 ji14)).heap[Bc]?=some (.cells #[.slice (some ⟨go13,0,none⟩) l0_0.length co16,.int .i64 a0_1] 25 (0,0))):=⟨by (with_reducible repeat (first|refine bN ?_ _|refine bD ?_|refine bA ?_ _));refine blk_far ?_ (by have h_:=Kd.R_ne Ba.out Bb.out (by decide);intro e_;exact h_ (by rw [e_];rfl)) _;(with_reducible repeat (first|refine bN ?_ _|refine bD ?_|refine bA ?_ _));exact Bb.out⟩
 have n2_:Aside0 ((w23.setCell ⟨go13,(a1:Int).toNat * 4 + 2,none⟩ (.int .i64 ji14)).heap[Be]?=some (.cells #[.slice none 0 0,.int .i64 0] 25 (0,0))):=⟨by (with_reducible repeat (first|refine bN ?_ _|refine bD ?_|refine bA ?_ _));refine blk_far ?_ (by have h_:=Kd.R_ne Ba.out Bd.out (by decide);intro e_;exact h_ (by rw [e_];rfl)) _;(with_reducible repeat (first|refine bN ?_ _|refine bD ?_|refine bA ?_ _));exact Bd.out⟩
 have n3_:Aside0 (Kept w (w23.setCell ⟨go13,(a1:Int).toNat * 4 + 2,none⟩ (.int .i64 ji14)) (fun k_=>P0_0_ k_)):=⟨by repeat (first|(with_reducible first|exact HK.out|apply Kept.alloc|apply Kept.drewN|apply Kept.drew|refine Kept.setCell ?_ HMgo13.out _|refine Kept.setCell ?_ (.inr Bf.out) _|refine Kept.setCell ?_ (.inr Bj.out) _)|exact HK.out)⟩
 have n4_:Aside0 (Below w0.heap.size w0 (w23.setCell ⟨go13,(a1:Int).toNat * 4 + 2,none⟩ (.int .i64 ji14))):=⟨by repeat (first|(with_reducible first|exact HB.out|apply oA|apply pN|apply o1|refine bS ?_ GB13.out|refine bS ?_ Bg.out|refine bS ?_ Bk.out)|exact HB.out)⟩
 (try clear Ba)
 (try clear Bb)
 (try clear Bd)
 (try clear HK)
 (try clear HB)
 generalize (w23.setCell ⟨go13,(a1:Int).toNat * 4 + 2,none⟩ (.int .i64 ji14))=w25 at n0_ n1_ n2_ n3_ n4_ ⊢
 have Ba:=n0_
 have Bb:=n1_
 have Bd:=n2_
 have HK:=n3_
 have HB:=n4_
 clear n0_ n1_ n2_ n3_ n4_
 have By:=cz0 Bb.out
 have Bz:=cz1 Bb.out
 have BA:=bF Bb.out 0
 have BB:=bF Bb.out 1
 have BC:=cz0 Bd.out
 have BD:=cz1 Bd.out
 have BE:=bF Bd.out 0
 have BF:=bF Bd.out 1
 try go_wp2
 refine bodyPost_ret (results_cell_row rfl _ _ Be 25 #[.slice (some ⟨go13,0,none⟩) l0_0.length co16,.int .i64 a0_1] (0,0) _ rfl (by (with_reducible repeat (first|refine bN ?_ _|refine bD ?_|refine bA ?_ _));refine blk_put (cs:=#[.slice (some ⟨go13,0,none⟩) l0_0.length co16,.int .i64 0]) ?_ 1 _ rfl;(with_reducible repeat (first|refine bN ?_ _|refine bD ?_|refine bA ?_ _));refine blk_put (cs:=#[.slice none 0 0,.int .i64 0]) ?_ 0 _ rfl;(with_reducible repeat (first|refine bN ?_ _|refine bD ?_|refine bA ?_ _));exact Bd.out) Try.underlying25 rfl (by kernel_rfl)) rfl ?_
 exact ⟨_,by first|rfl|(simp [errW_none,errW_some] <;> rfl)|(simp only [← hji14];first|rfl|(simp [errW_none,errW_some] <;> rfl))|(simp [*,errW_none,errW_some] <;> rfl),by (with_reducible repeat (first|apply rA|apply rN|apply rD));exact rM (rF (p:=⟨Be,1,none⟩) (rF (p:=⟨Be,0,none⟩) (rT Ba.out Bd.out (by decide)) (fun _ hk=>hk.2) (.slice (some ⟨go13,0,none⟩) l0_0.length co16)) (fun _ hk=>hk.2) (.int .i64 a0_1)) (fun _ hk=>hk.1),by repeat (first|(with_reducible first|exact HB.out|apply oA|apply pN|apply o1|refine bS ?_ Bg.out|refine bS ?_ Bk.out)|exact HB.out),by repeat (first|(with_reducible first|exact HK.out|apply Kept.alloc|apply Kept.drewN|apply Kept.drew|refine Kept.setCell ?_ (.inr Bf.out) _|refine Kept.setCell ?_ (.inr Bj.out) _)|exact HK.out)⟩
end Go.Proofs.Ytfhcgmfodfcpeaa.PFnQueueLess
