/- Proved here, without a condition beyond those that each theorem states: what the Go functions named below do is what the plain functions of the same names say. Written by xprint.py, a program of this session. -/
import Derived.Test.YtpdfkbggaihfpaaPFnPagesGivex0
namespace Go.Proofs.Ytpdfkbggaihfpaa.PFnPagesGive
open Go.RowKit Go.Proofs.YtpdfkbggaihfpaaW.PrintWords Go.Proofs.YtpdfkbggaihfpaaW.PrintLast Go.Proofs.YtpdfkbggaihfpaaW.PrintMore
attribute [local go_sem] max2_int min2_int max_two min_two max_three min_three max_four min_four   -- for this text's walks alone
set_option linter.unusedVariables false
set_option linter.unusedSimpArgs false

attribute [local go_sem ↓] isSome_setCell_
/-! ### spec_l1Give: function 57 -/
def spec_l1Give.f (l0_0 : List ByteArray) (l0_1 : List Int) (a1 : Int) : Option (List ByteArray × List Int) := if 0 ≤ a1 then (if a1 < (l0_1.length : Int) then ((some (l0_1.set (a1 : Int).toNat (wrap64 ((rd l0_1 a1) - 1)) : List Int)).bind fun y287 => (if (rd y287 a1) = 0 then (if a1 < (l0_0.length : Int) then (some ((l0_0.set (a1 : Int).toNat (⟨#[]⟩ : ByteArray)), y287)) else (none)) else (some (l0_0, y287)))) else (none)) else (none)
def spec_l1Give.T1 : Bool × List (List Nat × List Nat) := (true, [([], []), ([0], [0]), ([], []), ([], []), ([3], [3]), ([], []), ([4, 5], [4, 5]), ([6], [6]), ([7], [7]), ([1, 2, 0, 1, 2, 3, 4, 5, 6, 7, 8], [1, 2]), ([9, 8, 0, 1, 2, 3, 4, 5, 6, 7, 8], [8, 9])])
def spec_l1Give.B1 : List Nat := [0, 1, 0, 0, 8, 0, 56, 120, 248, 511, 1023]
theorem spec_l1Give.tab1 : rtab .any (opsOf Try.f57 1) = spec_l1Give.T1 := by kernel_rfl
theorem spec_l1Give.bits1 : waitsOk spec_l1Give.T1.2 spec_l1Give.B1 = true := by kernel_rfl
abbrev z57q0 : Array Bool := bQ 11 0
abbrev z57q1 : Array Bool := bQ 11 1
abbrev z57q2 : Array Bool := bQ 11 5
abbrev z57q3 : Array Bool := bQ 11 13
abbrev z57q4 : Array Bool := bQ 11 45
abbrev z57q5 : Array Bool := bQ 11 47
abbrev z57q6 : Array Bool := bQ 11 63
abbrev z57q7 : Array Bool := bQ 11 127
abbrev z57q8 : Array Bool := bQ 11 255
abbrev z57q9 : Array Bool := bQ 11 511
abbrev z57q10 : Array Bool := bQ 11 1023
abbrev z57q11 : Array Bool := bQ 11 2047
set_option maxHeartbeats 2000000 in
set_option maxRecDepth 100000 in
theorem spec_l1Give.calls (P0_0_:Nat → Prop) (u9000_:Value) (l0_0:List ByteArray) (P0_1_:Nat → Prop) (u9001_:Value) (l0_1:List Int) (a1:Int) (r1:List ByteArray) (r2:List Int) (w0 w:World) (hB:Below w0.heap.size w0 w) (ho0_0:Kd.R Kd.string 9 w w0.heap.size P0_0_ u9000_ l0_0) (ho0_1:Kd.R (Kd.int .i64) 3 w w0.heap.size P0_1_ u9001_ l0_1) (h:spec_l1Give.f l0_0 l0_1 a1=some (r1,r2)) :
  Calls Try.prog 57 #[.agg #[u9000_,u9001_],.int .i64 a1] w fun e w'=>∃ v0_ v1_:Value,e=.returned (.agg #[v0_,v1_])∧Kd.R Kd.string 9 w' w0.heap.size (fun k_=>((P0_0_ k_∨P0_1_ k_)∨w.heap.size≤k_)) v0_ r1∧Kd.R (Kd.int .i64) 3 w' w0.heap.size (fun k_=>((P0_0_ k_∨P0_1_ k_)∨w.heap.size≤k_)) v1_ r2∧Below w0.heap.size w0 w'∧Kept w w' (fun k_=>P0_0_ k_∨P0_1_ k_):=by
 have hu26:=Try.underlying26
 have Bc:=Am (show Kd.R Kd.string 9 w w0.heap.size (fun k_=>((P0_0_ k_∨P0_1_ k_)∨w.heap.size≤k_)) u9000_ l0_0 from rM ho0_0 (fun k_ hk=>(.inl (.inl hk))))
 have Ba:=Am (show Kd.R (Kd.int .i64) 3 w w0.heap.size (fun k_=>((P0_0_ k_∨P0_1_ k_)∨w.heap.size≤k_)) u9001_ l0_1 from rM ho0_1 (fun k_ hk=>(.inl (.inr hk))))
 have HK:=Am (Kept.refl w (fun k_=>P0_0_ k_∨P0_1_ k_))
 have HW0:=Am hB.size
 have HB:=Am hB
 clear hB
 have H:(if 0≤a1 then (if a1<(l0_1.length:Int) then ((some (l0_1.set (a1:Int).toNat (wrap64 ((rd l0_1 a1) - 1)):List Int)).bind fun y287=>(if (rd y287 a1)=0 then (if a1<(l0_0.length:Int) then (some ((l0_0.set (a1:Int).toNat (⟨#[]⟩:ByteArray)),y287)) else (none)) else (some (l0_0,y287)))) else (none)) else (none))=some (r1,r2):=h
 clear h
 by_cases c3:0≤a1
 rotate_left
 ·rw [if_neg c3] at H
  exact absurd H (by simp)

 rw [if_pos c3] at H
 have c3b0:decide (0≤a1)=true:=decide_eq_true c3
 clear c3
 by_cases c4:a1<(l0_1.length:Int)
 rotate_left
 ·rw [if_neg c4] at H
  exact absurd H (by simp)
 rw [if_pos c4] at H
 have c4b0:decide (a1<(l0_1.length:Int))=true:=decide_eq_true c4
 clear c4
 obtain ⟨y287,hy287⟩:∃ y_:List Int,y_=(l0_1.set (a1:Int).toNat (wrap64 ((rd l0_1 a1) - 1))):=⟨_,rfl⟩
 replace H:(if (rd y287 a1)=0 then (if a1<(l0_0.length:Int) then (some ((l0_0.set (a1:Int).toNat (⟨#[]⟩:ByteArray)),y287)) else (none)) else (some (l0_0,y287)))=some (r1,r2):=by first|(rw [hy287];with_reducible exact H)|(have H2_:=(Option.bind_some _ _).symm.trans H;rw [hy287];with_reducible exact H2_)|(have H2_:=(Option.bind_some _ _).symm.trans H;with_reducible exact H2_)|with_reducible exact H|(rw [hy287];exact H)|exact H
 have Ny287:=Am hy287
 clear hy287
 by_cases c6:(rd y287 a1)=0
 rotate_left
 ·rw [if_neg c6] at H
  have c6b0:((rd y287 a1) == 0)=false:=beq_eq_false_iff_ne.mpr c6
  have c6b1:((rd y287 a1) != 0)=true:=bne_iff_ne.mpr c6
  simp only [Option.some.injEq,Prod.mk.injEq] at H
  obtain ⟨rfl,rfl⟩:=H
  obtain ⟨Ao22,co22,eo22⟩:=Kd.R_slice Bc.out
  subst eo22
  obtain ⟨Ao23,co23,eo23⟩:=Kd.R_slice Ba.out
  subst eo23
  go_enter Try.func57,Try.ntmps57
  try go_wp2_with (first|((with_reducible refine gate_dst (N:=2) rfl ?_);refine box_event ?hg (N:=2) ?hd (cs:=#[.slice Ao22 l0_0.length co22,.slice Ao23 l0_1.length co23]) (t:=26) ?hr ?_;(case hd=>rfl);(case hg=>rfl);(case hr=>first|(go_simp;done)|(go_simp;rfl));intro Be hg w24 hbox hb;have n0_:=Am (rB (rL Bc.out) hb);have n1_:=Am (rB (rL Ba.out) hb);have n2_:=Am (Kept.below (S:=(fun k_=>P0_0_ k_∨P0_1_ k_)) (by repeat (first|(with_reducible first|exact HK.out|apply Kept.alloc|apply Kept.drewN|apply Kept.drew)|exact HK.out)) hb);have n3_:=Am (bP (by repeat (first|(with_reducible first|exact HB.out|apply oA|apply pN|apply o1)|exact HB.out)) hb);have n4_:=Am (hbox);have n5_:=Am ((by rw [hg];exact (by first|exact HK.out.1|exact (show Kept w _ (fun k_=>P0_0_ k_∨P0_1_ k_) from by repeat (first|(with_reducible first|exact HK.out|apply Kept.alloc|apply Kept.drewN|apply Kept.drew)|exact HK.out)).1):w.heap.size≤Be));have n6_:=Am ((by rw [hg];exact (bZ (by repeat (first|(with_reducible first|exact HB.out|apply oA|apply pN|apply o1)|exact HB.out))):w0.heap.size≤Be));clear Bc Ba HK HB;revert n0_ n1_ n2_ n3_ n4_ n5_ n6_;intro Bc Ba HK HB Bb Bg Bh;clear hb hbox hg)|((with_reducible refine gate_dst (N:=4) rfl ?_);refine box_event ?hg (N:=4) ?hd (cs:=#[.slice none 0 0,.slice none 0 0]) (t:=26) ?hr ?_;(case hd=>rfl);(case hg=>rfl);(case hr=>first|(go_simp;done)|(go_simp;rfl));intro Bf hg w25 hbox hb;have n0_:=Am (rB (rL Bc.out) hb);have n1_:=Am (rB (rL Ba.out) hb);have n2_:=Am (bX Bb.out hb);have n3_:=Am (Kept.below (S:=(fun k_=>P0_0_ k_∨P0_1_ k_)) (by repeat (first|(with_reducible first|exact HK.out|apply Kept.alloc|apply Kept.drewN|apply Kept.drew|refine Kept.setCell ?_ (.inr Bg.out) _)|exact HK.out)) hb);have n4_:=Am (bP (by repeat (first|(with_reducible first|exact HB.out|apply oA|apply pN|apply o1|refine bS ?_ Bh.out)|exact HB.out)) hb);have n5_:=Am (hbox);have n6_:=Am ((by rw [hg];exact (by first|exact HK.out.1|exact (show Kept w _ (fun k_=>P0_0_ k_∨P0_1_ k_) from by repeat (first|(with_reducible first|exact HK.out|apply Kept.alloc|apply Kept.drewN|apply Kept.drew|refine Kept.setCell ?_ (.inr Bg.out) _)|exact HK.out)).1):w.heap.size≤Bf));have n7_:=Am ((by rw [hg];exact (bZ (by repeat (first|(with_reducible first|exact HB.out|apply oA|apply pN|apply o1|refine bS ?_ Bh.out)|exact HB.out))):w0.heap.size≤Bf));have n8_:=Am ((nL Bb.out hg));have n9_:=Am ((nG Bb.out hg));clear Bc Ba Bb HK HB;revert n0_ n1_ n2_ n3_ n4_ n5_ n6_ n7_ n8_ n9_;intro Bc Ba Bb HK HB Bd Bk Bl Bi Bj;clear hb hbox hg))
  have n0_:=Am (rD Bc.out)
  have n1_:=Am (rD Ba.out)
  have n2_:=Am (bD Bb.out)
  have n3_:=Am (bD Bd.out)
  have n4_:=Am (Kept.drew HK.out)
  have n5_:=Am (o1 HB.out)
  clear Bc
  clear Ba
  clear Bb
  clear Bd
  clear HK
  clear HB
  have Bc:=n0_
  have Ba:=n1_
  have Bb:=n2_
  have Bd:=n3_
  have HK:=n4_
  have HB:=n5_
  clear n0_ n1_ n2_ n3_ n4_ n5_
  have p286:0≤(a1:Int):=of_decide_eq_true (by first|(with_reducible assumption)|assumption)
  have q286:a1<(l0_1.length:Int):=of_decide_eq_true (by first|(with_reducible assumption)|assumption)
  obtain ⟨ad286,e286,hx286_0⟩:=Kd.at_int (Kd.R_reads' Ba.out).2.2 a1 p286 q286
  cases e286
  replace p286:=eq_true p286
  replace q286:=eq_true q286
  have p5:0≤(a1:Int):=of_decide_eq_true (by first|(with_reducible assumption)|assumption)
  have q5:(a1:Int)<((l0_1.length:Int):Int):=of_decide_eq_true (by first|(with_reducible assumption)|assumption)
  obtain ⟨go5,co5,eo5,Bm,gl5,cl5,HG5⟩:=Kd.R_form Ba.out (by omega)
  (first|cases eo5|(injection eo5 with ea_ en_ ec_;(first|subst ea_|(injection ea_ with ea_;subst ea_));subst ec_;clear en_))
  have GB5:=Am Bm
  have GG5:=Am HG5
  clear Bm gl5 HG5
  have HMgo5:=Am (show ((P0_0_ go5∨P0_1_ go5)∨w.heap.size≤go5) from (Ba.out.1 _ rfl))
  (first|simp only [add_plain] at hx286_0|skip)
  obtain ⟨hx5_0,hf5_0⟩:=Kd.R_celln 0 Ba.out (a1:Int) p5 q5
  replace p5:=eq_true p5
  replace q5:=eq_true q5
  have HP27:=Kd.R_putn Ba.out (a1:Int) (wrap64 ((rd l0_1 a1) - 1))
  rw [← Ny287.out] at HP27
  have HQ27:=Am HP27
  clear HP27
  refine start_ (n:=11) (S:=fun w'=>w'.cell? ⟨Be,0,none⟩=some (.slice Ao22 l0_0.length co22)∧w'.cell? ⟨Be,1,none⟩=some (.slice (some ⟨go5,0,none⟩) l0_1.length co23)∧w'.cell? ⟨go5,(a1).toNat,none⟩=some (.int .i64 (rd l0_1 a1))) (ds:=[10]) z57q0 (by kernel_rfl) rfl rfl ⟨(bC Bb.out 0).trans rfl,(bC Bb.out 1).trans rfl,hx286_0⟩ (fun hHeld=>?_);refine with_st spec_l1Give.tab1 spec_l1Give.bits1 (fun _ _ _ _ _ h=>h) (fun HT_=>?_)
  generalize w25.drew=w26 at Bc Ba Bb Bd HK HB GG5 HQ27 hf5_0 hx286_0 hx5_0 hHeld ⊢
  refine pS 0 5 z57q1 HT_ rfl rfl (by kernel_rfl) (by rfl) (by intro w';go_simp;with_reducible rfl) (by simp only [Act.put,lA,lZ,lS,iw,jw];rfl) ?_
  refine pS 2 7 z57q2 HT_ rfl rfl (by kernel_rfl) (by rfl) (by intro w';go_simp;with_reducible rfl) (by simp only [Act.put,lA,lZ,lS,iw,jw];rfl) ?_
  refine pS 3 8 z57q3 HT_ rfl rfl (by kernel_rfl) (by rfl) (by intro w';go_simp;with_reducible rfl) (by simp only [Act.put,lA,lZ,lS,iw,jw];rfl) ?_
  refine pS 5 10 z57q4 HT_ rfl rfl (by kernel_rfl) (by rfl) (by intro w';go_simp;with_reducible rfl) (by simp only [Act.put,lA,lZ,lS,iw,jw];rfl) ?_
  refine tS 1 6 z57q5 HT_ hHeld rfl rfl (by kernel_rfl) (by rfl) (by rintro w' ⟨s0,s1,s2⟩;go_simp;with_reducible rfl) (by simp only [Act.put,lA,lZ,lS,iw,jw];rfl) ?_
  refine tS 4 9 z57q6 HT_ hHeld rfl rfl (by kernel_rfl) (by rfl) (by rintro w' ⟨s0,s1,s2⟩;go_simp;with_reducible rfl) (by simp only [Act.put,lA,lZ,lS,iw,jw];rfl) ?_
  refine pS 6 11 z57q7 HT_ rfl rfl (by kernel_rfl) (by rfl) (by intro w';go_simp;with_reducible rfl) (by simp only [Act.put,lA,lZ,lS,iw,jw];rfl) ?_
  refine tS 7 12 z57q8 HT_ hHeld rfl rfl (by kernel_rfl) (by rfl) (by rintro w' ⟨s0,s1,s2⟩;go_simp;with_reducible rfl) (by simp only [Act.put,lA,lZ,lS,iw,jw];rfl) ?_
  refine pS 8 13 z57q9 HT_ rfl rfl (by kernel_rfl) (by rfl) (by intro w';go_simp;with_reducible rfl) (by simp only [Act.put,lA,lZ,lS,iw,jw];rfl) ?_
  refine pS 9 14 z57q10 HT_ rfl rfl (by kernel_rfl) (by rfl) (by intro w';go_simp;with_reducible rfl) (by simp only [Act.put,lA,lZ,lS,iw,jw];rfl) ?_
  refine last_ (i:=10) (N:=none) z57q11 rfl rfl (one_of HT_.out (by kernel_rfl)) (by decide) (fun K hK=>?_)
  refine skip_ (w1:=?_) (by rfl) rfl ?_ ?_
  rotate_left;(go_simp;rfl)
  refine hK.out _ _ ?_
  clear hK K
  refine done_ (done_of HT_.out (by kernel_rfl)) ?_
  have n0_:Aside0 (Kd.R Kd.string 9 (w26.setCell ⟨go5,(a1:Int).toNat,none⟩ (.int .i64 (wrap64 ((rd l0_1 a1) - 1)))) w0.heap.size (fun k_=>((P0_0_ k_∨P0_1_ k_)∨w.heap.size≤k_)) (.slice Ao22 l0_0.length co22) l0_0):=⟨by (with_reducible repeat (first|apply rA|apply rN|apply rD));exact rM (rF (p:=⟨go5,(a1:Int).toNat,none⟩) (rT Bc.out GG5.out (by decide)) (fun _ hk=>hk.2) (.int .i64 (wrap64 ((rd l0_1 a1) - 1)))) (fun _ hk=>hk.1)⟩
  have n1_:Aside0 (Kd.R (Kd.int .i64) 3 (w26.setCell ⟨go5,(a1:Int).toNat,none⟩ (.int .i64 (wrap64 ((rd l0_1 a1) - 1)))) w0.heap.size (fun k_=>((P0_0_ k_∨P0_1_ k_)∨w.heap.size≤k_)) (.slice (some ⟨go5,0,none⟩) l0_1.length co23) y287):=⟨by (with_reducible repeat (first|apply rA|apply rN|apply rD));exact HQ27.out⟩
  have n2_:Aside0 ((w26.setCell ⟨go5,(a1:Int).toNat,none⟩ (.int .i64 (wrap64 ((rd l0_1 a1) - 1)))).heap[Be]?=some (.cells #[.slice Ao22 l0_0.length co22,.slice (some ⟨go5,0,none⟩) l0_1.length co23] 26 (0,0))):=⟨by (with_reducible repeat (first|refine bN ?_ _|refine bD ?_|refine bA ?_ _));refine blk_far ?_ (by have h_:=Kd.R_ne Ba.out Bb.out (by decide);intro e_;exact h_ (by rw [e_];rfl)) _;(with_reducible repeat (first|refine bN ?_ _|refine bD ?_|refine bA ?_ _));exact Bb.out⟩
  have n3_:Aside0 ((w26.setCell ⟨go5,(a1:Int).toNat,none⟩ (.int .i64 (wrap64 ((rd l0_1 a1) - 1)))).heap[Bf]?=some (.cells #[.slice none 0 0,.slice none 0 0] 26 (0,0))):=⟨by (with_reducible repeat (first|refine bN ?_ _|refine bD ?_|refine bA ?_ _));refine blk_far ?_ (by have h_:=Kd.R_ne Ba.out Bd.out (by decide);intro e_;exact h_ (by rw [e_];rfl)) _;(with_reducible repeat (first|refine bN ?_ _|refine bD ?_|refine bA ?_ _));exact Bd.out⟩
  have n4_:Aside0 (Kept w (w26.setCell ⟨go5,(a1:Int).toNat,none⟩ (.int .i64 (wrap64 ((rd l0_1 a1) - 1)))) (fun k_=>P0_0_ k_∨P0_1_ k_)):=⟨by repeat (first|(with_reducible first|exact HK.out|apply Kept.alloc|apply Kept.drewN|apply Kept.drew|refine Kept.setCell ?_ HMgo5.out _|refine Kept.setCell ?_ (.inr Bg.out) _|refine Kept.setCell ?_ (.inr Bk.out) _)|exact HK.out)⟩
  have n5_:Aside0 (Below w0.heap.size w0 (w26.setCell ⟨go5,(a1:Int).toNat,none⟩ (.int .i64 (wrap64 ((rd l0_1 a1) - 1))))):=⟨by repeat (first|(with_reducible first|exact HB.out|apply oA|apply pN|apply o1|refine bS ?_ GB5.out|refine bS ?_ Bh.out|refine bS ?_ Bl.out)|exact HB.out)⟩
  (try clear Bc)
  (try clear Ba)
  (try clear Bb)
  (try clear Bd)
  (try clear HK)
  (try clear HB)
  generalize (w26.setCell ⟨go5,(a1:Int).toNat,none⟩ (.int .i64 (wrap64 ((rd l0_1 a1) - 1))))=w28 at n0_ n1_ n2_ n3_ n4_ n5_ ⊢
  have Bc:=n0_
  have Ba:=n1_
  have Bb:=n2_
  have Bd:=n3_
  have HK:=n4_
  have HB:=n5_
  clear n0_ n1_ n2_ n3_ n4_ n5_
  have BK:=Bi.out
  have BL:=Bj.out
  have BA:=cz0 Bb.out
  have BB:=cz1 Bb.out
  have BC:=bF Bb.out 0
  have BD:=bF Bb.out 1
  have p288:0≤(a1:Int):=of_decide_eq_true (by first|(with_reducible assumption)|assumption)
  have q288:a1<(y287.length:Int):=(by have h_:(a1:Int)<((l0_1.length:Int):Int):=of_decide_eq_true (by first|(with_reducible assumption)|assumption);first|(have e_:=(Kd.R_reads' Ba.out).1;omega)|simpa only [Ny287.out,List.length_set] using h_)
  have ql288:((a1:Int)<((l0_1.length:Int):Int))=True:=eq_true (of_decide_eq_true (by first|(with_reducible assumption)|assumption))
  obtain ⟨ad288,e288,hx288_0⟩:=Kd.at_int (Kd.R_reads' Ba.out).2.2 a1 p288 q288
  obtain rfl:(⟨go5,0,none⟩:Addr)=ad288:=(by injection e288)
  (first|simp only [add_plain] at hx288_0|simp only [add_at] at hx288_0|simp only [Addr.add,Nat.zero_add] at hx288_0|skip)
  replace p288:=eq_true p288
  replace q288:=eq_true q288
  have BE:=cz0 Bd.out
  have BF:=cz1 Bd.out
  have BG:=bF Bd.out 0
  have BH:=bF Bd.out 1
  try go_wp2
  refine bodyPost_ret (results_cell_row rfl _ _ Bf 26 #[.slice Ao22 l0_0.length co22,.slice (some ⟨go5,0,none⟩) l0_1.length co23] (0,0) _ rfl (by (with_reducible repeat (first|refine bN ?_ _|refine bD ?_|refine bA ?_ _));refine blk_put (cs:=#[.slice Ao22 l0_0.length co22,.slice none 0 0]) ?_ 1 _ rfl;(with_reducible repeat (first|refine bN ?_ _|refine bD ?_|refine bA ?_ _));refine blk_put (cs:=#[.slice none 0 0,.slice none 0 0]) ?_ 0 _ rfl;(with_reducible repeat (first|refine bN ?_ _|refine bD ?_|refine bA ?_ _));exact Bd.out) Try.underlying26 rfl (by kernel_rfl)) rfl ?_
  exact ⟨_,_,by first|rfl|(simp [errW_none,errW_some] <;> rfl)|(simp [*,errW_none,errW_some] <;> rfl),by (with_reducible repeat (first|apply rA|apply rN|apply rD));exact rM (rF (p:=⟨Bf,1,none⟩) (rF (p:=⟨Bf,0,none⟩) (rT Bc.out Bd.out (by decide)) (fun _ hk=>hk.2) (.slice Ao22 l0_0.length co22)) (fun _ hk=>hk.2) (.slice (some ⟨go5,0,none⟩) l0_1.length co23)) (fun _ hk=>hk.1),by (with_reducible repeat (first|apply rA|apply rN|apply rD));exact rM (rF (p:=⟨Bf,1,none⟩) (rF (p:=⟨Bf,0,none⟩) (rT Ba.out Bd.out (by decide)) (fun _ hk=>hk.2) (.slice Ao22 l0_0.length co22)) (fun _ hk=>hk.2) (.slice (some ⟨go5,0,none⟩) l0_1.length co23)) (fun _ hk=>hk.1),by repeat (first|(with_reducible first|exact HB.out|apply oA|apply pN|apply o1|refine bS ?_ Bh.out|refine bS ?_ Bl.out)|exact HB.out),by repeat (first|(with_reducible first|exact HK.out|apply Kept.alloc|apply Kept.drewN|apply Kept.drew|refine Kept.setCell ?_ (.inr Bg.out) _|refine Kept.setCell ?_ (.inr Bk.out) _)|exact HK.out)⟩
 rw [if_pos c6] at H
 have c6b0:((rd y287 a1) == 0)=true:=beq_iff_eq.mpr c6
 have c6b1:((rd y287 a1) != 0)=false:=bne_eq_false_iff_eq.mpr c6
 clear c6
 by_cases c7:a1<(l0_0.length:Int)
 rotate_left
 ·rw [if_neg c7] at H
  exact absurd H (by simp)
 rw [if_pos c7] at H
 have c7b0:decide (a1<(l0_0.length:Int))=true:=decide_eq_true c7
 clear c7
 obtain ⟨y289,hy289⟩:∃ y_:List ByteArray,y_=(l0_0.set (a1:Int).toNat (⟨#[]⟩:ByteArray)):=⟨_,rfl⟩
 replace H:(some (y289,y287))=some (r1,r2):=by first|(rw [hy289];with_reducible exact H)|(have H2_:=(Option.bind_some _ _).symm.trans H;rw [hy289];with_reducible exact H2_)|(have H2_:=(Option.bind_some _ _).symm.trans H;with_reducible exact H2_)|with_reducible exact H|(rw [hy289];exact H)|exact H
 have Ny289:=Am hy289
 clear hy289
 simp only [Option.some.injEq,Prod.mk.injEq] at H
 obtain ⟨rfl,rfl⟩:=H
 obtain ⟨Ao9,co9,eo9⟩:=Kd.R_slice Bc.out
 subst eo9
 obtain ⟨Ao10,co10,eo10⟩:=Kd.R_slice Ba.out
 subst eo10
 go_enter Try.func57,Try.ntmps57
 try go_wp2_with (first|((with_reducible refine gate_dst (N:=2) rfl ?_);refine box_event ?hg (N:=2) ?hd (cs:=#[.slice Ao9 l0_0.length co9,.slice Ao10 l0_1.length co10]) (t:=26) ?hr ?_;(case hd=>rfl);(case hg=>rfl);(case hr=>first|(go_simp;done)|(go_simp;rfl));intro Be hg w11 hbox hb;have n0_:=Am (rB (rL Bc.out) hb);have n1_:=Am (rB (rL Ba.out) hb);have n2_:=Am (Kept.below (S:=(fun k_=>P0_0_ k_∨P0_1_ k_)) (by repeat (first|(with_reducible first|exact HK.out|apply Kept.alloc|apply Kept.drewN|apply Kept.drew)|exact HK.out)) hb);have n3_:=Am (bP (by repeat (first|(with_reducible first|exact HB.out|apply oA|apply pN|apply o1)|exact HB.out)) hb);have n4_:=Am (hbox);have n5_:=Am ((by rw [hg];exact (by first|exact HK.out.1|exact (show Kept w _ (fun k_=>P0_0_ k_∨P0_1_ k_) from by repeat (first|(with_reducible first|exact HK.out|apply Kept.alloc|apply Kept.drewN|apply Kept.drew)|exact HK.out)).1):w.heap.size≤Be));have n6_:=Am ((by rw [hg];exact (bZ (by repeat (first|(with_reducible first|exact HB.out|apply oA|apply pN|apply o1)|exact HB.out))):w0.heap.size≤Be));clear Bc Ba HK HB;revert n0_ n1_ n2_ n3_ n4_ n5_ n6_;intro Bc Ba HK HB Bb Bg Bh;clear hb hbox hg)|((with_reducible refine gate_dst (N:=4) rfl ?_);refine box_event ?hg (N:=4) ?hd (cs:=#[.slice none 0 0,.slice none 0 0]) (t:=26) ?hr ?_;(case hd=>rfl);(case hg=>rfl);(case hr=>first|(go_simp;done)|(go_simp;rfl));intro Bf hg w12 hbox hb;have n0_:=Am (rB (rL Bc.out) hb);have n1_:=Am (rB (rL Ba.out) hb);have n2_:=Am (bX Bb.out hb);have n3_:=Am (Kept.below (S:=(fun k_=>P0_0_ k_∨P0_1_ k_)) (by repeat (first|(with_reducible first|exact HK.out|apply Kept.alloc|apply Kept.drewN|apply Kept.drew|refine Kept.setCell ?_ (.inr Bg.out) _)|exact HK.out)) hb);have n4_:=Am (bP (by repeat (first|(with_reducible first|exact HB.out|apply oA|apply pN|apply o1|refine bS ?_ Bh.out)|exact HB.out)) hb);have n5_:=Am (hbox);have n6_:=Am ((by rw [hg];exact (by first|exact HK.out.1|exact (show Kept w _ (fun k_=>P0_0_ k_∨P0_1_ k_) from by repeat (first|(with_reducible first|exact HK.out|apply Kept.alloc|apply Kept.drewN|apply Kept.drew|refine Kept.setCell ?_ (.inr Bg.out) _)|exact HK.out)).1):w.heap.size≤Bf));have n7_:=Am ((by rw [hg];exact (bZ (by repeat (first|(with_reducible first|exact HB.out|apply oA|apply pN|apply o1|refine bS ?_ Bh.out)|exact HB.out))):w0.heap.size≤Bf));have n8_:=Am ((nL Bb.out hg));have n9_:=Am ((nG Bb.out hg));clear Bc Ba Bb HK HB;revert n0_ n1_ n2_ n3_ n4_ n5_ n6_ n7_ n8_ n9_;intro Bc Ba Bb HK HB Bd Bk Bl Bi Bj;clear hb hbox hg))
 have n0_:=Am (rD Bc.out)
 have n1_:=Am (rD Ba.out)
 have n2_:=Am (bD Bb.out)
 have n3_:=Am (bD Bd.out)
 have n4_:=Am (Kept.drew HK.out)
 have n5_:=Am (o1 HB.out)
 clear Bc
 clear Ba
 clear Bb
 clear Bd
 clear HK
 clear HB
 have Bc:=n0_
 have Ba:=n1_
 have Bb:=n2_
 have Bd:=n3_
 have HK:=n4_
 have HB:=n5_
 clear n0_ n1_ n2_ n3_ n4_ n5_
 have p286:0≤(a1:Int):=of_decide_eq_true (by first|(with_reducible assumption)|assumption)
 have q286:a1<(l0_1.length:Int):=of_decide_eq_true (by first|(with_reducible assumption)|assumption)
 obtain ⟨ad286,e286,hx286_0⟩:=Kd.at_int (Kd.R_reads' Ba.out).2.2 a1 p286 q286
 cases e286
 replace p286:=eq_true p286
 replace q286:=eq_true q286
 have p5:0≤(a1:Int):=of_decide_eq_true (by first|(with_reducible assumption)|assumption)
 have q5:(a1:Int)<((l0_1.length:Int):Int):=of_decide_eq_true (by first|(with_reducible assumption)|assumption)
 obtain ⟨go5,co5,eo5,Bm,gl5,cl5,HG5⟩:=Kd.R_form Ba.out (by omega)
 (first|cases eo5|(injection eo5 with ea_ en_ ec_;(first|subst ea_|(injection ea_ with ea_;subst ea_));subst ec_;clear en_))
 have GB5:=Am Bm
 have GG5:=Am HG5
 clear Bm gl5 HG5
 have HMgo5:=Am (show ((P0_0_ go5∨P0_1_ go5)∨w.heap.size≤go5) from (Ba.out.1 _ rfl))
 (first|simp only [add_plain] at hx286_0|skip)
 obtain ⟨hx5_0,hf5_0⟩:=Kd.R_celln 0 Ba.out (a1:Int) p5 q5
 replace p5:=eq_true p5
 replace q5:=eq_true q5
 have HP14:=Kd.R_putn Ba.out (a1:Int) (wrap64 ((rd l0_1 a1) - 1))
 rw [← Ny287.out] at HP14
 have HQ14:=Am HP14
 clear HP14
 refine start_ (n:=11) (S:=fun w'=>w'.cell? ⟨Be,0,none⟩=some (.slice Ao9 l0_0.length co9)∧w'.cell? ⟨Be,1,none⟩=some (.slice (some ⟨go5,0,none⟩) l0_1.length co10)∧w'.cell? ⟨go5,(a1).toNat,none⟩=some (.int .i64 (rd l0_1 a1))) (ds:=[10]) z57q0 (by kernel_rfl) rfl rfl ⟨(bC Bb.out 0).trans rfl,(bC Bb.out 1).trans rfl,hx286_0⟩ (fun hHeld=>?_);refine with_st spec_l1Give.tab1 spec_l1Give.bits1 (fun _ _ _ _ _ h=>h) (fun HT_=>?_)
 generalize w12.drew=w13 at Bc Ba Bb Bd HK HB GG5 HQ14 hf5_0 hx286_0 hx5_0 hHeld ⊢
 refine pS 0 5 z57q1 HT_ rfl rfl (by kernel_rfl) (by rfl) (by intro w';go_simp;with_reducible rfl) (by simp only [Act.put,lA,lZ,lS,iw,jw];rfl) ?_
 refine pS 2 7 z57q2 HT_ rfl rfl (by kernel_rfl) (by rfl) (by intro w';go_simp;with_reducible rfl) (by simp only [Act.put,lA,lZ,lS,iw,jw];rfl) ?_
 refine pS 3 8 z57q3 HT_ rfl rfl (by kernel_rfl) (by rfl) (by intro w';go_simp;with_reducible rfl) (by simp only [Act.put,lA,lZ,lS,iw,jw];rfl) ?_
 refine pS 5 10 z57q4 HT_ rfl rfl (by kernel_rfl) (by rfl) (by intro w';go_simp;with_reducible rfl) (by simp only [Act.put,lA,lZ,lS,iw,jw];rfl) ?_
 refine tS 1 6 z57q5 HT_ hHeld rfl rfl (by kernel_rfl) (by rfl) (by rintro w' ⟨s0,s1,s2⟩;go_simp;with_reducible rfl) (by simp only [Act.put,lA,lZ,lS,iw,jw];rfl) ?_
 refine tS 4 9 z57q6 HT_ hHeld rfl rfl (by kernel_rfl) (by rfl) (by rintro w' ⟨s0,s1,s2⟩;go_simp;with_reducible rfl) (by simp only [Act.put,lA,lZ,lS,iw,jw];rfl) ?_
 refine pS 6 11 z57q7 HT_ rfl rfl (by kernel_rfl) (by rfl) (by intro w';go_simp;with_reducible rfl) (by simp only [Act.put,lA,lZ,lS,iw,jw];rfl) ?_
 refine tS 7 12 z57q8 HT_ hHeld rfl rfl (by kernel_rfl) (by rfl) (by rintro w' ⟨s0,s1,s2⟩;go_simp;with_reducible rfl) (by simp only [Act.put,lA,lZ,lS,iw,jw];rfl) ?_
 refine pS 8 13 z57q9 HT_ rfl rfl (by kernel_rfl) (by rfl) (by intro w';go_simp;with_reducible rfl) (by simp only [Act.put,lA,lZ,lS,iw,jw];rfl) ?_
 refine pS 9 14 z57q10 HT_ rfl rfl (by kernel_rfl) (by rfl) (by intro w';go_simp;with_reducible rfl) (by simp only [Act.put,lA,lZ,lS,iw,jw];rfl) ?_
 refine last_ (i:=10) (N:=none) z57q11 rfl rfl (one_of HT_.out (by kernel_rfl)) (by decide) (fun K hK=>?_)
 refine skip_ (w1:=?_) (by rfl) rfl ?_ ?_
 rotate_left;(go_simp;rfl)
 refine hK.out _ _ ?_
 clear hK K
 refine done_ (done_of HT_.out (by kernel_rfl)) ?_
 have n0_:Aside0 (Kd.R Kd.string 9 (w13.setCell ⟨go5,(a1:Int).toNat,none⟩ (.int .i64 (wrap64 ((rd l0_1 a1) - 1)))) w0.heap.size (fun k_=>((P0_0_ k_∨P0_1_ k_)∨w.heap.size≤k_)) (.slice Ao9 l0_0.length co9) l0_0):=⟨by (with_reducible repeat (first|apply rA|apply rN|apply rD));exact rM (rF (p:=⟨go5,(a1:Int).toNat,none⟩) (rT Bc.out GG5.out (by decide)) (fun _ hk=>hk.2) (.int .i64 (wrap64 ((rd l0_1 a1) - 1)))) (fun _ hk=>hk.1)⟩
 have n1_:Aside0 (Kd.R (Kd.int .i64) 3 (w13.setCell ⟨go5,(a1:Int).toNat,none⟩ (.int .i64 (wrap64 ((rd l0_1 a1) - 1)))) w0.heap.size (fun k_=>((P0_0_ k_∨P0_1_ k_)∨w.heap.size≤k_)) (.slice (some ⟨go5,0,none⟩) l0_1.length co10) y287):=⟨by (with_reducible repeat (first|apply rA|apply rN|apply rD));exact HQ14.out⟩
 have n2_:Aside0 ((w13.setCell ⟨go5,(a1:Int).toNat,none⟩ (.int .i64 (wrap64 ((rd l0_1 a1) - 1)))).heap[Be]?=some (.cells #[.slice Ao9 l0_0.length co9,.slice (some ⟨go5,0,none⟩) l0_1.length co10] 26 (0,0))):=⟨by (with_reducible repeat (first|refine bN ?_ _|refine bD ?_|refine bA ?_ _));refine blk_far ?_ (by have h_:=Kd.R_ne Ba.out Bb.out (by decide);intro e_;exact h_ (by rw [e_];rfl)) _;(with_reducible repeat (first|refine bN ?_ _|refine bD ?_|refine bA ?_ _));exact Bb.out⟩
 have n3_:Aside0 ((w13.setCell ⟨go5,(a1:Int).toNat,none⟩ (.int .i64 (wrap64 ((rd l0_1 a1) - 1)))).heap[Bf]?=some (.cells #[.slice none 0 0,.slice none 0 0] 26 (0,0))):=⟨by (with_reducible repeat (first|refine bN ?_ _|refine bD ?_|refine bA ?_ _));refine blk_far ?_ (by have h_:=Kd.R_ne Ba.out Bd.out (by decide);intro e_;exact h_ (by rw [e_];rfl)) _;(with_reducible repeat (first|refine bN ?_ _|refine bD ?_|refine bA ?_ _));exact Bd.out⟩
 have n4_:Aside0 (Kept w (w13.setCell ⟨go5,(a1:Int).toNat,none⟩ (.int .i64 (wrap64 ((rd l0_1 a1) - 1)))) (fun k_=>P0_0_ k_∨P0_1_ k_)):=⟨by repeat (first|(with_reducible first|exact HK.out|apply Kept.alloc|apply Kept.drewN|apply Kept.drew|refine Kept.setCell ?_ HMgo5.out _|refine Kept.setCell ?_ (.inr Bg.out) _|refine Kept.setCell ?_ (.inr Bk.out) _)|exact HK.out)⟩
 have n5_:Aside0 (Below w0.heap.size w0 (w13.setCell ⟨go5,(a1:Int).toNat,none⟩ (.int .i64 (wrap64 ((rd l0_1 a1) - 1))))):=⟨by repeat (first|(with_reducible first|exact HB.out|apply oA|apply pN|apply o1|refine bS ?_ GB5.out|refine bS ?_ Bh.out|refine bS ?_ Bl.out)|exact HB.out)⟩
 (try clear Bc)
 (try clear Ba)
 (try clear Bb)
 (try clear Bd)
 (try clear HK)
 (try clear HB)
 generalize (w13.setCell ⟨go5,(a1:Int).toNat,none⟩ (.int .i64 (wrap64 ((rd l0_1 a1) - 1))))=w15 at n0_ n1_ n2_ n3_ n4_ n5_ ⊢
 have Bc:=n0_
 have Ba:=n1_
 have Bb:=n2_
 have Bd:=n3_
 have HK:=n4_
 have HB:=n5_
 clear n0_ n1_ n2_ n3_ n4_ n5_
 have BI:=Bi.out
 have BJ:=Bj.out
 have Bo:=cz0 Bb.out
 have Bp:=cz1 Bb.out
 have Bq:=bF Bb.out 0
 have Br:=bF Bb.out 1
 have p288:0≤(a1:Int):=of_decide_eq_true (by first|(with_reducible assumption)|assumption)
 have q288:a1<(y287.length:Int):=(by have h_:(a1:Int)<((l0_1.length:Int):Int):=of_decide_eq_true (by first|(with_reducible assumption)|assumption);first|(have e_:=(Kd.R_reads' Ba.out).1;omega)|simpa only [Ny287.out,List.length_set] using h_)
 have ql288:((a1:Int)<((l0_1.length:Int):Int))=True:=eq_true (of_decide_eq_true (by first|(with_reducible assumption)|assumption))
 obtain ⟨ad288,e288,hx288_0⟩:=Kd.at_int (Kd.R_reads' Ba.out).2.2 a1 p288 q288
 obtain rfl:(⟨go5,0,none⟩:Addr)=ad288:=(by injection e288)
 (first|simp only [add_plain] at hx288_0|simp only [add_at] at hx288_0|simp only [Addr.add,Nat.zero_add] at hx288_0|skip)
 replace p288:=eq_true p288
 replace q288:=eq_true q288
 have p8:0≤(a1:Int):=of_decide_eq_true (by first|(with_reducible assumption)|assumption)
 have q8:(a1:Int)<((l0_0.length:Int):Int):=of_decide_eq_true (by first|(with_reducible assumption)|assumption)
 obtain ⟨go8,co8,eo8,Bn,gl8,cl8,HG8⟩:=Kd.R_form Bc.out (by omega)
 (first|cases eo8|(injection eo8 with ea_ en_ ec_;(first|subst ea_|(injection ea_ with ea_;subst ea_));subst ec_;clear en_))
 have GB8:=Am Bn
 have GG8:=Am HG8
 clear Bn gl8 HG8
 have HMgo8:=Am (show ((P0_0_ go8∨P0_1_ go8)∨w.heap.size≤go8) from (Bc.out.1 _ rfl))
 obtain ⟨hx8_0,hf8_0⟩:=Kd.R_celln (⟨#[]⟩:ByteArray) Bc.out (a1:Int) p8 q8
 replace p8:=eq_true p8
 replace q8:=eq_true q8
 obtain ⟨hy18_,hz18_⟩:=Kd.R_celln (⟨#[]⟩:ByteArray) Bc.out (a1:Int) (of_decide_eq_true (by first|(with_reducible assumption)|assumption)) (of_decide_eq_true (by first|(with_reducible assumption)|assumption))
 have HP18:=Kd.R_putg Bc.out (a1:Int) (⟨#[]⟩:ByteArray)
 try go_wp2_with (first|((with_reducible refine gate_store (t:=9) (p:=24) rfl ?_);refine store_event (t:=9) (p:=24) (v:=?vo_w19) (w1:=(w15.setCell ⟨go8,(a1:Int).toNat,none⟩ (.string (⟨#[]⟩:ByteArray)))) ?hg ?ho ?hn ?hr ?_;(case ho=>rfl);(case hg=>rfl);(case hn=>rfl);(case hr=>first|(go_simp;done)|(go_simp;rfl));intro w19 hw;have hg:w15.grownBy w19 (some go8):=(by rw [hw];exact HP18.2);have hp_:Kd.R Kd.string 9 w19 w0.heap.size (fun k_=>((P0_0_ k_∨P0_1_ k_)∨w.heap.size≤k_)) (.slice (some ⟨go8,0,none⟩) l0_0.length co9) y289:=(by rw [hw,Ny289.out];exact HP18.1);clear HP18;have n0_:=Am (hp_);have n1_:=Am (Kd.R_over' (v:=(.slice (some ⟨go8,0,none⟩) l0_0.length co9)) (rL Ba.out) (Kd.R_typed Bc.out) (by decide) hg);have n2_:=Am (blk_grown (g:=Be) (o:=.cells #[.slice (some ⟨go8,0,none⟩) l0_0.length co9,.slice (some ⟨go5,0,none⟩) l0_1.length co10] 26 (0,0)) (bL Bb.out) hg (Kd.R_ne Bc.out Bb.out (by decide)));have n3_:=Am (blk_grown (g:=Bf) (o:=.cells #[.slice none 0 0,.slice none 0 0] 26 (0,0)) (bL Bd.out) hg (Kd.R_ne Bc.out Bd.out (by decide)));have n4_:=Am ((by rw [hw];exact bS (HB.out) GB8.out:Below w0.heap.size w0 w19));have n5_:=Am (Kept.of_grown (S:=(fun k_=>P0_0_ k_∨P0_1_ k_)) hg (by repeat (first|(with_reducible first|exact HK.out|apply Kept.alloc|apply Kept.drewN|apply Kept.drew|refine Kept.setCell ?_ (.inr Bg.out) _|refine Kept.setCell ?_ (.inr Bk.out) _)|exact HK.out)) (fun k_ e_=>(Bc.out.1 k_ e_)));clear Bc Ba Bb Bd HB HK;revert n0_ n1_ n2_ n3_ n4_ n5_;intro Bc Ba Bb Bd HB HK;clear hg hw hp_;have Bs:=cz0 Bb.out;have Bt:=cz1 Bb.out;have Bu:=bF Bb.out 0;have Bv:=bF Bb.out 1;have Bw:=cz0 Bd.out;have Bx:=cz1 Bd.out;have By:=bF Bd.out 0;have Bz:=bF Bd.out 1))
 refine bodyPost_ret (results_cell_row rfl _ _ Bf 26 #[.slice (some ⟨go8,0,none⟩) l0_0.length co9,.slice (some ⟨go5,0,none⟩) l0_1.length co10] (0,0) _ rfl (by (with_reducible repeat (first|refine bN ?_ _|refine bD ?_|refine bA ?_ _));refine blk_put (cs:=#[.slice (some ⟨go8,0,none⟩) l0_0.length co9,.slice none 0 0]) ?_ 1 _ rfl;(with_reducible repeat (first|refine bN ?_ _|refine bD ?_|refine bA ?_ _));refine blk_put (cs:=#[.slice none 0 0,.slice none 0 0]) ?_ 0 _ rfl;(with_reducible repeat (first|refine bN ?_ _|refine bD ?_|refine bA ?_ _));exact Bd.out) Try.underlying26 rfl (by kernel_rfl)) rfl ?_
 exact ⟨_,_,by first|rfl|(simp [errW_none,errW_some] <;> rfl)|(simp [*,errW_none,errW_some] <;> rfl),by (with_reducible repeat (first|apply rA|apply rN|apply rD));exact rM (rF (p:=⟨Bf,1,none⟩) (rF (p:=⟨Bf,0,none⟩) (rT Bc.out Bd.out (by decide)) (fun _ hk=>hk.2) (.slice (some ⟨go8,0,none⟩) l0_0.length co9)) (fun _ hk=>hk.2) (.slice (some ⟨go5,0,none⟩) l0_1.length co10)) (fun _ hk=>hk.1),by (with_reducible repeat (first|apply rA|apply rN|apply rD));exact rM (rF (p:=⟨Bf,1,none⟩) (rF (p:=⟨Bf,0,none⟩) (rT Ba.out Bd.out (by decide)) (fun _ hk=>hk.2) (.slice (some ⟨go8,0,none⟩) l0_0.length co9)) (fun _ hk=>hk.2) (.slice (some ⟨go5,0,none⟩) l0_1.length co10)) (fun _ hk=>hk.1),by repeat (first|(with_reducible first|exact HB.out|apply oA|apply pN|apply o1|refine bS ?_ Bh.out|refine bS ?_ Bl.out)|exact HB.out),by repeat (first|(with_reducible first|exact HK.out|apply Kept.alloc|apply Kept.drewN|apply Kept.drew|refine Kept.setCell ?_ (.inr Bg.out) _|refine Kept.setCell ?_ (.inr Bk.out) _)|exact HK.out)⟩
end Go.Proofs.Ytpdfkbggaihfpaa.PFnPagesGive
