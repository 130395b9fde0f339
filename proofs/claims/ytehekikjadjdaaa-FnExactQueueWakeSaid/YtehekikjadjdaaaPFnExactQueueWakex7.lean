/- Proved here, without a condition beyond those that each theorem states: what the Go functions named below do is what the plain functions of the same names say. Written by xprint.py, a program of this session. -/
import Derived.Test.YtehekikjadjdaaaPFnExactQueueWakex0
namespace Go.Proofs.Ytehekikjadjdaaa.PFnExactQueueWake
open Go.RowKit Go.Proofs.YtehekikjadjdaaaW.PrintWords Go.Proofs.YtehekikjadjdaaaW.PrintLast Go.Proofs.YtehekikjadjdaaaW.PrintMore
attribute [local go_sem] max2_int min2_int max_two min_two max_three min_three max_four min_four   -- for this text's walks alone
set_option linter.unusedVariables false
set_option linter.unusedSimpArgs false

attribute [local go_sem ↓] isSome_setCell_
/-! ### spec_l11Copy: function 71 -/
def spec_l11Copy.f (l0_0 : List (S86)) (a0_1 : Int) : Option ((List (S86)) × Int) := (some (([] : List (S86)) : List (S86))).bind fun y154 => (if y154.length + l0_0.length < 4398046511104 then (some ((y154 ++ l0_0), a0_1)) else (none))
def spec_l11Copy.T1 : Bool × List (List Nat × List Nat) := (true, [([], []), ([], []), ([1], [1]), ([0, 2], [0, 2]), ([], []), ([4], [4]), ([3, 5], [3, 5]), ([6, 3, 0, 1, 2, 3, 4, 5, 6], [6])])
def spec_l11Copy.B1 : List Nat := [0, 0, 2, 7, 0, 16, 63, 127]
theorem spec_l11Copy.tab1 : rtab .any (opsOf Try.f71 1) = spec_l11Copy.T1 := by kernel_rfl
theorem spec_l11Copy.bits1 : waitsOk spec_l11Copy.T1.2 spec_l11Copy.B1 = true := by kernel_rfl
abbrev z71q0 : Array Bool := bQ 8 0
abbrev z71q1 : Array Bool := bQ 8 2
abbrev z71q2 : Array Bool := bQ 8 18
abbrev z71q3 : Array Bool := bQ 8 22
abbrev z71q4 : Array Bool := bQ 8 54
abbrev z71q5 : Array Bool := bQ 8 55
abbrev z71q6 : Array Bool := bQ 8 63
abbrev z71q7 : Array Bool := bQ 8 127
abbrev z71q8 : Array Bool := bQ 8 255
set_option maxHeartbeats 2000000 in
set_option maxRecDepth 100000 in
theorem spec_l11Copy.calls (A0_0:Option Addr) (c0_0:Nat) (l0_0:List (S86)) (a0_1:Int) (r1:List (S86)) (r2:Int) (w:World) (hr0_0:Kd.C k86 w A0_0 l0_0.length l0_0) (hc0_0:l0_0.length≤c0_0) (h:spec_l11Copy.f l0_0 a0_1=some (r1,r2)) :
  Calls Try.prog 71 #[.agg #[.slice A0_0 l0_0.length c0_0,.int .i64 a0_1]] w fun e w'=>∃ v0_:Value,e=.returned (.agg #[v0_,.int .i64 r2])∧Kd.R k86 86 w' w.heap.size (fun _=>True) v0_ r1∧Below w.heap.size w w':=by
 have hu47:=Try.underlying47
 have HR0_0:=Am hr0_0
 have HC0_0:=Am hc0_0
 clear hr0_0 hc0_0
 have HB:=Am (Below.refl w.heap.size w)
 have H:((some (([]:List (S86)):List (S86))).bind fun y154=>(if y154.length + l0_0.length<4398046511104 then (some ((y154 ++ l0_0),a0_1)) else (none)))=some (r1,r2):=h
 clear h
 obtain ⟨y154,hy154⟩:∃ y_:List (S86),y_=(([]:List (S86))):=⟨_,rfl⟩
 replace H:(if y154.length + l0_0.length<4398046511104 then (some ((y154 ++ l0_0),a0_1)) else (none))=some (r1,r2):=by first|(rw [hy154];with_reducible exact H)|(have H2_:=(Option.bind_some _ _).symm.trans H;rw [hy154];with_reducible exact H2_)|(have H2_:=(Option.bind_some _ _).symm.trans H;with_reducible exact H2_)|with_reducible exact H|(rw [hy154];exact H)|exact H
 have Ny154:=Am hy154
 clear hy154
 by_cases c2:y154.length + l0_0.length<4398046511104
 rotate_left
 ·rw [if_neg c2] at H
  exact absurd H (by simp)

 rw [if_pos c2] at H
 have LMc2:=Am c2
 clear c2
 obtain ⟨y157,hy157⟩:∃ y_:List (S86),y_=(y154 ++ l0_0):=⟨_,rfl⟩
 replace H:(some (y157,a0_1))=some (r1,r2):=by first|(rw [hy157];with_reducible exact H)|(have H2_:=(Option.bind_some _ _).symm.trans H;rw [hy157];with_reducible exact H2_)|(have H2_:=(Option.bind_some _ _).symm.trans H;with_reducible exact H2_)|with_reducible exact H|(rw [hy157];exact H)|exact H
 have Ny157:=Am hy157
 clear hy157
 simp only [Option.some.injEq,Prod.mk.injEq] at H
 obtain ⟨rfl,rfl⟩:=H
 go_enter Try.func71,Try.ntmps71
 try go_wp2_with (first|((with_reducible refine gate_dst (N:=1) rfl ?_);refine box_event ?hg (N:=1) ?hd (cs:=#[.slice A0_0 l0_0.length c0_0,.int .i64 a0_1]) (t:=47) ?hr ?_;(case hd=>rfl);(case hg=>rfl);(case hr=>first|(go_simp;done)|(go_simp;rfl));intro Be hg w3 hbox hb;have n0_:=Am (bP (by repeat (first|(with_reducible first|exact HB.out|apply oA|apply pN|apply o1)|exact HB.out)) hb);have n1_:=Am (hbox);have n2_:=Am ((by rw [hg];exact (bZ (by repeat (first|(with_reducible first|exact HB.out|apply oA|apply pN|apply o1)|exact HB.out))):w.heap.size≤Be));have n3_:=Am ((by rw [hg];exact (bZ (by repeat (first|(with_reducible first|exact HB.out|apply oA|apply pN|apply o1)|exact HB.out))):w.heap.size≤Be));clear HB;revert n0_ n1_ n2_ n3_;intro HB Ba Bk Bf;clear hb hbox hg)|((with_reducible refine gate_dst (N:=2) rfl ?_);refine box_event ?hg (N:=2) ?hd (cs:=#[.slice none 0 0,.int .i64 0]) (t:=47) ?hr ?_;(case hd=>rfl);(case hg=>rfl);(case hr=>first|(go_simp;done)|(go_simp;rfl));intro Bc hg w4 hbox hb;have n0_:=Am (bX Ba.out hb);have n1_:=Am (bP (by repeat (first|(with_reducible first|exact HB.out|apply oA|apply pN|apply o1|refine bS ?_ Bf.out)|exact HB.out)) hb);have n2_:=Am (hbox);have n3_:=Am ((by rw [hg];exact (bZ (by repeat (first|(with_reducible first|exact HB.out|apply oA|apply pN|apply o1|refine bS ?_ Bf.out)|exact HB.out))):w.heap.size≤Bc));have n4_:=Am ((by rw [hg];exact (bZ (by repeat (first|(with_reducible first|exact HB.out|apply oA|apply pN|apply o1|refine bS ?_ Bf.out)|exact HB.out))):w.heap.size≤Bc));have n5_:=Am ((nL Ba.out hg));have n6_:=Am ((nG Ba.out hg));clear Ba HB;revert n0_ n1_ n2_ n3_ n4_ n5_ n6_;intro Ba HB Bb Bl Bg Bd Bh;clear hb hbox hg))
 have n0_:=Am (bD Ba.out)
 have n1_:=Am (bD Bb.out)
 have n2_:=Am (o1 HB.out)
 clear Ba
 clear Bb
 clear HB
 have Ba:=n0_
 have Bb:=n1_
 have HB:=n2_
 clear n0_ n1_ n2_
 refine start_ (n:=8) (S:=fun w'=>w'.cell? ⟨Be,0,none⟩=some (.slice A0_0 l0_0.length c0_0)∧w'.cell? ⟨Be,1,none⟩=some (.int .i64 a0_1)) (ds:=[]) z71q0 (by kernel_rfl) rfl rfl ⟨(bC Ba.out 0).trans rfl,(bC Ba.out 1).trans rfl⟩ (fun hHeld=>?_);refine with_st spec_l11Copy.tab1 spec_l11Copy.bits1 (fun _ _ _ _ _ h=>h) (fun HT_=>?_)
 generalize w4.drew=w5 at Ba Bb HB hHeld ⊢
 refine pS 1 4 z71q1 HT_ rfl rfl (by kernel_rfl) (by rfl) (by intro w';go_simp;with_reducible rfl) (by simp only [Act.put,lA,lZ,lS,iw,jw];rfl) ?_
 refine pS 4 7 z71q2 HT_ rfl rfl (by kernel_rfl) (by rfl) (by intro w';go_simp;with_reducible rfl) (by simp only [Act.put,lA,lZ,lS,iw,jw];rfl) ?_
 refine tS 2 5 z71q3 HT_ hHeld rfl rfl (by kernel_rfl) (by rfl) (by rintro w' ⟨s0,s1⟩;go_simp;with_reducible rfl) (by simp only [Act.put,lA,lZ,lS,iw,jw];rfl) ?_
 refine tS 5 8 z71q4 HT_ hHeld rfl rfl (by kernel_rfl) (by rfl) (by rintro w' ⟨s0,s1⟩;go_simp;with_reducible rfl) (by simp only [Act.put,lA,lZ,lS,iw,jw];rfl) ?_
 refine oS 0 3 z71q5 HT_ rfl rfl (by kernel_rfl) (by decide) (fun K hK=>?_)
 refine Kd.R_lit_step k86 _ 86 ?hg (N:=3) ?hd (xs:=([]:List (S86))) (inner:=[]) (ok:=fun _=>True) (okp:=fun _=>True) ?hr ?hp (fun _ hk=>hk) trivial (Below.refl _ _) (Nat.le_refl _) (by simp) ?_;(case hd=>rfl);(case hg=>rfl);(case hr=>first|(go_simp;done)|(go_simp;rfl));(case hp=>exact (Reps.none _ _))
 intro v155 w6 ho7 hb hg_ hnew_
 clear hg_ hnew_
 (first|rw [← Ny154.out] at ho7|(simp only [Int.reduceToNat] at ho7;rw [← Ny154.out] at ho7))
 have n0_:=Am (Kd.R_lower ho7 (bZ (by repeat (first|(with_reducible first|exact HB.out|apply oA|apply pN|apply o1|refine bS ?_ Bf.out|refine bS ?_ Bg.out)|exact HB.out))))
 have n1_:=Am (bX Ba.out hb)
 have n2_:=Am (bX Bb.out hb)
 have n3_:=Am (bP (by repeat (first|(with_reducible first|exact HB.out|apply oA|apply pN|apply o1|refine bS ?_ Bf.out|refine bS ?_ Bg.out)|exact HB.out)) hb)
 clear Ba
 clear Bb
 clear HB
 have Bi:=n0_
 have Ba:=n1_
 have Bb:=n2_
 have HB:=n3_
 clear n0_ n1_ n2_ n3_
 clear hb ho7
 refine hK.out _ _ ⟨(bC Ba.out 0).trans rfl,(bC Ba.out 1).trans rfl⟩ (fun hHeld=>?_)
 clear hK K
 refine norm_ (by show Act.put _ (some 3) _=_;simp only [Act.put,lA,lZ,lS,iw,jw];rfl) ?_
 refine oS 3 6 z71q6 HT_ rfl rfl (by kernel_rfl) (by decide) (fun K hK=>?_)
 refine Kd.R_append_rows_step k86 (w0:=w) w.heap.size (by rfl) (.tmp 3) (.tmp 5) 45 86 (.agg #[(.int .i64 0),(.int .i64 0),(.int .i64 0),(.bool false)]) 32 rfl Try.underlying45 info86 rfl (by decide) (by omega) v155 y154 l0_0 _ _ _ (fun _=>True) (fun _=>False) rfl rfl ?aO ?aR (fun _ _ h=>h) (fun _ h=>h.elim) ?aF ?aB ?aS ?aL ?_
 (case aR=>repeat (first|exact (cB HR0_0.out HB.out)|(with_reducible refine cA ?_ _)|(with_reducible refine cN ?_ _)|(with_reducible refine cD ?_)))
 (case aB=>exact (by repeat (first|(with_reducible first|exact HB.out|apply oA|apply pN|apply o1|refine bS ?_ Bf.out|refine bS ?_ Bg.out)|exact HB.out)))
 (case aF=>exact (fun _ _=>trivial))
 (case aO=>exact (rL Bi.out))
 (case aS=>exact (bZ (by repeat (first|(with_reducible first|exact HB.out|apply oA|apply pN|apply o1|refine bS ?_ Bf.out|refine bS ?_ Bg.out)|exact HB.out))))
 (case aL=>have:=LMc2.out;omega)
 intro v158 w8 ho hb hg hat
 rw [← Ny157.out] at ho
 have n0_:=Am (blk_grown (g:=Be) (o:=.cells #[.slice A0_0 l0_0.length c0_0,.int .i64 a0_1] 47 (0,0)) (bL Ba.out) hg (Kd.R_ne Bi.out Ba.out (by decide)))
 have n1_:=Am (blk_grown (g:=Bc) (o:=.cells #[.slice none 0 0,.int .i64 0] 47 (0,0)) (bL Bb.out) hg (Kd.R_ne Bi.out Bb.out (by decide)))
 have n2_:=Am (hb)
 have n3_:=Am (ho)
 clear Ba
 clear Bb
 clear HB
 clear Bi
 have Ba:=n0_
 have Bb:=n1_
 have HB:=n2_
 have Bj:=n3_
 clear n0_ n1_ n2_ n3_
 clear ho hb hg hat
 obtain ⟨Ao9,co9,eo9⟩:=Kd.R_slice Bj.out
 (first|subst eo9|(injection eo9 with f1_ f2_ f3_;have f4_:=f1_.symm;have f5_:=f3_.symm;clear f1_ f2_ f3_;subst f4_;subst f5_))
 refine hK.out _ _ ⟨(bC Ba.out 0).trans rfl,(bC Ba.out 1).trans rfl⟩ (fun hHeld=>?_)
 clear hK K
 refine norm_ (by show Act.put _ (some 6) _=_;simp only [Act.put,lA,lZ,lS,iw,jw];rfl) ?_
 refine pS 6 9 z71q7 HT_ rfl rfl (by kernel_rfl) (by rfl) (by intro w';go_simp;with_reducible rfl) (by simp only [Act.put,lA,lZ,lS,iw,jw];rfl) ?_
 refine oU 7 none z71q8 HT_ rfl rfl (by kernel_rfl) (by decide) (fun K hK=>?_)
 have hs10:=cz0 Bb.out
 have hfs10:=bF Bb.out 0
 have hns10_0:=Bd.out
 have hms10_0:=Bh.out
 have hs11:=cz1 Bb.out
 have hfs11:=bF Bb.out 1
 have hns11_0:=Bd.out
 have hms11_0:=Bh.out
 refine skip_ (w1:=?_) (by rfl) rfl ?_ ?_
 rotate_left;(go_simp;rfl)
 refine hK.out _ _ ⟨((cell_far (p:=⟨Bc,_,none⟩) Bd.out _).trans (((cell_far (p:=⟨Bc,_,none⟩) Bd.out _).trans (hHeld.1)))),((cell_far (p:=⟨Bc,_,none⟩) Bd.out _).trans (((cell_far (p:=⟨Bc,_,none⟩) Bd.out _).trans (hHeld.2))))⟩ (fun hHeld=>?_)
 clear hK K
 refine done_ (done_of HT_.out (by kernel_rfl)) ?_
 try go_wp2
 refine bodyPost_ret (results_cell_row rfl _ _ Bc 47 #[.slice Ao9 y157.length co9,.int .i64 a0_1] (0,0) _ rfl (by (with_reducible repeat (first|refine bN ?_ _|refine bD ?_|refine bA ?_ _));refine blk_put (cs:=#[.slice Ao9 y157.length co9,.int .i64 0]) ?_ 1 _ rfl;(with_reducible repeat (first|refine bN ?_ _|refine bD ?_|refine bA ?_ _));refine blk_put (cs:=#[.slice none 0 0,.int .i64 0]) ?_ 0 _ rfl;(with_reducible repeat (first|refine bN ?_ _|refine bD ?_|refine bA ?_ _));exact Bb.out) Try.underlying47 rfl (by kernel_rfl)) rfl ?_
 exact ⟨_,by first|rfl|(simp [errW_none,errW_some] <;> rfl)|(simp [*,errW_none,errW_some] <;> rfl),by (with_reducible repeat (first|apply rA|apply rN|apply rD));exact rM (rF (p:=⟨Bc,1,none⟩) (rF (p:=⟨Bc,0,none⟩) (rT Bj.out Bb.out (by decide)) (fun _ hk=>hk.2) (.slice Ao9 y157.length co9)) (fun _ hk=>hk.2) (.int .i64 a0_1)) (fun _ hk=>trivial),by repeat (first|(with_reducible first|exact HB.out|apply oA|apply pN|apply o1|refine bS ?_ Bf.out|refine bS ?_ Bg.out)|exact HB.out)⟩
end Go.Proofs.Ytehekikjadjdaaa.PFnExactQueueWake
