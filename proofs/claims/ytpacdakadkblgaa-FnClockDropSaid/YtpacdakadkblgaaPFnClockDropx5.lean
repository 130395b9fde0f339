/- Proved here, without a condition beyond those that each theorem states: what the Go functions named below do is what the plain functions of the same names say. Written by xprint.py, a program of this session. -/
import Derived.Test.YtpacdakadkblgaaPFnClockDropx0
import Derived.Test.YtpacdakadkblgaaPFnClockDropx3
namespace Go.Proofs.Ytpacdakadkblgaa.PFnClockDrop
open Go.RowKit Go.Proofs.YtpacdakadkblgaaW.PrintWords Go.Proofs.YtpacdakadkblgaaW.PrintLast Go.Proofs.YtpacdakadkblgaaW.PrintMore
attribute [local go_sem] max2_int min2_int max_two min_two max_three min_three max_four min_four   -- for this text's walks alone
set_option linter.unusedVariables false
set_option linter.unusedSimpArgs false

attribute [local go_sem ↓] isSome_setCell_
/-! ### spec_l19Add: function 32 -/
def spec_l19Add.l0 : Nat → List (S35) → List (S35) → Bool → Int → Int → Int → Int → Option ((List (S35)))
|0, _, _, _, _, _, _, _ => none
|k + 1, x0, x5, x6, x7, x134000, x134001, x134002 => if x7 < (x0.length : Int) then (if x6 = true then (if 0 ≤ x7 then (if x5.length < 5864062014805 then (spec_l19Add.l0 k x0 (x5 ++ [(⟨(rd_T35 x0 x7).f0, (rd_T35 x0 x7).f1, (rd_T35 x0 x7).f2⟩ : S35)]) x6 (wrap64 (x7 + 1)) x134000 x134001 x134002) else (none)) else (none)) else (if 0 ≤ x7 then ((spec_l19Ahead.f x134000 x134001 x134002 ((rd_T35 x0 x7).f0) ((rd_T35 x0 x7).f1) ((rd_T35 x0 x7).f2)).bind fun t142 => (if t142 = true then (if x5.length < 5864062014805 then ((some (x5 ++ [(⟨x134000, x134001, x134002⟩ : S35)] : List (S35))).bind fun y143 => (if y143.length < 5864062014805 then (spec_l19Add.l0 k x0 (y143 ++ [(⟨(rd_T35 x0 x7).f0, (rd_T35 x0 x7).f1, (rd_T35 x0 x7).f2⟩ : S35)]) true (wrap64 (x7 + 1)) x134000 x134001 x134002) else (none))) else (none)) else (if x5.length < 5864062014805 then (spec_l19Add.l0 k x0 (x5 ++ [(⟨(rd_T35 x0 x7).f0, (rd_T35 x0 x7).f1, (rd_T35 x0 x7).f2⟩ : S35)]) x6 (wrap64 (x7 + 1)) x134000 x134001 x134002) else (none)))) else (none))) else (if x6 = true then (some x5) else (if x5.length < 5864062014805 then (some (x5 ++ [(⟨x134000, x134001, x134002⟩ : S35)])) else (none)))
def spec_l19Add.f (k : Nat) (l0 : List (S35)) (a1_0 : Int) (a1_1 : Int) (a1_2 : Int) : Option ((List (S35))) := spec_l19Add.l0 k l0 (([] : List (S35))) false 0 a1_0 a1_1 a1_2
theorem spec_l19Add.mono_l : ∀ k, (∀ y0 y1 y2 y3 y4 y5 y6, LeO (spec_l19Add.l0 k y0 y1 y2 y3 y4 y5 y6) (spec_l19Add.l0 (k + 1) y0 y1 y2 y3 y4 y5 y6))
|0 => fun _ _ _ _ _ _ _ r h => by simp [spec_l19Add.l0] at h
|k + 1 => by
  have ih0 := spec_l19Add.mono_l k
  ·intro y0 y1 y2 y3 y4 y5 y6
   unfold spec_l19Add.l0
   repeat' first
  |(with_reducible exact ih0 _ _ _ _ _ _ _)
  |(with_reducible exact LeO.refl _)
  |(with_reducible exact LeO.none _)
  |(with_reducible refine LeO.ite ?_ ?_)
  |(with_reducible refine LeO.bind ?_ (fun _ => ?_))
  |exact ih0 _ _ _ _ _ _ _
  |exact LeO.none _
  |refine LeO.ite ?_ ?_
  |refine LeO.bind ?_ (fun _ => ?_)
theorem spec_l19Add.mono : ∀ a0 a1 a2 a3 k, LeO (spec_l19Add.f k a0 a1 a2 a3) (spec_l19Add.f (k + 1) a0 a1 a2 a3) := by
 intro a0 a1 a2 a3 k
 have ih0 := spec_l19Add.mono_l k
 unfold spec_l19Add.f
 repeat' first
  |(with_reducible exact ih0 _ _ _ _ _ _ _)
  |(with_reducible exact LeO.refl _)
  |(with_reducible exact LeO.none _)
  |(with_reducible refine LeO.ite ?_ ?_)
  |(with_reducible refine LeO.bind ?_ (fun _ => ?_))
  |exact ih0 _ _ _ _ _ _ _
  |exact LeO.none _
  |refine LeO.ite ?_ ?_
  |refine LeO.bind ?_ (fun _ => ?_)
def spec_l19Add.T6 : Bool × List (List Nat × List Nat) := (true, [([], []), ([0], [0]), ([1], [1]), ([2], [2]), ([2], [2]), ([2], [2]), ([4, 5, 2], [2, 4, 5]), ([6, 2], [2, 6]), ([3, 7, 2, 2], [2, 3, 7]), ([2, 8], [2, 8])])
def spec_l19Add.B6 : List Nat := [0, 1, 3, 7, 7, 7, 55, 119, 255, 511]
theorem spec_l19Add.tab6 : rtab .any (opsOf Try.f32 6) = spec_l19Add.T6 := by kernel_rfl
theorem spec_l19Add.bits6 : waitsOk spec_l19Add.T6.2 spec_l19Add.B6 = true := by kernel_rfl
abbrev z32q0 : Array Bool := bQ 10 0
abbrev z32q1 : Array Bool := bQ 10 1
abbrev z32q2 : Array Bool := bQ 10 3
abbrev z32q3 : Array Bool := bQ 10 7
abbrev z32q4 : Array Bool := bQ 10 15
abbrev z32q5 : Array Bool := bQ 10 31
abbrev z32q6 : Array Bool := bQ 10 63
abbrev z32q7 : Array Bool := bQ 10 127
abbrev z32q8 : Array Bool := bQ 10 255
abbrev z32q9 : Array Bool := bQ 10 511
abbrev z32q10 : Array Bool := bQ 10 1023
abbrev z32q11 : Array Bool := bQ 10 23
abbrev z32q12 : Array Bool := bQ 10 55
abbrev z32q13 : Array Bool := bQ 10 119
set_option maxHeartbeats 2000000 in
set_option maxRecDepth 100000 in
theorem spec_l19Add.calls (k:Nat) (A0:Option Addr) (c0:Nat) (l0:List (S35)) (a1_0:Int) (a1_1:Int) (a1_2:Int) (r:List (S35)) (w:World) (hr0:Kd.C k35 w A0 l0.length l0) (hc0:l0.length≤c0) (h:spec_l19Add.f k l0 a1_0 a1_1 a1_2=some r) :
  Calls Try.prog 32 #[.slice A0 l0.length c0,.agg #[.int .i64 a1_0,.int .i64 a1_1,.int .i64 a1_2]] w fun e w'=>∃ v0_:Value,e=.returned (v0_)∧Kd.R k35 35 w' w.heap.size (fun _=>True) v0_ r∧Below w.heap.size w w':=by
 have hu35:=Try.underlying35
 have HR0:=Am hr0
 have HC0:=Am hc0
 clear hr0 hc0
 have HB:=Am (bJ w.heap.size w)
 have H:(spec_l19Add.l0 k l0 (([]:List (S35))) false 0 a1_0 a1_1 a1_2)=some r:=h
 clear h
 obtain ⟨y134,hy134⟩:∃ y_:List (S35),y_=(([]:List (S35))):=⟨_,rfl⟩
 replace H:(spec_l19Add.l0 k l0 y134 false 0 a1_0 a1_1 a1_2)=some r:=by first|(rw [hy134];with_reducible exact H)|(have H2_:=(Option.bind_some _ _).symm.trans H;rw [hy134];with_reducible exact H2_)|(have H2_:=(Option.bind_some _ _).symm.trans H;with_reducible exact H2_)|with_reducible exact H|(rw [hy134];exact H)|exact H
 have Ny134:=Am hy134
 clear hy134
 have H':=Am H
 clear H
 go_enter Try.func32,Try.ntmps32
 go_wp2_with (first|((with_reducible refine gD (N:=3) rfl ?_);refine bI ?hg (N:=3) ?hd (cs:=#[.int .i64 a1_0,.int .i64 a1_1,.int .i64 a1_2]) (t:=35) ?hr ?_;(case hd=>rfl);(case hg=>rfl);(case hr=>first|(go_simp;done)|(go_simp;rfl));intro Bb hg w3 hbox hb;have n0_:=Am (bP (by repeat (first|(with_reducible first|exact HB.out|apply oA|apply pN|apply o1)|exact HB.out)) hb);have n1_:=Am (hbox);have n2_:=Am ((by rw [hg];exact (bZ (by repeat (first|(with_reducible first|exact HB.out|apply oA|apply pN|apply o1)|exact HB.out))):w.heap.size≤Bb));have n3_:=Am ((by rw [hg];exact (bZ (by repeat (first|(with_reducible first|exact HB.out|apply oA|apply pN|apply o1)|exact HB.out))):w.heap.size≤Bb));clear HB;revert n0_ n1_ n2_ n3_;intro HB Ba Bw Bd;clear hb hbox hg)|((with_reducible refine gD (N:=8) rfl ?_);refine Kd.R_lit k35 _ 35 ?hg (N:=8) ?hd (xs:=([]:List (S35))) (inner:=[]) (ok:=fun _=>True) (okp:=fun _=>True) ?hr ?hp (fun _ hk=>hk) trivial (bJ _ _) (nR _) (by simp) ?_;(case hd=>rfl);(case hg=>rfl);(case hr=>first|(go_simp;done)|(go_simp;rfl));(case hp=>exact (Reps.none _ _));intro v135 w4 ho5 hb hg_ hnew_;clear hg_ hnew_;(first|rw [← Ny134.out] at ho5|(simp only [Int.reduceToNat] at ho5;rw [← Ny134.out] at ho5));have n0_:=Am (rW (Kd.R_newB ho5 (g:=Bb) (o:=.cells #[.int .i64 a1_0,.int .i64 a1_1,.int .i64 a1_2] 35 (0,0)) (bL Ba.out)) (bZ (by repeat (first|(with_reducible first|exact HB.out|apply oA|apply pN|apply o1|refine bS ?_ Bd.out)|exact HB.out))));have n1_:=Am (bX Ba.out hb);have n2_:=Am (bP (by repeat (first|(with_reducible first|exact HB.out|apply oA|apply pN|apply o1|refine bS ?_ Bd.out)|exact HB.out)) hb);clear Ba HB;revert n0_ n1_ n2_;intro Bf Ba HB;clear hb ho5))
 go_loopg [5,6,7] k (fun kq v5 v6 v7 w'=>∃ (x5_1:List (S35)) (x6_1:Bool) (x7_1:Int),v6=.bool x6_1∧v7=.int .i64 x7_1∧Aside0 (spec_l19Add.l0 kq l0 x5_1 x6_1 x7_1 a1_0 a1_1 a1_2=some r)∧Aside0 (kq≤k)∧Aside0 (Kd.R k35 35 w' w.heap.size (fun k_=>k_≠Bb) v5 x5_1)∧Aside0 (w'.heap[Bb]?=some (.cells #[.int .i64 a1_0,.int .i64 a1_1,.int .i64 a1_2] 35 (0,0)))∧Aside0 (Below w.heap.size w w'))
 case atStart=>exact ⟨(y134),(false),(0),(by first|rfl|(simp;done)|(simp [*];done)),(by first|rfl|(simp;done)|(simp [*];done)),H',⟨nR _⟩,⟨by (with_reducible repeat (first|apply rA|apply rN|apply rD));exact rM Bf.out (fun _ hk=>hk.2)⟩,⟨by (with_reducible repeat (first|refine bN ?_ _|refine bD ?_|refine bA ?_ _));exact Ba.out⟩,⟨by repeat (first|(with_reducible first|exact HB.out|apply oA|apply pN|apply o1|refine bS ?_ Bd.out)|exact HB.out)⟩⟩
 case round =>
  clear H'
  try clear p2
  try clear c3
  obtain ⟨x5_1,x6_1,x7_1,rfl,rfl,HA,HK1,Bc,Ba,HB⟩:=hrel
  cases gk with
 |zero=>exact absurd HA.out (by simp [spec_l19Add.l0])
 |succ k1 =>
   have H:=HA.out
   clear HA
   simp only [spec_l19Add.l0] at H
   by_cases c6:x7_1<(l0.length:Int)
   rotate_left
   ·rw [if_neg c6] at H
    have c6b0:decide (x7_1<(l0.length:Int))=false:=dF c6
    clear c6
    by_cases c26:x6_1=true
    ·subst c26
     have H1:(some x5_1)=some r:=by rw [if_pos rfl] at H;exact H
     clear H
     have H:=H1
     clear H1
     obtain rfl:=oJ H
     go_wp2
     go_ret
     exact ⟨_,by first|rfl|(simp [errW_none,errW_some] <;> rfl)|(simp [*,errW_none,errW_some] <;> rfl),by (with_reducible repeat (first|apply rA|apply rN|apply rD));exact rM Bc.out (fun _ hk=>trivial),by repeat (first|(with_reducible first|exact HB.out|apply oA|apply pN|apply o1|refine bS ?_ Bd.out)|exact HB.out)⟩
    replace c26:=Bool.eq_false_iff.mpr c26
    subst c26
    have H1:(if x5_1.length<5864062014805 then (some (x5_1 ++ [(⟨a1_0,a1_1,a1_2⟩:S35)])) else (none))=some r:=by rw [if_neg (show ¬ (false=true) by decide)] at H;exact H
    clear H
    have H:=H1
    clear H1
    by_cases c27:x5_1.length<5864062014805
    rotate_left
    ·rw [if_neg c27] at H
     exact absurd H (by simp)

    rw [if_pos c27] at H
    have LMc27:=Am c27
    clear c27
    obtain ⟨y154,hy154⟩:∃ y_:List (S35),y_=(x5_1 ++ [(⟨a1_0,a1_1,a1_2⟩:S35)]):=⟨_,rfl⟩
    replace H:(some y154)=some r:=by first|(rw [hy154];with_reducible exact H)|(have H2_:=(Option.bind_some _ _).symm.trans H;rw [hy154];with_reducible exact H2_)|(have H2_:=(Option.bind_some _ _).symm.trans H;with_reducible exact H2_)|with_reducible exact H|(rw [hy154];exact H)|exact H
    have Ny154:=Am hy154
    clear hy154
    obtain rfl:=oJ H
    have Bq:=cz0 Ba.out
    have Br:=cz1 Ba.out
    have Bs:=cz2 Ba.out
    have Bt:=bF Ba.out 0
    have Bu:=bF Ba.out 1
    have Bv:=bF Ba.out 2
    go_wp2_with (first|((with_reducible refine gate_builtin (b:=.append) (xs:=#[.tmp 38,.tmp 40]) rfl ?_);at_builtin;refine Kd.R_append k35 (w0:=w) w.heap.size rfl (.tmp 38) (.tmp 40) 23 35 (.agg #[(.int .i64 0),(.int .i64 0),(.int .i64 0)]) 24 rfl Try.underlying23 info35 rfl (by decide) (by omega) u5 x5_1 (⟨a1_0,a1_1,a1_2⟩:S35) [.int .i64 a1_0,.int .i64 a1_1,.int .i64 a1_2] (fun k_=>k_≠Bb) (fun _=>False) rfl rfl ?aP (fun _ hk=>hk.elim) ?aF ?aO ?aB ?aS ?aL ?_;(case aP=>exact k35_mkM _ _ _ (⟨a1_0,a1_1,a1_2⟩:S35));(case aB=>exact (by repeat (first|(with_reducible first|exact HB.out|apply oA|apply pN|apply o1|refine bS ?_ Bd.out)|exact HB.out)));(case aF=>exact (fun k_ hk=>Kd.freshB (g:=Bb) (o:=.cells #[.int .i64 a1_0,.int .i64 a1_1,.int .i64 a1_2] 35 (0,0)) (bL Ba.out) k_ hk));(case aO=>exact (rL Bc.out));(case aS=>exact (bZ (by repeat (first|(with_reducible first|exact HB.out|apply oA|apply pN|apply o1|refine bS ?_ Bd.out)|exact HB.out))));(case aL=>have:=LMc27.out;omega);intro v155 w29 ho hb hg hat;rw [← Ny154.out] at ho;have n0_:=Am (bG (g:=Bb) (o:=.cells #[.int .i64 a1_0,.int .i64 a1_1,.int .i64 a1_2] 35 (0,0)) (bL Ba.out) hg (Kd.R_away Bc.out (fun _ hk=>hk)));have n1_:=Am (hb);have n2_:=Am (ho);clear Ba HB Bc;revert n0_ n1_ n2_;intro Ba HB Bj;clear ho hb hg hat))
    go_ret
    exact ⟨_,by first|rfl|(simp [errW_none,errW_some] <;> rfl)|(simp [*,errW_none,errW_some] <;> rfl),by (with_reducible repeat (first|apply rA|apply rN|apply rD));exact rM Bj.out (fun _ hk=>trivial),by repeat (first|(with_reducible first|exact HB.out|apply oA|apply pN|apply o1|refine bS ?_ Bd.out)|exact HB.out)⟩
   rw [if_pos c6] at H
   have c6b0:decide (x7_1<(l0.length:Int))=true:=dT c6
   clear c6
   by_cases c7:x6_1=true
   ·subst c7
    have H1:(if 0≤x7_1 then (if x5_1.length<5864062014805 then (spec_l19Add.l0 k1 l0 (x5_1 ++ [(⟨(rd_T35 l0 x7_1).f0,(rd_T35 l0 x7_1).f1,(rd_T35 l0 x7_1).f2⟩:S35)]) true (wrap64 (x7_1 + 1)) a1_0 a1_1 a1_2) else (none)) else (none))=some r:=by rw [if_pos rfl] at H;exact H
    clear H
    have H:=H1
    clear H1
    by_cases c8:0≤x7_1
    rotate_left
    ·rw [if_neg c8] at H
     exact absurd H (by simp)
    rw [if_pos c8] at H
    have c8b0:decide (0≤x7_1)=true:=dT c8
    clear c8
    by_cases c9:x5_1.length<5864062014805
    rotate_left
    ·rw [if_neg c9] at H
     exact absurd H (by simp)
    rw [if_pos c9] at H
    have LMc9:=Am c9
    clear c9
    obtain ⟨y138,hy138⟩:∃ y_:List (S35),y_=(x5_1 ++ [(⟨(rd_T35 l0 x7_1).f0,(rd_T35 l0 x7_1).f1,(rd_T35 l0 x7_1).f2⟩:S35)]):=⟨_,rfl⟩
    replace H:(spec_l19Add.l0 k1 l0 y138 true (wrap64 (x7_1 + 1)) a1_0 a1_1 a1_2)=some r:=by first|(rw [hy138];with_reducible exact H)|(have H2_:=(Option.bind_some _ _).symm.trans H;rw [hy138];with_reducible exact H2_)|(have H2_:=(Option.bind_some _ _).symm.trans H;with_reducible exact H2_)|with_reducible exact H|(rw [hy138];exact H)|exact H
    have Ny138:=Am hy138
    clear hy138
    have H':=Am H
    clear H
    try go_wp2
    have n0_:=Am (rD Bc.out)
    have n1_:=Am (bD Ba.out)
    have n2_:=Am (o1 HB.out)
    clear Bc
    clear Ba
    clear HB
    have Bc:=n0_
    have Ba:=n1_
    have HB:=n2_
    clear n0_ n1_ n2_
    refine start_ (n:=10) (S:=fun w'=>True) (ds:=[]) z32q0 (by kernel_rfl) rfl rfl trivial (fun hHeld=>?_);refine with_st spec_l19Add.tab6 spec_l19Add.bits6 (fun _ _ _ _ _ h=>h) (fun HT_=>?_)
    generalize wr.drew=w10 at Bc Ba HB hHeld ⊢
    refine pS 0 15 z32q1 HT_ rfl rfl (by kernel_rfl) (by rfl) (by intro w';go_simp;with_reducible rfl) (by simp only [Act.put,lA,lZ,lS,iw,jw];rfl) ?_
    refine pS 1 16 z32q2 HT_ rfl rfl (by kernel_rfl) (by rfl) (by intro w';go_simp;with_reducible rfl) (by simp only [Act.put,lA,lZ,lS,iw,jw];rfl) ?_
    refine pS 2 17 z32q3 HT_ rfl rfl (by kernel_rfl) (by rfl) (by intro w';go_simp;with_reducible rfl) (by simp only [Act.put,lA,lZ,lS,iw,jw];rfl) ?_
    refine vS 3 18 z32q4 HT_ rfl rfl (by kernel_rfl) (by rfl) (by simp only [Act.put,lA,lZ,lS,iw,jw];rfl) ?_
    refine vS 4 19 z32q5 HT_ rfl rfl (by kernel_rfl) (by rfl) (by simp only [Act.put,lA,lZ,lS,iw,jw];rfl) ?_
    refine vS 5 20 z32q6 HT_ rfl rfl (by kernel_rfl) (by rfl) (by simp only [Act.put,lA,lZ,lS,iw,jw];rfl) ?_
    refine vS 6 21 z32q7 HT_ rfl rfl (by kernel_rfl) (by rfl) (by simp only [Act.put,lA,lZ,lS,iw,jw];rfl) ?_
    refine vS 7 22 z32q8 HT_ rfl rfl (by kernel_rfl) (by rfl) (by simp only [Act.put,lA,lZ,lS,iw,jw];rfl) ?_
    refine vS 8 23 z32q9 HT_ rfl rfl (by kernel_rfl) (by rfl) (by simp only [Act.put,lA,lZ,lS,iw,jw];rfl) ?_
    refine pS 9 24 z32q10 HT_ rfl rfl (by kernel_rfl) (by rfl) (by intro w';go_simp;with_reducible rfl) (by simp only [Act.put,lA,lZ,lS,iw,jw];rfl) ?_
    refine done_ (done_of HT_.out (by kernel_rfl)) ?_
    have p137:0≤(x7_1:Int):=oE (by first|(with_reducible assumption)|assumption)
    have q137:x7_1<(l0.length:Int):=oE (by first|(with_reducible assumption)|assumption)
    obtain ⟨ad137,e137,hx137_0,hx137_1,hx137_2⟩:=at_T35 HR0.out x7_1 p137 q137
    cases e137
    replace hx137_0:=(bW HB hx137_0:)
    replace hx137_1:=(bW HB hx137_1:)
    replace hx137_2:=(bW HB hx137_2:)
    replace p137:=eq_true p137
    replace q137:=eq_true q137
    try go_wp2_with (first|((with_reducible refine gate_builtin (b:=.append) (xs:=#[.tmp 29,.tmp 34]) rfl ?_);at_builtin;refine Kd.R_append k35 (w0:=w) w.heap.size rfl (.tmp 29) (.tmp 34) 23 35 (.agg #[(.int .i64 0),(.int .i64 0),(.int .i64 0)]) 24 rfl Try.underlying23 info35 rfl (by decide) (by omega) u5 x5_1 (⟨(rd_T35 l0 x7_1).f0,(rd_T35 l0 x7_1).f1,(rd_T35 l0 x7_1).f2⟩:S35) [.int .i64 ((rd_T35 l0 x7_1).f0),.int .i64 ((rd_T35 l0 x7_1).f1),.int .i64 ((rd_T35 l0 x7_1).f2)] (fun k_=>k_≠Bb) (fun _=>False) rfl rfl ?aP (fun _ hk=>hk.elim) ?aF ?aO ?aB ?aS ?aL ?_;(case aP=>exact k35_mkM _ _ _ (⟨(rd_T35 l0 x7_1).f0,(rd_T35 l0 x7_1).f1,(rd_T35 l0 x7_1).f2⟩:S35));(case aB=>exact (by repeat (first|(with_reducible first|exact HB.out|apply oA|apply pN|apply o1|refine bS ?_ Bd.out)|exact HB.out)));(case aF=>exact (fun k_ hk=>Kd.freshB (g:=Bb) (o:=.cells #[.int .i64 a1_0,.int .i64 a1_1,.int .i64 a1_2] 35 (0,0)) (bL Ba.out) k_ hk));(case aO=>exact (rL Bc.out));(case aS=>exact (bZ (by repeat (first|(with_reducible first|exact HB.out|apply oA|apply pN|apply o1|refine bS ?_ Bd.out)|exact HB.out))));(case aL=>have:=LMc9.out;omega);intro v139 w11 ho hb hg hat;rw [← Ny138.out] at ho;have n0_:=Am (bG (g:=Bb) (o:=.cells #[.int .i64 a1_0,.int .i64 a1_1,.int .i64 a1_2] 35 (0,0)) (bL Ba.out) hg (Kd.R_away Bc.out (fun _ hk=>hk)));have n1_:=Am (hb);have n2_:=Am (ho);clear Ba HB Bc;revert n0_ n1_ n2_;intro Ba HB Bg;clear ho hb hg hat))
    go_roundg k1
    case measure=>have:=HK1.out;omega
    case rel=>exact ⟨(y138),(true),(wrap64 (x7_1 + 1)),(by first|rfl|(simp;done)|(simp [*];done)),(by first|rfl|(simp;done)|(simp [*];done)),H',⟨by have:=HK1.out;omega⟩,⟨by (with_reducible repeat (first|apply rA|apply rN|apply rD));exact Bg.out⟩,⟨by (with_reducible repeat (first|refine bN ?_ _|refine bD ?_|refine bA ?_ _));exact Ba.out⟩,⟨by repeat (first|(with_reducible first|exact HB.out|apply oA|apply pN|apply o1|refine bS ?_ Bd.out)|exact HB.out)⟩⟩
   replace c7:=Bool.eq_false_iff.mpr c7
   subst c7
   have H1:(if 0≤x7_1 then ((spec_l19Ahead.f a1_0 a1_1 a1_2 ((rd_T35 l0 x7_1).f0) ((rd_T35 l0 x7_1).f1) ((rd_T35 l0 x7_1).f2)).bind fun t142=>(if t142=true then (if x5_1.length<5864062014805 then ((some (x5_1 ++ [(⟨a1_0,a1_1,a1_2⟩:S35)]:List (S35))).bind fun y143=>(if y143.length<5864062014805 then (spec_l19Add.l0 k1 l0 (y143 ++ [(⟨(rd_T35 l0 x7_1).f0,(rd_T35 l0 x7_1).f1,(rd_T35 l0 x7_1).f2⟩:S35)]) true (wrap64 (x7_1 + 1)) a1_0 a1_1 a1_2) else (none))) else (none)) else (if x5_1.length<5864062014805 then (spec_l19Add.l0 k1 l0 (x5_1 ++ [(⟨(rd_T35 l0 x7_1).f0,(rd_T35 l0 x7_1).f1,(rd_T35 l0 x7_1).f2⟩:S35)]) false (wrap64 (x7_1 + 1)) a1_0 a1_1 a1_2) else (none)))) else (none))=some r:=by rw [if_neg (show ¬ (false=true) by decide)] at H;exact H
   clear H
   have H:=H1
   clear H1
   by_cases c12:0≤x7_1
   rotate_left
   ·rw [if_neg c12] at H
    exact absurd H (by simp)
   rw [if_pos c12] at H
   have c12b0:decide (0≤x7_1)=true:=dT c12
   clear c12
   replace H:=oC H
   obtain ⟨t142,A130,H⟩:=H
   replace H:(if t142=true then (if x5_1.length<5864062014805 then ((some (x5_1 ++ [(⟨a1_0,a1_1,a1_2⟩:S35)]:List (S35))).bind fun y143=>(if y143.length<5864062014805 then (spec_l19Add.l0 k1 l0 (y143 ++ [(⟨(rd_T35 l0 x7_1).f0,(rd_T35 l0 x7_1).f1,(rd_T35 l0 x7_1).f2⟩:S35)]) true (wrap64 (x7_1 + 1)) a1_0 a1_1 a1_2) else (none))) else (none)) else (if x5_1.length<5864062014805 then (spec_l19Add.l0 k1 l0 (x5_1 ++ [(⟨(rd_T35 l0 x7_1).f0,(rd_T35 l0 x7_1).f1,(rd_T35 l0 x7_1).f2⟩:S35)]) false (wrap64 (x7_1 + 1)) a1_0 a1_1 a1_2) else (none)))=some r:=H
   have A13:=Am A130
   clear A130
   by_cases c14:t142=true
   rotate_left
   ·replace c14:=Bool.eq_false_iff.mpr c14
    subst c14
    have H1:(if x5_1.length<5864062014805 then (spec_l19Add.l0 k1 l0 (x5_1 ++ [(⟨(rd_T35 l0 x7_1).f0,(rd_T35 l0 x7_1).f1,(rd_T35 l0 x7_1).f2⟩:S35)]) false (wrap64 (x7_1 + 1)) a1_0 a1_1 a1_2) else (none))=some r:=by rw [if_neg (show ¬ (false=true) by decide)] at H;exact H
    clear H
    have H:=H1
    clear H1
    by_cases c22:x5_1.length<5864062014805
    rotate_left
    ·rw [if_neg c22] at H
     exact absurd H (by simp)
    rw [if_pos c22] at H
    have LMc22:=Am c22
    clear c22
    obtain ⟨y151,hy151⟩:∃ y_:List (S35),y_=(x5_1 ++ [(⟨(rd_T35 l0 x7_1).f0,(rd_T35 l0 x7_1).f1,(rd_T35 l0 x7_1).f2⟩:S35)]):=⟨_,rfl⟩
    replace H:(spec_l19Add.l0 k1 l0 y151 false (wrap64 (x7_1 + 1)) a1_0 a1_1 a1_2)=some r:=by first|(rw [hy151];with_reducible exact H)|(have H2_:=(Option.bind_some _ _).symm.trans H;rw [hy151];with_reducible exact H2_)|(have H2_:=(Option.bind_some _ _).symm.trans H;with_reducible exact H2_)|with_reducible exact H|(rw [hy151];exact H)|exact H
    have Ny151:=Am hy151
    clear hy151
    have H':=Am H
    clear H
    try go_wp2
    have n0_:=Am (rD Bc.out)
    have n1_:=Am (bD Ba.out)
    have n2_:=Am (o1 HB.out)
    clear Bc
    clear Ba
    clear HB
    have Bc:=n0_
    have Ba:=n1_
    have HB:=n2_
    clear n0_ n1_ n2_
    have p141:0≤(x7_1:Int):=oE (by first|(with_reducible assumption)|assumption)
    have q141:x7_1<(l0.length:Int):=oE (by first|(with_reducible assumption)|assumption)
    obtain ⟨ad141,e141,hx141_0,hx141_1,hx141_2⟩:=at_T35 HR0.out x7_1 p141 q141
    have hw141_2:=hx141_2
    have hw141_1:=hx141_1
    have hw141_0:=hx141_0
    cases e141
    replace hx141_0:=(bW HB hx141_0:)
    replace hx141_1:=(bW HB hx141_1:)
    replace hx141_2:=(bW HB hx141_2:)
    replace p141:=eq_true p141
    replace q141:=eq_true q141
    refine start_ (n:=10) (S:=fun w'=>w'.cell? ⟨Bb,0,none⟩=some (.int .i64 a1_0)∧w'.cell? ⟨Bb,1,none⟩=some (.int .i64 a1_1)∧w'.cell? ⟨Bb,2,none⟩=some (.int .i64 a1_2)∧w'.cell? (ad141.add ((x7_1).toNat * 3))=some (.int .i64 ((rd_T35 l0 x7_1).f0))∧w'.cell? ⟨(ad141.add ((x7_1).toNat * 3)).block,(ad141.add ((x7_1).toNat * 3)).off + 1,none⟩=some (.int .i64 ((rd_T35 l0 x7_1).f1))∧w'.cell? ⟨(ad141.add ((x7_1).toNat * 3)).block,(ad141.add ((x7_1).toNat * 3)).off + 2,none⟩=some (.int .i64 ((rd_T35 l0 x7_1).f2))) (ds:=[]) z32q0 (by kernel_rfl) rfl rfl ⟨(bC Ba.out 0).trans rfl,(bC Ba.out 1).trans rfl,(bC Ba.out 2).trans rfl,(bW HB hw141_0:),(bW HB hw141_1:),(bW HB hw141_2:)⟩ (fun hHeld=>?_);refine with_st spec_l19Add.tab6 spec_l19Add.bits6 (fun _ _ _ _ _ h=>h) (fun HT_=>?_)
    generalize wr.drew=w23 at Bc Ba HB hx141_0 hx141_1 hx141_2 hHeld ⊢
    refine pS 0 15 z32q1 HT_ rfl rfl (by kernel_rfl) (by rfl) (by intro w';go_simp;with_reducible rfl) (by simp only [Act.put,lA,lZ,lS,iw,jw];rfl) ?_
    refine pS 1 16 z32q2 HT_ rfl rfl (by kernel_rfl) (by rfl) (by intro w';go_simp;with_reducible rfl) (by simp only [Act.put,lA,lZ,lS,iw,jw];rfl) ?_
    refine pS 2 17 z32q3 HT_ rfl rfl (by kernel_rfl) (by rfl) (by intro w';go_simp;with_reducible rfl) (by simp only [Act.put,lA,lZ,lS,iw,jw];rfl) ?_
    refine pS 4 19 z32q11 HT_ rfl rfl (by kernel_rfl) (by rfl) (by intro w';go_simp;with_reducible rfl) (by simp only [Act.put,lA,lZ,lS,iw,jw];rfl) ?_
    refine pS 5 20 z32q12 HT_ rfl rfl (by kernel_rfl) (by rfl) (by intro w';go_simp;with_reducible rfl) (by simp only [Act.put,lA,lZ,lS,iw,jw];rfl) ?_
    refine pS 6 21 z32q13 HT_ rfl rfl (by kernel_rfl) (by rfl) (by intro w';go_simp;with_reducible rfl) (by simp only [Act.put,lA,lZ,lS,iw,jw];rfl) ?_
    refine tS 3 18 z32q7 HT_ hHeld rfl rfl (by kernel_rfl) (by rfl) (by rintro w' ⟨s0,s1,s2,s3,s4,s5⟩;go_simp;with_reducible rfl) (by simp only [Act.put,lA,lZ,lS,iw,jw];rfl) ?_
    refine tS 7 22 z32q8 HT_ hHeld rfl rfl (by kernel_rfl) (by rfl) (by rintro w' ⟨s0,s1,s2,s3,s4,s5⟩;go_simp;with_reducible rfl) (by simp only [Act.put,lA,lZ,lS,iw,jw];rfl) ?_
    refine oS 8 23 z32q9 HT_ rfl rfl (by kernel_rfl) (by decide) (fun K hK=>?_)
    refine goes_ Try.func29 (by kernel_rfl) rfl #[.agg #[.int .i64 a1_0,.int .i64 a1_1,.int .i64 a1_2],.agg #[.int .i64 ((rd_T35 l0 x7_1).f0),.int .i64 ((rd_T35 l0 x7_1).f1),.int .i64 ((rd_T35 l0 x7_1).f2)]] (by rfl) rfl rfl (by (try simp only [lM,lC,lN]);first|done|rfl|(simp only [lD,lT];rfl)) ?_
    with_reducible refine (spec_l19Ahead.calls a1_0 a1_1 a1_2 ((rd_T35 l0 x7_1).f0) ((rd_T35 l0 x7_1).f1) ((rd_T35 l0 x7_1).f2) false _ A13.out).mono ?_
    rintro e w24 ⟨rfl,hb⟩
    refine ⟨_,rfl,?_⟩
    have n0_:=Am (rB (rL Bc.out) hb)
    have n1_:=Am (bX Ba.out hb)
    have n2_:=Am (bP (by repeat (first|(with_reducible first|exact HB.out|apply oA|apply pN|apply o1|refine bS ?_ Bd.out)|exact HB.out)) hb)
    clear Bc
    clear Ba
    clear HB
    have Bc:=n0_
    have Ba:=n1_
    have HB:=n2_
    clear n0_ n1_ n2_
    (try clear hb)
    (try clear hb2)
    (try clear hk)
    (try clear hi)
    refine hK.out _ _ ⟨(bC Ba.out 0).trans rfl,(bC Ba.out 1).trans rfl,(bC Ba.out 2).trans rfl,(bW HB hw141_0:),(bW HB hw141_1:),(bW HB hw141_2:)⟩ (fun hHeld=>?_)
    clear hK K
    refine norm_ (by show Act.put _ (some 23) _=_;simp only [Act.put,lA,lZ,lS,iw,jw];rfl) ?_
    refine pS 9 24 z32q10 HT_ rfl rfl (by kernel_rfl) (by rfl) (by intro w';go_simp;with_reducible rfl) (by simp only [Act.put,lA,lZ,lS,iw,jw];rfl) ?_
    refine done_ (done_of HT_.out (by kernel_rfl)) ?_
    have p150:0≤(x7_1:Int):=oE (by first|(with_reducible assumption)|assumption)
    have q150:x7_1<(l0.length:Int):=oE (by first|(with_reducible assumption)|assumption)
    obtain ⟨ad150,e150,hx150_0,hx150_1,hx150_2⟩:=at_T35 HR0.out x7_1 p150 q150
    obtain rfl:ad141=ad150:=(by injection e150)
    replace hx150_0:=(bW HB hx150_0:)
    replace hx150_1:=(bW HB hx150_1:)
    replace hx150_2:=(bW HB hx150_2:)
    replace p150:=eq_true p150
    replace q150:=eq_true q150
    try go_wp2_with (first|((with_reducible refine gate_builtin (b:=.append) (xs:=#[.tmp 29,.tmp 34]) rfl ?_);at_builtin;refine Kd.R_append k35 (w0:=w) w.heap.size rfl (.tmp 29) (.tmp 34) 23 35 (.agg #[(.int .i64 0),(.int .i64 0),(.int .i64 0)]) 24 rfl Try.underlying23 info35 rfl (by decide) (by omega) u5 x5_1 (⟨(rd_T35 l0 x7_1).f0,(rd_T35 l0 x7_1).f1,(rd_T35 l0 x7_1).f2⟩:S35) [.int .i64 ((rd_T35 l0 x7_1).f0),.int .i64 ((rd_T35 l0 x7_1).f1),.int .i64 ((rd_T35 l0 x7_1).f2)] (fun k_=>k_≠Bb) (fun _=>False) rfl rfl ?aP (fun _ hk=>hk.elim) ?aF ?aO ?aB ?aS ?aL ?_;(case aP=>exact k35_mkM _ _ _ (⟨(rd_T35 l0 x7_1).f0,(rd_T35 l0 x7_1).f1,(rd_T35 l0 x7_1).f2⟩:S35));(case aB=>exact (by repeat (first|(with_reducible first|exact HB.out|apply oA|apply pN|apply o1|refine bS ?_ Bd.out)|exact HB.out)));(case aF=>exact (fun k_ hk=>Kd.freshB (g:=Bb) (o:=.cells #[.int .i64 a1_0,.int .i64 a1_1,.int .i64 a1_2] 35 (0,0)) (bL Ba.out) k_ hk));(case aO=>exact (rL Bc.out));(case aS=>exact (bZ (by repeat (first|(with_reducible first|exact HB.out|apply oA|apply pN|apply o1|refine bS ?_ Bd.out)|exact HB.out))));(case aL=>have:=LMc22.out;omega);intro v152 w25 ho hb hg hat;rw [← Ny151.out] at ho;have n0_:=Am (bG (g:=Bb) (o:=.cells #[.int .i64 a1_0,.int .i64 a1_1,.int .i64 a1_2] 35 (0,0)) (bL Ba.out) hg (Kd.R_away Bc.out (fun _ hk=>hk)));have n1_:=Am (hb);have n2_:=Am (ho);clear Ba HB Bc;revert n0_ n1_ n2_;intro Ba HB Bi;clear ho hb hg hat))
    go_roundg k1
    case measure=>have:=HK1.out;omega
    case rel=>exact ⟨(y151),(false),(wrap64 (x7_1 + 1)),(by first|rfl|(simp;done)|(simp [*];done)),(by first|rfl|(simp;done)|(simp [*];done)),H',⟨by have:=HK1.out;omega⟩,⟨by (with_reducible repeat (first|apply rA|apply rN|apply rD));exact Bi.out⟩,⟨by (with_reducible repeat (first|refine bN ?_ _|refine bD ?_|refine bA ?_ _));exact Ba.out⟩,⟨by repeat (first|(with_reducible first|exact HB.out|apply oA|apply pN|apply o1|refine bS ?_ Bd.out)|exact HB.out)⟩⟩
   subst c14
   have H1:(if x5_1.length<5864062014805 then ((some (x5_1 ++ [(⟨a1_0,a1_1,a1_2⟩:S35)]:List (S35))).bind fun y143=>(if y143.length<5864062014805 then (spec_l19Add.l0 k1 l0 (y143 ++ [(⟨(rd_T35 l0 x7_1).f0,(rd_T35 l0 x7_1).f1,(rd_T35 l0 x7_1).f2⟩:S35)]) true (wrap64 (x7_1 + 1)) a1_0 a1_1 a1_2) else (none))) else (none))=some r:=by rw [if_pos rfl] at H;exact H
   clear H
   have H:=H1
   clear H1
   by_cases c15:x5_1.length<5864062014805
   rotate_left
   ·rw [if_neg c15] at H
    exact absurd H (by simp)
   rw [if_pos c15] at H
   have LMc15:=Am c15
   clear c15
   obtain ⟨y143,hy143⟩:∃ y_:List (S35),y_=(x5_1 ++ [(⟨a1_0,a1_1,a1_2⟩:S35)]):=⟨_,rfl⟩
   replace H:(if y143.length<5864062014805 then (spec_l19Add.l0 k1 l0 (y143 ++ [(⟨(rd_T35 l0 x7_1).f0,(rd_T35 l0 x7_1).f1,(rd_T35 l0 x7_1).f2⟩:S35)]) true (wrap64 (x7_1 + 1)) a1_0 a1_1 a1_2) else (none))=some r:=by first|(rw [hy143];with_reducible exact H)|(have H2_:=(Option.bind_some _ _).symm.trans H;rw [hy143];with_reducible exact H2_)|(have H2_:=(Option.bind_some _ _).symm.trans H;with_reducible exact H2_)|with_reducible exact H|(rw [hy143];exact H)|exact H
   have Ny143:=Am hy143
   clear hy143
   by_cases c16:y143.length<5864062014805
   rotate_left
   ·rw [if_neg c16] at H
    exact absurd H (by simp)
   rw [if_pos c16] at H
   have LMc16:=Am c16
   clear c16
   obtain ⟨y147,hy147⟩:∃ y_:List (S35),y_=(y143 ++ [(⟨(rd_T35 l0 x7_1).f0,(rd_T35 l0 x7_1).f1,(rd_T35 l0 x7_1).f2⟩:S35)]):=⟨_,rfl⟩
   replace H:(spec_l19Add.l0 k1 l0 y147 true (wrap64 (x7_1 + 1)) a1_0 a1_1 a1_2)=some r:=by first|(rw [hy147];with_reducible exact H)|(have H2_:=(Option.bind_some _ _).symm.trans H;rw [hy147];with_reducible exact H2_)|(have H2_:=(Option.bind_some _ _).symm.trans H;with_reducible exact H2_)|with_reducible exact H|(rw [hy147];exact H)|exact H
   have Ny147:=Am hy147
   clear hy147
   have H':=Am H
   clear H
   try go_wp2
   have n0_:=Am (rD Bc.out)
   have n1_:=Am (bD Ba.out)
   have n2_:=Am (o1 HB.out)
   clear Bc
   clear Ba
   clear HB
   have Bc:=n0_
   have Ba:=n1_
   have HB:=n2_
   clear n0_ n1_ n2_
   have p141:0≤(x7_1:Int):=oE (by first|(with_reducible assumption)|assumption)
   have q141:x7_1<(l0.length:Int):=oE (by first|(with_reducible assumption)|assumption)
   obtain ⟨ad141,e141,hx141_0,hx141_1,hx141_2⟩:=at_T35 HR0.out x7_1 p141 q141
   have hw141_2:=hx141_2
   have hw141_1:=hx141_1
   have hw141_0:=hx141_0
   cases e141
   replace hx141_0:=(bW HB hx141_0:)
   replace hx141_1:=(bW HB hx141_1:)
   replace hx141_2:=(bW HB hx141_2:)
   replace p141:=eq_true p141
   replace q141:=eq_true q141
   refine start_ (n:=10) (S:=fun w'=>w'.cell? ⟨Bb,0,none⟩=some (.int .i64 a1_0)∧w'.cell? ⟨Bb,1,none⟩=some (.int .i64 a1_1)∧w'.cell? ⟨Bb,2,none⟩=some (.int .i64 a1_2)∧w'.cell? (ad141.add ((x7_1).toNat * 3))=some (.int .i64 ((rd_T35 l0 x7_1).f0))∧w'.cell? ⟨(ad141.add ((x7_1).toNat * 3)).block,(ad141.add ((x7_1).toNat * 3)).off + 1,none⟩=some (.int .i64 ((rd_T35 l0 x7_1).f1))∧w'.cell? ⟨(ad141.add ((x7_1).toNat * 3)).block,(ad141.add ((x7_1).toNat * 3)).off + 2,none⟩=some (.int .i64 ((rd_T35 l0 x7_1).f2))) (ds:=[]) z32q0 (by kernel_rfl) rfl rfl ⟨(bC Ba.out 0).trans rfl,(bC Ba.out 1).trans rfl,(bC Ba.out 2).trans rfl,(bW HB hw141_0:),(bW HB hw141_1:),(bW HB hw141_2:)⟩ (fun hHeld=>?_);refine with_st spec_l19Add.tab6 spec_l19Add.bits6 (fun _ _ _ _ _ h=>h) (fun HT_=>?_)
   generalize wr.drew=w17 at Bc Ba HB hx141_0 hx141_1 hx141_2 hHeld ⊢
   refine pS 0 15 z32q1 HT_ rfl rfl (by kernel_rfl) (by rfl) (by intro w';go_simp;with_reducible rfl) (by simp only [Act.put,lA,lZ,lS,iw,jw];rfl) ?_
   refine pS 1 16 z32q2 HT_ rfl rfl (by kernel_rfl) (by rfl) (by intro w';go_simp;with_reducible rfl) (by simp only [Act.put,lA,lZ,lS,iw,jw];rfl) ?_
   refine pS 2 17 z32q3 HT_ rfl rfl (by kernel_rfl) (by rfl) (by intro w';go_simp;with_reducible rfl) (by simp only [Act.put,lA,lZ,lS,iw,jw];rfl) ?_
   refine pS 4 19 z32q11 HT_ rfl rfl (by kernel_rfl) (by rfl) (by intro w';go_simp;with_reducible rfl) (by simp only [Act.put,lA,lZ,lS,iw,jw];rfl) ?_
   refine pS 5 20 z32q12 HT_ rfl rfl (by kernel_rfl) (by rfl) (by intro w';go_simp;with_reducible rfl) (by simp only [Act.put,lA,lZ,lS,iw,jw];rfl) ?_
   refine pS 6 21 z32q13 HT_ rfl rfl (by kernel_rfl) (by rfl) (by intro w';go_simp;with_reducible rfl) (by simp only [Act.put,lA,lZ,lS,iw,jw];rfl) ?_
   refine tS 3 18 z32q7 HT_ hHeld rfl rfl (by kernel_rfl) (by rfl) (by rintro w' ⟨s0,s1,s2,s3,s4,s5⟩;go_simp;with_reducible rfl) (by simp only [Act.put,lA,lZ,lS,iw,jw];rfl) ?_
   refine tS 7 22 z32q8 HT_ hHeld rfl rfl (by kernel_rfl) (by rfl) (by rintro w' ⟨s0,s1,s2,s3,s4,s5⟩;go_simp;with_reducible rfl) (by simp only [Act.put,lA,lZ,lS,iw,jw];rfl) ?_
   refine oS 8 23 z32q9 HT_ rfl rfl (by kernel_rfl) (by decide) (fun K hK=>?_)
   refine goes_ Try.func29 (by kernel_rfl) rfl #[.agg #[.int .i64 a1_0,.int .i64 a1_1,.int .i64 a1_2],.agg #[.int .i64 ((rd_T35 l0 x7_1).f0),.int .i64 ((rd_T35 l0 x7_1).f1),.int .i64 ((rd_T35 l0 x7_1).f2)]] (by rfl) rfl rfl (by (try simp only [lM,lC,lN]);first|done|rfl|(simp only [lD,lT];rfl)) ?_
   with_reducible refine (spec_l19Ahead.calls a1_0 a1_1 a1_2 ((rd_T35 l0 x7_1).f0) ((rd_T35 l0 x7_1).f1) ((rd_T35 l0 x7_1).f2) true _ A13.out).mono ?_
   rintro e w18 ⟨rfl,hb⟩
   refine ⟨_,rfl,?_⟩
   have n0_:=Am (rB (rL Bc.out) hb)
   have n1_:=Am (bX Ba.out hb)
   have n2_:=Am (bP (by repeat (first|(with_reducible first|exact HB.out|apply oA|apply pN|apply o1|refine bS ?_ Bd.out)|exact HB.out)) hb)
   clear Bc
   clear Ba
   clear HB
   have Bc:=n0_
   have Ba:=n1_
   have HB:=n2_
   clear n0_ n1_ n2_
   (try clear hb)
   (try clear hb2)
   (try clear hk)
   (try clear hi)
   refine hK.out _ _ ⟨(bC Ba.out 0).trans rfl,(bC Ba.out 1).trans rfl,(bC Ba.out 2).trans rfl,(bW HB hw141_0:),(bW HB hw141_1:),(bW HB hw141_2:)⟩ (fun hHeld=>?_)
   clear hK K
   refine norm_ (by show Act.put _ (some 23) _=_;simp only [Act.put,lA,lZ,lS,iw,jw];rfl) ?_
   refine pS 9 24 z32q10 HT_ rfl rfl (by kernel_rfl) (by rfl) (by intro w';go_simp;with_reducible rfl) (by simp only [Act.put,lA,lZ,lS,iw,jw];rfl) ?_
   refine done_ (done_of HT_.out (by kernel_rfl)) ?_
   have Bk:=cz0 Ba.out
   have Bl:=cz1 Ba.out
   have Bm:=cz2 Ba.out
   have Bn:=bF Ba.out 0
   have Bo:=bF Ba.out 1
   have Bp:=bF Ba.out 2
   try go_wp2_with (first|((with_reducible refine gate_builtin (b:=.append) (xs:=#[.tmp 25,.tmp 27]) rfl ?_);at_builtin;refine Kd.R_append k35 (w0:=w) w.heap.size rfl (.tmp 25) (.tmp 27) 23 35 (.agg #[(.int .i64 0),(.int .i64 0),(.int .i64 0)]) 24 rfl Try.underlying23 info35 rfl (by decide) (by omega) u5 x5_1 (⟨a1_0,a1_1,a1_2⟩:S35) [.int .i64 a1_0,.int .i64 a1_1,.int .i64 a1_2] (fun k_=>k_≠Bb) (fun _=>False) rfl rfl ?aP (fun _ hk=>hk.elim) ?aF ?aO ?aB ?aS ?aL ?_;(case aP=>exact k35_mkM _ _ _ (⟨a1_0,a1_1,a1_2⟩:S35));(case aB=>exact (by repeat (first|(with_reducible first|exact HB.out|apply oA|apply pN|apply o1|refine bS ?_ Bd.out)|exact HB.out)));(case aF=>exact (fun k_ hk=>Kd.freshB (g:=Bb) (o:=.cells #[.int .i64 a1_0,.int .i64 a1_1,.int .i64 a1_2] 35 (0,0)) (bL Ba.out) k_ hk));(case aO=>exact (rL Bc.out));(case aS=>exact (bZ (by repeat (first|(with_reducible first|exact HB.out|apply oA|apply pN|apply o1|refine bS ?_ Bd.out)|exact HB.out))));(case aL=>have:=LMc15.out;omega);intro v144 w20 ho hb hg hat;rw [← Ny143.out] at ho;have n0_:=Am (bG (g:=Bb) (o:=.cells #[.int .i64 a1_0,.int .i64 a1_1,.int .i64 a1_2] 35 (0,0)) (bL Ba.out) hg (Kd.R_away Bc.out (fun _ hk=>hk)));have n1_:=Am (hb);have n2_:=Am (ho);clear Ba HB Bc;revert n0_ n1_ n2_;intro Ba HB Be;clear ho hb hg hat;have p146:0≤(x7_1:Int):=oE (by first|(with_reducible assumption)|assumption);have q146:x7_1<(l0.length:Int):=oE (by first|(with_reducible assumption)|assumption);obtain ⟨ad146,e146,hx146_0,hx146_1,hx146_2⟩:=at_T35 HR0.out x7_1 p146 q146;obtain rfl:ad141=ad146:=(by injection e146);replace hx146_0:=(HB.out.cell (World.block_lt_of_cell? w _ hx146_0)).trans hx146_0;replace hx146_1:=(HB.out.cell (World.block_lt_of_cell? w _ hx146_1)).trans hx146_1;replace hx146_2:=(HB.out.cell (World.block_lt_of_cell? w _ hx146_2)).trans hx146_2;replace p146:=eq_true p146;replace q146:=eq_true q146)|((with_reducible refine gate_builtin (b:=.append) (xs:=#[.tmp 29,.tmp 34]) rfl ?_);at_builtin;refine Kd.R_append k35 (w0:=w) w.heap.size rfl (.tmp 29) (.tmp 34) 23 35 (.agg #[(.int .i64 0),(.int .i64 0),(.int .i64 0)]) 24 rfl Try.underlying23 info35 rfl (by decide) (by omega) v144 y143 (⟨(rd_T35 l0 x7_1).f0,(rd_T35 l0 x7_1).f1,(rd_T35 l0 x7_1).f2⟩:S35) [.int .i64 ((rd_T35 l0 x7_1).f0),.int .i64 ((rd_T35 l0 x7_1).f1),.int .i64 ((rd_T35 l0 x7_1).f2)] (fun k_=>k_≠Bb) (fun _=>False) rfl rfl ?aP (fun _ hk=>hk.elim) ?aF ?aO ?aB ?aS ?aL ?_;(case aP=>exact k35_mkM _ _ _ (⟨(rd_T35 l0 x7_1).f0,(rd_T35 l0 x7_1).f1,(rd_T35 l0 x7_1).f2⟩:S35));(case aB=>exact (by repeat (first|(with_reducible first|exact HB.out|apply oA|apply pN|apply o1|refine bS ?_ Bd.out)|exact HB.out)));(case aF=>exact (fun k_ hk=>Kd.freshB (g:=Bb) (o:=.cells #[.int .i64 a1_0,.int .i64 a1_1,.int .i64 a1_2] 35 (0,0)) (bL Ba.out) k_ hk));(case aO=>exact (rL Be.out));(case aS=>exact (bZ (by repeat (first|(with_reducible first|exact HB.out|apply oA|apply pN|apply o1|refine bS ?_ Bd.out)|exact HB.out))));(case aL=>have:=LMc16.out;omega);intro v148 w21 ho hb hg hat;rw [← Ny147.out] at ho;have n0_:=Am (bG (g:=Bb) (o:=.cells #[.int .i64 a1_0,.int .i64 a1_1,.int .i64 a1_2] 35 (0,0)) (bL Ba.out) hg (Kd.R_away Be.out (fun _ hk=>hk)));have n1_:=Am (hb);have n2_:=Am (ho);clear Ba HB Be;revert n0_ n1_ n2_;intro Ba HB Bh;clear ho hb hg hat))
   go_roundg k1
   case measure=>have:=HK1.out;omega
   case rel=>exact ⟨(y147),(true),(wrap64 (x7_1 + 1)),(by first|rfl|(simp;done)|(simp [*];done)),(by first|rfl|(simp;done)|(simp [*];done)),H',⟨by have:=HK1.out;omega⟩,⟨by (with_reducible repeat (first|apply rA|apply rN|apply rD));exact Bh.out⟩,⟨by (with_reducible repeat (first|refine bN ?_ _|refine bD ?_|refine bA ?_ _));exact Ba.out⟩,⟨by repeat (first|(with_reducible first|exact HB.out|apply oA|apply pN|apply o1|refine bS ?_ Bd.out)|exact HB.out)⟩⟩
end Go.Proofs.Ytpacdakadkblgaa.PFnClockDrop
