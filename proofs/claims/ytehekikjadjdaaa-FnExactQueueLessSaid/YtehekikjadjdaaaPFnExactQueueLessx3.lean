/- Proved here, without a condition beyond those that each theorem states: what the Go functions named below do is what the plain functions of the same names say. Written by xprint.py, a program of this session. -/
import Derived.Test.YtehekikjadjdaaaPFnExactQueueLessx0
import Derived.Test.YtehekikjadjdaaaPFnExactQueueLessx2
namespace Go.Proofs.Ytehekikjadjdaaa.PFnExactQueueLess
open Go.RowKit Go.Proofs.YtehekikjadjdaaaW.PrintWords Go.Proofs.YtehekikjadjdaaaW.PrintLast Go.Proofs.YtehekikjadjdaaaW.PrintMore
attribute [local go_sem] max2_int min2_int max_two min_two max_three min_three max_four min_four   -- for this text's walks alone
set_option linter.unusedVariables false
set_option linter.unusedSimpArgs false

attribute [local go_sem ↓] isSome_setCell_
/-! ### laws_eqQueue: function 33 -/
def laws_eqQueue.f (k : Nat) (l0_0 : List (S86)) (a0_1 : Int) (l1_0 : List (S86)) (a1_1 : Int) : Option (Bool) := (laws_eqTaskS.f k l0_0 l1_0).bind fun t128 => (if t128 = true then (if a0_1 = a1_1 then (some true) else (some false)) else (some false))
theorem laws_eqQueue.mono : ∀ a0 a1 a2 a3 k, LeO (laws_eqQueue.f k a0 a1 a2 a3) (laws_eqQueue.f (k + 1) a0 a1 a2 a3) := by
 intro a0 a1 a2 a3 k
 unfold laws_eqQueue.f
 repeat' first
  |(with_reducible exact laws_eqTaskS.mono _ _ _)
  |(with_reducible exact LeO.refl _)
  |(with_reducible exact LeO.none _)
  |(with_reducible refine LeO.ite ?_ ?_)
  |(with_reducible refine LeO.bind ?_ (fun _ => ?_))
  |exact laws_eqTaskS.mono _ _ _
  |exact LeO.none _
  |refine LeO.ite ?_ ?_
  |refine LeO.bind ?_ (fun _ => ?_)
set_option maxHeartbeats 2000000 in
set_option maxRecDepth 100000 in
theorem laws_eqQueue.calls (k:Nat) (A0_0:Option Addr) (c0_0:Nat) (l0_0:List (S86)) (a0_1:Int) (A1_0:Option Addr) (c1_0:Nat) (l1_0:List (S86)) (a1_1:Int) (r:Bool) (w:World) (hr0_0:Kd.C k86 w A0_0 l0_0.length l0_0) (hc0_0:l0_0.length≤c0_0) (hr1_0:Kd.C k86 w A1_0 l1_0.length l1_0) (hc1_0:l1_0.length≤c1_0) (h:laws_eqQueue.f k l0_0 a0_1 l1_0 a1_1=some r) :
  Calls Try.prog 33 #[.agg #[.slice A0_0 l0_0.length c0_0,.int .i64 a0_1],.agg #[.slice A1_0 l1_0.length c1_0,.int .i64 a1_1]] w fun e w'=>e=.returned (.bool r)∧Below w.heap.size w w':=by
 have hu47:=Try.underlying47
 have HR0_0:=Am hr0_0
 have HC0_0:=Am hc0_0
 clear hr0_0 hc0_0
 have HR1_0:=Am hr1_0
 have HC1_0:=Am hc1_0
 clear hr1_0 hc1_0
 have HB:=Am (Below.refl w.heap.size w)
 have H:((laws_eqTaskS.f k l0_0 l1_0).bind fun t128=>(if t128=true then (if a0_1=a1_1 then (some true) else (some false)) else (some false)))=some r:=h
 clear h
 replace H:=oC H
 obtain ⟨t128,A30,H⟩:=H
 replace H:(if t128=true then (if a0_1=a1_1 then (some true) else (some false)) else (some false))=some r:=H
 have A3:=Am A30
 clear A30
 by_cases c4:t128=true
 rotate_left
 ·replace c4:=Bool.eq_false_iff.mpr c4
  subst c4
  have H1:(some false)=some r:=by rw [if_neg (show ¬ (false=true) by decide)] at H;exact H
  clear H
  have H:=H1
  clear H1
  obtain rfl:=Option.some.inj H
  go_enter Try.func33,Try.ntmps33
  go_wp2_with (first|((with_reducible refine gate_dst (N:=2) rfl ?_);refine box_event ?hg (N:=2) ?hd (cs:=#[.slice A0_0 l0_0.length c0_0,.int .i64 a0_1]) (t:=47) ?hr ?_;(case hd=>rfl);(case hg=>rfl);(case hr=>first|(go_simp;done)|(go_simp;rfl));intro Bb hg w22 hbox hb;have n0_:=Am (bP (by repeat (first|(with_reducible first|exact HB.out|apply oA|apply pN|apply o1)|exact HB.out)) hb);have n1_:=Am (hbox);have n2_:=Am ((by rw [hg];exact (bZ (by repeat (first|(with_reducible first|exact HB.out|apply oA|apply pN|apply o1)|exact HB.out))):w.heap.size≤Bb));have n3_:=Am ((by rw [hg];exact (bZ (by repeat (first|(with_reducible first|exact HB.out|apply oA|apply pN|apply o1)|exact HB.out))):w.heap.size≤Bb));clear HB;revert n0_ n1_ n2_ n3_;intro HB Ba Bi Be;clear hb hbox hg)|((with_reducible refine gate_dst (N:=3) rfl ?_);refine box_event ?hg (N:=3) ?hd (cs:=#[.slice A1_0 l1_0.length c1_0,.int .i64 a1_1]) (t:=47) ?hr ?_;(case hd=>rfl);(case hg=>rfl);(case hr=>first|(go_simp;done)|(go_simp;rfl));intro Bd hg w23 hbox hb;have n0_:=Am (bX Ba.out hb);have n1_:=Am (bP (by repeat (first|(with_reducible first|exact HB.out|apply oA|apply pN|apply o1|refine bS ?_ Be.out)|exact HB.out)) hb);have n2_:=Am (hbox);have n3_:=Am ((by rw [hg];exact (bZ (by repeat (first|(with_reducible first|exact HB.out|apply oA|apply pN|apply o1|refine bS ?_ Be.out)|exact HB.out))):w.heap.size≤Bd));have n4_:=Am ((by rw [hg];exact (bZ (by repeat (first|(with_reducible first|exact HB.out|apply oA|apply pN|apply o1|refine bS ?_ Be.out)|exact HB.out))):w.heap.size≤Bd));have n5_:=Am ((nL Ba.out hg));have n6_:=Am ((nG Ba.out hg));clear Ba HB;revert n0_ n1_ n2_ n3_ n4_ n5_ n6_;intro Ba HB Bc Bj Bh Bf Bg;clear hb hbox hg;have B0:=Bf.out;have B1:=Bg.out;have BM:=cz0 Ba.out;have BN:=cz1 Ba.out;have BO:=bF Ba.out 0;have BP:=bF Ba.out 1;have BQ:=cz0 Bc.out;have BR:=cz1 Bc.out;have BS:=bF Bc.out 0;have BT:=bF Bc.out 1)|((with_reducible refine gate_callee (f:=76) rfl ?_);refine goesL_ (some 9) rfl rfl Try.func76 (by kernel_rfl) rfl #[.slice A0_0 l0_0.length c0_0,.slice A1_0 l1_0.length c1_0] rfl (by (try simp only [lM,lC,lN]);first|done|rfl|(simp only [lD,lT];rfl)) ?_;(with_reducible refine (laws_eqTaskS.calls k _ _ l0_0 _ _ l1_0 false _ ?side1 ?side2 ?side3 ?side4 A3.out).mono ?_);(case side1=>repeat (first|exact (cB HR0_0.out HB.out)|(with_reducible refine cA ?_ _)|(with_reducible refine cN ?_ _)|(with_reducible refine cD ?_)));(case side2=>exact HC0_0.out);(case side3=>repeat (first|exact (cB HR1_0.out HB.out)|(with_reducible refine cA ?_ _)|(with_reducible refine cN ?_ _)|(with_reducible refine cD ?_)));(case side4=>exact HC1_0.out);rintro e w27 ⟨rfl,hb⟩;refine ⟨_,rfl,?_⟩;have n0_:=Am (bX Ba.out hb);have n1_:=Am (bX Bc.out hb);have n2_:=Am (bP (by repeat (first|(with_reducible first|exact HB.out|apply oA|apply pN|apply o1|refine bS ?_ Be.out|refine bS ?_ Bh.out)|exact HB.out)) hb);clear Ba Bc HB;revert n0_ n1_ n2_;intro Ba Bc HB;(try clear hb);(try clear hb2);(try clear hk);(try clear hi)))
  go_ret
  exact ⟨by first|rfl|(simp [errW_none,errW_some] <;> rfl)|(simp [*,errW_none,errW_some] <;> rfl),by repeat (first|(with_reducible first|exact HB.out|apply oA|apply pN|apply o1|refine bS ?_ Be.out|refine bS ?_ Bh.out)|exact HB.out)⟩


 subst c4
 have H1:(if a0_1=a1_1 then (some true) else (some false))=some r:=by rw [if_pos rfl] at H;exact H
 clear H
 have H:=H1
 clear H1
 by_cases c5:a0_1=a1_1
 rotate_left
 ·rw [if_neg c5] at H
  have c5b0:(a0_1 == a1_1)=false:=beq_eq_false_iff_ne.mpr c5
  have c5b1:(a0_1 != a1_1)=true:=bne_iff_ne.mpr c5
  obtain rfl:=Option.some.inj H
  go_enter Try.func33,Try.ntmps33
  go_wp2_with (first|((with_reducible refine gate_dst (N:=2) rfl ?_);refine box_event ?hg (N:=2) ?hd (cs:=#[.slice A0_0 l0_0.length c0_0,.int .i64 a0_1]) (t:=47) ?hr ?_;(case hd=>rfl);(case hg=>rfl);(case hr=>first|(go_simp;done)|(go_simp;rfl));intro Bb hg w14 hbox hb;have n0_:=Am (bP (by repeat (first|(with_reducible first|exact HB.out|apply oA|apply pN|apply o1)|exact HB.out)) hb);have n1_:=Am (hbox);have n2_:=Am ((by rw [hg];exact (bZ (by repeat (first|(with_reducible first|exact HB.out|apply oA|apply pN|apply o1)|exact HB.out))):w.heap.size≤Bb));have n3_:=Am ((by rw [hg];exact (bZ (by repeat (first|(with_reducible first|exact HB.out|apply oA|apply pN|apply o1)|exact HB.out))):w.heap.size≤Bb));clear HB;revert n0_ n1_ n2_ n3_;intro HB Ba Bi Be;clear hb hbox hg)|((with_reducible refine gate_dst (N:=3) rfl ?_);refine box_event ?hg (N:=3) ?hd (cs:=#[.slice A1_0 l1_0.length c1_0,.int .i64 a1_1]) (t:=47) ?hr ?_;(case hd=>rfl);(case hg=>rfl);(case hr=>first|(go_simp;done)|(go_simp;rfl));intro Bd hg w15 hbox hb;have n0_:=Am (bX Ba.out hb);have n1_:=Am (bP (by repeat (first|(with_reducible first|exact HB.out|apply oA|apply pN|apply o1|refine bS ?_ Be.out)|exact HB.out)) hb);have n2_:=Am (hbox);have n3_:=Am ((by rw [hg];exact (bZ (by repeat (first|(with_reducible first|exact HB.out|apply oA|apply pN|apply o1|refine bS ?_ Be.out)|exact HB.out))):w.heap.size≤Bd));have n4_:=Am ((by rw [hg];exact (bZ (by repeat (first|(with_reducible first|exact HB.out|apply oA|apply pN|apply o1|refine bS ?_ Be.out)|exact HB.out))):w.heap.size≤Bd));have n5_:=Am ((nL Ba.out hg));have n6_:=Am ((nG Ba.out hg));clear Ba HB;revert n0_ n1_ n2_ n3_ n4_ n5_ n6_;intro Ba HB Bc Bj Bh Bf Bg;clear hb hbox hg;have BY:=Bf.out;have BZ:=Bg.out;have Bw:=cz0 Ba.out;have Bx:=cz1 Ba.out;have By:=bF Ba.out 0;have Bz:=bF Ba.out 1;have BA:=cz0 Bc.out;have BB:=cz1 Bc.out;have BC:=bF Bc.out 0;have BD:=bF Bc.out 1)|((with_reducible refine gate_callee (f:=76) rfl ?_);refine goesL_ (some 9) rfl rfl Try.func76 (by kernel_rfl) rfl #[.slice A0_0 l0_0.length c0_0,.slice A1_0 l1_0.length c1_0] rfl (by (try simp only [lM,lC,lN]);first|done|rfl|(simp only [lD,lT];rfl)) ?_;(with_reducible refine (laws_eqTaskS.calls k _ _ l0_0 _ _ l1_0 true _ ?side1 ?side2 ?side3 ?side4 A3.out).mono ?_);(case side1=>repeat (first|exact (cB HR0_0.out HB.out)|(with_reducible refine cA ?_ _)|(with_reducible refine cN ?_ _)|(with_reducible refine cD ?_)));(case side2=>exact HC0_0.out);(case side3=>repeat (first|exact (cB HR1_0.out HB.out)|(with_reducible refine cA ?_ _)|(with_reducible refine cN ?_ _)|(with_reducible refine cD ?_)));(case side4=>exact HC1_0.out);rintro e w19 ⟨rfl,hb⟩;refine ⟨_,rfl,?_⟩;have n0_:=Am (bX Ba.out hb);have n1_:=Am (bX Bc.out hb);have n2_:=Am (bP (by repeat (first|(with_reducible first|exact HB.out|apply oA|apply pN|apply o1|refine bS ?_ Be.out|refine bS ?_ Bh.out)|exact HB.out)) hb);clear Ba Bc HB;revert n0_ n1_ n2_;intro Ba Bc HB;(try clear hb);(try clear hb2);(try clear hk);(try clear hi);have BE:=cz0 Ba.out;have BF:=cz1 Ba.out;have BG:=bF Ba.out 0;have BH:=bF Ba.out 1;have BI:=cz0 Bc.out;have BJ:=cz1 Bc.out;have BK:=bF Bc.out 0;have BL:=bF Bc.out 1))
  go_ret
  exact ⟨by first|rfl|(simp [errW_none,errW_some] <;> rfl)|(simp [*,errW_none,errW_some] <;> rfl),by repeat (first|(with_reducible first|exact HB.out|apply oA|apply pN|apply o1|refine bS ?_ Be.out|refine bS ?_ Bh.out)|exact HB.out)⟩
 rw [if_pos c5] at H
 have c5b0:(a0_1 == a1_1)=true:=beq_iff_eq.mpr c5
 have c5b1:(a0_1 != a1_1)=false:=bne_eq_false_iff_eq.mpr c5
 clear c5
 obtain rfl:=Option.some.inj H
 go_enter Try.func33,Try.ntmps33
 go_wp2_with (first|((with_reducible refine gate_dst (N:=2) rfl ?_);refine box_event ?hg (N:=2) ?hd (cs:=#[.slice A0_0 l0_0.length c0_0,.int .i64 a0_1]) (t:=47) ?hr ?_;(case hd=>rfl);(case hg=>rfl);(case hr=>first|(go_simp;done)|(go_simp;rfl));intro Bb hg w6 hbox hb;have n0_:=Am (bP (by repeat (first|(with_reducible first|exact HB.out|apply oA|apply pN|apply o1)|exact HB.out)) hb);have n1_:=Am (hbox);have n2_:=Am ((by rw [hg];exact (bZ (by repeat (first|(with_reducible first|exact HB.out|apply oA|apply pN|apply o1)|exact HB.out))):w.heap.size≤Bb));have n3_:=Am ((by rw [hg];exact (bZ (by repeat (first|(with_reducible first|exact HB.out|apply oA|apply pN|apply o1)|exact HB.out))):w.heap.size≤Bb));clear HB;revert n0_ n1_ n2_ n3_;intro HB Ba Bi Be;clear hb hbox hg)|((with_reducible refine gate_dst (N:=3) rfl ?_);refine box_event ?hg (N:=3) ?hd (cs:=#[.slice A1_0 l1_0.length c1_0,.int .i64 a1_1]) (t:=47) ?hr ?_;(case hd=>rfl);(case hg=>rfl);(case hr=>first|(go_simp;done)|(go_simp;rfl));intro Bd hg w7 hbox hb;have n0_:=Am (bX Ba.out hb);have n1_:=Am (bP (by repeat (first|(with_reducible first|exact HB.out|apply oA|apply pN|apply o1|refine bS ?_ Be.out)|exact HB.out)) hb);have n2_:=Am (hbox);have n3_:=Am ((by rw [hg];exact (bZ (by repeat (first|(with_reducible first|exact HB.out|apply oA|apply pN|apply o1|refine bS ?_ Be.out)|exact HB.out))):w.heap.size≤Bd));have n4_:=Am ((by rw [hg];exact (bZ (by repeat (first|(with_reducible first|exact HB.out|apply oA|apply pN|apply o1|refine bS ?_ Be.out)|exact HB.out))):w.heap.size≤Bd));have n5_:=Am ((nL Ba.out hg));have n6_:=Am ((nG Ba.out hg));clear Ba HB;revert n0_ n1_ n2_ n3_ n4_ n5_ n6_;intro Ba HB Bc Bj Bh Bf Bg;clear hb hbox hg;have B2:=Bf.out;have B3:=Bg.out;have BU:=cz0 Ba.out;have BV:=cz1 Ba.out;have BW:=bF Ba.out 0;have BX:=bF Ba.out 1;have Bk:=cz0 Bc.out;have Bl:=cz1 Bc.out;have Bm:=bF Bc.out 0;have Bn:=bF Bc.out 1)|((with_reducible refine gate_callee (f:=76) rfl ?_);refine goesL_ (some 9) rfl rfl Try.func76 (by kernel_rfl) rfl #[.slice A0_0 l0_0.length c0_0,.slice A1_0 l1_0.length c1_0] rfl (by (try simp only [lM,lC,lN]);first|done|rfl|(simp only [lD,lT];rfl)) ?_;(with_reducible refine (laws_eqTaskS.calls k _ _ l0_0 _ _ l1_0 true _ ?side1 ?side2 ?side3 ?side4 A3.out).mono ?_);(case side1=>repeat (first|exact (cB HR0_0.out HB.out)|(with_reducible refine cA ?_ _)|(with_reducible refine cN ?_ _)|(with_reducible refine cD ?_)));(case side2=>exact HC0_0.out);(case side3=>repeat (first|exact (cB HR1_0.out HB.out)|(with_reducible refine cA ?_ _)|(with_reducible refine cN ?_ _)|(with_reducible refine cD ?_)));(case side4=>exact HC1_0.out);rintro e w11 ⟨rfl,hb⟩;refine ⟨_,rfl,?_⟩;have n0_:=Am (bX Ba.out hb);have n1_:=Am (bX Bc.out hb);have n2_:=Am (bP (by repeat (first|(with_reducible first|exact HB.out|apply oA|apply pN|apply o1|refine bS ?_ Be.out|refine bS ?_ Bh.out)|exact HB.out)) hb);clear Ba Bc HB;revert n0_ n1_ n2_;intro Ba Bc HB;(try clear hb);(try clear hb2);(try clear hk);(try clear hi);have Bo:=cz0 Ba.out;have Bp:=cz1 Ba.out;have Bq:=bF Ba.out 0;have Br:=bF Ba.out 1;have Bs:=cz0 Bc.out;have Bt:=cz1 Bc.out;have Bu:=bF Bc.out 0;have Bv:=bF Bc.out 1))
 go_ret
 exact ⟨by first|rfl|(simp [errW_none,errW_some] <;> rfl)|(simp [*,errW_none,errW_some] <;> rfl),by repeat (first|(with_reducible first|exact HB.out|apply oA|apply pN|apply o1|refine bS ?_ Be.out|refine bS ?_ Bh.out)|exact HB.out)⟩/-! ### laws_markTaskS: function 77 -/
def laws_markTaskS.l0 : Nat → List (S86) → Int → Int → Option (Int × (List (S86)))
|0, _, _, _ => none
|k + 1, x0, x1, x5 => if x5 < (x0.length : Int) then (if 0 ≤ x5 then ((some (x0.set (x5 : Int).toNat (⟨x1, (rd_T86 x0 x5).f1, (rd_T86 x0 x5).f2, (rd_T86 x0 x5).f3⟩ : S86) : List (S86))).bind fun y129 => ((some (y129.set (x5 : Int).toNat (⟨(rd_T86 y129 x5).f0, wrap64 (x1 + 1), (rd_T86 y129 x5).f2, (rd_T86 y129 x5).f3⟩ : S86) : List (S86))).bind fun y130 => ((some (y130.set (x5 : Int).toNat (⟨(rd_T86 y130 x5).f0, (rd_T86 y130 x5).f1, wrap64 ((wrap64 (x1 + 1)) + 1), (rd_T86 y130 x5).f3⟩ : S86) : List (S86))).bind fun y131 => (laws_markTaskS.l0 k (y131.set (x5 : Int).toNat (⟨(rd_T86 y131 x5).f0, (rd_T86 y131 x5).f1, (rd_T86 y131 x5).f2, ((Int.tmod (wrap64 ((wrap64 ((wrap64 (x1 + 1)) + 1)) + 1)) 3) == 0)⟩ : S86)) (wrap64 ((wrap64 ((wrap64 ((wrap64 (x1 + 1)) + 1)) + 1)) + 1)) (wrap64 (x5 + 1)))))) else (none)) else (some (x1, x0))
def laws_markTaskS.f (k : Nat) (l0 : List (S86)) (a1 : Int) : Option (Int × (List (S86))) := laws_markTaskS.l0 k l0 a1 0
theorem laws_markTaskS.mono_l : ∀ k, (∀ y0 y1 y2, LeO (laws_markTaskS.l0 k y0 y1 y2) (laws_markTaskS.l0 (k + 1) y0 y1 y2))
|0 => fun _ _ _ r h => by simp [laws_markTaskS.l0] at h
|k + 1 => by
  have ih0 := laws_markTaskS.mono_l k
  ·intro y0 y1 y2
   unfold laws_markTaskS.l0
   repeat' first
  |(with_reducible exact ih0 _ _ _)
  |(with_reducible exact LeO.refl _)
  |(with_reducible exact LeO.none _)
  |(with_reducible refine LeO.ite ?_ ?_)
  |(with_reducible refine LeO.bind ?_ (fun _ => ?_))
  |exact ih0 _ _ _
  |exact LeO.none _
  |refine LeO.ite ?_ ?_
  |refine LeO.bind ?_ (fun _ => ?_)
theorem laws_markTaskS.mono : ∀ a0 a1 k, LeO (laws_markTaskS.f k a0 a1) (laws_markTaskS.f (k + 1) a0 a1) := by
 intro a0 a1 k
 have ih0 := laws_markTaskS.mono_l k
 unfold laws_markTaskS.f
 repeat' first
  |(with_reducible exact ih0 _ _ _)
  |(with_reducible exact LeO.refl _)
  |(with_reducible exact LeO.none _)
  |(with_reducible refine LeO.ite ?_ ?_)
  |(with_reducible refine LeO.bind ?_ (fun _ => ?_))
  |exact ih0 _ _ _
  |exact LeO.none _
  |refine LeO.ite ?_ ?_
  |refine LeO.bind ?_ (fun _ => ?_)
set_option maxHeartbeats 2000000 in
set_option maxRecDepth 100000 in
theorem laws_markTaskS.calls (k:Nat) (P0_:Nat → Prop) (u9000_:Value) (l0:List (S86)) (a1:Int) (r1:Int) (r2:List (S86)) (w0 w:World) (hB:Below w0.heap.size w0 w) (ho0:Kd.R k86 86 w w0.heap.size P0_ u9000_ l0) (h:laws_markTaskS.f k l0 a1=some (r1,r2)) :
  Calls Try.prog 77 #[u9000_,.int .i64 a1] w fun e w'=>e=.returned (.int .i64 r1)∧Kd.R k86 86 w' w0.heap.size (fun k_=>(P0_ k_∨w.heap.size≤k_)) u9000_ r2∧Below w0.heap.size w0 w'∧Kept w w' (fun k_=>P0_ k_):=by
 have Bc:=Am (show Kd.R k86 86 w w0.heap.size (fun k_=>(P0_ k_∨w.heap.size≤k_)) u9000_ l0 from rM ho0 (fun k_ hk=>(.inl hk)))
 have HK:=Am (Kept.refl w (fun k_=>P0_ k_))
 have HW0:=Am hB.size
 have HB:=Am hB
 clear hB
 have H:(laws_markTaskS.l0 k l0 a1 0)=some (r1,r2):=h
 clear h
 have H':=Am H
 clear H
 go_enter Try.func77,Try.ntmps77
 go_wp2
 go_loopg [1,5] k (fun kq v1 v5 w'=>∃ (x0_1:List (S86)) (x1_1:Int) (x5_1:Int),v1=.int .i64 x1_1∧v5=.int .i64 x5_1∧Aside0 (laws_markTaskS.l0 kq x0_1 x1_1 x5_1=some (r1,r2))∧Aside0 (kq≤k)∧Aside0 (Kd.R k86 86 w' w0.heap.size (fun k_=>(P0_ k_∨w.heap.size≤k_)) u9000_ x0_1)∧Aside0 (Kept w w' (fun k_=>P0_ k_))∧Aside0 (Below w0.heap.size w0 w'))
 case atStart=>exact ⟨(l0),(a1),(0),(by first|rfl|(simp;done)|(simp [*];done)),(by first|rfl|(simp;done)|(simp [*];done)),H',⟨Nat.le_refl _⟩,⟨by (with_reducible repeat (first|apply rA|apply rN|apply rD));exact Bc.out⟩,⟨by repeat (first|(with_reducible first|exact HK.out|apply Kept.alloc|apply Kept.drewN|apply Kept.drew)|exact HK.out)⟩,⟨by repeat (first|(with_reducible first|exact HB.out|apply oA|apply pN|apply o1)|exact HB.out)⟩⟩
 case round =>
  clear H'
  try clear p2
  obtain ⟨x0_1,x1_1,x5_1,rfl,rfl,HA,HK1,Ba,HK,HB⟩:=hrel
  cases gk with
 |zero=>exact absurd HA.out (by simp [laws_markTaskS.l0])
 |succ k1 =>
   have H:=HA.out
   clear HA
   simp only [laws_markTaskS.l0] at H
   by_cases c3:x5_1<(x0_1.length:Int)
   rotate_left
   ·rw [if_neg c3] at H
    have c3b0:decide (x5_1<(x0_1.length:Int))=false:=decide_eq_false c3
    clear c3
    simp only [Option.some.injEq,Prod.mk.injEq] at H
    obtain ⟨rfl,rfl⟩:=H
    obtain ⟨Ao18,co18,eo18⟩:=Kd.R_slice Ba.out
    subst eo18
    go_wp2
    go_ret
    exact ⟨by first|rfl|(simp [errW_none,errW_some] <;> rfl)|(simp [*,errW_none,errW_some] <;> rfl),by (with_reducible repeat (first|apply rA|apply rN|apply rD));exact Ba.out,by repeat (first|(with_reducible first|exact HB.out|apply oA|apply pN|apply o1)|exact HB.out),by repeat (first|(with_reducible first|exact HK.out|apply Kept.alloc|apply Kept.drewN|apply Kept.drew)|exact HK.out)⟩


   rw [if_pos c3] at H
   have c3b0:decide (x5_1<(x0_1.length:Int))=true:=decide_eq_true c3
   clear c3
   by_cases c4:0≤x5_1
   rotate_left
   ·rw [if_neg c4] at H
    exact absurd H (by simp)
   rw [if_pos c4] at H
   have c4b0:decide (0≤x5_1)=true:=decide_eq_true c4
   clear c4
   obtain ⟨y129,hy129⟩:∃ y_:List (S86),y_=(x0_1.set (x5_1:Int).toNat (⟨x1_1,(rd_T86 x0_1 x5_1).f1,(rd_T86 x0_1 x5_1).f2,(rd_T86 x0_1 x5_1).f3⟩:S86)):=⟨_,rfl⟩
   replace H:((some (y129.set (x5_1:Int).toNat (⟨(rd_T86 y129 x5_1).f0,wrap64 (x1_1 + 1),(rd_T86 y129 x5_1).f2,(rd_T86 y129 x5_1).f3⟩:S86):List (S86))).bind fun y130=>((some (y130.set (x5_1:Int).toNat (⟨(rd_T86 y130 x5_1).f0,(rd_T86 y130 x5_1).f1,wrap64 ((wrap64 (x1_1 + 1)) + 1),(rd_T86 y130 x5_1).f3⟩:S86):List (S86))).bind fun y131=>(laws_markTaskS.l0 k1 (y131.set (x5_1:Int).toNat (⟨(rd_T86 y131 x5_1).f0,(rd_T86 y131 x5_1).f1,(rd_T86 y131 x5_1).f2,((Int.tmod (wrap64 ((wrap64 ((wrap64 (x1_1 + 1)) + 1)) + 1)) 3) == 0)⟩:S86)) (wrap64 ((wrap64 ((wrap64 ((wrap64 (x1_1 + 1)) + 1)) + 1)) + 1)) (wrap64 (x5_1 + 1)))))=some (r1,r2):=by first|(rw [hy129];with_reducible exact H)|(have H2_:=(Option.bind_some _ _).symm.trans H;rw [hy129];with_reducible exact H2_)|(have H2_:=(Option.bind_some _ _).symm.trans H;with_reducible exact H2_)|with_reducible exact H|(rw [hy129];exact H)|exact H
   have Ny129:=Am hy129
   clear hy129
   obtain ⟨y130,hy130⟩:∃ y_:List (S86),y_=(y129.set (x5_1:Int).toNat (⟨(rd_T86 y129 x5_1).f0,wrap64 (x1_1 + 1),(rd_T86 y129 x5_1).f2,(rd_T86 y129 x5_1).f3⟩:S86)):=⟨_,rfl⟩
   replace H:((some (y130.set (x5_1:Int).toNat (⟨(rd_T86 y130 x5_1).f0,(rd_T86 y130 x5_1).f1,wrap64 ((wrap64 (x1_1 + 1)) + 1),(rd_T86 y130 x5_1).f3⟩:S86):List (S86))).bind fun y131=>(laws_markTaskS.l0 k1 (y131.set (x5_1:Int).toNat (⟨(rd_T86 y131 x5_1).f0,(rd_T86 y131 x5_1).f1,(rd_T86 y131 x5_1).f2,((Int.tmod (wrap64 ((wrap64 ((wrap64 (x1_1 + 1)) + 1)) + 1)) 3) == 0)⟩:S86)) (wrap64 ((wrap64 ((wrap64 ((wrap64 (x1_1 + 1)) + 1)) + 1)) + 1)) (wrap64 (x5_1 + 1))))=some (r1,r2):=by first|(rw [hy130];with_reducible exact H)|(have H2_:=(Option.bind_some _ _).symm.trans H;rw [hy130];with_reducible exact H2_)|(have H2_:=(Option.bind_some _ _).symm.trans H;with_reducible exact H2_)|with_reducible exact H|(rw [hy130];exact H)|exact H
   have Ny130:=Am hy130
   clear hy130
   obtain ⟨y131,hy131⟩:∃ y_:List (S86),y_=(y130.set (x5_1:Int).toNat (⟨(rd_T86 y130 x5_1).f0,(rd_T86 y130 x5_1).f1,wrap64 ((wrap64 (x1_1 + 1)) + 1),(rd_T86 y130 x5_1).f3⟩:S86)):=⟨_,rfl⟩
   replace H:(laws_markTaskS.l0 k1 (y131.set (x5_1:Int).toNat (⟨(rd_T86 y131 x5_1).f0,(rd_T86 y131 x5_1).f1,(rd_T86 y131 x5_1).f2,((Int.tmod (wrap64 ((wrap64 ((wrap64 (x1_1 + 1)) + 1)) + 1)) 3) == 0)⟩:S86)) (wrap64 ((wrap64 ((wrap64 ((wrap64 (x1_1 + 1)) + 1)) + 1)) + 1)) (wrap64 (x5_1 + 1)))=some (r1,r2):=by first|(rw [hy131];with_reducible exact H)|(have H2_:=(Option.bind_some _ _).symm.trans H;rw [hy131];with_reducible exact H2_)|(have H2_:=(Option.bind_some _ _).symm.trans H;with_reducible exact H2_)|with_reducible exact H|(rw [hy131];exact H)|exact H
   have Ny131:=Am hy131
   clear hy131
   obtain ⟨y132,hy132⟩:∃ y_:List (S86),y_=(y131.set (x5_1:Int).toNat (⟨(rd_T86 y131 x5_1).f0,(rd_T86 y131 x5_1).f1,(rd_T86 y131 x5_1).f2,((Int.tmod (wrap64 ((wrap64 ((wrap64 (x1_1 + 1)) + 1)) + 1)) 3) == 0)⟩:S86)):=⟨_,rfl⟩
   replace H:(laws_markTaskS.l0 k1 y132 (wrap64 ((wrap64 ((wrap64 ((wrap64 (x1_1 + 1)) + 1)) + 1)) + 1)) (wrap64 (x5_1 + 1)))=some (r1,r2):=by first|(rw [hy132];with_reducible exact H)|(have H2_:=(Option.bind_some _ _).symm.trans H;rw [hy132];with_reducible exact H2_)|(have H2_:=(Option.bind_some _ _).symm.trans H;with_reducible exact H2_)|with_reducible exact H|(rw [hy132];exact H)|exact H
   have Ny132:=Am hy132
   clear hy132
   have H':=Am H
   clear H
   obtain ⟨Ao9,co9,eo9⟩:=Kd.R_slice Ba.out
   subst eo9
   have p5:0≤(x5_1:Int):=of_decide_eq_true (by first|(with_reducible assumption)|assumption)
   have q5:(x5_1:Int)<((x0_1.length:Int):Int):=of_decide_eq_true (by first|(with_reducible assumption)|assumption)
   obtain ⟨go5,co5,eo5,Bb,gl5,cl5,HG5⟩:=Kd.R_form Ba.out (by omega)
   (first|cases eo5|(injection eo5 with ea_ en_ ec_;(first|subst ea_|(injection ea_ with ea_;subst ea_));subst ec_;clear en_))
   have GB5:=Am Bb
   have GG5:=Am HG5
   clear Bb gl5 HG5
   have HMgo5:=Am (show (P0_ go5∨w.heap.size≤go5) from (Ba.out.1 _ rfl))
   obtain ⟨ce5,hcl5,hM5,hcc5,hfr5⟩:=Kd.R_elem Ba.out z86 (x5_1:Int) p5 q5
   obtain rfl:=k86_openM hM5
   have hx5_0:wr.cell? ⟨go5,(x5_1:Int).toNat * 4,none⟩=some (.int .i64 ((rd_T86 x0_1 x5_1).f0)):=hcc5 0 _ rfl
   have hx5_1:wr.cell? ⟨go5,(x5_1:Int).toNat * 4 + 1,none⟩=some (.int .i64 ((rd_T86 x0_1 x5_1).f1)):=hcc5 1 _ rfl
   have hx5_2:wr.cell? ⟨go5,(x5_1:Int).toNat * 4 + 2,none⟩=some (.int .i64 ((rd_T86 x0_1 x5_1).f2)):=hcc5 2 _ rfl
   have hx5_3:wr.cell? ⟨go5,(x5_1:Int).toNat * 4 + 3,none⟩=some (.bool ((rd_T86 x0_1 x5_1).f3)):=hcc5 3 _ rfl
   have hf5_0:wr.frozen? ⟨go5,(x5_1:Int).toNat * 4,none⟩=false:=hfr5 0
   have hf5_1:wr.frozen? ⟨go5,(x5_1:Int).toNat * 4 + 1,none⟩=false:=hfr5 1
   have hf5_2:wr.frozen? ⟨go5,(x5_1:Int).toNat * 4 + 2,none⟩=false:=hfr5 2
   have hf5_3:wr.frozen? ⟨go5,(x5_1:Int).toNat * 4 + 3,none⟩=false:=hfr5 3
   clear hcl5 hcc5 hfr5 hM5
   replace p5:=eq_true p5
   replace q5:=eq_true q5
   have HX10:=Am (show Kd.R k86 86 wr w0.heap.size (fun k_=>(P0_ k_∨w.heap.size≤k_)) (.slice (some ⟨go5,0,none⟩) x0_1.length co9) x0_1 from (rL Ba.out))
   obtain ⟨ce10,hcl10,hM10,hcc10,hfr10⟩:=Kd.R_elem HX10.out z86 (x5_1:Int) (of_decide_eq_true (by first|(with_reducible assumption)|assumption)) (by have h_:(x5_1:Int)<((x0_1.length:Int):Int):=of_decide_eq_true (by first|(with_reducible assumption)|assumption);first|exact h_|(have e_:=(Kd.R_reads' Ba.out).1;omega)|simpa using h_)
   obtain rfl:=k86_openM hM10
   have HP10:=Kd.R_seg HX10.out (x5_1:Int) (of_decide_eq_true (by first|(with_reducible assumption)|assumption)) (by have h_:(x5_1:Int)<((x0_1.length:Int):Int):=of_decide_eq_true (by first|(with_reducible assumption)|assumption);first|exact h_|(have e_:=(Kd.R_reads' Ba.out).1;omega)|simpa using h_) (seg:=[.int .i64 x1_1]) (j:=0) hcl10 hcc10 (show 1≤4 from by decide) (x':=(⟨x1_1,(rd_T86 x0_1 x5_1).f1,(rd_T86 x0_1 x5_1).f2,(rd_T86 x0_1 x5_1).f3⟩:S86)) (k86_mkM _ _ _ (⟨x1_1,(rd_T86 x0_1 x5_1).f1,(rd_T86 x0_1 x5_1).f2,(rd_T86 x0_1 x5_1).f3⟩:S86) ) (fun _ hk=>hk)
   have hx10_0:=hcc10 0 _ rfl
   (try simp only [show (k86).sz=4 from rfl,Nat.mul_one,Nat.add_zero] at hx10_0)
   have hf10_0:=hfr10 0
   (try simp only [show (k86).sz=4 from rfl,Nat.mul_one,Nat.add_zero] at hf10_0)
   clear hcl10 hcc10 hfr10 hM10
   go_wp2_with (first|((with_reducible refine gate_store (t:=3) (p:=16) rfl ?_);refine store_event (t:=3) (p:=16) (v:=?vo_w11) (w1:=(wr.setCell ⟨go5,(x5_1:Int).toNat * 4,none⟩ (.int .i64 x1_1))) ?hg ?ho ?hn ?hr ?_;(case ho=>rfl);(case hg=>rfl);(case hn=>rfl);(case hr=>first|(go_simp;done)|(go_simp;rfl));intro w11 hw;have hg:wr.grownBy w11 (some go5):=(by rw [hw];exact HP10.2);have hp_:Kd.R k86 86 w11 w0.heap.size (fun k_=>(P0_ k_∨w.heap.size≤k_)) (.slice (some ⟨go5,0,none⟩) x0_1.length co9) y129:=(by rw [hw,Ny129.out];exact HP10.1);clear HP10;have n0_:=Am (hp_);have n1_:=Am ((by rw [hw];exact bS (HB.out) GB5.out:Below w0.heap.size w0 w11));have n2_:=Am (Kept.of_grown (S:=(fun k_=>P0_ k_)) hg (by repeat (first|(with_reducible first|exact HK.out|apply Kept.alloc|apply Kept.drewN|apply Kept.drew)|exact HK.out)) (fun k_ e_=>(Ba.out.1 k_ e_)));clear Ba HB HK;revert n0_ n1_ n2_;intro Ba HB HK;clear hg hw hp_;have p6:0≤(x5_1:Int):=of_decide_eq_true (by first|(with_reducible assumption)|assumption);have q6:(x5_1:Int)<((x0_1.length:Int):Int):=of_decide_eq_true (by first|(with_reducible assumption)|assumption);obtain ⟨ce6,hcl6,hM6,hcc6,hfr6⟩:=Kd.R_elem Ba.out z86 (x5_1:Int) p6 q6;obtain rfl:=k86_openM hM6;have hx6_0:w11.cell? ⟨go5,(x5_1:Int).toNat * 4,none⟩=some (.int .i64 ((rd_T86 y129 x5_1).f0)):=hcc6 0 _ rfl;have hx6_1:w11.cell? ⟨go5,(x5_1:Int).toNat * 4 + 1,none⟩=some (.int .i64 ((rd_T86 y129 x5_1).f1)):=hcc6 1 _ rfl;have hx6_2:w11.cell? ⟨go5,(x5_1:Int).toNat * 4 + 2,none⟩=some (.int .i64 ((rd_T86 y129 x5_1).f2)):=hcc6 2 _ rfl;have hx6_3:w11.cell? ⟨go5,(x5_1:Int).toNat * 4 + 3,none⟩=some (.bool ((rd_T86 y129 x5_1).f3)):=hcc6 3 _ rfl;have hf6_0:w11.frozen? ⟨go5,(x5_1:Int).toNat * 4,none⟩=false:=hfr6 0;have hf6_1:w11.frozen? ⟨go5,(x5_1:Int).toNat * 4 + 1,none⟩=false:=hfr6 1;have hf6_2:w11.frozen? ⟨go5,(x5_1:Int).toNat * 4 + 2,none⟩=false:=hfr6 2;have hf6_3:w11.frozen? ⟨go5,(x5_1:Int).toNat * 4 + 3,none⟩=false:=hfr6 3;clear hcl6 hcc6 hfr6 hM6;replace p6:=eq_true p6;replace q6:=eq_true q6;have HX12:=Am (show Kd.R k86 86 w11 w0.heap.size (fun k_=>(P0_ k_∨w.heap.size≤k_)) (.slice (some ⟨go5,0,none⟩) x0_1.length co9) y129 from (rL Ba.out));obtain ⟨ce12,hcl12,hM12,hcc12,hfr12⟩:=Kd.R_elem HX12.out z86 (x5_1:Int) (of_decide_eq_true (by first|(with_reducible assumption)|assumption)) (by have h_:(x5_1:Int)<((x0_1.length:Int):Int):=of_decide_eq_true (by first|(with_reducible assumption)|assumption);first|exact h_|(have e_:=(Kd.R_reads' Ba.out).1;omega)|simpa using h_);obtain rfl:=k86_openM hM12;have HP12:=Kd.R_seg HX12.out (x5_1:Int) (of_decide_eq_true (by first|(with_reducible assumption)|assumption)) (by have h_:(x5_1:Int)<((x0_1.length:Int):Int):=of_decide_eq_true (by first|(with_reducible assumption)|assumption);first|exact h_|(have e_:=(Kd.R_reads' Ba.out).1;omega)|simpa using h_) (seg:=[.int .i64 (wrap64 (x1_1 + 1))]) (j:=1) hcl12 hcc12 (show 2≤4 from by decide) (x':=(⟨(rd_T86 y129 x5_1).f0,wrap64 (x1_1 + 1),(rd_T86 y129 x5_1).f2,(rd_T86 y129 x5_1).f3⟩:S86)) (k86_mkM _ _ _ (⟨(rd_T86 y129 x5_1).f0,wrap64 (x1_1 + 1),(rd_T86 y129 x5_1).f2,(rd_T86 y129 x5_1).f3⟩:S86) ) (fun _ hk=>hk);have hx12_1:=hcc12 1 _ rfl;(try simp only [show (k86).sz=4 from rfl,Nat.mul_one,Nat.add_zero] at hx12_1);have hf12_1:=hfr12 1;(try simp only [show (k86).sz=4 from rfl,Nat.mul_one,Nat.add_zero] at hf12_1);clear hcl12 hcc12 hfr12 hM12)|((with_reducible refine gate_store (t:=3) (p:=23) rfl ?_);refine store_event (t:=3) (p:=23) (v:=?vo_w13) (w1:=(w11.setCell ⟨go5,(x5_1:Int).toNat * 4 + 1,none⟩ (.int .i64 (wrap64 (x1_1 + 1))))) ?hg ?ho ?hn ?hr ?_;(case ho=>rfl);(case hg=>rfl);(case hn=>rfl);(case hr=>first|(go_simp;done)|(go_simp;rfl));intro w13 hw;have hg:w11.grownBy w13 (some go5):=(by rw [hw];exact HP12.2);have hp_:Kd.R k86 86 w13 w0.heap.size (fun k_=>(P0_ k_∨w.heap.size≤k_)) (.slice (some ⟨go5,0,none⟩) x0_1.length co9) y130:=(by rw [hw,Ny130.out];exact HP12.1);clear HP12;have n0_:=Am (hp_);have n1_:=Am ((by rw [hw];exact bS (HB.out) GB5.out:Below w0.heap.size w0 w13));have n2_:=Am (Kept.of_grown (S:=(fun k_=>P0_ k_)) hg (by repeat (first|(with_reducible first|exact HK.out|apply Kept.alloc|apply Kept.drewN|apply Kept.drew)|exact HK.out)) (fun k_ e_=>(Ba.out.1 k_ e_)));clear Ba HB HK;revert n0_ n1_ n2_;intro Ba HB HK;clear hg hw hp_;have p7:0≤(x5_1:Int):=of_decide_eq_true (by first|(with_reducible assumption)|assumption);have q7:(x5_1:Int)<((x0_1.length:Int):Int):=of_decide_eq_true (by first|(with_reducible assumption)|assumption);obtain ⟨ce7,hcl7,hM7,hcc7,hfr7⟩:=Kd.R_elem Ba.out z86 (x5_1:Int) p7 q7;obtain rfl:=k86_openM hM7;have hx7_0:w13.cell? ⟨go5,(x5_1:Int).toNat * 4,none⟩=some (.int .i64 ((rd_T86 y130 x5_1).f0)):=hcc7 0 _ rfl;have hx7_1:w13.cell? ⟨go5,(x5_1:Int).toNat * 4 + 1,none⟩=some (.int .i64 ((rd_T86 y130 x5_1).f1)):=hcc7 1 _ rfl;have hx7_2:w13.cell? ⟨go5,(x5_1:Int).toNat * 4 + 2,none⟩=some (.int .i64 ((rd_T86 y130 x5_1).f2)):=hcc7 2 _ rfl;have hx7_3:w13.cell? ⟨go5,(x5_1:Int).toNat * 4 + 3,none⟩=some (.bool ((rd_T86 y130 x5_1).f3)):=hcc7 3 _ rfl;have hf7_0:w13.frozen? ⟨go5,(x5_1:Int).toNat * 4,none⟩=false:=hfr7 0;have hf7_1:w13.frozen? ⟨go5,(x5_1:Int).toNat * 4 + 1,none⟩=false:=hfr7 1;have hf7_2:w13.frozen? ⟨go5,(x5_1:Int).toNat * 4 + 2,none⟩=false:=hfr7 2;have hf7_3:w13.frozen? ⟨go5,(x5_1:Int).toNat * 4 + 3,none⟩=false:=hfr7 3;clear hcl7 hcc7 hfr7 hM7;replace p7:=eq_true p7;replace q7:=eq_true q7;have HX14:=Am (show Kd.R k86 86 w13 w0.heap.size (fun k_=>(P0_ k_∨w.heap.size≤k_)) (.slice (some ⟨go5,0,none⟩) x0_1.length co9) y130 from (rL Ba.out));obtain ⟨ce14,hcl14,hM14,hcc14,hfr14⟩:=Kd.R_elem HX14.out z86 (x5_1:Int) (of_decide_eq_true (by first|(with_reducible assumption)|assumption)) (by have h_:(x5_1:Int)<((x0_1.length:Int):Int):=of_decide_eq_true (by first|(with_reducible assumption)|assumption);first|exact h_|(have e_:=(Kd.R_reads' Ba.out).1;omega)|simpa using h_);obtain rfl:=k86_openM hM14;have HP14:=Kd.R_seg HX14.out (x5_1:Int) (of_decide_eq_true (by first|(with_reducible assumption)|assumption)) (by have h_:(x5_1:Int)<((x0_1.length:Int):Int):=of_decide_eq_true (by first|(with_reducible assumption)|assumption);first|exact h_|(have e_:=(Kd.R_reads' Ba.out).1;omega)|simpa using h_) (seg:=[.int .i64 (wrap64 ((wrap64 (x1_1 + 1)) + 1))]) (j:=2) hcl14 hcc14 (show 3≤4 from by decide) (x':=(⟨(rd_T86 y130 x5_1).f0,(rd_T86 y130 x5_1).f1,wrap64 ((wrap64 (x1_1 + 1)) + 1),(rd_T86 y130 x5_1).f3⟩:S86)) (k86_mkM _ _ _ (⟨(rd_T86 y130 x5_1).f0,(rd_T86 y130 x5_1).f1,wrap64 ((wrap64 (x1_1 + 1)) + 1),(rd_T86 y130 x5_1).f3⟩:S86) ) (fun _ hk=>hk);have hx14_2:=hcc14 2 _ rfl;(try simp only [show (k86).sz=4 from rfl,Nat.mul_one,Nat.add_zero] at hx14_2);have hf14_2:=hfr14 2;(try simp only [show (k86).sz=4 from rfl,Nat.mul_one,Nat.add_zero] at hf14_2);clear hcl14 hcc14 hfr14 hM14)|((with_reducible refine gate_store (t:=3) (p:=30) rfl ?_);refine store_event (t:=3) (p:=30) (v:=?vo_w15) (w1:=(w13.setCell ⟨go5,(x5_1:Int).toNat * 4 + 2,none⟩ (.int .i64 (wrap64 ((wrap64 (x1_1 + 1)) + 1))))) ?hg ?ho ?hn ?hr ?_;(case ho=>rfl);(case hg=>rfl);(case hn=>rfl);(case hr=>first|(go_simp;done)|(go_simp;rfl));intro w15 hw;have hg:w13.grownBy w15 (some go5):=(by rw [hw];exact HP14.2);have hp_:Kd.R k86 86 w15 w0.heap.size (fun k_=>(P0_ k_∨w.heap.size≤k_)) (.slice (some ⟨go5,0,none⟩) x0_1.length co9) y131:=(by rw [hw,Ny131.out];exact HP14.1);clear HP14;have n0_:=Am (hp_);have n1_:=Am ((by rw [hw];exact bS (HB.out) GB5.out:Below w0.heap.size w0 w15));have n2_:=Am (Kept.of_grown (S:=(fun k_=>P0_ k_)) hg (by repeat (first|(with_reducible first|exact HK.out|apply Kept.alloc|apply Kept.drewN|apply Kept.drew)|exact HK.out)) (fun k_ e_=>(Ba.out.1 k_ e_)));clear Ba HB HK;revert n0_ n1_ n2_;intro Ba HB HK;clear hg hw hp_;have p8:0≤(x5_1:Int):=of_decide_eq_true (by first|(with_reducible assumption)|assumption);have q8:(x5_1:Int)<((x0_1.length:Int):Int):=of_decide_eq_true (by first|(with_reducible assumption)|assumption);obtain ⟨ce8,hcl8,hM8,hcc8,hfr8⟩:=Kd.R_elem Ba.out z86 (x5_1:Int) p8 q8;obtain rfl:=k86_openM hM8;have hx8_0:w15.cell? ⟨go5,(x5_1:Int).toNat * 4,none⟩=some (.int .i64 ((rd_T86 y131 x5_1).f0)):=hcc8 0 _ rfl;have hx8_1:w15.cell? ⟨go5,(x5_1:Int).toNat * 4 + 1,none⟩=some (.int .i64 ((rd_T86 y131 x5_1).f1)):=hcc8 1 _ rfl;have hx8_2:w15.cell? ⟨go5,(x5_1:Int).toNat * 4 + 2,none⟩=some (.int .i64 ((rd_T86 y131 x5_1).f2)):=hcc8 2 _ rfl;have hx8_3:w15.cell? ⟨go5,(x5_1:Int).toNat * 4 + 3,none⟩=some (.bool ((rd_T86 y131 x5_1).f3)):=hcc8 3 _ rfl;have hf8_0:w15.frozen? ⟨go5,(x5_1:Int).toNat * 4,none⟩=false:=hfr8 0;have hf8_1:w15.frozen? ⟨go5,(x5_1:Int).toNat * 4 + 1,none⟩=false:=hfr8 1;have hf8_2:w15.frozen? ⟨go5,(x5_1:Int).toNat * 4 + 2,none⟩=false:=hfr8 2;have hf8_3:w15.frozen? ⟨go5,(x5_1:Int).toNat * 4 + 3,none⟩=false:=hfr8 3;clear hcl8 hcc8 hfr8 hM8;replace p8:=eq_true p8;replace q8:=eq_true q8;have HX16:=Am (show Kd.R k86 86 w15 w0.heap.size (fun k_=>(P0_ k_∨w.heap.size≤k_)) (.slice (some ⟨go5,0,none⟩) x0_1.length co9) y131 from (rL Ba.out));obtain ⟨ce16,hcl16,hM16,hcc16,hfr16⟩:=Kd.R_elem HX16.out z86 (x5_1:Int) (of_decide_eq_true (by first|(with_reducible assumption)|assumption)) (by have h_:(x5_1:Int)<((x0_1.length:Int):Int):=of_decide_eq_true (by first|(with_reducible assumption)|assumption);first|exact h_|(have e_:=(Kd.R_reads' Ba.out).1;omega)|simpa using h_);obtain rfl:=k86_openM hM16;have HP16:=Kd.R_seg HX16.out (x5_1:Int) (of_decide_eq_true (by first|(with_reducible assumption)|assumption)) (by have h_:(x5_1:Int)<((x0_1.length:Int):Int):=of_decide_eq_true (by first|(with_reducible assumption)|assumption);first|exact h_|(have e_:=(Kd.R_reads' Ba.out).1;omega)|simpa using h_) (seg:=[.bool ((Int.tmod (wrap64 ((wrap64 ((wrap64 (x1_1 + 1)) + 1)) + 1)) 3) == 0)]) (j:=3) hcl16 hcc16 (show 4≤4 from by decide) (x':=(⟨(rd_T86 y131 x5_1).f0,(rd_T86 y131 x5_1).f1,(rd_T86 y131 x5_1).f2,((Int.tmod (wrap64 ((wrap64 ((wrap64 (x1_1 + 1)) + 1)) + 1)) 3) == 0)⟩:S86)) (k86_mkM _ _ _ (⟨(rd_T86 y131 x5_1).f0,(rd_T86 y131 x5_1).f1,(rd_T86 y131 x5_1).f2,((Int.tmod (wrap64 ((wrap64 ((wrap64 (x1_1 + 1)) + 1)) + 1)) 3) == 0)⟩:S86) ) (fun _ hk=>hk);have hx16_3:=hcc16 3 _ rfl;(try simp only [show (k86).sz=4 from rfl,Nat.mul_one,Nat.add_zero] at hx16_3);have hf16_3:=hfr16 3;(try simp only [show (k86).sz=4 from rfl,Nat.mul_one,Nat.add_zero] at hf16_3);clear hcl16 hcc16 hfr16 hM16)|((with_reducible refine gate_store (t:=4) (p:=39) rfl ?_);refine store_event (t:=4) (p:=39) (v:=?vo_w17) (w1:=(w15.setCell ⟨go5,(x5_1:Int).toNat * 4 + 3,none⟩ (.bool ((Int.tmod (wrap64 ((wrap64 ((wrap64 (x1_1 + 1)) + 1)) + 1)) 3) == 0)))) ?hg ?ho ?hn ?hr ?_;(case ho=>rfl);(case hg=>rfl);(case hn=>rfl);(case hr=>first|(go_simp;done)|(go_simp;rfl));intro w17 hw;have hg:w15.grownBy w17 (some go5):=(by rw [hw];exact HP16.2);have hp_:Kd.R k86 86 w17 w0.heap.size (fun k_=>(P0_ k_∨w.heap.size≤k_)) (.slice (some ⟨go5,0,none⟩) x0_1.length co9) y132:=(by rw [hw,Ny132.out];exact HP16.1);clear HP16;have n0_:=Am (hp_);have n1_:=Am ((by rw [hw];exact bS (HB.out) GB5.out:Below w0.heap.size w0 w17));have n2_:=Am (Kept.of_grown (S:=(fun k_=>P0_ k_)) hg (by repeat (first|(with_reducible first|exact HK.out|apply Kept.alloc|apply Kept.drewN|apply Kept.drew)|exact HK.out)) (fun k_ e_=>(Ba.out.1 k_ e_)));clear Ba HB HK;revert n0_ n1_ n2_;intro Ba HB HK;clear hg hw hp_))
   go_roundg k1
   case measure=>have:=HK1.out;omega
   case rel=>exact ⟨(y132),(wrap64 ((wrap64 ((wrap64 ((wrap64 (x1_1 + 1)) + 1)) + 1)) + 1)),(wrap64 (x5_1 + 1)),(by first|rfl|(simp;done)|(simp [*];done)),(by first|rfl|(simp;done)|(simp [*];done)),H',⟨by have:=HK1.out;omega⟩,⟨by (with_reducible repeat (first|apply rA|apply rN|apply rD));exact Ba.out⟩,⟨by repeat (first|(with_reducible first|exact HK.out|apply Kept.alloc|apply Kept.drewN|apply Kept.drew)|exact HK.out)⟩,⟨by repeat (first|(with_reducible first|exact HB.out|apply oA|apply pN|apply o1)|exact HB.out)⟩⟩/-! ### laws_markQueue: function 34 -/
def laws_markQueue.f (k : Nat) (l0_0 : List (S86)) (a0_1 : Int) (a1 : Int) : Option (Int × (List (S86))) := (laws_markTaskS.f k l0_0 a1).bind fun bt134 => (some (bt134.1, bt134.2))
theorem laws_markQueue.mono : ∀ a0 a1 a2 k, LeO (laws_markQueue.f k a0 a1 a2) (laws_markQueue.f (k + 1) a0 a1 a2) := by
 intro a0 a1 a2 k
 unfold laws_markQueue.f
 repeat' first
  |(with_reducible exact laws_markTaskS.mono _ _ _)
  |(with_reducible exact LeO.refl _)
  |(with_reducible exact LeO.none _)
  |(with_reducible refine LeO.ite ?_ ?_)
  |(with_reducible refine LeO.bind ?_ (fun _ => ?_))
  |exact laws_markTaskS.mono _ _ _
  |exact LeO.none _
  |refine LeO.ite ?_ ?_
  |refine LeO.bind ?_ (fun _ => ?_)
set_option maxHeartbeats 2000000 in
set_option maxRecDepth 100000 in
theorem laws_markQueue.calls (k:Nat) (P0_0_:Nat → Prop) (u9000_:Value) (l0_0:List (S86)) (a0_1:Int) (a1:Int) (r1:Int) (r2:List (S86)) (w0 w:World) (hB:Below w0.heap.size w0 w) (ho0_0:Kd.R k86 86 w w0.heap.size P0_0_ u9000_ l0_0) (h:laws_markQueue.f k l0_0 a0_1 a1=some (r1,r2)) :
  Calls Try.prog 34 #[.agg #[u9000_,.int .i64 a0_1],.int .i64 a1] w fun e w'=>e=.returned (.int .i64 r1)∧Kd.R k86 86 w' w0.heap.size (fun k_=>(P0_0_ k_∨w.heap.size≤k_)) u9000_ r2∧Below w0.heap.size w0 w'∧Kept w w' (fun k_=>P0_0_ k_):=by
 have hu47:=Try.underlying47
 have Ba:=Am (show Kd.R k86 86 w w0.heap.size (fun k_=>(P0_0_ k_∨w.heap.size≤k_)) u9000_ l0_0 from rM ho0_0 (fun k_ hk=>(.inl hk)))
 have HK:=Am (Kept.refl w (fun k_=>P0_0_ k_))
 have HW0:=Am hB.size
 have HB:=Am hB
 clear hB
 have H:((laws_markTaskS.f k l0_0 a1).bind fun bt134=>(some (bt134.1,bt134.2)))=some (r1,r2):=h
 clear h
 replace H:=oC H
 obtain ⟨⟨t134,t135⟩,A30,H⟩:=H
 replace H:(some (t134,t135))=some (r1,r2):=H
 have A3:=Am A30
 clear A30
 simp only [Option.some.injEq,Prod.mk.injEq] at H
 obtain ⟨rfl,rfl⟩:=H
 obtain ⟨Ao4,co4,eo4⟩:=Kd.R_slice Ba.out
 subst eo4
 go_enter Try.func34,Try.ntmps34
 go_wp2_with (first|((with_reducible refine gate_dst (N:=2) rfl ?_);refine box_event ?hg (N:=2) ?hd (cs:=#[.slice Ao4 l0_0.length co4,.int .i64 a0_1]) (t:=47) ?hr ?_;(case hd=>rfl);(case hg=>rfl);(case hr=>first|(go_simp;done)|(go_simp;rfl));intro Bc hg w5 hbox hb;have n0_:=Am (rB (rL Ba.out) hb);have n1_:=Am (Kept.below (S:=(fun k_=>P0_0_ k_)) (by repeat (first|(with_reducible first|exact HK.out|apply Kept.alloc|apply Kept.drewN|apply Kept.drew)|exact HK.out)) hb);have n2_:=Am (bP (by repeat (first|(with_reducible first|exact HB.out|apply oA|apply pN|apply o1)|exact HB.out)) hb);have n3_:=Am (hbox);have n4_:=Am ((by rw [hg];exact (by first|exact HK.out.1|exact (show Kept w _ (fun k_=>P0_0_ k_) from by repeat (first|(with_reducible first|exact HK.out|apply Kept.alloc|apply Kept.drewN|apply Kept.drew)|exact HK.out)).1):w.heap.size≤Bc));have n5_:=Am ((by rw [hg];exact (bZ (by repeat (first|(with_reducible first|exact HB.out|apply oA|apply pN|apply o1)|exact HB.out))):w0.heap.size≤Bc));clear Ba HK HB;revert n0_ n1_ n2_ n3_ n4_ n5_;intro Ba HK HB Bb Bd Be;clear hb hbox hg;have Bf:=cz0 Bb.out;have Bg:=cz1 Bb.out;have Bh:=bF Bb.out 0;have Bi:=bF Bb.out 1)|((with_reducible refine gate_callee (f:=77) rfl ?_);refine goesL_ (some 8) rfl rfl Try.func77 (by kernel_rfl) rfl #[.slice Ao4 l0_0.length co4,.int .i64 a1] rfl (by (try simp only [lM,lC,lN]);first|done|rfl|(simp only [lD,lT];rfl)) ?_;(with_reducible refine (laws_markTaskS.calls k (fun k_=>some k_=(.slice Ao4 l0_0.length co4:Value).ownBlock) (.slice Ao4 l0_0.length co4) l0_0 a1 t134 t135 w0 _ ?side1 ?side2 A3.out).mono ?_);(case side1=>repeat (first|(with_reducible first|exact HB.out|apply oA|apply pN|apply o1|refine bS ?_ Be.out)|exact HB.out));(case side2=>exact Kd.R_tight rfl Ba.out);rintro e w7 ⟨rfl,hy0,hb,hkp⟩;refine ⟨_,rfl,?_⟩;have n0_:=Am (Kd.R_reok rfl hy0 (fun k_ e_=>Ba.out.1 k_ e_));have n1_:=Am (blk_kept (bL Bb.out) hkp (fun hs_=>(fun e_=>(Kd.R_ne Ba.out Bb.out (by decide)) e_) hs_));have n2_:=Am (Kept.then_ (S:=(fun k_=>P0_0_ k_)) (by repeat (first|(with_reducible first|exact HK.out|apply Kept.alloc|apply Kept.drewN|apply Kept.drew|refine Kept.setCell ?_ (.inr Bd.out) _)|exact HK.out)) hkp (fun k_ hs_=>(fun e_=>(Ba.out.1 k_ e_.symm)) hs_));have n3_:=Am (hb);clear Ba Bb HK HB;revert n0_ n1_ n2_ n3_;intro Ba Bb HK HB;(try clear hb);(try clear hkp);(try clear hy0)))
 go_ret
 exact ⟨by first|rfl|(simp [errW_none,errW_some] <;> rfl)|(simp [*,errW_none,errW_some] <;> rfl),by (with_reducible repeat (first|apply rA|apply rN|apply rD));exact Ba.out,by repeat (first|(with_reducible first|exact HB.out|apply oA|apply pN|apply o1|refine bS ?_ Be.out)|exact HB.out),by repeat (first|(with_reducible first|exact HK.out|apply Kept.alloc|apply Kept.drewN|apply Kept.drew|refine Kept.setCell ?_ (.inr Bd.out) _)|exact HK.out)⟩

end Go.Proofs.Ytehekikjadjdaaa.PFnExactQueueLess
