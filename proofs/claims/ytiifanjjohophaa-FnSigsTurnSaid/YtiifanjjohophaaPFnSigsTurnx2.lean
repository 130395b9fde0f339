/- Proved here, without a condition beyond those that each theorem states: what the Go functions named below do is what the plain functions of the same names say. Written by xprint.py, a program of this session. -/
import Derived.Test.YtiifanjjohophaaPFnSigsTurnx0
import Derived.Test.YtiifanjjohophaaPFnSigsTurnx1
namespace Go.Proofs.Ytiifanjjohophaa.PFnSigsTurn
open Go.RowKit Go.Proofs.YtiifanjjohophaaW.PrintWords Go.Proofs.YtiifanjjohophaaW.PrintLast Go.Proofs.YtiifanjjohophaaW.PrintMore
attribute [local go_sem] max2_int min2_int max_two min_two max_three min_three max_four min_four   -- for this text's walks alone
set_option linter.unusedVariables false
set_option linter.unusedSimpArgs false

attribute [local go_sem ↓] isSome_setCell_
/-! ### laws_qdSigs: function 14 -/
def laws_qdSigs.f (k : Nat) (l0_0 : List Bool) (l0_1 : List Bool) (l0_2 : List Int) (l1_0 : List Bool) (l1_1 : List Bool) (l1_2 : List Int) : Option (Bool) := (laws_qdBools.f k l0_0 l1_0).bind fun t107 => (if t107 = true then ((laws_qdBools.f k l0_1 l1_1).bind fun t108 => (if t108 = true then ((laws_qdInts.f k l0_2 l1_2).bind fun t109 => (some t109)) else (some false))) else (some false))
theorem laws_qdSigs.mono : ∀ a0 a1 a2 a3 a4 a5 k, LeO (laws_qdSigs.f k a0 a1 a2 a3 a4 a5) (laws_qdSigs.f (k + 1) a0 a1 a2 a3 a4 a5) := by
 intro a0 a1 a2 a3 a4 a5 k
 unfold laws_qdSigs.f
 repeat' first
  |(with_reducible exact laws_qdBools.mono _ _ _)
  |(with_reducible exact laws_qdInts.mono _ _ _)
  |(with_reducible exact LeO.refl _)
  |(with_reducible exact LeO.none _)
  |(with_reducible refine LeO.ite ?_ ?_)
  |(with_reducible refine LeO.bind ?_ (fun _ => ?_))
  |exact laws_qdBools.mono _ _ _
  |exact laws_qdInts.mono _ _ _
  |exact LeO.none _
  |refine LeO.ite ?_ ?_
  |refine LeO.bind ?_ (fun _ => ?_)
set_option maxHeartbeats 2000000 in
set_option maxRecDepth 100000 in
theorem laws_qdSigs.calls (k:Nat) (A0_0:Option Addr) (c0_0:Nat) (l0_0:List Bool) (A0_1:Option Addr) (c0_1:Nat) (l0_1:List Bool) (A0_2:Option Addr) (c0_2:Nat) (l0_2:List Int) (A1_0:Option Addr) (c1_0:Nat) (l1_0:List Bool) (A1_1:Option Addr) (c1_1:Nat) (l1_1:List Bool) (A1_2:Option Addr) (c1_2:Nat) (l1_2:List Int) (r:Bool) (w:World) (hr0_0:Kd.C Kd.bool w A0_0 l0_0.length l0_0) (hc0_0:l0_0.length≤c0_0) (hr0_1:Kd.C Kd.bool w A0_1 l0_1.length l0_1) (hc0_1:l0_1.length≤c0_1) (hr0_2:Kd.C (Kd.int .i64) w A0_2 l0_2.length l0_2) (hc0_2:l0_2.length≤c0_2) (hr1_0:Kd.C Kd.bool w A1_0 l1_0.length l1_0) (hc1_0:l1_0.length≤c1_0) (hr1_1:Kd.C Kd.bool w A1_1 l1_1.length l1_1) (hc1_1:l1_1.length≤c1_1) (hr1_2:Kd.C (Kd.int .i64) w A1_2 l1_2.length l1_2) (hc1_2:l1_2.length≤c1_2) (h:laws_qdSigs.f k l0_0 l0_1 l0_2 l1_0 l1_1 l1_2=some r) :
  Calls Try.prog 14 #[.agg #[.slice A0_0 l0_0.length c0_0,.slice A0_1 l0_1.length c0_1,.slice A0_2 l0_2.length c0_2],.agg #[.slice A1_0 l1_0.length c1_0,.slice A1_1 l1_1.length c1_1,.slice A1_2 l1_2.length c1_2]] w fun e w'=>e=.returned (.bool r)∧Below w.heap.size w w':=by
 have hu26:=Try.underlying26
 have HR0_0:=Am hr0_0
 have HC0_0:=Am hc0_0
 clear hr0_0 hc0_0
 have HR0_1:=Am hr0_1
 have HC0_1:=Am hc0_1
 clear hr0_1 hc0_1
 have HR0_2:=Am hr0_2
 have HC0_2:=Am hc0_2
 clear hr0_2 hc0_2
 have HR1_0:=Am hr1_0
 have HC1_0:=Am hc1_0
 clear hr1_0 hc1_0
 have HR1_1:=Am hr1_1
 have HC1_1:=Am hc1_1
 clear hr1_1 hc1_1
 have HR1_2:=Am hr1_2
 have HC1_2:=Am hc1_2
 clear hr1_2 hc1_2
 have HB:=Am (Below.refl w.heap.size w)
 have H:((laws_qdBools.f k l0_0 l1_0).bind fun t107=>(if t107=true then ((laws_qdBools.f k l0_1 l1_1).bind fun t108=>(if t108=true then ((laws_qdInts.f k l0_2 l1_2).bind fun t109=>(some t109)) else (some false))) else (some false)))=some r:=h
 clear h
 replace H:=oC H
 obtain ⟨t107,A30,H⟩:=H
 replace H:(if t107=true then ((laws_qdBools.f k l0_1 l1_1).bind fun t108=>(if t108=true then ((laws_qdInts.f k l0_2 l1_2).bind fun t109=>(some t109)) else (some false))) else (some false))=some r:=H
 have A3:=Am A30
 clear A30
 by_cases c4:t107=true
 rotate_left
 ·replace c4:=Bool.eq_false_iff.mpr c4
  subst c4
  have H1:(some false)=some r:=by rw [if_neg (show ¬ (false=true) by decide)] at H;exact H
  clear H
  have H:=H1
  clear H1
  obtain rfl:=Option.some.inj H
  go_enter Try.func14,Try.ntmps14
  go_wp2_with (first|((with_reducible refine gate_dst (N:=2) rfl ?_);refine box_event ?hg (N:=2) ?hd (cs:=#[.slice A0_0 l0_0.length c0_0,.slice A0_1 l0_1.length c0_1,.slice A0_2 l0_2.length c0_2]) (t:=26) ?hr ?_;(case hd=>rfl);(case hg=>rfl);(case hr=>first|(go_simp;done)|(go_simp;rfl));intro Bb hg w18 hbox hb;have n0_:=Am (bP (by repeat (first|(with_reducible first|exact HB.out|apply oA|apply pN|apply o1)|exact HB.out)) hb);have n1_:=Am (hbox);have n2_:=Am ((by rw [hg];exact (bZ (by repeat (first|(with_reducible first|exact HB.out|apply oA|apply pN|apply o1)|exact HB.out))):w.heap.size≤Bb));have n3_:=Am ((by rw [hg];exact (bZ (by repeat (first|(with_reducible first|exact HB.out|apply oA|apply pN|apply o1)|exact HB.out))):w.heap.size≤Bb));clear HB;revert n0_ n1_ n2_ n3_;intro HB Ba Bi Bd;clear hb hbox hg)|((with_reducible refine gate_dst (N:=3) rfl ?_);refine box_event ?hg (N:=3) ?hd (cs:=#[.slice A1_0 l1_0.length c1_0,.slice A1_1 l1_1.length c1_1,.slice A1_2 l1_2.length c1_2]) (t:=26) ?hr ?_;(case hd=>rfl);(case hg=>rfl);(case hr=>first|(go_simp;done)|(go_simp;rfl));intro Bc hg w19 hbox hb;have n0_:=Am (bB (g:=Bb) (o:=.cells #[.slice A0_0 l0_0.length c0_0,.slice A0_1 l0_1.length c0_1,.slice A0_2 l0_2.length c0_2] 26 (0,0)) (bL Ba.out) hb);have n1_:=Am (bP (by repeat (first|(with_reducible first|exact HB.out|apply oA|apply pN|apply o1|refine bS ?_ Bd.out)|exact HB.out)) hb);have n2_:=Am (hbox);have n3_:=Am ((by rw [hg];exact (bZ (by repeat (first|(with_reducible first|exact HB.out|apply oA|apply pN|apply o1|refine bS ?_ Bd.out)|exact HB.out))):w.heap.size≤Bc));have n4_:=Am ((by rw [hg];exact (bZ (by repeat (first|(with_reducible first|exact HB.out|apply oA|apply pN|apply o1|refine bS ?_ Bd.out)|exact HB.out))):w.heap.size≤Bc));have n5_:=Am ((by rw [hg];exact Nat.ne_of_lt (blk_lt (g:=Bb) (o:=.cells #[.slice A0_0 l0_0.length c0_0,.slice A0_1 l0_1.length c0_1,.slice A0_2 l0_2.length c0_2] 26 (0,0)) (bL Ba.out)):Bb≠Bc));have n6_:=Am ((by rw [hg];exact Nat.ne_of_gt (blk_lt (g:=Bb) (o:=.cells #[.slice A0_0 l0_0.length c0_0,.slice A0_1 l0_1.length c0_1,.slice A0_2 l0_2.length c0_2] 26 (0,0)) (bL Ba.out)):Bc≠Bb));clear Ba HB;revert n0_ n1_ n2_ n3_ n4_ n5_ n6_;intro Ba HB Be Bj Bf Bg Bh;clear hb hbox hg;have BY:=Bg.out;have BZ:=Bh.out;have BI:w19.cell? ⟨Bb,0,none⟩=some (.slice A0_0 l0_0.length c0_0):=(bC Ba.out 0).trans rfl;have BJ:w19.cell? ⟨Bb,1,none⟩=some (.slice A0_1 l0_1.length c0_1):=(bC Ba.out 1).trans rfl;have BK:w19.cell? ⟨Bb,2,none⟩=some (.slice A0_2 l0_2.length c0_2):=(bC Ba.out 2).trans rfl;have BL:=bF Ba.out 0;have BM:=bF Ba.out 1;have BN:=bF Ba.out 2;have BO:w19.cell? ⟨Bc,0,none⟩=some (.slice A1_0 l1_0.length c1_0):=(bC Be.out 0).trans rfl;have BP:w19.cell? ⟨Bc,1,none⟩=some (.slice A1_1 l1_1.length c1_1):=(bC Be.out 1).trans rfl;have BQ:w19.cell? ⟨Bc,2,none⟩=some (.slice A1_2 l1_2.length c1_2):=(bC Be.out 2).trans rfl;have BR:=bF Be.out 0;have BS:=bF Be.out 1;have BT:=bF Be.out 2)|((with_reducible refine gate_callee (f:=22) rfl ?_);refine goesL_ (some 9) rfl rfl Try.func22 (by kernel_rfl) rfl #[.slice A0_0 l0_0.length c0_0,.slice A1_0 l1_0.length c1_0] rfl (by (try simp only [lM,lC,lN]);first|done|rfl|(simp only [lD,lT];rfl)) ?_;(with_reducible refine (laws_qdBools.calls k _ _ l0_0 _ _ l1_0 false _ ?side1 ?side2 ?side3 ?side4 A3.out).mono ?_);(case side1=>repeat (first|exact (cB HR0_0.out HB.out)|(with_reducible refine cA ?_ _)|(with_reducible refine cN ?_ _)|(with_reducible refine cD ?_)));(case side2=>exact HC0_0.out);(case side3=>repeat (first|exact (cB HR1_0.out HB.out)|(with_reducible refine cA ?_ _)|(with_reducible refine cN ?_ _)|(with_reducible refine cD ?_)));(case side4=>exact HC1_0.out);rintro e w' ⟨rfl,⟨nd,rfl⟩⟩;refine ⟨_,rfl,?_⟩))
  go_ret
  exact ⟨by first|rfl|(simp [errW_none,errW_some] <;> rfl)|(simp [*,errW_none,errW_some] <;> rfl),by repeat (first|(with_reducible first|exact HB.out|apply oA|apply pN|apply o1|refine bS ?_ Bd.out|refine bS ?_ Bf.out)|exact HB.out)⟩

 subst c4
 have H1:((laws_qdBools.f k l0_1 l1_1).bind fun t108=>(if t108=true then ((laws_qdInts.f k l0_2 l1_2).bind fun t109=>(some t109)) else (some false)))=some r:=by rw [if_pos rfl] at H;exact H
 clear H
 have H:=H1
 clear H1
 replace H:=oC H
 obtain ⟨t108,A50,H⟩:=H
 replace H:(if t108=true then ((laws_qdInts.f k l0_2 l1_2).bind fun t109=>(some t109)) else (some false))=some r:=H
 have A5:=Am A50
 clear A50
 by_cases c6:t108=true
 rotate_left
 ·replace c6:=Bool.eq_false_iff.mpr c6
  subst c6
  have H1:(some false)=some r:=by rw [if_neg (show ¬ (false=true) by decide)] at H;exact H
  clear H
  have H:=H1
  clear H1
  obtain rfl:=Option.some.inj H
  go_enter Try.func14,Try.ntmps14
  go_wp2_with (first|((with_reducible refine gate_dst (N:=2) rfl ?_);refine box_event ?hg (N:=2) ?hd (cs:=#[.slice A0_0 l0_0.length c0_0,.slice A0_1 l0_1.length c0_1,.slice A0_2 l0_2.length c0_2]) (t:=26) ?hr ?_;(case hd=>rfl);(case hg=>rfl);(case hr=>first|(go_simp;done)|(go_simp;rfl));intro Bb hg w13 hbox hb;have n0_:=Am (bP (by repeat (first|(with_reducible first|exact HB.out|apply oA|apply pN|apply o1)|exact HB.out)) hb);have n1_:=Am (hbox);have n2_:=Am ((by rw [hg];exact (bZ (by repeat (first|(with_reducible first|exact HB.out|apply oA|apply pN|apply o1)|exact HB.out))):w.heap.size≤Bb));have n3_:=Am ((by rw [hg];exact (bZ (by repeat (first|(with_reducible first|exact HB.out|apply oA|apply pN|apply o1)|exact HB.out))):w.heap.size≤Bb));clear HB;revert n0_ n1_ n2_ n3_;intro HB Ba Bi Bd;clear hb hbox hg)|((with_reducible refine gate_dst (N:=3) rfl ?_);refine box_event ?hg (N:=3) ?hd (cs:=#[.slice A1_0 l1_0.length c1_0,.slice A1_1 l1_1.length c1_1,.slice A1_2 l1_2.length c1_2]) (t:=26) ?hr ?_;(case hd=>rfl);(case hg=>rfl);(case hr=>first|(go_simp;done)|(go_simp;rfl));intro Bc hg w14 hbox hb;have n0_:=Am (bB (g:=Bb) (o:=.cells #[.slice A0_0 l0_0.length c0_0,.slice A0_1 l0_1.length c0_1,.slice A0_2 l0_2.length c0_2] 26 (0,0)) (bL Ba.out) hb);have n1_:=Am (bP (by repeat (first|(with_reducible first|exact HB.out|apply oA|apply pN|apply o1|refine bS ?_ Bd.out)|exact HB.out)) hb);have n2_:=Am (hbox);have n3_:=Am ((by rw [hg];exact (bZ (by repeat (first|(with_reducible first|exact HB.out|apply oA|apply pN|apply o1|refine bS ?_ Bd.out)|exact HB.out))):w.heap.size≤Bc));have n4_:=Am ((by rw [hg];exact (bZ (by repeat (first|(with_reducible first|exact HB.out|apply oA|apply pN|apply o1|refine bS ?_ Bd.out)|exact HB.out))):w.heap.size≤Bc));have n5_:=Am ((by rw [hg];exact Nat.ne_of_lt (blk_lt (g:=Bb) (o:=.cells #[.slice A0_0 l0_0.length c0_0,.slice A0_1 l0_1.length c0_1,.slice A0_2 l0_2.length c0_2] 26 (0,0)) (bL Ba.out)):Bb≠Bc));have n6_:=Am ((by rw [hg];exact Nat.ne_of_gt (blk_lt (g:=Bb) (o:=.cells #[.slice A0_0 l0_0.length c0_0,.slice A0_1 l0_1.length c0_1,.slice A0_2 l0_2.length c0_2] 26 (0,0)) (bL Ba.out)):Bc≠Bb));clear Ba HB;revert n0_ n1_ n2_ n3_ n4_ n5_ n6_;intro Ba HB Be Bj Bf Bg Bh;clear hb hbox hg;have BW:=Bg.out;have BX:=Bh.out;have Bw:w14.cell? ⟨Bb,0,none⟩=some (.slice A0_0 l0_0.length c0_0):=(bC Ba.out 0).trans rfl;have Bx:w14.cell? ⟨Bb,1,none⟩=some (.slice A0_1 l0_1.length c0_1):=(bC Ba.out 1).trans rfl;have By:w14.cell? ⟨Bb,2,none⟩=some (.slice A0_2 l0_2.length c0_2):=(bC Ba.out 2).trans rfl;have Bz:=bF Ba.out 0;have BA:=bF Ba.out 1;have BB:=bF Ba.out 2;have BC:w14.cell? ⟨Bc,0,none⟩=some (.slice A1_0 l1_0.length c1_0):=(bC Be.out 0).trans rfl;have BD:w14.cell? ⟨Bc,1,none⟩=some (.slice A1_1 l1_1.length c1_1):=(bC Be.out 1).trans rfl;have BE:w14.cell? ⟨Bc,2,none⟩=some (.slice A1_2 l1_2.length c1_2):=(bC Be.out 2).trans rfl;have BF:=bF Be.out 0;have BG:=bF Be.out 1;have BH:=bF Be.out 2)|((with_reducible refine gate_callee (f:=22) rfl ?_);refine goesL_ (some 9) rfl rfl Try.func22 (by kernel_rfl) rfl #[.slice A0_0 l0_0.length c0_0,.slice A1_0 l1_0.length c1_0] rfl (by (try simp only [lM,lC,lN]);first|done|rfl|(simp only [lD,lT];rfl)) ?_;(with_reducible refine (laws_qdBools.calls k _ _ l0_0 _ _ l1_0 true _ ?side1 ?side2 ?side3 ?side4 A3.out).mono ?_);(case side1=>repeat (first|exact (cB HR0_0.out HB.out)|(with_reducible refine cA ?_ _)|(with_reducible refine cN ?_ _)|(with_reducible refine cD ?_)));(case side2=>exact HC0_0.out);(case side3=>repeat (first|exact (cB HR1_0.out HB.out)|(with_reducible refine cA ?_ _)|(with_reducible refine cN ?_ _)|(with_reducible refine cD ?_)));(case side4=>exact HC1_0.out);rintro e w' ⟨rfl,⟨nd,rfl⟩⟩;refine ⟨_,rfl,?_⟩)|(go_at_call 22;(with_reducible refine (laws_qdBools.calls k _ _ l0_1 _ _ l1_1 false _ ?side1 ?side2 ?side3 ?side4 A5.out).mono ?_);(case side1=>repeat (first|exact (cB HR0_1.out (by repeat (first|(with_reducible first|exact HB.out|apply oA|apply pN|apply o1|refine bS ?_ Bd.out|refine bS ?_ Bf.out)|exact HB.out)))|(with_reducible refine cA ?_ _)|(with_reducible refine cN ?_ _)|(with_reducible refine cD ?_)));(case side2=>exact HC0_1.out);(case side3=>repeat (first|exact (cB HR1_1.out (by repeat (first|(with_reducible first|exact HB.out|apply oA|apply pN|apply o1|refine bS ?_ Bd.out|refine bS ?_ Bf.out)|exact HB.out)))|(with_reducible refine cA ?_ _)|(with_reducible refine cN ?_ _)|(with_reducible refine cD ?_)));(case side4=>exact HC1_1.out);rintro e w' ⟨rfl,⟨nd,rfl⟩⟩))
  go_ret
  exact ⟨by first|rfl|(simp [errW_none,errW_some] <;> rfl)|(simp [*,errW_none,errW_some] <;> rfl),by repeat (first|(with_reducible first|exact HB.out|apply oA|apply pN|apply o1|refine bS ?_ Bd.out|refine bS ?_ Bf.out)|exact HB.out)⟩
 subst c6
 have H1:((laws_qdInts.f k l0_2 l1_2).bind fun t109=>(some t109))=some r:=by rw [if_pos rfl] at H;exact H
 clear H
 have H:=H1
 clear H1
 replace H:=oC H
 obtain ⟨t109,A70,H⟩:=H
 replace H:(some t109)=some r:=H
 have A7:=Am A70
 clear A70
 obtain rfl:=Option.some.inj H
 go_enter Try.func14,Try.ntmps14
 go_wp2_with (first|((with_reducible refine gate_dst (N:=2) rfl ?_);refine box_event ?hg (N:=2) ?hd (cs:=#[.slice A0_0 l0_0.length c0_0,.slice A0_1 l0_1.length c0_1,.slice A0_2 l0_2.length c0_2]) (t:=26) ?hr ?_;(case hd=>rfl);(case hg=>rfl);(case hr=>first|(go_simp;done)|(go_simp;rfl));intro Bb hg w8 hbox hb;have n0_:=Am (bP (by repeat (first|(with_reducible first|exact HB.out|apply oA|apply pN|apply o1)|exact HB.out)) hb);have n1_:=Am (hbox);have n2_:=Am ((by rw [hg];exact (bZ (by repeat (first|(with_reducible first|exact HB.out|apply oA|apply pN|apply o1)|exact HB.out))):w.heap.size≤Bb));have n3_:=Am ((by rw [hg];exact (bZ (by repeat (first|(with_reducible first|exact HB.out|apply oA|apply pN|apply o1)|exact HB.out))):w.heap.size≤Bb));clear HB;revert n0_ n1_ n2_ n3_;intro HB Ba Bi Bd;clear hb hbox hg)|((with_reducible refine gate_dst (N:=3) rfl ?_);refine box_event ?hg (N:=3) ?hd (cs:=#[.slice A1_0 l1_0.length c1_0,.slice A1_1 l1_1.length c1_1,.slice A1_2 l1_2.length c1_2]) (t:=26) ?hr ?_;(case hd=>rfl);(case hg=>rfl);(case hr=>first|(go_simp;done)|(go_simp;rfl));intro Bc hg w9 hbox hb;have n0_:=Am (bB (g:=Bb) (o:=.cells #[.slice A0_0 l0_0.length c0_0,.slice A0_1 l0_1.length c0_1,.slice A0_2 l0_2.length c0_2] 26 (0,0)) (bL Ba.out) hb);have n1_:=Am (bP (by repeat (first|(with_reducible first|exact HB.out|apply oA|apply pN|apply o1|refine bS ?_ Bd.out)|exact HB.out)) hb);have n2_:=Am (hbox);have n3_:=Am ((by rw [hg];exact (bZ (by repeat (first|(with_reducible first|exact HB.out|apply oA|apply pN|apply o1|refine bS ?_ Bd.out)|exact HB.out))):w.heap.size≤Bc));have n4_:=Am ((by rw [hg];exact (bZ (by repeat (first|(with_reducible first|exact HB.out|apply oA|apply pN|apply o1|refine bS ?_ Bd.out)|exact HB.out))):w.heap.size≤Bc));have n5_:=Am ((by rw [hg];exact Nat.ne_of_lt (blk_lt (g:=Bb) (o:=.cells #[.slice A0_0 l0_0.length c0_0,.slice A0_1 l0_1.length c0_1,.slice A0_2 l0_2.length c0_2] 26 (0,0)) (bL Ba.out)):Bb≠Bc));have n6_:=Am ((by rw [hg];exact Nat.ne_of_gt (blk_lt (g:=Bb) (o:=.cells #[.slice A0_0 l0_0.length c0_0,.slice A0_1 l0_1.length c0_1,.slice A0_2 l0_2.length c0_2] 26 (0,0)) (bL Ba.out)):Bc≠Bb));clear Ba HB;revert n0_ n1_ n2_ n3_ n4_ n5_ n6_;intro Ba HB Be Bj Bf Bg Bh;clear hb hbox hg;have BU:=Bg.out;have BV:=Bh.out;have Bk:w9.cell? ⟨Bb,0,none⟩=some (.slice A0_0 l0_0.length c0_0):=(bC Ba.out 0).trans rfl;have Bl:w9.cell? ⟨Bb,1,none⟩=some (.slice A0_1 l0_1.length c0_1):=(bC Ba.out 1).trans rfl;have Bm:w9.cell? ⟨Bb,2,none⟩=some (.slice A0_2 l0_2.length c0_2):=(bC Ba.out 2).trans rfl;have Bn:=bF Ba.out 0;have Bo:=bF Ba.out 1;have Bp:=bF Ba.out 2;have Bq:w9.cell? ⟨Bc,0,none⟩=some (.slice A1_0 l1_0.length c1_0):=(bC Be.out 0).trans rfl;have Br:w9.cell? ⟨Bc,1,none⟩=some (.slice A1_1 l1_1.length c1_1):=(bC Be.out 1).trans rfl;have Bs:w9.cell? ⟨Bc,2,none⟩=some (.slice A1_2 l1_2.length c1_2):=(bC Be.out 2).trans rfl;have Bt:=bF Be.out 0;have Bu:=bF Be.out 1;have Bv:=bF Be.out 2)|((with_reducible refine gate_callee (f:=22) rfl ?_);refine goesL_ (some 9) rfl rfl Try.func22 (by kernel_rfl) rfl #[.slice A0_0 l0_0.length c0_0,.slice A1_0 l1_0.length c1_0] rfl (by (try simp only [lM,lC,lN]);first|done|rfl|(simp only [lD,lT];rfl)) ?_;(with_reducible refine (laws_qdBools.calls k _ _ l0_0 _ _ l1_0 true _ ?side1 ?side2 ?side3 ?side4 A3.out).mono ?_);(case side1=>repeat (first|exact (cB HR0_0.out HB.out)|(with_reducible refine cA ?_ _)|(with_reducible refine cN ?_ _)|(with_reducible refine cD ?_)));(case side2=>exact HC0_0.out);(case side3=>repeat (first|exact (cB HR1_0.out HB.out)|(with_reducible refine cA ?_ _)|(with_reducible refine cN ?_ _)|(with_reducible refine cD ?_)));(case side4=>exact HC1_0.out);rintro e w' ⟨rfl,⟨nd,rfl⟩⟩;refine ⟨_,rfl,?_⟩)|(go_at_call 22;(with_reducible refine (laws_qdBools.calls k _ _ l0_1 _ _ l1_1 true _ ?side1 ?side2 ?side3 ?side4 A5.out).mono ?_);(case side1=>repeat (first|exact (cB HR0_1.out (by repeat (first|(with_reducible first|exact HB.out|apply oA|apply pN|apply o1|refine bS ?_ Bd.out|refine bS ?_ Bf.out)|exact HB.out)))|(with_reducible refine cA ?_ _)|(with_reducible refine cN ?_ _)|(with_reducible refine cD ?_)));(case side2=>exact HC0_1.out);(case side3=>repeat (first|exact (cB HR1_1.out (by repeat (first|(with_reducible first|exact HB.out|apply oA|apply pN|apply o1|refine bS ?_ Bd.out|refine bS ?_ Bf.out)|exact HB.out)))|(with_reducible refine cA ?_ _)|(with_reducible refine cN ?_ _)|(with_reducible refine cD ?_)));(case side4=>exact HC1_1.out);rintro e w' ⟨rfl,⟨nd,rfl⟩⟩)|(go_at_call 23;(with_reducible refine (laws_qdInts.calls k _ _ l0_2 _ _ l1_2 t109 _ ?side1 ?side2 ?side3 ?side4 A7.out).mono ?_);(case side1=>repeat (first|exact (cB HR0_2.out (by repeat (first|(with_reducible first|exact HB.out|apply oA|apply pN|apply o1|refine bS ?_ Bd.out|refine bS ?_ Bf.out)|exact HB.out)))|(with_reducible refine cA ?_ _)|(with_reducible refine cN ?_ _)|(with_reducible refine cD ?_)));(case side2=>exact HC0_2.out);(case side3=>repeat (first|exact (cB HR1_2.out (by repeat (first|(with_reducible first|exact HB.out|apply oA|apply pN|apply o1|refine bS ?_ Bd.out|refine bS ?_ Bf.out)|exact HB.out)))|(with_reducible refine cA ?_ _)|(with_reducible refine cN ?_ _)|(with_reducible refine cD ?_)));(case side4=>exact HC1_2.out);rintro e w' ⟨rfl,⟨nd,rfl⟩⟩))
 go_ret
 exact ⟨by first|rfl|(simp [errW_none,errW_some] <;> rfl)|(simp [*,errW_none,errW_some] <;> rfl),by repeat (first|(with_reducible first|exact HB.out|apply oA|apply pN|apply o1|refine bS ?_ Bd.out|refine bS ?_ Bf.out)|exact HB.out)⟩
/-- A state of type 60 at block g of W;what its slices lead to came in by w0. -/
def IsS60 (w0 W:World) (g:Nat) (f0:List Int) (f1:Int):Prop:=∃ A0 c0,W.heap[g]?=some (.cells #[.slice A0 f0.length c0,.int .i64 f1] 60 (0,0))∧w0.heap.size≤g∧Kd.C (Kd.int .u8) w0 A0 f0.length f0
theorem IsS60.grown {w0 W:World} {g:Nat} {f0:List Int} {f1:Int} {W1:World} {row:Option Nat} (h:IsS60 w0 W g f0 f1) (hw:W.grownBy W1 row) (hne:some g≠row):IsS60 w0 W1 g f0 f1:=by
 obtain ⟨A0,c0,hb,hg,hr0⟩:=h
 exact ⟨A0,c0,blk_grown hb hw hne,hg,hr0⟩
theorem IsS60.own_neN {w0 W:World} {g:Nat} {f0:List Int} {f1:Int} {α:Type} {d:Kd α} {e:Nat} {base:Nat} {ok:Nat → Prop} {v:Value} {xs:List α} (h:IsS60 w0 W g f0 f1) (ho:Kd.N d e W base ok v xs) (ht:e≠60):some g≠v.ownBlock:=by
 obtain ⟨A0,c0,hb,hg,hr0⟩:=h
 exact Kd.N_ne ho hb ht
theorem IsS60.fresh {w0 W:World} {g:Nat} {f0:List Int} {f1:Int} (h:IsS60 w0 W g f0 f1):∀ k,W.heap.size≤k → k≠g:=by
 obtain ⟨A0,c0,hb,hg,hr0⟩:=h
 exact Kd.freshB hb
theorem IsS60.kept {w0 W:World} {g:Nat} {f0:List Int} {f1:Int} {W1:World} {S:Nat → Prop} (h:IsS60 w0 W g f0 f1) (hk:Kept W W1 S) (hne:¬ S g):IsS60 w0 W1 g f0 f1:=by
 obtain ⟨A0,c0,hb,hg,hr0⟩:=h
 exact ⟨A0,c0,blk_kept hb hk hne,hg,hr0⟩
theorem IsS60.below {w0 W:World} {g:Nat} {f0:List Int} {f1:Int} {W1:World} (h:IsS60 w0 W g f0 f1) (hw:Below W.heap.size W W1):IsS60 w0 W1 g f0 f1:=h.grown (grown_of_below hw none) (by simp)
theorem IsS60.alloc {w0 W:World} {g:Nat} {f0:List Int} {f1:Int} (h:IsS60 w0 W g f0 f1) (o:Obj):IsS60 w0 (W.alloc o) g f0 f1:=h.below (oA (Below.refl _ _) o)
theorem IsS60.drewN {w0 W:World} {g:Nat} {f0:List Int} {f1:Int} (h:IsS60 w0 W g f0 f1) (m:Nat):IsS60 w0 (W.drewN m) g f0 f1:=h
theorem IsS60.drew {w0 W:World} {g:Nat} {f0:List Int} {f1:Int} (h:IsS60 w0 W g f0 f1):IsS60 w0 W.drew g f0 f1:=h
theorem IsS60.at_ {w0 W:World} {g:Nat} {f0:List Int} {f1:Int} {w':World} {m:Nat} (hq:W.drewN m=w') (h:IsS60 w0 W g f0 f1):IsS60 w0 w' g f0 f1:=by subst hq;exact IsS60.drewN h m
theorem IsS60.apart {w0 W:World} {g:Nat} {f0:List Int} {f1:Int} {α:Type} {d:Kd α} {e:Nat} {base:Nat} {ok:Nat → Prop} {v:Value} {xs:List α} (h:IsS60 w0 W g f0 f1) (ho:d.R e W base ok v xs) (ht:∀ q,q ∈ e :: d.E → q≠60):d.R e W base (fun k=>ok k∧k≠g) v xs:=by
 obtain ⟨A0,c0,hb,hg,hr0⟩:=h
 exact rT ho hb ht
theorem IsS60.own_ne {w0 W:World} {g:Nat} {f0:List Int} {f1:Int} {α:Type} {d:Kd α} {e:Nat} {base:Nat} {ok:Nat → Prop} {v:Value} {xs:List α} (h:IsS60 w0 W g f0 f1) (ho:d.R e W base ok v xs) (ht:e≠60):some g≠v.ownBlock:=by
 obtain ⟨A0,c0,hb,hg,hr0⟩:=h
 exact Kd.R_ne ho hb ht
theorem IsS60.apartQ {w0 W:World} {g:Nat} {f0:List Int} {f1:Int} {α:Type} {d:Kd α} {e:Nat} {base:Nat} {ok:Nat → Prop} {v:Value} {xs:List α} (h:IsS60 w0 W g f0 f1) (ho:d.Q e W base ok v xs) (ht:∀ q,q ∈ e :: d.E → q≠60):d.Q e W base (fun k=>ok k∧k≠g) v xs:=by
 obtain ⟨A0,c0,hb,hg,hr0⟩:=h
 exact Kd.Q_types ho hb ht
theorem IsS60.own_neQ {w0 W:World} {g:Nat} {f0:List Int} {f1:Int} {α:Type} {d:Kd α} {e:Nat} {base:Nat} {ok:Nat → Prop} {v:Value} {xs:List α} (h:IsS60 w0 W g f0 f1) (ho:d.Q e W base ok v xs) (ht:e≠60):some g≠v.ownBlock:=by
 obtain ⟨A0,c0,hb,hg,hr0⟩:=h
 exact Kd.Q_ne ho hb ht
theorem IsS60.apartS {w0 W:World} {g:Nat} {f0:List Int} {f1:Int} {α:Type} {d:Kd α} {e:Nat} {base:Nat} {ok:Nat → Prop} {v:Value} {xs:List α} (h:IsS60 w0 W g f0 f1) (ho:d.S e W base ok v xs) (ht:∀ q,q ∈ e :: d.E → q≠60):d.S e W base (fun k=>ok k∧k≠g) v xs:=by
 obtain ⟨A0,c0,hb,hg,hr0⟩:=h
 exact Kd.S_types ho hb ht
theorem IsS60.own_neS {w0 W:World} {g:Nat} {f0:List Int} {f1:Int} {α:Type} {d:Kd α} {e:Nat} {base:Nat} {ok:Nat → Prop} {v:Value} {xs:List α} (h:IsS60 w0 W g f0 f1) (ho:d.S e W base ok v xs) (ht:e≠60):some g≠v.ownBlock:=by
 obtain ⟨A0,c0,hb,hg,hr0⟩:=h
 exact Kd.S_ne ho hb ht
theorem IsS60.lt {w0 W:World} {g:Nat} {f0:List Int} {f1:Int} (h:IsS60 w0 W g f0 f1):g<W.heap.size:=by
 obtain ⟨A0,c0,hb,hg,hr0⟩:=h
 exact blk_lt hb
theorem IsS60.ge {w0 W:World} {g:Nat} {f0:List Int} {f1:Int} (h:IsS60 w0 W g f0 f1):w0.heap.size≤g:=by
 obtain ⟨A0,c0,hb,hg,hr0⟩:=h
 exact hg
theorem IsS60.ne_blk {w0 W:World} {g:Nat} {f0:List Int} {f1:Int} {a:Nat} {cs:Array Value} {t:TypeId} {fr:Nat × Nat} (h:IsS60 w0 W g f0 f1) (hb2:W.heap[a]?=some (.cells cs t fr)) (ht:t≠60):g≠a:=by
 obtain ⟨A0,c0,hb,hg,hr0⟩:=h
 rintro rfl
 rw [hb] at hb2
 injection hb2 with hb2
 injection hb2 with _ ht2
 exact ht ht2.symm
theorem IsS60.far {w0 W:World} {g:Nat} {f0:List Int} {f1:Int} {p:Addr} (h:IsS60 w0 W g f0 f1) (hne:g≠p.block) (u:Value):IsS60 w0 (W.setCell p u) g f0 f1:=by
 obtain ⟨A0,c0,hb,hg,hr0⟩:=h
 exact ⟨A0,c0,blk_far hb hne u,hg,hr0⟩
theorem cellS60_0 {W:World} {g:Nat} {A0:Option Addr} {c0:Nat} {f0:List Int} {f1:Int} (h:W.heap[g]?=some (.cells #[.slice A0 f0.length c0,.int .i64 f1] 60 (0,0))):W.cell? ⟨g,0,none⟩=some (.slice A0 f0.length c0):=(bC h 0).trans rfl
theorem cellS60_1 {W:World} {g:Nat} {A0:Option Addr} {c0:Nat} {f0:List Int} {f1:Int} (h:W.heap[g]?=some (.cells #[.slice A0 f0.length c0,.int .i64 f1] 60 (0,0))):W.cell? ⟨g,1,none⟩=some (.int .i64 f1):=(bC h 1).trans rfl
theorem IsS60.set_1 {w0 W:World} {g:Nat} {f0:List Int} {f1:Int} (h:IsS60 w0 W g f0 f1) (x:Int):IsS60 w0 (W.setCell ⟨g,1,none⟩ (.int .i64 x)) g f0 x:=by
 obtain ⟨A0,c0,hb,hg,hr0⟩:=h
 exact ⟨A0,c0,by simpa using blk_set hb 1 (.int .i64 x),hg,hr0⟩
theorem IsS60.new (w0 W:World) (A0:Option Addr) (c0:Nat) (f0:List Int) (f1:Int) (hB:Below w0.heap.size w0 W) (hr0:Kd.C (Kd.int .u8) w0 A0 f0.length f0):IsS60 w0 (W.alloc (.cells #[.slice A0 f0.length c0,.int .i64 f1] 60)) W.heap.size f0 f1:=⟨A0,c0,by simpa using heap_alloc_new W _,hB.size,hr0⟩

/-! ### spec_l6Open: function 41 -/
def spec_l6Open.f (l0 : List Int) : Option (List Int × Int) := if (l0.length : Int) > 2000 then (if 2000 ≤ (l0.length : Int) then (some (l0.take 2000, 0)) else (none)) else (some (l0, 0))
set_option maxHeartbeats 2000000 in
set_option maxRecDepth 100000 in
theorem spec_l6Open.calls (A0:Option Addr) (c0:Nat) (l0:List Int) (r1:List Int) (r2:Int) (w0 w:World) (hB:Below w0.heap.size w0 w) (hr0:Kd.C (Kd.int .u8) w0 A0 l0.length l0) (hc0:l0.length≤c0) (h:spec_l6Open.f l0=some (r1,r2)) :
  Calls Try.prog 41 #[.slice A0 l0.length c0] w fun e w'=>∃ g_:Nat,e=.returned (.pointer (some ⟨g_,0,none⟩))∧IsS60 w0 w' g_ r1 r2∧Below w0.heap.size w0 w'∧Below w.heap.size w w':=by
 have hu60:=Try.underlying60
 have HR0:=Am hr0
 have HC0:=Am hc0
 clear hr0 hc0
 have HBW:=Am (Below.refl w.heap.size w)
 have HW0:=Am hB.size
 have HB:=Am hB
 clear hB
 have H:(if (l0.length:Int) > 2000 then (if 2000≤(l0.length:Int) then (some (l0.take 2000,0)) else (none)) else (some (l0,0)))=some (r1,r2):=h
 clear h
 by_cases c2:(l0.length:Int) > 2000
 rotate_left
 ·rw [if_neg c2] at H
  have c2b0:decide (2000<(l0.length:Int))=false:=decide_eq_false c2
  have c2b1:decide (2000<l0.length)=false:=decide_eq_false (by omega)
  clear c2
  simp only [Option.some.injEq,Prod.mk.injEq] at H
  obtain ⟨rfl,rfl⟩:=H
  go_enter Try.func41,Try.ntmps41
  go_wp2_with (first|((with_reducible refine gate_dst (N:=10) rfl ?_);refine box_event ?hg (N:=10) ?hd (cs:=#[.slice A0 l0.length c0,.int .i64 0]) (t:=60) ?hr ?_;(case hd=>rfl);(case hg=>rfl);(case hr=>first|(go_simp;done)|(go_simp;rfl));intro Bb hg w6 hbox hb;have n0_:=Am (bP HBW.out hb);have n1_:=Am (bP (by repeat (first|(with_reducible first|exact HB.out|apply oA|apply pN|apply o1)|exact HB.out)) hb);have n2_:=Am (hbox);have n3_:=Am ((by rw [hg];exact (bZ (by repeat (first|(with_reducible first|exact HBW.out|apply oA|apply pN|apply o1)|exact HBW.out))):w.heap.size≤Bb));have n4_:=Am ((Nat.le_trans HW0.out (by rw [hg];exact (bZ (by repeat (first|(with_reducible first|exact HBW.out|apply oA|apply pN|apply o1)|exact HBW.out))):w.heap.size≤Bb):w0.heap.size≤Bb));clear HBW HB;revert n0_ n1_ n2_ n3_ n4_;intro HBW HB Bg Bh Bd;clear hb hbox hg))
  go_ret
  exact ⟨_,rfl,(show IsS60 w0 _ Bb l0 0 from ⟨_,_,by (with_reducible repeat (first|refine bN ?_ _|refine bD ?_|refine bA ?_ _));exact Bg.out,Bd.out,HR0.out⟩),by repeat (first|(with_reducible first|exact HB.out|apply oA|apply pN|apply o1|refine bS ?_ Bd.out)|exact HB.out),by repeat (first|(with_reducible first|exact HBW.out|apply oA|apply pN|apply o1|refine bS ?_ Bh.out)|exact HBW.out)⟩

 rw [if_pos c2] at H
 have c2b0:decide (2000<(l0.length:Int))=true:=decide_eq_true c2
 have c2b1:decide (2000<l0.length)=true:=decide_eq_true (by omega)
 clear c2
 by_cases c3:2000≤(l0.length:Int)
 rotate_left
 ·rw [if_neg c3] at H
  exact absurd H (by simp)
 rw [if_pos c3] at H
 have c3b0:=eq_true c3
 have c3b1:decide (2000≤(l0.length:Int))=true:=decide_eq_true c3
 clear c3
 simp only [Option.some.injEq,Prod.mk.injEq] at H
 obtain ⟨rfl,rfl⟩:=H
 obtain ⟨i04,hi04,_,hsz4,_⟩:=info_parts info5
 obtain ⟨hcut4,hA4,hC4⟩:=print_take_of (P:=Try.prog) (Value.int .u8) 0 22 5 .i64 Try.underlying22 hi04 hsz4 A0 c0 l0 2000 (by omega) (of_decide_eq_true (by first|(with_reducible assumption)|assumption)) HC0.out
 have HR110:=Am (Kd.C_of_reads (h1:=fun _=>rfl) (hA4 _ (Kd.reads_of_C HR0.out)))
 have HC110:=Am hC4
 clear hA4 hC4 hi04 hsz4
 go_enter Try.func41,Try.ntmps41
 go_wp2_with (first|((with_reducible refine gate_dst (N:=10) rfl ?_);refine box_event ?hg (N:=10) ?hd (cs:=#[.slice A0 (l0.take 2000).length c0,.int .i64 0]) (t:=60) ?hr ?_;(case hd=>rfl);(case hg=>rfl);(case hr=>first|(go_simp;done)|(go_simp;rfl));intro Ba hg w5 hbox hb;have n0_:=Am (bP HBW.out hb);have n1_:=Am (bP (by repeat (first|(with_reducible first|exact HB.out|apply oA|apply pN|apply o1)|exact HB.out)) hb);have n2_:=Am (hbox);have n3_:=Am ((by rw [hg];exact (bZ (by repeat (first|(with_reducible first|exact HBW.out|apply oA|apply pN|apply o1)|exact HBW.out))):w.heap.size≤Ba));have n4_:=Am ((Nat.le_trans HW0.out (by rw [hg];exact (bZ (by repeat (first|(with_reducible first|exact HBW.out|apply oA|apply pN|apply o1)|exact HBW.out))):w.heap.size≤Ba):w0.heap.size≤Ba));clear HBW HB;revert n0_ n1_ n2_ n3_ n4_;intro HBW HB Be Bf Bc;clear hb hbox hg))
 go_ret
 exact ⟨_,rfl,(show IsS60 w0 _ Ba (l0.take 2000) 0 from ⟨_,_,by (with_reducible repeat (first|refine bN ?_ _|refine bD ?_|refine bA ?_ _));exact Be.out,Bc.out,HR110.out⟩),by repeat (first|(with_reducible first|exact HB.out|apply oA|apply pN|apply o1|refine bS ?_ Bc.out)|exact HB.out),by repeat (first|(with_reducible first|exact HBW.out|apply oA|apply pN|apply o1|refine bS ?_ Bf.out)|exact HBW.out)⟩
end Go.Proofs.Ytiifanjjohophaa.PFnSigsTurn
