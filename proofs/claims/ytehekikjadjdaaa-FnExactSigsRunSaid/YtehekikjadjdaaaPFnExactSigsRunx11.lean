/- Proved here, without a condition beyond those that each theorem states: what the Go functions named below do is what the plain functions of the same names say. Written by xprint.py, a program of this session. -/
import Derived.Test.YtehekikjadjdaaaPFnExactSigsRunx0
import Derived.Test.YtehekikjadjdaaaPFnExactSigsRunx9
import Derived.Test.YtehekikjadjdaaaPFnExactSigsRunx10
namespace Go.Proofs.Ytehekikjadjdaaa.PFnExactSigsRun
open Go.RowKit Go.Proofs.YtehekikjadjdaaaW.PrintWords Go.Proofs.YtehekikjadjdaaaW.PrintLast Go.Proofs.YtehekikjadjdaaaW.PrintMore
attribute [local go_sem] max2_int min2_int max_two min_two max_three min_three max_four min_four   -- for this text's walks alone
set_option linter.unusedVariables false
set_option linter.unusedSimpArgs false

attribute [local go_sem ↓] isSome_setCell_
/-! ### impl_SigsRun: function 28 -/
def impl_SigsRun.l0 : Nat → Int → Int → List Bool → List Bool → List Int → Option (List Bool × List Bool × List Int)
|0, _, _, _, _, _ => none
|k + 1, x14, x15, x238000, x238001, x238002 => if x15 < x14 then (if 0 ≤ x15 then (if x15 < (x238002.length : Int) then (if (rd x238002 x15) = 4 then (impl_SigsRun.l0 k x14 (wrap64 (x15 + 1)) x238000 x238001 (x238002.set (x15 : Int).toNat 0)) else (impl_SigsRun.l0 k x14 (wrap64 (x15 + 1)) x238000 x238001 x238002)) else (none)) else (none)) else (some (x238000, x238001, x238002))
def impl_SigsRun.f (k : Nat) (l0_0 : List Bool) (l0_1 : List Bool) (l0_2 : List Int) : Option (List Bool × List Bool × List Int) := (impl_SigsOk.f k l0_0 l0_1 l0_2).bind fun t227 => (if t227 = true then ((impl_Sigs_clone.f l0_0 l0_1 l0_2).bind fun bt228 => (impl_SigsRun.l0 k (bt228.2.2.length : Int) 0 bt228.1 bt228.2.1 bt228.2.2)) else (some (([] : List Bool), ([] : List Bool), ([] : List Int))))
theorem impl_SigsRun.mono_l : ∀ k, (∀ y0 y1 y2 y3 y4, LeO (impl_SigsRun.l0 k y0 y1 y2 y3 y4) (impl_SigsRun.l0 (k + 1) y0 y1 y2 y3 y4))
|0 => fun _ _ _ _ _ r h => by simp [impl_SigsRun.l0] at h
|k + 1 => by
  have ih0 := impl_SigsRun.mono_l k
  ·intro y0 y1 y2 y3 y4
   unfold impl_SigsRun.l0
   repeat' first
  |(with_reducible exact ih0 _ _ _ _ _)
  |(with_reducible exact impl_SigsOk.mono _ _ _ _)
  |(with_reducible exact LeO.refl _)
  |(with_reducible exact LeO.none _)
  |(with_reducible refine LeO.ite ?_ ?_)
  |(with_reducible refine LeO.bind ?_ (fun _ => ?_))
  |exact ih0 _ _ _ _ _
  |exact impl_SigsOk.mono _ _ _ _
  |exact LeO.none _
  |refine LeO.ite ?_ ?_
  |refine LeO.bind ?_ (fun _ => ?_)
theorem impl_SigsRun.mono : ∀ a0 a1 a2 k, LeO (impl_SigsRun.f k a0 a1 a2) (impl_SigsRun.f (k + 1) a0 a1 a2) := by
 intro a0 a1 a2 k
 have ih0 := impl_SigsRun.mono_l k
 unfold impl_SigsRun.f
 repeat' first
  |(with_reducible exact ih0 _ _ _ _ _)
  |(with_reducible exact impl_SigsOk.mono _ _ _ _)
  |(with_reducible exact LeO.refl _)
  |(with_reducible exact LeO.none _)
  |(with_reducible refine LeO.ite ?_ ?_)
  |(with_reducible refine LeO.bind ?_ (fun _ => ?_))
  |exact ih0 _ _ _ _ _
  |exact impl_SigsOk.mono _ _ _ _
  |exact LeO.none _
  |refine LeO.ite ?_ ?_
  |refine LeO.bind ?_ (fun _ => ?_)
set_option maxHeartbeats 2000000 in
set_option maxRecDepth 100000 in
theorem impl_SigsRun.calls (k:Nat) (A0_0:Option Addr) (c0_0:Nat) (l0_0:List Bool) (A0_1:Option Addr) (c0_1:Nat) (l0_1:List Bool) (A0_2:Option Addr) (c0_2:Nat) (l0_2:List Int) (r1:List Bool) (r2:List Bool) (r3:List Int) (w:World) (hr0_0:Kd.C Kd.bool w A0_0 l0_0.length l0_0) (hc0_0:l0_0.length≤c0_0) (hr0_1:Kd.C Kd.bool w A0_1 l0_1.length l0_1) (hc0_1:l0_1.length≤c0_1) (hr0_2:Kd.C (Kd.int .i64) w A0_2 l0_2.length l0_2) (hc0_2:l0_2.length≤c0_2) (h:impl_SigsRun.f k l0_0 l0_1 l0_2=some (r1,r2,r3)) :
  Calls Try.prog 28 #[.agg #[.slice A0_0 l0_0.length c0_0,.slice A0_1 l0_1.length c0_1,.slice A0_2 l0_2.length c0_2]] w fun e w'=>∃ v0_ v1_ v2_:Value,e=.returned (.agg #[v0_,v1_,v2_])∧Kd.R Kd.bool 4 w' w.heap.size (fun k_=>some k_≠(v1_:Value).ownBlock) v0_ r1∧Kd.R Kd.bool 4 w' w.heap.size (fun k_=>some k_≠(v0_:Value).ownBlock) v1_ r2∧Kd.R (Kd.int .i64) 3 w' w.heap.size (fun _=>True) v2_ r3∧Below w.heap.size w w':=by
 have hu27:=Try.underlying27
 have HR0_0:=Am hr0_0
 have HC0_0:=Am hc0_0
 clear hr0_0 hc0_0
 have HR0_1:=Am hr0_1
 have HC0_1:=Am hc0_1
 clear hr0_1 hc0_1
 have HR0_2:=Am hr0_2
 have HC0_2:=Am hc0_2
 clear hr0_2 hc0_2
 have HB:=Am (bJ w.heap.size w)
 have H:((impl_SigsOk.f k l0_0 l0_1 l0_2).bind fun t227=>(if t227=true then ((impl_Sigs_clone.f l0_0 l0_1 l0_2).bind fun bt228=>(impl_SigsRun.l0 k (bt228.2.2.length:Int) 0 bt228.1 bt228.2.1 bt228.2.2)) else (some (([]:List Bool),([]:List Bool),([]:List Int)))))=some (r1,r2,r3):=h
 clear h
 replace H:=oC H
 obtain ⟨t227,A20,H⟩:=H
 replace H:(if t227=true then ((impl_Sigs_clone.f l0_0 l0_1 l0_2).bind fun bt228=>(impl_SigsRun.l0 k (bt228.2.2.length:Int) 0 bt228.1 bt228.2.1 bt228.2.2)) else (some (([]:List Bool),([]:List Bool),([]:List Int))))=some (r1,r2,r3):=H
 have A2:=Am A20
 clear A20
 by_cases c3:t227=true
 rotate_left
 ·replace c3:=Bool.eq_false_iff.mpr c3
  subst c3
  have H1:(some (([]:List Bool),([]:List Bool),([]:List Int)))=some (r1,r2,r3):=by rw [if_neg (show ¬ (false=true) by decide)] at H;exact H
  clear H
  have H:=H1
  clear H1
  simp only [Option.some.injEq,Prod.mk.injEq] at H
  obtain ⟨rfl,rfl,rfl⟩:=H
  go_enter Try.func28,Try.ntmps28
  go_wp2_with (first|((with_reducible refine gD (N:=1) rfl ?_);refine bI ?hg (N:=1) ?hd (cs:=#[.slice A0_0 l0_0.length c0_0,.slice A0_1 l0_1.length c0_1,.slice A0_2 l0_2.length c0_2]) (t:=27) ?hr ?_;(case hd=>rfl);(case hg=>rfl);(case hr=>first|(go_simp;done)|(go_simp;rfl));intro Be hg w40 hbox hb;have n0_:=Am (bP (by repeat (first|(with_reducible first|exact HB.out|apply oA|apply pN|apply o1)|exact HB.out)) hb);have n1_:=Am (hbox);have n2_:=Am ((by rw [hg];exact (bZ (by repeat (first|(with_reducible first|exact HB.out|apply oA|apply pN|apply o1)|exact HB.out))):w.heap.size≤Be));have n3_:=Am ((by rw [hg];exact (bZ (by repeat (first|(with_reducible first|exact HB.out|apply oA|apply pN|apply o1)|exact HB.out))):w.heap.size≤Be));clear HB;revert n0_ n1_ n2_ n3_;intro HB Ba BO Bh;clear hb hbox hg)|((with_reducible refine gD (N:=2) rfl ?_);refine bI ?hg (N:=2) ?hd (cs:=#[.slice none 0 0,.slice none 0 0,.slice none 0 0]) (t:=27) ?hr ?_;(case hd=>rfl);(case hg=>rfl);(case hr=>first|(go_simp;done)|(go_simp;rfl));intro Bc hg w41 hbox hb;have n0_:=Am (bX Ba.out hb);have n1_:=Am (bP (by repeat (first|(with_reducible first|exact HB.out|apply oA|apply pN|apply o1|refine bS ?_ Bh.out)|exact HB.out)) hb);have n2_:=Am (hbox);have n3_:=Am ((by rw [hg];exact (bZ (by repeat (first|(with_reducible first|exact HB.out|apply oA|apply pN|apply o1|refine bS ?_ Bh.out)|exact HB.out))):w.heap.size≤Bc));have n4_:=Am ((by rw [hg];exact (bZ (by repeat (first|(with_reducible first|exact HB.out|apply oA|apply pN|apply o1|refine bS ?_ Bh.out)|exact HB.out))):w.heap.size≤Bc));have n5_:=Am ((nL Ba.out hg));have n6_:=Am ((nG Ba.out hg));clear Ba HB;revert n0_ n1_ n2_ n3_ n4_ n5_ n6_;intro Ba HB Bb BP Bi Bn Bo;clear hb hbox hg;have DJ:=Bn.out;have DK:=Bo.out;have De:=cz0 Ba.out;have Df:=cz1 Ba.out;have Dg:=cz2 Ba.out;have Dh:=bF Ba.out 0;have Di:=bF Ba.out 1;have Dj:=bF Ba.out 2)|((with_reducible refine gC (f:=59) rfl ?_);refine goesL_ (some 7) rfl rfl Try.func59 (by kernel_rfl) rfl #[.agg #[.slice A0_0 l0_0.length c0_0,.slice A0_1 l0_1.length c0_1,.slice A0_2 l0_2.length c0_2]] rfl (by (try simp only [lM,lC,lN]);first|done|rfl|(simp only [lD,lT];rfl)) ?_;(with_reducible refine (impl_SigsOk.calls k _ _ l0_0 _ _ l0_1 _ _ l0_2 false _ ?side1 ?side2 ?side3 ?side4 ?side5 ?side6 A2.out).mono ?_);(case side1=>exact cL (cB HR0_0.out HB.out));(case side2=>exact HC0_0.out);(case side3=>exact cL (cB HR0_1.out HB.out));(case side4=>exact HC0_1.out);(case side5=>exact cL (cB HR0_2.out HB.out));(case side6=>exact HC0_2.out);rintro e w44 ⟨rfl,hb⟩;refine ⟨_,rfl,?_⟩;have n0_:=Am (bX Ba.out hb);have n1_:=Am (bX Bb.out hb);have n2_:=Am (bP (by repeat (first|(with_reducible first|exact HB.out|apply oA|apply pN|apply o1|refine bS ?_ Bh.out|refine bS ?_ Bi.out)|exact HB.out)) hb);clear Ba Bb HB;revert n0_ n1_ n2_;intro Ba Bb HB;(try clear hb);(try clear hb2);(try clear hk);(try clear hi);have Dk:=cz0 Bb.out;have Dl:=cz1 Bb.out;have Dm:=cz2 Bb.out;have Dn:=bF Bb.out 0;have Do:=bF Bb.out 1;have Dp:=bF Bb.out 2))
  refine bodyPost_ret (results_cell_row rfl _ _ Bc 27 #[.slice none 0 0,.slice none 0 0,.slice none 0 0] (0,0) _ rfl (by (with_reducible repeat (first|refine bN ?_ _|refine bD ?_|refine bA ?_ _));refine bT (cs:=#[.slice none 0 0,.slice none 0 0,.slice none 0 0]) ?_ 2 _ rfl;(with_reducible repeat (first|refine bN ?_ _|refine bD ?_|refine bA ?_ _));refine bT (cs:=#[.slice none 0 0,.slice none 0 0,.slice none 0 0]) ?_ 1 _ rfl;(with_reducible repeat (first|refine bN ?_ _|refine bD ?_|refine bA ?_ _));refine bT (cs:=#[.slice none 0 0,.slice none 0 0,.slice none 0 0]) ?_ 0 _ rfl;(with_reducible repeat (first|refine bN ?_ _|refine bD ?_|refine bA ?_ _));exact Bb.out) Try.underlying27 rfl (by kernel_rfl)) rfl ?_
  exact ⟨_,_,_,by first|rfl|(simp [errW_none,errW_some] <;> rfl)|(simp [*,errW_none,errW_some] <;> rfl),by first|exact Kd.R_nil _ _ _ _ _|exact Kd.N_nil _ _ _ _ _|exact Kd.V_nil _ _ _ _ _|exact Kd.Q_nil _ _ _ _ _|exact Kd.S_nil _ _ _ _ _,by first|exact Kd.R_nil _ _ _ _ _|exact Kd.N_nil _ _ _ _ _|exact Kd.V_nil _ _ _ _ _|exact Kd.Q_nil _ _ _ _ _|exact Kd.S_nil _ _ _ _ _,by first|exact Kd.R_nil _ _ _ _ _|exact Kd.N_nil _ _ _ _ _|exact Kd.V_nil _ _ _ _ _|exact Kd.Q_nil _ _ _ _ _|exact Kd.S_nil _ _ _ _ _,by repeat (first|(with_reducible first|exact HB.out|apply oA|apply pN|apply o1|refine bS ?_ Bh.out|refine bS ?_ Bi.out)|exact HB.out)⟩

 subst c3
 have H1:((impl_Sigs_clone.f l0_0 l0_1 l0_2).bind fun bt228=>(impl_SigsRun.l0 k (bt228.2.2.length:Int) 0 bt228.1 bt228.2.1 bt228.2.2))=some (r1,r2,r3):=by rw [if_pos rfl] at H;exact H
 clear H
 have H:=H1
 clear H1
 replace H:=oC H
 obtain ⟨⟨t228,t231,t234⟩,A40,H⟩:=H
 replace H:(impl_SigsRun.l0 k (t234.length:Int) 0 t228 t231 t234)=some (r1,r2,r3):=H
 have A4:=Am A40
 clear A40
 have H':=Am H
 clear H
 go_enter Try.func28,Try.ntmps28
 go_wp2_with (first|((with_reducible refine gD (N:=1) rfl ?_);refine bI ?hg (N:=1) ?hd (cs:=#[.slice A0_0 l0_0.length c0_0,.slice A0_1 l0_1.length c0_1,.slice A0_2 l0_2.length c0_2]) (t:=27) ?hr ?_;(case hd=>rfl);(case hg=>rfl);(case hr=>first|(go_simp;done)|(go_simp;rfl));intro Be hg w5 hbox hb;have n0_:=Am (bP (by repeat (first|(with_reducible first|exact HB.out|apply oA|apply pN|apply o1)|exact HB.out)) hb);have n1_:=Am (hbox);have n2_:=Am ((by rw [hg];exact (bZ (by repeat (first|(with_reducible first|exact HB.out|apply oA|apply pN|apply o1)|exact HB.out))):w.heap.size≤Be));have n3_:=Am ((by rw [hg];exact (bZ (by repeat (first|(with_reducible first|exact HB.out|apply oA|apply pN|apply o1)|exact HB.out))):w.heap.size≤Be));clear HB;revert n0_ n1_ n2_ n3_;intro HB Ba BO Bh;clear hb hbox hg)|((with_reducible refine gD (N:=2) rfl ?_);refine bI ?hg (N:=2) ?hd (cs:=#[.slice none 0 0,.slice none 0 0,.slice none 0 0]) (t:=27) ?hr ?_;(case hd=>rfl);(case hg=>rfl);(case hr=>first|(go_simp;done)|(go_simp;rfl));intro Bc hg w6 hbox hb;have n0_:=Am (bX Ba.out hb);have n1_:=Am (bP (by repeat (first|(with_reducible first|exact HB.out|apply oA|apply pN|apply o1|refine bS ?_ Bh.out)|exact HB.out)) hb);have n2_:=Am (hbox);have n3_:=Am ((by rw [hg];exact (bZ (by repeat (first|(with_reducible first|exact HB.out|apply oA|apply pN|apply o1|refine bS ?_ Bh.out)|exact HB.out))):w.heap.size≤Bc));have n4_:=Am ((by rw [hg];exact (bZ (by repeat (first|(with_reducible first|exact HB.out|apply oA|apply pN|apply o1|refine bS ?_ Bh.out)|exact HB.out))):w.heap.size≤Bc));have n5_:=Am ((nL Ba.out hg));have n6_:=Am ((nG Ba.out hg));clear Ba HB;revert n0_ n1_ n2_ n3_ n4_ n5_ n6_;intro Ba HB Bb BP Bi Bn Bo;clear hb hbox hg;have DL:=Bn.out;have DM:=Bo.out;have BH:=cz0 Ba.out;have BI:=cz1 Ba.out;have BJ:=cz2 Ba.out;have BK:=bF Ba.out 0;have BL:=bF Ba.out 1;have BM:=bF Ba.out 2)|((with_reducible refine gC (f:=59) rfl ?_);refine goesL_ (some 7) rfl rfl Try.func59 (by kernel_rfl) rfl #[.agg #[.slice A0_0 l0_0.length c0_0,.slice A0_1 l0_1.length c0_1,.slice A0_2 l0_2.length c0_2]] rfl (by (try simp only [lM,lC,lN]);first|done|rfl|(simp only [lD,lT];rfl)) ?_;(with_reducible refine (impl_SigsOk.calls k _ _ l0_0 _ _ l0_1 _ _ l0_2 true _ ?side1 ?side2 ?side3 ?side4 ?side5 ?side6 A2.out).mono ?_);(case side1=>exact cL (cB HR0_0.out HB.out));(case side2=>exact HC0_0.out);(case side3=>exact cL (cB HR0_1.out HB.out));(case side4=>exact HC0_1.out);(case side5=>exact cL (cB HR0_2.out HB.out));(case side6=>exact HC0_2.out);rintro e w9 ⟨rfl,hb⟩;refine ⟨_,rfl,?_⟩;have n0_:=Am (bX Ba.out hb);have n1_:=Am (bX Bb.out hb);have n2_:=Am (bP (by repeat (first|(with_reducible first|exact HB.out|apply oA|apply pN|apply o1|refine bS ?_ Bh.out|refine bS ?_ Bi.out)|exact HB.out)) hb);clear Ba Bb HB;revert n0_ n1_ n2_;intro Ba Bb HB;(try clear hb);(try clear hb2);(try clear hk);(try clear hi);have Bv:=cz0 Ba.out;have Bw:=cz1 Ba.out;have Bx:=cz2 Ba.out;have By:=bF Ba.out 0;have Bz:=bF Ba.out 1;have BA:=bF Ba.out 2)|((with_reducible refine gC (f:=60) rfl ?_);refine goesL_ (some 11) rfl rfl Try.func60 (by kernel_rfl) rfl #[.agg #[.slice A0_0 l0_0.length c0_0,.slice A0_1 l0_1.length c0_1,.slice A0_2 l0_2.length c0_2]] rfl (by (try simp only [lM,lC,lN]);first|done|rfl|(simp only [lD,lT];rfl)) ?_;(with_reducible refine (impl_Sigs_clone.calls _ _ l0_0 _ _ l0_1 _ _ l0_2 t228 t231 t234 _ ?side1 ?side2 ?side3 ?side4 ?side5 ?side6 A4.out).mono ?_);(case side1=>exact cL (cB HR0_0.out HB.out));(case side2=>exact HC0_0.out);(case side3=>exact cL (cB HR0_1.out HB.out));(case side4=>exact HC0_1.out);(case side5=>exact cL (cB HR0_2.out HB.out));(case side6=>exact HC0_2.out);rintro e w11 ⟨v229,v232,v235,rfl,ho0,ho1,ho2,hb⟩;refine ⟨_,rfl,?_⟩;have n0_:=Am (rW ho0 (bZ (by repeat (first|(with_reducible first|exact HB.out|apply oA|apply pN|apply o1|refine bS ?_ Bh.out|refine bS ?_ Bi.out)|exact HB.out))));have n1_:=Am (rW ho1 (bZ (by repeat (first|(with_reducible first|exact HB.out|apply oA|apply pN|apply o1|refine bS ?_ Bh.out|refine bS ?_ Bi.out)|exact HB.out))));have n2_:=Am (rW ho2 (bZ (by repeat (first|(with_reducible first|exact HB.out|apply oA|apply pN|apply o1|refine bS ?_ Bh.out|refine bS ?_ Bi.out)|exact HB.out))));have n3_:=Am (bX Ba.out hb);have n4_:=Am (bX Bb.out hb);have n5_:=Am (bP (by repeat (first|(with_reducible first|exact HB.out|apply oA|apply pN|apply o1|refine bS ?_ Bh.out|refine bS ?_ Bi.out)|exact HB.out)) hb);clear Ba Bb HB;revert n0_ n1_ n2_ n3_ n4_ n5_;intro Br Bs Bt Ba Bb HB;(try clear hb);(try clear hb2);(try clear hk);(try clear hi);(try clear ho0);(try clear ho1);(try clear ho2))|((with_reducible refine gD (N:=3) rfl ?_);refine bI ?hg (N:=3) ?hd (cs:=#[.slice none 0 0,.slice none 0 0,.slice none 0 0]) (t:=27) ?hr ?_;(case hd=>rfl);(case hg=>rfl);(case hr=>first|(go_simp;done)|(go_simp;rfl));intro Bg hg w12 hbox hb;have n0_:=Am (rB (rL Br.out) hb);have n1_:=Am (rB (rL Bs.out) hb);have n2_:=Am (rB (rL Bt.out) hb);have n3_:=Am (bX Ba.out hb);have n4_:=Am (bX Bb.out hb);have n5_:=Am (bP (by repeat (first|(with_reducible first|exact HB.out|apply oA|apply pN|apply o1|refine bS ?_ Bh.out|refine bS ?_ Bi.out)|exact HB.out)) hb);have n6_:=Am (hbox);have n7_:=Am ((by rw [hg];exact (bZ (by repeat (first|(with_reducible first|exact HB.out|apply oA|apply pN|apply o1|refine bS ?_ Bh.out|refine bS ?_ Bi.out)|exact HB.out))):w.heap.size≤Bg));have n8_:=Am ((by rw [hg];exact (bZ (by repeat (first|(with_reducible first|exact HB.out|apply oA|apply pN|apply o1|refine bS ?_ Bh.out|refine bS ?_ Bi.out)|exact HB.out))):w.heap.size≤Bg));have n9_:=Am ((nL Ba.out hg));have n10_:=Am ((nG Ba.out hg));have n11_:=Am ((nL Bb.out hg));have n12_:=Am ((nG Bb.out hg));clear Br Bs Bt Ba Bb HB;revert n0_ n1_ n2_ n3_ n4_ n5_ n6_ n7_ n8_ n9_ n10_ n11_ n12_;intro Br Bs Bt Ba Bb HB Bd Dq Bu Bl Bp Bm Bq;clear hb hbox hg;obtain ⟨Ao13,co13,eo13⟩:=rC Br.out;subst eo13;have Dr:=Bp.out;have Ds:=Bl.out;have Dt:=Bq.out;have Du:=Bm.out;have BB:=cz0 Bd.out;have BC:=cz1 Bd.out;have BD:=cz2 Bd.out;have BE:=bF Bd.out 0;have BF:=bF Bd.out 1;have BG:=bF Bd.out 2;obtain ⟨Ao17,co17,eo17⟩:=rC Bs.out;subst eo17;obtain ⟨Ao18,co18,eo18⟩:=rC Bt.out;subst eo18))
 go_loopg [15] k (fun kq v15 w'=>∃ (x15_1:Int) (x238002_1:List Int) (u238002:Value),v15=.int .i64 x15_1∧Aside0 (impl_SigsRun.l0 kq (t234.length:Int) x15_1 t228 t231 x238002_1=some (r1,r2,r3))∧Aside0 (kq≤k)∧Aside0 (Kd.R Kd.bool 4 w' w.heap.size (fun k_=>some k_≠((.slice Ao17 t231.length co17):Value).ownBlock) (.slice Ao13 t228.length co13) t228)∧Aside0 (Kd.R Kd.bool 4 w' w.heap.size (fun k_=>some k_≠((.slice Ao13 t228.length co13):Value).ownBlock) (.slice Ao17 t231.length co17) t231)∧Aside0 (Kd.R (Kd.int .i64) 3 w' w.heap.size (fun _=>True) u238002 x238002_1)∧Aside0 (w'.heap[Be]?=some (.cells #[(.slice A0_0 l0_0.length c0_0),(.slice A0_1 l0_1.length c0_1),(.slice A0_2 l0_2.length c0_2)] 27 (0,0)))∧Aside0 (w'.heap[Bc]?=some (.cells #[(.slice none 0 0),(.slice none 0 0),(.slice none 0 0)] 27 (0,0)))∧Aside0 (w'.heap[Bg]?=some (.cells #[(.slice Ao13 t228.length co13),(.slice Ao17 t231.length co17),u238002] 27 (0,0)))∧Aside0 (u238002=.slice Ao18 t234.length co18)∧Aside0 (x238002_1.length=t234.length)∧Aside0 (Below w.heap.size w w'))
 case atStart=>exact ⟨(0),(t234),(.slice Ao18 t234.length co18),(by first|rfl|(simp;done)|(simp [*];done)),H',⟨nR _⟩,⟨by (with_reducible repeat (first|apply rA|apply rN|apply rD));exact rM (rF (p:=⟨Bg,2,none⟩) (rF (p:=⟨Bg,1,none⟩) (rF (p:=⟨Bg,0,none⟩) (rT Br.out Bd.out (by decide)) (fun _ hk=>hk.2) (.slice Ao13 t228.length co13)) (fun _ hk=>hk.2) (.slice Ao17 t231.length co17)) (fun _ hk=>hk.2) (.slice Ao18 t234.length co18)) (fun _ hk=>hk.1)⟩,⟨by (with_reducible repeat (first|apply rA|apply rN|apply rD));exact rM (rF (p:=⟨Bg,2,none⟩) (rF (p:=⟨Bg,1,none⟩) (rF (p:=⟨Bg,0,none⟩) (rT Bs.out Bd.out (by decide)) (fun _ hk=>hk.2) (.slice Ao13 t228.length co13)) (fun _ hk=>hk.2) (.slice Ao17 t231.length co17)) (fun _ hk=>hk.2) (.slice Ao18 t234.length co18)) (fun _ hk=>hk.1)⟩,⟨by (with_reducible repeat (first|apply rA|apply rN|apply rD));exact rM (rF (p:=⟨Bg,2,none⟩) (rF (p:=⟨Bg,1,none⟩) (rF (p:=⟨Bg,0,none⟩) (rT Bt.out Bd.out (by decide)) (fun _ hk=>hk.2) (.slice Ao13 t228.length co13)) (fun _ hk=>hk.2) (.slice Ao17 t231.length co17)) (fun _ hk=>hk.2) (.slice Ao18 t234.length co18)) (fun _ hk=>trivial)⟩,⟨by (with_reducible repeat (first|refine bN ?_ _|refine bD ?_|refine bA ?_ _|refine bE ?_ Bl.out _));exact Ba.out⟩,⟨by (with_reducible repeat (first|refine bN ?_ _|refine bD ?_|refine bA ?_ _|refine bE ?_ Bm.out _));exact Bb.out⟩,⟨by (with_reducible repeat (first|refine bN ?_ _|refine bD ?_|refine bA ?_ _));refine bT (cs:=#[.slice Ao13 t228.length co13,.slice Ao17 t231.length co17,.slice none 0 0]) ?_ 2 _ rfl;(with_reducible repeat (first|refine bN ?_ _|refine bD ?_|refine bA ?_ _));refine bT (cs:=#[.slice Ao13 t228.length co13,.slice none 0 0,.slice none 0 0]) ?_ 1 _ rfl;(with_reducible repeat (first|refine bN ?_ _|refine bD ?_|refine bA ?_ _));refine bT (cs:=#[.slice none 0 0,.slice none 0 0,.slice none 0 0]) ?_ 0 _ rfl;(with_reducible repeat (first|refine bN ?_ _|refine bD ?_|refine bA ?_ _));exact Bd.out⟩,⟨rfl⟩,⟨rfl⟩,⟨by repeat (first|(with_reducible first|exact HB.out|apply oA|apply pN|apply o1|refine bS ?_ Bh.out|refine bS ?_ Bi.out|refine bS ?_ Bu.out)|exact HB.out)⟩⟩
 case round =>
  clear H'
  try clear c1
  try clear c2
  try clear p2
  try clear c3
  try clear c5
  try clear c6
  try clear c7
  try clear c14
  try clear c15
  try clear Bv
  try clear Bw
  try clear Bx
  try clear BB
  try clear BC
  try clear BD
  try clear BH
  try clear BI
  try clear BJ
  try clear By
  try clear Bz
  try clear BA
  try clear BE
  try clear BF
  try clear BG
  try clear BK
  try clear BL
  try clear BM
  obtain ⟨x15_1,x238002_1,u238002,rfl,HA,HK1,Bj,Bk,Bf,Ba,Bb,Bd,EU_,EL_,HB⟩:=hrel
  cases gk with
 |zero=>exact absurd HA.out (by simp [impl_SigsRun.l0])
 |succ k1 =>
   have H:=HA.out
   clear HA
   simp only [impl_SigsRun.l0] at H
   by_cases c19:x15_1<(t234.length:Int)
   rotate_left
   ·rw [if_neg c19] at H
    have c19b0:decide (x15_1<(t234.length:Int))=false:=dF c19
    clear c19
    simp only [Option.some.injEq,Prod.mk.injEq] at H
    obtain ⟨rfl,rfl,rfl⟩:=H
    have DD:=Bp.out
    have DE:=Bl.out
    have DF:=Bq.out
    have DG:=Bm.out
    have B2:=cz0 Bd.out
    have B3:=cz1 Bd.out
    have B4:=cz2 Bd.out
    have B5:=bF Bd.out 0
    have B6:=bF Bd.out 1
    have B7:=bF Bd.out 2
    have DH:=Bo.out
    have DI:=Bn.out
    have B8:=cz0 Bb.out
    have B9:=cz1 Bb.out
    have Da:=cz2 Bb.out
    have Db:=bF Bb.out 0
    have Dc:=bF Bb.out 1
    have Dd:=bF Bb.out 2
    obtain ⟨Ao39,co39,eo39⟩:=rC Bf.out
    subst eo39
    go_wp2
    refine bodyPost_ret (results_cell_row rfl _ _ Bc 27 #[.slice Ao13 t228.length co13,.slice Ao17 t231.length co17,.slice Ao39 x238002_1.length co39] (0,0) _ rfl (by (with_reducible repeat (first|refine bN ?_ _|refine bD ?_|refine bA ?_ _));refine bT (cs:=#[.slice Ao13 t228.length co13,.slice Ao17 t231.length co17,.slice none 0 0]) ?_ 2 _ rfl;(with_reducible repeat (first|refine bN ?_ _|refine bD ?_|refine bA ?_ _));refine bT (cs:=#[.slice Ao13 t228.length co13,.slice none 0 0,.slice none 0 0]) ?_ 1 _ rfl;(with_reducible repeat (first|refine bN ?_ _|refine bD ?_|refine bA ?_ _));refine bT (cs:=#[.slice none 0 0,.slice none 0 0,.slice none 0 0]) ?_ 0 _ rfl;(with_reducible repeat (first|refine bN ?_ _|refine bD ?_|refine bA ?_ _));exact Bb.out) Try.underlying27 rfl (by kernel_rfl)) rfl ?_
    exact ⟨_,_,_,by first|rfl|(simp [errW_none,errW_some] <;> rfl)|(simp [*,errW_none,errW_some] <;> rfl),by (with_reducible repeat (first|apply rA|apply rN|apply rD));exact rM (rF (p:=⟨Bc,2,none⟩) (rF (p:=⟨Bc,1,none⟩) (rF (p:=⟨Bc,0,none⟩) (rT Bj.out Bb.out (by decide)) (fun _ hk=>hk.2) (.slice Ao13 t228.length co13)) (fun _ hk=>hk.2) (.slice Ao17 t231.length co17)) (fun _ hk=>hk.2) (.slice Ao39 x238002_1.length co39)) (fun _ hk=>hk.1),by (with_reducible repeat (first|apply rA|apply rN|apply rD));exact rM (rF (p:=⟨Bc,2,none⟩) (rF (p:=⟨Bc,1,none⟩) (rF (p:=⟨Bc,0,none⟩) (rT Bk.out Bb.out (by decide)) (fun _ hk=>hk.2) (.slice Ao13 t228.length co13)) (fun _ hk=>hk.2) (.slice Ao17 t231.length co17)) (fun _ hk=>hk.2) (.slice Ao39 x238002_1.length co39)) (fun _ hk=>hk.1),by (with_reducible repeat (first|apply rA|apply rN|apply rD));exact rM (rF (p:=⟨Bc,2,none⟩) (rF (p:=⟨Bc,1,none⟩) (rF (p:=⟨Bc,0,none⟩) (rT Bf.out Bb.out (by decide)) (fun _ hk=>hk.2) (.slice Ao13 t228.length co13)) (fun _ hk=>hk.2) (.slice Ao17 t231.length co17)) (fun _ hk=>hk.2) (.slice Ao39 x238002_1.length co39)) (fun _ hk=>trivial),by repeat (first|(with_reducible first|exact HB.out|apply oA|apply pN|apply o1|refine bS ?_ Bh.out|refine bS ?_ Bi.out|refine bS ?_ Bu.out)|exact HB.out)⟩
   rw [if_pos c19] at H
   have c19b0:decide (x15_1<(t234.length:Int))=true:=dT c19
   clear c19
   by_cases c20:0≤x15_1
   rotate_left
   ·rw [if_neg c20] at H
    exact absurd H (by simp)
   rw [if_pos c20] at H
   have c20b0:decide (0≤x15_1)=true:=dT c20
   clear c20
   by_cases c21:x15_1<(x238002_1.length:Int)
   rotate_left
   ·rw [if_neg c21] at H
    exact absurd H (by simp)
   rw [if_pos c21] at H
   have c21b0:decide (x15_1<(x238002_1.length:Int))=true:=dT c21
   clear c21
   by_cases c22:(rd x238002_1 x15_1)=4
   rotate_left
   ·rw [if_neg c22] at H
    have c22b0:((rd x238002_1 x15_1) == 4)=false:=beq_eq_false_iff_ne.mpr c22
    have c22b1:((rd x238002_1 x15_1) != 4)=true:=bne_iff_ne.mpr c22
    have H':=Am H
    clear H
    have Dz:=Bp.out
    have DA:=Bl.out
    have DB:=Bq.out
    have DC:=Bm.out
    have BW:=cz0 Bd.out
    have BX:=cz1 Bd.out
    have BY:=cz2 Bd.out
    have BZ:=bF Bd.out 0
    have B0:=bF Bd.out 1
    have B1:=bF Bd.out 2
    obtain ⟨Ao33,co33,eo33⟩:=rC Bf.out
    subst eo33
    have ez_:=EU_.out
    injection ez_ with ea_ en_ ec_
    subst ea_
    subst ec_
    clear en_
    have p238:0≤(x15_1:Int):=oE (by first|(with_reducible assumption)|assumption)
    have q238:x15_1<(x238002_1.length:Int):=oE (by first|(with_reducible assumption)|assumption)
    obtain ⟨ad238,e238,hx238_0⟩:=Kd.at_int (rR Bf.out).2.2 x15_1 p238 q238
    cases e238
    replace p238:=eq_true p238
    replace q238:=eq_true q238
    have qz_:=q238
    rw [EL_.out] at qz_
    go_wp2
    go_roundg k1
    case measure=>have:=HK1.out;omega
    case rel=>exact ⟨(wrap64 (x15_1 + 1)),(x238002_1),(.slice (some ad238) x238002_1.length co33),(by first|rfl|(simp;done)|(simp [*];done)),H',⟨by have:=HK1.out;omega⟩,⟨by (with_reducible repeat (first|apply rA|apply rN|apply rD));exact Bj.out⟩,⟨by (with_reducible repeat (first|apply rA|apply rN|apply rD));exact Bk.out⟩,⟨by (with_reducible repeat (first|apply rA|apply rN|apply rD));exact Bf.out⟩,⟨by (with_reducible repeat (first|refine bN ?_ _|refine bD ?_|refine bA ?_ _));exact Ba.out⟩,⟨by (with_reducible repeat (first|refine bN ?_ _|refine bD ?_|refine bA ?_ _));exact Bb.out⟩,⟨by (with_reducible repeat (first|refine bN ?_ _|refine bD ?_|refine bA ?_ _));exact Bd.out⟩,⟨by first|rfl|rw [EL_.out]⟩,⟨by first|exact EL_.out|(rw [Nx238002_1.out,List.length_set];exact EL_.out)⟩,⟨by repeat (first|(with_reducible first|exact HB.out|apply oA|apply pN|apply o1|refine bS ?_ Bh.out|refine bS ?_ Bi.out|refine bS ?_ Bu.out)|exact HB.out)⟩⟩
   rw [if_pos c22] at H
   have c22b0:((rd x238002_1 x15_1) == 4)=true:=beq_iff_eq.mpr c22
   have c22b1:((rd x238002_1 x15_1) != 4)=false:=bne_eq_false_iff_eq.mpr c22
   clear c22
   obtain ⟨y239,hy239⟩:∃ y_:List Int,y_=(x238002_1.set (x15_1:Int).toNat 0):=⟨_,rfl⟩
   replace H:(impl_SigsRun.l0 k1 (t234.length:Int) (wrap64 (x15_1 + 1)) t228 t231 y239)=some (r1,r2,r3):=by first|(rw [hy239];with_reducible exact H)|(have H2_:=(Option.bind_some _ _).symm.trans H;rw [hy239];with_reducible exact H2_)|(have H2_:=(Option.bind_some _ _).symm.trans H;with_reducible exact H2_)|with_reducible exact H|(rw [hy239];exact H)|exact H
   have Ny239:=Am hy239
   clear hy239
   have H':=Am H
   clear H
   have Dv:=Bp.out
   have Dw:=Bl.out
   have Dx:=Bq.out
   have Dy:=Bm.out
   have BQ:=cz0 Bd.out
   have BR:=cz1 Bd.out
   have BS:=cz2 Bd.out
   have BT:=bF Bd.out 0
   have BU:=bF Bd.out 1
   have BV:=bF Bd.out 2
   obtain ⟨Ao27,co27,eo27⟩:=rC Bf.out
   subst eo27
   have ez_:=EU_.out
   injection ez_ with ea_ en_ ec_
   subst ea_
   subst ec_
   clear en_
   have p238:0≤(x15_1:Int):=oE (by first|(with_reducible assumption)|assumption)
   have q238:x15_1<(x238002_1.length:Int):=oE (by first|(with_reducible assumption)|assumption)
   obtain ⟨ad238,e238,hx238_0⟩:=Kd.at_int (rR Bf.out).2.2 x15_1 p238 q238
   cases e238
   replace p238:=eq_true p238
   replace q238:=eq_true q238
   have qz_:=q238
   rw [EL_.out] at qz_
   have p23:0≤(x15_1:Int):=oE (by first|(with_reducible assumption)|assumption)
   have q23:(x15_1:Int)<((x238002_1.length:Int):Int):=oE (by first|(with_reducible assumption)|assumption)
   obtain ⟨go23,co23,eo23,BN,gl23,cl23,HG23⟩:=Kd.R_form Bf.out (by omega)
   (first|cases eo23|(injection eo23 with ea_ en_ ec_;(first|subst ea_|(injection ea_ with ea_;subst ea_));subst ec_;clear en_))
   have GB23:=Am BN
   have GG23:=Am HG23
   clear BN gl23 HG23
   (try simp only [aP] at hx238_0)
   obtain ⟨hx23_0,hf23_0⟩:=Kd.R_celln 0 Bf.out (x15_1:Int) p23 q23
   replace p23:=eq_true p23
   replace q23:=eq_true q23
   have HP28:=Kd.R_putg Bf.out (x15_1:Int) 0
   go_wp2_with (first|((with_reducible refine gS (t:=3) (p:=25) rfl ?_);refine sE (t:=3) (p:=25) (v:=?vo_w29) (w1:=(wr.setCell ⟨go23,(x15_1:Int).toNat,none⟩ (.int .i64 0))) ?hg ?ho ?hn ?hr ?_;(case ho=>rfl);(case hg=>rfl);(case hn=>rfl);(case hr=>first|(go_simp;done)|(go_simp;rfl));intro w29 hw;have hg:wr.grownBy w29 (some go23):=(by rw [hw];exact HP28.2);have hp_:Kd.R (Kd.int .i64) 3 w29 w.heap.size (fun _=>True) (.slice (some ⟨go23,0,none⟩) x238002_1.length co27) y239:=(by rw [hw,Ny239.out];exact HP28.1);clear HP28;have n0_:=Am (rO (v:=(.slice (some ⟨go23,0,none⟩) x238002_1.length co27)) (rL Bj.out) (rY Bf.out) (by decide) hg);have n1_:=Am (rO (v:=(.slice (some ⟨go23,0,none⟩) x238002_1.length co27)) (rL Bk.out) (rY Bf.out) (by decide) hg);have n2_:=Am (hp_);have n3_:=Am (bG (g:=Be) (o:=.cells #[.slice A0_0 l0_0.length c0_0,.slice A0_1 l0_1.length c0_1,.slice A0_2 l0_2.length c0_2] 27 (0,0)) (bL Ba.out) hg (rE Bf.out Ba.out (by decide)));have n4_:=Am (bG (g:=Bc) (o:=.cells #[.slice none 0 0,.slice none 0 0,.slice none 0 0] 27 (0,0)) (bL Bb.out) hg (rE Bf.out Bb.out (by decide)));have n5_:=Am (bG (g:=Bg) (o:=.cells #[.slice Ao13 t228.length co13,.slice Ao17 t231.length co17,.slice (some ⟨go23,0,none⟩) x238002_1.length co27] 27 (0,0)) (bL Bd.out) hg (rE Bf.out Bd.out (by decide)));have n6_:=Am ((by rw [hw];exact bS (HB.out) GB23.out:Below w.heap.size w w29));clear Bj Bk Bf Ba Bb Bd HB;revert n0_ n1_ n2_ n3_ n4_ n5_ n6_;intro Bj Bk Bf Ba Bb Bd HB;clear hg hw hp_))
   go_roundg k1
   case measure=>have:=HK1.out;omega
   case rel=>exact ⟨(wrap64 (x15_1 + 1)),(y239),(.slice (some ⟨go23,0,none⟩) x238002_1.length co27),(by first|rfl|(simp;done)|(simp [*];done)),H',⟨by have:=HK1.out;omega⟩,⟨by (with_reducible repeat (first|apply rA|apply rN|apply rD));exact Bj.out⟩,⟨by (with_reducible repeat (first|apply rA|apply rN|apply rD));exact Bk.out⟩,⟨by (with_reducible repeat (first|apply rA|apply rN|apply rD));exact Bf.out⟩,⟨by (with_reducible repeat (first|refine bN ?_ _|refine bD ?_|refine bA ?_ _));exact Ba.out⟩,⟨by (with_reducible repeat (first|refine bN ?_ _|refine bD ?_|refine bA ?_ _));exact Bb.out⟩,⟨by (with_reducible repeat (first|refine bN ?_ _|refine bD ?_|refine bA ?_ _));exact Bd.out⟩,⟨by first|rfl|rw [EL_.out]⟩,⟨by first|exact EL_.out|(rw [Ny239.out,List.length_set];exact EL_.out)⟩,⟨by repeat (first|(with_reducible first|exact HB.out|apply oA|apply pN|apply o1|refine bS ?_ Bh.out|refine bS ?_ Bi.out|refine bS ?_ Bu.out)|exact HB.out)⟩⟩
end Go.Proofs.Ytehekikjadjdaaa.PFnExactSigsRun
