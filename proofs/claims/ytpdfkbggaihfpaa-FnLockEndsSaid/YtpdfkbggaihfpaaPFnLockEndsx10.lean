/- Proved here, without a condition beyond those that each theorem states: what the Go functions named below do is what the plain functions of the same names say. Written by xprint.py, a program of this session. -/
import Derived.Test.YtpdfkbggaihfpaaPFnLockEndsx0
import Derived.Test.YtpdfkbggaihfpaaPFnLockEndsx3
import Derived.Test.YtpdfkbggaihfpaaPFnLockEndsx7
import Derived.Test.YtpdfkbggaihfpaaPFnLockEndsx8
import Derived.Test.YtpdfkbggaihfpaaPFnLockEndsx9
namespace Go.Proofs.Ytpdfkbggaihfpaa.PFnLockEnds
open Go.RowKit Go.Proofs.YtpdfkbggaihfpaaW.PrintWords Go.Proofs.YtpdfkbggaihfpaaW.PrintLast Go.Proofs.YtpdfkbggaihfpaaW.PrintMore
attribute [local go_sem] max2_int min2_int max_two min_two max_three min_three max_four min_four   -- for this text's walks alone
set_option linter.unusedVariables false
set_option linter.unusedSimpArgs false

attribute [local go_sem ↓] isSome_setCell_
/-! ### impl_LockRun: function 37 -/
def impl_LockRun.l0 : Nat → Int → List Int → Int → Int → Int → List (S57) → List Int → Option (Int × (List (S57)) × List Int × Int)
|0, _, _, _, _, _, _, _ => none
|k + 1, x7, x16, x17, x18, x232000, x232001, x232002 => if x18 < x17 then (if 0 ≤ x18 then (if x18 < (x16.length : Int) then ((impl_in.f (rd x16 x18) 0 (wrap64 ((x232001.length : Int) - 1))).bind fun t233 => (if t233 = true then ((impl_Lock_can.f x232000 x232001 x232002 (rd x16 x18)).bind fun t234 => (if t234 = true then ((impl_Lock_step.f x232000 x232001 x232002 (rd x16 x18)).bind fun bt235 => (impl_LockRun.l0 k (wrap64 (x7 + 1)) x16 x17 (wrap64 (x18 + 1)) bt235.1 bt235.2.1 bt235.2.2)) else (impl_LockRun.l0 k x7 x16 x17 (wrap64 (x18 + 1)) x232000 x232001 x232002))) else (impl_LockRun.l0 k x7 x16 x17 (wrap64 (x18 + 1)) x232000 x232001 x232002))) else (none)) else (none)) else (some (x232000, x232001, x232002, x7))
def impl_LockRun.f (k : Nat) (a0_0 : Int) (l0_1 : List (S57)) (l0_2 : List Int) (l1 : List Int) : Option (Int × (List (S57)) × List Int × Int) := (impl_LockOk.f k a0_0 l0_1 l0_2).bind fun t223 => (if t223 = true then ((impl_Lock_clone.f a0_0 l0_1 l0_2).bind fun bt224 => (impl_LockRun.l0 k 0 l1 (l1.length : Int) 0 bt224.1 bt224.2.1 bt224.2.2)) else (some (0, ([] : List (S57)), ([] : List Int), (-1))))
theorem impl_LockRun.mono_l : ∀ k, (∀ y0 y1 y2 y3 y4 y5 y6, LeO (impl_LockRun.l0 k y0 y1 y2 y3 y4 y5 y6) (impl_LockRun.l0 (k + 1) y0 y1 y2 y3 y4 y5 y6))
|0 => fun _ _ _ _ _ _ _ r h => by simp [impl_LockRun.l0] at h
|k + 1 => by
  have ih0 := impl_LockRun.mono_l k
  ·intro y0 y1 y2 y3 y4 y5 y6
   unfold impl_LockRun.l0
   repeat' first
  |(with_reducible exact ih0 _ _ _ _ _ _ _)
  |(with_reducible exact impl_LockOk.mono _ _ _ _)
  |(with_reducible exact LeO.refl _)
  |(with_reducible exact LeO.none _)
  |(with_reducible refine LeO.ite ?_ ?_)
  |(with_reducible refine LeO.bind ?_ (fun _ => ?_))
  |exact ih0 _ _ _ _ _ _ _
  |exact impl_LockOk.mono _ _ _ _
  |exact LeO.none _
  |refine LeO.ite ?_ ?_
  |refine LeO.bind ?_ (fun _ => ?_)
theorem impl_LockRun.mono : ∀ a0 a1 a2 a3 k, LeO (impl_LockRun.f k a0 a1 a2 a3) (impl_LockRun.f (k + 1) a0 a1 a2 a3) := by
 intro a0 a1 a2 a3 k
 have ih0 := impl_LockRun.mono_l k
 unfold impl_LockRun.f
 repeat' first
  |(with_reducible exact ih0 _ _ _ _ _ _ _)
  |(with_reducible exact impl_LockOk.mono _ _ _ _)
  |(with_reducible exact LeO.refl _)
  |(with_reducible exact LeO.none _)
  |(with_reducible refine LeO.ite ?_ ?_)
  |(with_reducible refine LeO.bind ?_ (fun _ => ?_))
  |exact ih0 _ _ _ _ _ _ _
  |exact impl_LockOk.mono _ _ _ _
  |exact LeO.none _
  |refine LeO.ite ?_ ?_
  |refine LeO.bind ?_ (fun _ => ?_)
set_option maxHeartbeats 2000000 in
set_option maxRecDepth 100000 in
theorem impl_LockRun.calls (k:Nat) (a0_0:Int) (A0_1:Option Addr) (c0_1:Nat) (l0_1:List (S57)) (A0_2:Option Addr) (c0_2:Nat) (l0_2:List Int) (A1:Option Addr) (c1:Nat) (l1:List Int) (r1:Int) (r2:List (S57)) (r3:List Int) (r4:Int) (w:World) (hr0_1:Kd.C k57 w A0_1 l0_1.length l0_1) (hc0_1:l0_1.length≤c0_1) (hr0_2:Kd.C (Kd.int .i64) w A0_2 l0_2.length l0_2) (hc0_2:l0_2.length≤c0_2) (hr1:Kd.C (Kd.int .i64) w A1 l1.length l1) (hc1:l1.length≤c1) (h:impl_LockRun.f k a0_0 l0_1 l0_2 l1=some (r1,r2,r3,r4)) :
  Calls Try.prog 37 #[.agg #[.int .i64 a0_0,.slice A0_1 l0_1.length c0_1,.slice A0_2 l0_2.length c0_2],.slice A1 l1.length c1] w fun e w'=>∃ v1_ v2_:Value,e=.returned (.tuple #[.agg #[.int .i64 r1,v1_,v2_],.int .i64 r4])∧Kd.R k57 57 w' w.heap.size (fun _=>True) v1_ r2∧Kd.Q (Kd.int .i64) 3 w' w.heap.size (fun _=>True) v2_ r3∧Below w.heap.size w w':=by
 have hu51:=Try.underlying51
 have HR0_1:=Am hr0_1
 have HC0_1:=Am hc0_1
 clear hr0_1 hc0_1
 have HR0_2:=Am hr0_2
 have HC0_2:=Am hc0_2
 clear hr0_2 hc0_2
 have HR1:=Am hr1
 have HC1:=Am hc1
 clear hr1 hc1
 have HB:=Am (bJ w.heap.size w)
 have H:((impl_LockOk.f k a0_0 l0_1 l0_2).bind fun t223=>(if t223=true then ((impl_Lock_clone.f a0_0 l0_1 l0_2).bind fun bt224=>(impl_LockRun.l0 k 0 l1 (l1.length:Int) 0 bt224.1 bt224.2.1 bt224.2.2)) else (some (0,([]:List (S57)),([]:List Int),(-1)))))=some (r1,r2,r3,r4):=h
 clear h
 replace H:=oC H
 obtain ⟨t223,A30,H⟩:=H
 replace H:(if t223=true then ((impl_Lock_clone.f a0_0 l0_1 l0_2).bind fun bt224=>(impl_LockRun.l0 k 0 l1 (l1.length:Int) 0 bt224.1 bt224.2.1 bt224.2.2)) else (some (0,([]:List (S57)),([]:List Int),(-1))))=some (r1,r2,r3,r4):=H
 have A3:=Am A30
 clear A30
 by_cases c4:t223=true
 rotate_left
 ·replace c4:=Bool.eq_false_iff.mpr c4
  subst c4
  have H1:(some (0,([]:List (S57)),([]:List Int),(-1)))=some (r1,r2,r3,r4):=by rw [if_neg (show ¬ (false=true) by decide)] at H;exact H
  clear H
  have H:=H1
  clear H1
  simp only [Option.some.injEq,Prod.mk.injEq] at H
  obtain ⟨rfl,rfl,rfl,rfl⟩:=H
  go_enter Try.func37,Try.ntmps37
  go_wp2_with (first|((with_reducible refine gD (N:=2) rfl ?_);refine bI ?hg (N:=2) ?hd (cs:=#[.int .i64 a0_0,.slice A0_1 l0_1.length c0_1,.slice A0_2 l0_2.length c0_2]) (t:=51) ?hr ?_;(case hd=>rfl);(case hg=>rfl);(case hr=>first|(go_simp;done)|(go_simp;rfl));intro Bg hg w56 hbox hb;have n0_:=Am (bP (by repeat (first|(with_reducible first|exact HB.out|apply oA|apply pN|apply o1)|exact HB.out)) hb);have n1_:=Am (hbox);have n2_:=Am ((by rw [hg];exact (bZ (by repeat (first|(with_reducible first|exact HB.out|apply oA|apply pN|apply o1)|exact HB.out))):w.heap.size≤Bg));have n3_:=Am ((by rw [hg];exact (bZ (by repeat (first|(with_reducible first|exact HB.out|apply oA|apply pN|apply o1)|exact HB.out))):w.heap.size≤Bg));clear HB;revert n0_ n1_ n2_ n3_;intro HB Bb BN Bi;clear hb hbox hg)|((with_reducible refine gD (N:=4) rfl ?_);refine bI ?hg (N:=4) ?hd (cs:=#[.int .i64 0,.slice none 0 0,.slice none 0 0]) (t:=51) ?hr ?_;(case hd=>rfl);(case hg=>rfl);(case hr=>first|(go_simp;done)|(go_simp;rfl));intro Bh hg w57 hbox hb;have n0_:=Am (bX Bb.out hb);have n1_:=Am (bP (by repeat (first|(with_reducible first|exact HB.out|apply oA|apply pN|apply o1|refine bS ?_ Bi.out)|exact HB.out)) hb);have n2_:=Am (hbox);have n3_:=Am ((by rw [hg];exact (bZ (by repeat (first|(with_reducible first|exact HB.out|apply oA|apply pN|apply o1|refine bS ?_ Bi.out)|exact HB.out))):w.heap.size≤Bh));have n4_:=Am ((by rw [hg];exact (bZ (by repeat (first|(with_reducible first|exact HB.out|apply oA|apply pN|apply o1|refine bS ?_ Bi.out)|exact HB.out))):w.heap.size≤Bh));have n5_:=Am ((nL Bb.out hg));have n6_:=Am ((nG Bb.out hg));clear Bb HB;revert n0_ n1_ n2_ n3_ n4_ n5_ n6_;intro Bb HB Bc BO Bj Bp Bq;clear hb hbox hg;have Fa:=Bp.out;have Fb:=Bq.out;have DB:=cz0 Bb.out;have DC:=cz1 Bb.out;have DD:=cz2 Bb.out;have DE:=bF Bb.out 0;have DF:=bF Bb.out 1;have DG:=bF Bb.out 2)|((with_reducible refine gC (f:=60) rfl ?_);refine goesL_ (some 11) rfl rfl Try.func60 (by kernel_rfl) rfl #[.agg #[.int .i64 a0_0,.slice A0_1 l0_1.length c0_1,.slice A0_2 l0_2.length c0_2]] rfl (by (try simp only [lM,lC,lN]);first|done|rfl|(simp only [lD,lT];rfl)) ?_;(with_reducible refine (impl_LockOk.calls k a0_0 _ _ l0_1 _ _ l0_2 false _ ?side1 ?side2 ?side3 ?side4 A3.out).mono ?_);(case side1=>exact cL (cB HR0_1.out HB.out));(case side2=>exact HC0_1.out);(case side3=>exact cL (cB HR0_2.out HB.out));(case side4=>exact HC0_2.out);rintro e w60 ⟨rfl,hb⟩;refine ⟨_,rfl,?_⟩;have n0_:=Am (bX Bb.out hb);have n1_:=Am (bX Bc.out hb);have n2_:=Am (bP (by repeat (first|(with_reducible first|exact HB.out|apply oA|apply pN|apply o1|refine bS ?_ Bi.out|refine bS ?_ Bj.out)|exact HB.out)) hb);clear Bb Bc HB;revert n0_ n1_ n2_;intro Bb Bc HB;(try clear hb);(try clear hb2);(try clear hk);(try clear hi);have DH:=cz0 Bc.out;have DI:=cz1 Bc.out;have DJ:=cz2 Bc.out;have DK:=bF Bc.out 0;have DL:=bF Bc.out 1;have DM:=bF Bc.out 2))
  refine bodyPost_ret (results_ct rfl _ _ Bh 51 #[.int .i64 0,.slice none 0 0,.slice none 0 0] (0,0) _ rfl (by (with_reducible repeat (first|refine bN ?_ _|refine bD ?_|refine bA ?_ _));refine bT (cs:=#[.int .i64 0,.slice none 0 0,.slice none 0 0]) ?_ 2 _ rfl;(with_reducible repeat (first|refine bN ?_ _|refine bD ?_|refine bA ?_ _));refine bT (cs:=#[.int .i64 0,.slice none 0 0,.slice none 0 0]) ?_ 1 _ rfl;(with_reducible repeat (first|refine bN ?_ _|refine bD ?_|refine bA ?_ _));refine bT (cs:=#[.int .i64 0,.slice none 0 0,.slice none 0 0]) ?_ 0 _ rfl;(with_reducible repeat (first|refine bN ?_ _|refine bD ?_|refine bA ?_ _));exact Bc.out) Try.underlying51 rfl (by kernel_rfl)) rfl ?_
  exact ⟨_,_,by first|rfl|(simp [errW_none,errW_some] <;> rfl)|(simp [*,errW_none,errW_some] <;> rfl),by first|exact Kd.R_nil _ _ _ _ _|exact Kd.N_nil _ _ _ _ _|exact Kd.V_nil _ _ _ _ _|exact Kd.Q_nil _ _ _ _ _|exact Kd.S_nil _ _ _ _ _,Kd.Q_of_R (by first|exact Kd.R_nil _ _ _ _ _|exact Kd.N_nil _ _ _ _ _|exact Kd.V_nil _ _ _ _ _|exact Kd.Q_nil _ _ _ _ _|exact Kd.S_nil _ _ _ _ _),by repeat (first|(with_reducible first|exact HB.out|apply oA|apply pN|apply o1|refine bS ?_ Bi.out|refine bS ?_ Bj.out)|exact HB.out)⟩

 subst c4
 have H1:((impl_Lock_clone.f a0_0 l0_1 l0_2).bind fun bt224=>(impl_LockRun.l0 k 0 l1 (l1.length:Int) 0 bt224.1 bt224.2.1 bt224.2.2))=some (r1,r2,r3,r4):=by rw [if_pos rfl] at H;exact H
 clear H
 have H:=H1
 clear H1
 replace H:=oC H
 obtain ⟨⟨t224,t225,t228⟩,A50,H⟩:=H
 replace H:(impl_LockRun.l0 k 0 l1 (l1.length:Int) 0 t224 t225 t228)=some (r1,r2,r3,r4):=H
 have A5:=Am A50
 clear A50
 have H':=Am H
 clear H
 go_enter Try.func37,Try.ntmps37
 go_wp2_with (first|((with_reducible refine gD (N:=2) rfl ?_);refine bI ?hg (N:=2) ?hd (cs:=#[.int .i64 a0_0,.slice A0_1 l0_1.length c0_1,.slice A0_2 l0_2.length c0_2]) (t:=51) ?hr ?_;(case hd=>rfl);(case hg=>rfl);(case hr=>first|(go_simp;done)|(go_simp;rfl));intro Bg hg w6 hbox hb;have n0_:=Am (bP (by repeat (first|(with_reducible first|exact HB.out|apply oA|apply pN|apply o1)|exact HB.out)) hb);have n1_:=Am (hbox);have n2_:=Am ((by rw [hg];exact (bZ (by repeat (first|(with_reducible first|exact HB.out|apply oA|apply pN|apply o1)|exact HB.out))):w.heap.size≤Bg));have n3_:=Am ((by rw [hg];exact (bZ (by repeat (first|(with_reducible first|exact HB.out|apply oA|apply pN|apply o1)|exact HB.out))):w.heap.size≤Bg));clear HB;revert n0_ n1_ n2_ n3_;intro HB Bb BN Bi;clear hb hbox hg)|((with_reducible refine gD (N:=4) rfl ?_);refine bI ?hg (N:=4) ?hd (cs:=#[.int .i64 0,.slice none 0 0,.slice none 0 0]) (t:=51) ?hr ?_;(case hd=>rfl);(case hg=>rfl);(case hr=>first|(go_simp;done)|(go_simp;rfl));intro Bh hg w7 hbox hb;have n0_:=Am (bX Bb.out hb);have n1_:=Am (bP (by repeat (first|(with_reducible first|exact HB.out|apply oA|apply pN|apply o1|refine bS ?_ Bi.out)|exact HB.out)) hb);have n2_:=Am (hbox);have n3_:=Am ((by rw [hg];exact (bZ (by repeat (first|(with_reducible first|exact HB.out|apply oA|apply pN|apply o1|refine bS ?_ Bi.out)|exact HB.out))):w.heap.size≤Bh));have n4_:=Am ((by rw [hg];exact (bZ (by repeat (first|(with_reducible first|exact HB.out|apply oA|apply pN|apply o1|refine bS ?_ Bi.out)|exact HB.out))):w.heap.size≤Bh));have n5_:=Am ((nL Bb.out hg));have n6_:=Am ((nG Bb.out hg));clear Bb HB;revert n0_ n1_ n2_ n3_ n4_ n5_ n6_;intro Bb HB Bc BO Bj Bp Bq;clear hb hbox hg;have Fc:=Bp.out;have Fd:=Bq.out;have BH:=cz0 Bb.out;have BI:=cz1 Bb.out;have BJ:=cz2 Bb.out;have BK:=bF Bb.out 0;have BL:=bF Bb.out 1;have BM:=bF Bb.out 2)|((with_reducible refine gC (f:=60) rfl ?_);refine goesL_ (some 11) rfl rfl Try.func60 (by kernel_rfl) rfl #[.agg #[.int .i64 a0_0,.slice A0_1 l0_1.length c0_1,.slice A0_2 l0_2.length c0_2]] rfl (by (try simp only [lM,lC,lN]);first|done|rfl|(simp only [lD,lT];rfl)) ?_;(with_reducible refine (impl_LockOk.calls k a0_0 _ _ l0_1 _ _ l0_2 true _ ?side1 ?side2 ?side3 ?side4 A3.out).mono ?_);(case side1=>exact cL (cB HR0_1.out HB.out));(case side2=>exact HC0_1.out);(case side3=>exact cL (cB HR0_2.out HB.out));(case side4=>exact HC0_2.out);rintro e w10 ⟨rfl,hb⟩;refine ⟨_,rfl,?_⟩;have n0_:=Am (bX Bb.out hb);have n1_:=Am (bX Bc.out hb);have n2_:=Am (bP (by repeat (first|(with_reducible first|exact HB.out|apply oA|apply pN|apply o1|refine bS ?_ Bi.out|refine bS ?_ Bj.out)|exact HB.out)) hb);clear Bb Bc HB;revert n0_ n1_ n2_;intro Bb Bc HB;(try clear hb);(try clear hb2);(try clear hk);(try clear hi);have Bv:=cz0 Bb.out;have Bw:=cz1 Bb.out;have Bx:=cz2 Bb.out;have By:=bF Bb.out 0;have Bz:=bF Bb.out 1;have BA:=bF Bb.out 2)|((with_reducible refine gC (f:=62) rfl ?_);refine goesL_ (some 15) rfl rfl Try.func62 (by kernel_rfl) rfl #[.agg #[.int .i64 a0_0,.slice A0_1 l0_1.length c0_1,.slice A0_2 l0_2.length c0_2]] rfl (by (try simp only [lM,lC,lN]);first|done|rfl|(simp only [lD,lT];rfl)) ?_;(with_reducible refine (impl_Lock_clone.calls a0_0 _ _ l0_1 _ _ l0_2 t224 t225 t228 _ ?side1 ?side2 ?side3 ?side4 A5.out).mono ?_);(case side1=>exact cL (cB HR0_1.out HB.out));(case side2=>exact HC0_1.out);(case side3=>exact cL (cB HR0_2.out HB.out));(case side4=>exact HC0_2.out);rintro e w12 ⟨v226,v229,rfl,ho0,ho1,hb⟩;refine ⟨_,rfl,?_⟩;have n0_:=Am (rW ho0 (bZ (by repeat (first|(with_reducible first|exact HB.out|apply oA|apply pN|apply o1|refine bS ?_ Bi.out|refine bS ?_ Bj.out)|exact HB.out))));have n1_:=Am (rW ho1 (bZ (by repeat (first|(with_reducible first|exact HB.out|apply oA|apply pN|apply o1|refine bS ?_ Bi.out|refine bS ?_ Bj.out)|exact HB.out))));have n2_:=Am (bX Bb.out hb);have n3_:=Am (bX Bc.out hb);have n4_:=Am (bP (by repeat (first|(with_reducible first|exact HB.out|apply oA|apply pN|apply o1|refine bS ?_ Bi.out|refine bS ?_ Bj.out)|exact HB.out)) hb);clear Bb Bc HB;revert n0_ n1_ n2_ n3_ n4_;intro Br Bs Bb Bc HB;(try clear hb);(try clear hb2);(try clear hk);(try clear hi);(try clear ho0);(try clear ho1))|((with_reducible refine gD (N:=6) rfl ?_);refine bI ?hg (N:=6) ?hd (cs:=#[.int .i64 0,.slice none 0 0,.slice none 0 0]) (t:=51) ?hr ?_;(case hd=>rfl);(case hg=>rfl);(case hr=>first|(go_simp;done)|(go_simp;rfl));intro Be hg w13 hbox hb;have n0_:=Am (rB (rL Br.out) hb);have n1_:=Am (rB (rL Bs.out) hb);have n2_:=Am (bX Bb.out hb);have n3_:=Am (bX Bc.out hb);have n4_:=Am (bP (by repeat (first|(with_reducible first|exact HB.out|apply oA|apply pN|apply o1|refine bS ?_ Bi.out|refine bS ?_ Bj.out)|exact HB.out)) hb);have n5_:=Am (hbox);have n6_:=Am ((by rw [hg];exact (bZ (by repeat (first|(with_reducible first|exact HB.out|apply oA|apply pN|apply o1|refine bS ?_ Bi.out|refine bS ?_ Bj.out)|exact HB.out))):w.heap.size≤Be));have n7_:=Am ((by rw [hg];exact (bZ (by repeat (first|(with_reducible first|exact HB.out|apply oA|apply pN|apply o1|refine bS ?_ Bi.out|refine bS ?_ Bj.out)|exact HB.out))):w.heap.size≤Be));have n8_:=Am ((nL Bb.out hg));have n9_:=Am ((nG Bb.out hg));have n10_:=Am ((nL Bc.out hg));have n11_:=Am ((nG Bc.out hg));clear Br Bs Bb Bc HB;revert n0_ n1_ n2_ n3_ n4_ n5_ n6_ n7_ n8_ n9_ n10_ n11_;intro Br Bs Bb Bc HB Ba DN Bm Bk Bn Bl Bo;clear hb hbox hg;have DO:=Bn.out;have DP:=Bk.out;have DQ:=Bo.out;have DR:=Bl.out;have BB:=cz0 Ba.out;have BC:=cz1 Ba.out;have BD:=cz2 Ba.out;have BE:=bF Ba.out 0;have BF:=bF Ba.out 1;have BG:=bF Ba.out 2;obtain ⟨Ao17,co17,eo17⟩:=rC Br.out;subst eo17;obtain ⟨Ao18,co18,eo18⟩:=rC Bs.out;subst eo18))
 go_loopg [7,18] k (fun kq v7 v18 w'=>∃ (x7_1:Int) (x18_1:Int) (x232000_1:Int) (x232001_1:List (S57)) (x232002_1:List Int) (u232001:Value) (u232002:Value),v7=.int .i64 x7_1∧v18=.int .i64 x18_1∧Aside0 (impl_LockRun.l0 kq x7_1 l1 (l1.length:Int) x18_1 x232000_1 x232001_1 x232002_1=some (r1,r2,r3,r4))∧Aside0 (kq≤k)∧Aside0 (Kd.R k57 57 w' w.heap.size (fun _=>True) u232001 x232001_1)∧Aside0 (Kd.Q (Kd.int .i64) 3 w' w.heap.size (fun _=>True) u232002 x232002_1)∧Aside0 (w'.heap[Bg]?=some (.cells #[.int .i64 a0_0,(.slice A0_1 l0_1.length c0_1),(.slice A0_2 l0_2.length c0_2)] 51 (0,0)))∧Aside0 (w'.heap[Bh]?=some (.cells #[.int .i64 0,(.slice none 0 0),(.slice none 0 0)] 51 (0,0)))∧Aside0 (w'.heap[Be]?=some (.cells #[.int .i64 x232000_1,u232001,u232002] 51 (0,0)))∧Aside0 (Below w.heap.size w w'))
 case atStart=>exact ⟨(0),(0),(t224),(t225),(t228),(.slice Ao17 t225.length co17),(.slice Ao18 t228.length co18),(by first|rfl|(simp;done)|(simp [*];done)),(by first|rfl|(simp;done)|(simp [*];done)),H',⟨nR _⟩,⟨by (with_reducible repeat (first|apply rA|apply rN|apply rD));exact rM (rF (p:=⟨Be,2,none⟩) (rF (p:=⟨Be,1,none⟩) (rF (p:=⟨Be,0,none⟩) (rT Br.out Ba.out (by decide)) (fun _ hk=>hk.2) (.int .i64 t224)) (fun _ hk=>hk.2) (.slice Ao17 t225.length co17)) (fun _ hk=>hk.2) (.slice Ao18 t228.length co18)) (fun _ hk=>trivial)⟩,⟨Kd.Q_of_R (by (with_reducible repeat (first|apply rA|apply rN|apply rD));exact rM (rF (p:=⟨Be,2,none⟩) (rF (p:=⟨Be,1,none⟩) (rF (p:=⟨Be,0,none⟩) (rT Bs.out Ba.out (by decide)) (fun _ hk=>hk.2) (.int .i64 t224)) (fun _ hk=>hk.2) (.slice Ao17 t225.length co17)) (fun _ hk=>hk.2) (.slice Ao18 t228.length co18)) (fun _ hk=>trivial))⟩,⟨by (with_reducible repeat (first|refine bN ?_ _|refine bD ?_|refine bA ?_ _|refine bE ?_ Bk.out _));exact Bb.out⟩,⟨by (with_reducible repeat (first|refine bN ?_ _|refine bD ?_|refine bA ?_ _|refine bE ?_ Bl.out _));exact Bc.out⟩,⟨by (with_reducible repeat (first|refine bN ?_ _|refine bD ?_|refine bA ?_ _));refine bT (cs:=#[.int .i64 t224,.slice Ao17 t225.length co17,.slice none 0 0]) ?_ 2 _ rfl;(with_reducible repeat (first|refine bN ?_ _|refine bD ?_|refine bA ?_ _));refine bT (cs:=#[.int .i64 t224,.slice none 0 0,.slice none 0 0]) ?_ 1 _ rfl;(with_reducible repeat (first|refine bN ?_ _|refine bD ?_|refine bA ?_ _));refine bT (cs:=#[.int .i64 0,.slice none 0 0,.slice none 0 0]) ?_ 0 _ rfl;(with_reducible repeat (first|refine bN ?_ _|refine bD ?_|refine bA ?_ _));exact Ba.out⟩,⟨by repeat (first|(with_reducible first|exact HB.out|apply oA|apply pN|apply o1|refine bS ?_ Bi.out|refine bS ?_ Bj.out|refine bS ?_ Bm.out)|exact HB.out)⟩⟩
 case round =>
  clear H'
  try clear c1
  try clear p2
  try clear c3
  try clear c4
  try clear c6
  try clear c8
  try clear c14
  try clear c15
  try clear Bv
  try clear Bw
  try clear Bx
  try clear BB
  try clear BC
  try clear BD
  try clear BH
  try clear BI
  try clear BJ
  try clear By
  try clear Bz
  try clear BA
  try clear BE
  try clear BF
  try clear BG
  try clear BK
  try clear BL
  try clear BM
  obtain ⟨x7_1,x18_1,x232000_1,x232001_1,x232002_1,u232001,u232002,rfl,rfl,HA,HK1,Bd,Bf,Bb,Bc,Ba,HB⟩:=hrel
  cases gk with
 |zero=>exact absurd HA.out (by simp [impl_LockRun.l0])
 |succ k1 =>
   have H:=HA.out
   clear HA
   simp only [impl_LockRun.l0] at H
   by_cases c19:x18_1<(l1.length:Int)
   rotate_left
   ·rw [if_neg c19] at H
    have c19b0:decide (x18_1<(l1.length:Int))=false:=dF c19
    clear c19
    simp only [Option.some.injEq,Prod.mk.injEq] at H
    obtain ⟨rfl,rfl,rfl,rfl⟩:=H
    have D4:=Bn.out
    have D5:=Bk.out
    have D6:=Bo.out
    have D7:=Bl.out
    have Dp:=cz0 Ba.out
    have Dq:=cz1 Ba.out
    have Dr:=cz2 Ba.out
    have Ds:=bF Ba.out 0
    have Dt:=bF Ba.out 1
    have Du:=bF Ba.out 2
    have D8:=Bq.out
    have D9:=Bp.out
    have Dv:=cz0 Bc.out
    have Dw:=cz1 Bc.out
    have Dx:=cz2 Bc.out
    have Dy:=bF Bc.out 0
    have Dz:=bF Bc.out 1
    have DA:=bF Bc.out 2
    obtain ⟨Ao54,co54,eo54⟩:=rC Bd.out
    subst eo54
    obtain ⟨Ao55,co55,eo55,_⟩:=Kd.Q_slice Bf.out
    subst eo55
    go_wp2
    refine bodyPost_ret (results_ct rfl _ _ Bh 51 #[.int .i64 x232000_1,.slice Ao54 x232001_1.length co54,.slice Ao55 x232002_1.length co55] (0,0) _ rfl (by (with_reducible repeat (first|refine bN ?_ _|refine bD ?_|refine bA ?_ _));refine bT (cs:=#[.int .i64 x232000_1,.slice Ao54 x232001_1.length co54,.slice none 0 0]) ?_ 2 _ rfl;(with_reducible repeat (first|refine bN ?_ _|refine bD ?_|refine bA ?_ _));refine bT (cs:=#[.int .i64 x232000_1,.slice none 0 0,.slice none 0 0]) ?_ 1 _ rfl;(with_reducible repeat (first|refine bN ?_ _|refine bD ?_|refine bA ?_ _));refine bT (cs:=#[.int .i64 0,.slice none 0 0,.slice none 0 0]) ?_ 0 _ rfl;(with_reducible repeat (first|refine bN ?_ _|refine bD ?_|refine bA ?_ _));exact Bc.out) Try.underlying51 rfl (by kernel_rfl)) rfl ?_
    exact ⟨_,_,by first|rfl|(simp [errW_none,errW_some] <;> rfl)|(simp [*,errW_none,errW_some] <;> rfl),by (with_reducible repeat (first|apply rA|apply rN|apply rD));exact rM (rF (p:=⟨Bh,2,none⟩) (rF (p:=⟨Bh,1,none⟩) (rF (p:=⟨Bh,0,none⟩) (rT Bd.out Bc.out (by decide)) (fun _ hk=>hk.2) (.int .i64 x232000_1)) (fun _ hk=>hk.2) (.slice Ao54 x232001_1.length co54)) (fun _ hk=>hk.2) (.slice Ao55 x232002_1.length co55)) (fun _ hk=>trivial),by (with_reducible repeat (first|apply Kd.Q_alloc|apply Kd.Q_drewN|apply Kd.Q_drew));exact qM (Kd.Q_far (p:=⟨Bh,2,none⟩) (Kd.Q_far (p:=⟨Bh,1,none⟩) (Kd.Q_far (p:=⟨Bh,0,none⟩) (Kd.Q_types Bf.out Bc.out (by decide)) (fun _ hk=>hk.2) (.int .i64 x232000_1)) (fun _ hk=>hk.2) (.slice Ao54 x232001_1.length co54)) (fun _ hk=>hk.2) (.slice Ao55 x232002_1.length co55)) (fun _ hk=>trivial),by repeat (first|(with_reducible first|exact HB.out|apply oA|apply pN|apply o1|refine bS ?_ Bi.out|refine bS ?_ Bj.out|refine bS ?_ Bm.out)|exact HB.out)⟩
   rw [if_pos c19] at H
   have c19b0:decide (x18_1<(l1.length:Int))=true:=dT c19
   clear c19
   by_cases c20:0≤x18_1
   rotate_left
   ·rw [if_neg c20] at H
    exact absurd H (by simp)
   rw [if_pos c20] at H
   have c20b0:decide (0≤x18_1)=true:=dT c20
   clear c20
   by_cases c21:x18_1<(l1.length:Int)
   rotate_left
   ·rw [if_neg c21] at H
    exact absurd H (by simp)
   rw [if_pos c21] at H
   have c21b0:decide (x18_1<(l1.length:Int))=true:=dT c21
   clear c21
   replace H:=oC H
   obtain ⟨t233,A220,H⟩:=H
   replace H:(if t233=true then ((impl_Lock_can.f x232000_1 x232001_1 x232002_1 (rd l1 x18_1)).bind fun t234=>(if t234=true then ((impl_Lock_step.f x232000_1 x232001_1 x232002_1 (rd l1 x18_1)).bind fun bt235=>(impl_LockRun.l0 k1 (wrap64 (x7_1 + 1)) l1 (l1.length:Int) (wrap64 (x18_1 + 1)) bt235.1 bt235.2.1 bt235.2.2)) else (impl_LockRun.l0 k1 x7_1 l1 (l1.length:Int) (wrap64 (x18_1 + 1)) x232000_1 x232001_1 x232002_1))) else (impl_LockRun.l0 k1 x7_1 l1 (l1.length:Int) (wrap64 (x18_1 + 1)) x232000_1 x232001_1 x232002_1))=some (r1,r2,r3,r4):=H
   have A22:=Am A220
   clear A220
   by_cases c23:t233=true
   rotate_left
   ·replace c23:=Bool.eq_false_iff.mpr c23
    subst c23
    have H1:(impl_LockRun.l0 k1 x7_1 l1 (l1.length:Int) (wrap64 (x18_1 + 1)) x232000_1 x232001_1 x232002_1)=some (r1,r2,r3,r4):=by rw [if_neg (show ¬ (false=true) by decide)] at H;exact H
    clear H
    have H:=H1
    clear H1
    have H':=Am H
    clear H
    have p232:0≤(x18_1:Int):=oE (by first|(with_reducible assumption)|assumption)
    have q232:x18_1<(l1.length:Int):=oE (by first|(with_reducible assumption)|assumption)
    obtain ⟨ad232,e232,hx232_0⟩:=Kd.at_int HR1.out x18_1 p232 q232
    cases e232
    replace hx232_0:=(bW HB hx232_0:)
    replace p232:=eq_true p232
    replace q232:=eq_true q232
    have D0:=Bn.out
    have D1:=Bk.out
    have D2:=Bo.out
    have D3:=Bl.out
    have Dj:=cz0 Ba.out
    have Dk:=cz1 Ba.out
    have Dl:=cz2 Ba.out
    have Dm:=bF Ba.out 0
    have Dn:=bF Ba.out 1
    have Do:=bF Ba.out 2
    obtain ⟨Ao48,co48,eo48⟩:=rC Bd.out
    subst eo48
    go_wp2_with (first|((with_reducible refine gC (f:=48) rfl ?_);refine goesL_ (some 27) rfl rfl Try.func48 (by kernel_rfl) rfl #[.int .i64 (rd l1 x18_1),.int .i64 0,.int .i64 (wrap64 ((x232001_1.length:Int) - 1))] rfl (by (try simp only [lM,lC,lN]);first|done|rfl|(simp only [lD,lT];rfl)) ?_;(with_reducible refine (impl_in.calls (rd l1 x18_1) 0 (wrap64 ((x232001_1.length:Int) - 1)) false _ A22.out).mono ?_);rintro e w' ⟨rfl,⟨nd,rfl⟩⟩;refine ⟨_,rfl,?_⟩))
    go_roundg k1
    case measure=>have:=HK1.out;omega
    case rel=>exact ⟨(x7_1),(wrap64 (x18_1 + 1)),(x232000_1),(x232001_1),(x232002_1),(.slice Ao48 x232001_1.length co48),(u232002),(by first|rfl|(simp;done)|(simp [*];done)),(by first|rfl|(simp;done)|(simp [*];done)),H',⟨by have:=HK1.out;omega⟩,⟨by (with_reducible repeat (first|apply rA|apply rN|apply rD));exact Bd.out⟩,⟨by (with_reducible repeat (first|apply Kd.Q_alloc|apply Kd.Q_drewN|apply Kd.Q_drew));exact Bf.out⟩,⟨by (with_reducible repeat (first|refine bN ?_ _|refine bD ?_|refine bA ?_ _));exact Bb.out⟩,⟨by (with_reducible repeat (first|refine bN ?_ _|refine bD ?_|refine bA ?_ _));exact Bc.out⟩,⟨by (with_reducible repeat (first|refine bN ?_ _|refine bD ?_|refine bA ?_ _));exact Ba.out⟩,⟨by repeat (first|(with_reducible first|exact HB.out|apply oA|apply pN|apply o1|refine bS ?_ Bi.out|refine bS ?_ Bj.out|refine bS ?_ Bm.out)|exact HB.out)⟩⟩
   subst c23
   have H1:((impl_Lock_can.f x232000_1 x232001_1 x232002_1 (rd l1 x18_1)).bind fun t234=>(if t234=true then ((impl_Lock_step.f x232000_1 x232001_1 x232002_1 (rd l1 x18_1)).bind fun bt235=>(impl_LockRun.l0 k1 (wrap64 (x7_1 + 1)) l1 (l1.length:Int) (wrap64 (x18_1 + 1)) bt235.1 bt235.2.1 bt235.2.2)) else (impl_LockRun.l0 k1 x7_1 l1 (l1.length:Int) (wrap64 (x18_1 + 1)) x232000_1 x232001_1 x232002_1)))=some (r1,r2,r3,r4):=by rw [if_pos rfl] at H;exact H
   clear H
   have H:=H1
   clear H1
   replace H:=oC H
   obtain ⟨t234,A240,H⟩:=H
   replace H:(if t234=true then ((impl_Lock_step.f x232000_1 x232001_1 x232002_1 (rd l1 x18_1)).bind fun bt235=>(impl_LockRun.l0 k1 (wrap64 (x7_1 + 1)) l1 (l1.length:Int) (wrap64 (x18_1 + 1)) bt235.1 bt235.2.1 bt235.2.2)) else (impl_LockRun.l0 k1 x7_1 l1 (l1.length:Int) (wrap64 (x18_1 + 1)) x232000_1 x232001_1 x232002_1))=some (r1,r2,r3,r4):=H
   have A24:=Am A240
   clear A240
   by_cases c25:t234=true
   rotate_left
   ·replace c25:=Bool.eq_false_iff.mpr c25
    subst c25
    have H1:(impl_LockRun.l0 k1 x7_1 l1 (l1.length:Int) (wrap64 (x18_1 + 1)) x232000_1 x232001_1 x232002_1)=some (r1,r2,r3,r4):=by rw [if_neg (show ¬ (false=true) by decide)] at H;exact H
    clear H
    have H:=H1
    clear H1
    have H':=Am H
    clear H
    have p232:0≤(x18_1:Int):=oE (by first|(with_reducible assumption)|assumption)
    have q232:x18_1<(l1.length:Int):=oE (by first|(with_reducible assumption)|assumption)
    obtain ⟨ad232,e232,hx232_0⟩:=Kd.at_int HR1.out x18_1 p232 q232
    cases e232
    replace hx232_0:=(bW HB hx232_0:)
    replace p232:=eq_true p232
    replace q232:=eq_true q232
    have DW:=Bn.out
    have DX:=Bk.out
    have DY:=Bo.out
    have DZ:=Bl.out
    have Dd:=cz0 Ba.out
    have De:=cz1 Ba.out
    have Df:=cz2 Ba.out
    have Dg:=bF Ba.out 0
    have Dh:=bF Ba.out 1
    have Di:=bF Ba.out 2
    obtain ⟨Ao42,co42,eo42⟩:=rC Bd.out
    subst eo42
    go_wp2_with (first|((with_reducible refine gC (f:=48) rfl ?_);refine goesL_ (some 27) rfl rfl Try.func48 (by kernel_rfl) rfl #[.int .i64 (rd l1 x18_1),.int .i64 0,.int .i64 (wrap64 ((x232001_1.length:Int) - 1))] rfl (by (try simp only [lM,lC,lN]);first|done|rfl|(simp only [lD,lT];rfl)) ?_;(with_reducible refine (impl_in.calls (rd l1 x18_1) 0 (wrap64 ((x232001_1.length:Int) - 1)) true _ A22.out).mono ?_);rintro e w' ⟨rfl,⟨nd,rfl⟩⟩;refine ⟨_,rfl,?_⟩;obtain ⟨Ao43,co43,eo43,_⟩:=Kd.Q_slice Bf.out;subst eo43)|(go_at_call 61;(with_reducible refine (impl_Lock_can.calls x232000_1 _ _ x232001_1 _ _ x232002_1 (rd l1 x18_1) false _ ?side1 ?side2 ?side3 ?side4 A24.out).mono ?_);(case side1=>exact cL (rR Bd.out).2.2);(case side2=>exact (rR Bd.out).2.1);(case side3=>exact cL (qR Bf.out).2.2);(case side4=>exact (qR Bf.out).2.1);rintro e w44 ⟨rfl,hb⟩;have n0_:=Am (rB (rL Bd.out) hb);have n1_:=Am (Kd.Q_below (qL Bf.out) hb);have n2_:=Am (bX Bb.out hb);have n3_:=Am (bX Bc.out hb);have n4_:=Am (bX Ba.out hb);have n5_:=Am (bP (by repeat (first|(with_reducible first|exact HB.out|apply oA|apply pN|apply o1|refine bS ?_ Bi.out|refine bS ?_ Bj.out|refine bS ?_ Bm.out)|exact HB.out)) hb);clear Bd Bf Bb Bc Ba HB;revert n0_ n1_ n2_ n3_ n4_ n5_;intro Bd Bf Bb Bc Ba HB;(try clear hb);(try clear hb2);(try clear hk);(try clear hi)))
    go_roundg k1
    case measure=>have:=HK1.out;omega
    case rel=>exact ⟨(x7_1),(wrap64 (x18_1 + 1)),(x232000_1),(x232001_1),(x232002_1),(.slice Ao42 x232001_1.length co42),(.slice Ao43 x232002_1.length co43),(by first|rfl|(simp;done)|(simp [*];done)),(by first|rfl|(simp;done)|(simp [*];done)),H',⟨by have:=HK1.out;omega⟩,⟨by (with_reducible repeat (first|apply rA|apply rN|apply rD));exact Bd.out⟩,⟨by (with_reducible repeat (first|apply Kd.Q_alloc|apply Kd.Q_drewN|apply Kd.Q_drew));exact Bf.out⟩,⟨by (with_reducible repeat (first|refine bN ?_ _|refine bD ?_|refine bA ?_ _));exact Bb.out⟩,⟨by (with_reducible repeat (first|refine bN ?_ _|refine bD ?_|refine bA ?_ _));exact Bc.out⟩,⟨by (with_reducible repeat (first|refine bN ?_ _|refine bD ?_|refine bA ?_ _));exact Ba.out⟩,⟨by repeat (first|(with_reducible first|exact HB.out|apply oA|apply pN|apply o1|refine bS ?_ Bi.out|refine bS ?_ Bj.out|refine bS ?_ Bm.out)|exact HB.out)⟩⟩
   subst c25
   have H1:((impl_Lock_step.f x232000_1 x232001_1 x232002_1 (rd l1 x18_1)).bind fun bt235=>(impl_LockRun.l0 k1 (wrap64 (x7_1 + 1)) l1 (l1.length:Int) (wrap64 (x18_1 + 1)) bt235.1 bt235.2.1 bt235.2.2))=some (r1,r2,r3,r4):=by rw [if_pos rfl] at H;exact H
   clear H
   have H:=H1
   clear H1
   replace H:=oC H
   obtain ⟨⟨t235,t236,t239⟩,A260,H⟩:=H
   replace H:(impl_LockRun.l0 k1 (wrap64 (x7_1 + 1)) l1 (l1.length:Int) (wrap64 (x18_1 + 1)) t235 t236 t239)=some (r1,r2,r3,r4):=H
   have A26:=Am A260
   clear A260
   have H':=Am H
   clear H
   have p232:0≤(x18_1:Int):=oE (by first|(with_reducible assumption)|assumption)
   have q232:x18_1<(l1.length:Int):=oE (by first|(with_reducible assumption)|assumption)
   obtain ⟨ad232,e232,hx232_0⟩:=Kd.at_int HR1.out x18_1 p232 q232
   cases e232
   replace hx232_0:=(bW HB hx232_0:)
   replace p232:=eq_true p232
   replace q232:=eq_true q232
   have DS:=Bn.out
   have DT:=Bk.out
   have DU:=Bo.out
   have DV:=Bl.out
   have BP:=cz0 Ba.out
   have BQ:=cz1 Ba.out
   have BR:=cz2 Ba.out
   have BS:=bF Ba.out 0
   have BT:=bF Ba.out 1
   have BU:=bF Ba.out 2
   obtain ⟨Ao30,co30,eo30⟩:=rC Bd.out
   subst eo30
   go_wp2_with (first|((with_reducible refine gC (f:=48) rfl ?_);refine goesL_ (some 27) rfl rfl Try.func48 (by kernel_rfl) rfl #[.int .i64 (rd l1 x18_1),.int .i64 0,.int .i64 (wrap64 ((x232001_1.length:Int) - 1))] rfl (by (try simp only [lM,lC,lN]);first|done|rfl|(simp only [lD,lT];rfl)) ?_;(with_reducible refine (impl_in.calls (rd l1 x18_1) 0 (wrap64 ((x232001_1.length:Int) - 1)) true _ A22.out).mono ?_);rintro e w' ⟨rfl,⟨nd,rfl⟩⟩;refine ⟨_,rfl,?_⟩;(try (rw [drewN_self wr];generalize hq_:World.drewN wr _=wr;have n0_:Aside0 (Kd.R k57 57 wr w.heap.size (fun _=>True) (.slice Ao30 x232001_1.length co30) x232001_1):=⟨by rw [← hq_];exact (rL Bd.out)⟩;have n1_:Aside0 (Kd.Q (Kd.int .i64) 3 wr w.heap.size (fun _=>True) u232002 x232002_1):=⟨by rw [← hq_];exact (qL Bf.out)⟩;have n2_:Aside0 (wr.heap[Bg]?=some (.cells #[.int .i64 a0_0,.slice A0_1 l0_1.length c0_1,.slice A0_2 l0_2.length c0_2] 51 (0,0))):=⟨by rw [← hq_];exact (bL Bb.out)⟩;have n3_:Aside0 (wr.heap[Bh]?=some (.cells #[.int .i64 0,.slice none 0 0,.slice none 0 0] 51 (0,0))):=⟨by rw [← hq_];exact (bL Bc.out)⟩;have n4_:Aside0 (wr.heap[Be]?=some (.cells #[.int .i64 x232000_1,.slice Ao30 x232001_1.length co30,u232002] 51 (0,0))):=⟨by rw [← hq_];exact (bL Ba.out)⟩;have n5_:Aside0 (Below w.heap.size w wr):=⟨by rw [← hq_];exact (by repeat (first|(with_reducible first|exact HB.out|apply oA|apply pN|apply o1|refine bS ?_ Bi.out|refine bS ?_ Bj.out|refine bS ?_ Bm.out)|exact HB.out))⟩;clear Bd Bf Bb Bc Ba HB hq_;revert n0_ n1_ n2_ n3_ n4_ n5_;intro Bd Bf Bb Bc Ba HB));have BV:=cz0 Ba.out;have BW:=cz1 Ba.out;have BX:=cz2 Ba.out;have BY:=bF Ba.out 0;have BZ:=bF Ba.out 1;have B0:=bF Ba.out 2;obtain ⟨Ao32,co32,eo32,_⟩:=Kd.Q_slice Bf.out;subst eo32)|(go_at_call 61;(with_reducible refine (impl_Lock_can.calls x232000_1 _ _ x232001_1 _ _ x232002_1 (rd l1 x18_1) true _ ?side1 ?side2 ?side3 ?side4 A24.out).mono ?_);(case side1=>exact cL (rR Bd.out).2.2);(case side2=>exact (rR Bd.out).2.1);(case side3=>exact cL (qR Bf.out).2.2);(case side4=>exact (qR Bf.out).2.1);rintro e w33 ⟨rfl,hb⟩;have n0_:=Am (rB (rL Bd.out) hb);have n1_:=Am (Kd.Q_below (qL Bf.out) hb);have n2_:=Am (bX Bb.out hb);have n3_:=Am (bX Bc.out hb);have n4_:=Am (bX Ba.out hb);have n5_:=Am (bP (by repeat (first|(with_reducible first|exact HB.out|apply oA|apply pN|apply o1|refine bS ?_ Bi.out|refine bS ?_ Bj.out|refine bS ?_ Bm.out)|exact HB.out)) hb);clear Bd Bf Bb Bc Ba HB;revert n0_ n1_ n2_ n3_ n4_ n5_;intro Bd Bf Bb Bc Ba HB;(try clear hb);(try clear hb2);(try clear hk);(try clear hi);have B1:=cz0 Ba.out;have B2:=cz1 Ba.out;have B3:=cz2 Ba.out;have B4:=bF Ba.out 0;have B5:=bF Ba.out 1;have B6:=bF Ba.out 2)|((with_reducible refine gC (f:=63) rfl ?_);refine goesL_ (some 35) rfl rfl Try.func63 (by kernel_rfl) rfl #[.agg #[.int .i64 x232000_1,.slice Ao30 x232001_1.length co30,.slice Ao32 x232002_1.length co32],.int .i64 (rd l1 x18_1)] rfl (by (try simp only [lM,lC,lN]);first|done|rfl|(simp only [lD,lT];rfl)) ?_;(with_reducible refine (impl_Lock_step.calls x232000_1 _ _ x232001_1 _ _ x232002_1 (rd l1 x18_1) t235 t236 t239 _ ?side1 ?side2 ?side3 ?side4 A26.out).mono ?_);(case side1=>exact cL (rR Bd.out).2.2);(case side2=>exact (rR Bd.out).2.1);(case side3=>exact cL (qR Bf.out).2.2);(case side4=>exact (qR Bf.out).2.1);rintro e w35 ⟨v237,v240,rfl,ho0,ho1,hb⟩;refine ⟨_,rfl,?_⟩;have n0_:=Am (rX (rL Bd.out) (rZ ho0) hb);have n1_:=Am (Kd.Q_elder' (qL Bf.out) (Kd.Q_base ho1) hb);have n2_:=Am (rW (rQ ho0 (rI (rL Bd.out))) (bZ (by repeat (first|(with_reducible first|exact HB.out|apply oA|apply pN|apply o1|refine bS ?_ Bi.out|refine bS ?_ Bj.out|refine bS ?_ Bm.out)|exact HB.out))));have n3_:=Am (Kd.Q_lower (Kd.Q_new' ho1 (qI (qL Bf.out))) (bZ (by repeat (first|(with_reducible first|exact HB.out|apply oA|apply pN|apply o1|refine bS ?_ Bi.out|refine bS ?_ Bj.out|refine bS ?_ Bm.out)|exact HB.out))));have n4_:=Am (bX Bb.out hb);have n5_:=Am (bX Bc.out hb);have n6_:=Am (bX Ba.out hb);have n7_:=Am (bP (by repeat (first|(with_reducible first|exact HB.out|apply oA|apply pN|apply o1|refine bS ?_ Bi.out|refine bS ?_ Bj.out|refine bS ?_ Bm.out)|exact HB.out)) hb);clear Bd Bf Bb Bc Ba HB;revert n0_ n1_ n2_ n3_ n4_ n5_ n6_ n7_;intro Bd Bf Bt Bu Bb Bc Ba HB;(try clear hb);(try clear hb2);(try clear hk);(try clear hi);(try clear ho0);(try clear ho1);have B7:=cz0 Ba.out;have B8:=cz1 Ba.out;have B9:=cz2 Ba.out;have Da:=bF Ba.out 0;have Db:=bF Ba.out 1;have Dc:=bF Ba.out 2;obtain ⟨Ao37,co37,eo37⟩:=rC Bt.out;subst eo37;obtain ⟨Ao38,co38,eo38,_⟩:=Kd.Q_slice Bu.out;subst eo38))
   go_roundg k1
   case measure=>have:=HK1.out;omega
   case rel=>exact ⟨(wrap64 (x7_1 + 1)),(wrap64 (x18_1 + 1)),(t235),(t236),(t239),(.slice Ao37 t236.length co37),(.slice Ao38 t239.length co38),(by first|rfl|(simp;done)|(simp [*];done)),(by first|rfl|(simp;done)|(simp [*];done)),H',⟨by have:=HK1.out;omega⟩,⟨by (with_reducible repeat (first|apply rA|apply rN|apply rD));exact rM (rF (p:=⟨Be,2,none⟩) (rF (p:=⟨Be,1,none⟩) (rF (p:=⟨Be,0,none⟩) (rT Bt.out Ba.out (by decide)) (fun _ hk=>hk.2) (.int .i64 t235)) (fun _ hk=>hk.2) (.slice Ao37 t236.length co37)) (fun _ hk=>hk.2) (.slice Ao38 t239.length co38)) (fun _ hk=>trivial)⟩,⟨by (with_reducible repeat (first|apply Kd.Q_alloc|apply Kd.Q_drewN|apply Kd.Q_drew));exact qM (Kd.Q_far (p:=⟨Be,2,none⟩) (Kd.Q_far (p:=⟨Be,1,none⟩) (Kd.Q_far (p:=⟨Be,0,none⟩) (Kd.Q_types Bu.out Ba.out (by decide)) (fun _ hk=>hk.2) (.int .i64 t235)) (fun _ hk=>hk.2) (.slice Ao37 t236.length co37)) (fun _ hk=>hk.2) (.slice Ao38 t239.length co38)) (fun _ hk=>trivial)⟩,⟨by (with_reducible repeat (first|refine bN ?_ _|refine bD ?_|refine bA ?_ _|refine bE ?_ Bk.out _));exact Bb.out⟩,⟨by (with_reducible repeat (first|refine bN ?_ _|refine bD ?_|refine bA ?_ _|refine bE ?_ Bl.out _));exact Bc.out⟩,⟨by (with_reducible repeat (first|refine bN ?_ _|refine bD ?_|refine bA ?_ _));refine bT (cs:=#[.int .i64 t235,.slice Ao37 t236.length co37,.slice Ao32 x232002_1.length co32]) ?_ 2 _ rfl;(with_reducible repeat (first|refine bN ?_ _|refine bD ?_|refine bA ?_ _));refine bT (cs:=#[.int .i64 t235,.slice Ao30 x232001_1.length co30,.slice Ao32 x232002_1.length co32]) ?_ 1 _ rfl;(with_reducible repeat (first|refine bN ?_ _|refine bD ?_|refine bA ?_ _));refine bT (cs:=#[.int .i64 x232000_1,.slice Ao30 x232001_1.length co30,.slice Ao32 x232002_1.length co32]) ?_ 0 _ rfl;(with_reducible repeat (first|refine bN ?_ _|refine bD ?_|refine bA ?_ _));exact Ba.out⟩,⟨by repeat (first|(with_reducible first|exact HB.out|apply oA|apply pN|apply o1|refine bS ?_ Bi.out|refine bS ?_ Bj.out|refine bS ?_ Bm.out)|exact HB.out)⟩⟩
end Go.Proofs.Ytpdfkbggaihfpaa.PFnLockEnds
