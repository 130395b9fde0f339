/- Proved here, without a condition beyond those that each theorem states: what the Go functions named below do is what the plain functions of the same names say. Written by xprint.py, a program of this session. -/
import Derived.Test.YtpdfkbggaihfpaaPFnLockWordx0
import Derived.Test.YtpdfkbggaihfpaaPFnLockWordx3
import Derived.Test.YtpdfkbggaihfpaaPFnLockWordx7
import Derived.Test.YtpdfkbggaihfpaaPFnLockWordx8
import Derived.Test.YtpdfkbggaihfpaaPFnLockWordx9
namespace Go.Proofs.Ytpdfkbggaihfpaa.PFnLockWord
open Go.RowKit Go.Proofs.YtpdfkbggaihfpaaW.PrintWords Go.Proofs.YtpdfkbggaihfpaaW.PrintLast Go.Proofs.YtpdfkbggaihfpaaW.PrintMore
attribute [local go_sem] max2_int min2_int max_two min_two max_three min_three max_four min_four   -- for this text's walks alone
set_option linter.unusedVariables false
set_option linter.unusedSimpArgs false

attribute [local go_sem ↓] isSome_setCell_
/-! ### impl_LockStep: function 36 -/
def impl_LockStep.j0 : Nat → Int → Bool → Int → List (S57) → List Int → Option (Int × (List (S57)) × List Int × Bool)
|0, _, _, _, _, _ => none
|k + 1, x1, x17, x222000, x222001, x222002 => if x17 = true then (some (0, ([] : List (S57)), ([] : List Int), false)) else ((impl_Lock_can.f x222000 x222001 x222002 x1).bind fun t225 => (if t225 = true then ((impl_Lock_step.f x222000 x222001 x222002 x1).bind fun bt226 => (some (bt226.1, bt226.2.1, bt226.2.2, true))) else ((impl_Lock_clone.f x222000 x222001 x222002).bind fun bt233 => (some (bt233.1, bt233.2.1, bt233.2.2, false)))))
def impl_LockStep.f (k : Nat) (a0_0 : Int) (l0_1 : List (S57)) (l0_2 : List Int) (a1 : Int) : Option (Int × (List (S57)) × List Int × Bool) := (impl_LockOk.f k a0_0 l0_1 l0_2).bind fun t223 => (if t223 = true then ((impl_in.f a1 0 (wrap64 ((l0_1.length : Int) - 1))).bind fun t224 => (impl_LockStep.j0 k a1 (!t224) a0_0 l0_1 l0_2)) else (impl_LockStep.j0 k a1 true a0_0 l0_1 l0_2))
theorem impl_LockStep.mono_l : ∀ k, (∀ y0 y1 y2 y3 y4, LeO (impl_LockStep.j0 k y0 y1 y2 y3 y4) (impl_LockStep.j0 (k + 1) y0 y1 y2 y3 y4))
|0 => fun _ _ _ _ _ r h => by simp [impl_LockStep.j0] at h
|k + 1 => by
  have ih0 := impl_LockStep.mono_l k
  ·intro y0 y1 y2 y3 y4
   unfold impl_LockStep.j0
   repeat' first
  |(with_reducible exact ih0 _ _ _ _ _)
  |(with_reducible exact impl_LockOk.mono _ _ _ _)
  |(with_reducible exact LeO.refl _)
  |(with_reducible exact LeO.none _)
  |(with_reducible refine LeO.ite ?_ ?_)
  |(with_reducible refine LeO.bind ?_ (fun _ => ?_))
  |exact ih0 _ _ _ _ _
  |exact impl_LockOk.mono _ _ _ _
  |exact LeO.none _
  |refine LeO.ite ?_ ?_
  |refine LeO.bind ?_ (fun _ => ?_)
theorem impl_LockStep.mono : ∀ a0 a1 a2 a3 k, LeO (impl_LockStep.f k a0 a1 a2 a3) (impl_LockStep.f (k + 1) a0 a1 a2 a3) := by
 intro a0 a1 a2 a3 k
 have ih0 := impl_LockStep.mono_l k
 unfold impl_LockStep.f
 repeat' first
  |(with_reducible exact ih0 _ _ _ _ _)
  |(with_reducible exact impl_LockOk.mono _ _ _ _)
  |(with_reducible exact LeO.refl _)
  |(with_reducible exact LeO.none _)
  |(with_reducible refine LeO.ite ?_ ?_)
  |(with_reducible refine LeO.bind ?_ (fun _ => ?_))
  |exact ih0 _ _ _ _ _
  |exact impl_LockOk.mono _ _ _ _
  |exact LeO.none _
  |refine LeO.ite ?_ ?_
  |refine LeO.bind ?_ (fun _ => ?_)
set_option maxHeartbeats 2000000 in
set_option maxRecDepth 100000 in
theorem impl_LockStep.calls (k:Nat) (a0_0:Int) (A0_1:Option Addr) (c0_1:Nat) (l0_1:List (S57)) (A0_2:Option Addr) (c0_2:Nat) (l0_2:List Int) (a1:Int) (r1:Int) (r2:List (S57)) (r3:List Int) (r4:Bool) (w:World) (hr0_1:Kd.C k57 w A0_1 l0_1.length l0_1) (hc0_1:l0_1.length≤c0_1) (hr0_2:Kd.C (Kd.int .i64) w A0_2 l0_2.length l0_2) (hc0_2:l0_2.length≤c0_2) (h:impl_LockStep.f k a0_0 l0_1 l0_2 a1=some (r1,r2,r3,r4)) :
  Calls Try.prog 36 #[.agg #[.int .i64 a0_0,.slice A0_1 l0_1.length c0_1,.slice A0_2 l0_2.length c0_2],.int .i64 a1] w fun e w'=>∃ v1_ v2_:Value,e=.returned (.tuple #[.agg #[.int .i64 r1,v1_,v2_],.bool r4])∧Kd.R k57 57 w' w.heap.size (fun _=>True) v1_ r2∧Kd.Q (Kd.int .i64) 3 w' w.heap.size (fun _=>True) v2_ r3∧Below w.heap.size w w':=by
 have hu51:=Try.underlying51
 have HR0_1:=Am hr0_1
 have HC0_1:=Am hc0_1
 clear hr0_1 hc0_1
 have HR0_2:=Am hr0_2
 have HC0_2:=Am hc0_2
 clear hr0_2 hc0_2
 have HB:=Am (bJ w.heap.size w)
 have H:((impl_LockOk.f k a0_0 l0_1 l0_2).bind fun t223=>(if t223=true then ((impl_in.f a1 0 (wrap64 ((l0_1.length:Int) - 1))).bind fun t224=>(impl_LockStep.j0 k a1 (!t224) a0_0 l0_1 l0_2)) else (impl_LockStep.j0 k a1 true a0_0 l0_1 l0_2)))=some (r1,r2,r3,r4):=h
 clear h
 have HC3:=Am H
 clear H
 go_enter Try.func36,Try.ntmps36
 go_upto_region 1 with (first|((with_reducible refine gD (N:=2) rfl ?_);(try (refine gate_guard (by rfl) ?_;dsimp only));refine bI ?hg (N:=2) ?hd (cs:=#[.int .i64 a0_0,.slice A0_1 l0_1.length c0_1,.slice A0_2 l0_2.length c0_2]) (t:=51) ?hr ?_;(case hd=>rfl);(case hg=>rfl);(case hr=>first|(go_simp;done)|(go_simp;rfl));intro Bc hg w4 hbox hb;have n0_:=Am (bP (by repeat (first|(with_reducible first|exact HB.out|apply oA|apply pN|apply o1)|exact HB.out)) hb);have n1_:=Am (hbox);have n2_:=Am ((by rw [hg];exact (bZ (by repeat (first|(with_reducible first|exact HB.out|apply oA|apply pN|apply o1)|exact HB.out))):w.heap.size≤Bc));have n3_:=Am ((by rw [hg];exact (bZ (by repeat (first|(with_reducible first|exact HB.out|apply oA|apply pN|apply o1)|exact HB.out))):w.heap.size≤Bc));clear HB;revert n0_ n1_ n2_ n3_;intro HB Ba Dk Be;clear hb hbox hg)|((with_reducible refine gD (N:=4) rfl ?_);(try (refine gate_guard (by rfl) ?_;dsimp only));refine bI ?hg (N:=4) ?hd (cs:=#[.int .i64 0,.slice none 0 0,.slice none 0 0]) (t:=51) ?hr ?_;(case hd=>rfl);(case hg=>rfl);(case hr=>first|(go_simp;done)|(go_simp;rfl));intro Bd hg w5 hbox hb;have n0_:=Am (bX Ba.out hb);have n1_:=Am (bP (by repeat (first|(with_reducible first|exact HB.out|apply oA|apply pN|apply o1|refine bS ?_ Be.out)|exact HB.out)) hb);have n2_:=Am (hbox);have n3_:=Am ((by rw [hg];exact (bZ (by repeat (first|(with_reducible first|exact HB.out|apply oA|apply pN|apply o1|refine bS ?_ Be.out)|exact HB.out))):w.heap.size≤Bd));have n4_:=Am ((by rw [hg];exact (bZ (by repeat (first|(with_reducible first|exact HB.out|apply oA|apply pN|apply o1|refine bS ?_ Be.out)|exact HB.out))):w.heap.size≤Bd));have n5_:=Am ((nL Ba.out hg));have n6_:=Am ((nG Ba.out hg));clear Ba HB;revert n0_ n1_ n2_ n3_ n4_ n5_ n6_;intro Ba HB Bb Dl Bf Bg Bh;clear hb hbox hg))
 (try simp only [Act.put,lA,lZ,lS])
 go_cut [17] (fun v17 wc=>∃ (kq:Nat) (x17_2:Bool),v17=.bool x17_2∧Aside0 (impl_LockStep.j0 kq a1 x17_2 a0_0 l0_1 l0_2=some (r1,r2,r3,r4))∧Aside0 (kq≤k)∧Aside0 (wc.heap[Bc]?=some (.cells #[.int .i64 a0_0,(.slice A0_1 l0_1.length c0_1),(.slice A0_2 l0_2.length c0_2)] 51 (0,0)))∧Aside0 (wc.heap[Bd]?=some (.cells #[.int .i64 0,(.slice none 0 0),(.slice none 0 0)] 51 (0,0)))∧Aside0 (Below w.heap.size w wc))
 case first =>
  have H:=HC3.out
  clear HC3
  replace H:=oC H
  obtain ⟨t223,A60,H⟩:=H
  replace H:(if t223=true then ((impl_in.f a1 0 (wrap64 ((l0_1.length:Int) - 1))).bind fun t224=>(impl_LockStep.j0 k a1 (!t224) a0_0 l0_1 l0_2)) else (impl_LockStep.j0 k a1 true a0_0 l0_1 l0_2))=some (r1,r2,r3,r4):=H
  have A6:=Am A60
  clear A60
  by_cases c7:t223=true
  rotate_left
  ·replace c7:=Bool.eq_false_iff.mpr c7
   subst c7
   have H1:(impl_LockStep.j0 k a1 true a0_0 l0_1 l0_2)=some (r1,r2,r3,r4):=by rw [if_neg (show ¬ (false=true) by decide)] at H;exact H
   clear H
   have H:=H1
   clear H1
   have H':=Am H
   clear H
   have Dm:=Bg.out
   have Dn:=Bh.out
   have By:=cz0 Ba.out
   have Bz:=cz1 Ba.out
   have BA:=cz2 Ba.out
   have BB:=bF Ba.out 0
   have BC:=bF Ba.out 1
   have BD:=bF Ba.out 2
   go_wp2_with (first|((with_reducible refine gC (f:=60) rfl ?_);refine goesL_ (some 7) rfl rfl Try.func60 (by kernel_rfl) rfl #[.agg #[.int .i64 a0_0,.slice A0_1 l0_1.length c0_1,.slice A0_2 l0_2.length c0_2]] rfl (by (try simp only [lM,lC,lN]);first|done|rfl|(simp only [lD,lT];rfl)) ?_;(with_reducible refine (impl_LockOk.calls k a0_0 _ _ l0_1 _ _ l0_2 false _ ?side1 ?side2 ?side3 ?side4 A6.out).mono ?_);(case side1=>exact cL (cB HR0_1.out HB.out));(case side2=>exact HC0_1.out);(case side3=>exact cL (cB HR0_2.out HB.out));(case side4=>exact HC0_2.out);rintro e w15 ⟨rfl,hb⟩;refine ⟨_,rfl,?_⟩;have n0_:=Am (bX Ba.out hb);have n1_:=Am (bX Bb.out hb);have n2_:=Am (bP (by repeat (first|(with_reducible first|exact HB.out|apply oA|apply pN|apply o1|refine bS ?_ Be.out|refine bS ?_ Bf.out)|exact HB.out)) hb);clear Ba Bb HB;revert n0_ n1_ n2_;intro Ba Bb HB;(try clear hb);(try clear hb2);(try clear hk);(try clear hi)))
   go_meet
   case rel=>exact ⟨_,(true),(by first|rfl|(simp;done)|(simp [*];done)),H',⟨by first|omega|exact nR _⟩,⟨by (with_reducible repeat (first|refine bN ?_ _|refine bD ?_|refine bA ?_ _));exact Ba.out⟩,⟨by (with_reducible repeat (first|refine bN ?_ _|refine bD ?_|refine bA ?_ _));exact Bb.out⟩,⟨by repeat (first|(with_reducible first|exact HB.out|apply oA|apply pN|apply o1|refine bS ?_ Be.out|refine bS ?_ Bf.out)|exact HB.out)⟩⟩
  subst c7
  have H1:((impl_in.f a1 0 (wrap64 ((l0_1.length:Int) - 1))).bind fun t224=>(impl_LockStep.j0 k a1 (!t224) a0_0 l0_1 l0_2))=some (r1,r2,r3,r4):=by rw [if_pos rfl] at H;exact H
  clear H
  have H:=H1
  clear H1
  replace H:=oC H
  obtain ⟨t224,A80,H⟩:=H
  replace H:(impl_LockStep.j0 k a1 (!t224) a0_0 l0_1 l0_2)=some (r1,r2,r3,r4):=H
  have A8:=Am A80
  clear A80
  have H':=Am H
  clear H
  have Du:=Bg.out
  have Dv:=Bh.out
  have Bm:=cz0 Ba.out
  have Bn:=cz1 Ba.out
  have Bo:=cz2 Ba.out
  have Bp:=bF Ba.out 0
  have Bq:=bF Ba.out 1
  have Br:=bF Ba.out 2
  go_wp2_with (first|((with_reducible refine gC (f:=60) rfl ?_);refine goesL_ (some 7) rfl rfl Try.func60 (by kernel_rfl) rfl #[.agg #[.int .i64 a0_0,.slice A0_1 l0_1.length c0_1,.slice A0_2 l0_2.length c0_2]] rfl (by (try simp only [lM,lC,lN]);first|done|rfl|(simp only [lD,lT];rfl)) ?_;(with_reducible refine (impl_LockOk.calls k a0_0 _ _ l0_1 _ _ l0_2 true _ ?side1 ?side2 ?side3 ?side4 A6.out).mono ?_);(case side1=>exact cL (cB HR0_1.out HB.out));(case side2=>exact HC0_1.out);(case side3=>exact cL (cB HR0_2.out HB.out));(case side4=>exact HC0_2.out);rintro e w11 ⟨rfl,hb⟩;refine ⟨_,rfl,?_⟩;have n0_:=Am (bX Ba.out hb);have n1_:=Am (bX Bb.out hb);have n2_:=Am (bP (by repeat (first|(with_reducible first|exact HB.out|apply oA|apply pN|apply o1|refine bS ?_ Be.out|refine bS ?_ Bf.out)|exact HB.out)) hb);clear Ba Bb HB;revert n0_ n1_ n2_;intro Ba Bb HB;(try clear hb);(try clear hb2);(try clear hk);(try clear hi);have Bs:=cz0 Ba.out;have Bt:=cz1 Ba.out;have Bu:=cz2 Ba.out;have Bv:=bF Ba.out 0;have Bw:=bF Ba.out 1;have Bx:=bF Ba.out 2)|(go_at_call 48;(with_reducible refine (impl_in.calls a1 0 (wrap64 ((l0_1.length:Int) - 1)) t224 _ A8.out).mono ?_);rintro e w' ⟨rfl,⟨nd,rfl⟩⟩))
  go_meet
  case rel=>exact ⟨_,(!t224),(by first|rfl|(simp;done)|(simp [*];done)),H',⟨by first|omega|exact nR _⟩,⟨by (with_reducible repeat (first|refine bN ?_ _|refine bD ?_|refine bA ?_ _));exact Ba.out⟩,⟨by (with_reducible repeat (first|refine bN ?_ _|refine bD ?_|refine bA ?_ _));exact Bb.out⟩,⟨by repeat (first|(with_reducible first|exact HB.out|apply oA|apply pN|apply o1|refine bS ?_ Be.out|refine bS ?_ Bf.out)|exact HB.out)⟩⟩
 case rest =>
  clear HC3
  try clear c1
  try clear p2
  try clear c3
  try clear c6
  try clear p6
  try clear c7
  try clear c9
  try clear c13
  try clear Bm
  try clear Bn
  try clear Bo
  try clear Bs
  try clear Bt
  try clear Bu
  try clear By
  try clear Bz
  try clear BA
  try clear Bp
  try clear Bq
  try clear Br
  try clear Bv
  try clear Bw
  try clear Bx
  try clear BB
  try clear BC
  try clear BD
  obtain ⟨kq,x17_2,rfl,HA,Dw,Ba,Bb,HB⟩:=hcut
  cases kq with
 |zero=>exact absurd HA.out (by simp [impl_LockStep.j0])
 |succ kj2 =>
   have H:=HA.out
   clear HA
   simp only [impl_LockStep.j0] at H
   by_cases c16:x17_2=true
   ·subst c16
    have H1:(some (0,([]:List (S57)),([]:List Int),false))=some (r1,r2,r3,r4):=by rw [if_pos rfl] at H;exact H
    clear H
    have H:=H1
    clear H1
    simp only [Option.some.injEq,Prod.mk.injEq] at H
    obtain ⟨rfl,rfl,rfl,rfl⟩:=H
    have Do:=Bh.out
    have Dp:=Bg.out
    have BE:=cz0 Bb.out
    have BF:=cz1 Bb.out
    have BG:=cz2 Bb.out
    have BH:=bF Bb.out 0
    have BI:=bF Bb.out 1
    have BJ:=bF Bb.out 2
    go_wp2
    refine bodyPost_ret (results_ct rfl _ _ Bd 51 #[.int .i64 0,.slice none 0 0,.slice none 0 0] (0,0) _ rfl (by (with_reducible repeat (first|refine bN ?_ _|refine bD ?_|refine bA ?_ _));refine bT (cs:=#[.int .i64 0,.slice none 0 0,.slice none 0 0]) ?_ 2 _ rfl;(with_reducible repeat (first|refine bN ?_ _|refine bD ?_|refine bA ?_ _));refine bT (cs:=#[.int .i64 0,.slice none 0 0,.slice none 0 0]) ?_ 1 _ rfl;(with_reducible repeat (first|refine bN ?_ _|refine bD ?_|refine bA ?_ _));refine bT (cs:=#[.int .i64 0,.slice none 0 0,.slice none 0 0]) ?_ 0 _ rfl;(with_reducible repeat (first|refine bN ?_ _|refine bD ?_|refine bA ?_ _));exact Bb.out) Try.underlying51 rfl (by kernel_rfl)) rfl ?_
    exact ⟨_,_,by first|rfl|(simp [errW_none,errW_some] <;> rfl)|(simp [*,errW_none,errW_some] <;> rfl),by first|exact Kd.R_nil _ _ _ _ _|exact Kd.N_nil _ _ _ _ _|exact Kd.V_nil _ _ _ _ _|exact Kd.Q_nil _ _ _ _ _|exact Kd.S_nil _ _ _ _ _,Kd.Q_of_R (by first|exact Kd.R_nil _ _ _ _ _|exact Kd.N_nil _ _ _ _ _|exact Kd.V_nil _ _ _ _ _|exact Kd.Q_nil _ _ _ _ _|exact Kd.S_nil _ _ _ _ _),by repeat (first|(with_reducible first|exact HB.out|apply oA|apply pN|apply o1|refine bS ?_ Be.out|refine bS ?_ Bf.out)|exact HB.out)⟩
   replace c16:=Bool.eq_false_iff.mpr c16
   subst c16
   have H1:((impl_Lock_can.f a0_0 l0_1 l0_2 a1).bind fun t225=>(if t225=true then ((impl_Lock_step.f a0_0 l0_1 l0_2 a1).bind fun bt226=>(some (bt226.1,bt226.2.1,bt226.2.2,true))) else ((impl_Lock_clone.f a0_0 l0_1 l0_2).bind fun bt233=>(some (bt233.1,bt233.2.1,bt233.2.2,false)))))=some (r1,r2,r3,r4):=by rw [if_neg (show ¬ (false=true) by decide)] at H;exact H
   clear H
   have H:=H1
   clear H1
   replace H:=oC H
   obtain ⟨t225,A190,H⟩:=H
   replace H:(if t225=true then ((impl_Lock_step.f a0_0 l0_1 l0_2 a1).bind fun bt226=>(some (bt226.1,bt226.2.1,bt226.2.2,true))) else ((impl_Lock_clone.f a0_0 l0_1 l0_2).bind fun bt233=>(some (bt233.1,bt233.2.1,bt233.2.2,false))))=some (r1,r2,r3,r4):=H
   have A19:=Am A190
   clear A190
   by_cases c20:t225=true
   ·subst c20
    have H1:((impl_Lock_step.f a0_0 l0_1 l0_2 a1).bind fun bt226=>(some (bt226.1,bt226.2.1,bt226.2.2,true)))=some (r1,r2,r3,r4):=by rw [if_pos rfl] at H;exact H
    clear H
    have H:=H1
    clear H1
    replace H:=oC H
    obtain ⟨⟨t226,t227,t230⟩,A210,H⟩:=H
    replace H:(some (t226,t227,t230,true))=some (r1,r2,r3,r4):=H
    have A21:=Am A210
    clear A210
    simp only [Option.some.injEq,Prod.mk.injEq] at H
    obtain ⟨rfl,rfl,rfl,rfl⟩:=H
    have Dq:=Bg.out
    have Dr:=Bh.out
    have BK:=cz0 Ba.out
    have BL:=cz1 Ba.out
    have BM:=cz2 Ba.out
    have BN:=bF Ba.out 0
    have BO:=bF Ba.out 1
    have BP:=bF Ba.out 2
    go_wp2_with (first|((with_reducible refine gC (f:=61) rfl ?_);refine goesL_ (some 21) rfl rfl Try.func61 (by kernel_rfl) rfl #[.agg #[.int .i64 a0_0,.slice A0_1 l0_1.length c0_1,.slice A0_2 l0_2.length c0_2],.int .i64 a1] rfl (by (try simp only [lM,lC,lN]);first|done|rfl|(simp only [lD,lT];rfl)) ?_;(with_reducible refine (impl_Lock_can.calls a0_0 _ _ l0_1 _ _ l0_2 a1 true _ ?side1 ?side2 ?side3 ?side4 A19.out).mono ?_);(case side1=>exact cL (cB HR0_1.out HB.out));(case side2=>exact HC0_1.out);(case side3=>exact cL (cB HR0_2.out HB.out));(case side4=>exact HC0_2.out);rintro e w24 ⟨rfl,hb⟩;refine ⟨_,rfl,?_⟩;have n0_:=Am (bX Ba.out hb);have n1_:=Am (bX Bb.out hb);have n2_:=Am (bP (by repeat (first|(with_reducible first|exact HB.out|apply oA|apply pN|apply o1|refine bS ?_ Be.out|refine bS ?_ Bf.out)|exact HB.out)) hb);clear Ba Bb HB;revert n0_ n1_ n2_;intro Ba Bb HB;(try clear hb);(try clear hb2);(try clear hk);(try clear hi);have BQ:=cz0 Ba.out;have BR:=cz1 Ba.out;have BS:=cz2 Ba.out;have BT:=bF Ba.out 0;have BU:=bF Ba.out 1;have BV:=bF Ba.out 2)|((with_reducible refine gC (f:=63) rfl ?_);refine goesL_ (some 27) rfl rfl Try.func63 (by kernel_rfl) rfl #[.agg #[.int .i64 a0_0,.slice A0_1 l0_1.length c0_1,.slice A0_2 l0_2.length c0_2],.int .i64 a1] rfl (by (try simp only [lM,lC,lN]);first|done|rfl|(simp only [lD,lT];rfl)) ?_;(with_reducible refine (impl_Lock_step.calls a0_0 _ _ l0_1 _ _ l0_2 a1 t226 t227 t230 _ ?side1 ?side2 ?side3 ?side4 A21.out).mono ?_);(case side1=>exact cL (cB HR0_1.out HB.out));(case side2=>exact HC0_1.out);(case side3=>exact cL (cB HR0_2.out HB.out));(case side4=>exact HC0_2.out);rintro e w26 ⟨v228,v231,rfl,ho0,ho1,hb⟩;refine ⟨_,rfl,?_⟩;have n0_:=Am (rW ho0 (bZ (by repeat (first|(with_reducible first|exact HB.out|apply oA|apply pN|apply o1|refine bS ?_ Be.out|refine bS ?_ Bf.out)|exact HB.out))));have n1_:=Am (Kd.Q_lower ho1 (bZ (by repeat (first|(with_reducible first|exact HB.out|apply oA|apply pN|apply o1|refine bS ?_ Be.out|refine bS ?_ Bf.out)|exact HB.out))));have n2_:=Am (bX Ba.out hb);have n3_:=Am (bX Bb.out hb);have n4_:=Am (bP (by repeat (first|(with_reducible first|exact HB.out|apply oA|apply pN|apply o1|refine bS ?_ Be.out|refine bS ?_ Bf.out)|exact HB.out)) hb);clear Ba Bb HB;revert n0_ n1_ n2_ n3_ n4_;intro Bi Bj Ba Bb HB;(try clear hb);(try clear hb2);(try clear hk);(try clear hi);(try clear ho0);(try clear ho1);have BW:=cz0 Bb.out;have BX:=cz1 Bb.out;have BY:=cz2 Bb.out;have BZ:=bF Bb.out 0;have B0:=bF Bb.out 1;have B1:=bF Bb.out 2;obtain ⟨Ao28,co28,eo28⟩:=rC Bi.out;subst eo28;obtain ⟨Ao29,co29,eo29,_⟩:=Kd.Q_slice Bj.out;subst eo29))
    refine bodyPost_ret (results_ct rfl _ _ Bd 51 #[.int .i64 t226,.slice Ao28 t227.length co28,.slice Ao29 t230.length co29] (0,0) _ rfl (by (with_reducible repeat (first|refine bN ?_ _|refine bD ?_|refine bA ?_ _));refine bT (cs:=#[.int .i64 t226,.slice Ao28 t227.length co28,.slice none 0 0]) ?_ 2 _ rfl;(with_reducible repeat (first|refine bN ?_ _|refine bD ?_|refine bA ?_ _));refine bT (cs:=#[.int .i64 t226,.slice none 0 0,.slice none 0 0]) ?_ 1 _ rfl;(with_reducible repeat (first|refine bN ?_ _|refine bD ?_|refine bA ?_ _));refine bT (cs:=#[.int .i64 0,.slice none 0 0,.slice none 0 0]) ?_ 0 _ rfl;(with_reducible repeat (first|refine bN ?_ _|refine bD ?_|refine bA ?_ _));exact Bb.out) Try.underlying51 rfl (by kernel_rfl)) rfl ?_
    exact ⟨_,_,by first|rfl|(simp [errW_none,errW_some] <;> rfl)|(simp [*,errW_none,errW_some] <;> rfl),by (with_reducible repeat (first|apply rA|apply rN|apply rD));exact rM (rF (p:=⟨Bd,2,none⟩) (rF (p:=⟨Bd,1,none⟩) (rF (p:=⟨Bd,0,none⟩) (rT Bi.out Bb.out (by decide)) (fun _ hk=>hk.2) (.int .i64 t226)) (fun _ hk=>hk.2) (.slice Ao28 t227.length co28)) (fun _ hk=>hk.2) (.slice Ao29 t230.length co29)) (fun _ hk=>trivial),by (with_reducible repeat (first|apply Kd.Q_alloc|apply Kd.Q_drewN|apply Kd.Q_drew));exact qM (Kd.Q_far (p:=⟨Bd,2,none⟩) (Kd.Q_far (p:=⟨Bd,1,none⟩) (Kd.Q_far (p:=⟨Bd,0,none⟩) (Kd.Q_types Bj.out Bb.out (by decide)) (fun _ hk=>hk.2) (.int .i64 t226)) (fun _ hk=>hk.2) (.slice Ao28 t227.length co28)) (fun _ hk=>hk.2) (.slice Ao29 t230.length co29)) (fun _ hk=>trivial),by repeat (first|(with_reducible first|exact HB.out|apply oA|apply pN|apply o1|refine bS ?_ Be.out|refine bS ?_ Bf.out)|exact HB.out)⟩
   replace c20:=Bool.eq_false_iff.mpr c20
   subst c20
   have H1:((impl_Lock_clone.f a0_0 l0_1 l0_2).bind fun bt233=>(some (bt233.1,bt233.2.1,bt233.2.2,false)))=some (r1,r2,r3,r4):=by rw [if_neg (show ¬ (false=true) by decide)] at H;exact H
   clear H
   have H:=H1
   clear H1
   replace H:=oC H
   obtain ⟨⟨t233,t234,t237⟩,A300,H⟩:=H
   replace H:(some (t233,t234,t237,false))=some (r1,r2,r3,r4):=H
   have A30:=Am A300
   clear A300
   simp only [Option.some.injEq,Prod.mk.injEq] at H
   obtain ⟨rfl,rfl,rfl,rfl⟩:=H
   have Ds:=Bg.out
   have Dt:=Bh.out
   have B2:=cz0 Ba.out
   have B3:=cz1 Ba.out
   have B4:=cz2 Ba.out
   have B5:=bF Ba.out 0
   have B6:=bF Ba.out 1
   have B7:=bF Ba.out 2
   go_wp2_with (first|((with_reducible refine gC (f:=61) rfl ?_);refine goesL_ (some 21) rfl rfl Try.func61 (by kernel_rfl) rfl #[.agg #[.int .i64 a0_0,.slice A0_1 l0_1.length c0_1,.slice A0_2 l0_2.length c0_2],.int .i64 a1] rfl (by (try simp only [lM,lC,lN]);first|done|rfl|(simp only [lD,lT];rfl)) ?_;(with_reducible refine (impl_Lock_can.calls a0_0 _ _ l0_1 _ _ l0_2 a1 false _ ?side1 ?side2 ?side3 ?side4 A19.out).mono ?_);(case side1=>exact cL (cB HR0_1.out HB.out));(case side2=>exact HC0_1.out);(case side3=>exact cL (cB HR0_2.out HB.out));(case side4=>exact HC0_2.out);rintro e w33 ⟨rfl,hb⟩;refine ⟨_,rfl,?_⟩;have n0_:=Am (bX Ba.out hb);have n1_:=Am (bX Bb.out hb);have n2_:=Am (bP (by repeat (first|(with_reducible first|exact HB.out|apply oA|apply pN|apply o1|refine bS ?_ Be.out|refine bS ?_ Bf.out)|exact HB.out)) hb);clear Ba Bb HB;revert n0_ n1_ n2_;intro Ba Bb HB;(try clear hb);(try clear hb2);(try clear hk);(try clear hi);have B8:=cz0 Ba.out;have B9:=cz1 Ba.out;have Da:=cz2 Ba.out;have Db:=bF Ba.out 0;have Dc:=bF Ba.out 1;have Dd:=bF Ba.out 2)|((with_reducible refine gC (f:=62) rfl ?_);refine goesL_ (some 24) rfl rfl Try.func62 (by kernel_rfl) rfl #[.agg #[.int .i64 a0_0,.slice A0_1 l0_1.length c0_1,.slice A0_2 l0_2.length c0_2]] rfl (by (try simp only [lM,lC,lN]);first|done|rfl|(simp only [lD,lT];rfl)) ?_;(with_reducible refine (impl_Lock_clone.calls a0_0 _ _ l0_1 _ _ l0_2 t233 t234 t237 _ ?side1 ?side2 ?side3 ?side4 A30.out).mono ?_);(case side1=>exact cL (cB HR0_1.out HB.out));(case side2=>exact HC0_1.out);(case side3=>exact cL (cB HR0_2.out HB.out));(case side4=>exact HC0_2.out);rintro e w35 ⟨v235,v238,rfl,ho0,ho1,hb⟩;refine ⟨_,rfl,?_⟩;have n0_:=Am (rW ho0 (bZ (by repeat (first|(with_reducible first|exact HB.out|apply oA|apply pN|apply o1|refine bS ?_ Be.out|refine bS ?_ Bf.out)|exact HB.out))));have n1_:=Am (rW ho1 (bZ (by repeat (first|(with_reducible first|exact HB.out|apply oA|apply pN|apply o1|refine bS ?_ Be.out|refine bS ?_ Bf.out)|exact HB.out))));have n2_:=Am (bX Ba.out hb);have n3_:=Am (bX Bb.out hb);have n4_:=Am (bP (by repeat (first|(with_reducible first|exact HB.out|apply oA|apply pN|apply o1|refine bS ?_ Be.out|refine bS ?_ Bf.out)|exact HB.out)) hb);clear Ba Bb HB;revert n0_ n1_ n2_ n3_ n4_;intro Bk Bl Ba Bb HB;(try clear hb);(try clear hb2);(try clear hk);(try clear hi);(try clear ho0);(try clear ho1);have De:=cz0 Bb.out;have Df:=cz1 Bb.out;have Dg:=cz2 Bb.out;have Dh:=bF Bb.out 0;have Di:=bF Bb.out 1;have Dj:=bF Bb.out 2;obtain ⟨Ao37,co37,eo37⟩:=rC Bk.out;subst eo37;obtain ⟨Ao38,co38,eo38⟩:=rC Bl.out;subst eo38))
   refine bodyPost_ret (results_ct rfl _ _ Bd 51 #[.int .i64 t233,.slice Ao37 t234.length co37,.slice Ao38 t237.length co38] (0,0) _ rfl (by (with_reducible repeat (first|refine bN ?_ _|refine bD ?_|refine bA ?_ _));refine bT (cs:=#[.int .i64 t233,.slice Ao37 t234.length co37,.slice none 0 0]) ?_ 2 _ rfl;(with_reducible repeat (first|refine bN ?_ _|refine bD ?_|refine bA ?_ _));refine bT (cs:=#[.int .i64 t233,.slice none 0 0,.slice none 0 0]) ?_ 1 _ rfl;(with_reducible repeat (first|refine bN ?_ _|refine bD ?_|refine bA ?_ _));refine bT (cs:=#[.int .i64 0,.slice none 0 0,.slice none 0 0]) ?_ 0 _ rfl;(with_reducible repeat (first|refine bN ?_ _|refine bD ?_|refine bA ?_ _));exact Bb.out) Try.underlying51 rfl (by kernel_rfl)) rfl ?_
   exact ⟨_,_,by first|rfl|(simp [errW_none,errW_some] <;> rfl)|(simp [*,errW_none,errW_some] <;> rfl),by (with_reducible repeat (first|apply rA|apply rN|apply rD));exact rM (rF (p:=⟨Bd,2,none⟩) (rF (p:=⟨Bd,1,none⟩) (rF (p:=⟨Bd,0,none⟩) (rT Bk.out Bb.out (by decide)) (fun _ hk=>hk.2) (.int .i64 t233)) (fun _ hk=>hk.2) (.slice Ao37 t234.length co37)) (fun _ hk=>hk.2) (.slice Ao38 t237.length co38)) (fun _ hk=>trivial),Kd.Q_of_R (by (with_reducible repeat (first|apply rA|apply rN|apply rD));exact rM (rF (p:=⟨Bd,2,none⟩) (rF (p:=⟨Bd,1,none⟩) (rF (p:=⟨Bd,0,none⟩) (rT Bl.out Bb.out (by decide)) (fun _ hk=>hk.2) (.int .i64 t233)) (fun _ hk=>hk.2) (.slice Ao37 t234.length co37)) (fun _ hk=>hk.2) (.slice Ao38 t237.length co38)) (fun _ hk=>trivial)),by repeat (first|(with_reducible first|exact HB.out|apply oA|apply pN|apply o1|refine bS ?_ Be.out|refine bS ?_ Bf.out)|exact HB.out)⟩

end Go.Proofs.Ytpdfkbggaihfpaa.PFnLockWord
