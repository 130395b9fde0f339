/- Proved here, without a condition beyond those that each theorem states: what the Go functions named below do is what the plain functions of the same names say. Written by xprint.py, a program of this session. -/
import Derived.Test.YtpdfkbggaihfpaaPFnPagesGivex0
import Derived.Test.YtpdfkbggaihfpaaPFnPagesGivex7
import Derived.Test.YtpdfkbggaihfpaaPFnPagesGivex11
import Derived.Test.YtpdfkbggaihfpaaPFnPagesGivex12
import Derived.Test.YtpdfkbggaihfpaaPFnPagesGivex13
namespace Go.Proofs.Ytpdfkbggaihfpaa.PFnPagesGive
open Go.RowKit Go.Proofs.YtpdfkbggaihfpaaW.PrintWords Go.Proofs.YtpdfkbggaihfpaaW.PrintLast Go.Proofs.YtpdfkbggaihfpaaW.PrintMore
attribute [local go_sem] max2_int min2_int max_two min_two max_three min_three max_four min_four   -- for this text's walks alone
set_option linter.unusedVariables false
set_option linter.unusedSimpArgs false

attribute [local go_sem ↓] isSome_setCell_
/-! ### spec_PagesGive: function 28 -/
def spec_PagesGive.j0 : Nat → Int → Bool → List ByteArray → List Int → Option (List ByteArray × List Int × Bool)
|0, _, _, _, _ => none
|k + 1, x1, x14, x291000, x291001 => if x14 = true then (some (([] : List ByteArray), ([] : List Int), false)) else ((spec_l1Copy.f x291000 x291001).bind fun bt294 => ((spec_l1Give.f bt294.1 bt294.2 x1).bind fun bt300 => (some (bt300.1, bt300.2, true))))
def spec_PagesGive.f (k : Nat) (l0_0 : List ByteArray) (l0_1 : List Int) (a1 : Int) : Option (List ByteArray × List Int × Bool) := (spec_PagesOk.f k l0_0 l0_1).bind fun t292 => (if t292 = true then ((spec_l1Used.f l0_0 l0_1 a1).bind fun t293 => (spec_PagesGive.j0 k a1 (!t293) l0_0 l0_1)) else (spec_PagesGive.j0 k a1 true l0_0 l0_1))
theorem spec_PagesGive.mono_l : ∀ k, (∀ y0 y1 y2 y3, LeO (spec_PagesGive.j0 k y0 y1 y2 y3) (spec_PagesGive.j0 (k + 1) y0 y1 y2 y3))
|0 => fun _ _ _ _ r h => by simp [spec_PagesGive.j0] at h
|k + 1 => by
  have ih0 := spec_PagesGive.mono_l k
  ·intro y0 y1 y2 y3
   unfold spec_PagesGive.j0
   repeat' first
  |(with_reducible exact ih0 _ _ _ _)
  |(with_reducible exact spec_PagesOk.mono _ _ _)
  |(with_reducible exact LeO.refl _)
  |(with_reducible exact LeO.none _)
  |(with_reducible refine LeO.ite ?_ ?_)
  |(with_reducible refine LeO.bind ?_ (fun _ => ?_))
  |exact ih0 _ _ _ _
  |exact spec_PagesOk.mono _ _ _
  |exact LeO.none _
  |refine LeO.ite ?_ ?_
  |refine LeO.bind ?_ (fun _ => ?_)
theorem spec_PagesGive.mono : ∀ a0 a1 a2 k, LeO (spec_PagesGive.f k a0 a1 a2) (spec_PagesGive.f (k + 1) a0 a1 a2) := by
 intro a0 a1 a2 k
 have ih0 := spec_PagesGive.mono_l k
 unfold spec_PagesGive.f
 repeat' first
  |(with_reducible exact ih0 _ _ _ _)
  |(with_reducible exact spec_PagesOk.mono _ _ _)
  |(with_reducible exact LeO.refl _)
  |(with_reducible exact LeO.none _)
  |(with_reducible refine LeO.ite ?_ ?_)
  |(with_reducible refine LeO.bind ?_ (fun _ => ?_))
  |exact ih0 _ _ _ _
  |exact spec_PagesOk.mono _ _ _
  |exact LeO.none _
  |refine LeO.ite ?_ ?_
  |refine LeO.bind ?_ (fun _ => ?_)
set_option maxHeartbeats 2000000 in
set_option maxRecDepth 100000 in
theorem spec_PagesGive.calls (k:Nat) (A0_0:Option Addr) (c0_0:Nat) (l0_0:List ByteArray) (A0_1:Option Addr) (c0_1:Nat) (l0_1:List Int) (a1:Int) (r1:List ByteArray) (r2:List Int) (r3:Bool) (w:World) (hr0_0:Kd.C Kd.string w A0_0 l0_0.length l0_0) (hc0_0:l0_0.length≤c0_0) (hr0_1:Kd.C (Kd.int .i64) w A0_1 l0_1.length l0_1) (hc0_1:l0_1.length≤c0_1) (h:spec_PagesGive.f k l0_0 l0_1 a1=some (r1,r2,r3)) :
  Calls Try.prog 28 #[.agg #[.slice A0_0 l0_0.length c0_0,.slice A0_1 l0_1.length c0_1],.int .i64 a1] w fun e w'=>∃ v0_ v1_:Value,e=.returned (.tuple #[.agg #[v0_,v1_],.bool r3])∧Kd.R Kd.string 9 w' w.heap.size (fun _=>True) v0_ r1∧Kd.R (Kd.int .i64) 3 w' w.heap.size (fun _=>True) v1_ r2∧Below w.heap.size w w':=by
 have hu26:=Try.underlying26
 have HR0_0:=Am hr0_0
 have HC0_0:=Am hc0_0
 clear hr0_0 hc0_0
 have HR0_1:=Am hr0_1
 have HC0_1:=Am hc0_1
 clear hr0_1 hc0_1
 have HB:=Am (Below.refl w.heap.size w)
 have H:((spec_PagesOk.f k l0_0 l0_1).bind fun t292=>(if t292=true then ((spec_l1Used.f l0_0 l0_1 a1).bind fun t293=>(spec_PagesGive.j0 k a1 (!t293) l0_0 l0_1)) else (spec_PagesGive.j0 k a1 true l0_0 l0_1)))=some (r1,r2,r3):=h
 clear h
 have HC3:=Am H
 clear H
 go_enter Try.func28,Try.ntmps28
 go_upto_region 1 with (first|((with_reducible refine gate_dst (N:=2) rfl ?_);refine box_event ?hg (N:=2) ?hd (cs:=#[.slice A0_0 l0_0.length c0_0,.slice A0_1 l0_1.length c0_1]) (t:=26) ?hr ?_;(case hd=>rfl);(case hg=>rfl);(case hr=>first|(go_simp;done)|(go_simp;rfl));intro Bc hg w4 hbox hb;have n0_:=Am (bP (by repeat (first|(with_reducible first|exact HB.out|apply oA|apply pN|apply o1)|exact HB.out)) hb);have n1_:=Am (hbox);have n2_:=Am ((by rw [hg];exact (bZ (by repeat (first|(with_reducible first|exact HB.out|apply oA|apply pN|apply o1)|exact HB.out))):w.heap.size≤Bc));have n3_:=Am ((by rw [hg];exact (bZ (by repeat (first|(with_reducible first|exact HB.out|apply oA|apply pN|apply o1)|exact HB.out))):w.heap.size≤Bc));clear HB;revert n0_ n1_ n2_ n3_;intro HB Ba BK Be;clear hb hbox hg)|((with_reducible refine gate_dst (N:=4) rfl ?_);refine box_event ?hg (N:=4) ?hd (cs:=#[.slice none 0 0,.slice none 0 0]) (t:=26) ?hr ?_;(case hd=>rfl);(case hg=>rfl);(case hr=>first|(go_simp;done)|(go_simp;rfl));intro Bd hg w5 hbox hb;have n0_:=Am (bX Ba.out hb);have n1_:=Am (bP (by repeat (first|(with_reducible first|exact HB.out|apply oA|apply pN|apply o1|refine bS ?_ Be.out)|exact HB.out)) hb);have n2_:=Am (hbox);have n3_:=Am ((by rw [hg];exact (bZ (by repeat (first|(with_reducible first|exact HB.out|apply oA|apply pN|apply o1|refine bS ?_ Be.out)|exact HB.out))):w.heap.size≤Bd));have n4_:=Am ((by rw [hg];exact (bZ (by repeat (first|(with_reducible first|exact HB.out|apply oA|apply pN|apply o1|refine bS ?_ Be.out)|exact HB.out))):w.heap.size≤Bd));have n5_:=Am ((nL Ba.out hg));have n6_:=Am ((nG Ba.out hg));clear Ba HB;revert n0_ n1_ n2_ n3_ n4_ n5_ n6_;intro Ba HB Bb BL Bf Bg Bh;clear hb hbox hg))
 (try simp only [Act.put,lA,lZ,lS])
 go_cut [14] (fun v14 wc=>∃ (kq:Nat) (x14_2:Bool),v14=.bool x14_2∧Aside0 (spec_PagesGive.j0 kq a1 x14_2 l0_0 l0_1=some (r1,r2,r3))∧Aside0 (kq≤k)∧Aside0 (wc.heap[Bc]?=some (.cells #[(.slice A0_0 l0_0.length c0_0),(.slice A0_1 l0_1.length c0_1)] 26 (0,0)))∧Aside0 (wc.heap[Bd]?=some (.cells #[(.slice none 0 0),(.slice none 0 0)] 26 (0,0)))∧Aside0 (Below w.heap.size w wc))
 case first =>
  have H:=HC3.out
  clear HC3
  replace H:=oC H
  obtain ⟨t292,A60,H⟩:=H
  replace H:(if t292=true then ((spec_l1Used.f l0_0 l0_1 a1).bind fun t293=>(spec_PagesGive.j0 k a1 (!t293) l0_0 l0_1)) else (spec_PagesGive.j0 k a1 true l0_0 l0_1))=some (r1,r2,r3):=H
  have A6:=Am A60
  clear A60
  by_cases c7:t292=true
  rotate_left
  ·replace c7:=Bool.eq_false_iff.mpr c7
   subst c7
   have H1:(spec_PagesGive.j0 k a1 true l0_0 l0_1)=some (r1,r2,r3):=by rw [if_neg (show ¬ (false=true) by decide)] at H;exact H
   clear H
   have H:=H1
   clear H1
   have H':=Am H
   clear H
   have BM:=Bg.out
   have BN:=Bh.out
   have Bu:=cz0 Ba.out
   have Bv:=cz1 Ba.out
   have Bw:=bF Ba.out 0
   have Bx:=bF Ba.out 1
   go_wp2_with (first|((with_reducible refine gate_callee (f:=42) rfl ?_);refine goesL_ (some 7) rfl rfl Try.func42 (by kernel_rfl) rfl #[.agg #[.slice A0_0 l0_0.length c0_0,.slice A0_1 l0_1.length c0_1]] rfl (by (try simp only [lM,lC,lN]);first|done|rfl|(simp only [lD,lT];rfl)) ?_;(with_reducible refine (spec_PagesOk.calls k _ _ l0_0 _ _ l0_1 false _ ?side1 ?side2 ?side3 ?side4 A6.out).mono ?_);(case side1=>repeat (first|exact (cB HR0_0.out HB.out)|(with_reducible refine cA ?_ _)|(with_reducible refine cN ?_ _)|(with_reducible refine cD ?_)));(case side2=>exact HC0_0.out);(case side3=>repeat (first|exact (cB HR0_1.out HB.out)|(with_reducible refine cA ?_ _)|(with_reducible refine cN ?_ _)|(with_reducible refine cD ?_)));(case side4=>exact HC0_1.out);rintro e w16 ⟨rfl,hb⟩;refine ⟨_,rfl,?_⟩;have n0_:=Am (bX Ba.out hb);have n1_:=Am (bX Bb.out hb);have n2_:=Am (bP (by repeat (first|(with_reducible first|exact HB.out|apply oA|apply pN|apply o1|refine bS ?_ Be.out|refine bS ?_ Bf.out)|exact HB.out)) hb);clear Ba Bb HB;revert n0_ n1_ n2_;intro Ba Bb HB;(try clear hb);(try clear hb2);(try clear hk);(try clear hi)))
   go_meet
   case rel=>exact ⟨_,(true),(by first|rfl|(simp;done)|(simp [*];done)),H',⟨by first|omega|exact Nat.le_refl _⟩,⟨by (with_reducible repeat (first|refine bN ?_ _|refine bD ?_|refine bA ?_ _));exact Ba.out⟩,⟨by (with_reducible repeat (first|refine bN ?_ _|refine bD ?_|refine bA ?_ _));exact Bb.out⟩,⟨by repeat (first|(with_reducible first|exact HB.out|apply oA|apply pN|apply o1|refine bS ?_ Be.out|refine bS ?_ Bf.out)|exact HB.out)⟩⟩
  subst c7
  have H1:((spec_l1Used.f l0_0 l0_1 a1).bind fun t293=>(spec_PagesGive.j0 k a1 (!t293) l0_0 l0_1))=some (r1,r2,r3):=by rw [if_pos rfl] at H;exact H
  clear H
  have H:=H1
  clear H1
  replace H:=oC H
  obtain ⟨t293,A80,H⟩:=H
  replace H:(spec_PagesGive.j0 k a1 (!t293) l0_0 l0_1)=some (r1,r2,r3):=H
  have A8:=Am A80
  clear A80
  have H':=Am H
  clear H
  have BS:=Bg.out
  have BT:=Bh.out
  have Bm:=cz0 Ba.out
  have Bn:=cz1 Ba.out
  have Bo:=bF Ba.out 0
  have Bp:=bF Ba.out 1
  go_wp2_with (first|((with_reducible refine gate_callee (f:=42) rfl ?_);refine goesL_ (some 7) rfl rfl Try.func42 (by kernel_rfl) rfl #[.agg #[.slice A0_0 l0_0.length c0_0,.slice A0_1 l0_1.length c0_1]] rfl (by (try simp only [lM,lC,lN]);first|done|rfl|(simp only [lD,lT];rfl)) ?_;(with_reducible refine (spec_PagesOk.calls k _ _ l0_0 _ _ l0_1 true _ ?side1 ?side2 ?side3 ?side4 A6.out).mono ?_);(case side1=>repeat (first|exact (cB HR0_0.out HB.out)|(with_reducible refine cA ?_ _)|(with_reducible refine cN ?_ _)|(with_reducible refine cD ?_)));(case side2=>exact HC0_0.out);(case side3=>repeat (first|exact (cB HR0_1.out HB.out)|(with_reducible refine cA ?_ _)|(with_reducible refine cN ?_ _)|(with_reducible refine cD ?_)));(case side4=>exact HC0_1.out);rintro e w11 ⟨rfl,hb⟩;refine ⟨_,rfl,?_⟩;have n0_:=Am (bX Ba.out hb);have n1_:=Am (bX Bb.out hb);have n2_:=Am (bP (by repeat (first|(with_reducible first|exact HB.out|apply oA|apply pN|apply o1|refine bS ?_ Be.out|refine bS ?_ Bf.out)|exact HB.out)) hb);clear Ba Bb HB;revert n0_ n1_ n2_;intro Ba Bb HB;(try clear hb);(try clear hb2);(try clear hk);(try clear hi);have Bq:=cz0 Ba.out;have Br:=cz1 Ba.out;have Bs:=bF Ba.out 0;have Bt:=bF Ba.out 1)|(go_at_call 50;(with_reducible refine (spec_l1Used.calls _ _ l0_0 _ _ l0_1 a1 t293 _ ?side1 ?side2 ?side3 ?side4 A8.out).mono ?_);(case side1=>repeat (first|exact (cB HR0_0.out HB.out)|(with_reducible refine cA ?_ _)|(with_reducible refine cN ?_ _)|(with_reducible refine cD ?_)));(case side2=>exact HC0_0.out);(case side3=>repeat (first|exact (cB HR0_1.out HB.out)|(with_reducible refine cA ?_ _)|(with_reducible refine cN ?_ _)|(with_reducible refine cD ?_)));(case side4=>exact HC0_1.out);rintro e w13 ⟨rfl,hb⟩;have n0_:=Am (bX Ba.out hb);have n1_:=Am (bX Bb.out hb);have n2_:=Am (bP (by repeat (first|(with_reducible first|exact HB.out|apply oA|apply pN|apply o1|refine bS ?_ Be.out|refine bS ?_ Bf.out)|exact HB.out)) hb);clear Ba Bb HB;revert n0_ n1_ n2_;intro Ba Bb HB;(try clear hb);(try clear hb2);(try clear hk);(try clear hi)))
  go_meet
  case rel=>exact ⟨_,(!t293),(by first|rfl|(simp;done)|(simp [*];done)),H',⟨by first|omega|exact Nat.le_refl _⟩,⟨by (with_reducible repeat (first|refine bN ?_ _|refine bD ?_|refine bA ?_ _));exact Ba.out⟩,⟨by (with_reducible repeat (first|refine bN ?_ _|refine bD ?_|refine bA ?_ _));exact Bb.out⟩,⟨by repeat (first|(with_reducible first|exact HB.out|apply oA|apply pN|apply o1|refine bS ?_ Be.out|refine bS ?_ Bf.out)|exact HB.out)⟩⟩
 case rest =>
  clear HC3
  try clear c1
  try clear c2
  try clear p2
  try clear c4
  try clear c7
  try clear c9
  try clear c14
  try clear Bm
  try clear Bn
  try clear Bq
  try clear Br
  try clear Bu
  try clear Bv
  try clear Bo
  try clear Bp
  try clear Bs
  try clear Bt
  try clear Bw
  try clear Bx
  obtain ⟨kq,x14_2,rfl,HA,BU,Ba,Bb,HB⟩:=hcut
  cases kq with
 |zero=>exact absurd HA.out (by simp [spec_PagesGive.j0])
 |succ kj2 =>
   have H:=HA.out
   clear HA
   simp only [spec_PagesGive.j0] at H
   by_cases c17:x14_2=true
   ·subst c17
    have H1:(some (([]:List ByteArray),([]:List Int),false))=some (r1,r2,r3):=by rw [if_pos rfl] at H;exact H
    clear H
    have H:=H1
    clear H1
    simp only [Option.some.injEq,Prod.mk.injEq] at H
    obtain ⟨rfl,rfl,rfl⟩:=H
    have BO:=Bh.out
    have BP:=Bg.out
    have By:=cz0 Bb.out
    have Bz:=cz1 Bb.out
    have BA:=bF Bb.out 0
    have BB:=bF Bb.out 1
    go_wp2
    refine bodyPost_ret (results_ct rfl _ _ Bd 26 #[.slice none 0 0,.slice none 0 0] (0,0) _ rfl (by (with_reducible repeat (first|refine bN ?_ _|refine bD ?_|refine bA ?_ _));refine blk_put (cs:=#[.slice none 0 0,.slice none 0 0]) ?_ 1 _ rfl;(with_reducible repeat (first|refine bN ?_ _|refine bD ?_|refine bA ?_ _));refine blk_put (cs:=#[.slice none 0 0,.slice none 0 0]) ?_ 0 _ rfl;(with_reducible repeat (first|refine bN ?_ _|refine bD ?_|refine bA ?_ _));exact Bb.out) Try.underlying26 rfl (by kernel_rfl)) rfl ?_
    exact ⟨_,_,by first|rfl|(simp [errW_none,errW_some] <;> rfl)|(simp [*,errW_none,errW_some] <;> rfl),by first|exact Kd.R_nil _ _ _ _ _|exact Kd.N_nil _ _ _ _ _|exact Kd.V_nil _ _ _ _ _|exact Kd.Q_nil _ _ _ _ _|exact Kd.S_nil _ _ _ _ _,by first|exact Kd.R_nil _ _ _ _ _|exact Kd.N_nil _ _ _ _ _|exact Kd.V_nil _ _ _ _ _|exact Kd.Q_nil _ _ _ _ _|exact Kd.S_nil _ _ _ _ _,by repeat (first|(with_reducible first|exact HB.out|apply oA|apply pN|apply o1|refine bS ?_ Be.out|refine bS ?_ Bf.out)|exact HB.out)⟩
   replace c17:=Bool.eq_false_iff.mpr c17
   subst c17
   have H1:((spec_l1Copy.f l0_0 l0_1).bind fun bt294=>((spec_l1Give.f bt294.1 bt294.2 a1).bind fun bt300=>(some (bt300.1,bt300.2,true))))=some (r1,r2,r3):=by rw [if_neg (show ¬ (false=true) by decide)] at H;exact H
   clear H
   have H:=H1
   clear H1
   replace H:=oC H
   obtain ⟨⟨t294,t297⟩,A200,H⟩:=H
   replace H:((spec_l1Give.f t294 t297 a1).bind fun bt300=>(some (bt300.1,bt300.2,true)))=some (r1,r2,r3):=H
   have A20:=Am A200
   clear A200
   replace H:=oC H
   obtain ⟨⟨t300,t303⟩,A210,H⟩:=H
   replace H:(some (t300,t303,true))=some (r1,r2,r3):=H
   have A21:=Am A210
   clear A210
   simp only [Option.some.injEq,Prod.mk.injEq] at H
   obtain ⟨rfl,rfl,rfl⟩:=H
   have BQ:=Bg.out
   have BR:=Bh.out
   have BC:=cz0 Ba.out
   have BD:=cz1 Ba.out
   have BE:=bF Ba.out 0
   have BF:=bF Ba.out 1
   go_wp2_with (first|((with_reducible refine gate_callee (f:=52) rfl ?_);refine goesL_ (some 17) rfl rfl Try.func52 (by kernel_rfl) rfl #[.agg #[.slice A0_0 l0_0.length c0_0,.slice A0_1 l0_1.length c0_1]] rfl (by (try simp only [lM,lC,lN]);first|done|rfl|(simp only [lD,lT];rfl)) ?_;(with_reducible refine (spec_l1Copy.calls _ _ l0_0 _ _ l0_1 t294 t297 _ ?side1 ?side2 ?side3 ?side4 A20.out).mono ?_);(case side1=>repeat (first|exact (cB HR0_0.out HB.out)|(with_reducible refine cA ?_ _)|(with_reducible refine cN ?_ _)|(with_reducible refine cD ?_)));(case side2=>exact HC0_0.out);(case side3=>repeat (first|exact (cB HR0_1.out HB.out)|(with_reducible refine cA ?_ _)|(with_reducible refine cN ?_ _)|(with_reducible refine cD ?_)));(case side4=>exact HC0_1.out);rintro e w24 ⟨v295,v298,rfl,ho0,ho1,hb⟩;refine ⟨_,rfl,?_⟩;have n0_:=Am (Kd.R_lower ho0 (bZ (by repeat (first|(with_reducible first|exact HB.out|apply oA|apply pN|apply o1|refine bS ?_ Be.out|refine bS ?_ Bf.out)|exact HB.out))));have n1_:=Am (Kd.R_lower ho1 (bZ (by repeat (first|(with_reducible first|exact HB.out|apply oA|apply pN|apply o1|refine bS ?_ Be.out|refine bS ?_ Bf.out)|exact HB.out))));have n2_:=Am (bX Ba.out hb);have n3_:=Am (bX Bb.out hb);have n4_:=Am (bP (by repeat (first|(with_reducible first|exact HB.out|apply oA|apply pN|apply o1|refine bS ?_ Be.out|refine bS ?_ Bf.out)|exact HB.out)) hb);clear Ba Bb HB;revert n0_ n1_ n2_ n3_ n4_;intro Bi Bj Ba Bb HB;(try clear hb);(try clear hb2);(try clear hk);(try clear hi);(try clear ho0);(try clear ho1);obtain ⟨Ao25,co25,eo25⟩:=Kd.R_slice Bi.out;subst eo25;obtain ⟨Ao26,co26,eo26⟩:=Kd.R_slice Bj.out;subst eo26)|((with_reducible refine gate_callee (f:=57) rfl ?_);refine goesL_ (some 19) rfl rfl Try.func57 (by kernel_rfl) rfl #[.agg #[.slice Ao25 t294.length co25,.slice Ao26 t297.length co26],.int .i64 a1] rfl (by (try simp only [lM,lC,lN]);first|done|rfl|(simp only [lD,lT];rfl)) ?_;(with_reducible refine (spec_l1Give.calls (fun k_=>some k_=(.slice Ao25 t294.length co25:Value).ownBlock) (.slice Ao25 t294.length co25) t294 (fun k_=>some k_=(.slice Ao26 t297.length co26:Value).ownBlock) (.slice Ao26 t297.length co26) t297 a1 t300 t303 w _ ?side1 ?side2 ?side3 A21.out).mono ?_);(case side1=>repeat (first|(with_reducible first|exact HB.out|apply oA|apply pN|apply o1|refine bS ?_ Be.out|refine bS ?_ Bf.out)|exact HB.out));(case side2=>exact Kd.R_tight rfl Bi.out);(case side3=>exact Kd.R_tight rfl Bj.out);rintro e w27 ⟨v301,v304,rfl,ho0,ho1,hb,hkp⟩;refine ⟨_,rfl,?_⟩;have n0_:=Am (blk_kept (bL Ba.out) hkp (fun hs_=>Or.elim hs_ (fun e_=>(fun e_=>(Kd.R_ne Bi.out Ba.out (by decide)) e_) e_) (fun e_=>(fun e_=>(Kd.R_ne Bj.out Ba.out (by decide)) e_) e_)));have n1_:=Am (blk_kept (bL Bb.out) hkp (fun hs_=>Or.elim hs_ (fun e_=>(fun e_=>(Kd.R_ne Bi.out Bb.out (by decide)) e_) e_) (fun e_=>(fun e_=>(Kd.R_ne Bj.out Bb.out (by decide)) e_) e_)));have n2_:=Am (rM (ok':=fun k_=>True) ho0 (fun k_ hk_=>trivial));have n3_:=Am (rM (ok':=fun k_=>True) ho1 (fun k_ hk_=>trivial));have n4_:=Am (hb);clear Ba Bb HB Bi Bj;revert n0_ n1_ n2_ n3_ n4_;intro Ba Bb Bk Bl HB;(try clear hb);(try clear hkp);(try clear ho0);(try clear ho1);obtain ⟨Ao28,co28,eo28⟩:=Kd.R_slice Bk.out;subst eo28;have BG:=cz0 Bb.out;have BH:=cz1 Bb.out;have BI:=bF Bb.out 0;have BJ:=bF Bb.out 1;obtain ⟨Ao30,co30,eo30⟩:=Kd.R_slice Bl.out;subst eo30))
   refine bodyPost_ret (results_ct rfl _ _ Bd 26 #[.slice Ao28 t300.length co28,.slice Ao30 t303.length co30] (0,0) _ rfl (by (with_reducible repeat (first|refine bN ?_ _|refine bD ?_|refine bA ?_ _));refine blk_put (cs:=#[.slice Ao28 t300.length co28,.slice none 0 0]) ?_ 1 _ rfl;(with_reducible repeat (first|refine bN ?_ _|refine bD ?_|refine bA ?_ _));refine blk_put (cs:=#[.slice none 0 0,.slice none 0 0]) ?_ 0 _ rfl;(with_reducible repeat (first|refine bN ?_ _|refine bD ?_|refine bA ?_ _));exact Bb.out) Try.underlying26 rfl (by kernel_rfl)) rfl ?_
   exact ⟨_,_,by first|rfl|(simp [errW_none,errW_some] <;> rfl)|(simp [*,errW_none,errW_some] <;> rfl),by (with_reducible repeat (first|apply rA|apply rN|apply rD));exact rM (rF (p:=⟨Bd,1,none⟩) (rF (p:=⟨Bd,0,none⟩) (rT Bk.out Bb.out (by decide)) (fun _ hk=>hk.2) (.slice Ao28 t300.length co28)) (fun _ hk=>hk.2) (.slice Ao30 t303.length co30)) (fun _ hk=>trivial),by (with_reducible repeat (first|apply rA|apply rN|apply rD));exact rM (rF (p:=⟨Bd,1,none⟩) (rF (p:=⟨Bd,0,none⟩) (rT Bl.out Bb.out (by decide)) (fun _ hk=>hk.2) (.slice Ao28 t300.length co28)) (fun _ hk=>hk.2) (.slice Ao30 t303.length co30)) (fun _ hk=>trivial),by repeat (first|(with_reducible first|exact HB.out|apply oA|apply pN|apply o1|refine bS ?_ Be.out|refine bS ?_ Bf.out)|exact HB.out)⟩

end Go.Proofs.Ytpdfkbggaihfpaa.PFnPagesGive
