/- Proved here, without a condition beyond those that each theorem states: what the Go functions named below do is what the plain functions of the same names say. Written by xprint.py, a program of this session. -/
import Derived.Test.YtiifanjjohophaaPFnSigsSendx0
import Derived.Test.YtiifanjjohophaaPFnSigsSendx11
import Derived.Test.YtiifanjjohophaaPFnSigsSendx12
import Derived.Test.YtiifanjjohophaaPFnSigsSendx13
import Derived.Test.YtiifanjjohophaaPFnSigsSendx14
namespace Go.Proofs.Ytiifanjjohophaa.PFnSigsSend
open Go.RowKit Go.Proofs.YtiifanjjohophaaW.PrintWords Go.Proofs.YtiifanjjohophaaW.PrintLast Go.Proofs.YtiifanjjohophaaW.PrintMore
attribute [local go_sem] max2_int min2_int max_two min_two max_three min_three max_four min_four   -- for this text's walks alone
set_option linter.unusedVariables false
set_option linter.unusedSimpArgs false

attribute [local go_sem ↓] isSome_setCell_
/-! ### spec_SigsSend: function 35 -/
def spec_SigsSend.j0 : Nat → Int → Bool → List Bool → List Bool → List Int → Option (List Bool × List Bool × List Int × Bool)
|0, _, _, _, _, _ => none
|k + 1, x1, x13, x293000, x293001, x293002 => if x13 = true then (some (([] : List Bool), ([] : List Bool), ([] : List Int), false)) else ((spec_l10Copy.f x293000 x293001 x293002).bind fun bt296 => ((spec_l10Send.f k bt296.1 bt296.2.1 bt296.2.2 x1).bind fun bt305 => (some (bt305.1, bt305.2.1, bt305.2.2, true))))
def spec_SigsSend.f (k : Nat) (l0_0 : List Bool) (l0_1 : List Bool) (l0_2 : List Int) (a1 : Int) : Option (List Bool × List Bool × List Int × Bool) := (spec_SigsOk.f k l0_0 l0_1 l0_2).bind fun t294 => (if t294 = true then ((spec_l6In.f a1 1 8).bind fun t295 => (spec_SigsSend.j0 k a1 (!t295) l0_0 l0_1 l0_2)) else (spec_SigsSend.j0 k a1 true l0_0 l0_1 l0_2))
theorem spec_SigsSend.mono_l : ∀ k, (∀ y0 y1 y2 y3 y4, LeO (spec_SigsSend.j0 k y0 y1 y2 y3 y4) (spec_SigsSend.j0 (k + 1) y0 y1 y2 y3 y4))
|0 => fun _ _ _ _ _ r h => by simp [spec_SigsSend.j0] at h
|k + 1 => by
  have ih0 := spec_SigsSend.mono_l k
  ·intro y0 y1 y2 y3 y4
   unfold spec_SigsSend.j0
   repeat' first
  |(with_reducible exact ih0 _ _ _ _ _)
  |(with_reducible exact spec_SigsOk.mono _ _ _ _)
  |(with_reducible exact spec_l10Send.mono _ _ _ _ _)
  |(with_reducible exact LeO.refl _)
  |(with_reducible exact LeO.none _)
  |(with_reducible refine LeO.ite ?_ ?_)
  |(with_reducible refine LeO.bind ?_ (fun _ => ?_))
  |exact ih0 _ _ _ _ _
  |exact spec_SigsOk.mono _ _ _ _
  |exact spec_l10Send.mono _ _ _ _ _
  |exact LeO.none _
  |refine LeO.ite ?_ ?_
  |refine LeO.bind ?_ (fun _ => ?_)
theorem spec_SigsSend.mono : ∀ a0 a1 a2 a3 k, LeO (spec_SigsSend.f k a0 a1 a2 a3) (spec_SigsSend.f (k + 1) a0 a1 a2 a3) := by
 intro a0 a1 a2 a3 k
 have ih0 := spec_SigsSend.mono_l k
 unfold spec_SigsSend.f
 repeat' first
  |(with_reducible exact ih0 _ _ _ _ _)
  |(with_reducible exact spec_SigsOk.mono _ _ _ _)
  |(with_reducible exact spec_l10Send.mono _ _ _ _ _)
  |(with_reducible exact LeO.refl _)
  |(with_reducible exact LeO.none _)
  |(with_reducible refine LeO.ite ?_ ?_)
  |(with_reducible refine LeO.bind ?_ (fun _ => ?_))
  |exact ih0 _ _ _ _ _
  |exact spec_SigsOk.mono _ _ _ _
  |exact spec_l10Send.mono _ _ _ _ _
  |exact LeO.none _
  |refine LeO.ite ?_ ?_
  |refine LeO.bind ?_ (fun _ => ?_)
set_option maxHeartbeats 2000000 in
set_option maxRecDepth 100000 in
theorem spec_SigsSend.calls (k:Nat) (A0_0:Option Addr) (c0_0:Nat) (l0_0:List Bool) (A0_1:Option Addr) (c0_1:Nat) (l0_1:List Bool) (A0_2:Option Addr) (c0_2:Nat) (l0_2:List Int) (a1:Int) (r1:List Bool) (r2:List Bool) (r3:List Int) (r4:Bool) (w:World) (hr0_0:Kd.C Kd.bool w A0_0 l0_0.length l0_0) (hc0_0:l0_0.length≤c0_0) (hr0_1:Kd.C Kd.bool w A0_1 l0_1.length l0_1) (hc0_1:l0_1.length≤c0_1) (hr0_2:Kd.C (Kd.int .i64) w A0_2 l0_2.length l0_2) (hc0_2:l0_2.length≤c0_2) (h:spec_SigsSend.f k l0_0 l0_1 l0_2 a1=some (r1,r2,r3,r4)) :
  Calls Try.prog 35 #[.agg #[.slice A0_0 l0_0.length c0_0,.slice A0_1 l0_1.length c0_1,.slice A0_2 l0_2.length c0_2],.int .i64 a1] w fun e w'=>∃ v0_ v1_ v2_:Value,e=.returned (.tuple #[.agg #[v0_,v1_,v2_],.bool r4])∧Kd.R Kd.bool 4 w' w.heap.size (fun k_=>some k_≠(v1_:Value).ownBlock) v0_ r1∧Kd.R Kd.bool 4 w' w.heap.size (fun k_=>some k_≠(v0_:Value).ownBlock) v1_ r2∧Kd.R (Kd.int .i64) 3 w' w.heap.size (fun _=>True) v2_ r3∧Below w.heap.size w w':=by
 have hu26:=Try.underlying26
 have HR0_0:=Am hr0_0
 have HC0_0:=Am hc0_0
 clear hr0_0 hc0_0
 have HR0_1:=Am hr0_1
 have HC0_1:=Am hc0_1
 clear hr0_1 hc0_1
 have HR0_2:=Am hr0_2
 have HC0_2:=Am hc0_2
 clear hr0_2 hc0_2
 have HB:=Am (Below.refl w.heap.size w)
 have H:((spec_SigsOk.f k l0_0 l0_1 l0_2).bind fun t294=>(if t294=true then ((spec_l6In.f a1 1 8).bind fun t295=>(spec_SigsSend.j0 k a1 (!t295) l0_0 l0_1 l0_2)) else (spec_SigsSend.j0 k a1 true l0_0 l0_1 l0_2)))=some (r1,r2,r3,r4):=h
 clear h
 have HC3:=Am H
 clear H
 go_enter Try.func35,Try.ntmps35
 go_upto_region 1 with (first|((with_reducible refine gate_dst (N:=2) rfl ?_);refine box_event ?hg (N:=2) ?hd (cs:=#[.slice A0_0 l0_0.length c0_0,.slice A0_1 l0_1.length c0_1,.slice A0_2 l0_2.length c0_2]) (t:=26) ?hr ?_;(case hd=>rfl);(case hg=>rfl);(case hr=>first|(go_simp;done)|(go_simp;rfl));intro Bd hg w4 hbox hb;have n0_:=Am (bP (by repeat (first|(with_reducible first|exact HB.out|apply oA|apply pN|apply o1)|exact HB.out)) hb);have n1_:=Am (hbox);have n2_:=Am ((by rw [hg];exact (bZ (by repeat (first|(with_reducible first|exact HB.out|apply oA|apply pN|apply o1)|exact HB.out))):w.heap.size≤Bd));have n3_:=Am ((by rw [hg];exact (bZ (by repeat (first|(with_reducible first|exact HB.out|apply oA|apply pN|apply o1)|exact HB.out))):w.heap.size≤Bd));clear HB;revert n0_ n1_ n2_ n3_;intro HB Ba BS Be;clear hb hbox hg)|((with_reducible refine gate_dst (N:=4) rfl ?_);refine box_event ?hg (N:=4) ?hd (cs:=#[.slice none 0 0,.slice none 0 0,.slice none 0 0]) (t:=26) ?hr ?_;(case hd=>rfl);(case hg=>rfl);(case hr=>first|(go_simp;done)|(go_simp;rfl));intro Bc hg w5 hbox hb;have n0_:=Am (bX Ba.out hb);have n1_:=Am (bP (by repeat (first|(with_reducible first|exact HB.out|apply oA|apply pN|apply o1|refine bS ?_ Be.out)|exact HB.out)) hb);have n2_:=Am (hbox);have n3_:=Am ((by rw [hg];exact (bZ (by repeat (first|(with_reducible first|exact HB.out|apply oA|apply pN|apply o1|refine bS ?_ Be.out)|exact HB.out))):w.heap.size≤Bc));have n4_:=Am ((by rw [hg];exact (bZ (by repeat (first|(with_reducible first|exact HB.out|apply oA|apply pN|apply o1|refine bS ?_ Be.out)|exact HB.out))):w.heap.size≤Bc));have n5_:=Am ((nL Ba.out hg));have n6_:=Am ((nG Ba.out hg));clear Ba HB;revert n0_ n1_ n2_ n3_ n4_ n5_ n6_;intro Ba HB Bb BT Bf Bg Bh;clear hb hbox hg))
 (try simp only [Act.put,lA,lZ,lS])
 go_cut [13] (fun v13 wc=>∃ (kq:Nat) (x13_2:Bool),v13=.bool x13_2∧Aside0 (spec_SigsSend.j0 kq a1 x13_2 l0_0 l0_1 l0_2=some (r1,r2,r3,r4))∧Aside0 (kq≤k)∧Aside0 (wc.heap[Bd]?=some (.cells #[(.slice A0_0 l0_0.length c0_0),(.slice A0_1 l0_1.length c0_1),(.slice A0_2 l0_2.length c0_2)] 26 (0,0)))∧Aside0 (wc.heap[Bc]?=some (.cells #[(.slice none 0 0),(.slice none 0 0),(.slice none 0 0)] 26 (0,0)))∧Aside0 (Below w.heap.size w wc))
 case first =>
  have H:=HC3.out
  clear HC3
  replace H:=oC H
  obtain ⟨t294,A60,H⟩:=H
  replace H:(if t294=true then ((spec_l6In.f a1 1 8).bind fun t295=>(spec_SigsSend.j0 k a1 (!t295) l0_0 l0_1 l0_2)) else (spec_SigsSend.j0 k a1 true l0_0 l0_1 l0_2))=some (r1,r2,r3,r4):=H
  have A6:=Am A60
  clear A60
  by_cases c7:t294=true
  rotate_left
  ·replace c7:=Bool.eq_false_iff.mpr c7
   subst c7
   have H1:(spec_SigsSend.j0 k a1 true l0_0 l0_1 l0_2)=some (r1,r2,r3,r4):=by rw [if_neg (show ¬ (false=true) by decide)] at H;exact H
   clear H
   have H:=H1
   clear H1
   have H':=Am H
   clear H
   have BU:=Bg.out
   have BV:=Bh.out
   have Bu:=cz0 Ba.out
   have Bv:=cz1 Ba.out
   have Bw:=cz2 Ba.out
   have Bx:=bF Ba.out 0
   have By:=bF Ba.out 1
   have Bz:=bF Ba.out 2
   go_wp2_with (first|((with_reducible refine gate_callee (f:=18) rfl ?_);refine goesL_ (some 7) rfl rfl Try.func18 (by kernel_rfl) rfl #[.agg #[.slice A0_0 l0_0.length c0_0,.slice A0_1 l0_1.length c0_1,.slice A0_2 l0_2.length c0_2]] rfl (by (try simp only [lM,lC,lN]);first|done|rfl|(simp only [lD,lT];rfl)) ?_;(with_reducible refine (spec_SigsOk.calls k _ _ l0_0 _ _ l0_1 _ _ l0_2 false _ ?side1 ?side2 ?side3 ?side4 ?side5 ?side6 A6.out).mono ?_);(case side1=>repeat (first|exact (cB HR0_0.out HB.out)|(with_reducible refine cA ?_ _)|(with_reducible refine cN ?_ _)|(with_reducible refine cD ?_)));(case side2=>exact HC0_0.out);(case side3=>repeat (first|exact (cB HR0_1.out HB.out)|(with_reducible refine cA ?_ _)|(with_reducible refine cN ?_ _)|(with_reducible refine cD ?_)));(case side4=>exact HC0_1.out);(case side5=>repeat (first|exact (cB HR0_2.out HB.out)|(with_reducible refine cA ?_ _)|(with_reducible refine cN ?_ _)|(with_reducible refine cD ?_)));(case side6=>exact HC0_2.out);rintro e w14 ⟨rfl,hb⟩;refine ⟨_,rfl,?_⟩;have n0_:=Am (bX Ba.out hb);have n1_:=Am (bX Bb.out hb);have n2_:=Am (bP (by repeat (first|(with_reducible first|exact HB.out|apply oA|apply pN|apply o1|refine bS ?_ Be.out|refine bS ?_ Bf.out)|exact HB.out)) hb);clear Ba Bb HB;revert n0_ n1_ n2_;intro Ba Bb HB;(try clear hb);(try clear hb2);(try clear hk);(try clear hi)))
   go_meet
   case rel=>exact ⟨_,(true),(by first|rfl|(simp;done)|(simp [*];done)),H',⟨by first|omega|exact Nat.le_refl _⟩,⟨by (with_reducible repeat (first|refine bN ?_ _|refine bD ?_|refine bA ?_ _));exact Ba.out⟩,⟨by (with_reducible repeat (first|refine bN ?_ _|refine bD ?_|refine bA ?_ _));exact Bb.out⟩,⟨by repeat (first|(with_reducible first|exact HB.out|apply oA|apply pN|apply o1|refine bS ?_ Be.out|refine bS ?_ Bf.out)|exact HB.out)⟩⟩
  subst c7
  have H1:((spec_l6In.f a1 1 8).bind fun t295=>(spec_SigsSend.j0 k a1 (!t295) l0_0 l0_1 l0_2))=some (r1,r2,r3,r4):=by rw [if_pos rfl] at H;exact H
  clear H
  have H:=H1
  clear H1
  replace H:=oC H
  obtain ⟨t295,A80,H⟩:=H
  replace H:(spec_SigsSend.j0 k a1 (!t295) l0_0 l0_1 l0_2)=some (r1,r2,r3,r4):=H
  have A8:=Am A80
  clear A80
  have H':=Am H
  clear H
  have B0:=Bg.out
  have B1:=Bh.out
  have Bo:=cz0 Ba.out
  have Bp:=cz1 Ba.out
  have Bq:=cz2 Ba.out
  have Br:=bF Ba.out 0
  have Bs:=bF Ba.out 1
  have Bt:=bF Ba.out 2
  go_wp2_with (first|((with_reducible refine gate_callee (f:=18) rfl ?_);refine goesL_ (some 7) rfl rfl Try.func18 (by kernel_rfl) rfl #[.agg #[.slice A0_0 l0_0.length c0_0,.slice A0_1 l0_1.length c0_1,.slice A0_2 l0_2.length c0_2]] rfl (by (try simp only [lM,lC,lN]);first|done|rfl|(simp only [lD,lT];rfl)) ?_;(with_reducible refine (spec_SigsOk.calls k _ _ l0_0 _ _ l0_1 _ _ l0_2 true _ ?side1 ?side2 ?side3 ?side4 ?side5 ?side6 A6.out).mono ?_);(case side1=>repeat (first|exact (cB HR0_0.out HB.out)|(with_reducible refine cA ?_ _)|(with_reducible refine cN ?_ _)|(with_reducible refine cD ?_)));(case side2=>exact HC0_0.out);(case side3=>repeat (first|exact (cB HR0_1.out HB.out)|(with_reducible refine cA ?_ _)|(with_reducible refine cN ?_ _)|(with_reducible refine cD ?_)));(case side4=>exact HC0_1.out);(case side5=>repeat (first|exact (cB HR0_2.out HB.out)|(with_reducible refine cA ?_ _)|(with_reducible refine cN ?_ _)|(with_reducible refine cD ?_)));(case side6=>exact HC0_2.out);rintro e w11 ⟨rfl,hb⟩;refine ⟨_,rfl,?_⟩;have n0_:=Am (bX Ba.out hb);have n1_:=Am (bX Bb.out hb);have n2_:=Am (bP (by repeat (first|(with_reducible first|exact HB.out|apply oA|apply pN|apply o1|refine bS ?_ Be.out|refine bS ?_ Bf.out)|exact HB.out)) hb);clear Ba Bb HB;revert n0_ n1_ n2_;intro Ba Bb HB;(try clear hb);(try clear hb2);(try clear hk);(try clear hi))|(go_at_call 47;(with_reducible refine (spec_l6In.calls a1 1 8 t295 _ A8.out).mono ?_);rintro e w' ⟨rfl,⟨nd,rfl⟩⟩))
  go_meet
  case rel=>exact ⟨_,(!t295),(by first|rfl|(simp;done)|(simp [*];done)),H',⟨by first|omega|exact Nat.le_refl _⟩,⟨by (with_reducible repeat (first|refine bN ?_ _|refine bD ?_|refine bA ?_ _));exact Ba.out⟩,⟨by (with_reducible repeat (first|refine bN ?_ _|refine bD ?_|refine bA ?_ _));exact Bb.out⟩,⟨by repeat (first|(with_reducible first|exact HB.out|apply oA|apply pN|apply o1|refine bS ?_ Be.out|refine bS ?_ Bf.out)|exact HB.out)⟩⟩
 case rest =>
  clear HC3
  try clear c1
  try clear p2
  try clear c3
  try clear c7
  try clear c9
  try clear c12
  try clear Bo
  try clear Bp
  try clear Bq
  try clear Bu
  try clear Bv
  try clear Bw
  try clear Br
  try clear Bs
  try clear Bt
  try clear Bx
  try clear By
  try clear Bz
  obtain ⟨kq,x13_2,rfl,HA,B2,Ba,Bb,HB⟩:=hcut
  cases kq with
 |zero=>exact absurd HA.out (by simp [spec_SigsSend.j0])
 |succ kj2 =>
   have H:=HA.out
   clear HA
   simp only [spec_SigsSend.j0] at H
   by_cases c15:x13_2=true
   ·subst c15
    have H1:(some (([]:List Bool),([]:List Bool),([]:List Int),false))=some (r1,r2,r3,r4):=by rw [if_pos rfl] at H;exact H
    clear H
    have H:=H1
    clear H1
    simp only [Option.some.injEq,Prod.mk.injEq] at H
    obtain ⟨rfl,rfl,rfl,rfl⟩:=H
    have BW:=Bh.out
    have BX:=Bg.out
    have BA:=cz0 Bb.out
    have BB:=cz1 Bb.out
    have BC:=cz2 Bb.out
    have BD:=bF Bb.out 0
    have BE:=bF Bb.out 1
    have BF:=bF Bb.out 2
    go_wp2
    refine bodyPost_ret (results_ct rfl _ _ Bc 26 #[.slice none 0 0,.slice none 0 0,.slice none 0 0] (0,0) _ rfl (by (with_reducible repeat (first|refine bN ?_ _|refine bD ?_|refine bA ?_ _));refine blk_put (cs:=#[.slice none 0 0,.slice none 0 0,.slice none 0 0]) ?_ 2 _ rfl;(with_reducible repeat (first|refine bN ?_ _|refine bD ?_|refine bA ?_ _));refine blk_put (cs:=#[.slice none 0 0,.slice none 0 0,.slice none 0 0]) ?_ 1 _ rfl;(with_reducible repeat (first|refine bN ?_ _|refine bD ?_|refine bA ?_ _));refine blk_put (cs:=#[.slice none 0 0,.slice none 0 0,.slice none 0 0]) ?_ 0 _ rfl;(with_reducible repeat (first|refine bN ?_ _|refine bD ?_|refine bA ?_ _));exact Bb.out) Try.underlying26 rfl (by kernel_rfl)) rfl ?_
    exact ⟨_,_,_,by first|rfl|(simp [errW_none,errW_some] <;> rfl)|(simp [*,errW_none,errW_some] <;> rfl),by first|exact Kd.R_nil _ _ _ _ _|exact Kd.N_nil _ _ _ _ _|exact Kd.V_nil _ _ _ _ _|exact Kd.Q_nil _ _ _ _ _|exact Kd.S_nil _ _ _ _ _,by first|exact Kd.R_nil _ _ _ _ _|exact Kd.N_nil _ _ _ _ _|exact Kd.V_nil _ _ _ _ _|exact Kd.Q_nil _ _ _ _ _|exact Kd.S_nil _ _ _ _ _,by first|exact Kd.R_nil _ _ _ _ _|exact Kd.N_nil _ _ _ _ _|exact Kd.V_nil _ _ _ _ _|exact Kd.Q_nil _ _ _ _ _|exact Kd.S_nil _ _ _ _ _,by repeat (first|(with_reducible first|exact HB.out|apply oA|apply pN|apply o1|refine bS ?_ Be.out|refine bS ?_ Bf.out)|exact HB.out)⟩
   replace c15:=Bool.eq_false_iff.mpr c15
   subst c15
   have H1:((spec_l10Copy.f l0_0 l0_1 l0_2).bind fun bt296=>((spec_l10Send.f kj2 bt296.1 bt296.2.1 bt296.2.2 a1).bind fun bt305=>(some (bt305.1,bt305.2.1,bt305.2.2,true))))=some (r1,r2,r3,r4):=by rw [if_neg (show ¬ (false=true) by decide)] at H;exact H
   clear H
   have H:=H1
   clear H1
   replace H:=oC H
   obtain ⟨⟨t296,t299,t302⟩,A180,H⟩:=H
   replace H:((spec_l10Send.f kj2 t296 t299 t302 a1).bind fun bt305=>(some (bt305.1,bt305.2.1,bt305.2.2,true)))=some (r1,r2,r3,r4):=H
   have A18:=Am A180
   clear A180
   replace H:=oC H
   obtain ⟨⟨t305,t308,t311⟩,A190,H⟩:=H
   replace H:(some (t305,t308,t311,true))=some (r1,r2,r3,r4):=H
   have A19:=Am A190
   clear A190
   simp only [Option.some.injEq,Prod.mk.injEq] at H
   obtain ⟨rfl,rfl,rfl,rfl⟩:=H
   have BY:=Bg.out
   have BZ:=Bh.out
   have BG:=cz0 Ba.out
   have BH:=cz1 Ba.out
   have BI:=cz2 Ba.out
   have BJ:=bF Ba.out 0
   have BK:=bF Ba.out 1
   have BL:=bF Ba.out 2
   go_wp2_with (first|((with_reducible refine gate_callee (f:=44) rfl ?_);refine goesL_ (some 16) rfl rfl Try.func44 (by kernel_rfl) rfl #[.agg #[.slice A0_0 l0_0.length c0_0,.slice A0_1 l0_1.length c0_1,.slice A0_2 l0_2.length c0_2]] rfl (by (try simp only [lM,lC,lN]);first|done|rfl|(simp only [lD,lT];rfl)) ?_;(with_reducible refine (spec_l10Copy.calls _ _ l0_0 _ _ l0_1 _ _ l0_2 t296 t299 t302 _ ?side1 ?side2 ?side3 ?side4 ?side5 ?side6 A18.out).mono ?_);(case side1=>repeat (first|exact (cB HR0_0.out HB.out)|(with_reducible refine cA ?_ _)|(with_reducible refine cN ?_ _)|(with_reducible refine cD ?_)));(case side2=>exact HC0_0.out);(case side3=>repeat (first|exact (cB HR0_1.out HB.out)|(with_reducible refine cA ?_ _)|(with_reducible refine cN ?_ _)|(with_reducible refine cD ?_)));(case side4=>exact HC0_1.out);(case side5=>repeat (first|exact (cB HR0_2.out HB.out)|(with_reducible refine cA ?_ _)|(with_reducible refine cN ?_ _)|(with_reducible refine cD ?_)));(case side6=>exact HC0_2.out);rintro e w22 ⟨v297,v300,v303,rfl,ho0,ho1,ho2,hb⟩;refine ⟨_,rfl,?_⟩;have n0_:=Am (Kd.R_lower ho0 (bZ (by repeat (first|(with_reducible first|exact HB.out|apply oA|apply pN|apply o1|refine bS ?_ Be.out|refine bS ?_ Bf.out)|exact HB.out))));have n1_:=Am (Kd.R_lower ho1 (bZ (by repeat (first|(with_reducible first|exact HB.out|apply oA|apply pN|apply o1|refine bS ?_ Be.out|refine bS ?_ Bf.out)|exact HB.out))));have n2_:=Am (Kd.R_lower ho2 (bZ (by repeat (first|(with_reducible first|exact HB.out|apply oA|apply pN|apply o1|refine bS ?_ Be.out|refine bS ?_ Bf.out)|exact HB.out))));have n3_:=Am (bX Ba.out hb);have n4_:=Am (bX Bb.out hb);have n5_:=Am (bP (by repeat (first|(with_reducible first|exact HB.out|apply oA|apply pN|apply o1|refine bS ?_ Be.out|refine bS ?_ Bf.out)|exact HB.out)) hb);clear Ba Bb HB;revert n0_ n1_ n2_ n3_ n4_ n5_;intro Bi Bj Bk Ba Bb HB;(try clear hb);(try clear hb2);(try clear hk);(try clear hi);(try clear ho0);(try clear ho1);(try clear ho2);obtain ⟨Ao23,co23,eo23⟩:=Kd.R_slice Bi.out;subst eo23;obtain ⟨Ao24,co24,eo24⟩:=Kd.R_slice Bj.out;subst eo24;obtain ⟨Ao25,co25,eo25⟩:=Kd.R_slice Bk.out;subst eo25)|((with_reducible refine gate_callee (f:=48) rfl ?_);refine goesL_ (some 18) rfl rfl Try.func48 (by kernel_rfl) rfl #[.agg #[.slice Ao23 t296.length co23,.slice Ao24 t299.length co24,.slice Ao25 t302.length co25],.int .i64 a1] rfl (by (try simp only [lM,lC,lN]);first|done|rfl|(simp only [lD,lT];rfl)) ?_;(with_reducible refine (spec_l10Send.calls kj2 (fun k_=>some k_=(.slice Ao23 t296.length co23:Value).ownBlock) (.slice Ao23 t296.length co23) t296 (fun k_=>some k_=(.slice Ao24 t299.length co24:Value).ownBlock) (.slice Ao24 t299.length co24) t299 (fun k_=>some k_=(.slice Ao25 t302.length co25:Value).ownBlock) (.slice Ao25 t302.length co25) t302 a1 t305 t308 t311 w _ ?side1 ?side2 ?side3 ?side4 ?side5 ?side6 A19.out).mono ?_);(case side1=>repeat (first|(with_reducible first|exact HB.out|apply oA|apply pN|apply o1|refine bS ?_ Be.out|refine bS ?_ Bf.out)|exact HB.out));(case side2=>exact Kd.R_tight rfl Bi.out);(case side3=>exact fun k_ e_=>(Bi.out.1 k_ e_.symm));(case side4=>exact Kd.R_tight rfl Bj.out);(case side5=>exact fun k_ e_=>(Bj.out.1 k_ e_.symm));(case side6=>exact Kd.R_tight rfl Bk.out);rintro e w26 ⟨v306,v309,v312,rfl,ho0,ho1,ho2,hb,hkp⟩;refine ⟨_,rfl,?_⟩;have n0_:=Am (blk_kept (bL Ba.out) hkp (fun hs_=>Or.elim hs_ (fun e_=>(fun e_=>(Kd.R_ne Bi.out Ba.out (by decide)) e_) e_) (fun e_=>Or.elim e_ (fun e_=>(fun e_=>(Kd.R_ne Bj.out Ba.out (by decide)) e_) e_) (fun e_=>(fun e_=>(Kd.R_ne Bk.out Ba.out (by decide)) e_) e_))));have n1_:=Am (blk_kept (bL Bb.out) hkp (fun hs_=>Or.elim hs_ (fun e_=>(fun e_=>(Kd.R_ne Bi.out Bb.out (by decide)) e_) e_) (fun e_=>Or.elim e_ (fun e_=>(fun e_=>(Kd.R_ne Bj.out Bb.out (by decide)) e_) e_) (fun e_=>(fun e_=>(Kd.R_ne Bk.out Bb.out (by decide)) e_) e_))));have n2_:=Am (rM (ok':=fun k_=>some k_≠(v309:Value).ownBlock) ho0 (fun k_ hk_=>hk_.2));have n3_:=Am (rM (ok':=fun k_=>some k_≠(v306:Value).ownBlock) ho1 (fun k_ hk_=>hk_.2));have n4_:=Am (rM (ok':=fun k_=>True) ho2 (fun k_ hk_=>trivial));have n5_:=Am (hb);clear Ba Bb HB Bi Bj Bk;revert n0_ n1_ n2_ n3_ n4_ n5_;intro Ba Bb Bl Bm Bn HB;(try clear hb);(try clear hkp);(try clear ho0);(try clear ho1);(try clear ho2);obtain ⟨Ao27,co27,eo27⟩:=Kd.R_slice Bl.out;subst eo27;have BM:=cz0 Bb.out;have BN:=cz1 Bb.out;have BO:=cz2 Bb.out;have BP:=bF Bb.out 0;have BQ:=bF Bb.out 1;have BR:=bF Bb.out 2;obtain ⟨Ao29,co29,eo29⟩:=Kd.R_slice Bm.out;subst eo29;obtain ⟨Ao30,co30,eo30⟩:=Kd.R_slice Bn.out;subst eo30))
   refine bodyPost_ret (results_ct rfl _ _ Bc 26 #[.slice Ao27 t305.length co27,.slice Ao29 t308.length co29,.slice Ao30 t311.length co30] (0,0) _ rfl (by (with_reducible repeat (first|refine bN ?_ _|refine bD ?_|refine bA ?_ _));refine blk_put (cs:=#[.slice Ao27 t305.length co27,.slice Ao29 t308.length co29,.slice none 0 0]) ?_ 2 _ rfl;(with_reducible repeat (first|refine bN ?_ _|refine bD ?_|refine bA ?_ _));refine blk_put (cs:=#[.slice Ao27 t305.length co27,.slice none 0 0,.slice none 0 0]) ?_ 1 _ rfl;(with_reducible repeat (first|refine bN ?_ _|refine bD ?_|refine bA ?_ _));refine blk_put (cs:=#[.slice none 0 0,.slice none 0 0,.slice none 0 0]) ?_ 0 _ rfl;(with_reducible repeat (first|refine bN ?_ _|refine bD ?_|refine bA ?_ _));exact Bb.out) Try.underlying26 rfl (by kernel_rfl)) rfl ?_
   exact ⟨_,_,_,by first|rfl|(simp [errW_none,errW_some] <;> rfl)|(simp [*,errW_none,errW_some] <;> rfl),by (with_reducible repeat (first|apply rA|apply rN|apply rD));exact rM (rF (p:=⟨Bc,2,none⟩) (rF (p:=⟨Bc,1,none⟩) (rF (p:=⟨Bc,0,none⟩) (rT Bl.out Bb.out (by decide)) (fun _ hk=>hk.2) (.slice Ao27 t305.length co27)) (fun _ hk=>hk.2) (.slice Ao29 t308.length co29)) (fun _ hk=>hk.2) (.slice Ao30 t311.length co30)) (fun _ hk=>hk.1),by (with_reducible repeat (first|apply rA|apply rN|apply rD));exact rM (rF (p:=⟨Bc,2,none⟩) (rF (p:=⟨Bc,1,none⟩) (rF (p:=⟨Bc,0,none⟩) (rT Bm.out Bb.out (by decide)) (fun _ hk=>hk.2) (.slice Ao27 t305.length co27)) (fun _ hk=>hk.2) (.slice Ao29 t308.length co29)) (fun _ hk=>hk.2) (.slice Ao30 t311.length co30)) (fun _ hk=>hk.1),by (with_reducible repeat (first|apply rA|apply rN|apply rD));exact rM (rF (p:=⟨Bc,2,none⟩) (rF (p:=⟨Bc,1,none⟩) (rF (p:=⟨Bc,0,none⟩) (rT Bn.out Bb.out (by decide)) (fun _ hk=>hk.2) (.slice Ao27 t305.length co27)) (fun _ hk=>hk.2) (.slice Ao29 t308.length co29)) (fun _ hk=>hk.2) (.slice Ao30 t311.length co30)) (fun _ hk=>trivial),by repeat (first|(with_reducible first|exact HB.out|apply oA|apply pN|apply o1|refine bS ?_ Be.out|refine bS ?_ Bf.out)|exact HB.out)⟩

end Go.Proofs.Ytiifanjjohophaa.PFnSigsSend
