/- Proved here, without a condition beyond those that each theorem states: what the Go functions named below do is what the plain functions of the same names say. Written by xprint.py, a program of this session. -/
import Derived.Test.YtpacdakadkblgaaPFnClockDropx0
import Derived.Test.YtpacdakadkblgaaPFnClockDropx2
import Derived.Test.YtpacdakadkblgaaPFnClockDropx8
namespace Go.Proofs.Ytpacdakadkblgaa.PFnClockDrop
open Go.RowKit Go.Proofs.YtpacdakadkblgaaW.PrintWords Go.Proofs.YtpacdakadkblgaaW.PrintLast Go.Proofs.YtpacdakadkblgaaW.PrintMore
attribute [local go_sem] max2_int min2_int max_two min_two max_three min_three max_four min_four   -- for this text's walks alone
set_option linter.unusedVariables false
set_option linter.unusedSimpArgs false

attribute [local go_sem ↓] isSome_setCell_
/-! ### spec_DrawClockDrop: function 4 -/
def spec_DrawClockDrop.j0 : Nat → Bool → List Int → Int → Int → List (S35) → Option (Int × (List (S35)) × Int)
|0, _, _, _, _, _ => none
|k + 1, x18, x236000, x236001, x242000, x242001 => if x18 = true then ((spec_l6Rd_pick.f k x236000 x236001 (x242001.length : Int)).bind fun bt244 => (if 0 ≤ bt244.1 then (if bt244.1 < (x242001.length : Int) then (some (x242000, x242001, (rd_T35 x242001 bt244.1).f0)) else (none)) else (none))) else ((spec_l6Rd_pick.f k x236000 x236001 13).bind fun bt247 => (some (x242000, x242001, bt247.1)))
def spec_DrawClockDrop.f (k : Nat) (l0 : List Int) : Option (Int × (List (S35)) × Int) := (spec_l6Open.f l0).bind fun bt233 => ((spec_l97Clock.f k bt233.1 bt233.2).bind fun bt236 => (if (bt236.2.1.length : Int) > 0 then ((spec_l6Rd_pick.f k bt233.1 bt236.2.2 4).bind fun bt242 => (spec_DrawClockDrop.j0 k (decide (bt242.1 > 0)) bt233.1 bt242.2 bt236.1 bt236.2.1)) else (spec_DrawClockDrop.j0 k false bt233.1 bt236.2.2 bt236.1 bt236.2.1)))
theorem spec_DrawClockDrop.mono_l : ∀ k, (∀ y0 y1 y2 y3 y4, LeO (spec_DrawClockDrop.j0 k y0 y1 y2 y3 y4) (spec_DrawClockDrop.j0 (k + 1) y0 y1 y2 y3 y4))
|0 => fun _ _ _ _ _ r h => by simp [spec_DrawClockDrop.j0] at h
|k + 1 => by
  have ih0 := spec_DrawClockDrop.mono_l k
  ·intro y0 y1 y2 y3 y4
   unfold spec_DrawClockDrop.j0
   repeat' first
  |(with_reducible exact ih0 _ _ _ _ _)
  |(with_reducible exact spec_l6Rd_pick.mono _ _ _ _)
  |(with_reducible exact spec_l97Clock.mono _ _ _)
  |(with_reducible exact LeO.refl _)
  |(with_reducible exact LeO.none _)
  |(with_reducible refine LeO.ite ?_ ?_)
  |(with_reducible refine LeO.bind ?_ (fun _ => ?_))
  |exact ih0 _ _ _ _ _
  |exact spec_l6Rd_pick.mono _ _ _ _
  |exact spec_l97Clock.mono _ _ _
  |exact LeO.none _
  |refine LeO.ite ?_ ?_
  |refine LeO.bind ?_ (fun _ => ?_)
theorem spec_DrawClockDrop.mono : ∀ a0 k, LeO (spec_DrawClockDrop.f k a0) (spec_DrawClockDrop.f (k + 1) a0) := by
 intro a0 k
 have ih0 := spec_DrawClockDrop.mono_l k
 unfold spec_DrawClockDrop.f
 repeat' first
  |(with_reducible exact ih0 _ _ _ _ _)
  |(with_reducible exact spec_l6Rd_pick.mono _ _ _ _)
  |(with_reducible exact spec_l97Clock.mono _ _ _)
  |(with_reducible exact LeO.refl _)
  |(with_reducible exact LeO.none _)
  |(with_reducible refine LeO.ite ?_ ?_)
  |(with_reducible refine LeO.bind ?_ (fun _ => ?_))
  |exact ih0 _ _ _ _ _
  |exact spec_l6Rd_pick.mono _ _ _ _
  |exact spec_l97Clock.mono _ _ _
  |exact LeO.none _
  |refine LeO.ite ?_ ?_
  |refine LeO.bind ?_ (fun _ => ?_)
def spec_DrawClockDrop.T4 : Bool × List (List Nat × List Nat) := (true, [([], []), ([], []), ([1], [1]), ([], []), ([], []), ([4], [4]), ([5], [5]), ([3, 6], [3, 6]), ([2, 7], [2, 7]), ([8], [8]), ([9], [9]), ([0, 7, 0], [0]), ([10, 11, 0, 1, 2, 3, 4, 5, 6, 7, 8, 9, 10, 11], [10])])
def spec_DrawClockDrop.B4 : List Nat := [0, 0, 2, 0, 0, 16, 48, 120, 254, 510, 1022, 249, 4095]
theorem spec_DrawClockDrop.tab4 : rtab .any (opsOf Try.f4 4) = spec_DrawClockDrop.T4 := by kernel_rfl
theorem spec_DrawClockDrop.bits4 : waitsOk spec_DrawClockDrop.T4.2 spec_DrawClockDrop.B4 = true := by kernel_rfl
abbrev z4q0 : Array Bool := bQ 13 0
abbrev z4q1 : Array Bool := bQ 13 2
abbrev z4q2 : Array Bool := bQ 13 10
abbrev z4q3 : Array Bool := bQ 13 26
abbrev z4q4 : Array Bool := bQ 13 27
abbrev z4q5 : Array Bool := bQ 13 31
abbrev z4q6 : Array Bool := bQ 13 63
abbrev z4q7 : Array Bool := bQ 13 127
abbrev z4q8 : Array Bool := bQ 13 255
abbrev z4q9 : Array Bool := bQ 13 511
abbrev z4q10 : Array Bool := bQ 13 1023
abbrev z4q11 : Array Bool := bQ 13 2047
abbrev z4q12 : Array Bool := bQ 13 4095
abbrev z4q13 : Array Bool := bQ 13 8191
set_option maxHeartbeats 2000000 in
set_option maxRecDepth 100000 in
theorem spec_DrawClockDrop.calls (k:Nat) (A0:Option Addr) (c0:Nat) (l0:List Int) (r1:Int) (r2:List (S35)) (r3:Int) (w:World) (hr0:Kd.C (Kd.int .u8) w A0 l0.length l0) (hc0:l0.length≤c0) (h:spec_DrawClockDrop.f k l0=some (r1,r2,r3)) :
  Calls Try.prog 4 #[.slice A0 l0.length c0] w fun e w'=>∃ v1_:Value,e=.returned (.tuple #[.agg #[.int .i64 r1,v1_],.int .i64 r3])∧Kd.R k35 35 w' w.heap.size (fun _=>True) v1_ r2∧Below w.heap.size w w':=by
 have hu25:=Try.underlying25
 have HR0:=Am hr0
 have HC0:=Am hc0
 clear hr0 hc0
 have HB:=Am (bJ w.heap.size w)
 have H:((spec_l6Open.f l0).bind fun bt233=>((spec_l97Clock.f k bt233.1 bt233.2).bind fun bt236=>(if (bt236.2.1.length:Int) > 0 then ((spec_l6Rd_pick.f k bt233.1 bt236.2.2 4).bind fun bt242=>(spec_DrawClockDrop.j0 k (decide (bt242.1 > 0)) bt233.1 bt242.2 bt236.1 bt236.2.1)) else (spec_DrawClockDrop.j0 k false bt233.1 bt236.2.2 bt236.1 bt236.2.1))))=some (r1,r2,r3):=h
 clear h
 replace H:=oC H
 obtain ⟨⟨t233,t234⟩,A20,H⟩:=H
 replace H:((spec_l97Clock.f k t233 t234).bind fun bt236=>(if (bt236.2.1.length:Int) > 0 then ((spec_l6Rd_pick.f k t233 bt236.2.2 4).bind fun bt242=>(spec_DrawClockDrop.j0 k (decide (bt242.1 > 0)) t233 bt242.2 bt236.1 bt236.2.1)) else (spec_DrawClockDrop.j0 k false t233 bt236.2.2 bt236.1 bt236.2.1)))=some (r1,r2,r3):=H
 have A2:=Am A20
 clear A20
 replace H:=oC H
 obtain ⟨⟨t236,t237,t240⟩,A30,H⟩:=H
 replace H:(if (t237.length:Int) > 0 then ((spec_l6Rd_pick.f k t233 t240 4).bind fun bt242=>(spec_DrawClockDrop.j0 k (decide (bt242.1 > 0)) t233 bt242.2 t236 t237)) else (spec_DrawClockDrop.j0 k false t233 t240 t236 t237))=some (r1,r2,r3):=H
 have A3:=Am A30
 clear A30
 have HC4:=Am H
 clear H
 go_enter Try.func4,Try.ntmps4
 go_upto_region 3 with (first|((with_reducible refine gD (N:=2) rfl ?_);refine bI ?hg (N:=2) ?hd (cs:=#[.int .i64 0,.slice none 0 0]) (t:=25) ?hr ?_;(case hd=>rfl);(case hg=>rfl);(case hr=>first|(go_simp;done)|(go_simp;rfl));intro Bd hg w5 hbox hb;have n0_:=Am (bP (by repeat (first|(with_reducible first|exact HB.out|apply oA|apply pN|apply o1)|exact HB.out)) hb);have n1_:=Am (hbox);have n2_:=Am ((by rw [hg];exact (bZ (by repeat (first|(with_reducible first|exact HB.out|apply oA|apply pN|apply o1)|exact HB.out))):w.heap.size≤Bd));have n3_:=Am ((by rw [hg];exact (bZ (by repeat (first|(with_reducible first|exact HB.out|apply oA|apply pN|apply o1)|exact HB.out))):w.heap.size≤Bd));clear HB;revert n0_ n1_ n2_ n3_;intro HB Bb BA Bj;clear hb hbox hg)|((with_reducible refine gC (f:=11) rfl ?_);refine goesL_ (some 7) rfl rfl Try.func11 (by kernel_rfl) rfl #[.slice A0 l0.length c0] rfl (by (try simp only [lM,lC,lN]);first|done|rfl|(simp only [lD,lT];rfl)) ?_;(with_reducible refine (spec_l6Open.calls _ _ l0 t233 t234 w _ ?side1 ?side2 ?side3 A2.out).mono ?_);(case side1=>repeat (first|(with_reducible first|exact HB.out|apply oA|apply pN|apply o1|refine bS ?_ Bj.out)|exact HB.out));(case side2=>exact HR0.out);(case side3=>exact HC0.out);rintro e w6 ⟨g235,rfl,hi,hb,hb2⟩;refine ⟨_,rfl,?_⟩;have n0_:=Am (bB (g:=Bd) (o:=.cells #[.int .i64 0,.slice none 0 0] 25 (0,0)) (bL Bb.out) hb2);have n1_:=Am (hb);have n2_:=Am (hi);have n3_:=Am (IsS51.ne_blk hi (bB (g:=Bd) (o:=.cells #[.int .i64 0,.slice none 0 0] 25 (0,0)) (bL Bb.out) hb2) (by decide));have n4_:=Am (Ne.symm (IsS51.ne_blk hi (bB (g:=Bd) (o:=.cells #[.int .i64 0,.slice none 0 0] 25 (0,0)) (bL Bb.out) hb2) (by decide)));clear Bb HB;revert n0_ n1_ n2_ n3_ n4_;intro Bb HB HI235 Bg Bm;(try clear hb);(try clear hb2);(try clear hk);(try clear hi))|((with_reducible refine gC (f:=12) rfl ?_);refine goesL_ (some 9) rfl rfl Try.func12 (by kernel_rfl) rfl #[.pointer (some ⟨g235,0,none⟩)] rfl (by (try simp only [lM,lC,lN]);first|done|rfl|(simp only [lD,lT];rfl)) ?_;(with_reducible refine (spec_l97Clock.calls k g235 t233 t234 t236 t237 t240 w _ ?side1 ?side2 A3.out).mono ?_);(case side1=>repeat (first|(with_reducible first|exact HI235.out|apply IsS51.alloc|apply IsS51.drewN|apply IsS51.drew|apply IsS51.set_1|refine IsS51.far ?_ Bg.out _)|exact HI235.out));(case side2=>repeat (first|(with_reducible first|exact HB.out|apply oA|apply pN|apply o1|refine bS ?_ (IsS51.ge HI235.out)|refine bS ?_ Bj.out)|exact HB.out));rintro e w7 ⟨v238,rfl,ho0,hi,hb,hk⟩;refine ⟨_,rfl,?_⟩;have n0_:=Am (KeepBut.blk hk (g':=Bd) (o:=.cells #[.int .i64 0,.slice none 0 0] 25 (0,0)) (bL Bb.out) Bm.out (by simp));have n1_:=Am (rW ho0 (bZ (by repeat (first|(with_reducible first|exact HB.out|apply oA|apply pN|apply o1|refine bS ?_ (IsS51.ge HI235.out)|refine bS ?_ Bj.out)|exact HB.out))));have n2_:=Am (hb);have n3_:=Am (hi);clear Bb HB HI235;revert n0_ n1_ n2_ n3_;intro Bb Bl HB HI235;(try clear hb);(try clear hb2);(try clear hk);(try clear hi);(try clear ho0))|((with_reducible refine gD (N:=5) rfl ?_);refine bI ?hg (N:=5) ?hd (cs:=#[.int .i64 0,.slice none 0 0]) (t:=25) ?hr ?_;(case hd=>rfl);(case hg=>rfl);(case hr=>first|(go_simp;done)|(go_simp;rfl));intro Bf hg w8 hbox hb;have n0_:=Am (rB (rL Bl.out) hb);have n1_:=Am (bX Bb.out hb);have n2_:=Am (IsS51.below (by repeat (first|(with_reducible first|exact HI235.out|apply IsS51.alloc|apply IsS51.drewN|apply IsS51.drew|apply IsS51.set_1|refine IsS51.far ?_ Bg.out _)|exact HI235.out)) hb);have n3_:=Am (bP (by repeat (first|(with_reducible first|exact HB.out|apply oA|apply pN|apply o1|refine bS ?_ (IsS51.ge HI235.out)|refine bS ?_ Bj.out)|exact HB.out)) hb);have n4_:=Am (hbox);have n5_:=Am ((by rw [hg];exact (bZ (by repeat (first|(with_reducible first|exact HB.out|apply oA|apply pN|apply o1|refine bS ?_ (IsS51.ge HI235.out)|refine bS ?_ Bj.out)|exact HB.out))):w.heap.size≤Bf));have n6_:=Am ((by rw [hg];exact (bZ (by repeat (first|(with_reducible first|exact HB.out|apply oA|apply pN|apply o1|refine bS ?_ (IsS51.ge HI235.out)|refine bS ?_ Bj.out)|exact HB.out))):w.heap.size≤Bf));have n7_:=Am ((nL Bb.out hg));have n8_:=Am ((nG Bb.out hg));have n9_:=Am ((by rw [hg];exact nI (IsS51.lt (show IsS51 w _ g235 t233 t240 from by repeat (first|(with_reducible first|exact HI235.out|apply IsS51.alloc|apply IsS51.drewN|apply IsS51.drew|apply IsS51.set_1|refine IsS51.far ?_ Bg.out _)|exact HI235.out))):g235≠Bf));have n10_:=Am ((by rw [hg];exact nJ (IsS51.lt (show IsS51 w _ g235 t233 t240 from by repeat (first|(with_reducible first|exact HI235.out|apply IsS51.alloc|apply IsS51.drewN|apply IsS51.drew|apply IsS51.set_1|refine IsS51.far ?_ Bg.out _)|exact HI235.out))):Bf≠g235));clear Bl Bb HI235 HB;revert n0_ n1_ n2_ n3_ n4_ n5_ n6_ n7_ n8_ n9_ n10_;intro Bl Bb HI235 HB Bc BB Bn Bi Be Bh Bk;clear hb hbox hg;have BM:=Be.out;have BN:=Bi.out;have BC:=Bk.out;have BD:=Bh.out;have Bo:=cz0 Bc.out;have Bp:=cz1 Bc.out;have Bq:=bF Bc.out 0;have Br:=bF Bc.out 1;obtain ⟨Ao12,co12,eo12⟩:=rC Bl.out;subst eo12))
 (try simp only [Act.put,lA,lZ,lS])
 go_cut [18] (fun v18 wc=>∃ (kq:Nat) (x18_3:Bool) (x236001_3:Int),v18=.bool x18_3∧Aside0 (spec_DrawClockDrop.j0 kq x18_3 t233 x236001_3 t236 t237=some (r1,r2,r3))∧Aside0 (kq≤k)∧Aside0 (Kd.R k35 35 wc w.heap.size (fun _=>True) (.slice Ao12 t237.length co12) t237)∧Aside0 (wc.heap[Bd]?=some (.cells #[.int .i64 0,(.slice none 0 0)] 25 (0,0)))∧Aside0 (wc.heap[Bf]?=some (.cells #[.int .i64 t236,(.slice Ao12 t237.length co12)] 25 (0,0)))∧Aside0 (IsS51 w wc g235 t233 x236001_3)∧Aside0 (Below w.heap.size w wc))
 case first =>
  have H:=HC4.out
  clear HC4
  by_cases c13:(t237.length:Int) > 0
  rotate_left
  ·rw [if_neg c13] at H
   have c13b0:decide (0<(t237.length:Int))=false:=dF c13
   have c13b1:decide (0<t237.length)=false:=dF (by omega)
   clear c13
   (first|rw [c13b0]|(simp only [i64_w,i32_w];rw [c13b0])|skip)
   have H':=Am H
   clear H
   have BI:=Be.out
   have BJ:=Bi.out
   have BK:=Bk.out
   have BL:=Bh.out
   have Bw:=cz0 Bc.out
   have Bx:=cz1 Bc.out
   have By:=bF Bc.out 0
   have Bz:=bF Bc.out 1
   go_wp2
   go_meet
   case rel=>exact ⟨_,(false),(t240),(by first|rfl|(simp;done)|(simp [*];done)),H',⟨by first|omega|exact nR _⟩,⟨by (with_reducible repeat (first|apply rA|apply rN|apply rD));exact rM (rF (p:=⟨Bf,1,none⟩) (rF (p:=⟨Bf,0,none⟩) (rT Bl.out Bc.out (by decide)) (fun _ hk=>hk.2) (.int .i64 t236)) (fun _ hk=>hk.2) (.slice Ao12 t237.length co12)) (fun _ hk=>trivial)⟩,⟨by (with_reducible repeat (first|refine bN ?_ _|refine bD ?_|refine bA ?_ _|refine bE ?_ Bi.out _));exact Bb.out⟩,⟨by (with_reducible repeat (first|refine bN ?_ _|refine bD ?_|refine bA ?_ _));refine bT (cs:=#[.int .i64 t236,.slice none 0 0]) ?_ 1 _ rfl;(with_reducible repeat (first|refine bN ?_ _|refine bD ?_|refine bA ?_ _));refine bT (cs:=#[.int .i64 0,.slice none 0 0]) ?_ 0 _ rfl;(with_reducible repeat (first|refine bN ?_ _|refine bD ?_|refine bA ?_ _));exact Bc.out⟩,⟨by repeat (first|(with_reducible first|exact HI235.out|apply IsS51.alloc|apply IsS51.drewN|apply IsS51.drew|apply IsS51.set_1|refine IsS51.far ?_ Bg.out _|refine IsS51.far ?_ Bh.out _)|exact HI235.out)⟩,⟨by repeat (first|(with_reducible first|exact HB.out|apply oA|apply pN|apply o1|refine bS ?_ (IsS51.ge HI235.out)|refine bS ?_ Bj.out|refine bS ?_ Bn.out)|exact HB.out)⟩⟩
  rw [if_pos c13] at H
  have c13b0:decide (0<(t237.length:Int))=true:=dT c13
  have c13b1:decide (0<t237.length)=true:=dT (by omega)
  clear c13
  (first|rw [c13b0]|(simp only [i64_w,i32_w];rw [c13b0])|skip)
  replace H:=oC H
  obtain ⟨⟨t242,t243⟩,A140,H⟩:=H
  replace H:(spec_DrawClockDrop.j0 k (decide (t242 > 0)) t233 t243 t236 t237)=some (r1,r2,r3):=H
  have A14:=Am A140
  clear A140
  have H':=Am H
  clear H
  have BE:=Be.out
  have BF:=Bi.out
  have BG:=Bk.out
  have BH:=Bh.out
  have Bs:=cz0 Bc.out
  have Bt:=cz1 Bc.out
  have Bu:=bF Bc.out 0
  have Bv:=bF Bc.out 1
  go_wp2_with (first|(go_at_call 13;(with_reducible refine (spec_l6Rd_pick.calls k g235 t233 t240 4 t242 t243 w _ ?side1 ?side2 A14.out).mono ?_);(case side1=>repeat (first|(with_reducible first|exact HI235.out|apply IsS51.alloc|apply IsS51.drewN|apply IsS51.drew|apply IsS51.set_1|refine IsS51.far ?_ Bg.out _|refine IsS51.far ?_ Bh.out _)|exact HI235.out));(case side2=>repeat (first|(with_reducible first|exact HB.out|apply oA|apply pN|apply o1|refine bS ?_ (IsS51.ge HI235.out)|refine bS ?_ Bj.out|refine bS ?_ Bn.out)|exact HB.out));rintro e w18 ⟨rfl,hi,hb,hk⟩;have n0_:=Am (KeepBut.blk hk (g':=Bd) (o:=.cells #[.int .i64 0,.slice none 0 0] 25 (0,0)) (by (with_reducible repeat (first|refine bN ?_ _|refine bD ?_|refine bA ?_ _|refine bE ?_ Bi.out _));exact Bb.out) Bm.out (by simp));have n1_:=Am (rM (Kd.R_keep (IsS51.apart (show IsS51 w _ g235 t233 t240 from by repeat (first|(with_reducible first|exact HI235.out|apply IsS51.alloc|apply IsS51.drewN|apply IsS51.drew|apply IsS51.set_1|refine IsS51.far ?_ Bg.out _|refine IsS51.far ?_ Bh.out _)|exact HI235.out)) (by (with_reducible repeat (first|apply rA|apply rN|apply rD));exact (rM (rF (p:=⟨Bf,1,none⟩) (rF (p:=⟨Bf,0,none⟩) (rT Bl.out Bc.out (by decide)) (fun _ hk=>hk.2) (.int .i64 t236)) (fun _ hk=>hk.2) (.slice Ao12 t237.length co12)) (fun _ h_=>h_.1))) (by decide)) hk (fun _ h=>h.2)) (fun _ h=>h.1));have n2_:=Am (KeepBut.blk hk (g':=Bf) (o:=.cells #[.int .i64 t236,.slice Ao12 t237.length co12] 25 (0,0)) (by (with_reducible repeat (first|refine bN ?_ _|refine bD ?_|refine bA ?_ _));refine bT (cs:=#[.int .i64 t236,.slice none 0 0]) ?_ 1 _ rfl;(with_reducible repeat (first|refine bN ?_ _|refine bD ?_|refine bA ?_ _));refine bT (cs:=#[.int .i64 0,.slice none 0 0]) ?_ 0 _ rfl;(with_reducible repeat (first|refine bN ?_ _|refine bD ?_|refine bA ?_ _));exact Bc.out) Bk.out (by simp));have n3_:=Am (hb);have n4_:=Am (hi);clear Bb Bl Bc HB HI235;revert n0_ n1_ n2_ n3_ n4_;intro Bb Bl Bc HB HI235;(try clear hb);(try clear hb2);(try clear hk);(try clear hi)))
  go_meet
  case rel=>exact ⟨_,(decide (t242 > 0)),(t243),(by first|rfl|(simp;done)|(simp [*];done)),H',⟨by first|omega|exact nR _⟩,⟨by (with_reducible repeat (first|apply rA|apply rN|apply rD));exact Bl.out⟩,⟨by (with_reducible repeat (first|refine bN ?_ _|refine bD ?_|refine bA ?_ _));exact Bb.out⟩,⟨by (with_reducible repeat (first|refine bN ?_ _|refine bD ?_|refine bA ?_ _));exact Bc.out⟩,⟨by repeat (first|(with_reducible first|exact HI235.out|apply IsS51.alloc|apply IsS51.drewN|apply IsS51.drew|apply IsS51.set_1|refine IsS51.far ?_ Bg.out _|refine IsS51.far ?_ Bh.out _)|exact HI235.out)⟩,⟨by repeat (first|(with_reducible first|exact HB.out|apply oA|apply pN|apply o1|refine bS ?_ (IsS51.ge HI235.out)|refine bS ?_ Bj.out|refine bS ?_ Bn.out)|exact HB.out)⟩⟩
 case rest =>
  clear HC4
  try clear c1
  try clear c2
  try clear p2
  try clear c4
  try clear c9
  try clear c10
  try clear c11
  try clear c12
  try clear c13
  try clear c13b0
  try clear c13b1
  try clear c15
  try clear c16
  try clear c19
  try clear c20
  try clear Bo
  try clear Bp
  try clear Bs
  try clear Bt
  try clear Bw
  try clear Bx
  try clear Bq
  try clear Br
  try clear Bu
  try clear Bv
  try clear By
  try clear Bz
  obtain ⟨kq,x18_3,x236001_3,rfl,HA,BO,Ba,Bb,Bc,HI235,HB⟩:=hcut
  cases kq with
 |zero=>exact absurd HA.out (by simp [spec_DrawClockDrop.j0])
 |succ kj3 =>
   have H:=HA.out
   clear HA
   simp only [spec_DrawClockDrop.j0] at H
   by_cases c22:x18_3=true
   rotate_left
   ·replace c22:=Bool.eq_false_iff.mpr c22
    subst c22
    have H1:((spec_l6Rd_pick.f kj3 t233 x236001_3 13).bind fun bt247=>(some (t236,t237,bt247.1)))=some (r1,r2,r3):=by rw [if_neg (show ¬ (false=true) by decide)] at H;exact H
    clear H
    have H:=H1
    clear H1
    replace H:=oC H
    obtain ⟨⟨t247,t248⟩,A300,H⟩:=H
    replace H:(some (t236,t237,t247))=some (r1,r2,r3):=H
    have A30:=Am A300
    clear A300
    simp only [Option.some.injEq,Prod.mk.injEq] at H
    obtain ⟨rfl,rfl,rfl⟩:=H
    try go_wp2
    have n0_:=Am (rD Ba.out)
    have n1_:=Am (bD Bb.out)
    have n2_:=Am (bD Bc.out)
    have n3_:=Am (IsS51.drew HI235.out)
    have n4_:=Am (o1 HB.out)
    clear Ba
    clear Bb
    clear Bc
    clear HI235
    clear HB
    have Ba:=n0_
    have Bb:=n1_
    have Bc:=n2_
    have HI235:=n3_
    have HB:=n4_
    clear n0_ n1_ n2_ n3_ n4_
    refine start_ (n:=5) (S:=fun w'=>w'.cell? ⟨Bf,0,none⟩=some (.int .i64 t236)∧w'.cell? ⟨Bf,1,none⟩=some (.slice Ao12 t237.length co12)) (ds:=[]) #[false,false,false,false,false] (by kernel_rfl) rfl rfl ⟨(bC Bc.out 0).trans rfl,(bC Bc.out 1).trans rfl⟩ (fun hHeld=>?_)
    generalize wc.drew=w31 at Ba Bb Bc HI235 HB hHeld ⊢
    refine pure_ (i:=1) (N:=some 31) (v:=?_) (a':=?_) #[false,true,false,false,false] rfl rfl (by kernel_rfl) (fun _ _ _ h=>h) (Or.inl ⟨by rfl,?_⟩) ?_ ?_
    rotate_left;(intro w';go_simp;with_reducible rfl)
    rotate_left;(simp only [Act.put,lA,lZ,lS,iw,jw];rfl)
    refine take_ (i:=0) (N:=some 30) (v:=?_) (a':=?_) #[true,true,false,false,false] rfl rfl (by kernel_rfl) (fun _ _ _ h=>h) (Or.inl ⟨by rfl,?_⟩) hHeld ?_ ?_
    rotate_left;(rintro w' ⟨s0,s1⟩;go_simp;with_reducible rfl)
    rotate_left;(simp only [Act.put,lA,lZ,lS,iw,jw];rfl)
    refine one_ (i:=2) (N:=some 32) #[true,true,true,false,false] rfl rfl (by kernel_rfl) (by decide) (fun K hK=>?_)
    refine goes_ Try.func13 (by kernel_rfl) rfl #[.pointer (some ⟨g235,0,none⟩),.int .i64 13] (by rfl) rfl rfl (by (try simp only [lM,lC,lN]);first|done|rfl|(simp only [lD,lT];rfl)) ?_
    with_reducible refine (spec_l6Rd_pick.calls kj3 g235 t233 x236001_3 13 t247 t248 w _ ?side1 ?side2 A30.out).mono ?_
    (case side1=>repeat (first|(with_reducible first|exact HI235.out|apply IsS51.alloc|apply IsS51.drewN|apply IsS51.drew|apply IsS51.set_1|refine IsS51.far ?_ Bg.out _|refine IsS51.far ?_ Bh.out _)|exact HI235.out))
    (case side2=>repeat (first|(with_reducible first|exact HB.out|apply oA|apply pN|apply o1|refine bS ?_ (IsS51.ge HI235.out)|refine bS ?_ Bj.out|refine bS ?_ Bn.out)|exact HB.out))
    rintro e w32 ⟨rfl,hi,hb,hk⟩
    refine ⟨_,rfl,?_⟩
    have n0_:=Am (rM (Kd.R_keep (IsS51.apart (show IsS51 w _ g235 t233 x236001_3 from by repeat (first|(with_reducible first|exact HI235.out|apply IsS51.alloc|apply IsS51.drewN|apply IsS51.drew|apply IsS51.set_1|refine IsS51.far ?_ Bg.out _|refine IsS51.far ?_ Bh.out _)|exact HI235.out)) (rL Ba.out) (by decide)) hk (fun _ h=>h.2)) (fun _ h=>h.1))
    have n1_:=Am (KeepBut.blk hk (g':=Bd) (o:=.cells #[.int .i64 0,.slice none 0 0] 25 (0,0)) (bL Bb.out) Bm.out (by simp))
    have n2_:=Am (KeepBut.blk hk (g':=Bf) (o:=.cells #[.int .i64 t236,.slice Ao12 t237.length co12] 25 (0,0)) (bL Bc.out) Bk.out (by simp))
    have n3_:=Am (hb)
    have n4_:=Am (hi)
    clear Ba
    clear Bb
    clear Bc
    clear HB
    clear HI235
    have Ba:=n0_
    have Bb:=n1_
    have Bc:=n2_
    have HB:=n3_
    have HI235:=n4_
    clear n0_ n1_ n2_ n3_ n4_
    (try clear hb)
    (try clear hb2)
    (try clear hk)
    (try clear hi)
    refine hK.out _ _ ⟨(bC Bc.out 0).trans rfl,(bC Bc.out 1).trans rfl⟩ (fun hHeld=>?_)
    clear hK K
    refine norm_ (by show Act.put _ (some 32) _=_;simp only [Act.put,lA,lZ,lS,iw,jw];rfl) ?_
    refine one_ (i:=3) (N:=none) #[true,true,true,true,false] rfl rfl (by kernel_rfl) (by decide) (fun K hK=>?_)
    have hs33:=cz0 Bb.out
    have hfs33:=bF Bb.out 0
    have hns33_1:=Be.out
    have hms33_1:=Bi.out
    have hs34:=cz1 Bb.out
    have hfs34:=bF Bb.out 1
    have hns34_1:=Be.out
    have hms34_1:=Bi.out
    refine skip_ (w1:=?_) (by rfl) rfl ?_ ?_
    rotate_left;(go_simp;rfl)
    refine hK.out _ _ ⟨((cF (p:=⟨Bd,_,none⟩) Be.out _).trans (((cF (p:=⟨Bd,_,none⟩) Be.out _).trans (hHeld.1)))),((cF (p:=⟨Bd,_,none⟩) Be.out _).trans (((cF (p:=⟨Bd,_,none⟩) Be.out _).trans (hHeld.2))))⟩ (fun hHeld=>?_)
    clear hK K
    refine pure_ (i:=4) (N:=some 3) (v:=?_) (a':=?_) #[true,true,true,true,true] rfl rfl (by kernel_rfl) (fun _ _ _ h=>h) (Or.inl ⟨by rfl,?_⟩) ?_ ?_
    rotate_left;(intro w';go_simp;with_reducible rfl)
    rotate_left;(simp only [Act.put,lA,lZ,lS,iw,jw];rfl)
    refine done_ (by kernel_rfl) ?_
    try go_wp2
    refine bodyPost_ret (results_ct rfl _ _ Bd 25 #[.int .i64 t236,.slice Ao12 t237.length co12] (0,0) _ rfl (by (with_reducible repeat (first|refine bN ?_ _|refine bD ?_|refine bA ?_ _));refine bT (cs:=#[.int .i64 t236,.slice none 0 0]) ?_ 1 _ rfl;(with_reducible repeat (first|refine bN ?_ _|refine bD ?_|refine bA ?_ _));refine bT (cs:=#[.int .i64 0,.slice none 0 0]) ?_ 0 _ rfl;(with_reducible repeat (first|refine bN ?_ _|refine bD ?_|refine bA ?_ _));exact Bb.out) Try.underlying25 rfl (by kernel_rfl)) rfl ?_
    exact ⟨_,by first|rfl|(simp [errW_none,errW_some] <;> rfl)|(simp [*,errW_none,errW_some] <;> rfl),by (with_reducible repeat (first|apply rA|apply rN|apply rD));exact rM (rF (p:=⟨Bd,1,none⟩) (rF (p:=⟨Bd,0,none⟩) (rT Ba.out Bb.out (by decide)) (fun _ hk=>hk.2) (.int .i64 t236)) (fun _ hk=>hk.2) (.slice Ao12 t237.length co12)) (fun _ hk=>trivial),by repeat (first|(with_reducible first|exact HB.out|apply oA|apply pN|apply o1|refine bS ?_ (IsS51.ge HI235.out)|refine bS ?_ Bj.out|refine bS ?_ Bn.out)|exact HB.out)⟩

   subst c22
   have H1:((spec_l6Rd_pick.f kj3 t233 x236001_3 (t237.length:Int)).bind fun bt244=>(if 0≤bt244.1 then (if bt244.1<(t237.length:Int) then (some (t236,t237,(rd_T35 t237 bt244.1).f0)) else (none)) else (none)))=some (r1,r2,r3):=by rw [if_pos rfl] at H;exact H
   clear H
   have H:=H1
   clear H1
   replace H:=oC H
   obtain ⟨⟨t244,t245⟩,A230,H⟩:=H
   replace H:(if 0≤t244 then (if t244<(t237.length:Int) then (some (t236,t237,(rd_T35 t237 t244).f0)) else (none)) else (none))=some (r1,r2,r3):=H
   have A23:=Am A230
   clear A230
   by_cases c24:0≤t244
   rotate_left
   ·rw [if_neg c24] at H
    exact absurd H (by simp)
   rw [if_pos c24] at H
   have c24b0:decide (0≤t244)=true:=dT c24
   clear c24
   by_cases c25:t244<(t237.length:Int)
   rotate_left
   ·rw [if_neg c25] at H
    exact absurd H (by simp)
   rw [if_pos c25] at H
   have c25b0:decide (t244<(t237.length:Int))=true:=dT c25
   clear c25
   simp only [Option.some.injEq,Prod.mk.injEq] at H
   obtain ⟨rfl,rfl,rfl⟩:=H
   try go_wp2
   have n0_:=Am (rD Ba.out)
   have n1_:=Am (bD Bb.out)
   have n2_:=Am (bD Bc.out)
   have n3_:=Am (IsS51.drew HI235.out)
   have n4_:=Am (o1 HB.out)
   clear Ba
   clear Bb
   clear Bc
   clear HI235
   clear HB
   have Ba:=n0_
   have Bb:=n1_
   have Bc:=n2_
   have HI235:=n3_
   have HB:=n4_
   clear n0_ n1_ n2_ n3_ n4_
   have p246:0≤(t244:Int):=oE (by first|(with_reducible assumption)|assumption)
   have q246:t244<(t237.length:Int):=oE (by first|(with_reducible assumption)|assumption)
   obtain ⟨ad246,e246,hx246_0,hx246_1,hx246_2⟩:=at_T35 (rR Ba.out).2.2 t244 p246 q246
   cases e246
   replace p246:=eq_true p246
   replace q246:=eq_true q246
   refine start_ (n:=13) (S:=fun w'=>w'.cell? ⟨Bf,0,none⟩=some (.int .i64 t236)∧w'.cell? ⟨Bf,1,none⟩=some (.slice (some ad246) t237.length co12)∧w'.cell? (ad246.add ((t244).toNat * 3))=some (.int .i64 ((rd_T35 t237 t244).f0))∧w'.cell? ⟨(ad246.add ((t244).toNat * 3)).block,(ad246.add ((t244).toNat * 3)).off + 1,none⟩=some (.int .i64 ((rd_T35 t237 t244).f1))∧w'.cell? ⟨(ad246.add ((t244).toNat * 3)).block,(ad246.add ((t244).toNat * 3)).off + 2,none⟩=some (.int .i64 ((rd_T35 t237 t244).f2))) (ds:=[]) z4q0 (by kernel_rfl) rfl rfl ⟨(bC Bc.out 0).trans rfl,(bC Bc.out 1).trans rfl,hx246_0,hx246_1,hx246_2⟩ (fun hHeld=>?_);refine with_st spec_DrawClockDrop.tab4 spec_DrawClockDrop.bits4 (fun _ _ _ _ _ h=>h) (fun HT_=>?_)
   generalize wc.drew=w26 at Ba Bb Bc HI235 HB hx246_0 hx246_1 hx246_2 hHeld ⊢
   refine pS 1 20 z4q1 HT_ rfl rfl (by kernel_rfl) (by rfl) (by intro w';go_simp;with_reducible rfl) (by simp only [Act.put,lA,lZ,lS,iw,jw];rfl) ?_
   refine pS 3 22 z4q2 HT_ rfl rfl (by kernel_rfl) (by rfl) (by intro w';go_simp;with_reducible rfl) (by simp only [Act.put,lA,lZ,lS,iw,jw];rfl) ?_
   refine pS 4 23 z4q3 HT_ rfl rfl (by kernel_rfl) (by rfl) (by intro w';go_simp;with_reducible rfl) (by simp only [Act.put,lA,lZ,lS,iw,jw];rfl) ?_
   refine tS 0 19 z4q4 HT_ hHeld rfl rfl (by kernel_rfl) (by rfl) (by rintro w' ⟨s0,s1,s2,s3,s4⟩;go_simp;with_reducible rfl) (by simp only [Act.put,lA,lZ,lS,iw,jw];rfl) ?_
   refine tS 2 21 z4q5 HT_ hHeld rfl rfl (by kernel_rfl) (by rfl) (by rintro w' ⟨s0,s1,s2,s3,s4⟩;go_simp;with_reducible rfl) (by simp only [Act.put,lA,lZ,lS,iw,jw];rfl) ?_
   refine tS 5 24 z4q6 HT_ hHeld rfl rfl (by kernel_rfl) (by rfl) (by rintro w' ⟨s0,s1,s2,s3,s4⟩;go_simp;with_reducible rfl) (by simp only [Act.put,lA,lZ,lS,iw,jw];rfl) ?_
   refine pS 6 25 z4q7 HT_ rfl rfl (by kernel_rfl) (by rfl) (by intro w';go_simp;with_reducible rfl) (by simp only [Act.put,lA,lZ,lS,iw,jw];rfl) ?_
   refine oS 7 26 z4q8 HT_ rfl rfl (by kernel_rfl) (by decide) (fun K hK=>?_)
   refine goes_ Try.func13 (by kernel_rfl) rfl #[.pointer (some ⟨g235,0,none⟩),.int .i64 (t237.length:Int)] (by rfl) rfl rfl (by (try simp only [lM,lC,lN]);first|done|rfl|(simp only [lD,lT];rfl)) ?_
   with_reducible refine (spec_l6Rd_pick.calls kj3 g235 t233 x236001_3 (t237.length:Int) t244 t245 w _ ?side1 ?side2 A23.out).mono ?_
   (case side1=>repeat (first|(with_reducible first|exact HI235.out|apply IsS51.alloc|apply IsS51.drewN|apply IsS51.drew|apply IsS51.set_1|refine IsS51.far ?_ Bg.out _|refine IsS51.far ?_ Bh.out _)|exact HI235.out))
   (case side2=>repeat (first|(with_reducible first|exact HB.out|apply oA|apply pN|apply o1|refine bS ?_ (IsS51.ge HI235.out)|refine bS ?_ Bj.out|refine bS ?_ Bn.out)|exact HB.out))
   rintro e w27 ⟨rfl,hi,hb,hk⟩
   have HS2_:=keep_cell hk (hHeld.2.2.1) (by first|(rw [aB];exact oK (IsS51.own_ne HI235.out Ba.out (by decide)))|(show (Addr.add _ _).block≠_;rw [aB];exact oK (IsS51.own_ne HI235.out Ba.out (by decide)))|exact oK (IsS51.own_ne HI235.out Ba.out (by decide)))
   have HS3_:=keep_cell hk (hHeld.2.2.2.1) (by first|(rw [aB];exact oK (IsS51.own_ne HI235.out Ba.out (by decide)))|(show (Addr.add _ _).block≠_;rw [aB];exact oK (IsS51.own_ne HI235.out Ba.out (by decide)))|exact oK (IsS51.own_ne HI235.out Ba.out (by decide)))
   have HS4_:=keep_cell hk (hHeld.2.2.2.2) (by first|(rw [aB];exact oK (IsS51.own_ne HI235.out Ba.out (by decide)))|(show (Addr.add _ _).block≠_;rw [aB];exact oK (IsS51.own_ne HI235.out Ba.out (by decide)))|exact oK (IsS51.own_ne HI235.out Ba.out (by decide)))
   refine ⟨_,rfl,?_⟩
   have n0_:=Am (rM (Kd.R_keep (IsS51.apart (show IsS51 w _ g235 t233 x236001_3 from by repeat (first|(with_reducible first|exact HI235.out|apply IsS51.alloc|apply IsS51.drewN|apply IsS51.drew|apply IsS51.set_1|refine IsS51.far ?_ Bg.out _|refine IsS51.far ?_ Bh.out _)|exact HI235.out)) (rL Ba.out) (by decide)) hk (fun _ h=>h.2)) (fun _ h=>h.1))
   have n1_:=Am (KeepBut.blk hk (g':=Bd) (o:=.cells #[.int .i64 0,.slice none 0 0] 25 (0,0)) (bL Bb.out) Bm.out (by simp))
   have n2_:=Am (KeepBut.blk hk (g':=Bf) (o:=.cells #[.int .i64 t236,.slice (some ad246) t237.length co12] 25 (0,0)) (bL Bc.out) Bk.out (by simp))
   have n3_:=Am (hb)
   have n4_:=Am (hi)
   clear Ba
   clear Bb
   clear Bc
   clear HB
   clear HI235
   have Ba:=n0_
   have Bb:=n1_
   have Bc:=n2_
   have HB:=n3_
   have HI235:=n4_
   clear n0_ n1_ n2_ n3_ n4_
   (try clear hb)
   (try clear hb2)
   (try clear hk)
   (try clear hi)
   refine hK.out _ _ ⟨(bC Bc.out 0).trans rfl,(bC Bc.out 1).trans rfl,HS2_,HS3_,HS4_⟩ (fun hHeld=>?_)
   clear hK K
   refine norm_ (by show Act.put _ (some 26) _=_;simp only [Act.put,lA,lZ,lS,iw,jw];rfl) ?_
   refine pS 8 27 z4q9 HT_ rfl rfl (by kernel_rfl) (by rfl) (by intro w';go_simp;with_reducible rfl) (by simp only [Act.put,lA,lZ,lS,iw,jw];rfl) ?_
   refine pS 9 28 z4q10 HT_ rfl rfl (by kernel_rfl) (by rfl) (by intro w';go_simp;with_reducible rfl) (by simp only [Act.put,lA,lZ,lS,iw,jw];rfl) ?_
   refine tS 10 29 z4q11 HT_ hHeld rfl rfl (by kernel_rfl) (by rfl) (by rintro w' ⟨s0,s1,s2,s3,s4⟩;go_simp;with_reducible rfl) (by simp only [Act.put,lA,lZ,lS,iw,jw];rfl) ?_
   refine oU 11 none z4q12 HT_ rfl rfl (by kernel_rfl) (by decide) (fun K hK=>?_)
   have hs28:=cz0 Bb.out
   have hfs28:=bF Bb.out 0
   have hns28_1:=Be.out
   have hms28_1:=Bi.out
   have hs29:=cz1 Bb.out
   have hfs29:=bF Bb.out 1
   have hns29_1:=Be.out
   have hms29_1:=Bi.out
   refine skip_ (w1:=?_) (by rfl) rfl ?_ ?_
   rotate_left;(go_simp;rfl)
   refine hK.out _ _ ⟨((cF (p:=⟨Bd,_,none⟩) Be.out _).trans (((cF (p:=⟨Bd,_,none⟩) Be.out _).trans (hHeld.1)))),((cF (p:=⟨Bd,_,none⟩) Be.out _).trans (((cF (p:=⟨Bd,_,none⟩) Be.out _).trans (hHeld.2.1)))),((cF (p:=⟨Bd,_,none⟩) (by first|exact oK (rE Ba.out Bb.out (by decide))|(rw [aB];exact oK (rE Ba.out Bb.out (by decide)))|(show (Addr.add _ _).block≠_;rw [aB];exact oK (rE Ba.out Bb.out (by decide)))|(dsimp only;exact oK (rE Ba.out Bb.out (by decide)))) _).trans (((cF (p:=⟨Bd,_,none⟩) (by first|exact oK (rE Ba.out Bb.out (by decide))|(rw [aB];exact oK (rE Ba.out Bb.out (by decide)))|(show (Addr.add _ _).block≠_;rw [aB];exact oK (rE Ba.out Bb.out (by decide)))|(dsimp only;exact oK (rE Ba.out Bb.out (by decide)))) _).trans (hHeld.2.2.1)))),((cF (p:=⟨Bd,_,none⟩) (by first|exact oK (rE Ba.out Bb.out (by decide))|(rw [aB];exact oK (rE Ba.out Bb.out (by decide)))|(show (Addr.add _ _).block≠_;rw [aB];exact oK (rE Ba.out Bb.out (by decide)))|(dsimp only;exact oK (rE Ba.out Bb.out (by decide)))) _).trans (((cF (p:=⟨Bd,_,none⟩) (by first|exact oK (rE Ba.out Bb.out (by decide))|(rw [aB];exact oK (rE Ba.out Bb.out (by decide)))|(show (Addr.add _ _).block≠_;rw [aB];exact oK (rE Ba.out Bb.out (by decide)))|(dsimp only;exact oK (rE Ba.out Bb.out (by decide)))) _).trans (hHeld.2.2.2.1)))),((cF (p:=⟨Bd,_,none⟩) (by first|exact oK (rE Ba.out Bb.out (by decide))|(rw [aB];exact oK (rE Ba.out Bb.out (by decide)))|(show (Addr.add _ _).block≠_;rw [aB];exact oK (rE Ba.out Bb.out (by decide)))|(dsimp only;exact oK (rE Ba.out Bb.out (by decide)))) _).trans (((cF (p:=⟨Bd,_,none⟩) (by first|exact oK (rE Ba.out Bb.out (by decide))|(rw [aB];exact oK (rE Ba.out Bb.out (by decide)))|(show (Addr.add _ _).block≠_;rw [aB];exact oK (rE Ba.out Bb.out (by decide)))|(dsimp only;exact oK (rE Ba.out Bb.out (by decide)))) _).trans (hHeld.2.2.2.2))))⟩ (fun hHeld=>?_)
   clear hK K
   refine pS 12 3 z4q13 HT_ rfl rfl (by kernel_rfl) (by rfl) (by intro w';go_simp;with_reducible rfl) (by simp only [Act.put,lA,lZ,lS,iw,jw];rfl) ?_
   refine done_ (done_of HT_.out (by kernel_rfl)) ?_
   try go_wp2
   refine bodyPost_ret (results_ct rfl _ _ Bd 25 #[.int .i64 t236,.slice (some ad246) t237.length co12] (0,0) _ rfl (by (with_reducible repeat (first|refine bN ?_ _|refine bD ?_|refine bA ?_ _));refine bT (cs:=#[.int .i64 t236,.slice none 0 0]) ?_ 1 _ rfl;(with_reducible repeat (first|refine bN ?_ _|refine bD ?_|refine bA ?_ _));refine bT (cs:=#[.int .i64 0,.slice none 0 0]) ?_ 0 _ rfl;(with_reducible repeat (first|refine bN ?_ _|refine bD ?_|refine bA ?_ _));exact Bb.out) Try.underlying25 rfl (by kernel_rfl)) rfl ?_
   exact ⟨_,by first|rfl|(simp [errW_none,errW_some] <;> rfl)|(simp [*,errW_none,errW_some] <;> rfl),by (with_reducible repeat (first|apply rA|apply rN|apply rD));exact rM (rF (p:=⟨Bd,1,none⟩) (rF (p:=⟨Bd,0,none⟩) (rT Ba.out Bb.out (by decide)) (fun _ hk=>hk.2) (.int .i64 t236)) (fun _ hk=>hk.2) (.slice (some ad246) t237.length co12)) (fun _ hk=>trivial),by repeat (first|(with_reducible first|exact HB.out|apply oA|apply pN|apply o1|refine bS ?_ (IsS51.ge HI235.out)|refine bS ?_ Bj.out|refine bS ?_ Bn.out)|exact HB.out)⟩
end Go.Proofs.Ytpacdakadkblgaa.PFnClockDrop
