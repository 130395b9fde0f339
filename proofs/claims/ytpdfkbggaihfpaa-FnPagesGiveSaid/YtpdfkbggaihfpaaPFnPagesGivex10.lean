/- Proved here, without a condition beyond those that each theorem states: what the Go functions named below do is what the plain functions of the same names say. Written by xprint.py, a program of this session. -/
import Derived.Test.YtpdfkbggaihfpaaPFnPagesGivex0
import Derived.Test.YtpdfkbggaihfpaaPFnPagesGivex6
import Derived.Test.YtpdfkbggaihfpaaPFnPagesGivex9
namespace Go.Proofs.Ytpdfkbggaihfpaa.PFnPagesGive
open Go.RowKit Go.Proofs.YtpdfkbggaihfpaaW.PrintWords Go.Proofs.YtpdfkbggaihfpaaW.PrintLast Go.Proofs.YtpdfkbggaihfpaaW.PrintMore
attribute [local go_sem] max2_int min2_int max_two min_two max_three min_three max_four min_four   -- for this text's walks alone
set_option linter.unusedVariables false
set_option linter.unusedSimpArgs false

attribute [local go_sem ↓] isSome_setCell_
/-! ### spec_l91At: function 46 -/
def spec_l91At.f (k : Nat) (s0_0 : List Int) (s0_1 : Int) : Option (Int × Int) := (spec_l6Rd_pick.f k s0_0 s0_1 10).bind fun bt238 => (if bt238.1 = 0 then ((some (([(-1), 12, 11] : List Int) : List Int)).bind fun y240 => ((spec_l6Rd_pick.f k s0_0 bt238.2 3).bind fun bt243 => (if 0 ≤ bt243.1 then (if bt243.1 < (y240.length : Int) then (some (rd y240 bt243.1, bt243.2)) else (none)) else (none)))) else ((spec_l6Rd_pick.f k s0_0 bt238.2 8).bind fun bt246 => (some (bt246.1, bt246.2))))
theorem spec_l91At.mono : ∀ a0 a1 k, LeO (spec_l91At.f k a0 a1) (spec_l91At.f (k + 1) a0 a1) := by
 intro a0 a1 k
 unfold spec_l91At.f
 repeat' first
  |(with_reducible exact spec_l6Rd_pick.mono _ _ _ _)
  |(with_reducible exact LeO.refl _)
  |(with_reducible exact LeO.none _)
  |(with_reducible refine LeO.ite ?_ ?_)
  |(with_reducible refine LeO.bind ?_ (fun _ => ?_))
  |exact spec_l6Rd_pick.mono _ _ _ _
  |exact LeO.none _
  |refine LeO.ite ?_ ?_
  |refine LeO.bind ?_ (fun _ => ?_)
set_option maxHeartbeats 2000000 in
set_option maxRecDepth 100000 in
theorem spec_l91At.calls (k:Nat) (g:Nat) (s0_0:List Int) (s0_1:Int) (r1:Int) (r2:Int) (w0 w:World) (hI:IsS83 w0 w g s0_0 s0_1) (hB:Below w0.heap.size w0 w) (h:spec_l91At.f k s0_0 s0_1=some (r1,r2)) :
  Calls Try.prog 46 #[.pointer (some ⟨g,0,none⟩)] w fun e w'=>e=.returned (.int .i64 r1)∧IsS83 w0 w' g s0_0 r2∧Below w0.heap.size w0 w'∧KeepBut w w' g none:=by
 have HI0:=Am hI
 have HK:=Am (KeepBut.refl w g none)
 have HL:=Am hB.size
 clear hI
 have HW0:=Am hB.size
 have HB:=Am hB
 clear hB
 have H:((spec_l6Rd_pick.f k s0_0 s0_1 10).bind fun bt238=>(if bt238.1=0 then ((some (([(-1),12,11]:List Int):List Int)).bind fun y240=>((spec_l6Rd_pick.f k s0_0 bt238.2 3).bind fun bt243=>(if 0≤bt243.1 then (if bt243.1<(y240.length:Int) then (some (rd y240 bt243.1,bt243.2)) else (none)) else (none)))) else ((spec_l6Rd_pick.f k s0_0 bt238.2 8).bind fun bt246=>(some (bt246.1,bt246.2)))))=some (r1,r2):=h
 clear h
 replace H:=oC H
 obtain ⟨⟨t238,t239⟩,A20,H⟩:=H
 replace H:(if t238=0 then ((some (([(-1),12,11]:List Int):List Int)).bind fun y240=>((spec_l6Rd_pick.f k s0_0 t239 3).bind fun bt243=>(if 0≤bt243.1 then (if bt243.1<(y240.length:Int) then (some (rd y240 bt243.1,bt243.2)) else (none)) else (none)))) else ((spec_l6Rd_pick.f k s0_0 t239 8).bind fun bt246=>(some (bt246.1,bt246.2))))=some (r1,r2):=H
 have A2:=Am A20
 clear A20
 by_cases c3:t238=0
 rotate_left
 ·rw [if_neg c3] at H
  have c3b0:(t238 == 0)=false:=beq_eq_false_iff_ne.mpr c3
  have c3b1:(t238 != 0)=true:=bne_iff_ne.mpr c3
  replace H:=oC H
  obtain ⟨⟨t246,t247⟩,A120,H⟩:=H
  replace H:(some (t246,t247))=some (r1,r2):=H
  have A12:=Am A120
  clear A120
  simp only [Option.some.injEq,Prod.mk.injEq] at H
  obtain ⟨rfl,rfl⟩:=H
  go_enter Try.func46,Try.ntmps46
  go_wp2_with (first|((with_reducible refine gate_callee (f:=47) rfl ?_);refine goesL_ (some 4) rfl rfl Try.func47 (by kernel_rfl) rfl #[.pointer (some ⟨g,0,none⟩),.int .i64 10] rfl (by (try simp only [lM,lC,lN]);first|done|rfl|(simp only [lD,lT];rfl)) ?_;(with_reducible refine (spec_l6Rd_pick.calls k g s0_0 s0_1 10 t238 t239 w0 _ ?side1 ?side2 A2.out).mono ?_);(case side1=>repeat (first|(with_reducible first|exact HI0.out|apply IsS83.alloc|apply IsS83.drewN|apply IsS83.drew|apply IsS83.set_1)|exact HI0.out));(case side2=>repeat (first|(with_reducible first|exact HB.out|apply oA|apply pN|apply o1|refine bS ?_ (IsS83.ge HI0.out))|exact HB.out));rintro e w13 ⟨rfl,hi,hb,hk⟩;refine ⟨_,rfl,?_⟩;have n0_:=Am (KeepBut.trans (by repeat (first|(with_reducible first|exact HK.out|apply KeepBut.set_|apply keep_drewN|apply keep_drew|apply keep_alloc)|exact HK.out)) hk (.inl rfl));have n1_:=Am (hb);have n2_:=Am (hi);clear HK HB HI0;revert n0_ n1_ n2_;intro HK HB HI0;(try clear hb);(try clear hb2);(try clear hk);(try clear hi))|((with_reducible refine gate_callee (f:=47) rfl ?_);refine goesL_ (some 12) rfl rfl Try.func47 (by kernel_rfl) rfl #[.pointer (some ⟨g,0,none⟩),.int .i64 8] rfl (by (try simp only [lM,lC,lN]);first|done|rfl|(simp only [lD,lT];rfl)) ?_;(with_reducible refine (spec_l6Rd_pick.calls k g s0_0 t239 8 t246 t247 w0 _ ?side1 ?side2 A12.out).mono ?_);(case side1=>repeat (first|(with_reducible first|exact HI0.out|apply IsS83.alloc|apply IsS83.drewN|apply IsS83.drew|apply IsS83.set_1)|exact HI0.out));(case side2=>repeat (first|(with_reducible first|exact HB.out|apply oA|apply pN|apply o1|refine bS ?_ (IsS83.ge HI0.out))|exact HB.out));rintro e w14 ⟨rfl,hi,hb,hk⟩;refine ⟨_,rfl,?_⟩;have n0_:=Am (KeepBut.trans (by repeat (first|(with_reducible first|exact HK.out|apply KeepBut.set_|apply keep_drewN|apply keep_drew|apply keep_alloc)|exact HK.out)) hk (.inl rfl));have n1_:=Am (hb);have n2_:=Am (hi);clear HK HB HI0;revert n0_ n1_ n2_;intro HK HB HI0;(try clear hb);(try clear hb2);(try clear hk);(try clear hi)))
  go_ret
  exact ⟨by first|rfl|(simp [errW_none,errW_some] <;> rfl)|(simp [*,errW_none,errW_some] <;> rfl),by repeat (first|(with_reducible first|exact HI0.out|apply IsS83.alloc|apply IsS83.drewN|apply IsS83.drew|apply IsS83.set_1)|exact HI0.out),by repeat (first|(with_reducible first|exact HB.out|apply oA|apply pN|apply o1|refine bS ?_ (IsS83.ge HI0.out))|exact HB.out),by repeat (first|(with_reducible first|exact HK.out|apply KeepBut.set_|apply keep_drewN|apply keep_drew|apply keep_alloc)|exact HK.out)⟩


 rw [if_pos c3] at H
 have c3b0:(t238 == 0)=true:=beq_iff_eq.mpr c3
 have c3b1:(t238 != 0)=false:=bne_eq_false_iff_eq.mpr c3
 clear c3
 obtain ⟨y240,hy240⟩:∃ y_:List Int,y_=(([(-1),12,11]:List Int)):=⟨_,rfl⟩
 replace H:((spec_l6Rd_pick.f k s0_0 t239 3).bind fun bt243=>(if 0≤bt243.1 then (if bt243.1<(y240.length:Int) then (some (rd y240 bt243.1,bt243.2)) else (none)) else (none)))=some (r1,r2):=by first|(rw [hy240];with_reducible exact H)|(have H2_:=(Option.bind_some _ _).symm.trans H;rw [hy240];with_reducible exact H2_)|(have H2_:=(Option.bind_some _ _).symm.trans H;with_reducible exact H2_)|with_reducible exact H|(rw [hy240];exact H)|exact H
 have Ny240:=Am hy240
 clear hy240
 replace H:=oC H
 obtain ⟨⟨t243,t244⟩,A40,H⟩:=H
 replace H:(if 0≤t243 then (if t243<(y240.length:Int) then (some (rd y240 t243,t244)) else (none)) else (none))=some (r1,r2):=H
 have A4:=Am A40
 clear A40
 by_cases c5:0≤t243
 rotate_left
 ·rw [if_neg c5] at H
  exact absurd H (by simp)
 rw [if_pos c5] at H
 have c5b0:decide (0≤t243)=true:=decide_eq_true c5
 clear c5
 by_cases c6:t243<(y240.length:Int)
 rotate_left
 ·rw [if_neg c6] at H
  exact absurd H (by simp)
 rw [if_pos c6] at H
 have c6b0:decide (t243<(y240.length:Int))=true:=decide_eq_true c6
 clear c6
 simp only [Option.some.injEq,Prod.mk.injEq] at H
 obtain ⟨rfl,rfl⟩:=H
 go_enter Try.func46,Try.ntmps46
 go_wp2_with (first|((with_reducible refine gate_callee (f:=47) rfl ?_);refine goesL_ (some 4) rfl rfl Try.func47 (by kernel_rfl) rfl #[.pointer (some ⟨g,0,none⟩),.int .i64 10] rfl (by (try simp only [lM,lC,lN]);first|done|rfl|(simp only [lD,lT];rfl)) ?_;(with_reducible refine (spec_l6Rd_pick.calls k g s0_0 s0_1 10 t238 t239 w0 _ ?side1 ?side2 A2.out).mono ?_);(case side1=>repeat (first|(with_reducible first|exact HI0.out|apply IsS83.alloc|apply IsS83.drewN|apply IsS83.drew|apply IsS83.set_1)|exact HI0.out));(case side2=>repeat (first|(with_reducible first|exact HB.out|apply oA|apply pN|apply o1|refine bS ?_ (IsS83.ge HI0.out))|exact HB.out));rintro e w7 ⟨rfl,hi,hb,hk⟩;refine ⟨_,rfl,?_⟩;have n0_:=Am (KeepBut.trans (by repeat (first|(with_reducible first|exact HK.out|apply KeepBut.set_|apply keep_drewN|apply keep_drew|apply keep_alloc)|exact HK.out)) hk (.inl rfl));have n1_:=Am (hb);have n2_:=Am (hi);clear HK HB HI0;revert n0_ n1_ n2_;intro HK HB HI0;(try clear hb);(try clear hb2);(try clear hk);(try clear hi))|((with_reducible refine gate_dst (N:=6) rfl ?_);refine Kd.R_lit (Kd.int .i64) _ 3 ?hg (N:=6) ?hd (xs:=([(-1),12,11]:List Int)) (inner:=[.int .i64 (-1),.int .i64 12,.int .i64 11]) (ok:=fun _=>True) (okp:=fun _=>True) ?hr ?hp (fun _ hk=>hk) trivial (Below.refl _ _) (Nat.le_refl _) (by simp) ?_;(case hd=>rfl);(case hg=>rfl);(case hr=>first|(go_simp;done)|(go_simp;rfl));(case hp=>exact (Reps.one (show Kd.M (Kd.int .i64) _ _ _ (-1) [.int .i64 (-1)] from rfl) (Reps.one (show Kd.M (Kd.int .i64) _ _ _ 12 [.int .i64 12] from rfl) (Reps.one (show Kd.M (Kd.int .i64) _ _ _ 11 [.int .i64 11] from rfl) (Reps.none _ _)))));intro v241 w8 ho9 hb hg_ hnew_;clear hg_ hnew_;(first|rw [← Ny240.out] at ho9|(simp only [Int.reduceToNat] at ho9;rw [← Ny240.out] at ho9));have n0_:=Am (Kd.R_lower ho9 (keep_size (w:=w) (g:=g) (row:=none) (by repeat (first|(with_reducible first|exact HK.out|apply KeepBut.set_|apply keep_drewN|apply keep_drew|apply keep_alloc)|exact HK.out))));have n1_:=Am (IsS83.below (by repeat (first|(with_reducible first|exact HI0.out|apply IsS83.alloc|apply IsS83.drewN|apply IsS83.drew|apply IsS83.set_1)|exact HI0.out)) hb);have n2_:=Am (KeepBut.trans (by repeat (first|(with_reducible first|exact HK.out|apply KeepBut.set_|apply keep_drewN|apply keep_drew|apply keep_alloc)|exact HK.out)) (KeepBut.of_below hb g none) (.inl rfl));have n3_:=Am (bP (by repeat (first|(with_reducible first|exact HB.out|apply oA|apply pN|apply o1|refine bS ?_ (IsS83.ge HI0.out))|exact HB.out)) hb);clear HI0 HK HB;revert n0_ n1_ n2_ n3_;intro Ba HI0 HK HB;clear hb ho9)|((with_reducible refine gate_callee (f:=47) rfl ?_);refine goesL_ (some 8) rfl rfl Try.func47 (by kernel_rfl) rfl #[.pointer (some ⟨g,0,none⟩),.int .i64 3] rfl (by (try simp only [lM,lC,lN]);first|done|rfl|(simp only [lD,lT];rfl)) ?_;(with_reducible refine (spec_l6Rd_pick.calls k g s0_0 t239 3 t243 t244 w0 _ ?side1 ?side2 A4.out).mono ?_);(case side1=>repeat (first|(with_reducible first|exact HI0.out|apply IsS83.alloc|apply IsS83.drewN|apply IsS83.drew|apply IsS83.set_1)|exact HI0.out));(case side2=>repeat (first|(with_reducible first|exact HB.out|apply oA|apply pN|apply o1|refine bS ?_ (IsS83.ge HI0.out))|exact HB.out));rintro e w10 ⟨rfl,hi,hb,hk⟩;refine ⟨_,rfl,?_⟩;have n0_:=Am (rM (Kd.R_keep (IsS83.apart (show IsS83 w0 _ g s0_0 t239 from by repeat (first|(with_reducible first|exact HI0.out|apply IsS83.alloc|apply IsS83.drewN|apply IsS83.drew|apply IsS83.set_1)|exact HI0.out)) (rL Ba.out) (by decide)) hk (fun _ h=>h.2)) (fun _ h=>h.1));have n1_:=Am (KeepBut.trans (by repeat (first|(with_reducible first|exact HK.out|apply KeepBut.set_|apply keep_drewN|apply keep_drew|apply keep_alloc)|exact HK.out)) hk (.inl rfl));have n2_:=Am (hb);have n3_:=Am (hi);clear Ba HK HB HI0;revert n0_ n1_ n2_ n3_;intro Ba HK HB HI0;(try clear hb);(try clear hb2);(try clear hk);(try clear hi);obtain ⟨Ao11,co11,eo11⟩:=Kd.R_slice Ba.out;subst eo11;have p245:0≤(t243:Int):=of_decide_eq_true (by first|(with_reducible assumption)|assumption);have q245:t243<(y240.length:Int):=of_decide_eq_true (by first|(with_reducible assumption)|assumption);obtain ⟨ad245,e245,hx245_0⟩:=Kd.at_int (Kd.R_reads' Ba.out).2.2 t243 p245 q245;cases e245;replace p245:=eq_true p245;replace q245:=eq_true q245))
 go_ret
 exact ⟨by first|rfl|(simp [errW_none,errW_some] <;> rfl)|(simp [*,errW_none,errW_some] <;> rfl),by repeat (first|(with_reducible first|exact HI0.out|apply IsS83.alloc|apply IsS83.drewN|apply IsS83.drew|apply IsS83.set_1)|exact HI0.out),by repeat (first|(with_reducible first|exact HB.out|apply oA|apply pN|apply o1|refine bS ?_ (IsS83.ge HI0.out))|exact HB.out),by repeat (first|(with_reducible first|exact HK.out|apply KeepBut.set_|apply keep_drewN|apply keep_drew|apply keep_alloc)|exact HK.out)⟩/-! ### spec_DrawPagesGive: function 27 -/
def spec_DrawPagesGive.f (k : Nat) (l0 : List Int) : Option (List ByteArray × List Int × Int) := (spec_l6Open.f l0).bind fun bt249 => ((spec_l91Pages.f k bt249.1 bt249.2).bind fun bt252 => ((spec_l91At.f k bt249.1 bt252.2.2).bind fun bt259 => (some (bt252.1, bt252.2.1, bt259.1))))
theorem spec_DrawPagesGive.mono : ∀ a0 k, LeO (spec_DrawPagesGive.f k a0) (spec_DrawPagesGive.f (k + 1) a0) := by
 intro a0 k
 unfold spec_DrawPagesGive.f
 repeat' first
  |(with_reducible exact spec_l91At.mono _ _ _)
  |(with_reducible exact spec_l91Pages.mono _ _ _)
  |(with_reducible exact LeO.refl _)
  |(with_reducible exact LeO.none _)
  |(with_reducible refine LeO.ite ?_ ?_)
  |(with_reducible refine LeO.bind ?_ (fun _ => ?_))
  |exact spec_l91At.mono _ _ _
  |exact spec_l91Pages.mono _ _ _
  |exact LeO.none _
  |refine LeO.ite ?_ ?_
  |refine LeO.bind ?_ (fun _ => ?_)
set_option maxHeartbeats 2000000 in
set_option maxRecDepth 100000 in
theorem spec_DrawPagesGive.calls (k:Nat) (A0:Option Addr) (c0:Nat) (l0:List Int) (r1:List ByteArray) (r2:List Int) (r3:Int) (w:World) (hr0:Kd.C (Kd.int .u8) w A0 l0.length l0) (hc0:l0.length≤c0) (h:spec_DrawPagesGive.f k l0=some (r1,r2,r3)) :
  Calls Try.prog 27 #[.slice A0 l0.length c0] w fun e w'=>∃ v0_ v1_:Value,e=.returned (.tuple #[.agg #[v0_,v1_],.int .i64 r3])∧Kd.R Kd.string 9 w' w.heap.size (fun _=>True) v0_ r1∧Kd.R (Kd.int .i64) 3 w' w.heap.size (fun _=>True) v1_ r2∧Below w.heap.size w w':=by
 have hu26:=Try.underlying26
 have HR0:=Am hr0
 have HC0:=Am hc0
 clear hr0 hc0
 have HB:=Am (Below.refl w.heap.size w)
 have H:((spec_l6Open.f l0).bind fun bt249=>((spec_l91Pages.f k bt249.1 bt249.2).bind fun bt252=>((spec_l91At.f k bt249.1 bt252.2.2).bind fun bt259=>(some (bt252.1,bt252.2.1,bt259.1)))))=some (r1,r2,r3):=h
 clear h
 replace H:=oC H
 obtain ⟨⟨t249,t250⟩,A20,H⟩:=H
 replace H:((spec_l91Pages.f k t249 t250).bind fun bt252=>((spec_l91At.f k t249 bt252.2.2).bind fun bt259=>(some (bt252.1,bt252.2.1,bt259.1))))=some (r1,r2,r3):=H
 have A2:=Am A20
 clear A20
 replace H:=oC H
 obtain ⟨⟨t252,t255,t258⟩,A30,H⟩:=H
 replace H:((spec_l91At.f k t249 t258).bind fun bt259=>(some (t252,t255,bt259.1)))=some (r1,r2,r3):=H
 have A3:=Am A30
 clear A30
 replace H:=oC H
 obtain ⟨⟨t259,t260⟩,A40,H⟩:=H
 replace H:(some (t252,t255,t259))=some (r1,r2,r3):=H
 have A4:=Am A40
 clear A40
 simp only [Option.some.injEq,Prod.mk.injEq] at H
 obtain ⟨rfl,rfl,rfl⟩:=H
 go_enter Try.func27,Try.ntmps27
 go_wp2_with (first|((with_reducible refine gate_dst (N:=2) rfl ?_);refine box_event ?hg (N:=2) ?hd (cs:=#[.slice none 0 0,.slice none 0 0]) (t:=26) ?hr ?_;(case hd=>rfl);(case hg=>rfl);(case hr=>first|(go_simp;done)|(go_simp;rfl));intro Bb hg w5 hbox hb;have n0_:=Am (bP (by repeat (first|(with_reducible first|exact HB.out|apply oA|apply pN|apply o1)|exact HB.out)) hb);have n1_:=Am (hbox);have n2_:=Am ((by rw [hg];exact (bZ (by repeat (first|(with_reducible first|exact HB.out|apply oA|apply pN|apply o1)|exact HB.out))):w.heap.size≤Bb));have n3_:=Am ((by rw [hg];exact (bZ (by repeat (first|(with_reducible first|exact HB.out|apply oA|apply pN|apply o1)|exact HB.out))):w.heap.size≤Bb));clear HB;revert n0_ n1_ n2_ n3_;intro HB Ba Bl Be;clear hb hbox hg)|((with_reducible refine gate_callee (f:=40) rfl ?_);refine goesL_ (some 6) rfl rfl Try.func40 (by kernel_rfl) rfl #[.slice A0 l0.length c0] rfl (by (try simp only [lM,lC,lN]);first|done|rfl|(simp only [lD,lT];rfl)) ?_;(with_reducible refine (spec_l6Open.calls _ _ l0 t249 t250 w _ ?side1 ?side2 ?side3 A2.out).mono ?_);(case side1=>repeat (first|(with_reducible first|exact HB.out|apply oA|apply pN|apply o1|refine bS ?_ Be.out)|exact HB.out));(case side2=>exact HR0.out);(case side3=>exact HC0.out);rintro e w6 ⟨g251,rfl,hi,hb,hb2⟩;refine ⟨_,rfl,?_⟩;have n0_:=Am (bB (g:=Bb) (o:=.cells #[.slice none 0 0,.slice none 0 0] 26 (0,0)) (bL Ba.out) hb2);have n1_:=Am (hb);have n2_:=Am (hi);have n3_:=Am (IsS83.ne_blk hi (bB (g:=Bb) (o:=.cells #[.slice none 0 0,.slice none 0 0] 26 (0,0)) (bL Ba.out) hb2) (by decide));have n4_:=Am (Ne.symm (IsS83.ne_blk hi (bB (g:=Bb) (o:=.cells #[.slice none 0 0,.slice none 0 0] 26 (0,0)) (bL Ba.out) hb2) (by decide)));clear Ba HB;revert n0_ n1_ n2_ n3_ n4_;intro Ba HB HI251 Bc Bd;(try clear hb);(try clear hb2);(try clear hk);(try clear hi))|((with_reducible refine gate_callee (f:=41) rfl ?_);refine goesL_ (some 8) rfl rfl Try.func41 (by kernel_rfl) rfl #[.pointer (some ⟨g251,0,none⟩)] rfl (by (try simp only [lM,lC,lN]);first|done|rfl|(simp only [lD,lT];rfl)) ?_;(with_reducible refine (spec_l91Pages.calls k g251 t249 t250 t252 t255 t258 w _ ?side1 ?side2 A3.out).mono ?_);(case side1=>repeat (first|(with_reducible first|exact HI251.out|apply IsS83.alloc|apply IsS83.drewN|apply IsS83.drew|apply IsS83.set_1|refine IsS83.far ?_ Bc.out _)|exact HI251.out));(case side2=>repeat (first|(with_reducible first|exact HB.out|apply oA|apply pN|apply o1|refine bS ?_ (IsS83.ge HI251.out)|refine bS ?_ Be.out)|exact HB.out));rintro e w7 ⟨v253,v256,rfl,ho0,ho1,hi,hb,hk⟩;refine ⟨_,rfl,?_⟩;have n0_:=Am (KeepBut.blk hk (g':=Bb) (o:=.cells #[.slice none 0 0,.slice none 0 0] 26 (0,0)) (bL Ba.out) Bd.out (by simp));have n1_:=Am (Kd.R_lower ho0 (bZ (by repeat (first|(with_reducible first|exact HB.out|apply oA|apply pN|apply o1|refine bS ?_ (IsS83.ge HI251.out)|refine bS ?_ Be.out)|exact HB.out))));have n2_:=Am (Kd.R_lower ho1 (bZ (by repeat (first|(with_reducible first|exact HB.out|apply oA|apply pN|apply o1|refine bS ?_ (IsS83.ge HI251.out)|refine bS ?_ Be.out)|exact HB.out))));have n3_:=Am (hb);have n4_:=Am (hi);clear Ba HB HI251;revert n0_ n1_ n2_ n3_ n4_;intro Ba Bf Bg HB HI251;(try clear hb);(try clear hb2);(try clear hk);(try clear hi);(try clear ho0);(try clear ho1))|((with_reducible refine gate_callee (f:=46) rfl ?_);refine goesL_ (some 10) rfl rfl Try.func46 (by kernel_rfl) rfl #[.pointer (some ⟨g251,0,none⟩)] rfl (by (try simp only [lM,lC,lN]);first|done|rfl|(simp only [lD,lT];rfl)) ?_;(with_reducible refine (spec_l91At.calls k g251 t249 t258 t259 t260 w _ ?side1 ?side2 A4.out).mono ?_);(case side1=>repeat (first|(with_reducible first|exact HI251.out|apply IsS83.alloc|apply IsS83.drewN|apply IsS83.drew|apply IsS83.set_1|refine IsS83.far ?_ Bc.out _)|exact HI251.out));(case side2=>repeat (first|(with_reducible first|exact HB.out|apply oA|apply pN|apply o1|refine bS ?_ (IsS83.ge HI251.out)|refine bS ?_ Be.out)|exact HB.out));rintro e w8 ⟨rfl,hi,hb,hk⟩;refine ⟨_,rfl,?_⟩;have n0_:=Am (KeepBut.blk hk (g':=Bb) (o:=.cells #[.slice none 0 0,.slice none 0 0] 26 (0,0)) (bL Ba.out) Bd.out (by simp));have n1_:=Am (rM (Kd.R_keep (IsS83.apart (show IsS83 w _ g251 t249 t258 from by repeat (first|(with_reducible first|exact HI251.out|apply IsS83.alloc|apply IsS83.drewN|apply IsS83.drew|apply IsS83.set_1|refine IsS83.far ?_ Bc.out _)|exact HI251.out)) (rL Bf.out) (by decide)) hk (fun _ h=>h.2)) (fun _ h=>h.1));have n2_:=Am (rM (Kd.R_keep (IsS83.apart (show IsS83 w _ g251 t249 t258 from by repeat (first|(with_reducible first|exact HI251.out|apply IsS83.alloc|apply IsS83.drewN|apply IsS83.drew|apply IsS83.set_1|refine IsS83.far ?_ Bc.out _)|exact HI251.out)) (rL Bg.out) (by decide)) hk (fun _ h=>h.2)) (fun _ h=>h.1));have n3_:=Am (hb);have n4_:=Am (hi);clear Ba Bf Bg HB HI251;revert n0_ n1_ n2_ n3_ n4_;intro Ba Bf Bg HB HI251;(try clear hb);(try clear hb2);(try clear hk);(try clear hi);obtain ⟨Ao9,co9,eo9⟩:=Kd.R_slice Bf.out;subst eo9;have Bm:=Bd.out;have Bn:=Bc.out;have Bh:=cz0 Ba.out;have Bi:=cz1 Ba.out;have Bj:=bF Ba.out 0;have Bk:=bF Ba.out 1;obtain ⟨Ao12,co12,eo12⟩:=Kd.R_slice Bg.out;subst eo12))
 refine bodyPost_ret (results_ct rfl _ _ Bb 26 #[.slice Ao9 t252.length co9,.slice Ao12 t255.length co12] (0,0) _ rfl (by (with_reducible repeat (first|refine bN ?_ _|refine bD ?_|refine bA ?_ _));refine blk_put (cs:=#[.slice Ao9 t252.length co9,.slice none 0 0]) ?_ 1 _ rfl;(with_reducible repeat (first|refine bN ?_ _|refine bD ?_|refine bA ?_ _));refine blk_put (cs:=#[.slice none 0 0,.slice none 0 0]) ?_ 0 _ rfl;(with_reducible repeat (first|refine bN ?_ _|refine bD ?_|refine bA ?_ _));exact Ba.out) Try.underlying26 rfl (by kernel_rfl)) rfl ?_
 exact ⟨_,_,by first|rfl|(simp [errW_none,errW_some] <;> rfl)|(simp [*,errW_none,errW_some] <;> rfl),by (with_reducible repeat (first|apply rA|apply rN|apply rD));exact rM (rF (p:=⟨Bb,1,none⟩) (rF (p:=⟨Bb,0,none⟩) (rT Bf.out Ba.out (by decide)) (fun _ hk=>hk.2) (.slice Ao9 t252.length co9)) (fun _ hk=>hk.2) (.slice Ao12 t255.length co12)) (fun _ hk=>trivial),by (with_reducible repeat (first|apply rA|apply rN|apply rD));exact rM (rF (p:=⟨Bb,1,none⟩) (rF (p:=⟨Bb,0,none⟩) (rT Bg.out Ba.out (by decide)) (fun _ hk=>hk.2) (.slice Ao9 t252.length co9)) (fun _ hk=>hk.2) (.slice Ao12 t255.length co12)) (fun _ hk=>trivial),by repeat (first|(with_reducible first|exact HB.out|apply oA|apply pN|apply o1|refine bS ?_ (IsS83.ge HI251.out)|refine bS ?_ Be.out)|exact HB.out)⟩

end Go.Proofs.Ytpdfkbggaihfpaa.PFnPagesGive
