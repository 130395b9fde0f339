/- Proved here, without a condition beyond those that each theorem states: what the Go functions named below do is what the plain functions of the same names say. Written by xprint.py, a program of this session. -/
import Derived.Test.YtpacdakadkblgaaCS
import Derived.Test.YtpacdakadkblgaaPFnClockDropx0
import Derived.Test.YtpacdakadkblgaaPFnClockDropx2
import Derived.Test.YtpacdakadkblgaaPFnClockDropx3
import Derived.Test.YtpacdakadkblgaaPFnClockDropx6
import Derived.Test.YtpacdakadkblgaaPFnClockDropx13
namespace Go.Proofs.Ytpacdakadkblgaa.PFnClockDrop
open Go.RowKit Go.Proofs.YtpacdakadkblgaaW.PrintWords Go.Proofs.YtpacdakadkblgaaW.PrintLast Go.Proofs.YtpacdakadkblgaaW.PrintMore
attribute [local go_sem] max2_int min2_int max_two min_two max_three min_three max_four min_four   -- for this text's walks alone
set_option linter.unusedVariables false
set_option linter.unusedSimpArgs false
attribute [local go_sem ↓] isSome_setCell_
/-! ### spec_l97Clock: function 12 -/
set_option maxHeartbeats 2000000 in
set_option maxRecDepth 100000 in
theorem spec_l97Clock.calls (k:Nat) (g:Nat) (s0_0:List Int) (s0_1:Int) (r1:Int) (r2:List (S35)) (r3:Int) (w0 w:World) (hI:IsS51 w0 w g s0_0 s0_1) (hB:Below w0.heap.size w0 w) (h:spec_l97Clock.f k s0_0 s0_1=some (r1,r2,r3)) :
  Calls Try.prog 12 #[.pointer (some ⟨g,0,none⟩)] w fun e w'=>∃ v1_:Value,e=.returned (.agg #[.int .i64 r1,v1_])∧Kd.R k35 35 w' w.heap.size (fun _=>True) v1_ r2∧IsS51 w0 w' g s0_0 r3∧Below w0.heap.size w0 w'∧KeepBut w w' g none:=by
 have hu25:=Try.underlying25
 have hu35:=Try.underlying35
 have HI0:=Am hI
 have HK:=Am (KeepBut.refl w g none)
 have HL:=Am hB.size
 clear hI
 have HW0:=Am hB.size
 have HB:=Am hB
 clear hB
 have H:((some (([0,100,4000,4090]:List Int):List Int)).bind fun y170=>((spec_l6Rd_pick.f k s0_0 s0_1 4).bind fun bt173=>(if 0≤bt173.1 then (if bt173.1<(y170.length:Int) then ((spec_ClockNew.f (rd y170 bt173.1)).bind fun bt176=>((spec_l6Rd_pick.f k s0_0 bt173.2 14).bind fun bt182=>(spec_l97Clock.l0 k bt182.1 s0_0 bt182.2 bt176.1 bt176.2.1))) else (none)) else (none))))=some (r1,r2,r3):=h
 clear h
 obtain ⟨y170,hy170⟩:∃ y_:List Int,y_=(([0,100,4000,4090]:List Int)):=⟨_,rfl⟩
 replace H:((spec_l6Rd_pick.f k s0_0 s0_1 4).bind fun bt173=>(if 0≤bt173.1 then (if bt173.1<(y170.length:Int) then ((spec_ClockNew.f (rd y170 bt173.1)).bind fun bt176=>((spec_l6Rd_pick.f k s0_0 bt173.2 14).bind fun bt182=>(spec_l97Clock.l0 k bt182.1 s0_0 bt182.2 bt176.1 bt176.2.1))) else (none)) else (none)))=some (r1,r2,r3):=by first|(rw [hy170];with_reducible exact H)|(have H2_:=(Option.bind_some _ _).symm.trans H;rw [hy170];with_reducible exact H2_)|(have H2_:=(Option.bind_some _ _).symm.trans H;with_reducible exact H2_)|with_reducible exact H|(rw [hy170];exact H)|exact H
 have Ny170:=Am hy170
 clear hy170
 replace H:=oC H
 obtain ⟨⟨t173,t174⟩,A20,H⟩:=H
 replace H:(if 0≤t173 then (if t173<(y170.length:Int) then ((spec_ClockNew.f (rd y170 t173)).bind fun bt176=>((spec_l6Rd_pick.f k s0_0 t174 14).bind fun bt182=>(spec_l97Clock.l0 k bt182.1 s0_0 bt182.2 bt176.1 bt176.2.1))) else (none)) else (none))=some (r1,r2,r3):=H
 have A2:=Am A20
 clear A20
 by_cases c3:0≤t173
 rotate_left
 ·rw [if_neg c3] at H
  exact absurd H (by simp)
 rw [if_pos c3] at H
 have c3b0:decide (0≤t173)=true:=dT c3
 clear c3
 by_cases c4:t173<(y170.length:Int)
 rotate_left
 ·rw [if_neg c4] at H
  exact absurd H (by simp)
 rw [if_pos c4] at H
 have c4b0:decide (t173<(y170.length:Int))=true:=dT c4
 clear c4
 replace H:=oC H
 obtain ⟨⟨t176,t177,t180⟩,A50,H⟩:=H
 replace H:((spec_l6Rd_pick.f k s0_0 t174 14).bind fun bt182=>(spec_l97Clock.l0 k bt182.1 s0_0 bt182.2 t176 t177))=some (r1,r2,r3):=H
 have A5:=Am A50
 clear A50
 replace H:=oC H
 obtain ⟨⟨t182,t183⟩,A60,H⟩:=H
 replace H:(spec_l97Clock.l0 k t182 s0_0 t183 t176 t177)=some (r1,r2,r3):=H
 have A6:=Am A60
 clear A60
 have H':=Am H
 clear H
 go_enter Try.func12,Try.ntmps12
 go_wp2_with (first|((with_reducible refine gD (N:=2) rfl ?_);refine bI ?hg (N:=2) ?hd (cs:=#[.int .i64 0,.slice none 0 0]) (t:=25) ?hr ?_;(case hd=>rfl);(case hg=>rfl);(case hr=>first|(go_simp;done)|(go_simp;rfl));intro Bg hg w7 hbox hb;have n0_:=Am (IsS51.below (by repeat (first|(with_reducible first|exact HI0.out|apply qsA|apply qsN|apply qsD|apply qsS)|exact HI0.out)) hb);have n1_:=Am (KeepBut.trans (by repeat (first|(with_reducible first|exact HK.out|apply qkS|apply qkN|apply qkD|apply qkA)|exact HK.out)) (KeepBut.of_below hb g none) (.inl rfl));have n2_:=Am (bP (by repeat (first|(with_reducible first|exact HB.out|apply oA|apply pN|apply o1|refine bS ?_ (qsG HI0.out))|exact HB.out)) hb);have n3_:=Am (hbox);have n4_:=Am ((by rw [hg];exact (keep_size (w:=w) (g:=g) (row:=none) (by repeat (first|(with_reducible first|exact HK.out|apply qkS|apply qkN|apply qkD|apply qkA)|exact HK.out))):w.heap.size≤Bg));have n5_:=Am ((Nat.le_trans HW0.out (by rw [hg];exact (keep_size (w:=w) (g:=g) (row:=none) (by repeat (first|(with_reducible first|exact HK.out|apply qkS|apply qkN|apply qkD|apply qkA)|exact HK.out))):w.heap.size≤Bg):w0.heap.size≤Bg));have n6_:=Am ((by rw [hg];exact nI (IsS51.lt (show IsS51 w0 _ g s0_0 s0_1 from by repeat (first|(with_reducible first|exact HI0.out|apply qsA|apply qsN|apply qsD|apply qsS)|exact HI0.out))):g≠Bg));have n7_:=Am ((by rw [hg];exact nJ (IsS51.lt (show IsS51 w0 _ g s0_0 s0_1 from by repeat (first|(with_reducible first|exact HI0.out|apply qsA|apply qsN|apply qsD|apply qsS)|exact HI0.out))):Bg≠g));clear HI0 HK HB;revert n0_ n1_ n2_ n3_ n4_ n5_ n6_ n7_;intro HI0 HK HB Bc Bi Bo Be Bz;clear hb hbox hg)|((with_reducible refine gD (N:=12) rfl ?_);refine Kd.R_lit (Kd.int .i64) _ 3 ?hg (N:=12) ?hd (xs:=([0,100,4000,4090]:List Int)) (inner:=[.int .i64 0,.int .i64 100,.int .i64 4000,.int .i64 4090]) (ok:=fun _=>True) (okp:=fun _=>True) ?hr ?hp (fun _ hk=>hk) trivial (bJ _ _) (nR _) (by simp) ?_;(case hd=>rfl);(case hg=>rfl);(case hr=>first|(go_simp;done)|(go_simp;rfl));(case hp=>exact (Reps.one (show Kd.M (Kd.int .i64) _ _ _ 0 [.int .i64 0] from rfl) (Reps.one (show Kd.M (Kd.int .i64) _ _ _ 100 [.int .i64 100] from rfl) (Reps.one (show Kd.M (Kd.int .i64) _ _ _ 4000 [.int .i64 4000] from rfl) (Reps.one (show Kd.M (Kd.int .i64) _ _ _ 4090 [.int .i64 4090] from rfl) (Reps.none _ _))))));intro v171 w8 ho9 hb hg_ hnew_;clear hg_ hnew_;(first|rw [←Ny170.out] at ho9|(simp only [Int.reduceToNat] at ho9;rw [←Ny170.out] at ho9));have n0_:=Am (rW ho9 (keep_size (w:=w) (g:=g) (row:=none) (by repeat (first|(with_reducible first|exact HK.out|apply qkS|apply qkN|apply qkD|apply qkA|refine qkF ?_ Bi.out _)|exact HK.out))));have n1_:=Am (IsS51.below (by repeat (first|(with_reducible first|exact HI0.out|apply qsA|apply qsN|apply qsD|apply qsS|refine qsF ?_ Be.out _)|exact HI0.out)) hb);have n2_:=Am (bX Bc.out hb);have n3_:=Am (KeepBut.trans (by repeat (first|(with_reducible first|exact HK.out|apply qkS|apply qkN|apply qkD|apply qkA|refine qkF ?_ Bi.out _)|exact HK.out)) (KeepBut.of_below hb g none) (.inl rfl));have n4_:=Am (bP (by repeat (first|(with_reducible first|exact HB.out|apply oA|apply pN|apply o1|refine bS ?_ (qsG HI0.out)|refine bS ?_ Bo.out)|exact HB.out)) hb);clear HI0 Bc HK HB;revert n0_ n1_ n2_ n3_ n4_;intro BP HI0 Bc HK HB;clear hb ho9)|((with_reducible refine gC (f:=13) rfl ?_);refine goesL_ (some 14) rfl rfl Try.func13 (by kernel_rfl) rfl #[.pointer (some ⟨g,0,none⟩),.int .i64 4] rfl (by (try simp only [lM,lC,lN]);first|done|rfl|(simp only [lD,lT];rfl)) ?_;(with_reducible refine (spec_l6Rd_pick.calls k g s0_0 s0_1 4 t173 t174 w0 _ ?side1 ?side2 A2.out).mono ?_);(case side1=>repeat (first|(with_reducible first|exact HI0.out|apply qsA|apply qsN|apply qsD|apply qsS|refine qsF ?_ Be.out _)|exact HI0.out));(case side2=>repeat (first|(with_reducible first|exact HB.out|apply oA|apply pN|apply o1|refine bS ?_ (qsG HI0.out)|refine bS ?_ Bo.out)|exact HB.out));rintro e w10 ⟨rfl,hi,hb,hk⟩;refine ⟨_,rfl,?_⟩;have n0_:=Am (qkB hk (g':=Bg) (o:=.cells #[.int .i64 0,.slice none 0 0] 25 (0,0)) (bL Bc.out) Bz.out (by simp));have n1_:=Am (rM (Kd.R_keep (IsS51.apart (show IsS51 w0 _ g s0_0 s0_1 from by repeat (first|(with_reducible first|exact HI0.out|apply qsA|apply qsN|apply qsD|apply qsS|refine qsF ?_ Be.out _)|exact HI0.out)) (rL BP.out) (by decide)) hk (fun _ h=>h.2)) (fun _ h=>h.1));have n2_:=Am (KeepBut.trans (by repeat (first|(with_reducible first|exact HK.out|apply qkS|apply qkN|apply qkD|apply qkA|refine qkF ?_ Bi.out _)|exact HK.out)) hk (.inl rfl));have n3_:=Am (hb);have n4_:=Am (hi);clear Bc BP HK HB HI0;revert n0_ n1_ n2_ n3_ n4_;intro Bc BP HK HB HI0;(try clear hb);(try clear hb2);(try clear hk);(try clear hi);obtain ⟨Ao11,co11,eo11⟩:=rC BP.out;subst eo11;have p175:0≤(t173:Int):=oE (by first|(with_reducible assumption)|assumption);have q175:t173<(y170.length:Int):=oE (by first|(with_reducible assumption)|assumption);obtain ⟨ad175,e175,hx175_0⟩:=Kd.at_int (rR BP.out).2.2 t173 p175 q175;cases e175;replace p175:=eq_true p175;replace q175:=eq_true q175)|((with_reducible refine gC (f:=22) rfl ?_);refine goesL_ (some 17) rfl rfl Try.func22 (by kernel_rfl) rfl #[.int .i64 (rd y170 t173)] rfl (by (try simp only [lM,lC,lN]);first|done|rfl|(simp only [lD,lT];rfl)) ?_;(with_reducible refine (spec_ClockNew.calls (rd y170 t173) t176 t177 t180 _ A5.out).mono ?_);rintro e w12 ⟨v178,rfl,ho0,hb⟩;refine ⟨_,rfl,?_⟩;have n0_:=Am (rB (rL BP.out) hb);have n1_:=Am (rW ho0 (keep_size (w:=w) (g:=g) (row:=none) (by repeat (first|(with_reducible first|exact HK.out|apply qkS|apply qkN|apply qkD|apply qkA|refine qkF ?_ Bi.out _)|exact HK.out))));have n2_:=Am (IsS51.below (by repeat (first|(with_reducible first|exact HI0.out|apply qsA|apply qsN|apply qsD|apply qsS|refine qsF ?_ Be.out _)|exact HI0.out)) hb);have n3_:=Am (bX Bc.out hb);have n4_:=Am (KeepBut.trans (by repeat (first|(with_reducible first|exact HK.out|apply qkS|apply qkN|apply qkD|apply qkA|refine qkF ?_ Bi.out _)|exact HK.out)) (KeepBut.of_below hb g none) (.inl rfl));have n5_:=Am (bP (by repeat (first|(with_reducible first|exact HB.out|apply oA|apply pN|apply o1|refine bS ?_ (qsG HI0.out)|refine bS ?_ Bo.out)|exact HB.out)) hb);clear BP HI0 Bc HK HB;revert n0_ n1_ n2_ n3_ n4_ n5_;intro BP BS HI0 Bc HK HB;(try clear hb);(try clear hb2);(try clear hk);(try clear hi);(try clear ho0))|((with_reducible refine gD (N:=3) rfl ?_);refine bI ?hg (N:=3) ?hd (cs:=#[.int .i64 0,.slice none 0 0]) (t:=25) ?hr ?_;(case hd=>rfl);(case hg=>rfl);(case hr=>first|(go_simp;done)|(go_simp;rfl));intro Bd hg w13 hbox hb;have n0_:=Am (rB (rL BP.out) hb);have n1_:=Am (rB (rL BS.out) hb);have n2_:=Am (IsS51.below (by repeat (first|(with_reducible first|exact HI0.out|apply qsA|apply qsN|apply qsD|apply qsS|refine qsF ?_ Be.out _)|exact HI0.out)) hb);have n3_:=Am (bX Bc.out hb);have n4_:=Am (KeepBut.trans (by repeat (first|(with_reducible first|exact HK.out|apply qkS|apply qkN|apply qkD|apply qkA|refine qkF ?_ Bi.out _)|exact HK.out)) (KeepBut.of_below hb g none) (.inl rfl));have n5_:=Am (bP (by repeat (first|(with_reducible first|exact HB.out|apply oA|apply pN|apply o1|refine bS ?_ (qsG HI0.out)|refine bS ?_ Bo.out)|exact HB.out)) hb);have n6_:=Am (hbox);have n7_:=Am ((by rw [hg];exact (keep_size (w:=w) (g:=g) (row:=none) (by repeat (first|(with_reducible first|exact HK.out|apply qkS|apply qkN|apply qkD|apply qkA|refine qkF ?_ Bi.out _)|exact HK.out))):w.heap.size≤Bd));have n8_:=Am ((Nat.le_trans HW0.out (by rw [hg];exact (keep_size (w:=w) (g:=g) (row:=none) (by repeat (first|(with_reducible first|exact HK.out|apply qkS|apply qkN|apply qkD|apply qkA|refine qkF ?_ Bi.out _)|exact HK.out))):w.heap.size≤Bd):w0.heap.size≤Bd));have n9_:=Am ((nL Bc.out hg));have n10_:=Am ((nG Bc.out hg));have n11_:=Am ((by rw [hg];exact nI (IsS51.lt (show IsS51 w0 _ g s0_0 t174 from by repeat (first|(with_reducible first|exact HI0.out|apply qsA|apply qsN|apply qsD|apply qsS|refine qsF ?_ Be.out _)|exact HI0.out))):g≠Bd));have n12_:=Am ((by rw [hg];exact nJ (IsS51.lt (show IsS51 w0 _ g s0_0 t174 from by repeat (first|(with_reducible first|exact HI0.out|apply qsA|apply qsN|apply qsD|apply qsS|refine qsF ?_ Be.out _)|exact HI0.out))):Bd≠g));clear BP BS HI0 Bc HK HB;revert n0_ n1_ n2_ n3_ n4_ n5_ n6_ n7_ n8_ n9_ n10_ n11_ n12_;intro BP BS HI0 Bc HK HB Bb Bk Bp BK BO Bf Bw;clear hb hbox hg;have DR:=BO.out;have DS:=BK.out;have DT:=Bw.out;have DU:=Bf.out;have BV:=cz0 Bb.out;have BW:=cz1 Bb.out;have BX:=bF Bb.out 0;have BY:=bF Bb.out 1;obtain ⟨Ao17,co17,eo17⟩:=rC BS.out;subst eo17)|((with_reducible refine gC (f:=13) rfl ?_);refine goesL_ (some 21) rfl rfl Try.func13 (by kernel_rfl) rfl #[.pointer (some ⟨g,0,none⟩),.int .i64 14] rfl (by (try simp only [lM,lC,lN]);first|done|rfl|(simp only [lD,lT];rfl)) ?_;(with_reducible refine (spec_l6Rd_pick.calls k g s0_0 t174 14 t182 t183 w0 _ ?side1 ?side2 A6.out).mono ?_);(case side1=>repeat (first|(with_reducible first|exact HI0.out|apply qsA|apply qsN|apply qsD|apply qsS|refine qsF ?_ Be.out _|refine qsF ?_ Bf.out _)|exact HI0.out));(case side2=>repeat (first|(with_reducible first|exact HB.out|apply oA|apply pN|apply o1|refine bS ?_ (qsG HI0.out)|refine bS ?_ Bo.out|refine bS ?_ Bp.out)|exact HB.out));rintro e w18 ⟨rfl,hi,hb,hk⟩;refine ⟨_,rfl,?_⟩;have n0_:=Am (qkB hk (g':=Bg) (o:=.cells #[.int .i64 0,.slice none 0 0] 25 (0,0)) (by (with_reducible repeat (first|refine bN ?_ _|refine bD ?_|refine bA ?_ _|refine bE ?_ BK.out _));exact Bc.out) Bz.out (by simp));have n1_:=Am (rM (Kd.R_keep (IsS51.apart (show IsS51 w0 _ g s0_0 t174 from by repeat (first|(with_reducible first|exact HI0.out|apply qsA|apply qsN|apply qsD|apply qsS|refine qsF ?_ Be.out _|refine qsF ?_ Bf.out _)|exact HI0.out)) (by (with_reducible repeat (first|apply rA|apply rN|apply rD));exact (rM (rF (p:=⟨Bd,1,none⟩) (rF (p:=⟨Bd,0,none⟩) (rT BP.out Bb.out (by decide)) (fun _ hk=>hk.2) (.int .i64 t176)) (fun _ hk=>hk.2) (.slice Ao17 t177.length co17)) (fun _ h_=>h_.1))) (by decide)) hk (fun _ h=>h.2)) (fun _ h=>h.1));have n2_:=Am (rM (Kd.R_keep (IsS51.apart (show IsS51 w0 _ g s0_0 t174 from by repeat (first|(with_reducible first|exact HI0.out|apply qsA|apply qsN|apply qsD|apply qsS|refine qsF ?_ Be.out _|refine qsF ?_ Bf.out _)|exact HI0.out)) (by (with_reducible repeat (first|apply rA|apply rN|apply rD));exact (rM (rF (p:=⟨Bd,1,none⟩) (rF (p:=⟨Bd,0,none⟩) (rT BS.out Bb.out (by decide)) (fun _ hk=>hk.2) (.int .i64 t176)) (fun _ hk=>hk.2) (.slice Ao17 t177.length co17)) (fun _ h_=>h_.1))) (by decide)) hk (fun _ h=>h.2)) (fun _ h=>h.1));have n3_:=Am (qkB hk (g':=Bd) (o:=.cells #[.int .i64 t176,.slice Ao17 t177.length co17] 25 (0,0)) (by (with_reducible repeat (first|refine bN ?_ _|refine bD ?_|refine bA ?_ _));refine bT (cs:=#[.int .i64 t176,.slice none 0 0]) ?_ 1 _ rfl;(with_reducible repeat (first|refine bN ?_ _|refine bD ?_|refine bA ?_ _));refine bT (cs:=#[.int .i64 0,.slice none 0 0]) ?_ 0 _ rfl;(with_reducible repeat (first|refine bN ?_ _|refine bD ?_|refine bA ?_ _));exact Bb.out) Bw.out (by simp));have n4_:=Am (KeepBut.trans (by repeat (first|(with_reducible first|exact HK.out|apply qkS|apply qkN|apply qkD|apply qkA|refine qkF ?_ Bi.out _|refine qkF ?_ Bk.out _)|exact HK.out)) hk (.inl rfl));have n5_:=Am (hb);have n6_:=Am (hi);clear Bc BP BS Bb HK HB HI0;revert n0_ n1_ n2_ n3_ n4_ n5_ n6_;intro Bc BP BS Bb HK HB HI0;(try clear hb);(try clear hb2);(try clear hk);(try clear hi)))
 go_loopg [5] k (fun kq v5 w'=>∃ (yn:Int) (yp:Int) (ya:Int) (yb:List (S35)) (u182001:Value),v5=.int .i64 yn∧Aside0 (spec_l97Clock.l0 kq yn s0_0 yp ya yb=some (r1,r2,r3))∧Aside0 (kq≤k)∧Aside0 (Kd.R k35 35 w' w.heap.size (fun _=>True) u182001 yb)∧Aside0 (w'.heap[Bg]?=some (.cells #[.int .i64 0,(.slice none 0 0)] 25 (0,0)))∧Aside0 (w'.heap[Bd]?=some (.cells #[.int .i64 ya,u182001] 25 (0,0)))∧Aside0 (IsS51 w0 w' g s0_0 yp)∧Aside0 (KeepBut w w' g none)∧Aside0 (Below w0.heap.size w0 w'))
 case atStart=>exact ⟨(t182),(t183),(t176),(t177),(.slice Ao17 t177.length co17),(by first|rfl|(simp;done)|(simp [*];done)),H',⟨nR _⟩,⟨by (with_reducible repeat (first|apply rA|apply rN|apply rD));exact BS.out⟩,⟨by (with_reducible repeat (first|refine bN ?_ _|refine bD ?_|refine bA ?_ _));exact Bc.out⟩,⟨by (with_reducible repeat (first|refine bN ?_ _|refine bD ?_|refine bA ?_ _));exact Bb.out⟩,⟨by repeat (first|(with_reducible first|exact HI0.out|apply qsA|apply qsN|apply qsD|apply qsS|refine qsF ?_ Be.out _|refine qsF ?_ Bf.out _)|exact HI0.out)⟩,⟨by repeat (first|(with_reducible first|exact HK.out|apply qkS|apply qkN|apply qkD|apply qkA|refine qkF ?_ Bi.out _|refine qkF ?_ Bk.out _)|exact HK.out)⟩,⟨by repeat (first|(with_reducible first|exact HB.out|apply oA|apply pN|apply o1|refine bS ?_ (qsG HI0.out)|refine bS ?_ Bo.out|refine bS ?_ Bp.out)|exact HB.out)⟩⟩
 case round =>
  clear H'
  try clear c1
  try clear p1
  try clear q1
  try clear hx1
  try clear c2
  try clear p2
  try clear c3
  try clear c3b0
  try clear c4
  try clear c4b0
  try clear c12
  try clear c13
  try clear c14
  try clear c15
  try clear p17
  try clear q17
  try clear hx17
  try clear BV
  try clear BW
  try clear BX
  try clear BY
  try clear hx175_0
  try clear p175
  try clear q175
  obtain ⟨yn,yp,ya,yb,u182001,rfl,HA,HK1,Ba,Bc,Bb,HI0,HK,HB⟩:=hrel
  cases gk with
 |zero=>exact absurd HA.out (by simp [spec_l97Clock.l0])
 |succ k1 =>
   have H:=HA.out
   clear HA
   simp only [spec_l97Clock.l0] at H
   by_cases c19:yn > 0
   rotate_left
   ·rw [if_neg c19] at H
    have c19b0:decide (0<yn)=false:=dF c19
    clear c19
    replace H:=oC H
    obtain ⟨⟨t211,t212⟩,A810,H⟩:=H
    replace H:(if t211=0 then ((some (([(-1),4095,4096,wrap64 (ya+9)]:List Int):List Int)).bind fun y213=>((spec_l6Rd_pick.f k1 s0_0 t212 4).bind fun bt216=>(if 0≤bt216.1 then (if bt216.1<(y213.length:Int) then (some (rd y213 bt216.1,yb,bt216.2)) else (none)) else (none)))) else (if t211=1 then ((spec_l6Rd_pick.f k1 s0_0 t212 101).bind fun bt219=>((some (([0,4095,4096]:List Int):List Int)).bind fun y221=>((spec_l6Rd_pick.f k1 s0_0 bt219.2 3).bind fun bt224=>(if 0≤bt224.1 then (if bt224.1<(y221.length:Int) then ((spec_l6Rd_pick.f k1 s0_0 bt224.2 101).bind fun bt227=>(if yb.length<5864062014805 then (some (ya,(yb++[(⟨bt219.1,rd y221 bt224.1,bt227.1⟩:S35)]),bt227.2)) else (none))) else (none)) else (none))))) else (some (ya,yb,t212))))=some (r1,r2,r3):=H
    have A81:=Am A810
    clear A810
    by_cases c82:t211=0
    ·rw [if_pos c82] at H
     have c82b0:(t211==0)=true:=beq_iff_eq.mpr c82
     have c82b1:(t211 != 0)=false:=bne_eq_false_iff_eq.mpr c82
     clear c82
     obtain ⟨y213,hy213⟩:∃ y_:List Int,y_=(([(-1),4095,4096,wrap64 (ya+9)]:List Int)):=⟨_,rfl⟩
     replace H:((spec_l6Rd_pick.f k1 s0_0 t212 4).bind fun bt216=>(if 0≤bt216.1 then (if bt216.1<(y213.length:Int) then (some (rd y213 bt216.1,yb,bt216.2)) else (none)) else (none)))=some (r1,r2,r3):=by first|(rw [hy213];with_reducible exact H)|(have H2_:=(Option.bind_some _ _).symm.trans H;rw [hy213];with_reducible exact H2_)|(have H2_:=(Option.bind_some _ _).symm.trans H;with_reducible exact H2_)|with_reducible exact H|(rw [hy213];exact H)|exact H
     have Ny213:=Am hy213
     clear hy213
     replace H:=oC H
     obtain ⟨⟨t216,t217⟩,A830,H⟩:=H
     replace H:(if 0≤t216 then (if t216<(y213.length:Int) then (some (rd y213 t216,yb,t217)) else (none)) else (none))=some (r1,r2,r3):=H
     have A83:=Am A830
     clear A830
     by_cases c84:0≤t216
     rotate_left
     ·rw [if_neg c84] at H
      exact absurd H (by simp)
     rw [if_pos c84] at H
     have c84b0:decide (0≤t216)=true:=dT c84
     clear c84
     by_cases c85:t216<(y213.length:Int)
     rotate_left
     ·rw [if_neg c85] at H
      exact absurd H (by simp)
     rw [if_pos c85] at H
     have c85b0:decide (t216<(y213.length:Int))=true:=dT c85
     clear c85
     simp only [Option.some.injEq,Prod.mk.injEq] at H
     obtain ⟨rfl,rfl,rfl⟩:=H
     try go_wp2_with (first|((with_reducible refine gC (f:=13) rfl ?_);refine goesL_ (some 57) rfl rfl Try.func13 (by kernel_rfl) rfl #[.pointer (some ⟨g,0,none⟩),.int .i64 24] rfl (by (try simp only [lM,lC,lN]);first|done|rfl|(simp only [lD,lT];rfl)) ?_;(with_reducible refine (spec_l6Rd_pick.calls k1 g s0_0 yp 24 t211 t212 w0 _ ?side1 ?side2 A81.out).mono ?_);(case side1=>repeat (first|(with_reducible first|exact HI0.out|apply qsA|apply qsN|apply qsD|apply qsS|refine qsF ?_ Be.out _|refine qsF ?_ Bf.out _)|exact HI0.out));(case side2=>repeat (first|(with_reducible first|exact HB.out|apply oA|apply pN|apply o1|refine bS ?_ (qsG HI0.out)|refine bS ?_ Bo.out|refine bS ?_ Bp.out)|exact HB.out));rintro e w86 ⟨rfl,hi,hb,hk⟩;refine ⟨_,rfl,?_⟩;have n0_:=Am (rM (Kd.R_keep (IsS51.apart (show IsS51 w0 _ g s0_0 yp from by repeat (first|(with_reducible first|exact HI0.out|apply qsA|apply qsN|apply qsD|apply qsS|refine qsF ?_ Be.out _|refine qsF ?_ Bf.out _)|exact HI0.out)) (rL Ba.out) (by decide)) hk (fun _ h=>h.2)) (fun _ h=>h.1));have n1_:=Am (qkB hk (g':=Bg) (o:=.cells #[.int .i64 0,.slice none 0 0] 25 (0,0)) (bL Bc.out) Bz.out (by simp));have n2_:=Am (qkB hk (g':=Bd) (o:=.cells #[.int .i64 ya,u182001] 25 (0,0)) (bL Bb.out) Bw.out (by simp));have n3_:=Am (KeepBut.trans (by repeat (first|(with_reducible first|exact HK.out|apply qkS|apply qkN|apply qkD|apply qkA|refine qkF ?_ Bi.out _|refine qkF ?_ Bk.out _)|exact HK.out)) hk (.inl rfl));have n4_:=Am (hb);have n5_:=Am (hi);clear Ba Bc Bb HK HB HI0;revert n0_ n1_ n2_ n3_ n4_ n5_;intro Ba Bc Bb HK HB HI0;(try clear hb);(try clear hb2);(try clear hk);(try clear hi)))
     have pi218:(0≤(t216:Int))=True:=eq_true (oE (by first|(with_reducible assumption)|assumption))
     have qi218:(t216<(y213.length:Int))=True:=eq_true (oE (by first|(with_reducible assumption)|assumption))
     have n0_:=Am (rD Ba.out)
     have n1_:=Am (bD Bc.out)
     have n2_:=Am (bD Bb.out)
     have n3_:=Am (qsD HI0.out)
     have n4_:=Am (qkD HK.out)
     have n5_:=Am (o1 HB.out)
     clear Ba
     clear Bc
     clear Bb
     clear HI0
     clear HK
     clear HB
     have Ba:=n0_
     have Bc:=n1_
     have Bb:=n2_
     have HI0:=n3_
     have HK:=n4_
     have HB:=n5_
     clear n0_ n1_ n2_ n3_ n4_ n5_
     refine start_ (n:=10) (S:=fun w'=>w'.cell? ⟨Bd,0,none⟩=some (.int .i64 ya)∧w'.cell? ⟨Bd,1,none⟩=some (u182001)) (ds:=[9]) z12q48 (by kernel_rfl) rfl rfl ⟨(bC Bb.out 0).trans rfl,(bC Bb.out 1).trans rfl⟩ (fun hHeld=>?_);refine with_st spec_l97Clock.tab14 spec_l97Clock.bits14 (fun _ _ _ _ _ h=>h) (fun HT_=>?_)
     generalize w86.drew=w87 at Ba Bc Bb HI0 HK HB hHeld ⊢
     refine pS 0 60 z12q49 HT_ rfl rfl (by kernel_rfl) (by rfl) (by intro w';go_simp;with_reducible rfl) (by simp only [Act.put,lA,lZ,lS,iw,jw];rfl) ?_
     refine pS 4 64 z12q50 HT_ rfl rfl (by kernel_rfl) (by rfl) (by intro w';go_simp;with_reducible rfl) (by simp only [Act.put,lA,lZ,lS,iw,jw];rfl) ?_
     refine tS 1 61 z12q51 HT_ hHeld rfl rfl (by kernel_rfl) (by rfl) (by rintro w' ⟨s0,s1⟩;go_simp;with_reducible rfl) (by simp only [Act.put,lA,lZ,lS,iw,jw];rfl) ?_
     refine pS 2 62 z12q52 HT_ rfl rfl (by kernel_rfl) (by rfl) (by intro w';go_simp;with_reducible rfl) (by simp only [Act.put,lA,lZ,lS,iw,jw];rfl) ?_
     refine join_ (σ:=Value × Addr) 4 z12q53 (fun s_=>[(63,s_.1),(65,.int .i64 t216)]) (fun s_ w'=>(w'.cell? ⟨Bd,0,none⟩=some (.int .i64 ya)∧w'.cell? ⟨Bd,1,none⟩=some (u182001))∧(Kd.R (Kd.int .i64) 3 w' w.heap.size (fun _=>True) s_.1 y213)∧(Kd.R k35 35 w' w.heap.size (fun _=>True) u182001 yb)∧(∃ c_,(s_.1:Value)=.slice (some s_.2) y213.length c_)∧(w'.heap[Bg]?=some (.cells #[.int .i64 0,.slice none 0 0] 25 (0,0)))∧(w'.heap[Bd]?=some (.cells #[.int .i64 ya,u182001] 25 (0,0)))∧(IsS51 w0 w' g s0_0 t217)∧(KeepBut w w' g none)∧(Below w0.heap.size w0 w')) ?_ ?_
     rotate_left
     ·intro hCont
      refine two_ (i:=3) (j:=5) (Ni:=some 63) (Nj:=some 65) z12q54 z12q55 rfl rfl rfl rfl (two_of HT_.out (by kernel_rfl)) (by decide) (by decide) (fun K hK=>?_) (fun K hK=>?_)
      ·skip
       refine Kd.R_lit_step (Kd.int .i64) _ 3 ?hg (N:=63) ?hd (xs:=([(-1),4095,4096,wrap64 (ya+9)]:List Int)) (inner:=[.int .i64 (-1),.int .i64 4095,.int .i64 4096,.int .i64 (wrap64 (ya+9))]) (ok:=fun _=>True) (okp:=fun _=>True) ?hr ?hp (fun _ hk=>hk) trivial (bJ _ _) (nR _) (by simp) ?_;(case hd=>rfl);(case hg=>rfl);(case hr=>first|(go_simp;done)|(go_simp;rfl));(case hp=>exact (Reps.one (show Kd.M (Kd.int .i64) _ _ _ (-1) [.int .i64 (-1)] from rfl) (Reps.one (show Kd.M (Kd.int .i64) _ _ _ 4095 [.int .i64 4095] from rfl) (Reps.one (show Kd.M (Kd.int .i64) _ _ _ 4096 [.int .i64 4096] from rfl) (Reps.one (show Kd.M (Kd.int .i64) _ _ _ (wrap64 (ya+9)) [.int .i64 (wrap64 (ya+9))] from rfl) (Reps.none _ _))))))
       intro v214 w88 ho89 hb hg_ hnew_
       clear hg_ hnew_
       (first|rw [←Ny213.out] at ho89|(simp only [Int.reduceToNat] at ho89;rw [←Ny213.out] at ho89))
       have n0_:=Am (rB (rL Ba.out) hb)
       have n1_:=Am (rW ho89 (keep_size (w:=w) (g:=g) (row:=none) (by repeat (first|(with_reducible first|exact HK.out|apply qkS|apply qkN|apply qkD|apply qkA|refine qkF ?_ Bi.out _|refine qkF ?_ Bk.out _)|exact HK.out))))
       have n2_:=Am (bX Bc.out hb)
       have n3_:=Am (bX Bb.out hb)
       have n4_:=Am (IsS51.below (by repeat (first|(with_reducible first|exact HI0.out|apply qsA|apply qsN|apply qsD|apply qsS|refine qsF ?_ Be.out _|refine qsF ?_ Bf.out _)|exact HI0.out)) hb)
       have n5_:=Am (KeepBut.trans (by repeat (first|(with_reducible first|exact HK.out|apply qkS|apply qkN|apply qkD|apply qkA|refine qkF ?_ Bi.out _|refine qkF ?_ Bk.out _)|exact HK.out)) (KeepBut.of_below hb g none) (.inl rfl))
       have n6_:=Am (bP (by repeat (first|(with_reducible first|exact HB.out|apply oA|apply pN|apply o1|refine bS ?_ (qsG HI0.out)|refine bS ?_ Bo.out|refine bS ?_ Bp.out)|exact HB.out)) hb)
       clear Ba
       clear Bc
       clear Bb
       clear HI0
       clear HK
       clear HB
       have Ba:=n0_
       have BR:=n1_
       have Bc:=n2_
       have Bb:=n3_
       have HI0:=n4_
       have HK:=n5_
       have HB:=n6_
       clear n0_ n1_ n2_ n3_ n4_ n5_ n6_
       clear hb ho89
       obtain ⟨Ao90,co90,eo90⟩:=rC BR.out
       subst eo90
       obtain ⟨ado90,fo90,_⟩:=Kd.at_int (rR BR.out).2.2 0 (by decide) (by rw [Ny213.out];simp)
       cases fo90
       refine hK.out _ _ ⟨(bC Bb.out 0).trans rfl,(bC Bb.out 1).trans rfl⟩ (fun hHeld=>?_)
       clear hK K
       refine norm_ (by show Act.put _ (some 63) _=_;simp only [Act.put,lA,lZ,lS,iw,jw];rfl) ?_
       refine oS 5 65 z12q53 HT_ rfl rfl (by kernel_rfl) (by decide) (fun K hK=>?_)
       refine goes_ Try.func13 (by kernel_rfl) rfl #[.pointer (some ⟨g,0,none⟩),.int .i64 4] (by rfl) rfl rfl (by (try simp only [lM,lC,lN]);first|done|rfl|(simp only [lD,lT];rfl)) ?_
       with_reducible refine (spec_l6Rd_pick.calls k1 g s0_0 t212 4 t216 t217 w0 _ ?side1 ?side2 A83.out).mono ?_
       (case side1=>repeat (first|(with_reducible first|exact HI0.out|apply qsA|apply qsN|apply qsD|apply qsS|refine qsF ?_ Be.out _|refine qsF ?_ Bf.out _)|exact HI0.out))
       (case side2=>repeat (first|(with_reducible first|exact HB.out|apply oA|apply pN|apply o1|refine bS ?_ (qsG HI0.out)|refine bS ?_ Bo.out|refine bS ?_ Bp.out)|exact HB.out))
       rintro e w91 ⟨rfl,hi,hb,hk⟩
       refine ⟨_,rfl,?_⟩
       have n0_:=Am (rM (Kd.R_keep (IsS51.apart (show IsS51 w0 _ g s0_0 t212 from by repeat (first|(with_reducible first|exact HI0.out|apply qsA|apply qsN|apply qsD|apply qsS|refine qsF ?_ Be.out _|refine qsF ?_ Bf.out _)|exact HI0.out)) (rL Ba.out) (by decide)) hk (fun _ h=>h.2)) (fun _ h=>h.1))
       have n1_:=Am (qkB hk (g':=Bg) (o:=.cells #[.int .i64 0,.slice none 0 0] 25 (0,0)) (bL Bc.out) Bz.out (by simp))
       have n2_:=Am (qkB hk (g':=Bd) (o:=.cells #[.int .i64 ya,u182001] 25 (0,0)) (bL Bb.out) Bw.out (by simp))
       have n3_:=Am (rM (Kd.R_keep (IsS51.apart (show IsS51 w0 _ g s0_0 t212 from by repeat (first|(with_reducible first|exact HI0.out|apply qsA|apply qsN|apply qsD|apply qsS|refine qsF ?_ Be.out _|refine qsF ?_ Bf.out _)|exact HI0.out)) (rL BR.out) (by decide)) hk (fun _ h=>h.2)) (fun _ h=>h.1))
       have n4_:=Am (KeepBut.trans (by repeat (first|(with_reducible first|exact HK.out|apply qkS|apply qkN|apply qkD|apply qkA|refine qkF ?_ Bi.out _|refine qkF ?_ Bk.out _)|exact HK.out)) hk (.inl rfl))
       have n5_:=Am (hb)
       have n6_:=Am (hi)
       clear Ba
       clear Bc
       clear Bb
       clear BR
       clear HK
       clear HB
       clear HI0
       have Ba:=n0_
       have Bc:=n1_
       have Bb:=n2_
       have BR:=n3_
       have HK:=n4_
       have HB:=n5_
       have HI0:=n6_
       clear n0_ n1_ n2_ n3_ n4_ n5_ n6_
       (try clear hb)
       (try clear hb2)
       (try clear hk)
       (try clear hi)
       refine hK.out _ _ ⟨(bC Bb.out 0).trans rfl,(bC Bb.out 1).trans rfl⟩ (fun hHeld=>?_)
       clear hK K
       refine norm_ (by show Act.put _ (some 65) _=_;simp only [Act.put,lA,lZ,lS,iw,jw];rfl) ?_
       exact norm_ (by simp only [putAll,Act.put,lA,lZ,lS]) (hCont (.slice (some ado90) y213.length co90,ado90) _ ⟨hHeld,(rL BR.out),(rL Ba.out),⟨_,rfl⟩,(bL Bc.out),(bL Bb.out),(by repeat (first|(with_reducible first|exact HI0.out|apply qsA|apply qsN|apply qsD|apply qsS|refine qsF ?_ Be.out _|refine qsF ?_ Bf.out _)|exact HI0.out)),(by repeat (first|(with_reducible first|exact HK.out|apply qkS|apply qkN|apply qkD|apply qkA|refine qkF ?_ Bi.out _|refine qkF ?_ Bk.out _)|exact HK.out)),(by repeat (first|(with_reducible first|exact HB.out|apply oA|apply pN|apply o1|refine bS ?_ (qsG HI0.out)|refine bS ?_ Bo.out|refine bS ?_ Bp.out)|exact HB.out))⟩)
      ·skip
       refine goes_ Try.func13 (by kernel_rfl) rfl #[.pointer (some ⟨g,0,none⟩),.int .i64 4] (by rfl) rfl rfl (by (try simp only [lM,lC,lN]);first|done|rfl|(simp only [lD,lT];rfl)) ?_
       with_reducible refine (spec_l6Rd_pick.calls k1 g s0_0 t212 4 t216 t217 w0 _ ?side1 ?side2 A83.out).mono ?_
       (case side1=>repeat (first|(with_reducible first|exact HI0.out|apply qsA|apply qsN|apply qsD|apply qsS|refine qsF ?_ Be.out _|refine qsF ?_ Bf.out _)|exact HI0.out))
       (case side2=>repeat (first|(with_reducible first|exact HB.out|apply oA|apply pN|apply o1|refine bS ?_ (qsG HI0.out)|refine bS ?_ Bo.out|refine bS ?_ Bp.out)|exact HB.out))
       rintro e w88 ⟨rfl,hi,hb,hk⟩
       refine ⟨_,rfl,?_⟩
       have n0_:=Am (rM (Kd.R_keep (IsS51.apart (show IsS51 w0 _ g s0_0 t212 from by repeat (first|(with_reducible first|exact HI0.out|apply qsA|apply qsN|apply qsD|apply qsS|refine qsF ?_ Be.out _|refine qsF ?_ Bf.out _)|exact HI0.out)) (rL Ba.out) (by decide)) hk (fun _ h=>h.2)) (fun _ h=>h.1))
       have n1_:=Am (qkB hk (g':=Bg) (o:=.cells #[.int .i64 0,.slice none 0 0] 25 (0,0)) (bL Bc.out) Bz.out (by simp))
       have n2_:=Am (qkB hk (g':=Bd) (o:=.cells #[.int .i64 ya,u182001] 25 (0,0)) (bL Bb.out) Bw.out (by simp))
       have n3_:=Am (KeepBut.trans (by repeat (first|(with_reducible first|exact HK.out|apply qkS|apply qkN|apply qkD|apply qkA|refine qkF ?_ Bi.out _|refine qkF ?_ Bk.out _)|exact HK.out)) hk (.inl rfl))
       have n4_:=Am (hb)
       have n5_:=Am (hi)
       clear Ba
       clear Bc
       clear Bb
       clear HK
       clear HB
       clear HI0
       have Ba:=n0_
       have Bc:=n1_
       have Bb:=n2_
       have HK:=n3_
       have HB:=n4_
       have HI0:=n5_
       clear n0_ n1_ n2_ n3_ n4_ n5_
       (try clear hb)
       (try clear hb2)
       (try clear hk)
       (try clear hi)
       refine hK.out _ _ ⟨(bC Bb.out 0).trans rfl,(bC Bb.out 1).trans rfl⟩ (fun hHeld=>?_)
       clear hK K
       refine norm_ (by show Act.put _ (some 65) _=_;simp only [Act.put,lA,lZ,lS,iw,jw];rfl) ?_
       refine oS 3 63 z12q53 HT_ rfl rfl (by kernel_rfl) (by decide) (fun K hK=>?_)
       refine Kd.R_lit_step (Kd.int .i64) _ 3 ?hg (N:=63) ?hd (xs:=([(-1),4095,4096,wrap64 (ya+9)]:List Int)) (inner:=[.int .i64 (-1),.int .i64 4095,.int .i64 4096,.int .i64 (wrap64 (ya+9))]) (ok:=fun _=>True) (okp:=fun _=>True) ?hr ?hp (fun _ hk=>hk) trivial (bJ _ _) (nR _) (by simp) ?_;(case hd=>rfl);(case hg=>rfl);(case hr=>first|(go_simp;done)|(go_simp;rfl));(case hp=>exact (Reps.one (show Kd.M (Kd.int .i64) _ _ _ (-1) [.int .i64 (-1)] from rfl) (Reps.one (show Kd.M (Kd.int .i64) _ _ _ 4095 [.int .i64 4095] from rfl) (Reps.one (show Kd.M (Kd.int .i64) _ _ _ 4096 [.int .i64 4096] from rfl) (Reps.one (show Kd.M (Kd.int .i64) _ _ _ (wrap64 (ya+9)) [.int .i64 (wrap64 (ya+9))] from rfl) (Reps.none _ _))))))
       intro v214 w89 ho90 hb hg_ hnew_
       clear hg_ hnew_
       (first|rw [←Ny213.out] at ho90|(simp only [Int.reduceToNat] at ho90;rw [←Ny213.out] at ho90))
       have n0_:=Am (rB (rL Ba.out) hb)
       have n1_:=Am (rW ho90 (keep_size (w:=w) (g:=g) (row:=none) (by repeat (first|(with_reducible first|exact HK.out|apply qkS|apply qkN|apply qkD|apply qkA|refine qkF ?_ Bi.out _|refine qkF ?_ Bk.out _)|exact HK.out))))
       have n2_:=Am (bX Bc.out hb)
       have n3_:=Am (bX Bb.out hb)
       have n4_:=Am (IsS51.below (by repeat (first|(with_reducible first|exact HI0.out|apply qsA|apply qsN|apply qsD|apply qsS|refine qsF ?_ Be.out _|refine qsF ?_ Bf.out _)|exact HI0.out)) hb)
       have n5_:=Am (KeepBut.trans (by repeat (first|(with_reducible first|exact HK.out|apply qkS|apply qkN|apply qkD|apply qkA|refine qkF ?_ Bi.out _|refine qkF ?_ Bk.out _)|exact HK.out)) (KeepBut.of_below hb g none) (.inl rfl))
       have n6_:=Am (bP (by repeat (first|(with_reducible first|exact HB.out|apply oA|apply pN|apply o1|refine bS ?_ (qsG HI0.out)|refine bS ?_ Bo.out|refine bS ?_ Bp.out)|exact HB.out)) hb)
       clear Ba
       clear Bc
       clear Bb
       clear HI0
       clear HK
       clear HB
       have Ba:=n0_
       have BR:=n1_
       have Bc:=n2_
       have Bb:=n3_
       have HI0:=n4_
       have HK:=n5_
       have HB:=n6_
       clear n0_ n1_ n2_ n3_ n4_ n5_ n6_
       clear hb ho90
       obtain ⟨Ao91,co91,eo91⟩:=rC BR.out
       subst eo91
       obtain ⟨ado91,fo91,_⟩:=Kd.at_int (rR BR.out).2.2 0 (by decide) (by rw [Ny213.out];simp)
       cases fo91
       refine hK.out _ _ ⟨(bC Bb.out 0).trans rfl,(bC Bb.out 1).trans rfl⟩ (fun hHeld=>?_)
       clear hK K
       refine norm_ (by show Act.put _ (some 63) _=_;simp only [Act.put,lA,lZ,lS,iw,jw];rfl) ?_
       exact norm_ (by simp only [putAll,Act.put,lA,lZ,lS]) (hCont (.slice (some ado91) y213.length co91,ado91) _ ⟨hHeld,(rL BR.out),(rL Ba.out),⟨_,rfl⟩,(bL Bc.out),(bL Bb.out),(by repeat (first|(with_reducible first|exact HI0.out|apply qsA|apply qsN|apply qsD|apply qsS|refine qsF ?_ Be.out _|refine qsF ?_ Bf.out _)|exact HI0.out)),(by repeat (first|(with_reducible first|exact HK.out|apply qkS|apply qkN|apply qkD|apply qkA|refine qkF ?_ Bi.out _|refine qkF ?_ Bk.out _)|exact HK.out)),(by repeat (first|(with_reducible first|exact HB.out|apply oA|apply pN|apply o1|refine bS ?_ (qsG HI0.out)|refine bS ?_ Bo.out|refine bS ?_ Bp.out)|exact HB.out))⟩)
     rintro ⟨v214,adz_v214⟩ w92 ⟨hS_,h0_,h1_,h2_,h3_,h4_,h5_,h6_,h7_⟩
     have n0_:Aside0 (Kd.R (Kd.int .i64) 3 w92 w.heap.size (fun _=>True) v214 y213):=⟨h0_⟩
     have n1_:Aside0 (Kd.R k35 35 w92 w.heap.size (fun _=>True) u182001 yb):=⟨h1_⟩
     have n2_:Aside0 (∃ c_,(v214:Value)=.slice (some adz_v214) y213.length c_):=⟨h2_⟩
     have n3_:Aside0 (w92.heap[Bg]?=some (.cells #[.int .i64 0,.slice none 0 0] 25 (0,0))):=⟨h3_⟩
     have n4_:Aside0 (w92.heap[Bd]?=some (.cells #[.int .i64 ya,u182001] 25 (0,0))):=⟨h4_⟩
     have n5_:Aside0 (IsS51 w0 w92 g s0_0 t217):=⟨h5_⟩
     have n6_:Aside0 (KeepBut w w92 g none):=⟨h6_⟩
     have n7_:Aside0 (Below w0.heap.size w0 w92):=⟨h7_⟩
     clear Ba
     clear Bc
     clear Bb
     clear HI0
     clear HK
     clear HB
     clear h0_ h1_ h2_ h3_ h4_ h5_ h6_ h7_
     have BR:=n0_
     have Ba:=n1_
     have HA_HO215:=n2_
     have Bc:=n3_
     have Bb:=n4_
     have HI0:=n5_
     have HK:=n6_
     have HB:=n7_
     clear n0_ n1_ n2_ n3_ n4_ n5_ n6_ n7_
     have hHeld:w92.cell? ⟨Bd,0,none⟩=some (.int .i64 ya)∧w92.cell? ⟨Bd,1,none⟩=some (u182001):=hS_
     obtain ⟨co93,eo93⟩:=HA_HO215.out
     clear HA_HO215
     subst eo93
     refine norm_ (by simp only [putAll,Act.put,lA,lZ,lS];rfl) ?_
     refine pS 6 66 z12q56 HT_ rfl rfl (by kernel_rfl) (by rfl) (by intro w';go_simp;with_reducible rfl) (by simp only [Act.put,lA,lZ,lS,iw,jw];rfl) ?_
     refine oS 7 67 z12q57 HT_ rfl rfl (by kernel_rfl) (by decide) (fun K hK=>?_)
     (have p218:0≤(t216:Int):=oE (by first|(with_reducible assumption)|assumption);have q218:t216<(y213.length:Int):=oE (by first|(with_reducible assumption)|assumption);obtain ⟨ad218,e218,hx218_0⟩:=Kd.at_int (rR BR.out).2.2 t216 p218 q218;obtain rfl:adz_v214=ad218:=(by injection e218))
     refine value_ (w1:=?_) (v:=?_) (by rfl) rfl ?_ ?_
     rotate_left 2
     ·go_simp
      constructor
      ·rfl
      ·rfl
     clear hx218_0
     refine hK.out _ _ ⟨(bC Bb.out 0).trans rfl,(bC Bb.out 1).trans rfl⟩ (fun hHeld=>?_)
     clear hK K
     refine norm_ (by show Act.put _ (some 67) _=_;simp only [Act.put,lA,lZ,lS,iw,jw];rfl) ?_
     refine pS 8 68 z12q58 HT_ rfl rfl (by kernel_rfl) (by rfl) (by intro w';go_simp;with_reducible rfl) (by simp only [Act.put,lA,lZ,lS,iw,jw];rfl) ?_
     refine last_ (i:=9) (N:=none) z12q59 rfl rfl (one_of HT_.out (by kernel_rfl)) (by decide) (fun K hK=>?_)
     have hs94:=cz0 Bb.out
     have hfs94:=bF Bb.out 0
     have hns94_0:=BK.out
     have hms94_0:=BO.out
     refine skip_ (w1:=?_) (by rfl) rfl ?_ ?_
     rotate_left;(go_simp;rfl)
     refine hK.out _ _ ?_
     clear hK K
     refine done_ (done_of HT_.out (by kernel_rfl)) ?_
     have Fj:=BO.out
     have Fk:=BK.out
     have Fl:=Bw.out
     have Fm:=Bf.out
     have Dx:=cz0 Bb.out
     have Dy:=cz1 Bb.out
     have Dz:=bF Bb.out 0
     have DA:=bF Bb.out 1
     have Fn:=Bz.out
     have Fo:=Be.out
     have DB:=cz0 Bc.out
     have DC:=cz1 Bc.out
     have DD:=bF Bc.out 0
     have DE:=bF Bc.out 1
     obtain ⟨Ao100,co100,eo100⟩:=rC Ba.out
     subst eo100
     try go_wp2
     refine bodyPost_ret (results_cell_row rfl _ _ Bg 25 #[.int .i64 (rd y213 t216),.slice Ao100 yb.length co100] (0,0) _ rfl (by (with_reducible repeat (first|refine bN ?_ _|refine bD ?_|refine bA ?_ _));refine bT (cs:=#[.int .i64 (rd y213 t216),.slice none 0 0]) ?_ 1 _ rfl;(with_reducible repeat (first|refine bN ?_ _|refine bD ?_|refine bA ?_ _));refine bT (cs:=#[.int .i64 0,.slice none 0 0]) ?_ 0 _ rfl;(with_reducible repeat (first|refine bN ?_ _|refine bD ?_|refine bA ?_ _|refine bE ?_ BK.out _));exact Bc.out) Try.underlying25 rfl (by kernel_rfl)) rfl ?_
     exact ⟨_,by first|rfl|(simp [errW_none,errW_some] <;> rfl)|(simp [*,errW_none,errW_some] <;> rfl),by (with_reducible repeat (first|apply rA|apply rN|apply rD));exact rM (rF (p:=⟨Bg,1,none⟩) (rF (p:=⟨Bg,0,none⟩) (rF (p:=⟨Bd,0,none⟩) (rT (rT Ba.out Bb.out (by decide)) Bc.out (by decide)) (fun _ hk=>hk.1.2) (.int .i64 (rd y213 t216))) (fun _ hk=>hk.2) (.int .i64 (rd y213 t216))) (fun _ hk=>hk.2) (.slice Ao100 yb.length co100)) (fun _ hk=>trivial),by repeat (first|(with_reducible first|exact HI0.out|apply qsA|apply qsN|apply qsD|apply qsS|refine qsF ?_ Be.out _|refine qsF ?_ Bf.out _)|exact HI0.out),by repeat (first|(with_reducible first|exact HB.out|apply oA|apply pN|apply o1|refine bS ?_ (qsG HI0.out)|refine bS ?_ Bo.out|refine bS ?_ Bp.out)|exact HB.out),by repeat (first|(with_reducible first|exact HK.out|apply qkS|apply qkN|apply qkD|apply qkA|refine qkF ?_ Bi.out _|refine qkF ?_ Bk.out _)|exact HK.out)⟩
    rw [if_neg c82] at H
    have c82b0:(t211==0)=false:=beq_eq_false_iff_ne.mpr c82
    have c82b1:(t211 != 0)=true:=bne_iff_ne.mpr c82
    by_cases c101:t211=1
    rotate_left
    ·rw [if_neg c101] at H
     have c101b0:(t211==1)=false:=beq_eq_false_iff_ne.mpr c101
     have c101b1:(t211 != 1)=true:=bne_iff_ne.mpr c101
     simp only [Option.some.injEq,Prod.mk.injEq] at H
     obtain ⟨rfl,rfl,rfl⟩:=H
     go_wp2_with (first|((with_reducible refine gC (f:=13) rfl ?_);refine goesL_ (some 57) rfl rfl Try.func13 (by kernel_rfl) rfl #[.pointer (some ⟨g,0,none⟩),.int .i64 24] rfl (by (try simp only [lM,lC,lN]);first|done|rfl|(simp only [lD,lT];rfl)) ?_;(with_reducible refine (spec_l6Rd_pick.calls k1 g s0_0 yp 24 t211 t212 w0 _ ?side1 ?side2 A81.out).mono ?_);(case side1=>repeat (first|(with_reducible first|exact HI0.out|apply qsA|apply qsN|apply qsD|apply qsS|refine qsF ?_ Be.out _|refine qsF ?_ Bf.out _)|exact HI0.out));(case side2=>repeat (first|(with_reducible first|exact HB.out|apply oA|apply pN|apply o1|refine bS ?_ (qsG HI0.out)|refine bS ?_ Bo.out|refine bS ?_ Bp.out)|exact HB.out));rintro e w127 ⟨rfl,hi,hb,hk⟩;refine ⟨_,rfl,?_⟩;have n0_:=Am (rM (Kd.R_keep (IsS51.apart (show IsS51 w0 _ g s0_0 yp from by repeat (first|(with_reducible first|exact HI0.out|apply qsA|apply qsN|apply qsD|apply qsS|refine qsF ?_ Be.out _|refine qsF ?_ Bf.out _)|exact HI0.out)) (rL Ba.out) (by decide)) hk (fun _ h=>h.2)) (fun _ h=>h.1));have n1_:=Am (qkB hk (g':=Bg) (o:=.cells #[.int .i64 0,.slice none 0 0] 25 (0,0)) (bL Bc.out) Bz.out (by simp));have n2_:=Am (qkB hk (g':=Bd) (o:=.cells #[.int .i64 ya,u182001] 25 (0,0)) (bL Bb.out) Bw.out (by simp));have n3_:=Am (KeepBut.trans (by repeat (first|(with_reducible first|exact HK.out|apply qkS|apply qkN|apply qkD|apply qkA|refine qkF ?_ Bi.out _|refine qkF ?_ Bk.out _)|exact HK.out)) hk (.inl rfl));have n4_:=Am (hb);have n5_:=Am (hi);clear Ba Bc Bb HK HB HI0;revert n0_ n1_ n2_ n3_ n4_ n5_;intro Ba Bc Bb HK HB HI0;(try clear hb);(try clear hb2);(try clear hk);(try clear hi);have DL:=BO.out;have DM:=BK.out;have DN:=Bw.out;have DO:=Bf.out;have Dh:=cz0 Bb.out;have Di:=cz1 Bb.out;have Dj:=bF Bb.out 0;have Dk:=bF Bb.out 1;have DP:=Bz.out;have DQ:=Be.out;have Dl:=cz0 Bc.out;have Dm:=cz1 Bc.out;have Dn:=bF Bc.out 0;have Do:=bF Bc.out 1;obtain ⟨Ao133,co133,eo133⟩:=rC Ba.out;subst eo133))
     refine bodyPost_ret (results_cell_row rfl _ _ Bg 25 #[.int .i64 ya,.slice Ao133 yb.length co133] (0,0) _ rfl (by (with_reducible repeat (first|refine bN ?_ _|refine bD ?_|refine bA ?_ _));refine bT (cs:=#[.int .i64 ya,.slice none 0 0]) ?_ 1 _ rfl;(with_reducible repeat (first|refine bN ?_ _|refine bD ?_|refine bA ?_ _));refine bT (cs:=#[.int .i64 0,.slice none 0 0]) ?_ 0 _ rfl;(with_reducible repeat (first|refine bN ?_ _|refine bD ?_|refine bA ?_ _));exact Bc.out) Try.underlying25 rfl (by kernel_rfl)) rfl ?_
     exact ⟨_,by first|rfl|(simp [errW_none,errW_some] <;> rfl)|(simp [*,errW_none,errW_some] <;> rfl),by (with_reducible repeat (first|apply rA|apply rN|apply rD));exact rM (rF (p:=⟨Bg,1,none⟩) (rF (p:=⟨Bg,0,none⟩) (rT Ba.out Bc.out (by decide)) (fun _ hk=>hk.2) (.int .i64 ya)) (fun _ hk=>hk.2) (.slice Ao133 yb.length co133)) (fun _ hk=>trivial),by repeat (first|(with_reducible first|exact HI0.out|apply qsA|apply qsN|apply qsD|apply qsS|refine qsF ?_ Be.out _|refine qsF ?_ Bf.out _)|exact HI0.out),by repeat (first|(with_reducible first|exact HB.out|apply oA|apply pN|apply o1|refine bS ?_ (qsG HI0.out)|refine bS ?_ Bo.out|refine bS ?_ Bp.out)|exact HB.out),by repeat (first|(with_reducible first|exact HK.out|apply qkS|apply qkN|apply qkD|apply qkA|refine qkF ?_ Bi.out _|refine qkF ?_ Bk.out _)|exact HK.out)⟩
    rw [if_pos c101] at H
    have c101b0:(t211==1)=true:=beq_iff_eq.mpr c101
    have c101b1:(t211 != 1)=false:=bne_eq_false_iff_eq.mpr c101
    clear c101
    replace H:=oC H
    obtain ⟨⟨t219,t220⟩,A1020,H⟩:=H
    replace H:((some (([0,4095,4096]:List Int):List Int)).bind fun y221=>((spec_l6Rd_pick.f k1 s0_0 t220 3).bind fun bt224=>(if 0≤bt224.1 then (if bt224.1<(y221.length:Int) then ((spec_l6Rd_pick.f k1 s0_0 bt224.2 101).bind fun bt227=>(if yb.length<5864062014805 then (some (ya,(yb++[(⟨t219,rd y221 bt224.1,bt227.1⟩:S35)]),bt227.2)) else (none))) else (none)) else (none))))=some (r1,r2,r3):=H
    have A102:=Am A1020
    clear A1020
    obtain ⟨y221,hy221⟩:∃ y_:List Int,y_=(([0,4095,4096]:List Int)):=⟨_,rfl⟩
    replace H:((spec_l6Rd_pick.f k1 s0_0 t220 3).bind fun bt224=>(if 0≤bt224.1 then (if bt224.1<(y221.length:Int) then ((spec_l6Rd_pick.f k1 s0_0 bt224.2 101).bind fun bt227=>(if yb.length<5864062014805 then (some (ya,(yb++[(⟨t219,rd y221 bt224.1,bt227.1⟩:S35)]),bt227.2)) else (none))) else (none)) else (none)))=some (r1,r2,r3):=by first|(rw [hy221];with_reducible exact H)|(have H2_:=(Option.bind_some _ _).symm.trans H;rw [hy221];with_reducible exact H2_)|(have H2_:=(Option.bind_some _ _).symm.trans H;with_reducible exact H2_)|with_reducible exact H|(rw [hy221];exact H)|exact H
    have Ny221:=Am hy221
    clear hy221
    replace H:=oC H
    obtain ⟨⟨t224,t225⟩,A1030,H⟩:=H
    replace H:(if 0≤t224 then (if t224<(y221.length:Int) then ((spec_l6Rd_pick.f k1 s0_0 t225 101).bind fun bt227=>(if yb.length<5864062014805 then (some (ya,(yb++[(⟨t219,rd y221 t224,bt227.1⟩:S35)]),bt227.2)) else (none))) else (none)) else (none))=some (r1,r2,r3):=H
    have A103:=Am A1030
    clear A1030
    by_cases c104:0≤t224
    rotate_left
    ·rw [if_neg c104] at H
     exact absurd H (by simp)
    rw [if_pos c104] at H
    have c104b0:decide (0≤t224)=true:=dT c104
    clear c104
    by_cases c105:t224<(y221.length:Int)
    rotate_left
    ·rw [if_neg c105] at H
     exact absurd H (by simp)
    rw [if_pos c105] at H
    have c105b0:decide (t224<(y221.length:Int))=true:=dT c105
    clear c105
    replace H:=oC H
    obtain ⟨⟨t227,t228⟩,A1060,H⟩:=H
    replace H:(if yb.length<5864062014805 then (some (ya,(yb++[(⟨t219,rd y221 t224,t227⟩:S35)]),t228)) else (none))=some (r1,r2,r3):=H
    have A106:=Am A1060
    clear A1060
    by_cases c107:yb.length<5864062014805
    rotate_left
    ·rw [if_neg c107] at H
     exact absurd H (by simp)
    rw [if_pos c107] at H
    have LMc107:=Am c107
    clear c107
    obtain ⟨y229,hy229⟩:∃ y_:List (S35),y_=(yb++[(⟨t219,rd y221 t224,t227⟩:S35)]):=⟨_,rfl⟩
    replace H:(some (ya,y229,t228))=some (r1,r2,r3):=by first|(rw [hy229];with_reducible exact H)|(have H2_:=(Option.bind_some _ _).symm.trans H;rw [hy229];with_reducible exact H2_)|(have H2_:=(Option.bind_some _ _).symm.trans H;with_reducible exact H2_)|with_reducible exact H|(rw [hy229];exact H)|exact H
    have Ny229:=Am hy229
    clear hy229
    simp only [Option.some.injEq,Prod.mk.injEq] at H
    obtain ⟨rfl,rfl,rfl⟩:=H
    try go_wp2_with (first|((with_reducible refine gC (f:=13) rfl ?_);refine goesL_ (some 57) rfl rfl Try.func13 (by kernel_rfl) rfl #[.pointer (some ⟨g,0,none⟩),.int .i64 24] rfl (by (try simp only [lM,lC,lN]);first|done|rfl|(simp only [lD,lT];rfl)) ?_;(with_reducible refine (spec_l6Rd_pick.calls k1 g s0_0 yp 24 t211 t212 w0 _ ?side1 ?side2 A81.out).mono ?_);(case side1=>repeat (first|(with_reducible first|exact HI0.out|apply qsA|apply qsN|apply qsD|apply qsS|refine qsF ?_ Be.out _|refine qsF ?_ Bf.out _)|exact HI0.out));(case side2=>repeat (first|(with_reducible first|exact HB.out|apply oA|apply pN|apply o1|refine bS ?_ (qsG HI0.out)|refine bS ?_ Bo.out|refine bS ?_ Bp.out)|exact HB.out));rintro e w108 ⟨rfl,hi,hb,hk⟩;refine ⟨_,rfl,?_⟩;have n0_:=Am (rM (Kd.R_keep (IsS51.apart (show IsS51 w0 _ g s0_0 yp from by repeat (first|(with_reducible first|exact HI0.out|apply qsA|apply qsN|apply qsD|apply qsS|refine qsF ?_ Be.out _|refine qsF ?_ Bf.out _)|exact HI0.out)) (rL Ba.out) (by decide)) hk (fun _ h=>h.2)) (fun _ h=>h.1));have n1_:=Am (qkB hk (g':=Bg) (o:=.cells #[.int .i64 0,.slice none 0 0] 25 (0,0)) (bL Bc.out) Bz.out (by simp));have n2_:=Am (qkB hk (g':=Bd) (o:=.cells #[.int .i64 ya,u182001] 25 (0,0)) (bL Bb.out) Bw.out (by simp));have n3_:=Am (KeepBut.trans (by repeat (first|(with_reducible first|exact HK.out|apply qkS|apply qkN|apply qkD|apply qkA|refine qkF ?_ Bi.out _|refine qkF ?_ Bk.out _)|exact HK.out)) hk (.inl rfl));have n4_:=Am (hb);have n5_:=Am (hi);clear Ba Bc Bb HK HB HI0;revert n0_ n1_ n2_ n3_ n4_ n5_;intro Ba Bc Bb HK HB HI0;(try clear hb);(try clear hb2);(try clear hk);(try clear hi);obtain ⟨Ao109,co109,eo109⟩:=rC Ba.out;subst eo109))
    have pi226:(0≤(t224:Int))=True:=eq_true (oE (by first|(with_reducible assumption)|assumption))
    have qi226:(t224<(y221.length:Int))=True:=eq_true (oE (by first|(with_reducible assumption)|assumption))
    have n0_:=Am (rD Ba.out)
    have n1_:=Am (bD Bc.out)
    have n2_:=Am (bD Bb.out)
    have n3_:=Am (qsD HI0.out)
    have n4_:=Am (qkD HK.out)
    have n5_:=Am (o1 HB.out)
    clear Ba
    clear Bc
    clear Bb
    clear HI0
    clear HK
    clear HB
    have Ba:=n0_
    have Bc:=n1_
    have Bb:=n2_
    have HI0:=n3_
    have HK:=n4_
    have HB:=n5_
    clear n0_ n1_ n2_ n3_ n4_ n5_
    refine start_ (n:=16) (S:=fun w'=>w'.cell? ⟨Bd,0,none⟩=some (.int .i64 ya)∧w'.cell? ⟨Bd,1,none⟩=some (.slice Ao109 yb.length co109)) (ds:=[15]) z12q60 (by kernel_rfl) rfl rfl ⟨(bC Bb.out 0).trans rfl,(bC Bb.out 1).trans rfl⟩ (fun hHeld=>?_);refine with_st spec_l97Clock.tab16 spec_l97Clock.bits16 (fun _ _ _ _ _ h=>h) (fun HT_=>?_)
    generalize w108.drew=w110 at Ba Bc Bb HI0 HK HB hHeld ⊢
    refine pS 0 71 z12q61 HT_ rfl rfl (by kernel_rfl) (by rfl) (by intro w';go_simp;with_reducible rfl) (by simp only [Act.put,lA,lZ,lS,iw,jw];rfl) ?_
    refine pS 2 73 z12q62 HT_ rfl rfl (by kernel_rfl) (by rfl) (by intro w';go_simp;with_reducible rfl) (by simp only [Act.put,lA,lZ,lS,iw,jw];rfl) ?_
    refine pS 5 76 z12q63 HT_ rfl rfl (by kernel_rfl) (by rfl) (by intro w';go_simp;with_reducible rfl) (by simp only [Act.put,lA,lZ,lS,iw,jw];rfl) ?_
    refine pS 9 80 z12q64 HT_ rfl rfl (by kernel_rfl) (by rfl) (by intro w';go_simp;with_reducible rfl) (by simp only [Act.put,lA,lZ,lS,iw,jw];rfl) ?_
    refine tS 1 72 z12q65 HT_ hHeld rfl rfl (by kernel_rfl) (by rfl) (by rintro w' ⟨s0,s1⟩;go_simp;with_reducible rfl) (by simp only [Act.put,lA,lZ,lS,iw,jw];rfl) ?_
    refine join_ (σ:=Value × Addr) 5 z12q66 (fun s_=>[(74,.int .i64 t219),(75,s_.1),(77,.int .i64 t224),(79,.int .i64 (rd y221 t224)),(81,.int .i64 t227),(78,.pointer (some (s_.2.add (t224).toNat)))]) (fun s_ w'=>(w'.cell? ⟨Bd,0,none⟩=some (.int .i64 ya)∧w'.cell? ⟨Bd,1,none⟩=some (.slice Ao109 yb.length co109))∧(Kd.R (Kd.int .i64) 3 w' w.heap.size (fun _=>True) s_.1 y221)∧(Kd.R k35 35 w' w.heap.size (fun _=>True) (.slice Ao109 yb.length co109) yb)∧(∃ c_,(s_.1:Value)=.slice (some s_.2) y221.length c_)∧(w'.heap[Bg]?=some (.cells #[.int .i64 0,.slice none 0 0] 25 (0,0)))∧(w'.heap[Bd]?=some (.cells #[.int .i64 ya,.slice Ao109 yb.length co109] 25 (0,0)))∧(IsS51 w0 w' g s0_0 t228)∧(KeepBut w w' g none)∧(Below w0.heap.size w0 w')) ?_ ?_
    rotate_left
    ·intro hJ3_4_6_8_10
     refine join_ (σ:=Value × Addr) 6 z12q67 (fun s_=>[(74,.int .i64 t219),(75,s_.1),(77,.int .i64 t224),(79,.int .i64 (rd y221 t224)),(78,.pointer (some (s_.2.add (t224).toNat)))]) (fun s_ w'=>(w'.cell? ⟨Bd,0,none⟩=some (.int .i64 ya)∧w'.cell? ⟨Bd,1,none⟩=some (.slice Ao109 yb.length co109))∧(Kd.R (Kd.int .i64) 3 w' w.heap.size (fun _=>True) s_.1 y221)∧(Kd.R k35 35 w' w.heap.size (fun _=>True) (.slice Ao109 yb.length co109) yb)∧(∃ c_,(s_.1:Value)=.slice (some s_.2) y221.length c_)∧(w'.heap[Bg]?=some (.cells #[.int .i64 0,.slice none 0 0] 25 (0,0)))∧(w'.heap[Bd]?=some (.cells #[.int .i64 ya,.slice Ao109 yb.length co109] 25 (0,0)))∧(IsS51 w0 w' g s0_0 t225)∧(KeepBut w w' g none)∧(Below w0.heap.size w0 w')) ?_ ?_
     rotate_left
     ·intro hJ3_4_6_8
      refine join_ (σ:=Value × Addr) 6 z12q68 (fun s_=>[(74,.int .i64 t219),(75,s_.1),(77,.int .i64 t224),(81,.int .i64 t227),(78,.pointer (some (s_.2.add (t224).toNat)))]) (fun s_ w'=>(w'.cell? ⟨Bd,0,none⟩=some (.int .i64 ya)∧w'.cell? ⟨Bd,1,none⟩=some (.slice Ao109 yb.length co109))∧(Kd.R (Kd.int .i64) 3 w' w.heap.size (fun _=>True) s_.1 y221)∧(Kd.R k35 35 w' w.heap.size (fun _=>True) (.slice Ao109 yb.length co109) yb)∧(∃ c_,(s_.1:Value)=.slice (some s_.2) y221.length c_)∧(w'.heap[Bg]?=some (.cells #[.int .i64 0,.slice none 0 0] 25 (0,0)))∧(w'.heap[Bd]?=some (.cells #[.int .i64 ya,.slice Ao109 yb.length co109] 25 (0,0)))∧(IsS51 w0 w' g s0_0 t228)∧(KeepBut w w' g none)∧(Below w0.heap.size w0 w')) ?_ ?_
      rotate_left
      ·intro hJ3_4_6_10
       refine join_ (σ:=Value × Addr) 7 z12q69 (fun s_=>[(74,.int .i64 t219),(75,s_.1),(77,.int .i64 t224),(78,.pointer (some (s_.2.add (t224).toNat)))]) (fun s_ w'=>(w'.cell? ⟨Bd,0,none⟩=some (.int .i64 ya)∧w'.cell? ⟨Bd,1,none⟩=some (.slice Ao109 yb.length co109))∧(Kd.R (Kd.int .i64) 3 w' w.heap.size (fun _=>True) s_.1 y221)∧(Kd.R k35 35 w' w.heap.size (fun _=>True) (.slice Ao109 yb.length co109) yb)∧(∃ c_,(s_.1:Value)=.slice (some s_.2) y221.length c_)∧(w'.heap[Bg]?=some (.cells #[.int .i64 0,.slice none 0 0] 25 (0,0)))∧(w'.heap[Bd]?=some (.cells #[.int .i64 ya,.slice Ao109 yb.length co109] 25 (0,0)))∧(IsS51 w0 w' g s0_0 t225)∧(KeepBut w w' g none)∧(Below w0.heap.size w0 w')) ?_ ?_
       rotate_left
       ·intro hJ3_4_6
        refine join_ (σ:=Unit) 8 z12q70 (fun s_=>[(74,.int .i64 t219),(77,.int .i64 t224),(81,.int .i64 t227)]) (fun s_ w'=>(w'.cell? ⟨Bd,0,none⟩=some (.int .i64 ya)∧w'.cell? ⟨Bd,1,none⟩=some (.slice Ao109 yb.length co109))∧(Kd.R k35 35 w' w.heap.size (fun _=>True) (.slice Ao109 yb.length co109) yb)∧(w'.heap[Bg]?=some (.cells #[.int .i64 0,.slice none 0 0] 25 (0,0)))∧(w'.heap[Bd]?=some (.cells #[.int .i64 ya,.slice Ao109 yb.length co109] 25 (0,0)))∧(IsS51 w0 w' g s0_0 t228)∧(KeepBut w w' g none)∧(Below w0.heap.size w0 w')) ?_ ?_
        rotate_left
        ·intro hJ3_6_10
         refine join_ (σ:=Value × Addr) 9 z12q71 (fun s_=>[(74,.int .i64 t219),(75,s_.1)]) (fun s_ w'=>(w'.cell? ⟨Bd,0,none⟩=some (.int .i64 ya)∧w'.cell? ⟨Bd,1,none⟩=some (.slice Ao109 yb.length co109))∧(Kd.R (Kd.int .i64) 3 w' w.heap.size (fun _=>True) s_.1 y221)∧(Kd.R k35 35 w' w.heap.size (fun _=>True) (.slice Ao109 yb.length co109) yb)∧(∃ c_,(s_.1:Value)=.slice (some s_.2) y221.length c_)∧(w'.heap[Bg]?=some (.cells #[.int .i64 0,.slice none 0 0] 25 (0,0)))∧(w'.heap[Bd]?=some (.cells #[.int .i64 ya,.slice Ao109 yb.length co109] 25 (0,0)))∧(IsS51 w0 w' g s0_0 t220)∧(KeepBut w w' g none)∧(Below w0.heap.size w0 w')) ?_ ?_
         rotate_left
         ·intro hJ3_4
          refine join_ (σ:=Unit) 9 z12q72 (fun s_=>[(74,.int .i64 t219),(77,.int .i64 t224)]) (fun s_ w'=>(w'.cell? ⟨Bd,0,none⟩=some (.int .i64 ya)∧w'.cell? ⟨Bd,1,none⟩=some (.slice Ao109 yb.length co109))∧(Kd.R k35 35 w' w.heap.size (fun _=>True) (.slice Ao109 yb.length co109) yb)∧(w'.heap[Bg]?=some (.cells #[.int .i64 0,.slice none 0 0] 25 (0,0)))∧(w'.heap[Bd]?=some (.cells #[.int .i64 ya,.slice Ao109 yb.length co109] 25 (0,0)))∧(IsS51 w0 w' g s0_0 t225)∧(KeepBut w w' g none)∧(Below w0.heap.size w0 w')) ?_ ?_
          rotate_left
          ·intro hJ3_6
           refine join_ (σ:=Unit) 10 z12q73 (fun s_=>[(74,.int .i64 t219)]) (fun s_ w'=>(w'.cell? ⟨Bd,0,none⟩=some (.int .i64 ya)∧w'.cell? ⟨Bd,1,none⟩=some (.slice Ao109 yb.length co109))∧(Kd.R k35 35 w' w.heap.size (fun _=>True) (.slice Ao109 yb.length co109) yb)∧(w'.heap[Bg]?=some (.cells #[.int .i64 0,.slice none 0 0] 25 (0,0)))∧(w'.heap[Bd]?=some (.cells #[.int .i64 ya,.slice Ao109 yb.length co109] 25 (0,0)))∧(IsS51 w0 w' g s0_0 t220)∧(KeepBut w w' g none)∧(Below w0.heap.size w0 w')) ?_ ?_
           rotate_left
           ·intro hJ3
            refine join_ (σ:=Value × Addr) 10 z12q74 (fun s_=>[(75,s_.1)]) (fun s_ w'=>(w'.cell? ⟨Bd,0,none⟩=some (.int .i64 ya)∧w'.cell? ⟨Bd,1,none⟩=some (.slice Ao109 yb.length co109))∧(Kd.R (Kd.int .i64) 3 w' w.heap.size (fun _=>True) s_.1 y221)∧(Kd.R k35 35 w' w.heap.size (fun _=>True) (.slice Ao109 yb.length co109) yb)∧(∃ c_,(s_.1:Value)=.slice (some s_.2) y221.length c_)∧(w'.heap[Bg]?=some (.cells #[.int .i64 0,.slice none 0 0] 25 (0,0)))∧(w'.heap[Bd]?=some (.cells #[.int .i64 ya,.slice Ao109 yb.length co109] 25 (0,0)))∧(IsS51 w0 w' g s0_0 t212)∧(KeepBut w w' g none)∧(Below w0.heap.size w0 w')) ?_ ?_
            rotate_left
            ·intro hJ4
             refine two_ (i:=3) (j:=4) (Ni:=some 74) (Nj:=some 75) z12q73 z12q74 rfl rfl rfl rfl (two_of HT_.out (by kernel_rfl)) (by decide) (by decide) (fun K hK=>?_) (fun K hK=>?_)
             ·skip
              refine goes_ Try.func13 (by kernel_rfl) rfl #[.pointer (some ⟨g,0,none⟩),.int .i64 101] (by rfl) rfl rfl (by (try simp only [lM,lC,lN]);first|done|rfl|(simp only [lD,lT];rfl)) ?_
              with_reducible refine (spec_l6Rd_pick.calls k1 g s0_0 t212 101 t219 t220 w0 _ ?side1 ?side2 A102.out).mono ?_
              (case side1=>repeat (first|(with_reducible first|exact HI0.out|apply qsA|apply qsN|apply qsD|apply qsS|refine qsF ?_ Be.out _|refine qsF ?_ Bf.out _)|exact HI0.out))
              (case side2=>repeat (first|(with_reducible first|exact HB.out|apply oA|apply pN|apply o1|refine bS ?_ (qsG HI0.out)|refine bS ?_ Bo.out|refine bS ?_ Bp.out)|exact HB.out))
              rintro e w111 ⟨rfl,hi,hb,hk⟩
              refine ⟨_,rfl,?_⟩
              have n0_:=Am (rM (Kd.R_keep (IsS51.apart (show IsS51 w0 _ g s0_0 t212 from by repeat (first|(with_reducible first|exact HI0.out|apply qsA|apply qsN|apply qsD|apply qsS|refine qsF ?_ Be.out _|refine qsF ?_ Bf.out _)|exact HI0.out)) (rL Ba.out) (by decide)) hk (fun _ h=>h.2)) (fun _ h=>h.1))
              have n1_:=Am (qkB hk (g':=Bg) (o:=.cells #[.int .i64 0,.slice none 0 0] 25 (0,0)) (bL Bc.out) Bz.out (by simp))
              have n2_:=Am (qkB hk (g':=Bd) (o:=.cells #[.int .i64 ya,.slice Ao109 yb.length co109] 25 (0,0)) (bL Bb.out) Bw.out (by simp))
              have n3_:=Am (KeepBut.trans (by repeat (first|(with_reducible first|exact HK.out|apply qkS|apply qkN|apply qkD|apply qkA|refine qkF ?_ Bi.out _|refine qkF ?_ Bk.out _)|exact HK.out)) hk (.inl rfl))
              have n4_:=Am (hb)
              have n5_:=Am (hi)
              clear Ba
              clear Bc
              clear Bb
              clear HK
              clear HB
              clear HI0
              have Ba:=n0_
              have Bc:=n1_
              have Bb:=n2_
              have HK:=n3_
              have HB:=n4_
              have HI0:=n5_
              clear n0_ n1_ n2_ n3_ n4_ n5_
              (try clear hb)
              (try clear hb2)
              (try clear hk)
              (try clear hi)
              refine hK.out _ _ ⟨(bC Bb.out 0).trans rfl,(bC Bb.out 1).trans rfl⟩ (fun hHeld=>?_)
              clear hK K
              refine norm_ (by show Act.put _ (some 74) _=_;simp only [Act.put,lA,lZ,lS,iw,jw];rfl) ?_
              exact norm_ (by first|(simp only [putAll,Act.put,lA,lZ,lS];done)|(simp only [putAll,Act.put,lA,lZ,lS];rfl)) (hJ3 () _ ⟨hHeld,(rL Ba.out),(bL Bc.out),(bL Bb.out),(by repeat (first|(with_reducible first|exact HI0.out|apply qsA|apply qsN|apply qsD|apply qsS|refine qsF ?_ Be.out _|refine qsF ?_ Bf.out _)|exact HI0.out)),(by repeat (first|(with_reducible first|exact HK.out|apply qkS|apply qkN|apply qkD|apply qkA|refine qkF ?_ Bi.out _|refine qkF ?_ Bk.out _)|exact HK.out)),(by repeat (first|(with_reducible first|exact HB.out|apply oA|apply pN|apply o1|refine bS ?_ (qsG HI0.out)|refine bS ?_ Bo.out|refine bS ?_ Bp.out)|exact HB.out))⟩)
             ·skip
              refine Kd.R_lit_step (Kd.int .i64) _ 3 ?hg (N:=75) ?hd (xs:=([0,4095,4096]:List Int)) (inner:=[.int .i64 0,.int .i64 4095,.int .i64 4096]) (ok:=fun _=>True) (okp:=fun _=>True) ?hr ?hp (fun _ hk=>hk) trivial (bJ _ _) (nR _) (by simp) ?_;(case hd=>rfl);(case hg=>rfl);(case hr=>first|(go_simp;done)|(go_simp;rfl));(case hp=>exact (Reps.one (show Kd.M (Kd.int .i64) _ _ _ 0 [.int .i64 0] from rfl) (Reps.one (show Kd.M (Kd.int .i64) _ _ _ 4095 [.int .i64 4095] from rfl) (Reps.one (show Kd.M (Kd.int .i64) _ _ _ 4096 [.int .i64 4096] from rfl) (Reps.none _ _)))))
              intro v222 w111 ho112 hb hg_ hnew_
              clear hg_ hnew_
              (first|rw [←Ny221.out] at ho112|(simp only [Int.reduceToNat] at ho112;rw [←Ny221.out] at ho112))
              have n0_:=Am (rB (rL Ba.out) hb)
              have n1_:=Am (rW ho112 (keep_size (w:=w) (g:=g) (row:=none) (by repeat (first|(with_reducible first|exact HK.out|apply qkS|apply qkN|apply qkD|apply qkA|refine qkF ?_ Bi.out _|refine qkF ?_ Bk.out _)|exact HK.out))))
              have n2_:=Am (bX Bc.out hb)
              have n3_:=Am (bX Bb.out hb)
              have n4_:=Am (IsS51.below (by repeat (first|(with_reducible first|exact HI0.out|apply qsA|apply qsN|apply qsD|apply qsS|refine qsF ?_ Be.out _|refine qsF ?_ Bf.out _)|exact HI0.out)) hb)
              have n5_:=Am (KeepBut.trans (by repeat (first|(with_reducible first|exact HK.out|apply qkS|apply qkN|apply qkD|apply qkA|refine qkF ?_ Bi.out _|refine qkF ?_ Bk.out _)|exact HK.out)) (KeepBut.of_below hb g none) (.inl rfl))
              have n6_:=Am (bP (by repeat (first|(with_reducible first|exact HB.out|apply oA|apply pN|apply o1|refine bS ?_ (qsG HI0.out)|refine bS ?_ Bo.out|refine bS ?_ Bp.out)|exact HB.out)) hb)
              clear Ba
              clear Bc
              clear Bb
              clear HI0
              clear HK
              clear HB
              have Ba:=n0_
              have BC:=n1_
              have Bc:=n2_
              have Bb:=n3_
              have HI0:=n4_
              have HK:=n5_
              have HB:=n6_
              clear n0_ n1_ n2_ n3_ n4_ n5_ n6_
              clear hb ho112
              obtain ⟨Ao113,co113,eo113⟩:=rC BC.out
              subst eo113
              obtain ⟨ado113,fo113,_⟩:=Kd.at_int (rR BC.out).2.2 0 (by decide) (by rw [Ny221.out];simp)
              cases fo113
              refine hK.out _ _ ⟨(bC Bb.out 0).trans rfl,(bC Bb.out 1).trans rfl⟩ (fun hHeld=>?_)
              clear hK K
              refine norm_ (by show Act.put _ (some 75) _=_;simp only [Act.put,lA,lZ,lS,iw,jw];rfl) ?_
              exact norm_ (by first|(simp only [putAll,Act.put,lA,lZ,lS];done)|(simp only [putAll,Act.put,lA,lZ,lS];rfl)) (hJ4 (.slice (some ado113) y221.length co113,ado113) _ ⟨hHeld,(rL BC.out),(rL Ba.out),⟨_,rfl⟩,(bL Bc.out),(bL Bb.out),(by repeat (first|(with_reducible first|exact HI0.out|apply qsA|apply qsN|apply qsD|apply qsS|refine qsF ?_ Be.out _|refine qsF ?_ Bf.out _)|exact HI0.out)),(by repeat (first|(with_reducible first|exact HK.out|apply qkS|apply qkN|apply qkD|apply qkA|refine qkF ?_ Bi.out _|refine qkF ?_ Bk.out _)|exact HK.out)),(by repeat (first|(with_reducible first|exact HB.out|apply oA|apply pN|apply o1|refine bS ?_ (qsG HI0.out)|refine bS ?_ Bo.out|refine bS ?_ Bp.out)|exact HB.out))⟩)
            ·skip
             rintro ⟨v222,adz_v222⟩ w114 ⟨hS_,h0_,h1_,h2_,h3_,h4_,h5_,h6_,h7_⟩
             have n0_:Aside0 (Kd.R (Kd.int .i64) 3 w114 w.heap.size (fun _=>True) v222 y221):=⟨h0_⟩
             have n1_:Aside0 (Kd.R k35 35 w114 w.heap.size (fun _=>True) (.slice Ao109 yb.length co109) yb):=⟨h1_⟩
             have n2_:Aside0 (∃ c_,(v222:Value)=.slice (some adz_v222) y221.length c_):=⟨h2_⟩
             have n3_:Aside0 (w114.heap[Bg]?=some (.cells #[.int .i64 0,.slice none 0 0] 25 (0,0))):=⟨h3_⟩
             have n4_:Aside0 (w114.heap[Bd]?=some (.cells #[.int .i64 ya,.slice Ao109 yb.length co109] 25 (0,0))):=⟨h4_⟩
             have n5_:Aside0 (IsS51 w0 w114 g s0_0 t212):=⟨h5_⟩
             have n6_:Aside0 (KeepBut w w114 g none):=⟨h6_⟩
             have n7_:Aside0 (Below w0.heap.size w0 w114):=⟨h7_⟩
             clear Ba
             clear Bc
             clear Bb
             clear HI0
             clear HK
             clear HB
             clear h0_ h1_ h2_ h3_ h4_ h5_ h6_ h7_
             have BC:=n0_
             have Ba:=n1_
             have HA_HO223:=n2_
             have Bc:=n3_
             have Bb:=n4_
             have HI0:=n5_
             have HK:=n6_
             have HB:=n7_
             clear n0_ n1_ n2_ n3_ n4_ n5_ n6_ n7_
             have hHeld:w114.cell? ⟨Bd,0,none⟩=some (.int .i64 ya)∧w114.cell? ⟨Bd,1,none⟩=some (.slice Ao109 yb.length co109):=hS_
             obtain ⟨co115,eo115⟩:=HA_HO223.out
             clear HA_HO223
             subst eo115
             refine norm_ (by simp only [putAll,Act.put,lA,lZ,lS];rfl) ?_
             refine oS 3 74 z12q71 HT_ rfl rfl (by kernel_rfl) (by decide) (fun K hK=>?_)
             refine goes_ Try.func13 (by kernel_rfl) rfl #[.pointer (some ⟨g,0,none⟩),.int .i64 101] (by rfl) rfl rfl (by (try simp only [lM,lC,lN]);first|done|rfl|(simp only [lD,lT];rfl)) ?_
             with_reducible refine (spec_l6Rd_pick.calls k1 g s0_0 t212 101 t219 t220 w0 _ ?side1 ?side2 A102.out).mono ?_
             (case side1=>repeat (first|(with_reducible first|exact HI0.out|apply qsA|apply qsN|apply qsD|apply qsS|refine qsF ?_ Be.out _|refine qsF ?_ Bf.out _)|exact HI0.out))
             (case side2=>repeat (first|(with_reducible first|exact HB.out|apply oA|apply pN|apply o1|refine bS ?_ (qsG HI0.out)|refine bS ?_ Bo.out|refine bS ?_ Bp.out)|exact HB.out))
             rintro e w116 ⟨rfl,hi,hb,hk⟩
             refine ⟨_,rfl,?_⟩
             have n0_:=Am (rM (Kd.R_keep (IsS51.apart (show IsS51 w0 _ g s0_0 t212 from by repeat (first|(with_reducible first|exact HI0.out|apply qsA|apply qsN|apply qsD|apply qsS|refine qsF ?_ Be.out _|refine qsF ?_ Bf.out _)|exact HI0.out)) (rL Ba.out) (by decide)) hk (fun _ h=>h.2)) (fun _ h=>h.1))
             have n1_:=Am (qkB hk (g':=Bg) (o:=.cells #[.int .i64 0,.slice none 0 0] 25 (0,0)) (bL Bc.out) Bz.out (by simp))
             have n2_:=Am (qkB hk (g':=Bd) (o:=.cells #[.int .i64 ya,.slice Ao109 yb.length co109] 25 (0,0)) (bL Bb.out) Bw.out (by simp))
             have n3_:=Am (rM (Kd.R_keep (IsS51.apart (show IsS51 w0 _ g s0_0 t212 from by repeat (first|(with_reducible first|exact HI0.out|apply qsA|apply qsN|apply qsD|apply qsS|refine qsF ?_ Be.out _|refine qsF ?_ Bf.out _)|exact HI0.out)) (rL BC.out) (by decide)) hk (fun _ h=>h.2)) (fun _ h=>h.1))
             have n4_:=Am (KeepBut.trans (by repeat (first|(with_reducible first|exact HK.out|apply qkS|apply qkN|apply qkD|apply qkA|refine qkF ?_ Bi.out _|refine qkF ?_ Bk.out _)|exact HK.out)) hk (.inl rfl))
             have n5_:=Am (hb)
             have n6_:=Am (hi)
             clear Ba
             clear Bc
             clear Bb
             clear BC
             clear HK
             clear HB
             clear HI0
             have Ba:=n0_
             have Bc:=n1_
             have Bb:=n2_
             have BC:=n3_
             have HK:=n4_
             have HB:=n5_
             have HI0:=n6_
             clear n0_ n1_ n2_ n3_ n4_ n5_ n6_
             (try clear hb)
             (try clear hb2)
             (try clear hk)
             (try clear hi)
             refine hK.out _ _ ⟨(bC Bb.out 0).trans rfl,(bC Bb.out 1).trans rfl⟩ (fun hHeld=>?_)
             clear hK K
             refine norm_ (by show Act.put _ (some 74) _=_;simp only [Act.put,lA,lZ,lS,iw,jw];rfl) ?_
             exact norm_ (by first|(simp only [putAll,Act.put,lA,lZ,lS];done)|(simp only [putAll,Act.put,lA,lZ,lS];rfl)) (hJ3_4 (.slice (some adz_v222) y221.length co115,adz_v222) _ ⟨hHeld,(rL BC.out),(rL Ba.out),⟨_,rfl⟩,(bL Bc.out),(bL Bb.out),(by repeat (first|(with_reducible first|exact HI0.out|apply qsA|apply qsN|apply qsD|apply qsS|refine qsF ?_ Be.out _|refine qsF ?_ Bf.out _)|exact HI0.out)),(by repeat (first|(with_reducible first|exact HK.out|apply qkS|apply qkN|apply qkD|apply qkA|refine qkF ?_ Bi.out _|refine qkF ?_ Bk.out _)|exact HK.out)),(by repeat (first|(with_reducible first|exact HB.out|apply oA|apply pN|apply o1|refine bS ?_ (qsG HI0.out)|refine bS ?_ Bo.out|refine bS ?_ Bp.out)|exact HB.out))⟩)
           ·skip
            rintro _ w112 ⟨hS_,h0_,h1_,h2_,h3_,h4_,h5_⟩
            have n0_:Aside0 (Kd.R k35 35 w112 w.heap.size (fun _=>True) (.slice Ao109 yb.length co109) yb):=⟨h0_⟩
            have n1_:Aside0 (w112.heap[Bg]?=some (.cells #[.int .i64 0,.slice none 0 0] 25 (0,0))):=⟨h1_⟩
            have n2_:Aside0 (w112.heap[Bd]?=some (.cells #[.int .i64 ya,.slice Ao109 yb.length co109] 25 (0,0))):=⟨h2_⟩
            have n3_:Aside0 (IsS51 w0 w112 g s0_0 t220):=⟨h3_⟩
            have n4_:Aside0 (KeepBut w w112 g none):=⟨h4_⟩
            have n5_:Aside0 (Below w0.heap.size w0 w112):=⟨h5_⟩
            clear Ba
            clear Bc
            clear Bb
            clear HI0
            clear HK
            clear HB
            clear h0_ h1_ h2_ h3_ h4_ h5_
            have Ba:=n0_
            have Bc:=n1_
            have Bb:=n2_
            have HI0:=n3_
            have HK:=n4_
            have HB:=n5_
            clear n0_ n1_ n2_ n3_ n4_ n5_
            have hHeld:w112.cell? ⟨Bd,0,none⟩=some (.int .i64 ya)∧w112.cell? ⟨Bd,1,none⟩=some (.slice Ao109 yb.length co109):=hS_
            refine norm_ (by simp only [putAll,Act.put,lA,lZ,lS];rfl) ?_
            refine two_ (i:=4) (j:=6) (Ni:=some 75) (Nj:=some 77) z12q71 z12q72 rfl rfl rfl rfl (two_of HT_.out (by kernel_rfl)) (by decide) (by decide) (fun K hK=>?_) (fun K hK=>?_)
            ·skip
             refine Kd.R_lit_step (Kd.int .i64) _ 3 ?hg (N:=75) ?hd (xs:=([0,4095,4096]:List Int)) (inner:=[.int .i64 0,.int .i64 4095,.int .i64 4096]) (ok:=fun _=>True) (okp:=fun _=>True) ?hr ?hp (fun _ hk=>hk) trivial (bJ _ _) (nR _) (by simp) ?_;(case hd=>rfl);(case hg=>rfl);(case hr=>first|(go_simp;done)|(go_simp;rfl));(case hp=>exact (Reps.one (show Kd.M (Kd.int .i64) _ _ _ 0 [.int .i64 0] from rfl) (Reps.one (show Kd.M (Kd.int .i64) _ _ _ 4095 [.int .i64 4095] from rfl) (Reps.one (show Kd.M (Kd.int .i64) _ _ _ 4096 [.int .i64 4096] from rfl) (Reps.none _ _)))))
             intro v222 w113 ho114 hb hg_ hnew_
             clear hg_ hnew_
             (first|rw [←Ny221.out] at ho114|(simp only [Int.reduceToNat] at ho114;rw [←Ny221.out] at ho114))
             have n0_:=Am (rB (rL Ba.out) hb)
             have n1_:=Am (rW ho114 (keep_size (w:=w) (g:=g) (row:=none) (by repeat (first|(with_reducible first|exact HK.out|apply qkS|apply qkN|apply qkD|apply qkA|refine qkF ?_ Bi.out _|refine qkF ?_ Bk.out _)|exact HK.out))))
             have n2_:=Am (bX Bc.out hb)
             have n3_:=Am (bX Bb.out hb)
             have n4_:=Am (IsS51.below (by repeat (first|(with_reducible first|exact HI0.out|apply qsA|apply qsN|apply qsD|apply qsS|refine qsF ?_ Be.out _|refine qsF ?_ Bf.out _)|exact HI0.out)) hb)
             have n5_:=Am (KeepBut.trans (by repeat (first|(with_reducible first|exact HK.out|apply qkS|apply qkN|apply qkD|apply qkA|refine qkF ?_ Bi.out _|refine qkF ?_ Bk.out _)|exact HK.out)) (KeepBut.of_below hb g none) (.inl rfl))
             have n6_:=Am (bP (by repeat (first|(with_reducible first|exact HB.out|apply oA|apply pN|apply o1|refine bS ?_ (qsG HI0.out)|refine bS ?_ Bo.out|refine bS ?_ Bp.out)|exact HB.out)) hb)
             clear Ba
             clear Bc
             clear Bb
             clear HI0
             clear HK
             clear HB
             have Ba:=n0_
             have BC:=n1_
             have Bc:=n2_
             have Bb:=n3_
             have HI0:=n4_
             have HK:=n5_
             have HB:=n6_
             clear n0_ n1_ n2_ n3_ n4_ n5_ n6_
             clear hb ho114
             obtain ⟨Ao115,co115,eo115⟩:=rC BC.out
             subst eo115
             obtain ⟨ado115,fo115,_⟩:=Kd.at_int (rR BC.out).2.2 0 (by decide) (by rw [Ny221.out];simp)
             cases fo115
             refine hK.out _ _ ⟨(bC Bb.out 0).trans rfl,(bC Bb.out 1).trans rfl⟩ (fun hHeld=>?_)
             clear hK K
             refine norm_ (by show Act.put _ (some 75) _=_;simp only [Act.put,lA,lZ,lS,iw,jw];rfl) ?_
             exact norm_ (by first|(simp only [putAll,Act.put,lA,lZ,lS];done)|(simp only [putAll,Act.put,lA,lZ,lS];rfl)) (hJ3_4 (.slice (some ado115) y221.length co115,ado115) _ ⟨hHeld,(rL BC.out),(rL Ba.out),⟨_,rfl⟩,(bL Bc.out),(bL Bb.out),(by repeat (first|(with_reducible first|exact HI0.out|apply qsA|apply qsN|apply qsD|apply qsS|refine qsF ?_ Be.out _|refine qsF ?_ Bf.out _)|exact HI0.out)),(by repeat (first|(with_reducible first|exact HK.out|apply qkS|apply qkN|apply qkD|apply qkA|refine qkF ?_ Bi.out _|refine qkF ?_ Bk.out _)|exact HK.out)),(by repeat (first|(with_reducible first|exact HB.out|apply oA|apply pN|apply o1|refine bS ?_ (qsG HI0.out)|refine bS ?_ Bo.out|refine bS ?_ Bp.out)|exact HB.out))⟩)
            ·skip
             refine goes_ Try.func13 (by kernel_rfl) rfl #[.pointer (some ⟨g,0,none⟩),.int .i64 3] (by rfl) rfl rfl (by (try simp only [lM,lC,lN]);first|done|rfl|(simp only [lD,lT];rfl)) ?_
             with_reducible refine (spec_l6Rd_pick.calls k1 g s0_0 t220 3 t224 t225 w0 _ ?side1 ?side2 A103.out).mono ?_
             (case side1=>repeat (first|(with_reducible first|exact HI0.out|apply qsA|apply qsN|apply qsD|apply qsS|refine qsF ?_ Be.out _|refine qsF ?_ Bf.out _)|exact HI0.out))
             (case side2=>repeat (first|(with_reducible first|exact HB.out|apply oA|apply pN|apply o1|refine bS ?_ (qsG HI0.out)|refine bS ?_ Bo.out|refine bS ?_ Bp.out)|exact HB.out))
             rintro e w113 ⟨rfl,hi,hb,hk⟩
             refine ⟨_,rfl,?_⟩
             have n0_:=Am (rM (Kd.R_keep (IsS51.apart (show IsS51 w0 _ g s0_0 t220 from by repeat (first|(with_reducible first|exact HI0.out|apply qsA|apply qsN|apply qsD|apply qsS|refine qsF ?_ Be.out _|refine qsF ?_ Bf.out _)|exact HI0.out)) (rL Ba.out) (by decide)) hk (fun _ h=>h.2)) (fun _ h=>h.1))
             have n1_:=Am (qkB hk (g':=Bg) (o:=.cells #[.int .i64 0,.slice none 0 0] 25 (0,0)) (bL Bc.out) Bz.out (by simp))
             have n2_:=Am (qkB hk (g':=Bd) (o:=.cells #[.int .i64 ya,.slice Ao109 yb.length co109] 25 (0,0)) (bL Bb.out) Bw.out (by simp))
             have n3_:=Am (KeepBut.trans (by repeat (first|(with_reducible first|exact HK.out|apply qkS|apply qkN|apply qkD|apply qkA|refine qkF ?_ Bi.out _|refine qkF ?_ Bk.out _)|exact HK.out)) hk (.inl rfl))
             have n4_:=Am (hb)
             have n5_:=Am (hi)
             clear Ba
             clear Bc
             clear Bb
             clear HK
             clear HB
             clear HI0
             have Ba:=n0_
             have Bc:=n1_
             have Bb:=n2_
             have HK:=n3_
             have HB:=n4_
             have HI0:=n5_
             clear n0_ n1_ n2_ n3_ n4_ n5_
             (try clear hb)
             (try clear hb2)
             (try clear hk)
             (try clear hi)
             refine hK.out _ _ ⟨(bC Bb.out 0).trans rfl,(bC Bb.out 1).trans rfl⟩ (fun hHeld=>?_)
             clear hK K
             refine norm_ (by show Act.put _ (some 77) _=_;simp only [Act.put,lA,lZ,lS,iw,jw];rfl) ?_
             exact norm_ (by first|(simp only [putAll,Act.put,lA,lZ,lS];done)|(simp only [putAll,Act.put,lA,lZ,lS];rfl)) (hJ3_6 () _ ⟨hHeld,(rL Ba.out),(bL Bc.out),(bL Bb.out),(by repeat (first|(with_reducible first|exact HI0.out|apply qsA|apply qsN|apply qsD|apply qsS|refine qsF ?_ Be.out _|refine qsF ?_ Bf.out _)|exact HI0.out)),(by repeat (first|(with_reducible first|exact HK.out|apply qkS|apply qkN|apply qkD|apply qkA|refine qkF ?_ Bi.out _|refine qkF ?_ Bk.out _)|exact HK.out)),(by repeat (first|(with_reducible first|exact HB.out|apply oA|apply pN|apply o1|refine bS ?_ (qsG HI0.out)|refine bS ?_ Bo.out|refine bS ?_ Bp.out)|exact HB.out))⟩)
          ·skip
           rintro _ w113 ⟨hS_,h0_,h1_,h2_,h3_,h4_,h5_⟩
           have n0_:Aside0 (Kd.R k35 35 w113 w.heap.size (fun _=>True) (.slice Ao109 yb.length co109) yb):=⟨h0_⟩
           have n1_:Aside0 (w113.heap[Bg]?=some (.cells #[.int .i64 0,.slice none 0 0] 25 (0,0))):=⟨h1_⟩
           have n2_:Aside0 (w113.heap[Bd]?=some (.cells #[.int .i64 ya,.slice Ao109 yb.length co109] 25 (0,0))):=⟨h2_⟩
           have n3_:Aside0 (IsS51 w0 w113 g s0_0 t225):=⟨h3_⟩
           have n4_:Aside0 (KeepBut w w113 g none):=⟨h4_⟩
           have n5_:Aside0 (Below w0.heap.size w0 w113):=⟨h5_⟩
           clear Ba
           clear Bc
           clear Bb
           clear HI0
           clear HK
           clear HB
           clear h0_ h1_ h2_ h3_ h4_ h5_
           have Ba:=n0_
           have Bc:=n1_
           have Bb:=n2_
           have HI0:=n3_
           have HK:=n4_
           have HB:=n5_
           clear n0_ n1_ n2_ n3_ n4_ n5_
           have hHeld:w113.cell? ⟨Bd,0,none⟩=some (.int .i64 ya)∧w113.cell? ⟨Bd,1,none⟩=some (.slice Ao109 yb.length co109):=hS_
           refine norm_ (by simp only [putAll,Act.put,lA,lZ,lS];rfl) ?_
           refine two_ (i:=4) (j:=10) (Ni:=some 75) (Nj:=some 81) z12q75 z12q70 rfl rfl rfl rfl (two_of HT_.out (by kernel_rfl)) (by decide) (by decide) (fun K hK=>?_) (fun K hK=>?_)
           ·skip
            refine Kd.R_lit_step (Kd.int .i64) _ 3 ?hg (N:=75) ?hd (xs:=([0,4095,4096]:List Int)) (inner:=[.int .i64 0,.int .i64 4095,.int .i64 4096]) (ok:=fun _=>True) (okp:=fun _=>True) ?hr ?hp (fun _ hk=>hk) trivial (bJ _ _) (nR _) (by simp) ?_;(case hd=>rfl);(case hg=>rfl);(case hr=>first|(go_simp;done)|(go_simp;rfl));(case hp=>exact (Reps.one (show Kd.M (Kd.int .i64) _ _ _ 0 [.int .i64 0] from rfl) (Reps.one (show Kd.M (Kd.int .i64) _ _ _ 4095 [.int .i64 4095] from rfl) (Reps.one (show Kd.M (Kd.int .i64) _ _ _ 4096 [.int .i64 4096] from rfl) (Reps.none _ _)))))
            intro v222 w114 ho115 hb hg_ hnew_
            clear hg_ hnew_
            (first|rw [←Ny221.out] at ho115|(simp only [Int.reduceToNat] at ho115;rw [←Ny221.out] at ho115))
            have n0_:=Am (rB (rL Ba.out) hb)
            have n1_:=Am (rW ho115 (keep_size (w:=w) (g:=g) (row:=none) (by repeat (first|(with_reducible first|exact HK.out|apply qkS|apply qkN|apply qkD|apply qkA|refine qkF ?_ Bi.out _|refine qkF ?_ Bk.out _)|exact HK.out))))
            have n2_:=Am (bX Bc.out hb)
            have n3_:=Am (bX Bb.out hb)
            have n4_:=Am (IsS51.below (by repeat (first|(with_reducible first|exact HI0.out|apply qsA|apply qsN|apply qsD|apply qsS|refine qsF ?_ Be.out _|refine qsF ?_ Bf.out _)|exact HI0.out)) hb)
            have n5_:=Am (KeepBut.trans (by repeat (first|(with_reducible first|exact HK.out|apply qkS|apply qkN|apply qkD|apply qkA|refine qkF ?_ Bi.out _|refine qkF ?_ Bk.out _)|exact HK.out)) (KeepBut.of_below hb g none) (.inl rfl))
            have n6_:=Am (bP (by repeat (first|(with_reducible first|exact HB.out|apply oA|apply pN|apply o1|refine bS ?_ (qsG HI0.out)|refine bS ?_ Bo.out|refine bS ?_ Bp.out)|exact HB.out)) hb)
            clear Ba
            clear Bc
            clear Bb
            clear HI0
            clear HK
            clear HB
            have Ba:=n0_
            have BC:=n1_
            have Bc:=n2_
            have Bb:=n3_
            have HI0:=n4_
            have HK:=n5_
            have HB:=n6_
            clear n0_ n1_ n2_ n3_ n4_ n5_ n6_
            clear hb ho115
            obtain ⟨Ao116,co116,eo116⟩:=rC BC.out
            subst eo116
            obtain ⟨ado116,fo116,_⟩:=Kd.at_int (rR BC.out).2.2 0 (by decide) (by rw [Ny221.out];simp)
            cases fo116
            refine hK.out _ _ ⟨(bC Bb.out 0).trans rfl,(bC Bb.out 1).trans rfl⟩ (fun hHeld=>?_)
            clear hK K
            refine norm_ (by show Act.put _ (some 75) _=_;simp only [Act.put,lA,lZ,lS,iw,jw];rfl) ?_
            refine pS 7 78 z12q69 HT_ rfl rfl (by kernel_rfl) (by rfl) (by intro w';go_simp;with_reducible rfl) (by simp only [Act.put,lA,lZ,lS,iw,jw];rfl) ?_
            exact norm_ (by first|(simp only [putAll,Act.put,lA,lZ,lS];done)|(simp only [putAll,Act.put,lA,lZ,lS];rfl)) (hJ3_4_6 (.slice (some ado116) y221.length co116,ado116) _ ⟨hHeld,(rL BC.out),(rL Ba.out),⟨_,rfl⟩,(bL Bc.out),(bL Bb.out),(by repeat (first|(with_reducible first|exact HI0.out|apply qsA|apply qsN|apply qsD|apply qsS|refine qsF ?_ Be.out _|refine qsF ?_ Bf.out _)|exact HI0.out)),(by repeat (first|(with_reducible first|exact HK.out|apply qkS|apply qkN|apply qkD|apply qkA|refine qkF ?_ Bi.out _|refine qkF ?_ Bk.out _)|exact HK.out)),(by repeat (first|(with_reducible first|exact HB.out|apply oA|apply pN|apply o1|refine bS ?_ (qsG HI0.out)|refine bS ?_ Bo.out|refine bS ?_ Bp.out)|exact HB.out))⟩)
           ·skip
            refine goes_ Try.func13 (by kernel_rfl) rfl #[.pointer (some ⟨g,0,none⟩),.int .i64 101] (by rfl) rfl rfl (by (try simp only [lM,lC,lN]);first|done|rfl|(simp only [lD,lT];rfl)) ?_
            with_reducible refine (spec_l6Rd_pick.calls k1 g s0_0 t225 101 t227 t228 w0 _ ?side1 ?side2 A106.out).mono ?_
            (case side1=>repeat (first|(with_reducible first|exact HI0.out|apply qsA|apply qsN|apply qsD|apply qsS|refine qsF ?_ Be.out _|refine qsF ?_ Bf.out _)|exact HI0.out))
            (case side2=>repeat (first|(with_reducible first|exact HB.out|apply oA|apply pN|apply o1|refine bS ?_ (qsG HI0.out)|refine bS ?_ Bo.out|refine bS ?_ Bp.out)|exact HB.out))
            rintro e w114 ⟨rfl,hi,hb,hk⟩
            refine ⟨_,rfl,?_⟩
            have n0_:=Am (rM (Kd.R_keep (IsS51.apart (show IsS51 w0 _ g s0_0 t225 from by repeat (first|(with_reducible first|exact HI0.out|apply qsA|apply qsN|apply qsD|apply qsS|refine qsF ?_ Be.out _|refine qsF ?_ Bf.out _)|exact HI0.out)) (rL Ba.out) (by decide)) hk (fun _ h=>h.2)) (fun _ h=>h.1))
            have n1_:=Am (qkB hk (g':=Bg) (o:=.cells #[.int .i64 0,.slice none 0 0] 25 (0,0)) (bL Bc.out) Bz.out (by simp))
            have n2_:=Am (qkB hk (g':=Bd) (o:=.cells #[.int .i64 ya,.slice Ao109 yb.length co109] 25 (0,0)) (bL Bb.out) Bw.out (by simp))
            have n3_:=Am (KeepBut.trans (by repeat (first|(with_reducible first|exact HK.out|apply qkS|apply qkN|apply qkD|apply qkA|refine qkF ?_ Bi.out _|refine qkF ?_ Bk.out _)|exact HK.out)) hk (.inl rfl))
            have n4_:=Am (hb)
            have n5_:=Am (hi)
            clear Ba
            clear Bc
            clear Bb
            clear HK
            clear HB
            clear HI0
            have Ba:=n0_
            have Bc:=n1_
            have Bb:=n2_
            have HK:=n3_
            have HB:=n4_
            have HI0:=n5_
            clear n0_ n1_ n2_ n3_ n4_ n5_
            (try clear hb)
            (try clear hb2)
            (try clear hk)
            (try clear hi)
            refine hK.out _ _ ⟨(bC Bb.out 0).trans rfl,(bC Bb.out 1).trans rfl⟩ (fun hHeld=>?_)
            clear hK K
            refine norm_ (by show Act.put _ (some 81) _=_;simp only [Act.put,lA,lZ,lS,iw,jw];rfl) ?_
            exact norm_ (by first|(simp only [putAll,Act.put,lA,lZ,lS];done)|(simp only [putAll,Act.put,lA,lZ,lS];rfl)) (hJ3_6_10 () _ ⟨hHeld,(rL Ba.out),(bL Bc.out),(bL Bb.out),(by repeat (first|(with_reducible first|exact HI0.out|apply qsA|apply qsN|apply qsD|apply qsS|refine qsF ?_ Be.out _|refine qsF ?_ Bf.out _)|exact HI0.out)),(by repeat (first|(with_reducible first|exact HK.out|apply qkS|apply qkN|apply qkD|apply qkA|refine qkF ?_ Bi.out _|refine qkF ?_ Bk.out _)|exact HK.out)),(by repeat (first|(with_reducible first|exact HB.out|apply oA|apply pN|apply o1|refine bS ?_ (qsG HI0.out)|refine bS ?_ Bo.out|refine bS ?_ Bp.out)|exact HB.out))⟩)
         ·skip
          rintro ⟨v222,adz_v222⟩ w115 ⟨hS_,h0_,h1_,h2_,h3_,h4_,h5_,h6_,h7_⟩
          have n0_:Aside0 (Kd.R (Kd.int .i64) 3 w115 w.heap.size (fun _=>True) v222 y221):=⟨h0_⟩
          have n1_:Aside0 (Kd.R k35 35 w115 w.heap.size (fun _=>True) (.slice Ao109 yb.length co109) yb):=⟨h1_⟩
          have n2_:Aside0 (∃ c_,(v222:Value)=.slice (some adz_v222) y221.length c_):=⟨h2_⟩
          have n3_:Aside0 (w115.heap[Bg]?=some (.cells #[.int .i64 0,.slice none 0 0] 25 (0,0))):=⟨h3_⟩
          have n4_:Aside0 (w115.heap[Bd]?=some (.cells #[.int .i64 ya,.slice Ao109 yb.length co109] 25 (0,0))):=⟨h4_⟩
          have n5_:Aside0 (IsS51 w0 w115 g s0_0 t220):=⟨h5_⟩
          have n6_:Aside0 (KeepBut w w115 g none):=⟨h6_⟩
          have n7_:Aside0 (Below w0.heap.size w0 w115):=⟨h7_⟩
          clear Ba
          clear Bc
          clear Bb
          clear HI0
          clear HK
          clear HB
          clear h0_ h1_ h2_ h3_ h4_ h5_ h6_ h7_
          have BC:=n0_
          have Ba:=n1_
          have HA_HO223:=n2_
          have Bc:=n3_
          have Bb:=n4_
          have HI0:=n5_
          have HK:=n6_
          have HB:=n7_
          clear n0_ n1_ n2_ n3_ n4_ n5_ n6_ n7_
          have hHeld:w115.cell? ⟨Bd,0,none⟩=some (.int .i64 ya)∧w115.cell? ⟨Bd,1,none⟩=some (.slice Ao109 yb.length co109):=hS_
          obtain ⟨co116,eo116⟩:=HA_HO223.out
          clear HA_HO223
          subst eo116
          refine norm_ (by simp only [putAll,Act.put,lA,lZ,lS];rfl) ?_
          refine oS 6 77 z12q75 HT_ rfl rfl (by kernel_rfl) (by decide) (fun K hK=>?_)
          refine goes_ Try.func13 (by kernel_rfl) rfl #[.pointer (some ⟨g,0,none⟩),.int .i64 3] (by rfl) rfl rfl (by (try simp only [lM,lC,lN]);first|done|rfl|(simp only [lD,lT];rfl)) ?_
          with_reducible refine (spec_l6Rd_pick.calls k1 g s0_0 t220 3 t224 t225 w0 _ ?side1 ?side2 A103.out).mono ?_
          (case side1=>repeat (first|(with_reducible first|exact HI0.out|apply qsA|apply qsN|apply qsD|apply qsS|refine qsF ?_ Be.out _|refine qsF ?_ Bf.out _)|exact HI0.out))
          (case side2=>repeat (first|(with_reducible first|exact HB.out|apply oA|apply pN|apply o1|refine bS ?_ (qsG HI0.out)|refine bS ?_ Bo.out|refine bS ?_ Bp.out)|exact HB.out))
          rintro e w117 ⟨rfl,hi,hb,hk⟩
          refine ⟨_,rfl,?_⟩
          have n0_:=Am (rM (Kd.R_keep (IsS51.apart (show IsS51 w0 _ g s0_0 t220 from by repeat (first|(with_reducible first|exact HI0.out|apply qsA|apply qsN|apply qsD|apply qsS|refine qsF ?_ Be.out _|refine qsF ?_ Bf.out _)|exact HI0.out)) (rL Ba.out) (by decide)) hk (fun _ h=>h.2)) (fun _ h=>h.1))
          have n1_:=Am (qkB hk (g':=Bg) (o:=.cells #[.int .i64 0,.slice none 0 0] 25 (0,0)) (bL Bc.out) Bz.out (by simp))
          have n2_:=Am (qkB hk (g':=Bd) (o:=.cells #[.int .i64 ya,.slice Ao109 yb.length co109] 25 (0,0)) (bL Bb.out) Bw.out (by simp))
          have n3_:=Am (rM (Kd.R_keep (IsS51.apart (show IsS51 w0 _ g s0_0 t220 from by repeat (first|(with_reducible first|exact HI0.out|apply qsA|apply qsN|apply qsD|apply qsS|refine qsF ?_ Be.out _|refine qsF ?_ Bf.out _)|exact HI0.out)) (rL BC.out) (by decide)) hk (fun _ h=>h.2)) (fun _ h=>h.1))
          have n4_:=Am (KeepBut.trans (by repeat (first|(with_reducible first|exact HK.out|apply qkS|apply qkN|apply qkD|apply qkA|refine qkF ?_ Bi.out _|refine qkF ?_ Bk.out _)|exact HK.out)) hk (.inl rfl))
          have n5_:=Am (hb)
          have n6_:=Am (hi)
          clear Ba
          clear Bc
          clear Bb
          clear BC
          clear HK
          clear HB
          clear HI0
          have Ba:=n0_
          have Bc:=n1_
          have Bb:=n2_
          have BC:=n3_
          have HK:=n4_
          have HB:=n5_
          have HI0:=n6_
          clear n0_ n1_ n2_ n3_ n4_ n5_ n6_
          (try clear hb)
          (try clear hb2)
          (try clear hk)
          (try clear hi)
          refine hK.out _ _ ⟨(bC Bb.out 0).trans rfl,(bC Bb.out 1).trans rfl⟩ (fun hHeld=>?_)
          clear hK K
          refine norm_ (by show Act.put _ (some 77) _=_;simp only [Act.put,lA,lZ,lS,iw,jw];rfl) ?_
          refine pS 7 78 z12q69 HT_ rfl rfl (by kernel_rfl) (by rfl) (by intro w';go_simp;with_reducible rfl) (by simp only [Act.put,lA,lZ,lS,iw,jw];rfl) ?_
          exact norm_ (by first|(simp only [putAll,Act.put,lA,lZ,lS];done)|(simp only [putAll,Act.put,lA,lZ,lS];rfl)) (hJ3_4_6 (.slice (some adz_v222) y221.length co116,adz_v222) _ ⟨hHeld,(rL BC.out),(rL Ba.out),⟨_,rfl⟩,(bL Bc.out),(bL Bb.out),(by repeat (first|(with_reducible first|exact HI0.out|apply qsA|apply qsN|apply qsD|apply qsS|refine qsF ?_ Be.out _|refine qsF ?_ Bf.out _)|exact HI0.out)),(by repeat (first|(with_reducible first|exact HK.out|apply qkS|apply qkN|apply qkD|apply qkA|refine qkF ?_ Bi.out _|refine qkF ?_ Bk.out _)|exact HK.out)),(by repeat (first|(with_reducible first|exact HB.out|apply oA|apply pN|apply o1|refine bS ?_ (qsG HI0.out)|refine bS ?_ Bo.out|refine bS ?_ Bp.out)|exact HB.out))⟩)
        ·skip
         rintro _ w114 ⟨hS_,h0_,h1_,h2_,h3_,h4_,h5_⟩
         have n0_:Aside0 (Kd.R k35 35 w114 w.heap.size (fun _=>True) (.slice Ao109 yb.length co109) yb):=⟨h0_⟩
         have n1_:Aside0 (w114.heap[Bg]?=some (.cells #[.int .i64 0,.slice none 0 0] 25 (0,0))):=⟨h1_⟩
         have n2_:Aside0 (w114.heap[Bd]?=some (.cells #[.int .i64 ya,.slice Ao109 yb.length co109] 25 (0,0))):=⟨h2_⟩
         have n3_:Aside0 (IsS51 w0 w114 g s0_0 t228):=⟨h3_⟩
         have n4_:Aside0 (KeepBut w w114 g none):=⟨h4_⟩
         have n5_:Aside0 (Below w0.heap.size w0 w114):=⟨h5_⟩
         clear Ba
         clear Bc
         clear Bb
         clear HI0
         clear HK
         clear HB
         clear h0_ h1_ h2_ h3_ h4_ h5_
         have Ba:=n0_
         have Bc:=n1_
         have Bb:=n2_
         have HI0:=n3_
         have HK:=n4_
         have HB:=n5_
         clear n0_ n1_ n2_ n3_ n4_ n5_
         have hHeld:w114.cell? ⟨Bd,0,none⟩=some (.int .i64 ya)∧w114.cell? ⟨Bd,1,none⟩=some (.slice Ao109 yb.length co109):=hS_
         refine norm_ (by simp only [putAll,Act.put,lA,lZ,lS];rfl) ?_
         refine oS 4 75 z12q76 HT_ rfl rfl (by kernel_rfl) (by decide) (fun K hK=>?_)
         refine Kd.R_lit_step (Kd.int .i64) _ 3 ?hg (N:=75) ?hd (xs:=([0,4095,4096]:List Int)) (inner:=[.int .i64 0,.int .i64 4095,.int .i64 4096]) (ok:=fun _=>True) (okp:=fun _=>True) ?hr ?hp (fun _ hk=>hk) trivial (bJ _ _) (nR _) (by simp) ?_;(case hd=>rfl);(case hg=>rfl);(case hr=>first|(go_simp;done)|(go_simp;rfl));(case hp=>exact (Reps.one (show Kd.M (Kd.int .i64) _ _ _ 0 [.int .i64 0] from rfl) (Reps.one (show Kd.M (Kd.int .i64) _ _ _ 4095 [.int .i64 4095] from rfl) (Reps.one (show Kd.M (Kd.int .i64) _ _ _ 4096 [.int .i64 4096] from rfl) (Reps.none _ _)))))
         intro v222 w115 ho116 hb hg_ hnew_
         clear hg_ hnew_
         (first|rw [←Ny221.out] at ho116|(simp only [Int.reduceToNat] at ho116;rw [←Ny221.out] at ho116))
         have n0_:=Am (rB (rL Ba.out) hb)
         have n1_:=Am (rW ho116 (keep_size (w:=w) (g:=g) (row:=none) (by repeat (first|(with_reducible first|exact HK.out|apply qkS|apply qkN|apply qkD|apply qkA|refine qkF ?_ Bi.out _|refine qkF ?_ Bk.out _)|exact HK.out))))
         have n2_:=Am (bX Bc.out hb)
         have n3_:=Am (bX Bb.out hb)
         have n4_:=Am (IsS51.below (by repeat (first|(with_reducible first|exact HI0.out|apply qsA|apply qsN|apply qsD|apply qsS|refine qsF ?_ Be.out _|refine qsF ?_ Bf.out _)|exact HI0.out)) hb)
         have n5_:=Am (KeepBut.trans (by repeat (first|(with_reducible first|exact HK.out|apply qkS|apply qkN|apply qkD|apply qkA|refine qkF ?_ Bi.out _|refine qkF ?_ Bk.out _)|exact HK.out)) (KeepBut.of_below hb g none) (.inl rfl))
         have n6_:=Am (bP (by repeat (first|(with_reducible first|exact HB.out|apply oA|apply pN|apply o1|refine bS ?_ (qsG HI0.out)|refine bS ?_ Bo.out|refine bS ?_ Bp.out)|exact HB.out)) hb)
         clear Ba
         clear Bc
         clear Bb
         clear HI0
         clear HK
         clear HB
         have Ba:=n0_
         have BC:=n1_
         have Bc:=n2_
         have Bb:=n3_
         have HI0:=n4_
         have HK:=n5_
         have HB:=n6_
         clear n0_ n1_ n2_ n3_ n4_ n5_ n6_
         clear hb ho116
         obtain ⟨Ao117,co117,eo117⟩:=rC BC.out
         subst eo117
         obtain ⟨ado117,fo117,_⟩:=Kd.at_int (rR BC.out).2.2 0 (by decide) (by rw [Ny221.out];simp)
         cases fo117
         refine hK.out _ _ ⟨(bC Bb.out 0).trans rfl,(bC Bb.out 1).trans rfl⟩ (fun hHeld=>?_)
         clear hK K
         refine norm_ (by show Act.put _ (some 75) _=_;simp only [Act.put,lA,lZ,lS,iw,jw];rfl) ?_
         refine pS 7 78 z12q68 HT_ rfl rfl (by kernel_rfl) (by rfl) (by intro w';go_simp;with_reducible rfl) (by simp only [Act.put,lA,lZ,lS,iw,jw];rfl) ?_
         exact norm_ (by first|(simp only [putAll,Act.put,lA,lZ,lS];done)|(simp only [putAll,Act.put,lA,lZ,lS];rfl)) (hJ3_4_6_10 (.slice (some ado117) y221.length co117,ado117) _ ⟨hHeld,(rL BC.out),(rL Ba.out),⟨_,rfl⟩,(bL Bc.out),(bL Bb.out),(by repeat (first|(with_reducible first|exact HI0.out|apply qsA|apply qsN|apply qsD|apply qsS|refine qsF ?_ Be.out _|refine qsF ?_ Bf.out _)|exact HI0.out)),(by repeat (first|(with_reducible first|exact HK.out|apply qkS|apply qkN|apply qkD|apply qkA|refine qkF ?_ Bi.out _|refine qkF ?_ Bk.out _)|exact HK.out)),(by repeat (first|(with_reducible first|exact HB.out|apply oA|apply pN|apply o1|refine bS ?_ (qsG HI0.out)|refine bS ?_ Bo.out|refine bS ?_ Bp.out)|exact HB.out))⟩)
       ·skip
        rintro ⟨v222,adz_v222⟩ w116 ⟨hS_,h0_,h1_,h2_,h3_,h4_,h5_,h6_,h7_⟩
        have n0_:Aside0 (Kd.R (Kd.int .i64) 3 w116 w.heap.size (fun _=>True) v222 y221):=⟨h0_⟩
        have n1_:Aside0 (Kd.R k35 35 w116 w.heap.size (fun _=>True) (.slice Ao109 yb.length co109) yb):=⟨h1_⟩
        have n2_:Aside0 (∃ c_,(v222:Value)=.slice (some adz_v222) y221.length c_):=⟨h2_⟩
        have n3_:Aside0 (w116.heap[Bg]?=some (.cells #[.int .i64 0,.slice none 0 0] 25 (0,0))):=⟨h3_⟩
        have n4_:Aside0 (w116.heap[Bd]?=some (.cells #[.int .i64 ya,.slice Ao109 yb.length co109] 25 (0,0))):=⟨h4_⟩
        have n5_:Aside0 (IsS51 w0 w116 g s0_0 t225):=⟨h5_⟩
        have n6_:Aside0 (KeepBut w w116 g none):=⟨h6_⟩
        have n7_:Aside0 (Below w0.heap.size w0 w116):=⟨h7_⟩
        clear Ba
        clear Bc
        clear Bb
        clear HI0
        clear HK
        clear HB
        clear h0_ h1_ h2_ h3_ h4_ h5_ h6_ h7_
        have BC:=n0_
        have Ba:=n1_
        have HA_HO223:=n2_
        have Bc:=n3_
        have Bb:=n4_
        have HI0:=n5_
        have HK:=n6_
        have HB:=n7_
        clear n0_ n1_ n2_ n3_ n4_ n5_ n6_ n7_
        have hHeld:w116.cell? ⟨Bd,0,none⟩=some (.int .i64 ya)∧w116.cell? ⟨Bd,1,none⟩=some (.slice Ao109 yb.length co109):=hS_
        obtain ⟨co117,eo117⟩:=HA_HO223.out
        clear HA_HO223
        subst eo117
        refine norm_ (by simp only [putAll,Act.put,lA,lZ,lS];rfl) ?_
        refine two_ (i:=8) (j:=10) (Ni:=some 79) (Nj:=some 81) z12q67 z12q68 rfl rfl rfl rfl (two_of HT_.out (by kernel_rfl)) (by decide) (by decide) (fun K hK=>?_) (fun K hK=>?_)
        ·skip
         (have p226:0≤(t224:Int):=oE (by first|(with_reducible assumption)|assumption);have q226:t224<(y221.length:Int):=oE (by first|(with_reducible assumption)|assumption);obtain ⟨ad226,e226,hx226_0⟩:=Kd.at_int (rR BC.out).2.2 t224 p226 q226;obtain rfl:adz_v222=ad226:=(by injection e226))
         refine value_ (w1:=?_) (v:=?_) (by rfl) rfl ?_ ?_
         rotate_left 2
         ·go_simp
          constructor
          ·rfl
          ·rfl
         clear hx226_0
         refine hK.out _ _ ⟨(bC Bb.out 0).trans rfl,(bC Bb.out 1).trans rfl⟩ (fun hHeld=>?_)
         clear hK K
         refine norm_ (by show Act.put _ (some 79) _=_;simp only [Act.put,lA,lZ,lS,iw,jw];rfl) ?_
         exact norm_ (by first|(simp only [putAll,Act.put,lA,lZ,lS];done)|(simp only [putAll,Act.put,lA,lZ,lS];rfl)) (hJ3_4_6_8 (.slice (some adz_v222) y221.length co117,adz_v222) _ ⟨hHeld,(rL BC.out),(rL Ba.out),⟨_,rfl⟩,(bL Bc.out),(bL Bb.out),(by repeat (first|(with_reducible first|exact HI0.out|apply qsA|apply qsN|apply qsD|apply qsS|refine qsF ?_ Be.out _|refine qsF ?_ Bf.out _)|exact HI0.out)),(by repeat (first|(with_reducible first|exact HK.out|apply qkS|apply qkN|apply qkD|apply qkA|refine qkF ?_ Bi.out _|refine qkF ?_ Bk.out _)|exact HK.out)),(by repeat (first|(with_reducible first|exact HB.out|apply oA|apply pN|apply o1|refine bS ?_ (qsG HI0.out)|refine bS ?_ Bo.out|refine bS ?_ Bp.out)|exact HB.out))⟩)
        ·skip
         refine goes_ Try.func13 (by kernel_rfl) rfl #[.pointer (some ⟨g,0,none⟩),.int .i64 101] (by rfl) rfl rfl (by (try simp only [lM,lC,lN]);first|done|rfl|(simp only [lD,lT];rfl)) ?_
         with_reducible refine (spec_l6Rd_pick.calls k1 g s0_0 t225 101 t227 t228 w0 _ ?side1 ?side2 A106.out).mono ?_
         (case side1=>repeat (first|(with_reducible first|exact HI0.out|apply qsA|apply qsN|apply qsD|apply qsS|refine qsF ?_ Be.out _|refine qsF ?_ Bf.out _)|exact HI0.out))
         (case side2=>repeat (first|(with_reducible first|exact HB.out|apply oA|apply pN|apply o1|refine bS ?_ (qsG HI0.out)|refine bS ?_ Bo.out|refine bS ?_ Bp.out)|exact HB.out))
         rintro e w118 ⟨rfl,hi,hb,hk⟩
         refine ⟨_,rfl,?_⟩
         have n0_:=Am (rM (Kd.R_keep (IsS51.apart (show IsS51 w0 _ g s0_0 t225 from by repeat (first|(with_reducible first|exact HI0.out|apply qsA|apply qsN|apply qsD|apply qsS|refine qsF ?_ Be.out _|refine qsF ?_ Bf.out _)|exact HI0.out)) (rL Ba.out) (by decide)) hk (fun _ h=>h.2)) (fun _ h=>h.1))
         have n1_:=Am (qkB hk (g':=Bg) (o:=.cells #[.int .i64 0,.slice none 0 0] 25 (0,0)) (bL Bc.out) Bz.out (by simp))
         have n2_:=Am (qkB hk (g':=Bd) (o:=.cells #[.int .i64 ya,.slice Ao109 yb.length co109] 25 (0,0)) (bL Bb.out) Bw.out (by simp))
         have n3_:=Am (rM (Kd.R_keep (IsS51.apart (show IsS51 w0 _ g s0_0 t225 from by repeat (first|(with_reducible first|exact HI0.out|apply qsA|apply qsN|apply qsD|apply qsS|refine qsF ?_ Be.out _|refine qsF ?_ Bf.out _)|exact HI0.out)) (rL BC.out) (by decide)) hk (fun _ h=>h.2)) (fun _ h=>h.1))
         have n4_:=Am (KeepBut.trans (by repeat (first|(with_reducible first|exact HK.out|apply qkS|apply qkN|apply qkD|apply qkA|refine qkF ?_ Bi.out _|refine qkF ?_ Bk.out _)|exact HK.out)) hk (.inl rfl))
         have n5_:=Am (hb)
         have n6_:=Am (hi)
         clear Ba
         clear Bc
         clear Bb
         clear BC
         clear HK
         clear HB
         clear HI0
         have Ba:=n0_
         have Bc:=n1_
         have Bb:=n2_
         have BC:=n3_
         have HK:=n4_
         have HB:=n5_
         have HI0:=n6_
         clear n0_ n1_ n2_ n3_ n4_ n5_ n6_
         (try clear hb)
         (try clear hb2)
         (try clear hk)
         (try clear hi)
         refine hK.out _ _ ⟨(bC Bb.out 0).trans rfl,(bC Bb.out 1).trans rfl⟩ (fun hHeld=>?_)
         clear hK K
         refine norm_ (by show Act.put _ (some 81) _=_;simp only [Act.put,lA,lZ,lS,iw,jw];rfl) ?_
         exact norm_ (by first|(simp only [putAll,Act.put,lA,lZ,lS];done)|(simp only [putAll,Act.put,lA,lZ,lS];rfl)) (hJ3_4_6_10 (.slice (some adz_v222) y221.length co117,adz_v222) _ ⟨hHeld,(rL BC.out),(rL Ba.out),⟨_,rfl⟩,(bL Bc.out),(bL Bb.out),(by repeat (first|(with_reducible first|exact HI0.out|apply qsA|apply qsN|apply qsD|apply qsS|refine qsF ?_ Be.out _|refine qsF ?_ Bf.out _)|exact HI0.out)),(by repeat (first|(with_reducible first|exact HK.out|apply qkS|apply qkN|apply qkD|apply qkA|refine qkF ?_ Bi.out _|refine qkF ?_ Bk.out _)|exact HK.out)),(by repeat (first|(with_reducible first|exact HB.out|apply oA|apply pN|apply o1|refine bS ?_ (qsG HI0.out)|refine bS ?_ Bo.out|refine bS ?_ Bp.out)|exact HB.out))⟩)
      ·skip
       rintro ⟨v222,adz_v222⟩ w117 ⟨hS_,h0_,h1_,h2_,h3_,h4_,h5_,h6_,h7_⟩
       have n0_:Aside0 (Kd.R (Kd.int .i64) 3 w117 w.heap.size (fun _=>True) v222 y221):=⟨h0_⟩
       have n1_:Aside0 (Kd.R k35 35 w117 w.heap.size (fun _=>True) (.slice Ao109 yb.length co109) yb):=⟨h1_⟩
       have n2_:Aside0 (∃ c_,(v222:Value)=.slice (some adz_v222) y221.length c_):=⟨h2_⟩
       have n3_:Aside0 (w117.heap[Bg]?=some (.cells #[.int .i64 0,.slice none 0 0] 25 (0,0))):=⟨h3_⟩
       have n4_:Aside0 (w117.heap[Bd]?=some (.cells #[.int .i64 ya,.slice Ao109 yb.length co109] 25 (0,0))):=⟨h4_⟩
       have n5_:Aside0 (IsS51 w0 w117 g s0_0 t228):=⟨h5_⟩
       have n6_:Aside0 (KeepBut w w117 g none):=⟨h6_⟩
       have n7_:Aside0 (Below w0.heap.size w0 w117):=⟨h7_⟩
       clear Ba
       clear Bc
       clear Bb
       clear HI0
       clear HK
       clear HB
       clear h0_ h1_ h2_ h3_ h4_ h5_ h6_ h7_
       have BC:=n0_
       have Ba:=n1_
       have HA_HO223:=n2_
       have Bc:=n3_
       have Bb:=n4_
       have HI0:=n5_
       have HK:=n6_
       have HB:=n7_
       clear n0_ n1_ n2_ n3_ n4_ n5_ n6_ n7_
       have hHeld:w117.cell? ⟨Bd,0,none⟩=some (.int .i64 ya)∧w117.cell? ⟨Bd,1,none⟩=some (.slice Ao109 yb.length co109):=hS_
       obtain ⟨co118,eo118⟩:=HA_HO223.out
       clear HA_HO223
       subst eo118
       refine norm_ (by simp only [putAll,Act.put,lA,lZ,lS];rfl) ?_
       refine oS 8 79 z12q66 HT_ rfl rfl (by kernel_rfl) (by decide) (fun K hK=>?_)
       (have p226:0≤(t224:Int):=oE (by first|(with_reducible assumption)|assumption);have q226:t224<(y221.length:Int):=oE (by first|(with_reducible assumption)|assumption);obtain ⟨ad226,e226,hx226_0⟩:=Kd.at_int (rR BC.out).2.2 t224 p226 q226;obtain rfl:adz_v222=ad226:=(by injection e226))
       refine value_ (w1:=?_) (v:=?_) (by rfl) rfl ?_ ?_
       rotate_left 2
       ·go_simp
        constructor
        ·rfl
        ·rfl
       clear hx226_0
       refine hK.out _ _ ⟨(bC Bb.out 0).trans rfl,(bC Bb.out 1).trans rfl⟩ (fun hHeld=>?_)
       clear hK K
       refine norm_ (by show Act.put _ (some 79) _=_;simp only [Act.put,lA,lZ,lS,iw,jw];rfl) ?_
       exact norm_ (by first|(simp only [putAll,Act.put,lA,lZ,lS];done)|(simp only [putAll,Act.put,lA,lZ,lS];rfl)) (hJ3_4_6_8_10 (.slice (some adz_v222) y221.length co118,adz_v222) _ ⟨hHeld,(rL BC.out),(rL Ba.out),⟨_,rfl⟩,(bL Bc.out),(bL Bb.out),(by repeat (first|(with_reducible first|exact HI0.out|apply qsA|apply qsN|apply qsD|apply qsS|refine qsF ?_ Be.out _|refine qsF ?_ Bf.out _)|exact HI0.out)),(by repeat (first|(with_reducible first|exact HK.out|apply qkS|apply qkN|apply qkD|apply qkA|refine qkF ?_ Bi.out _|refine qkF ?_ Bk.out _)|exact HK.out)),(by repeat (first|(with_reducible first|exact HB.out|apply oA|apply pN|apply o1|refine bS ?_ (qsG HI0.out)|refine bS ?_ Bo.out|refine bS ?_ Bp.out)|exact HB.out))⟩)
     ·skip
      rintro ⟨v222,adz_v222⟩ w116 ⟨hS_,h0_,h1_,h2_,h3_,h4_,h5_,h6_,h7_⟩
      have n0_:Aside0 (Kd.R (Kd.int .i64) 3 w116 w.heap.size (fun _=>True) v222 y221):=⟨h0_⟩
      have n1_:Aside0 (Kd.R k35 35 w116 w.heap.size (fun _=>True) (.slice Ao109 yb.length co109) yb):=⟨h1_⟩
      have n2_:Aside0 (∃ c_,(v222:Value)=.slice (some adz_v222) y221.length c_):=⟨h2_⟩
      have n3_:Aside0 (w116.heap[Bg]?=some (.cells #[.int .i64 0,.slice none 0 0] 25 (0,0))):=⟨h3_⟩
      have n4_:Aside0 (w116.heap[Bd]?=some (.cells #[.int .i64 ya,.slice Ao109 yb.length co109] 25 (0,0))):=⟨h4_⟩
      have n5_:Aside0 (IsS51 w0 w116 g s0_0 t225):=⟨h5_⟩
      have n6_:Aside0 (KeepBut w w116 g none):=⟨h6_⟩
      have n7_:Aside0 (Below w0.heap.size w0 w116):=⟨h7_⟩
      clear Ba
      clear Bc
      clear Bb
      clear HI0
      clear HK
      clear HB
      clear h0_ h1_ h2_ h3_ h4_ h5_ h6_ h7_
      have BC:=n0_
      have Ba:=n1_
      have HA_HO223:=n2_
      have Bc:=n3_
      have Bb:=n4_
      have HI0:=n5_
      have HK:=n6_
      have HB:=n7_
      clear n0_ n1_ n2_ n3_ n4_ n5_ n6_ n7_
      have hHeld:w116.cell? ⟨Bd,0,none⟩=some (.int .i64 ya)∧w116.cell? ⟨Bd,1,none⟩=some (.slice Ao109 yb.length co109):=hS_
      obtain ⟨co117,eo117⟩:=HA_HO223.out
      clear HA_HO223
      subst eo117
      refine norm_ (by simp only [putAll,Act.put,lA,lZ,lS];rfl) ?_
      refine oS 10 81 z12q66 HT_ rfl rfl (by kernel_rfl) (by decide) (fun K hK=>?_)
      refine goes_ Try.func13 (by kernel_rfl) rfl #[.pointer (some ⟨g,0,none⟩),.int .i64 101] (by rfl) rfl rfl (by (try simp only [lM,lC,lN]);first|done|rfl|(simp only [lD,lT];rfl)) ?_
      with_reducible refine (spec_l6Rd_pick.calls k1 g s0_0 t225 101 t227 t228 w0 _ ?side1 ?side2 A106.out).mono ?_
      (case side1=>repeat (first|(with_reducible first|exact HI0.out|apply qsA|apply qsN|apply qsD|apply qsS|refine qsF ?_ Be.out _|refine qsF ?_ Bf.out _)|exact HI0.out))
      (case side2=>repeat (first|(with_reducible first|exact HB.out|apply oA|apply pN|apply o1|refine bS ?_ (qsG HI0.out)|refine bS ?_ Bo.out|refine bS ?_ Bp.out)|exact HB.out))
      rintro e w118 ⟨rfl,hi,hb,hk⟩
      refine ⟨_,rfl,?_⟩
      have n0_:=Am (rM (Kd.R_keep (IsS51.apart (show IsS51 w0 _ g s0_0 t225 from by repeat (first|(with_reducible first|exact HI0.out|apply qsA|apply qsN|apply qsD|apply qsS|refine qsF ?_ Be.out _|refine qsF ?_ Bf.out _)|exact HI0.out)) (rL Ba.out) (by decide)) hk (fun _ h=>h.2)) (fun _ h=>h.1))
      have n1_:=Am (qkB hk (g':=Bg) (o:=.cells #[.int .i64 0,.slice none 0 0] 25 (0,0)) (bL Bc.out) Bz.out (by simp))
      have n2_:=Am (qkB hk (g':=Bd) (o:=.cells #[.int .i64 ya,.slice Ao109 yb.length co109] 25 (0,0)) (bL Bb.out) Bw.out (by simp))
      have n3_:=Am (rM (Kd.R_keep (IsS51.apart (show IsS51 w0 _ g s0_0 t225 from by repeat (first|(with_reducible first|exact HI0.out|apply qsA|apply qsN|apply qsD|apply qsS|refine qsF ?_ Be.out _|refine qsF ?_ Bf.out _)|exact HI0.out)) (rL BC.out) (by decide)) hk (fun _ h=>h.2)) (fun _ h=>h.1))
      have n4_:=Am (KeepBut.trans (by repeat (first|(with_reducible first|exact HK.out|apply qkS|apply qkN|apply qkD|apply qkA|refine qkF ?_ Bi.out _|refine qkF ?_ Bk.out _)|exact HK.out)) hk (.inl rfl))
      have n5_:=Am (hb)
      have n6_:=Am (hi)
      clear Ba
      clear Bc
      clear Bb
      clear BC
      clear HK
      clear HB
      clear HI0
      have Ba:=n0_
      have Bc:=n1_
      have Bb:=n2_
      have BC:=n3_
      have HK:=n4_
      have HB:=n5_
      have HI0:=n6_
      clear n0_ n1_ n2_ n3_ n4_ n5_ n6_
      (try clear hb)
      (try clear hb2)
      (try clear hk)
      (try clear hi)
      refine hK.out _ _ ⟨(bC Bb.out 0).trans rfl,(bC Bb.out 1).trans rfl⟩ (fun hHeld=>?_)
      clear hK K
      refine norm_ (by show Act.put _ (some 81) _=_;simp only [Act.put,lA,lZ,lS,iw,jw];rfl) ?_
      exact norm_ (by first|(simp only [putAll,Act.put,lA,lZ,lS];done)|(simp only [putAll,Act.put,lA,lZ,lS];rfl)) (hJ3_4_6_8_10 (.slice (some adz_v222) y221.length co117,adz_v222) _ ⟨hHeld,(rL BC.out),(rL Ba.out),⟨_,rfl⟩,(bL Bc.out),(bL Bb.out),(by repeat (first|(with_reducible first|exact HI0.out|apply qsA|apply qsN|apply qsD|apply qsS|refine qsF ?_ Be.out _|refine qsF ?_ Bf.out _)|exact HI0.out)),(by repeat (first|(with_reducible first|exact HK.out|apply qkS|apply qkN|apply qkD|apply qkA|refine qkF ?_ Bi.out _|refine qkF ?_ Bk.out _)|exact HK.out)),(by repeat (first|(with_reducible first|exact HB.out|apply oA|apply pN|apply o1|refine bS ?_ (qsG HI0.out)|refine bS ?_ Bo.out|refine bS ?_ Bp.out)|exact HB.out))⟩)
    rintro ⟨v222,adz_v222⟩ w117 ⟨hS_,h0_,h1_,h2_,h3_,h4_,h5_,h6_,h7_⟩
    have n0_:Aside0 (Kd.R (Kd.int .i64) 3 w117 w.heap.size (fun _=>True) v222 y221):=⟨h0_⟩
    have n1_:Aside0 (Kd.R k35 35 w117 w.heap.size (fun _=>True) (.slice Ao109 yb.length co109) yb):=⟨h1_⟩
    have n2_:Aside0 (∃ c_,(v222:Value)=.slice (some adz_v222) y221.length c_):=⟨h2_⟩
    have n3_:Aside0 (w117.heap[Bg]?=some (.cells #[.int .i64 0,.slice none 0 0] 25 (0,0))):=⟨h3_⟩
    have n4_:Aside0 (w117.heap[Bd]?=some (.cells #[.int .i64 ya,.slice Ao109 yb.length co109] 25 (0,0))):=⟨h4_⟩
    have n5_:Aside0 (IsS51 w0 w117 g s0_0 t228):=⟨h5_⟩
    have n6_:Aside0 (KeepBut w w117 g none):=⟨h6_⟩
    have n7_:Aside0 (Below w0.heap.size w0 w117):=⟨h7_⟩
    clear Ba
    clear Bc
    clear Bb
    clear HI0
    clear HK
    clear HB
    clear h0_ h1_ h2_ h3_ h4_ h5_ h6_ h7_
    have BC:=n0_
    have Ba:=n1_
    have HA_HO223:=n2_
    have Bc:=n3_
    have Bb:=n4_
    have HI0:=n5_
    have HK:=n6_
    have HB:=n7_
    clear n0_ n1_ n2_ n3_ n4_ n5_ n6_ n7_
    have hHeld:w117.cell? ⟨Bd,0,none⟩=some (.int .i64 ya)∧w117.cell? ⟨Bd,1,none⟩=some (.slice Ao109 yb.length co109):=hS_
    obtain ⟨co118,eo118⟩:=HA_HO223.out
    clear HA_HO223
    subst eo118
    refine norm_ (by simp only [putAll,Act.put,lA,lZ,lS];rfl) ?_
    refine pS 11 82 z12q77 HT_ rfl rfl (by kernel_rfl) (by rfl) (by intro w';go_simp;with_reducible rfl) (by simp only [Act.put,lA,lZ,lS,iw,jw];rfl) ?_
    refine oS 12 83 z12q78 HT_ rfl rfl (by kernel_rfl) (by decide) (fun K hK=>?_)
    refine value_ (w1:=?_) (v:=?_) (by rfl) rfl ?_ ?_
    rotate_left 2
    ·go_simp
     constructor
     ·rfl
     ·rfl
    refine hK.out _ _ ⟨(bC (bA Bb.out _) 0).trans rfl,(bC (bA Bb.out _) 1).trans rfl⟩ (fun hHeld=>?_)
    clear hK K
    refine norm_ (by show Act.put _ (some 83) _=_;simp only [Act.put,lA,lZ,lS,iw,jw];rfl) ?_
    refine oS 13 84 z12q79 HT_ rfl rfl (by kernel_rfl) (by decide) (fun K hK=>?_)
    refine Kd.R_append_step k35 w.heap.size (by rfl) (.tmp 72) (.tmp 83) 23 35 (.agg #[(.int .i64 0),(.int .i64 0),(.int .i64 0)]) 24 rfl Try.underlying23 info35 rfl (by decide) (by omega) (.slice Ao109 yb.length co109) yb (⟨t219,rd y221 t224,t227⟩:S35) [.int .i64 t219,.int .i64 (rd y221 t224),.int .i64 t227] (fun _=>True) (fun _=>False) rfl rfl ?aP (fun _ hk=>hk.elim) ?aF ?aO (bJ _ _) ?aS ?aL ?_
    (case aP=>exact k35_mkM _ _ _ (⟨t219,rd y221 t224,t227⟩:S35))
    (case aF=>exact (fun _ _=>trivial))
    (case aO=>exact (rL Ba.out))
    (case aS=>exact (keep_size (w:=w) (g:=g) (row:=none) (by repeat (first|(with_reducible first|exact HK.out|apply qkS|apply qkN|apply qkD|apply qkA|refine qkF ?_ Bi.out _|refine qkF ?_ Bk.out _)|exact HK.out))))
    (case aL=>have:=LMc107.out;omega)
    intro v230 w119 ho hb hg hat
    rw [←Ny229.out] at ho
    have n0_:=Am (bG (g:=Bg) (o:=.cells #[.int .i64 0,.slice none 0 0] 25 (0,0)) (bL Bc.out) hg (rE Ba.out Bc.out (by decide)))
    have n1_:=Am (bG (g:=Bd) (o:=.cells #[.int .i64 ya,.slice Ao109 yb.length co109] 25 (0,0)) (bL Bb.out) hg (rE Ba.out Bb.out (by decide)))
    have n2_:=Am (IsS51.grown (by repeat (first|(with_reducible first|exact HI0.out|apply qsA|apply qsN|apply qsD|apply qsS|refine qsF ?_ Be.out _|refine qsF ?_ Bf.out _)|exact HI0.out)) hg (IsS51.own_ne HI0.out Ba.out (by decide)))
    have n3_:=Am (rO (rL BC.out) (rY (rL Ba.out)) (by decide) hg)
    have n4_:=Am (below_weaken (by repeat (first|(with_reducible first|exact HB.out|apply oA|apply pN|apply o1|refine bS ?_ (qsG HI0.out)|refine bS ?_ Bo.out|refine bS ?_ Bp.out)|exact HB.out)) HL.out hb)
    have n5_:=Am (KeepBut.trans (by repeat (first|(with_reducible first|exact HK.out|apply qkS|apply qkN|apply qkD|apply qkA|refine qkF ?_ Bi.out _|refine qkF ?_ Bk.out _)|exact HK.out)) (KeepBut.of_grown hg g) (Kd.R_base2 Ba.out))
    have n6_:=Am (ho)
    clear Bc
    clear Bb
    clear HI0
    clear BC
    clear HB
    clear HK
    clear Ba
    have Bc:=n0_
    have Bb:=n1_
    have HI0:=n2_
    have BC:=n3_
    have HB:=n4_
    have HK:=n5_
    have BU:=n6_
    clear n0_ n1_ n2_ n3_ n4_ n5_ n6_
    clear ho hb hg hat
    obtain ⟨Ao120,co120,eo120⟩:=rC BU.out
    (first|subst eo120|(injection eo120 with f1_ f2_ f3_;have f4_:=f1_.symm;have f5_:=f3_.symm;clear f1_ f2_ f3_;subst f4_;subst f5_))
    refine hK.out _ _ ⟨(bC Bb.out 0).trans rfl,(bC Bb.out 1).trans rfl⟩ (fun hHeld=>?_)
    clear hK K
    refine norm_ (by show Act.put _ (some 84) _=_;simp only [Act.put,lA,lZ,lS,iw,jw];rfl) ?_
    refine pS 14 85 z12q80 HT_ rfl rfl (by kernel_rfl) (by rfl) (by intro w';go_simp;with_reducible rfl) (by simp only [Act.put,lA,lZ,lS,iw,jw];rfl) ?_
    refine last_ (i:=15) (N:=none) z12q81 rfl rfl (one_of HT_.out (by kernel_rfl)) (by decide) (fun K hK=>?_)
    have hs121:=cz1 Bb.out
    have hfs121:=bF Bb.out 1
    have hns121_0:=BK.out
    have hms121_0:=BO.out
    refine skip_ (w1:=?_) (by rfl) rfl ?_ ?_
    rotate_left;(go_simp;rfl)
    refine hK.out _ _ ?_
    clear hK K
    refine done_ (done_of HT_.out (by kernel_rfl)) ?_
    have DF:=BO.out
    have DG:=BK.out
    have DH:=Bw.out
    have DI:=Bf.out
    have B8:=cz0 Bb.out
    have Da:=cz1 Bb.out
    have Db:=bF Bb.out 0
    have Dc:=bF Bb.out 1
    have DJ:=Bz.out
    have DK:=Be.out
    have Dd:=cz0 Bc.out
    have De:=cz1 Bc.out
    have Df:=bF Bc.out 0
    have Dg:=bF Bc.out 1
    try go_wp2
    refine bodyPost_ret (results_cell_row rfl _ _ Bg 25 #[.int .i64 ya,.slice Ao120 y229.length co120] (0,0) _ rfl (by (with_reducible repeat (first|refine bN ?_ _|refine bD ?_|refine bA ?_ _));refine bT (cs:=#[.int .i64 ya,.slice none 0 0]) ?_ 1 _ rfl;(with_reducible repeat (first|refine bN ?_ _|refine bD ?_|refine bA ?_ _));refine bT (cs:=#[.int .i64 0,.slice none 0 0]) ?_ 0 _ rfl;(with_reducible repeat (first|refine bN ?_ _|refine bD ?_|refine bA ?_ _|refine bE ?_ BK.out _));exact Bc.out) Try.underlying25 rfl (by kernel_rfl)) rfl ?_
    exact ⟨_,by first|rfl|(simp [errW_none,errW_some] <;> rfl)|(simp [*,errW_none,errW_some] <;> rfl),by (with_reducible repeat (first|apply rA|apply rN|apply rD));exact rM (rF (p:=⟨Bg,1,none⟩) (rF (p:=⟨Bg,0,none⟩) (rF (p:=⟨Bd,1,none⟩) (rT (rT BU.out Bb.out (by decide)) Bc.out (by decide)) (fun _ hk=>hk.1.2) (.slice Ao120 y229.length co120)) (fun _ hk=>hk.2) (.int .i64 ya)) (fun _ hk=>hk.2) (.slice Ao120 y229.length co120)) (fun _ hk=>trivial),by repeat (first|(with_reducible first|exact HI0.out|apply qsA|apply qsN|apply qsD|apply qsS|refine qsF ?_ Be.out _|refine qsF ?_ Bf.out _)|exact HI0.out),by repeat (first|(with_reducible first|exact HB.out|apply oA|apply pN|apply o1|refine bS ?_ (qsG HI0.out)|refine bS ?_ Bo.out|refine bS ?_ Bp.out)|exact HB.out),by repeat (first|(with_reducible first|exact HK.out|apply qkS|apply qkN|apply qkD|apply qkA|refine qkF ?_ Bi.out _|refine qkF ?_ Bk.out _)|exact HK.out)⟩
   rw [if_pos c19] at H
   have c19b0:decide (0<yn)=true:=dT c19
   clear c19
   replace H:=oC H
   obtain ⟨⟨t184,t185⟩,A200,H⟩:=H
   replace H:((spec_l6Rd_pick.f k1 s0_0 t185 60).bind fun bt186=>((spec_l6Rd_pick.f k1 s0_0 bt186.2 3).bind fun bt188=>((spec_l6Rd_pick.f k1 s0_0 bt188.2 40).bind fun bt190=>((spec_ClockSet.f k1 ya yb t184 (wrap64 (1+bt186.1)) (wrap64 (bt188.1*bt190.1))).bind fun bt192=>(if bt192.2.2=true then (spec_l97Clock.j1 k1 yn s0_0 bt190.2 bt192.1 bt192.2.1) else (spec_l97Clock.j1 k1 yn s0_0 bt190.2 ya yb))))))=some (r1,r2,r3):=H
   have A20:=Am A200
   clear A200
   replace H:=oC H
   obtain ⟨⟨t186,t187⟩,A210,H⟩:=H
   replace H:((spec_l6Rd_pick.f k1 s0_0 t187 3).bind fun bt188=>((spec_l6Rd_pick.f k1 s0_0 bt188.2 40).bind fun bt190=>((spec_ClockSet.f k1 ya yb t184 (wrap64 (1+t186)) (wrap64 (bt188.1*bt190.1))).bind fun bt192=>(if bt192.2.2=true then (spec_l97Clock.j1 k1 yn s0_0 bt190.2 bt192.1 bt192.2.1) else (spec_l97Clock.j1 k1 yn s0_0 bt190.2 ya yb)))))=some (r1,r2,r3):=H
   have A21:=Am A210
   clear A210
   replace H:=oC H
   obtain ⟨⟨t188,t189⟩,A220,H⟩:=H
   replace H:((spec_l6Rd_pick.f k1 s0_0 t189 40).bind fun bt190=>((spec_ClockSet.f k1 ya yb t184 (wrap64 (1+t186)) (wrap64 (t188*bt190.1))).bind fun bt192=>(if bt192.2.2=true then (spec_l97Clock.j1 k1 yn s0_0 bt190.2 bt192.1 bt192.2.1) else (spec_l97Clock.j1 k1 yn s0_0 bt190.2 ya yb))))=some (r1,r2,r3):=H
   have A22:=Am A220
   clear A220
   replace H:=oC H
   obtain ⟨⟨t190,t191⟩,A230,H⟩:=H
   replace H:((spec_ClockSet.f k1 ya yb t184 (wrap64 (1+t186)) (wrap64 (t188*t190))).bind fun bt192=>(if bt192.2.2=true then (spec_l97Clock.j1 k1 yn s0_0 t191 bt192.1 bt192.2.1) else (spec_l97Clock.j1 k1 yn s0_0 t191 ya yb)))=some (r1,r2,r3):=H
   have A23:=Am A230
   clear A230
   replace H:=oC H
   obtain ⟨⟨t192,t193,t196⟩,A240,H⟩:=H
   replace H:(if t196=true then (spec_l97Clock.j1 k1 yn s0_0 t191 t192 t193) else (spec_l97Clock.j1 k1 yn s0_0 t191 ya yb))=some (r1,r2,r3):=H
   have A24:=Am A240
   clear A240
   have HC25:=Am H
   clear H
   obtain ⟨Ao26,co26,eo26⟩:=rC Ba.out
   subst eo26
   try go_wp2
   have n0_:=Am (rD Ba.out)
   have n1_:=Am (bD Bc.out)
   have n2_:=Am (bD Bb.out)
   have n3_:=Am (qsD HI0.out)
   have n4_:=Am (qkD HK.out)
   have n5_:=Am (o1 HB.out)
   clear Ba
   clear Bc
   clear Bb
   clear HI0
   clear HK
   clear HB
   have Ba:=n0_
   have Bc:=n1_
   have Bb:=n2_
   have HI0:=n3_
   have HK:=n4_
   have HB:=n5_
   clear n0_ n1_ n2_ n3_ n4_ n5_
   refine start_ (n:=18) (S:=fun w'=>w'.cell? ⟨Bd,0,none⟩=some (.int .i64 ya)∧w'.cell? ⟨Bd,1,none⟩=some (.slice Ao26 yb.length co26)) (ds:=[]) z12q0 (by kernel_rfl) rfl rfl ⟨(bC Bb.out 0).trans rfl,(bC Bb.out 1).trans rfl⟩ (fun hHeld=>?_);refine with_st spec_l97Clock.tab5 spec_l97Clock.bits5 (fun _ _ _ _ _ h=>h) (fun HT_=>?_)
   generalize wr.drew=w27 at Ba Bc Bb HI0 HK HB hHeld ⊢
   refine pS 1 28 z12q1 HT_ rfl rfl (by kernel_rfl) (by rfl) (by intro w';go_simp;with_reducible rfl) (by simp only [Act.put,lA,lZ,lS,iw,jw];rfl) ?_
   refine pS 3 30 z12q2 HT_ rfl rfl (by kernel_rfl) (by rfl) (by intro w';go_simp;with_reducible rfl) (by simp only [Act.put,lA,lZ,lS,iw,jw];rfl) ?_
   refine pS 6 33 z12q3 HT_ rfl rfl (by kernel_rfl) (by rfl) (by intro w';go_simp;with_reducible rfl) (by simp only [Act.put,lA,lZ,lS,iw,jw];rfl) ?_
   refine pS 8 35 z12q4 HT_ rfl rfl (by kernel_rfl) (by rfl) (by intro w';go_simp;with_reducible rfl) (by simp only [Act.put,lA,lZ,lS,iw,jw];rfl) ?_
   refine tS 0 27 z12q5 HT_ hHeld rfl rfl (by kernel_rfl) (by rfl) (by rintro w' ⟨s0,s1⟩;go_simp;with_reducible rfl) (by simp only [Act.put,lA,lZ,lS,iw,jw];rfl) ?_
   refine join_ (σ:=Value × Nat) 2 z12q6 (fun s_=>[(29,.int .i64 t184),(31,.int .i64 t186),(34,.int .i64 t188),(36,.int .i64 t190),(38,.tuple #[.agg #[.int .i64 t192,s_.1],.bool t196]),(6,.pointer (some ⟨s_.2,0,none⟩)),(32,.int .i64 (wrap64 (1+t186))),(37,.int .i64 (wrap64 (t188*t190))),(26,.tuple #[.agg #[.int .i64 t192,s_.1],.bool t196]),(39,.agg #[.int .i64 t192,s_.1]),(40,.bool t196)]) (fun s_ w'=>(w'.cell? ⟨Bd,0,none⟩=some (.int .i64 ya)∧w'.cell? ⟨Bd,1,none⟩=some (.slice Ao26 yb.length co26))∧(Kd.R k35 35 w' w.heap.size (fun k_=>some k_≠(.slice Ao26 yb.length co26:Value).ownBlock) s_.1 t193)∧(Kd.R k35 35 w' w.heap.size (fun k_=>some k_≠(s_.1:Value).ownBlock) (.slice Ao26 yb.length co26) yb)∧(w'.heap[Bg]?=some (.cells #[.int .i64 0,.slice none 0 0] 25 (0,0)))∧(w'.heap[Bd]?=some (.cells #[.int .i64 ya,.slice Ao26 yb.length co26] 25 (0,0)))∧(w'.heap[s_.2]?=some (.cells #[.int .i64 0,.slice none 0 0] 25 (0,0)))∧(w.heap.size≤s_.2)∧(w0.heap.size≤s_.2)∧(g≠s_.2)∧(s_.2≠g)∧(Bg≠s_.2)∧(s_.2≠Bg)∧(Bd≠s_.2)∧(s_.2≠Bd)∧(IsS51 w0 w' g s0_0 t191)∧(KeepBut w w' g none)∧(Below w0.heap.size w0 w')) ?_ ?_
   rotate_left
   ·intro hJ2_4_7_9_11_15
    refine join_ (σ:=Value) 3 z12q7 (fun s_=>[(29,.int .i64 t184),(31,.int .i64 t186),(34,.int .i64 t188),(36,.int .i64 t190),(38,.tuple #[.agg #[.int .i64 t192,s_],.bool t196]),(32,.int .i64 (wrap64 (1+t186))),(37,.int .i64 (wrap64 (t188*t190))),(26,.tuple #[.agg #[.int .i64 t192,s_],.bool t196]),(39,.agg #[.int .i64 t192,s_]),(40,.bool t196)]) (fun s_ w'=>(w'.cell? ⟨Bd,0,none⟩=some (.int .i64 ya)∧w'.cell? ⟨Bd,1,none⟩=some (.slice Ao26 yb.length co26))∧(Kd.R k35 35 w' w.heap.size (fun k_=>some k_≠(.slice Ao26 yb.length co26:Value).ownBlock) s_ t193)∧(Kd.R k35 35 w' w.heap.size (fun k_=>some k_≠(s_:Value).ownBlock) (.slice Ao26 yb.length co26) yb)∧(w'.heap[Bg]?=some (.cells #[.int .i64 0,.slice none 0 0] 25 (0,0)))∧(w'.heap[Bd]?=some (.cells #[.int .i64 ya,.slice Ao26 yb.length co26] 25 (0,0)))∧(IsS51 w0 w' g s0_0 t191)∧(KeepBut w w' g none)∧(Below w0.heap.size w0 w')) ?_ ?_
    rotate_left
    ·intro hJ2_4_7_9_11
     refine join_ (σ:=Nat) 6 z12q8 (fun s_=>[(29,.int .i64 t184),(31,.int .i64 t186),(34,.int .i64 t188),(36,.int .i64 t190),(6,.pointer (some ⟨s_,0,none⟩)),(32,.int .i64 (wrap64 (1+t186))),(37,.int .i64 (wrap64 (t188*t190)))]) (fun s_ w'=>(w'.cell? ⟨Bd,0,none⟩=some (.int .i64 ya)∧w'.cell? ⟨Bd,1,none⟩=some (.slice Ao26 yb.length co26))∧(Kd.R k35 35 w' w.heap.size (fun _=>True) (.slice Ao26 yb.length co26) yb)∧(w'.heap[Bg]?=some (.cells #[.int .i64 0,.slice none 0 0] 25 (0,0)))∧(w'.heap[Bd]?=some (.cells #[.int .i64 ya,.slice Ao26 yb.length co26] 25 (0,0)))∧(w'.heap[s_]?=some (.cells #[.int .i64 0,.slice none 0 0] 25 (0,0)))∧(w.heap.size≤s_)∧(w0.heap.size≤s_)∧(g≠s_)∧(s_≠g)∧(Bg≠s_)∧(s_≠Bg)∧(Bd≠s_)∧(s_≠Bd)∧(IsS51 w0 w' g s0_0 t191)∧(KeepBut w w' g none)∧(Below w0.heap.size w0 w')) ?_ ?_
     rotate_left
     ·intro hJ2_4_7_9_15
      refine join_ (σ:=Unit) 7 z12q9 (fun s_=>[(29,.int .i64 t184),(31,.int .i64 t186),(34,.int .i64 t188),(36,.int .i64 t190),(32,.int .i64 (wrap64 (1+t186))),(37,.int .i64 (wrap64 (t188*t190)))]) (fun s_ w'=>(w'.cell? ⟨Bd,0,none⟩=some (.int .i64 ya)∧w'.cell? ⟨Bd,1,none⟩=some (.slice Ao26 yb.length co26))∧(Kd.R k35 35 w' w.heap.size (fun _=>True) (.slice Ao26 yb.length co26) yb)∧(w'.heap[Bg]?=some (.cells #[.int .i64 0,.slice none 0 0] 25 (0,0)))∧(w'.heap[Bd]?=some (.cells #[.int .i64 ya,.slice Ao26 yb.length co26] 25 (0,0)))∧(IsS51 w0 w' g s0_0 t191)∧(KeepBut w w' g none)∧(Below w0.heap.size w0 w')) ?_ ?_
      rotate_left
      ·intro hJ2_4_7_9
       refine join_ (σ:=Nat) 8 z12q10 (fun s_=>[(29,.int .i64 t184),(31,.int .i64 t186),(34,.int .i64 t188),(6,.pointer (some ⟨s_,0,none⟩)),(32,.int .i64 (wrap64 (1+t186)))]) (fun s_ w'=>(w'.cell? ⟨Bd,0,none⟩=some (.int .i64 ya)∧w'.cell? ⟨Bd,1,none⟩=some (.slice Ao26 yb.length co26))∧(Kd.R k35 35 w' w.heap.size (fun _=>True) (.slice Ao26 yb.length co26) yb)∧(w'.heap[Bg]?=some (.cells #[.int .i64 0,.slice none 0 0] 25 (0,0)))∧(w'.heap[Bd]?=some (.cells #[.int .i64 ya,.slice Ao26 yb.length co26] 25 (0,0)))∧(w'.heap[s_]?=some (.cells #[.int .i64 0,.slice none 0 0] 25 (0,0)))∧(w.heap.size≤s_)∧(w0.heap.size≤s_)∧(g≠s_)∧(s_≠g)∧(Bg≠s_)∧(s_≠Bg)∧(Bd≠s_)∧(s_≠Bd)∧(IsS51 w0 w' g s0_0 t189)∧(KeepBut w w' g none)∧(Below w0.heap.size w0 w')) ?_ ?_
       rotate_left
       ·intro hJ2_4_7_15
        refine join_ (σ:=Unit) 9 z12q11 (fun s_=>[(29,.int .i64 t184),(31,.int .i64 t186),(34,.int .i64 t188),(32,.int .i64 (wrap64 (1+t186)))]) (fun s_ w'=>(w'.cell? ⟨Bd,0,none⟩=some (.int .i64 ya)∧w'.cell? ⟨Bd,1,none⟩=some (.slice Ao26 yb.length co26))∧(Kd.R k35 35 w' w.heap.size (fun _=>True) (.slice Ao26 yb.length co26) yb)∧(w'.heap[Bg]?=some (.cells #[.int .i64 0,.slice none 0 0] 25 (0,0)))∧(w'.heap[Bd]?=some (.cells #[.int .i64 ya,.slice Ao26 yb.length co26] 25 (0,0)))∧(IsS51 w0 w' g s0_0 t189)∧(KeepBut w w' g none)∧(Below w0.heap.size w0 w')) ?_ ?_
        rotate_left
        ·intro hJ2_4_7
         refine join_ (σ:=Nat) 9 z12q12 (fun s_=>[(29,.int .i64 t184),(31,.int .i64 t186),(6,.pointer (some ⟨s_,0,none⟩)),(32,.int .i64 (wrap64 (1+t186)))]) (fun s_ w'=>(w'.cell? ⟨Bd,0,none⟩=some (.int .i64 ya)∧w'.cell? ⟨Bd,1,none⟩=some (.slice Ao26 yb.length co26))∧(Kd.R k35 35 w' w.heap.size (fun _=>True) (.slice Ao26 yb.length co26) yb)∧(w'.heap[Bg]?=some (.cells #[.int .i64 0,.slice none 0 0] 25 (0,0)))∧(w'.heap[Bd]?=some (.cells #[.int .i64 ya,.slice Ao26 yb.length co26] 25 (0,0)))∧(w'.heap[s_]?=some (.cells #[.int .i64 0,.slice none 0 0] 25 (0,0)))∧(w.heap.size≤s_)∧(w0.heap.size≤s_)∧(g≠s_)∧(s_≠g)∧(Bg≠s_)∧(s_≠Bg)∧(Bd≠s_)∧(s_≠Bd)∧(IsS51 w0 w' g s0_0 t187)∧(KeepBut w w' g none)∧(Below w0.heap.size w0 w')) ?_ ?_
         rotate_left
         ·intro hJ2_4_15
          refine join_ (σ:=Unit) 10 z12q13 (fun s_=>[(29,.int .i64 t184),(31,.int .i64 t186),(32,.int .i64 (wrap64 (1+t186)))]) (fun s_ w'=>(w'.cell? ⟨Bd,0,none⟩=some (.int .i64 ya)∧w'.cell? ⟨Bd,1,none⟩=some (.slice Ao26 yb.length co26))∧(Kd.R k35 35 w' w.heap.size (fun _=>True) (.slice Ao26 yb.length co26) yb)∧(w'.heap[Bg]?=some (.cells #[.int .i64 0,.slice none 0 0] 25 (0,0)))∧(w'.heap[Bd]?=some (.cells #[.int .i64 ya,.slice Ao26 yb.length co26] 25 (0,0)))∧(IsS51 w0 w' g s0_0 t187)∧(KeepBut w w' g none)∧(Below w0.heap.size w0 w')) ?_ ?_
          rotate_left
          ·intro hJ2_4
           refine join_ (σ:=Nat) 11 z12q14 (fun s_=>[(29,.int .i64 t184),(6,.pointer (some ⟨s_,0,none⟩))]) (fun s_ w'=>(w'.cell? ⟨Bd,0,none⟩=some (.int .i64 ya)∧w'.cell? ⟨Bd,1,none⟩=some (.slice Ao26 yb.length co26))∧(Kd.R k35 35 w' w.heap.size (fun _=>True) (.slice Ao26 yb.length co26) yb)∧(w'.heap[Bg]?=some (.cells #[.int .i64 0,.slice none 0 0] 25 (0,0)))∧(w'.heap[Bd]?=some (.cells #[.int .i64 ya,.slice Ao26 yb.length co26] 25 (0,0)))∧(w'.heap[s_]?=some (.cells #[.int .i64 0,.slice none 0 0] 25 (0,0)))∧(w.heap.size≤s_)∧(w0.heap.size≤s_)∧(g≠s_)∧(s_≠g)∧(Bg≠s_)∧(s_≠Bg)∧(Bd≠s_)∧(s_≠Bd)∧(IsS51 w0 w' g s0_0 t185)∧(KeepBut w w' g none)∧(Below w0.heap.size w0 w')) ?_ ?_
           rotate_left
           ·intro hJ2_15
            refine join_ (σ:=Unit) 12 z12q15 (fun s_=>[(29,.int .i64 t184)]) (fun s_ w'=>(w'.cell? ⟨Bd,0,none⟩=some (.int .i64 ya)∧w'.cell? ⟨Bd,1,none⟩=some (.slice Ao26 yb.length co26))∧(Kd.R k35 35 w' w.heap.size (fun _=>True) (.slice Ao26 yb.length co26) yb)∧(w'.heap[Bg]?=some (.cells #[.int .i64 0,.slice none 0 0] 25 (0,0)))∧(w'.heap[Bd]?=some (.cells #[.int .i64 ya,.slice Ao26 yb.length co26] 25 (0,0)))∧(IsS51 w0 w' g s0_0 t185)∧(KeepBut w w' g none)∧(Below w0.heap.size w0 w')) ?_ ?_
            rotate_left
            ·intro hJ2
             refine join_ (σ:=Nat) 12 z12q16 (fun s_=>[(6,.pointer (some ⟨s_,0,none⟩))]) (fun s_ w'=>(w'.cell? ⟨Bd,0,none⟩=some (.int .i64 ya)∧w'.cell? ⟨Bd,1,none⟩=some (.slice Ao26 yb.length co26))∧(Kd.R k35 35 w' w.heap.size (fun _=>True) (.slice Ao26 yb.length co26) yb)∧(w'.heap[Bg]?=some (.cells #[.int .i64 0,.slice none 0 0] 25 (0,0)))∧(w'.heap[Bd]?=some (.cells #[.int .i64 ya,.slice Ao26 yb.length co26] 25 (0,0)))∧(w'.heap[s_]?=some (.cells #[.int .i64 0,.slice none 0 0] 25 (0,0)))∧(w.heap.size≤s_)∧(w0.heap.size≤s_)∧(g≠s_)∧(s_≠g)∧(Bg≠s_)∧(s_≠Bg)∧(Bd≠s_)∧(s_≠Bd)∧(IsS51 w0 w' g s0_0 yp)∧(KeepBut w w' g none)∧(Below w0.heap.size w0 w')) ?_ ?_
             rotate_left
             ·intro hJ15
              refine two_ (i:=2) (j:=15) (Ni:=some 29) (Nj:=some 6) z12q15 z12q16 rfl rfl rfl rfl (two_of HT_.out (by kernel_rfl)) (by decide) (by decide) (fun K hK=>?_) (fun K hK=>?_)
              ·skip
               refine goes_ Try.func13 (by kernel_rfl) rfl #[.pointer (some ⟨g,0,none⟩),.int .i64 12] (by rfl) rfl rfl (by (try simp only [lM,lC,lN]);first|done|rfl|(simp only [lD,lT];rfl)) ?_
               with_reducible refine (spec_l6Rd_pick.calls k1 g s0_0 yp 12 t184 t185 w0 _ ?side1 ?side2 A20.out).mono ?_
               (case side1=>repeat (first|(with_reducible first|exact HI0.out|apply qsA|apply qsN|apply qsD|apply qsS|refine qsF ?_ Be.out _|refine qsF ?_ Bf.out _)|exact HI0.out))
               (case side2=>repeat (first|(with_reducible first|exact HB.out|apply oA|apply pN|apply o1|refine bS ?_ (qsG HI0.out)|refine bS ?_ Bo.out|refine bS ?_ Bp.out)|exact HB.out))
               rintro e w28 ⟨rfl,hi,hb,hk⟩
               refine ⟨_,rfl,?_⟩
               have n0_:=Am (rM (Kd.R_keep (IsS51.apart (show IsS51 w0 _ g s0_0 yp from by repeat (first|(with_reducible first|exact HI0.out|apply qsA|apply qsN|apply qsD|apply qsS|refine qsF ?_ Be.out _|refine qsF ?_ Bf.out _)|exact HI0.out)) (rL Ba.out) (by decide)) hk (fun _ h=>h.2)) (fun _ h=>h.1))
               have n1_:=Am (qkB hk (g':=Bg) (o:=.cells #[.int .i64 0,.slice none 0 0] 25 (0,0)) (bL Bc.out) Bz.out (by simp))
               have n2_:=Am (qkB hk (g':=Bd) (o:=.cells #[.int .i64 ya,.slice Ao26 yb.length co26] 25 (0,0)) (bL Bb.out) Bw.out (by simp))
               have n3_:=Am (KeepBut.trans (by repeat (first|(with_reducible first|exact HK.out|apply qkS|apply qkN|apply qkD|apply qkA|refine qkF ?_ Bi.out _|refine qkF ?_ Bk.out _)|exact HK.out)) hk (.inl rfl))
               have n4_:=Am (hb)
               have n5_:=Am (hi)
               clear Ba
               clear Bc
               clear Bb
               clear HK
               clear HB
               clear HI0
               have Ba:=n0_
               have Bc:=n1_
               have Bb:=n2_
               have HK:=n3_
               have HB:=n4_
               have HI0:=n5_
               clear n0_ n1_ n2_ n3_ n4_ n5_
               (try clear hb)
               (try clear hb2)
               (try clear hk)
               (try clear hi)
               refine hK.out _ _ ⟨(bC Bb.out 0).trans rfl,(bC Bb.out 1).trans rfl⟩ (fun hHeld=>?_)
               clear hK K
               refine norm_ (by show Act.put _ (some 29) _=_;simp only [Act.put,lA,lZ,lS,iw,jw];rfl) ?_
               exact norm_ (by first|(simp only [putAll,Act.put,lA,lZ,lS];done)|(simp only [putAll,Act.put,lA,lZ,lS];rfl)) (hJ2 () _ ⟨hHeld,(rL Ba.out),(bL Bc.out),(bL Bb.out),(by repeat (first|(with_reducible first|exact HI0.out|apply qsA|apply qsN|apply qsD|apply qsS|refine qsF ?_ Be.out _|refine qsF ?_ Bf.out _)|exact HI0.out)),(by repeat (first|(with_reducible first|exact HK.out|apply qkS|apply qkN|apply qkD|apply qkA|refine qkF ?_ Bi.out _|refine qkF ?_ Bk.out _)|exact HK.out)),(by repeat (first|(with_reducible first|exact HB.out|apply oA|apply pN|apply o1|refine bS ?_ (qsG HI0.out)|refine bS ?_ Bo.out|refine bS ?_ Bp.out)|exact HB.out))⟩)
              ·skip
               refine box_step ?hg (N:=6) ?hd (cs:=#[.int .i64 0,.slice none 0 0]) (t:=25) ?hr ?_;(case hd=>rfl);(case hg=>rfl);(case hr=>first|(go_simp;done)|(go_simp;rfl))
               intro Bh hg w28 hbox hb
               have n0_:=Am (rB (rL Ba.out) hb)
               have n1_:=Am (bX Bc.out hb)
               have n2_:=Am (bX Bb.out hb)
               have n3_:=Am (IsS51.below (by repeat (first|(with_reducible first|exact HI0.out|apply qsA|apply qsN|apply qsD|apply qsS|refine qsF ?_ Be.out _|refine qsF ?_ Bf.out _)|exact HI0.out)) hb)
               have n4_:=Am (KeepBut.trans (by repeat (first|(with_reducible first|exact HK.out|apply qkS|apply qkN|apply qkD|apply qkA|refine qkF ?_ Bi.out _|refine qkF ?_ Bk.out _)|exact HK.out)) (KeepBut.of_below hb g none) (.inl rfl))
               have n5_:=Am (bP (by repeat (first|(with_reducible first|exact HB.out|apply oA|apply pN|apply o1|refine bS ?_ (qsG HI0.out)|refine bS ?_ Bo.out|refine bS ?_ Bp.out)|exact HB.out)) hb)
               have n6_:=Am (hbox)
               have n7_:=Am ((by rw [hg];exact (keep_size (w:=w) (g:=g) (row:=none) (by repeat (first|(with_reducible first|exact HK.out|apply qkS|apply qkN|apply qkD|apply qkA|refine qkF ?_ Bi.out _|refine qkF ?_ Bk.out _)|exact HK.out))):w.heap.size≤Bh))
               have n8_:=Am ((Nat.le_trans HW0.out (by rw [hg];exact (keep_size (w:=w) (g:=g) (row:=none) (by repeat (first|(with_reducible first|exact HK.out|apply qkS|apply qkN|apply qkD|apply qkA|refine qkF ?_ Bi.out _|refine qkF ?_ Bk.out _)|exact HK.out))):w.heap.size≤Bh):w0.heap.size≤Bh))
               have n9_:=Am ((nL Bc.out hg))
               have n10_:=Am ((nG Bc.out hg))
               have n11_:=Am ((nL Bb.out hg))
               have n12_:=Am ((nG Bb.out hg))
               have n13_:=Am ((by rw [hg];exact nI (IsS51.lt (show IsS51 w0 _ g s0_0 yp from by repeat (first|(with_reducible first|exact HI0.out|apply qsA|apply qsN|apply qsD|apply qsS|refine qsF ?_ Be.out _|refine qsF ?_ Bf.out _)|exact HI0.out))):g≠Bh))
               have n14_:=Am ((by rw [hg];exact nJ (IsS51.lt (show IsS51 w0 _ g s0_0 yp from by repeat (first|(with_reducible first|exact HI0.out|apply qsA|apply qsN|apply qsD|apply qsS|refine qsF ?_ Be.out _|refine qsF ?_ Bf.out _)|exact HI0.out))):Bh≠g))
               clear Ba
               clear Bc
               clear Bb
               clear HI0
               clear HK
               clear HB
               have Ba:=n0_
               have Bc:=n1_
               have Bb:=n2_
               have HI0:=n3_
               have HK:=n4_
               have HB:=n5_
               have Bl:=n6_
               have Bq:=n7_
               have Br:=n8_
               have Bu:=n9_
               have By:=n10_
               have Bs:=n11_
               have Bv:=n12_
               have Bm:=n13_
               have Bx:=n14_
               clear n0_ n1_ n2_ n3_ n4_ n5_ n6_ n7_ n8_ n9_ n10_ n11_ n12_ n13_ n14_
               clear hb hbox hg
               refine hK.out _ _ ⟨(bC Bb.out 0).trans rfl,(bC Bb.out 1).trans rfl⟩ (fun hHeld=>?_)
               clear hK K
               refine norm_ (by show Act.put _ (some 6) _=_;simp only [Act.put,lA,lZ,lS,iw,jw];rfl) ?_
               exact norm_ (by first|(simp only [putAll,Act.put,lA,lZ,lS];done)|(simp only [putAll,Act.put,lA,lZ,lS];rfl)) (hJ15 (Bh) _ ⟨hHeld,(rL Ba.out),(bL Bc.out),(bL Bb.out),(bL Bl.out),Bq.out,Br.out,Bm.out,Bx.out,Bu.out,By.out,Bs.out,Bv.out,(by repeat (first|(with_reducible first|exact HI0.out|apply qsA|apply qsN|apply qsD|apply qsS|refine qsF ?_ Be.out _|refine qsF ?_ Bf.out _|refine qsF ?_ Bm.out _)|exact HI0.out)),(by repeat (first|(with_reducible first|exact HK.out|apply qkS|apply qkN|apply qkD|apply qkA|refine qkF ?_ Bi.out _|refine qkF ?_ Bk.out _|refine qkF ?_ Bq.out _)|exact HK.out)),(by repeat (first|(with_reducible first|exact HB.out|apply oA|apply pN|apply o1|refine bS ?_ (qsG HI0.out)|refine bS ?_ Bo.out|refine bS ?_ Bp.out|refine bS ?_ Br.out)|exact HB.out))⟩)
             ·skip
              rintro Bh w29 ⟨hS_,h0_,h1_,h2_,h3_,h4_,h5_,h6_,h7_,h8_,h9_,h10_,h11_,h12_,h13_,h14_⟩
              have n0_:Aside0 (Kd.R k35 35 w29 w.heap.size (fun _=>True) (.slice Ao26 yb.length co26) yb):=⟨h0_⟩
              have n1_:Aside0 (w29.heap[Bg]?=some (.cells #[.int .i64 0,.slice none 0 0] 25 (0,0))):=⟨h1_⟩
              have n2_:Aside0 (w29.heap[Bd]?=some (.cells #[.int .i64 ya,.slice Ao26 yb.length co26] 25 (0,0))):=⟨h2_⟩
              have n3_:Aside0 (w29.heap[Bh]?=some (.cells #[.int .i64 0,.slice none 0 0] 25 (0,0))):=⟨h3_⟩
              have n4_:Aside0 (w.heap.size≤Bh):=⟨h4_⟩
              have n5_:Aside0 (w0.heap.size≤Bh):=⟨h5_⟩
              have n6_:Aside0 (g≠Bh):=⟨h6_⟩
              have n7_:Aside0 (Bh≠g):=⟨h7_⟩
              have n8_:Aside0 (Bg≠Bh):=⟨h8_⟩
              have n9_:Aside0 (Bh≠Bg):=⟨h9_⟩
              have n10_:Aside0 (Bd≠Bh):=⟨h10_⟩
              have n11_:Aside0 (Bh≠Bd):=⟨h11_⟩
              have n12_:Aside0 (IsS51 w0 w29 g s0_0 yp):=⟨h12_⟩
              have n13_:Aside0 (KeepBut w w29 g none):=⟨h13_⟩
              have n14_:Aside0 (Below w0.heap.size w0 w29):=⟨h14_⟩
              clear Ba
              clear Bc
              clear Bb
              clear HI0
              clear HK
              clear HB
              clear h0_ h1_ h2_ h3_ h4_ h5_ h6_ h7_ h8_ h9_ h10_ h11_ h12_ h13_ h14_
              have Ba:=n0_
              have Bc:=n1_
              have Bb:=n2_
              have Bl:=n3_
              have Bq:=n4_
              have Br:=n5_
              have Bm:=n6_
              have Bx:=n7_
              have Bu:=n8_
              have By:=n9_
              have Bs:=n10_
              have Bv:=n11_
              have HI0:=n12_
              have HK:=n13_
              have HB:=n14_
              clear n0_ n1_ n2_ n3_ n4_ n5_ n6_ n7_ n8_ n9_ n10_ n11_ n12_ n13_ n14_
              have hHeld:w29.cell? ⟨Bd,0,none⟩=some (.int .i64 ya)∧w29.cell? ⟨Bd,1,none⟩=some (.slice Ao26 yb.length co26):=hS_
              refine norm_ (by simp only [putAll,Act.put,lA,lZ,lS];rfl) ?_
              refine oS 2 29 z12q14 HT_ rfl rfl (by kernel_rfl) (by decide) (fun K hK=>?_)
              refine goes_ Try.func13 (by kernel_rfl) rfl #[.pointer (some ⟨g,0,none⟩),.int .i64 12] (by rfl) rfl rfl (by (try simp only [lM,lC,lN]);first|done|rfl|(simp only [lD,lT];rfl)) ?_
              with_reducible refine (spec_l6Rd_pick.calls k1 g s0_0 yp 12 t184 t185 w0 _ ?side1 ?side2 A20.out).mono ?_
              (case side1=>repeat (first|(with_reducible first|exact HI0.out|apply qsA|apply qsN|apply qsD|apply qsS|refine qsF ?_ Be.out _|refine qsF ?_ Bf.out _|refine qsF ?_ Bm.out _)|exact HI0.out))
              (case side2=>repeat (first|(with_reducible first|exact HB.out|apply oA|apply pN|apply o1|refine bS ?_ (qsG HI0.out)|refine bS ?_ Bo.out|refine bS ?_ Bp.out|refine bS ?_ Br.out)|exact HB.out))
              rintro e w30 ⟨rfl,hi,hb,hk⟩
              refine ⟨_,rfl,?_⟩
              have n0_:=Am (rM (Kd.R_keep (IsS51.apart (show IsS51 w0 _ g s0_0 yp from by repeat (first|(with_reducible first|exact HI0.out|apply qsA|apply qsN|apply qsD|apply qsS|refine qsF ?_ Be.out _|refine qsF ?_ Bf.out _|refine qsF ?_ Bm.out _)|exact HI0.out)) (rL Ba.out) (by decide)) hk (fun _ h=>h.2)) (fun _ h=>h.1))
              have n1_:=Am (qkB hk (g':=Bg) (o:=.cells #[.int .i64 0,.slice none 0 0] 25 (0,0)) (bL Bc.out) Bz.out (by simp))
              have n2_:=Am (qkB hk (g':=Bd) (o:=.cells #[.int .i64 ya,.slice Ao26 yb.length co26] 25 (0,0)) (bL Bb.out) Bw.out (by simp))
              have n3_:=Am (qkB hk (g':=Bh) (o:=.cells #[.int .i64 0,.slice none 0 0] 25 (0,0)) (bL Bl.out) Bx.out (by simp))
              have n4_:=Am (KeepBut.trans (by repeat (first|(with_reducible first|exact HK.out|apply qkS|apply qkN|apply qkD|apply qkA|refine qkF ?_ Bi.out _|refine qkF ?_ Bk.out _|refine qkF ?_ Bq.out _)|exact HK.out)) hk (.inl rfl))
              have n5_:=Am (hb)
              have n6_:=Am (hi)
              clear Ba
              clear Bc
              clear Bb
              clear Bl
              clear HK
              clear HB
              clear HI0
              have Ba:=n0_
              have Bc:=n1_
              have Bb:=n2_
              have Bl:=n3_
              have HK:=n4_
              have HB:=n5_
              have HI0:=n6_
              clear n0_ n1_ n2_ n3_ n4_ n5_ n6_
              (try clear hb)
              (try clear hb2)
              (try clear hk)
              (try clear hi)
              refine hK.out _ _ ⟨(bC Bb.out 0).trans rfl,(bC Bb.out 1).trans rfl⟩ (fun hHeld=>?_)
              clear hK K
              refine norm_ (by show Act.put _ (some 29) _=_;simp only [Act.put,lA,lZ,lS,iw,jw];rfl) ?_
              exact norm_ (by first|(simp only [putAll,Act.put,lA,lZ,lS];done)|(simp only [putAll,Act.put,lA,lZ,lS];rfl)) (hJ2_15 (Bh) _ ⟨hHeld,(rL Ba.out),(bL Bc.out),(bL Bb.out),(bL Bl.out),Bq.out,Br.out,Bm.out,Bx.out,Bu.out,By.out,Bs.out,Bv.out,(by repeat (first|(with_reducible first|exact HI0.out|apply qsA|apply qsN|apply qsD|apply qsS|refine qsF ?_ Be.out _|refine qsF ?_ Bf.out _|refine qsF ?_ Bm.out _)|exact HI0.out)),(by repeat (first|(with_reducible first|exact HK.out|apply qkS|apply qkN|apply qkD|apply qkA|refine qkF ?_ Bi.out _|refine qkF ?_ Bk.out _|refine qkF ?_ Bq.out _)|exact HK.out)),(by repeat (first|(with_reducible first|exact HB.out|apply oA|apply pN|apply o1|refine bS ?_ (qsG HI0.out)|refine bS ?_ Bo.out|refine bS ?_ Bp.out|refine bS ?_ Br.out)|exact HB.out))⟩)
            ·skip
             rintro _ w29 ⟨hS_,h0_,h1_,h2_,h3_,h4_,h5_⟩
             have n0_:Aside0 (Kd.R k35 35 w29 w.heap.size (fun _=>True) (.slice Ao26 yb.length co26) yb):=⟨h0_⟩
             have n1_:Aside0 (w29.heap[Bg]?=some (.cells #[.int .i64 0,.slice none 0 0] 25 (0,0))):=⟨h1_⟩
             have n2_:Aside0 (w29.heap[Bd]?=some (.cells #[.int .i64 ya,.slice Ao26 yb.length co26] 25 (0,0))):=⟨h2_⟩
             have n3_:Aside0 (IsS51 w0 w29 g s0_0 t185):=⟨h3_⟩
             have n4_:Aside0 (KeepBut w w29 g none):=⟨h4_⟩
             have n5_:Aside0 (Below w0.heap.size w0 w29):=⟨h5_⟩
             clear Ba
             clear Bc
             clear Bb
             clear HI0
             clear HK
             clear HB
             clear h0_ h1_ h2_ h3_ h4_ h5_
             have Ba:=n0_
             have Bc:=n1_
             have Bb:=n2_
             have HI0:=n3_
             have HK:=n4_
             have HB:=n5_
             clear n0_ n1_ n2_ n3_ n4_ n5_
             have hHeld:w29.cell? ⟨Bd,0,none⟩=some (.int .i64 ya)∧w29.cell? ⟨Bd,1,none⟩=some (.slice Ao26 yb.length co26):=hS_
             refine norm_ (by simp only [putAll,Act.put,lA,lZ,lS];rfl) ?_
             refine two_ (i:=4) (j:=15) (Ni:=some 31) (Nj:=some 6) z12q17 z12q14 rfl rfl rfl rfl (two_of HT_.out (by kernel_rfl)) (by decide) (by decide) (fun K hK=>?_) (fun K hK=>?_)
             ·skip
              refine goes_ Try.func13 (by kernel_rfl) rfl #[.pointer (some ⟨g,0,none⟩),.int .i64 60] (by rfl) rfl rfl (by (try simp only [lM,lC,lN]);first|done|rfl|(simp only [lD,lT];rfl)) ?_
              with_reducible refine (spec_l6Rd_pick.calls k1 g s0_0 t185 60 t186 t187 w0 _ ?side1 ?side2 A21.out).mono ?_
              (case side1=>repeat (first|(with_reducible first|exact HI0.out|apply qsA|apply qsN|apply qsD|apply qsS|refine qsF ?_ Be.out _|refine qsF ?_ Bf.out _)|exact HI0.out))
              (case side2=>repeat (first|(with_reducible first|exact HB.out|apply oA|apply pN|apply o1|refine bS ?_ (qsG HI0.out)|refine bS ?_ Bo.out|refine bS ?_ Bp.out)|exact HB.out))
              rintro e w30 ⟨rfl,hi,hb,hk⟩
              refine ⟨_,rfl,?_⟩
              have n0_:=Am (rM (Kd.R_keep (IsS51.apart (show IsS51 w0 _ g s0_0 t185 from by repeat (first|(with_reducible first|exact HI0.out|apply qsA|apply qsN|apply qsD|apply qsS|refine qsF ?_ Be.out _|refine qsF ?_ Bf.out _)|exact HI0.out)) (rL Ba.out) (by decide)) hk (fun _ h=>h.2)) (fun _ h=>h.1))
              have n1_:=Am (qkB hk (g':=Bg) (o:=.cells #[.int .i64 0,.slice none 0 0] 25 (0,0)) (bL Bc.out) Bz.out (by simp))
              have n2_:=Am (qkB hk (g':=Bd) (o:=.cells #[.int .i64 ya,.slice Ao26 yb.length co26] 25 (0,0)) (bL Bb.out) Bw.out (by simp))
              have n3_:=Am (KeepBut.trans (by repeat (first|(with_reducible first|exact HK.out|apply qkS|apply qkN|apply qkD|apply qkA|refine qkF ?_ Bi.out _|refine qkF ?_ Bk.out _)|exact HK.out)) hk (.inl rfl))
              have n4_:=Am (hb)
              have n5_:=Am (hi)
              clear Ba
              clear Bc
              clear Bb
              clear HK
              clear HB
              clear HI0
              have Ba:=n0_
              have Bc:=n1_
              have Bb:=n2_
              have HK:=n3_
              have HB:=n4_
              have HI0:=n5_
              clear n0_ n1_ n2_ n3_ n4_ n5_
              (try clear hb)
              (try clear hb2)
              (try clear hk)
              (try clear hi)
              refine hK.out _ _ ⟨(bC Bb.out 0).trans rfl,(bC Bb.out 1).trans rfl⟩ (fun hHeld=>?_)
              clear hK K
              refine norm_ (by show Act.put _ (some 31) _=_;simp only [Act.put,lA,lZ,lS,iw,jw];rfl) ?_
              refine pS 5 32 z12q13 HT_ rfl rfl (by kernel_rfl) (by rfl) (by intro w';go_simp;with_reducible rfl) (by simp only [Act.put,lA,lZ,lS,iw,jw];rfl) ?_
              exact norm_ (by first|(simp only [putAll,Act.put,lA,lZ,lS];done)|(simp only [putAll,Act.put,lA,lZ,lS];rfl)) (hJ2_4 () _ ⟨hHeld,(rL Ba.out),(bL Bc.out),(bL Bb.out),(by repeat (first|(with_reducible first|exact HI0.out|apply qsA|apply qsN|apply qsD|apply qsS|refine qsF ?_ Be.out _|refine qsF ?_ Bf.out _)|exact HI0.out)),(by repeat (first|(with_reducible first|exact HK.out|apply qkS|apply qkN|apply qkD|apply qkA|refine qkF ?_ Bi.out _|refine qkF ?_ Bk.out _)|exact HK.out)),(by repeat (first|(with_reducible first|exact HB.out|apply oA|apply pN|apply o1|refine bS ?_ (qsG HI0.out)|refine bS ?_ Bo.out|refine bS ?_ Bp.out)|exact HB.out))⟩)
             ·skip
              refine box_step ?hg (N:=6) ?hd (cs:=#[.int .i64 0,.slice none 0 0]) (t:=25) ?hr ?_;(case hd=>rfl);(case hg=>rfl);(case hr=>first|(go_simp;done)|(go_simp;rfl))
              intro Bh hg w30 hbox hb
              have n0_:=Am (rB (rL Ba.out) hb)
              have n1_:=Am (bX Bc.out hb)
              have n2_:=Am (bX Bb.out hb)
              have n3_:=Am (IsS51.below (by repeat (first|(with_reducible first|exact HI0.out|apply qsA|apply qsN|apply qsD|apply qsS|refine qsF ?_ Be.out _|refine qsF ?_ Bf.out _)|exact HI0.out)) hb)
              have n4_:=Am (KeepBut.trans (by repeat (first|(with_reducible first|exact HK.out|apply qkS|apply qkN|apply qkD|apply qkA|refine qkF ?_ Bi.out _|refine qkF ?_ Bk.out _)|exact HK.out)) (KeepBut.of_below hb g none) (.inl rfl))
              have n5_:=Am (bP (by repeat (first|(with_reducible first|exact HB.out|apply oA|apply pN|apply o1|refine bS ?_ (qsG HI0.out)|refine bS ?_ Bo.out|refine bS ?_ Bp.out)|exact HB.out)) hb)
              have n6_:=Am (hbox)
              have n7_:=Am ((by rw [hg];exact (keep_size (w:=w) (g:=g) (row:=none) (by repeat (first|(with_reducible first|exact HK.out|apply qkS|apply qkN|apply qkD|apply qkA|refine qkF ?_ Bi.out _|refine qkF ?_ Bk.out _)|exact HK.out))):w.heap.size≤Bh))
              have n8_:=Am ((Nat.le_trans HW0.out (by rw [hg];exact (keep_size (w:=w) (g:=g) (row:=none) (by repeat (first|(with_reducible first|exact HK.out|apply qkS|apply qkN|apply qkD|apply qkA|refine qkF ?_ Bi.out _|refine qkF ?_ Bk.out _)|exact HK.out))):w.heap.size≤Bh):w0.heap.size≤Bh))
              have n9_:=Am ((nL Bc.out hg))
              have n10_:=Am ((nG Bc.out hg))
              have n11_:=Am ((nL Bb.out hg))
              have n12_:=Am ((nG Bb.out hg))
              have n13_:=Am ((by rw [hg];exact nI (IsS51.lt (show IsS51 w0 _ g s0_0 t185 from by repeat (first|(with_reducible first|exact HI0.out|apply qsA|apply qsN|apply qsD|apply qsS|refine qsF ?_ Be.out _|refine qsF ?_ Bf.out _)|exact HI0.out))):g≠Bh))
              have n14_:=Am ((by rw [hg];exact nJ (IsS51.lt (show IsS51 w0 _ g s0_0 t185 from by repeat (first|(with_reducible first|exact HI0.out|apply qsA|apply qsN|apply qsD|apply qsS|refine qsF ?_ Be.out _|refine qsF ?_ Bf.out _)|exact HI0.out))):Bh≠g))
              clear Ba
              clear Bc
              clear Bb
              clear HI0
              clear HK
              clear HB
              have Ba:=n0_
              have Bc:=n1_
              have Bb:=n2_
              have HI0:=n3_
              have HK:=n4_
              have HB:=n5_
              have Bl:=n6_
              have Bq:=n7_
              have Br:=n8_
              have Bu:=n9_
              have By:=n10_
              have Bs:=n11_
              have Bv:=n12_
              have Bm:=n13_
              have Bx:=n14_
              clear n0_ n1_ n2_ n3_ n4_ n5_ n6_ n7_ n8_ n9_ n10_ n11_ n12_ n13_ n14_
              clear hb hbox hg
              refine hK.out _ _ ⟨(bC Bb.out 0).trans rfl,(bC Bb.out 1).trans rfl⟩ (fun hHeld=>?_)
              clear hK K
              refine norm_ (by show Act.put _ (some 6) _=_;simp only [Act.put,lA,lZ,lS,iw,jw];rfl) ?_
              exact norm_ (by first|(simp only [putAll,Act.put,lA,lZ,lS];done)|(simp only [putAll,Act.put,lA,lZ,lS];rfl)) (hJ2_15 (Bh) _ ⟨hHeld,(rL Ba.out),(bL Bc.out),(bL Bb.out),(bL Bl.out),Bq.out,Br.out,Bm.out,Bx.out,Bu.out,By.out,Bs.out,Bv.out,(by repeat (first|(with_reducible first|exact HI0.out|apply qsA|apply qsN|apply qsD|apply qsS|refine qsF ?_ Be.out _|refine qsF ?_ Bf.out _|refine qsF ?_ Bm.out _)|exact HI0.out)),(by repeat (first|(with_reducible first|exact HK.out|apply qkS|apply qkN|apply qkD|apply qkA|refine qkF ?_ Bi.out _|refine qkF ?_ Bk.out _|refine qkF ?_ Bq.out _)|exact HK.out)),(by repeat (first|(with_reducible first|exact HB.out|apply oA|apply pN|apply o1|refine bS ?_ (qsG HI0.out)|refine bS ?_ Bo.out|refine bS ?_ Bp.out|refine bS ?_ Br.out)|exact HB.out))⟩)
           ·skip
            rintro Bh w30 ⟨hS_,h0_,h1_,h2_,h3_,h4_,h5_,h6_,h7_,h8_,h9_,h10_,h11_,h12_,h13_,h14_⟩
            have n0_:Aside0 (Kd.R k35 35 w30 w.heap.size (fun _=>True) (.slice Ao26 yb.length co26) yb):=⟨h0_⟩
            have n1_:Aside0 (w30.heap[Bg]?=some (.cells #[.int .i64 0,.slice none 0 0] 25 (0,0))):=⟨h1_⟩
            have n2_:Aside0 (w30.heap[Bd]?=some (.cells #[.int .i64 ya,.slice Ao26 yb.length co26] 25 (0,0))):=⟨h2_⟩
            have n3_:Aside0 (w30.heap[Bh]?=some (.cells #[.int .i64 0,.slice none 0 0] 25 (0,0))):=⟨h3_⟩
            have n4_:Aside0 (w.heap.size≤Bh):=⟨h4_⟩
            have n5_:Aside0 (w0.heap.size≤Bh):=⟨h5_⟩
            have n6_:Aside0 (g≠Bh):=⟨h6_⟩
            have n7_:Aside0 (Bh≠g):=⟨h7_⟩
            have n8_:Aside0 (Bg≠Bh):=⟨h8_⟩
            have n9_:Aside0 (Bh≠Bg):=⟨h9_⟩
            have n10_:Aside0 (Bd≠Bh):=⟨h10_⟩
            have n11_:Aside0 (Bh≠Bd):=⟨h11_⟩
            have n12_:Aside0 (IsS51 w0 w30 g s0_0 t185):=⟨h12_⟩
            have n13_:Aside0 (KeepBut w w30 g none):=⟨h13_⟩
            have n14_:Aside0 (Below w0.heap.size w0 w30):=⟨h14_⟩
            clear Ba
            clear Bc
            clear Bb
            clear HI0
            clear HK
            clear HB
            clear h0_ h1_ h2_ h3_ h4_ h5_ h6_ h7_ h8_ h9_ h10_ h11_ h12_ h13_ h14_
            have Ba:=n0_
            have Bc:=n1_
            have Bb:=n2_
            have Bl:=n3_
            have Bq:=n4_
            have Br:=n5_
            have Bm:=n6_
            have Bx:=n7_
            have Bu:=n8_
            have By:=n9_
            have Bs:=n10_
            have Bv:=n11_
            have HI0:=n12_
            have HK:=n13_
            have HB:=n14_
            clear n0_ n1_ n2_ n3_ n4_ n5_ n6_ n7_ n8_ n9_ n10_ n11_ n12_ n13_ n14_
            have hHeld:w30.cell? ⟨Bd,0,none⟩=some (.int .i64 ya)∧w30.cell? ⟨Bd,1,none⟩=some (.slice Ao26 yb.length co26):=hS_
            refine norm_ (by simp only [putAll,Act.put,lA,lZ,lS];rfl) ?_
            refine oS 4 31 z12q18 HT_ rfl rfl (by kernel_rfl) (by decide) (fun K hK=>?_)
            refine goes_ Try.func13 (by kernel_rfl) rfl #[.pointer (some ⟨g,0,none⟩),.int .i64 60] (by rfl) rfl rfl (by (try simp only [lM,lC,lN]);first|done|rfl|(simp only [lD,lT];rfl)) ?_
            with_reducible refine (spec_l6Rd_pick.calls k1 g s0_0 t185 60 t186 t187 w0 _ ?side1 ?side2 A21.out).mono ?_
            (case side1=>repeat (first|(with_reducible first|exact HI0.out|apply qsA|apply qsN|apply qsD|apply qsS|refine qsF ?_ Be.out _|refine qsF ?_ Bf.out _|refine qsF ?_ Bm.out _)|exact HI0.out))
            (case side2=>repeat (first|(with_reducible first|exact HB.out|apply oA|apply pN|apply o1|refine bS ?_ (qsG HI0.out)|refine bS ?_ Bo.out|refine bS ?_ Bp.out|refine bS ?_ Br.out)|exact HB.out))
            rintro e w31 ⟨rfl,hi,hb,hk⟩
            refine ⟨_,rfl,?_⟩
            have n0_:=Am (rM (Kd.R_keep (IsS51.apart (show IsS51 w0 _ g s0_0 t185 from by repeat (first|(with_reducible first|exact HI0.out|apply qsA|apply qsN|apply qsD|apply qsS|refine qsF ?_ Be.out _|refine qsF ?_ Bf.out _|refine qsF ?_ Bm.out _)|exact HI0.out)) (rL Ba.out) (by decide)) hk (fun _ h=>h.2)) (fun _ h=>h.1))
            have n1_:=Am (qkB hk (g':=Bg) (o:=.cells #[.int .i64 0,.slice none 0 0] 25 (0,0)) (bL Bc.out) Bz.out (by simp))
            have n2_:=Am (qkB hk (g':=Bd) (o:=.cells #[.int .i64 ya,.slice Ao26 yb.length co26] 25 (0,0)) (bL Bb.out) Bw.out (by simp))
            have n3_:=Am (qkB hk (g':=Bh) (o:=.cells #[.int .i64 0,.slice none 0 0] 25 (0,0)) (bL Bl.out) Bx.out (by simp))
            have n4_:=Am (KeepBut.trans (by repeat (first|(with_reducible first|exact HK.out|apply qkS|apply qkN|apply qkD|apply qkA|refine qkF ?_ Bi.out _|refine qkF ?_ Bk.out _|refine qkF ?_ Bq.out _)|exact HK.out)) hk (.inl rfl))
            have n5_:=Am (hb)
            have n6_:=Am (hi)
            clear Ba
            clear Bc
            clear Bb
            clear Bl
            clear HK
            clear HB
            clear HI0
            have Ba:=n0_
            have Bc:=n1_
            have Bb:=n2_
            have Bl:=n3_
            have HK:=n4_
            have HB:=n5_
            have HI0:=n6_
            clear n0_ n1_ n2_ n3_ n4_ n5_ n6_
            (try clear hb)
            (try clear hb2)
            (try clear hk)
            (try clear hi)
            refine hK.out _ _ ⟨(bC Bb.out 0).trans rfl,(bC Bb.out 1).trans rfl⟩ (fun hHeld=>?_)
            clear hK K
            refine norm_ (by show Act.put _ (some 31) _=_;simp only [Act.put,lA,lZ,lS,iw,jw];rfl) ?_
            refine pS 5 32 z12q12 HT_ rfl rfl (by kernel_rfl) (by rfl) (by intro w';go_simp;with_reducible rfl) (by simp only [Act.put,lA,lZ,lS,iw,jw];rfl) ?_
            exact norm_ (by first|(simp only [putAll,Act.put,lA,lZ,lS];done)|(simp only [putAll,Act.put,lA,lZ,lS];rfl)) (hJ2_4_15 (Bh) _ ⟨hHeld,(rL Ba.out),(bL Bc.out),(bL Bb.out),(bL Bl.out),Bq.out,Br.out,Bm.out,Bx.out,Bu.out,By.out,Bs.out,Bv.out,(by repeat (first|(with_reducible first|exact HI0.out|apply qsA|apply qsN|apply qsD|apply qsS|refine qsF ?_ Be.out _|refine qsF ?_ Bf.out _|refine qsF ?_ Bm.out _)|exact HI0.out)),(by repeat (first|(with_reducible first|exact HK.out|apply qkS|apply qkN|apply qkD|apply qkA|refine qkF ?_ Bi.out _|refine qkF ?_ Bk.out _|refine qkF ?_ Bq.out _)|exact HK.out)),(by repeat (first|(with_reducible first|exact HB.out|apply oA|apply pN|apply o1|refine bS ?_ (qsG HI0.out)|refine bS ?_ Bo.out|refine bS ?_ Bp.out|refine bS ?_ Br.out)|exact HB.out))⟩)
          ·skip
           rintro _ w30 ⟨hS_,h0_,h1_,h2_,h3_,h4_,h5_⟩
           have n0_:Aside0 (Kd.R k35 35 w30 w.heap.size (fun _=>True) (.slice Ao26 yb.length co26) yb):=⟨h0_⟩
           have n1_:Aside0 (w30.heap[Bg]?=some (.cells #[.int .i64 0,.slice none 0 0] 25 (0,0))):=⟨h1_⟩
           have n2_:Aside0 (w30.heap[Bd]?=some (.cells #[.int .i64 ya,.slice Ao26 yb.length co26] 25 (0,0))):=⟨h2_⟩
           have n3_:Aside0 (IsS51 w0 w30 g s0_0 t187):=⟨h3_⟩
           have n4_:Aside0 (KeepBut w w30 g none):=⟨h4_⟩
           have n5_:Aside0 (Below w0.heap.size w0 w30):=⟨h5_⟩
           clear Ba
           clear Bc
           clear Bb
           clear HI0
           clear HK
           clear HB
           clear h0_ h1_ h2_ h3_ h4_ h5_
           have Ba:=n0_
           have Bc:=n1_
           have Bb:=n2_
           have HI0:=n3_
           have HK:=n4_
           have HB:=n5_
           clear n0_ n1_ n2_ n3_ n4_ n5_
           have hHeld:w30.cell? ⟨Bd,0,none⟩=some (.int .i64 ya)∧w30.cell? ⟨Bd,1,none⟩=some (.slice Ao26 yb.length co26):=hS_
           refine norm_ (by simp only [putAll,Act.put,lA,lZ,lS];rfl) ?_
           refine two_ (i:=7) (j:=15) (Ni:=some 34) (Nj:=some 6) z12q11 z12q12 rfl rfl rfl rfl (two_of HT_.out (by kernel_rfl)) (by decide) (by decide) (fun K hK=>?_) (fun K hK=>?_)
           ·skip
            refine goes_ Try.func13 (by kernel_rfl) rfl #[.pointer (some ⟨g,0,none⟩),.int .i64 3] (by rfl) rfl rfl (by (try simp only [lM,lC,lN]);first|done|rfl|(simp only [lD,lT];rfl)) ?_
            with_reducible refine (spec_l6Rd_pick.calls k1 g s0_0 t187 3 t188 t189 w0 _ ?side1 ?side2 A22.out).mono ?_
            (case side1=>repeat (first|(with_reducible first|exact HI0.out|apply qsA|apply qsN|apply qsD|apply qsS|refine qsF ?_ Be.out _|refine qsF ?_ Bf.out _)|exact HI0.out))
            (case side2=>repeat (first|(with_reducible first|exact HB.out|apply oA|apply pN|apply o1|refine bS ?_ (qsG HI0.out)|refine bS ?_ Bo.out|refine bS ?_ Bp.out)|exact HB.out))
            rintro e w31 ⟨rfl,hi,hb,hk⟩
            refine ⟨_,rfl,?_⟩
            have n0_:=Am (rM (Kd.R_keep (IsS51.apart (show IsS51 w0 _ g s0_0 t187 from by repeat (first|(with_reducible first|exact HI0.out|apply qsA|apply qsN|apply qsD|apply qsS|refine qsF ?_ Be.out _|refine qsF ?_ Bf.out _)|exact HI0.out)) (rL Ba.out) (by decide)) hk (fun _ h=>h.2)) (fun _ h=>h.1))
            have n1_:=Am (qkB hk (g':=Bg) (o:=.cells #[.int .i64 0,.slice none 0 0] 25 (0,0)) (bL Bc.out) Bz.out (by simp))
            have n2_:=Am (qkB hk (g':=Bd) (o:=.cells #[.int .i64 ya,.slice Ao26 yb.length co26] 25 (0,0)) (bL Bb.out) Bw.out (by simp))
            have n3_:=Am (KeepBut.trans (by repeat (first|(with_reducible first|exact HK.out|apply qkS|apply qkN|apply qkD|apply qkA|refine qkF ?_ Bi.out _|refine qkF ?_ Bk.out _)|exact HK.out)) hk (.inl rfl))
            have n4_:=Am (hb)
            have n5_:=Am (hi)
            clear Ba
            clear Bc
            clear Bb
            clear HK
            clear HB
            clear HI0
            have Ba:=n0_
            have Bc:=n1_
            have Bb:=n2_
            have HK:=n3_
            have HB:=n4_
            have HI0:=n5_
            clear n0_ n1_ n2_ n3_ n4_ n5_
            (try clear hb)
            (try clear hb2)
            (try clear hk)
            (try clear hi)
            refine hK.out _ _ ⟨(bC Bb.out 0).trans rfl,(bC Bb.out 1).trans rfl⟩ (fun hHeld=>?_)
            clear hK K
            refine norm_ (by show Act.put _ (some 34) _=_;simp only [Act.put,lA,lZ,lS,iw,jw];rfl) ?_
            exact norm_ (by first|(simp only [putAll,Act.put,lA,lZ,lS];done)|(simp only [putAll,Act.put,lA,lZ,lS];rfl)) (hJ2_4_7 () _ ⟨hHeld,(rL Ba.out),(bL Bc.out),(bL Bb.out),(by repeat (first|(with_reducible first|exact HI0.out|apply qsA|apply qsN|apply qsD|apply qsS|refine qsF ?_ Be.out _|refine qsF ?_ Bf.out _)|exact HI0.out)),(by repeat (first|(with_reducible first|exact HK.out|apply qkS|apply qkN|apply qkD|apply qkA|refine qkF ?_ Bi.out _|refine qkF ?_ Bk.out _)|exact HK.out)),(by repeat (first|(with_reducible first|exact HB.out|apply oA|apply pN|apply o1|refine bS ?_ (qsG HI0.out)|refine bS ?_ Bo.out|refine bS ?_ Bp.out)|exact HB.out))⟩)
           ·skip
            refine box_step ?hg (N:=6) ?hd (cs:=#[.int .i64 0,.slice none 0 0]) (t:=25) ?hr ?_;(case hd=>rfl);(case hg=>rfl);(case hr=>first|(go_simp;done)|(go_simp;rfl))
            intro Bh hg w31 hbox hb
            have n0_:=Am (rB (rL Ba.out) hb)
            have n1_:=Am (bX Bc.out hb)
            have n2_:=Am (bX Bb.out hb)
            have n3_:=Am (IsS51.below (by repeat (first|(with_reducible first|exact HI0.out|apply qsA|apply qsN|apply qsD|apply qsS|refine qsF ?_ Be.out _|refine qsF ?_ Bf.out _)|exact HI0.out)) hb)
            have n4_:=Am (KeepBut.trans (by repeat (first|(with_reducible first|exact HK.out|apply qkS|apply qkN|apply qkD|apply qkA|refine qkF ?_ Bi.out _|refine qkF ?_ Bk.out _)|exact HK.out)) (KeepBut.of_below hb g none) (.inl rfl))
            have n5_:=Am (bP (by repeat (first|(with_reducible first|exact HB.out|apply oA|apply pN|apply o1|refine bS ?_ (qsG HI0.out)|refine bS ?_ Bo.out|refine bS ?_ Bp.out)|exact HB.out)) hb)
            have n6_:=Am (hbox)
            have n7_:=Am ((by rw [hg];exact (keep_size (w:=w) (g:=g) (row:=none) (by repeat (first|(with_reducible first|exact HK.out|apply qkS|apply qkN|apply qkD|apply qkA|refine qkF ?_ Bi.out _|refine qkF ?_ Bk.out _)|exact HK.out))):w.heap.size≤Bh))
            have n8_:=Am ((Nat.le_trans HW0.out (by rw [hg];exact (keep_size (w:=w) (g:=g) (row:=none) (by repeat (first|(with_reducible first|exact HK.out|apply qkS|apply qkN|apply qkD|apply qkA|refine qkF ?_ Bi.out _|refine qkF ?_ Bk.out _)|exact HK.out))):w.heap.size≤Bh):w0.heap.size≤Bh))
            have n9_:=Am ((nL Bc.out hg))
            have n10_:=Am ((nG Bc.out hg))
            have n11_:=Am ((nL Bb.out hg))
            have n12_:=Am ((nG Bb.out hg))
            have n13_:=Am ((by rw [hg];exact nI (IsS51.lt (show IsS51 w0 _ g s0_0 t187 from by repeat (first|(with_reducible first|exact HI0.out|apply qsA|apply qsN|apply qsD|apply qsS|refine qsF ?_ Be.out _|refine qsF ?_ Bf.out _)|exact HI0.out))):g≠Bh))
            have n14_:=Am ((by rw [hg];exact nJ (IsS51.lt (show IsS51 w0 _ g s0_0 t187 from by repeat (first|(with_reducible first|exact HI0.out|apply qsA|apply qsN|apply qsD|apply qsS|refine qsF ?_ Be.out _|refine qsF ?_ Bf.out _)|exact HI0.out))):Bh≠g))
            clear Ba
            clear Bc
            clear Bb
            clear HI0
            clear HK
            clear HB
            have Ba:=n0_
            have Bc:=n1_
            have Bb:=n2_
            have HI0:=n3_
            have HK:=n4_
            have HB:=n5_
            have Bl:=n6_
            have Bq:=n7_
            have Br:=n8_
            have Bu:=n9_
            have By:=n10_
            have Bs:=n11_
            have Bv:=n12_
            have Bm:=n13_
            have Bx:=n14_
            clear n0_ n1_ n2_ n3_ n4_ n5_ n6_ n7_ n8_ n9_ n10_ n11_ n12_ n13_ n14_
            clear hb hbox hg
            refine hK.out _ _ ⟨(bC Bb.out 0).trans rfl,(bC Bb.out 1).trans rfl⟩ (fun hHeld=>?_)
            clear hK K
            refine norm_ (by show Act.put _ (some 6) _=_;simp only [Act.put,lA,lZ,lS,iw,jw];rfl) ?_
            exact norm_ (by first|(simp only [putAll,Act.put,lA,lZ,lS];done)|(simp only [putAll,Act.put,lA,lZ,lS];rfl)) (hJ2_4_15 (Bh) _ ⟨hHeld,(rL Ba.out),(bL Bc.out),(bL Bb.out),(bL Bl.out),Bq.out,Br.out,Bm.out,Bx.out,Bu.out,By.out,Bs.out,Bv.out,(by repeat (first|(with_reducible first|exact HI0.out|apply qsA|apply qsN|apply qsD|apply qsS|refine qsF ?_ Be.out _|refine qsF ?_ Bf.out _|refine qsF ?_ Bm.out _)|exact HI0.out)),(by repeat (first|(with_reducible first|exact HK.out|apply qkS|apply qkN|apply qkD|apply qkA|refine qkF ?_ Bi.out _|refine qkF ?_ Bk.out _|refine qkF ?_ Bq.out _)|exact HK.out)),(by repeat (first|(with_reducible first|exact HB.out|apply oA|apply pN|apply o1|refine bS ?_ (qsG HI0.out)|refine bS ?_ Bo.out|refine bS ?_ Bp.out|refine bS ?_ Br.out)|exact HB.out))⟩)
         ·skip
          rintro Bh w31 ⟨hS_,h0_,h1_,h2_,h3_,h4_,h5_,h6_,h7_,h8_,h9_,h10_,h11_,h12_,h13_,h14_⟩
          have n0_:Aside0 (Kd.R k35 35 w31 w.heap.size (fun _=>True) (.slice Ao26 yb.length co26) yb):=⟨h0_⟩
          have n1_:Aside0 (w31.heap[Bg]?=some (.cells #[.int .i64 0,.slice none 0 0] 25 (0,0))):=⟨h1_⟩
          have n2_:Aside0 (w31.heap[Bd]?=some (.cells #[.int .i64 ya,.slice Ao26 yb.length co26] 25 (0,0))):=⟨h2_⟩
          have n3_:Aside0 (w31.heap[Bh]?=some (.cells #[.int .i64 0,.slice none 0 0] 25 (0,0))):=⟨h3_⟩
          have n4_:Aside0 (w.heap.size≤Bh):=⟨h4_⟩
          have n5_:Aside0 (w0.heap.size≤Bh):=⟨h5_⟩
          have n6_:Aside0 (g≠Bh):=⟨h6_⟩
          have n7_:Aside0 (Bh≠g):=⟨h7_⟩
          have n8_:Aside0 (Bg≠Bh):=⟨h8_⟩
          have n9_:Aside0 (Bh≠Bg):=⟨h9_⟩
          have n10_:Aside0 (Bd≠Bh):=⟨h10_⟩
          have n11_:Aside0 (Bh≠Bd):=⟨h11_⟩
          have n12_:Aside0 (IsS51 w0 w31 g s0_0 t187):=⟨h12_⟩
          have n13_:Aside0 (KeepBut w w31 g none):=⟨h13_⟩
          have n14_:Aside0 (Below w0.heap.size w0 w31):=⟨h14_⟩
          clear Ba
          clear Bc
          clear Bb
          clear HI0
          clear HK
          clear HB
          clear h0_ h1_ h2_ h3_ h4_ h5_ h6_ h7_ h8_ h9_ h10_ h11_ h12_ h13_ h14_
          have Ba:=n0_
          have Bc:=n1_
          have Bb:=n2_
          have Bl:=n3_
          have Bq:=n4_
          have Br:=n5_
          have Bm:=n6_
          have Bx:=n7_
          have Bu:=n8_
          have By:=n9_
          have Bs:=n10_
          have Bv:=n11_
          have HI0:=n12_
          have HK:=n13_
          have HB:=n14_
          clear n0_ n1_ n2_ n3_ n4_ n5_ n6_ n7_ n8_ n9_ n10_ n11_ n12_ n13_ n14_
          have hHeld:w31.cell? ⟨Bd,0,none⟩=some (.int .i64 ya)∧w31.cell? ⟨Bd,1,none⟩=some (.slice Ao26 yb.length co26):=hS_
          refine norm_ (by simp only [putAll,Act.put,lA,lZ,lS];rfl) ?_
          refine oS 7 34 z12q10 HT_ rfl rfl (by kernel_rfl) (by decide) (fun K hK=>?_)
          refine goes_ Try.func13 (by kernel_rfl) rfl #[.pointer (some ⟨g,0,none⟩),.int .i64 3] (by rfl) rfl rfl (by (try simp only [lM,lC,lN]);first|done|rfl|(simp only [lD,lT];rfl)) ?_
          with_reducible refine (spec_l6Rd_pick.calls k1 g s0_0 t187 3 t188 t189 w0 _ ?side1 ?side2 A22.out).mono ?_
          (case side1=>repeat (first|(with_reducible first|exact HI0.out|apply qsA|apply qsN|apply qsD|apply qsS|refine qsF ?_ Be.out _|refine qsF ?_ Bf.out _|refine qsF ?_ Bm.out _)|exact HI0.out))
          (case side2=>repeat (first|(with_reducible first|exact HB.out|apply oA|apply pN|apply o1|refine bS ?_ (qsG HI0.out)|refine bS ?_ Bo.out|refine bS ?_ Bp.out|refine bS ?_ Br.out)|exact HB.out))
          rintro e w32 ⟨rfl,hi,hb,hk⟩
          refine ⟨_,rfl,?_⟩
          have n0_:=Am (rM (Kd.R_keep (IsS51.apart (show IsS51 w0 _ g s0_0 t187 from by repeat (first|(with_reducible first|exact HI0.out|apply qsA|apply qsN|apply qsD|apply qsS|refine qsF ?_ Be.out _|refine qsF ?_ Bf.out _|refine qsF ?_ Bm.out _)|exact HI0.out)) (rL Ba.out) (by decide)) hk (fun _ h=>h.2)) (fun _ h=>h.1))
          have n1_:=Am (qkB hk (g':=Bg) (o:=.cells #[.int .i64 0,.slice none 0 0] 25 (0,0)) (bL Bc.out) Bz.out (by simp))
          have n2_:=Am (qkB hk (g':=Bd) (o:=.cells #[.int .i64 ya,.slice Ao26 yb.length co26] 25 (0,0)) (bL Bb.out) Bw.out (by simp))
          have n3_:=Am (qkB hk (g':=Bh) (o:=.cells #[.int .i64 0,.slice none 0 0] 25 (0,0)) (bL Bl.out) Bx.out (by simp))
          have n4_:=Am (KeepBut.trans (by repeat (first|(with_reducible first|exact HK.out|apply qkS|apply qkN|apply qkD|apply qkA|refine qkF ?_ Bi.out _|refine qkF ?_ Bk.out _|refine qkF ?_ Bq.out _)|exact HK.out)) hk (.inl rfl))
          have n5_:=Am (hb)
          have n6_:=Am (hi)
          clear Ba
          clear Bc
          clear Bb
          clear Bl
          clear HK
          clear HB
          clear HI0
          have Ba:=n0_
          have Bc:=n1_
          have Bb:=n2_
          have Bl:=n3_
          have HK:=n4_
          have HB:=n5_
          have HI0:=n6_
          clear n0_ n1_ n2_ n3_ n4_ n5_ n6_
          (try clear hb)
          (try clear hb2)
          (try clear hk)
          (try clear hi)
          refine hK.out _ _ ⟨(bC Bb.out 0).trans rfl,(bC Bb.out 1).trans rfl⟩ (fun hHeld=>?_)
          clear hK K
          refine norm_ (by show Act.put _ (some 34) _=_;simp only [Act.put,lA,lZ,lS,iw,jw];rfl) ?_
          exact norm_ (by first|(simp only [putAll,Act.put,lA,lZ,lS];done)|(simp only [putAll,Act.put,lA,lZ,lS];rfl)) (hJ2_4_7_15 (Bh) _ ⟨hHeld,(rL Ba.out),(bL Bc.out),(bL Bb.out),(bL Bl.out),Bq.out,Br.out,Bm.out,Bx.out,Bu.out,By.out,Bs.out,Bv.out,(by repeat (first|(with_reducible first|exact HI0.out|apply qsA|apply qsN|apply qsD|apply qsS|refine qsF ?_ Be.out _|refine qsF ?_ Bf.out _|refine qsF ?_ Bm.out _)|exact HI0.out)),(by repeat (first|(with_reducible first|exact HK.out|apply qkS|apply qkN|apply qkD|apply qkA|refine qkF ?_ Bi.out _|refine qkF ?_ Bk.out _|refine qkF ?_ Bq.out _)|exact HK.out)),(by repeat (first|(with_reducible first|exact HB.out|apply oA|apply pN|apply o1|refine bS ?_ (qsG HI0.out)|refine bS ?_ Bo.out|refine bS ?_ Bp.out|refine bS ?_ Br.out)|exact HB.out))⟩)
        ·skip
         rintro _ w31 ⟨hS_,h0_,h1_,h2_,h3_,h4_,h5_⟩
         have n0_:Aside0 (Kd.R k35 35 w31 w.heap.size (fun _=>True) (.slice Ao26 yb.length co26) yb):=⟨h0_⟩
         have n1_:Aside0 (w31.heap[Bg]?=some (.cells #[.int .i64 0,.slice none 0 0] 25 (0,0))):=⟨h1_⟩
         have n2_:Aside0 (w31.heap[Bd]?=some (.cells #[.int .i64 ya,.slice Ao26 yb.length co26] 25 (0,0))):=⟨h2_⟩
         have n3_:Aside0 (IsS51 w0 w31 g s0_0 t189):=⟨h3_⟩
         have n4_:Aside0 (KeepBut w w31 g none):=⟨h4_⟩
         have n5_:Aside0 (Below w0.heap.size w0 w31):=⟨h5_⟩
         clear Ba
         clear Bc
         clear Bb
         clear HI0
         clear HK
         clear HB
         clear h0_ h1_ h2_ h3_ h4_ h5_
         have Ba:=n0_
         have Bc:=n1_
         have Bb:=n2_
         have HI0:=n3_
         have HK:=n4_
         have HB:=n5_
         clear n0_ n1_ n2_ n3_ n4_ n5_
         have hHeld:w31.cell? ⟨Bd,0,none⟩=some (.int .i64 ya)∧w31.cell? ⟨Bd,1,none⟩=some (.slice Ao26 yb.length co26):=hS_
         refine norm_ (by simp only [putAll,Act.put,lA,lZ,lS];rfl) ?_
         refine two_ (i:=9) (j:=15) (Ni:=some 36) (Nj:=some 6) z12q19 z12q10 rfl rfl rfl rfl (two_of HT_.out (by kernel_rfl)) (by decide) (by decide) (fun K hK=>?_) (fun K hK=>?_)
         ·skip
          refine goes_ Try.func13 (by kernel_rfl) rfl #[.pointer (some ⟨g,0,none⟩),.int .i64 40] (by rfl) rfl rfl (by (try simp only [lM,lC,lN]);first|done|rfl|(simp only [lD,lT];rfl)) ?_
          with_reducible refine (spec_l6Rd_pick.calls k1 g s0_0 t189 40 t190 t191 w0 _ ?side1 ?side2 A23.out).mono ?_
          (case side1=>repeat (first|(with_reducible first|exact HI0.out|apply qsA|apply qsN|apply qsD|apply qsS|refine qsF ?_ Be.out _|refine qsF ?_ Bf.out _)|exact HI0.out))
          (case side2=>repeat (first|(with_reducible first|exact HB.out|apply oA|apply pN|apply o1|refine bS ?_ (qsG HI0.out)|refine bS ?_ Bo.out|refine bS ?_ Bp.out)|exact HB.out))
          rintro e w32 ⟨rfl,hi,hb,hk⟩
          refine ⟨_,rfl,?_⟩
          have n0_:=Am (rM (Kd.R_keep (IsS51.apart (show IsS51 w0 _ g s0_0 t189 from by repeat (first|(with_reducible first|exact HI0.out|apply qsA|apply qsN|apply qsD|apply qsS|refine qsF ?_ Be.out _|refine qsF ?_ Bf.out _)|exact HI0.out)) (rL Ba.out) (by decide)) hk (fun _ h=>h.2)) (fun _ h=>h.1))
          have n1_:=Am (qkB hk (g':=Bg) (o:=.cells #[.int .i64 0,.slice none 0 0] 25 (0,0)) (bL Bc.out) Bz.out (by simp))
          have n2_:=Am (qkB hk (g':=Bd) (o:=.cells #[.int .i64 ya,.slice Ao26 yb.length co26] 25 (0,0)) (bL Bb.out) Bw.out (by simp))
          have n3_:=Am (KeepBut.trans (by repeat (first|(with_reducible first|exact HK.out|apply qkS|apply qkN|apply qkD|apply qkA|refine qkF ?_ Bi.out _|refine qkF ?_ Bk.out _)|exact HK.out)) hk (.inl rfl))
          have n4_:=Am (hb)
          have n5_:=Am (hi)
          clear Ba
          clear Bc
          clear Bb
          clear HK
          clear HB
          clear HI0
          have Ba:=n0_
          have Bc:=n1_
          have Bb:=n2_
          have HK:=n3_
          have HB:=n4_
          have HI0:=n5_
          clear n0_ n1_ n2_ n3_ n4_ n5_
          (try clear hb)
          (try clear hb2)
          (try clear hk)
          (try clear hi)
          refine hK.out _ _ ⟨(bC Bb.out 0).trans rfl,(bC Bb.out 1).trans rfl⟩ (fun hHeld=>?_)
          clear hK K
          refine norm_ (by show Act.put _ (some 36) _=_;simp only [Act.put,lA,lZ,lS,iw,jw];rfl) ?_
          refine pS 10 37 z12q9 HT_ rfl rfl (by kernel_rfl) (by rfl) (by intro w';go_simp;with_reducible rfl) (by simp only [Act.put,lA,lZ,lS,iw,jw];rfl) ?_
          exact norm_ (by first|(simp only [putAll,Act.put,lA,lZ,lS];done)|(simp only [putAll,Act.put,lA,lZ,lS];rfl)) (hJ2_4_7_9 () _ ⟨hHeld,(rL Ba.out),(bL Bc.out),(bL Bb.out),(by repeat (first|(with_reducible first|exact HI0.out|apply qsA|apply qsN|apply qsD|apply qsS|refine qsF ?_ Be.out _|refine qsF ?_ Bf.out _)|exact HI0.out)),(by repeat (first|(with_reducible first|exact HK.out|apply qkS|apply qkN|apply qkD|apply qkA|refine qkF ?_ Bi.out _|refine qkF ?_ Bk.out _)|exact HK.out)),(by repeat (first|(with_reducible first|exact HB.out|apply oA|apply pN|apply o1|refine bS ?_ (qsG HI0.out)|refine bS ?_ Bo.out|refine bS ?_ Bp.out)|exact HB.out))⟩)
         ·skip
          refine box_step ?hg (N:=6) ?hd (cs:=#[.int .i64 0,.slice none 0 0]) (t:=25) ?hr ?_;(case hd=>rfl);(case hg=>rfl);(case hr=>first|(go_simp;done)|(go_simp;rfl))
          intro Bh hg w32 hbox hb
          have n0_:=Am (rB (rL Ba.out) hb)
          have n1_:=Am (bX Bc.out hb)
          have n2_:=Am (bX Bb.out hb)
          have n3_:=Am (IsS51.below (by repeat (first|(with_reducible first|exact HI0.out|apply qsA|apply qsN|apply qsD|apply qsS|refine qsF ?_ Be.out _|refine qsF ?_ Bf.out _)|exact HI0.out)) hb)
          have n4_:=Am (KeepBut.trans (by repeat (first|(with_reducible first|exact HK.out|apply qkS|apply qkN|apply qkD|apply qkA|refine qkF ?_ Bi.out _|refine qkF ?_ Bk.out _)|exact HK.out)) (KeepBut.of_below hb g none) (.inl rfl))
          have n5_:=Am (bP (by repeat (first|(with_reducible first|exact HB.out|apply oA|apply pN|apply o1|refine bS ?_ (qsG HI0.out)|refine bS ?_ Bo.out|refine bS ?_ Bp.out)|exact HB.out)) hb)
          have n6_:=Am (hbox)
          have n7_:=Am ((by rw [hg];exact (keep_size (w:=w) (g:=g) (row:=none) (by repeat (first|(with_reducible first|exact HK.out|apply qkS|apply qkN|apply qkD|apply qkA|refine qkF ?_ Bi.out _|refine qkF ?_ Bk.out _)|exact HK.out))):w.heap.size≤Bh))
          have n8_:=Am ((Nat.le_trans HW0.out (by rw [hg];exact (keep_size (w:=w) (g:=g) (row:=none) (by repeat (first|(with_reducible first|exact HK.out|apply qkS|apply qkN|apply qkD|apply qkA|refine qkF ?_ Bi.out _|refine qkF ?_ Bk.out _)|exact HK.out))):w.heap.size≤Bh):w0.heap.size≤Bh))
          have n9_:=Am ((nL Bc.out hg))
          have n10_:=Am ((nG Bc.out hg))
          have n11_:=Am ((nL Bb.out hg))
          have n12_:=Am ((nG Bb.out hg))
          have n13_:=Am ((by rw [hg];exact nI (IsS51.lt (show IsS51 w0 _ g s0_0 t189 from by repeat (first|(with_reducible first|exact HI0.out|apply qsA|apply qsN|apply qsD|apply qsS|refine qsF ?_ Be.out _|refine qsF ?_ Bf.out _)|exact HI0.out))):g≠Bh))
          have n14_:=Am ((by rw [hg];exact nJ (IsS51.lt (show IsS51 w0 _ g s0_0 t189 from by repeat (first|(with_reducible first|exact HI0.out|apply qsA|apply qsN|apply qsD|apply qsS|refine qsF ?_ Be.out _|refine qsF ?_ Bf.out _)|exact HI0.out))):Bh≠g))
          clear Ba
          clear Bc
          clear Bb
          clear HI0
          clear HK
          clear HB
          have Ba:=n0_
          have Bc:=n1_
          have Bb:=n2_
          have HI0:=n3_
          have HK:=n4_
          have HB:=n5_
          have Bl:=n6_
          have Bq:=n7_
          have Br:=n8_
          have Bu:=n9_
          have By:=n10_
          have Bs:=n11_
          have Bv:=n12_
          have Bm:=n13_
          have Bx:=n14_
          clear n0_ n1_ n2_ n3_ n4_ n5_ n6_ n7_ n8_ n9_ n10_ n11_ n12_ n13_ n14_
          clear hb hbox hg
          refine hK.out _ _ ⟨(bC Bb.out 0).trans rfl,(bC Bb.out 1).trans rfl⟩ (fun hHeld=>?_)
          clear hK K
          refine norm_ (by show Act.put _ (some 6) _=_;simp only [Act.put,lA,lZ,lS,iw,jw];rfl) ?_
          exact norm_ (by first|(simp only [putAll,Act.put,lA,lZ,lS];done)|(simp only [putAll,Act.put,lA,lZ,lS];rfl)) (hJ2_4_7_15 (Bh) _ ⟨hHeld,(rL Ba.out),(bL Bc.out),(bL Bb.out),(bL Bl.out),Bq.out,Br.out,Bm.out,Bx.out,Bu.out,By.out,Bs.out,Bv.out,(by repeat (first|(with_reducible first|exact HI0.out|apply qsA|apply qsN|apply qsD|apply qsS|refine qsF ?_ Be.out _|refine qsF ?_ Bf.out _|refine qsF ?_ Bm.out _)|exact HI0.out)),(by repeat (first|(with_reducible first|exact HK.out|apply qkS|apply qkN|apply qkD|apply qkA|refine qkF ?_ Bi.out _|refine qkF ?_ Bk.out _|refine qkF ?_ Bq.out _)|exact HK.out)),(by repeat (first|(with_reducible first|exact HB.out|apply oA|apply pN|apply o1|refine bS ?_ (qsG HI0.out)|refine bS ?_ Bo.out|refine bS ?_ Bp.out|refine bS ?_ Br.out)|exact HB.out))⟩)
       ·skip
        rintro Bh w32 ⟨hS_,h0_,h1_,h2_,h3_,h4_,h5_,h6_,h7_,h8_,h9_,h10_,h11_,h12_,h13_,h14_⟩
        have n0_:Aside0 (Kd.R k35 35 w32 w.heap.size (fun _=>True) (.slice Ao26 yb.length co26) yb):=⟨h0_⟩
        have n1_:Aside0 (w32.heap[Bg]?=some (.cells #[.int .i64 0,.slice none 0 0] 25 (0,0))):=⟨h1_⟩
        have n2_:Aside0 (w32.heap[Bd]?=some (.cells #[.int .i64 ya,.slice Ao26 yb.length co26] 25 (0,0))):=⟨h2_⟩
        have n3_:Aside0 (w32.heap[Bh]?=some (.cells #[.int .i64 0,.slice none 0 0] 25 (0,0))):=⟨h3_⟩
        have n4_:Aside0 (w.heap.size≤Bh):=⟨h4_⟩
        have n5_:Aside0 (w0.heap.size≤Bh):=⟨h5_⟩
        have n6_:Aside0 (g≠Bh):=⟨h6_⟩
        have n7_:Aside0 (Bh≠g):=⟨h7_⟩
        have n8_:Aside0 (Bg≠Bh):=⟨h8_⟩
        have n9_:Aside0 (Bh≠Bg):=⟨h9_⟩
        have n10_:Aside0 (Bd≠Bh):=⟨h10_⟩
        have n11_:Aside0 (Bh≠Bd):=⟨h11_⟩
        have n12_:Aside0 (IsS51 w0 w32 g s0_0 t189):=⟨h12_⟩
        have n13_:Aside0 (KeepBut w w32 g none):=⟨h13_⟩
        have n14_:Aside0 (Below w0.heap.size w0 w32):=⟨h14_⟩
        clear Ba
        clear Bc
        clear Bb
        clear HI0
        clear HK
        clear HB
        clear h0_ h1_ h2_ h3_ h4_ h5_ h6_ h7_ h8_ h9_ h10_ h11_ h12_ h13_ h14_
        have Ba:=n0_
        have Bc:=n1_
        have Bb:=n2_
        have Bl:=n3_
        have Bq:=n4_
        have Br:=n5_
        have Bm:=n6_
        have Bx:=n7_
        have Bu:=n8_
        have By:=n9_
        have Bs:=n10_
        have Bv:=n11_
        have HI0:=n12_
        have HK:=n13_
        have HB:=n14_
        clear n0_ n1_ n2_ n3_ n4_ n5_ n6_ n7_ n8_ n9_ n10_ n11_ n12_ n13_ n14_
        have hHeld:w32.cell? ⟨Bd,0,none⟩=some (.int .i64 ya)∧w32.cell? ⟨Bd,1,none⟩=some (.slice Ao26 yb.length co26):=hS_
        refine norm_ (by simp only [putAll,Act.put,lA,lZ,lS];rfl) ?_
        refine oS 9 36 z12q20 HT_ rfl rfl (by kernel_rfl) (by decide) (fun K hK=>?_)
        refine goes_ Try.func13 (by kernel_rfl) rfl #[.pointer (some ⟨g,0,none⟩),.int .i64 40] (by rfl) rfl rfl (by (try simp only [lM,lC,lN]);first|done|rfl|(simp only [lD,lT];rfl)) ?_
        with_reducible refine (spec_l6Rd_pick.calls k1 g s0_0 t189 40 t190 t191 w0 _ ?side1 ?side2 A23.out).mono ?_
        (case side1=>repeat (first|(with_reducible first|exact HI0.out|apply qsA|apply qsN|apply qsD|apply qsS|refine qsF ?_ Be.out _|refine qsF ?_ Bf.out _|refine qsF ?_ Bm.out _)|exact HI0.out))
        (case side2=>repeat (first|(with_reducible first|exact HB.out|apply oA|apply pN|apply o1|refine bS ?_ (qsG HI0.out)|refine bS ?_ Bo.out|refine bS ?_ Bp.out|refine bS ?_ Br.out)|exact HB.out))
        rintro e w33 ⟨rfl,hi,hb,hk⟩
        refine ⟨_,rfl,?_⟩
        have n0_:=Am (rM (Kd.R_keep (IsS51.apart (show IsS51 w0 _ g s0_0 t189 from by repeat (first|(with_reducible first|exact HI0.out|apply qsA|apply qsN|apply qsD|apply qsS|refine qsF ?_ Be.out _|refine qsF ?_ Bf.out _|refine qsF ?_ Bm.out _)|exact HI0.out)) (rL Ba.out) (by decide)) hk (fun _ h=>h.2)) (fun _ h=>h.1))
        have n1_:=Am (qkB hk (g':=Bg) (o:=.cells #[.int .i64 0,.slice none 0 0] 25 (0,0)) (bL Bc.out) Bz.out (by simp))
        have n2_:=Am (qkB hk (g':=Bd) (o:=.cells #[.int .i64 ya,.slice Ao26 yb.length co26] 25 (0,0)) (bL Bb.out) Bw.out (by simp))
        have n3_:=Am (qkB hk (g':=Bh) (o:=.cells #[.int .i64 0,.slice none 0 0] 25 (0,0)) (bL Bl.out) Bx.out (by simp))
        have n4_:=Am (KeepBut.trans (by repeat (first|(with_reducible first|exact HK.out|apply qkS|apply qkN|apply qkD|apply qkA|refine qkF ?_ Bi.out _|refine qkF ?_ Bk.out _|refine qkF ?_ Bq.out _)|exact HK.out)) hk (.inl rfl))
        have n5_:=Am (hb)
        have n6_:=Am (hi)
        clear Ba
        clear Bc
        clear Bb
        clear Bl
        clear HK
        clear HB
        clear HI0
        have Ba:=n0_
        have Bc:=n1_
        have Bb:=n2_
        have Bl:=n3_
        have HK:=n4_
        have HB:=n5_
        have HI0:=n6_
        clear n0_ n1_ n2_ n3_ n4_ n5_ n6_
        (try clear hb)
        (try clear hb2)
        (try clear hk)
        (try clear hi)
        refine hK.out _ _ ⟨(bC Bb.out 0).trans rfl,(bC Bb.out 1).trans rfl⟩ (fun hHeld=>?_)
        clear hK K
        refine norm_ (by show Act.put _ (some 36) _=_;simp only [Act.put,lA,lZ,lS,iw,jw];rfl) ?_
        refine pS 10 37 z12q8 HT_ rfl rfl (by kernel_rfl) (by rfl) (by intro w';go_simp;with_reducible rfl) (by simp only [Act.put,lA,lZ,lS,iw,jw];rfl) ?_
        exact norm_ (by first|(simp only [putAll,Act.put,lA,lZ,lS];done)|(simp only [putAll,Act.put,lA,lZ,lS];rfl)) (hJ2_4_7_9_15 (Bh) _ ⟨hHeld,(rL Ba.out),(bL Bc.out),(bL Bb.out),(bL Bl.out),Bq.out,Br.out,Bm.out,Bx.out,Bu.out,By.out,Bs.out,Bv.out,(by repeat (first|(with_reducible first|exact HI0.out|apply qsA|apply qsN|apply qsD|apply qsS|refine qsF ?_ Be.out _|refine qsF ?_ Bf.out _|refine qsF ?_ Bm.out _)|exact HI0.out)),(by repeat (first|(with_reducible first|exact HK.out|apply qkS|apply qkN|apply qkD|apply qkA|refine qkF ?_ Bi.out _|refine qkF ?_ Bk.out _|refine qkF ?_ Bq.out _)|exact HK.out)),(by repeat (first|(with_reducible first|exact HB.out|apply oA|apply pN|apply o1|refine bS ?_ (qsG HI0.out)|refine bS ?_ Bo.out|refine bS ?_ Bp.out|refine bS ?_ Br.out)|exact HB.out))⟩)
      ·skip
       rintro _ w32 ⟨hS_,h0_,h1_,h2_,h3_,h4_,h5_⟩
       have n0_:Aside0 (Kd.R k35 35 w32 w.heap.size (fun _=>True) (.slice Ao26 yb.length co26) yb):=⟨h0_⟩
       have n1_:Aside0 (w32.heap[Bg]?=some (.cells #[.int .i64 0,.slice none 0 0] 25 (0,0))):=⟨h1_⟩
       have n2_:Aside0 (w32.heap[Bd]?=some (.cells #[.int .i64 ya,.slice Ao26 yb.length co26] 25 (0,0))):=⟨h2_⟩
       have n3_:Aside0 (IsS51 w0 w32 g s0_0 t191):=⟨h3_⟩
       have n4_:Aside0 (KeepBut w w32 g none):=⟨h4_⟩
       have n5_:Aside0 (Below w0.heap.size w0 w32):=⟨h5_⟩
       clear Ba
       clear Bc
       clear Bb
       clear HI0
       clear HK
       clear HB
       clear h0_ h1_ h2_ h3_ h4_ h5_
       have Ba:=n0_
       have Bc:=n1_
       have Bb:=n2_
       have HI0:=n3_
       have HK:=n4_
       have HB:=n5_
       clear n0_ n1_ n2_ n3_ n4_ n5_
       have hHeld:w32.cell? ⟨Bd,0,none⟩=some (.int .i64 ya)∧w32.cell? ⟨Bd,1,none⟩=some (.slice Ao26 yb.length co26):=hS_
       refine norm_ (by simp only [putAll,Act.put,lA,lZ,lS];rfl) ?_
       refine two_ (i:=11) (j:=15) (Ni:=some 38) (Nj:=some 6) z12q21 z12q8 rfl rfl rfl rfl (two_of HT_.out (by kernel_rfl)) (by decide) (by decide) (fun K hK=>?_) (fun K hK=>?_)
       ·skip
        refine goes_ Try.func23 (by kernel_rfl) rfl #[.agg #[.int .i64 ya,.slice Ao26 yb.length co26],.int .i64 t184,.int .i64 (wrap64 (1+t186)),.int .i64 (wrap64 (t188*t190))] (by rfl) rfl rfl (by (try simp only [lM,lC,lN]);first|done|rfl|(simp only [lD,lT];rfl)) ?_
        with_reducible refine (spec_ClockSet.calls k1 ya _ _ yb t184 (wrap64 (1+t186)) (wrap64 (t188*t190)) t192 t193 t196 _ ?side1 ?side2 A24.out).mono ?_
        (case side1=>exact cL (rR Ba.out).2.2)
        (case side2=>exact (rR Ba.out).2.1)
        rintro e w33 ⟨v194,rfl,ho0,hb⟩
        refine ⟨_,rfl,?_⟩
        have n0_:=Am (rX (rL Ba.out) (rZ ho0) hb)
        have n1_:=Am (rW (rQ ho0 (rI (rL Ba.out))) (keep_size (w:=w) (g:=g) (row:=none) (by repeat (first|(with_reducible first|exact HK.out|apply qkS|apply qkN|apply qkD|apply qkA|refine qkF ?_ Bi.out _|refine qkF ?_ Bk.out _)|exact HK.out))))
        have n2_:=Am (bX Bc.out hb)
        have n3_:=Am (bX Bb.out hb)
        have n4_:=Am (IsS51.below (by repeat (first|(with_reducible first|exact HI0.out|apply qsA|apply qsN|apply qsD|apply qsS|refine qsF ?_ Be.out _|refine qsF ?_ Bf.out _)|exact HI0.out)) hb)
        have n5_:=Am (KeepBut.trans (by repeat (first|(with_reducible first|exact HK.out|apply qkS|apply qkN|apply qkD|apply qkA|refine qkF ?_ Bi.out _|refine qkF ?_ Bk.out _)|exact HK.out)) (KeepBut.of_below hb g none) (.inl rfl))
        have n6_:=Am (bP (by repeat (first|(with_reducible first|exact HB.out|apply oA|apply pN|apply o1|refine bS ?_ (qsG HI0.out)|refine bS ?_ Bo.out|refine bS ?_ Bp.out)|exact HB.out)) hb)
        clear Ba
        clear Bc
        clear Bb
        clear HI0
        clear HK
        clear HB
        have Ba:=n0_
        have BQ:=n1_
        have Bc:=n2_
        have Bb:=n3_
        have HI0:=n4_
        have HK:=n5_
        have HB:=n6_
        clear n0_ n1_ n2_ n3_ n4_ n5_ n6_
        (try clear hb)
        (try clear hb2)
        (try clear hk)
        (try clear hi)
        (try clear ho0)
        refine hK.out _ _ ⟨(bC Bb.out 0).trans rfl,(bC Bb.out 1).trans rfl⟩ (fun hHeld=>?_)
        clear hK K
        refine norm_ (by show Act.put _ (some 38) _=_;simp only [Act.put,lA,lZ,lS,iw,jw];rfl) ?_
        refine pS 12 26 z12q22 HT_ rfl rfl (by kernel_rfl) (by rfl) (by intro w';go_simp;with_reducible rfl) (by simp only [Act.put,lA,lZ,lS,iw,jw];rfl) ?_
        refine pS 13 39 z12q23 HT_ rfl rfl (by kernel_rfl) (by rfl) (by intro w';go_simp;with_reducible rfl) (by simp only [Act.put,lA,lZ,lS,iw,jw];rfl) ?_
        refine pS 14 40 z12q7 HT_ rfl rfl (by kernel_rfl) (by rfl) (by intro w';go_simp;with_reducible rfl) (by simp only [Act.put,lA,lZ,lS,iw,jw];rfl) ?_
        exact norm_ (by first|(simp only [putAll,Act.put,lA,lZ,lS];done)|(simp only [putAll,Act.put,lA,lZ,lS];rfl)) (hJ2_4_7_9_11 (v194) _ ⟨hHeld,(by (with_reducible repeat (first|apply rA|apply rN|apply rD));exact rM BQ.out (fun _ hk=>hk.2)),(by (with_reducible repeat (first|apply rA|apply rN|apply rD));exact rM Ba.out (fun _ hk=>hk.2)),(bL Bc.out),(bL Bb.out),(by repeat (first|(with_reducible first|exact HI0.out|apply qsA|apply qsN|apply qsD|apply qsS|refine qsF ?_ Be.out _|refine qsF ?_ Bf.out _)|exact HI0.out)),(by repeat (first|(with_reducible first|exact HK.out|apply qkS|apply qkN|apply qkD|apply qkA|refine qkF ?_ Bi.out _|refine qkF ?_ Bk.out _)|exact HK.out)),(by repeat (first|(with_reducible first|exact HB.out|apply oA|apply pN|apply o1|refine bS ?_ (qsG HI0.out)|refine bS ?_ Bo.out|refine bS ?_ Bp.out)|exact HB.out))⟩)
       ·skip
        refine box_step ?hg (N:=6) ?hd (cs:=#[.int .i64 0,.slice none 0 0]) (t:=25) ?hr ?_;(case hd=>rfl);(case hg=>rfl);(case hr=>first|(go_simp;done)|(go_simp;rfl))
        intro Bh hg w33 hbox hb
        have n0_:=Am (rB (rL Ba.out) hb)
        have n1_:=Am (bX Bc.out hb)
        have n2_:=Am (bX Bb.out hb)
        have n3_:=Am (IsS51.below (by repeat (first|(with_reducible first|exact HI0.out|apply qsA|apply qsN|apply qsD|apply qsS|refine qsF ?_ Be.out _|refine qsF ?_ Bf.out _)|exact HI0.out)) hb)
        have n4_:=Am (KeepBut.trans (by repeat (first|(with_reducible first|exact HK.out|apply qkS|apply qkN|apply qkD|apply qkA|refine qkF ?_ Bi.out _|refine qkF ?_ Bk.out _)|exact HK.out)) (KeepBut.of_below hb g none) (.inl rfl))
        have n5_:=Am (bP (by repeat (first|(with_reducible first|exact HB.out|apply oA|apply pN|apply o1|refine bS ?_ (qsG HI0.out)|refine bS ?_ Bo.out|refine bS ?_ Bp.out)|exact HB.out)) hb)
        have n6_:=Am (hbox)
        have n7_:=Am ((by rw [hg];exact (keep_size (w:=w) (g:=g) (row:=none) (by repeat (first|(with_reducible first|exact HK.out|apply qkS|apply qkN|apply qkD|apply qkA|refine qkF ?_ Bi.out _|refine qkF ?_ Bk.out _)|exact HK.out))):w.heap.size≤Bh))
        have n8_:=Am ((Nat.le_trans HW0.out (by rw [hg];exact (keep_size (w:=w) (g:=g) (row:=none) (by repeat (first|(with_reducible first|exact HK.out|apply qkS|apply qkN|apply qkD|apply qkA|refine qkF ?_ Bi.out _|refine qkF ?_ Bk.out _)|exact HK.out))):w.heap.size≤Bh):w0.heap.size≤Bh))
        have n9_:=Am ((nL Bc.out hg))
        have n10_:=Am ((nG Bc.out hg))
        have n11_:=Am ((nL Bb.out hg))
        have n12_:=Am ((nG Bb.out hg))
        have n13_:=Am ((by rw [hg];exact nI (IsS51.lt (show IsS51 w0 _ g s0_0 t191 from by repeat (first|(with_reducible first|exact HI0.out|apply qsA|apply qsN|apply qsD|apply qsS|refine qsF ?_ Be.out _|refine qsF ?_ Bf.out _)|exact HI0.out))):g≠Bh))
        have n14_:=Am ((by rw [hg];exact nJ (IsS51.lt (show IsS51 w0 _ g s0_0 t191 from by repeat (first|(with_reducible first|exact HI0.out|apply qsA|apply qsN|apply qsD|apply qsS|refine qsF ?_ Be.out _|refine qsF ?_ Bf.out _)|exact HI0.out))):Bh≠g))
        clear Ba
        clear Bc
        clear Bb
        clear HI0
        clear HK
        clear HB
        have Ba:=n0_
        have Bc:=n1_
        have Bb:=n2_
        have HI0:=n3_
        have HK:=n4_
        have HB:=n5_
        have Bl:=n6_
        have Bq:=n7_
        have Br:=n8_
        have Bu:=n9_
        have By:=n10_
        have Bs:=n11_
        have Bv:=n12_
        have Bm:=n13_
        have Bx:=n14_
        clear n0_ n1_ n2_ n3_ n4_ n5_ n6_ n7_ n8_ n9_ n10_ n11_ n12_ n13_ n14_
        clear hb hbox hg
        refine hK.out _ _ ⟨(bC Bb.out 0).trans rfl,(bC Bb.out 1).trans rfl⟩ (fun hHeld=>?_)
        clear hK K
        refine norm_ (by show Act.put _ (some 6) _=_;simp only [Act.put,lA,lZ,lS,iw,jw];rfl) ?_
        exact norm_ (by first|(simp only [putAll,Act.put,lA,lZ,lS];done)|(simp only [putAll,Act.put,lA,lZ,lS];rfl)) (hJ2_4_7_9_15 (Bh) _ ⟨hHeld,(rL Ba.out),(bL Bc.out),(bL Bb.out),(bL Bl.out),Bq.out,Br.out,Bm.out,Bx.out,Bu.out,By.out,Bs.out,Bv.out,(by repeat (first|(with_reducible first|exact HI0.out|apply qsA|apply qsN|apply qsD|apply qsS|refine qsF ?_ Be.out _|refine qsF ?_ Bf.out _|refine qsF ?_ Bm.out _)|exact HI0.out)),(by repeat (first|(with_reducible first|exact HK.out|apply qkS|apply qkN|apply qkD|apply qkA|refine qkF ?_ Bi.out _|refine qkF ?_ Bk.out _|refine qkF ?_ Bq.out _)|exact HK.out)),(by repeat (first|(with_reducible first|exact HB.out|apply oA|apply pN|apply o1|refine bS ?_ (qsG HI0.out)|refine bS ?_ Bo.out|refine bS ?_ Bp.out|refine bS ?_ Br.out)|exact HB.out))⟩)
     ·skip
      rintro Bh w33 ⟨hS_,h0_,h1_,h2_,h3_,h4_,h5_,h6_,h7_,h8_,h9_,h10_,h11_,h12_,h13_,h14_⟩
      have n0_:Aside0 (Kd.R k35 35 w33 w.heap.size (fun _=>True) (.slice Ao26 yb.length co26) yb):=⟨h0_⟩
      have n1_:Aside0 (w33.heap[Bg]?=some (.cells #[.int .i64 0,.slice none 0 0] 25 (0,0))):=⟨h1_⟩
      have n2_:Aside0 (w33.heap[Bd]?=some (.cells #[.int .i64 ya,.slice Ao26 yb.length co26] 25 (0,0))):=⟨h2_⟩
      have n3_:Aside0 (w33.heap[Bh]?=some (.cells #[.int .i64 0,.slice none 0 0] 25 (0,0))):=⟨h3_⟩
      have n4_:Aside0 (w.heap.size≤Bh):=⟨h4_⟩
      have n5_:Aside0 (w0.heap.size≤Bh):=⟨h5_⟩
      have n6_:Aside0 (g≠Bh):=⟨h6_⟩
      have n7_:Aside0 (Bh≠g):=⟨h7_⟩
      have n8_:Aside0 (Bg≠Bh):=⟨h8_⟩
      have n9_:Aside0 (Bh≠Bg):=⟨h9_⟩
      have n10_:Aside0 (Bd≠Bh):=⟨h10_⟩
      have n11_:Aside0 (Bh≠Bd):=⟨h11_⟩
      have n12_:Aside0 (IsS51 w0 w33 g s0_0 t191):=⟨h12_⟩
      have n13_:Aside0 (KeepBut w w33 g none):=⟨h13_⟩
      have n14_:Aside0 (Below w0.heap.size w0 w33):=⟨h14_⟩
      clear Ba
      clear Bc
      clear Bb
      clear HI0
      clear HK
      clear HB
      clear h0_ h1_ h2_ h3_ h4_ h5_ h6_ h7_ h8_ h9_ h10_ h11_ h12_ h13_ h14_
      have Ba:=n0_
      have Bc:=n1_
      have Bb:=n2_
      have Bl:=n3_
      have Bq:=n4_
      have Br:=n5_
      have Bm:=n6_
      have Bx:=n7_
      have Bu:=n8_
      have By:=n9_
      have Bs:=n10_
      have Bv:=n11_
      have HI0:=n12_
      have HK:=n13_
      have HB:=n14_
      clear n0_ n1_ n2_ n3_ n4_ n5_ n6_ n7_ n8_ n9_ n10_ n11_ n12_ n13_ n14_
      have hHeld:w33.cell? ⟨Bd,0,none⟩=some (.int .i64 ya)∧w33.cell? ⟨Bd,1,none⟩=some (.slice Ao26 yb.length co26):=hS_
      refine norm_ (by simp only [putAll,Act.put,lA,lZ,lS];rfl) ?_
      refine oS 11 38 z12q24 HT_ rfl rfl (by kernel_rfl) (by decide) (fun K hK=>?_)
      refine goes_ Try.func23 (by kernel_rfl) rfl #[.agg #[.int .i64 ya,.slice Ao26 yb.length co26],.int .i64 t184,.int .i64 (wrap64 (1+t186)),.int .i64 (wrap64 (t188*t190))] (by rfl) rfl rfl (by (try simp only [lM,lC,lN]);first|done|rfl|(simp only [lD,lT];rfl)) ?_
      with_reducible refine (spec_ClockSet.calls k1 ya _ _ yb t184 (wrap64 (1+t186)) (wrap64 (t188*t190)) t192 t193 t196 _ ?side1 ?side2 A24.out).mono ?_
      (case side1=>exact cL (rR Ba.out).2.2)
      (case side2=>exact (rR Ba.out).2.1)
      rintro e w34 ⟨v194,rfl,ho0,hb⟩
      refine ⟨_,rfl,?_⟩
      have n0_:=Am (rX (rL Ba.out) (rZ ho0) hb)
      have n1_:=Am (rW (rQ ho0 (rI (rL Ba.out))) (keep_size (w:=w) (g:=g) (row:=none) (by repeat (first|(with_reducible first|exact HK.out|apply qkS|apply qkN|apply qkD|apply qkA|refine qkF ?_ Bi.out _|refine qkF ?_ Bk.out _|refine qkF ?_ Bq.out _)|exact HK.out))))
      have n2_:=Am (bX Bc.out hb)
      have n3_:=Am (bX Bb.out hb)
      have n4_:=Am (IsS51.below (by repeat (first|(with_reducible first|exact HI0.out|apply qsA|apply qsN|apply qsD|apply qsS|refine qsF ?_ Be.out _|refine qsF ?_ Bf.out _|refine qsF ?_ Bm.out _)|exact HI0.out)) hb)
      have n5_:=Am (bX Bl.out hb)
      have n6_:=Am (KeepBut.trans (by repeat (first|(with_reducible first|exact HK.out|apply qkS|apply qkN|apply qkD|apply qkA|refine qkF ?_ Bi.out _|refine qkF ?_ Bk.out _|refine qkF ?_ Bq.out _)|exact HK.out)) (KeepBut.of_below hb g none) (.inl rfl))
      have n7_:=Am (bP (by repeat (first|(with_reducible first|exact HB.out|apply oA|apply pN|apply o1|refine bS ?_ (qsG HI0.out)|refine bS ?_ Bo.out|refine bS ?_ Bp.out|refine bS ?_ Br.out)|exact HB.out)) hb)
      clear Ba
      clear Bc
      clear Bb
      clear HI0
      clear Bl
      clear HK
      clear HB
      have Ba:=n0_
      have BQ:=n1_
      have Bc:=n2_
      have Bb:=n3_
      have HI0:=n4_
      have Bl:=n5_
      have HK:=n6_
      have HB:=n7_
      clear n0_ n1_ n2_ n3_ n4_ n5_ n6_ n7_
      (try clear hb)
      (try clear hb2)
      (try clear hk)
      (try clear hi)
      (try clear ho0)
      refine hK.out _ _ ⟨(bC Bb.out 0).trans rfl,(bC Bb.out 1).trans rfl⟩ (fun hHeld=>?_)
      clear hK K
      refine norm_ (by show Act.put _ (some 38) _=_;simp only [Act.put,lA,lZ,lS,iw,jw];rfl) ?_
      refine pS 12 26 z12q25 HT_ rfl rfl (by kernel_rfl) (by rfl) (by intro w';go_simp;with_reducible rfl) (by simp only [Act.put,lA,lZ,lS,iw,jw];rfl) ?_
      refine pS 13 39 z12q26 HT_ rfl rfl (by kernel_rfl) (by rfl) (by intro w';go_simp;with_reducible rfl) (by simp only [Act.put,lA,lZ,lS,iw,jw];rfl) ?_
      refine pS 14 40 z12q6 HT_ rfl rfl (by kernel_rfl) (by rfl) (by intro w';go_simp;with_reducible rfl) (by simp only [Act.put,lA,lZ,lS,iw,jw];rfl) ?_
      exact norm_ (by first|(simp only [putAll,Act.put,lA,lZ,lS];done)|(simp only [putAll,Act.put,lA,lZ,lS];rfl)) (hJ2_4_7_9_11_15 (v194,Bh) _ ⟨hHeld,(by (with_reducible repeat (first|apply rA|apply rN|apply rD));exact rM BQ.out (fun _ hk=>hk.2)),(by (with_reducible repeat (first|apply rA|apply rN|apply rD));exact rM Ba.out (fun _ hk=>hk.2)),(bL Bc.out),(bL Bb.out),(bL Bl.out),Bq.out,Br.out,Bm.out,Bx.out,Bu.out,By.out,Bs.out,Bv.out,(by repeat (first|(with_reducible first|exact HI0.out|apply qsA|apply qsN|apply qsD|apply qsS|refine qsF ?_ Be.out _|refine qsF ?_ Bf.out _|refine qsF ?_ Bm.out _)|exact HI0.out)),(by repeat (first|(with_reducible first|exact HK.out|apply qkS|apply qkN|apply qkD|apply qkA|refine qkF ?_ Bi.out _|refine qkF ?_ Bk.out _|refine qkF ?_ Bq.out _)|exact HK.out)),(by repeat (first|(with_reducible first|exact HB.out|apply oA|apply pN|apply o1|refine bS ?_ (qsG HI0.out)|refine bS ?_ Bo.out|refine bS ?_ Bp.out|refine bS ?_ Br.out)|exact HB.out))⟩)
    ·skip
     rintro v194 w33 ⟨hS_,h0_,h1_,h2_,h3_,h4_,h5_,h6_⟩
     have n0_:Aside0 (Kd.R k35 35 w33 w.heap.size (fun k_=>some k_≠(.slice Ao26 yb.length co26:Value).ownBlock) v194 t193):=⟨h0_⟩
     have n1_:Aside0 (Kd.R k35 35 w33 w.heap.size (fun k_=>some k_≠(v194:Value).ownBlock) (.slice Ao26 yb.length co26) yb):=⟨h1_⟩
     have n2_:Aside0 (w33.heap[Bg]?=some (.cells #[.int .i64 0,.slice none 0 0] 25 (0,0))):=⟨h2_⟩
     have n3_:Aside0 (w33.heap[Bd]?=some (.cells #[.int .i64 ya,.slice Ao26 yb.length co26] 25 (0,0))):=⟨h3_⟩
     have n4_:Aside0 (IsS51 w0 w33 g s0_0 t191):=⟨h4_⟩
     have n5_:Aside0 (KeepBut w w33 g none):=⟨h5_⟩
     have n6_:Aside0 (Below w0.heap.size w0 w33):=⟨h6_⟩
     clear Ba
     clear Bc
     clear Bb
     clear HI0
     clear HK
     clear HB
     clear h0_ h1_ h2_ h3_ h4_ h5_ h6_
     have BQ:=n0_
     have Ba:=n1_
     have Bc:=n2_
     have Bb:=n3_
     have HI0:=n4_
     have HK:=n5_
     have HB:=n6_
     clear n0_ n1_ n2_ n3_ n4_ n5_ n6_
     have hHeld:w33.cell? ⟨Bd,0,none⟩=some (.int .i64 ya)∧w33.cell? ⟨Bd,1,none⟩=some (.slice Ao26 yb.length co26):=hS_
     refine norm_ (by simp only [putAll,Act.put,lA,lZ,lS];rfl) ?_
     refine oS 15 6 z12q6 HT_ rfl rfl (by kernel_rfl) (by decide) (fun K hK=>?_)
     refine box_step ?hg (N:=6) ?hd (cs:=#[.int .i64 0,.slice none 0 0]) (t:=25) ?hr ?_;(case hd=>rfl);(case hg=>rfl);(case hr=>first|(go_simp;done)|(go_simp;rfl))
     intro Bh hg w34 hbox hb
     have n0_:=Am (rB (rL Ba.out) hb)
     have n1_:=Am (rB (rL BQ.out) hb)
     have n2_:=Am (bX Bc.out hb)
     have n3_:=Am (bX Bb.out hb)
     have n4_:=Am (IsS51.below (by repeat (first|(with_reducible first|exact HI0.out|apply qsA|apply qsN|apply qsD|apply qsS|refine qsF ?_ Be.out _|refine qsF ?_ Bf.out _)|exact HI0.out)) hb)
     have n5_:=Am (KeepBut.trans (by repeat (first|(with_reducible first|exact HK.out|apply qkS|apply qkN|apply qkD|apply qkA|refine qkF ?_ Bi.out _|refine qkF ?_ Bk.out _)|exact HK.out)) (KeepBut.of_below hb g none) (.inl rfl))
     have n6_:=Am (bP (by repeat (first|(with_reducible first|exact HB.out|apply oA|apply pN|apply o1|refine bS ?_ (qsG HI0.out)|refine bS ?_ Bo.out|refine bS ?_ Bp.out)|exact HB.out)) hb)
     have n7_:=Am (hbox)
     have n8_:=Am ((by rw [hg];exact (keep_size (w:=w) (g:=g) (row:=none) (by repeat (first|(with_reducible first|exact HK.out|apply qkS|apply qkN|apply qkD|apply qkA|refine qkF ?_ Bi.out _|refine qkF ?_ Bk.out _)|exact HK.out))):w.heap.size≤Bh))
     have n9_:=Am ((Nat.le_trans HW0.out (by rw [hg];exact (keep_size (w:=w) (g:=g) (row:=none) (by repeat (first|(with_reducible first|exact HK.out|apply qkS|apply qkN|apply qkD|apply qkA|refine qkF ?_ Bi.out _|refine qkF ?_ Bk.out _)|exact HK.out))):w.heap.size≤Bh):w0.heap.size≤Bh))
     have n10_:=Am ((nL Bc.out hg))
     have n11_:=Am ((nG Bc.out hg))
     have n12_:=Am ((nL Bb.out hg))
     have n13_:=Am ((nG Bb.out hg))
     have n14_:=Am ((by rw [hg];exact nI (IsS51.lt (show IsS51 w0 _ g s0_0 t191 from by repeat (first|(with_reducible first|exact HI0.out|apply qsA|apply qsN|apply qsD|apply qsS|refine qsF ?_ Be.out _|refine qsF ?_ Bf.out _)|exact HI0.out))):g≠Bh))
     have n15_:=Am ((by rw [hg];exact nJ (IsS51.lt (show IsS51 w0 _ g s0_0 t191 from by repeat (first|(with_reducible first|exact HI0.out|apply qsA|apply qsN|apply qsD|apply qsS|refine qsF ?_ Be.out _|refine qsF ?_ Bf.out _)|exact HI0.out))):Bh≠g))
     clear Ba
     clear BQ
     clear Bc
     clear Bb
     clear HI0
     clear HK
     clear HB
     have Ba:=n0_
     have BQ:=n1_
     have Bc:=n2_
     have Bb:=n3_
     have HI0:=n4_
     have HK:=n5_
     have HB:=n6_
     have Bl:=n7_
     have Bq:=n8_
     have Br:=n9_
     have Bu:=n10_
     have By:=n11_
     have Bs:=n12_
     have Bv:=n13_
     have Bm:=n14_
     have Bx:=n15_
     clear n0_ n1_ n2_ n3_ n4_ n5_ n6_ n7_ n8_ n9_ n10_ n11_ n12_ n13_ n14_ n15_
     clear hb hbox hg
     refine hK.out _ _ ⟨(bC Bb.out 0).trans rfl,(bC Bb.out 1).trans rfl⟩ (fun hHeld=>?_)
     clear hK K
     refine norm_ (by show Act.put _ (some 6) _=_;simp only [Act.put,lA,lZ,lS,iw,jw];rfl) ?_
     exact norm_ (by first|(simp only [putAll,Act.put,lA,lZ,lS];done)|(simp only [putAll,Act.put,lA,lZ,lS];rfl)) (hJ2_4_7_9_11_15 (v194,Bh) _ ⟨hHeld,(rL BQ.out),(rL Ba.out),(bL Bc.out),(bL Bb.out),(bL Bl.out),Bq.out,Br.out,Bm.out,Bx.out,Bu.out,By.out,Bs.out,Bv.out,(by repeat (first|(with_reducible first|exact HI0.out|apply qsA|apply qsN|apply qsD|apply qsS|refine qsF ?_ Be.out _|refine qsF ?_ Bf.out _|refine qsF ?_ Bm.out _)|exact HI0.out)),(by repeat (first|(with_reducible first|exact HK.out|apply qkS|apply qkN|apply qkD|apply qkA|refine qkF ?_ Bi.out _|refine qkF ?_ Bk.out _|refine qkF ?_ Bq.out _)|exact HK.out)),(by repeat (first|(with_reducible first|exact HB.out|apply oA|apply pN|apply o1|refine bS ?_ (qsG HI0.out)|refine bS ?_ Bo.out|refine bS ?_ Bp.out|refine bS ?_ Br.out)|exact HB.out))⟩)
   rintro ⟨v194,Bh⟩ w34 ⟨hS_,h0_,h1_,h2_,h3_,h4_,h5_,h6_,h7_,h8_,h9_,h10_,h11_,h12_,h13_,h14_,h15_⟩
   have n0_:Aside0 (Kd.R k35 35 w34 w.heap.size (fun k_=>some k_≠(.slice Ao26 yb.length co26:Value).ownBlock) v194 t193):=⟨h0_⟩
   have n1_:Aside0 (Kd.R k35 35 w34 w.heap.size (fun k_=>some k_≠(v194:Value).ownBlock) (.slice Ao26 yb.length co26) yb):=⟨h1_⟩
   have n2_:Aside0 (w34.heap[Bg]?=some (.cells #[.int .i64 0,.slice none 0 0] 25 (0,0))):=⟨h2_⟩
   have n3_:Aside0 (w34.heap[Bd]?=some (.cells #[.int .i64 ya,.slice Ao26 yb.length co26] 25 (0,0))):=⟨h3_⟩
   have n4_:Aside0 (w34.heap[Bh]?=some (.cells #[.int .i64 0,.slice none 0 0] 25 (0,0))):=⟨h4_⟩
   have n5_:Aside0 (w.heap.size≤Bh):=⟨h5_⟩
   have n6_:Aside0 (w0.heap.size≤Bh):=⟨h6_⟩
   have n7_:Aside0 (g≠Bh):=⟨h7_⟩
   have n8_:Aside0 (Bh≠g):=⟨h8_⟩
   have n9_:Aside0 (Bg≠Bh):=⟨h9_⟩
   have n10_:Aside0 (Bh≠Bg):=⟨h10_⟩
   have n11_:Aside0 (Bd≠Bh):=⟨h11_⟩
   have n12_:Aside0 (Bh≠Bd):=⟨h12_⟩
   have n13_:Aside0 (IsS51 w0 w34 g s0_0 t191):=⟨h13_⟩
   have n14_:Aside0 (KeepBut w w34 g none):=⟨h14_⟩
   have n15_:Aside0 (Below w0.heap.size w0 w34):=⟨h15_⟩
   clear Ba
   clear Bc
   clear Bb
   clear HI0
   clear HK
   clear HB
   clear h0_ h1_ h2_ h3_ h4_ h5_ h6_ h7_ h8_ h9_ h10_ h11_ h12_ h13_ h14_ h15_
   have BQ:=n0_
   have Ba:=n1_
   have Bc:=n2_
   have Bb:=n3_
   have Bl:=n4_
   have Bq:=n5_
   have Br:=n6_
   have Bm:=n7_
   have Bx:=n8_
   have Bu:=n9_
   have By:=n10_
   have Bs:=n11_
   have Bv:=n12_
   have HI0:=n13_
   have HK:=n14_
   have HB:=n15_
   clear n0_ n1_ n2_ n3_ n4_ n5_ n6_ n7_ n8_ n9_ n10_ n11_ n12_ n13_ n14_ n15_
   have hHeld:w34.cell? ⟨Bd,0,none⟩=some (.int .i64 ya)∧w34.cell? ⟨Bd,1,none⟩=some (.slice Ao26 yb.length co26):=hS_
   obtain ⟨Ao36,co36,eo36⟩:=rC BQ.out
   (first|subst eo36|(injection eo36 with f1_ f2_ f3_;have f4_:=f1_.symm;have f5_:=f3_.symm;clear f1_ f2_ f3_;subst f4_;subst f5_))
   refine norm_ (by simp only [putAll,Act.put,lA,lZ,lS];rfl) ?_
   refine oU 16 none z12q27 HT_ rfl rfl (by kernel_rfl) (by decide) (fun K hK=>?_)
   have hs35:=cz0 Bl.out
   have hfs35:=bF Bl.out 0
   have hns35_0:=Bu.out
   have hns35_1:=Bs.out
   have hms35_0:=By.out
   have hms35_1:=Bv.out
   have hs37:=cz1 Bl.out
   have hfs37:=bF Bl.out 1
   have hns37_0:=Bu.out
   have hns37_1:=Bs.out
   have hms37_0:=By.out
   have hms37_1:=Bv.out
   refine skip_ (w1:=?_) (by rfl) rfl ?_ ?_
   rotate_left;(go_simp;rfl)
   refine hK.out _ _ ⟨((cF (p:=⟨Bh,_,none⟩) Bs.out _).trans (((cF (p:=⟨Bh,_,none⟩) Bs.out _).trans (hHeld.1)))),((cF (p:=⟨Bh,_,none⟩) Bs.out _).trans (((cF (p:=⟨Bh,_,none⟩) Bs.out _).trans (hHeld.2))))⟩ (fun hHeld=>?_)
   clear hK K
   refine pS 17 7 z12q28 HT_ rfl rfl (by kernel_rfl) (by rfl) (by intro w';go_simp;with_reducible rfl) (by simp only [Act.put,lA,lZ,lS,iw,jw];rfl) ?_
   refine done_ (done_of HT_.out (by kernel_rfl)) ?_
   go_upto_if 41 with (fail)
   go_cut [] (fun wc=>∃ (kq:Nat) (x182000_24:Int) (x182001_24:List (S35)) (u182001:Value),Aside0 (spec_l97Clock.j1 kq yn s0_0 t191 x182000_24 x182001_24=some (r1,r2,r3))∧Aside0 (kq≤k1)∧Aside0 (Kd.R k35 35 wc w.heap.size (fun _=>True) u182001 x182001_24)∧Aside0 (Kd.R k35 35 wc w.heap.size (fun _=>True) (.slice Ao36 t193.length co36) t193)∧Aside0 (wc.heap[Bg]?=some (.cells #[.int .i64 0,(.slice none 0 0)] 25 (0,0)))∧Aside0 (wc.heap[Bd]?=some (.cells #[.int .i64 x182000_24,u182001] 25 (0,0)))∧Aside0 (wc.heap[Bh]?=some (.cells #[.int .i64 t192,(.slice Ao36 t193.length co36)] 25 (0,0)))∧Aside0 (IsS51 w0 wc g s0_0 t191)∧Aside0 (KeepBut w wc g none)∧Aside0 (Below w0.heap.size w0 wc))
   case first =>
    have H:=HC25.out
    clear HC25
    by_cases c38:t196=true
    rotate_left
    ·replace c38:=Bool.eq_false_iff.mpr c38
     subst c38
     have H1:(spec_l97Clock.j1 k1 yn s0_0 t191 ya yb)=some (r1,r2,r3):=by rw [if_neg (show ¬ (false=true) by decide)] at H;exact H
     clear H
     have H:=H1
     clear H1
     have H':=Am H
     clear H
     go_wp2
     go_meet
     case rel=>exact ⟨_,(ya),(yb),(.slice Ao26 yb.length co26),H',⟨by have:=HK1.out;first|omega|exact nR _⟩,⟨by (with_reducible repeat (first|apply rA|apply rN|apply rD));exact rM (rF (p:=⟨Bh,1,none⟩) (rF (p:=⟨Bh,0,none⟩) (rT Ba.out Bl.out (by decide)) (fun _ hk=>hk.2) (.int .i64 t192)) (fun _ hk=>hk.2) (.slice Ao36 t193.length co36)) (fun _ hk=>trivial)⟩,⟨by (with_reducible repeat (first|apply rA|apply rN|apply rD));exact rM (rF (p:=⟨Bh,1,none⟩) (rF (p:=⟨Bh,0,none⟩) (rT BQ.out Bl.out (by decide)) (fun _ hk=>hk.2) (.int .i64 t192)) (fun _ hk=>hk.2) (.slice Ao36 t193.length co36)) (fun _ hk=>trivial)⟩,⟨by (with_reducible repeat (first|refine bN ?_ _|refine bD ?_|refine bA ?_ _|refine bE ?_ Bu.out _));exact Bc.out⟩,⟨by (with_reducible repeat (first|refine bN ?_ _|refine bD ?_|refine bA ?_ _|refine bE ?_ Bs.out _));exact Bb.out⟩,⟨by (with_reducible repeat (first|refine bN ?_ _|refine bD ?_|refine bA ?_ _));refine bT (cs:=#[.int .i64 t192,.slice none 0 0]) ?_ 1 _ rfl;(with_reducible repeat (first|refine bN ?_ _|refine bD ?_|refine bA ?_ _));refine bT (cs:=#[.int .i64 0,.slice none 0 0]) ?_ 0 _ rfl;(with_reducible repeat (first|refine bN ?_ _|refine bD ?_|refine bA ?_ _));exact Bl.out⟩,⟨by repeat (first|(with_reducible first|exact HI0.out|apply qsA|apply qsN|apply qsD|apply qsS|refine qsF ?_ Be.out _|refine qsF ?_ Bf.out _|refine qsF ?_ Bm.out _)|exact HI0.out)⟩,⟨by repeat (first|(with_reducible first|exact HK.out|apply qkS|apply qkN|apply qkD|apply qkA|refine qkF ?_ Bi.out _|refine qkF ?_ Bk.out _|refine qkF ?_ Bq.out _)|exact HK.out)⟩,⟨by repeat (first|(with_reducible first|exact HB.out|apply oA|apply pN|apply o1|refine bS ?_ (qsG HI0.out)|refine bS ?_ Bo.out|refine bS ?_ Bp.out|refine bS ?_ Br.out)|exact HB.out)⟩⟩
    subst c38
    have H1:(spec_l97Clock.j1 k1 yn s0_0 t191 t192 t193)=some (r1,r2,r3):=by rw [if_pos rfl] at H;exact H
    clear H
    have H:=H1
    clear H1
    have H':=Am H
    clear H
    have DV:=By.out
    have DW:=Bu.out
    have DX:=Bv.out
    have DY:=Bs.out
    have DZ:=Bx.out
    have D0:=Bm.out
    have BZ:=cz0 Bl.out
    have B0:=cz1 Bl.out
    have B1:=bF Bl.out 0
    have B2:=bF Bl.out 1
    have D1:=BO.out
    have D2:=BK.out
    have D3:=Bw.out
    have D4:=Bf.out
    have B3:=cz0 Bb.out
    have B4:=cz1 Bb.out
    have B6:=bF Bb.out 0
    have B7:=bF Bb.out 1
    go_wp2
    go_meet
    case rel=>exact ⟨_,(t192),(t193),(.slice Ao36 t193.length co36),H',⟨by have:=HK1.out;first|omega|exact nR _⟩,⟨by (with_reducible repeat (first|apply rA|apply rN|apply rD));exact rM (rF (p:=⟨Bd,1,none⟩) (rF (p:=⟨Bd,0,none⟩) (rF (p:=⟨Bh,1,none⟩) (rF (p:=⟨Bh,0,none⟩) (rT (rT BQ.out Bl.out (by decide)) Bb.out (by decide)) (fun _ hk=>hk.1.2) (.int .i64 t192)) (fun _ hk=>hk.1.2) (.slice Ao36 t193.length co36)) (fun _ hk=>hk.2) (.int .i64 t192)) (fun _ hk=>hk.2) (.slice Ao36 t193.length co36)) (fun _ hk=>trivial)⟩,⟨by (with_reducible repeat (first|apply rA|apply rN|apply rD));exact rM (rF (p:=⟨Bd,1,none⟩) (rF (p:=⟨Bd,0,none⟩) (rF (p:=⟨Bh,1,none⟩) (rF (p:=⟨Bh,0,none⟩) (rT (rT BQ.out Bl.out (by decide)) Bb.out (by decide)) (fun _ hk=>hk.1.2) (.int .i64 t192)) (fun _ hk=>hk.1.2) (.slice Ao36 t193.length co36)) (fun _ hk=>hk.2) (.int .i64 t192)) (fun _ hk=>hk.2) (.slice Ao36 t193.length co36)) (fun _ hk=>trivial)⟩,⟨by (with_reducible repeat (first|refine bN ?_ _|refine bD ?_|refine bA ?_ _|refine bE ?_ BK.out _|refine bE ?_ Bu.out _));exact Bc.out⟩,⟨by (with_reducible repeat (first|refine bN ?_ _|refine bD ?_|refine bA ?_ _));refine bT (cs:=#[.int .i64 t192,.slice Ao26 yb.length co26]) ?_ 1 _ rfl;(with_reducible repeat (first|refine bN ?_ _|refine bD ?_|refine bA ?_ _));refine bT (cs:=#[.int .i64 ya,.slice Ao26 yb.length co26]) ?_ 0 _ rfl;(with_reducible repeat (first|refine bN ?_ _|refine bD ?_|refine bA ?_ _|refine bE ?_ Bs.out _));exact Bb.out⟩,⟨by (with_reducible repeat (first|refine bN ?_ _|refine bD ?_|refine bA ?_ _|refine bE ?_ Bv.out _));refine bT (cs:=#[.int .i64 t192,.slice none 0 0]) ?_ 1 _ rfl;(with_reducible repeat (first|refine bN ?_ _|refine bD ?_|refine bA ?_ _));refine bT (cs:=#[.int .i64 0,.slice none 0 0]) ?_ 0 _ rfl;(with_reducible repeat (first|refine bN ?_ _|refine bD ?_|refine bA ?_ _));exact Bl.out⟩,⟨by repeat (first|(with_reducible first|exact HI0.out|apply qsA|apply qsN|apply qsD|apply qsS|refine qsF ?_ Be.out _|refine qsF ?_ Bf.out _|refine qsF ?_ Bm.out _)|exact HI0.out)⟩,⟨by repeat (first|(with_reducible first|exact HK.out|apply qkS|apply qkN|apply qkD|apply qkA|refine qkF ?_ Bi.out _|refine qkF ?_ Bk.out _|refine qkF ?_ Bq.out _)|exact HK.out)⟩,⟨by repeat (first|(with_reducible first|exact HB.out|apply oA|apply pN|apply o1|refine bS ?_ (qsG HI0.out)|refine bS ?_ Bo.out|refine bS ?_ Bp.out|refine bS ?_ Br.out)|exact HB.out)⟩⟩
   case rest =>
    clear HC25
    try clear c1
    try clear c2
    try clear p2
    try clear c3
    try clear c4
    try clear p6
    try clear c13
    try clear c23
    try clear c38
    try clear c39
    try clear c40
    try clear c41
    try clear c43
    try clear c44
    try clear BZ
    try clear B0
    try clear B3
    try clear B4
    try clear B1
    try clear B2
    try clear B6
    try clear B7
    obtain ⟨kq,x182000_24,x182001_24,u182001,HA,BT,Ba,Bj,Bc,Bb,Bl,HI0,HK,HB⟩:=hcut
    cases kq with
   |zero=>exact absurd HA.out (by simp [spec_l97Clock.j1])
   |succ kj24 =>
     have H:=HA.out
     clear HA
     simp only [spec_l97Clock.j1] at H
     replace H:=oC H
     obtain ⟨⟨t198,t199⟩,A460,H⟩:=H
     replace H:(if t198=0 then ((spec_l6Rd_pick.f kj24 s0_0 t199 20).bind fun bt200=>((spec_ClockTick.f kj24 x182000_24 x182001_24 bt200.1).bind fun bt202=>(if bt202.2.2.2=true then (spec_l97Clock.l0 kj24 (wrap64 (yn-1)) s0_0 bt200.2 bt202.1 bt202.2.1) else (spec_l97Clock.l0 kj24 (wrap64 (yn-1)) s0_0 bt200.2 x182000_24 x182001_24)))) else (spec_l97Clock.l0 kj24 (wrap64 (yn-1)) s0_0 t199 x182000_24 x182001_24))=some (r1,r2,r3):=H
     have A46:=Am A460
     clear A460
     by_cases c47:t198=0
     rotate_left
     ·rw [if_neg c47] at H
      have c47b0:(t198==0)=false:=beq_eq_false_iff_ne.mpr c47
      have c47b1:(t198 != 0)=true:=bne_iff_ne.mpr c47
      have H':=Am H
      clear H
      go_wp2_with (first|((with_reducible refine gC (f:=13) rfl ?_);refine goesL_ (some 44) rfl rfl Try.func13 (by kernel_rfl) rfl #[.pointer (some ⟨g,0,none⟩),.int .i64 4] rfl (by (try simp only [lM,lC,lN]);first|done|rfl|(simp only [lD,lT];rfl)) ?_;(with_reducible refine (spec_l6Rd_pick.calls kj24 g s0_0 t191 4 t198 t199 w0 _ ?side1 ?side2 A46.out).mono ?_);(case side1=>repeat (first|(with_reducible first|exact HI0.out|apply qsA|apply qsN|apply qsD|apply qsS|refine qsF ?_ Be.out _|refine qsF ?_ Bf.out _|refine qsF ?_ Bm.out _)|exact HI0.out));(case side2=>repeat (first|(with_reducible first|exact HB.out|apply oA|apply pN|apply o1|refine bS ?_ (qsG HI0.out)|refine bS ?_ Bo.out|refine bS ?_ Bp.out|refine bS ?_ Br.out)|exact HB.out));rintro e w80 ⟨rfl,hi,hb,hk⟩;refine ⟨_,rfl,?_⟩;have n0_:=Am (rM (Kd.R_keep (IsS51.apart (show IsS51 w0 _ g s0_0 t191 from by repeat (first|(with_reducible first|exact HI0.out|apply qsA|apply qsN|apply qsD|apply qsS|refine qsF ?_ Be.out _|refine qsF ?_ Bf.out _|refine qsF ?_ Bm.out _)|exact HI0.out)) (rL Ba.out) (by decide)) hk (fun _ h=>h.2)) (fun _ h=>h.1));have n1_:=Am (rM (Kd.R_keep (IsS51.apart (show IsS51 w0 _ g s0_0 t191 from by repeat (first|(with_reducible first|exact HI0.out|apply qsA|apply qsN|apply qsD|apply qsS|refine qsF ?_ Be.out _|refine qsF ?_ Bf.out _|refine qsF ?_ Bm.out _)|exact HI0.out)) (rL Bj.out) (by decide)) hk (fun _ h=>h.2)) (fun _ h=>h.1));have n2_:=Am (qkB hk (g':=Bg) (o:=.cells #[.int .i64 0,.slice none 0 0] 25 (0,0)) (bL Bc.out) Bz.out (by simp));have n3_:=Am (qkB hk (g':=Bd) (o:=.cells #[.int .i64 x182000_24,u182001] 25 (0,0)) (bL Bb.out) Bw.out (by simp));have n4_:=Am (qkB hk (g':=Bh) (o:=.cells #[.int .i64 t192,.slice Ao36 t193.length co36] 25 (0,0)) (bL Bl.out) Bx.out (by simp));have n5_:=Am (KeepBut.trans (by repeat (first|(with_reducible first|exact HK.out|apply qkS|apply qkN|apply qkD|apply qkA|refine qkF ?_ Bi.out _|refine qkF ?_ Bk.out _|refine qkF ?_ Bq.out _)|exact HK.out)) hk (.inl rfl));have n6_:=Am (hb);have n7_:=Am (hi);clear Ba Bj Bc Bb Bl HK HB HI0;revert n0_ n1_ n2_ n3_ n4_ n5_ n6_ n7_;intro Ba Bj Bc Bb Bl HK HB HI0;(try clear hb);(try clear hb2);(try clear hk);(try clear hi)))
      go_roundg kj24
      case measure=>have:=HK1.out;have:=BT.out;omega
      case rel=>exact ⟨(wrap64 (yn-1)),(t199),(x182000_24),(x182001_24),(u182001),(by first|rfl|(simp;done)|(simp [*];done)),H',⟨by have:=HK1.out;have:=BT.out;omega⟩,⟨by (with_reducible repeat (first|apply rA|apply rN|apply rD));exact Ba.out⟩,⟨by (with_reducible repeat (first|refine bN ?_ _|refine bD ?_|refine bA ?_ _));exact Bc.out⟩,⟨by (with_reducible repeat (first|refine bN ?_ _|refine bD ?_|refine bA ?_ _));exact Bb.out⟩,⟨by repeat (first|(with_reducible first|exact HI0.out|apply qsA|apply qsN|apply qsD|apply qsS|refine qsF ?_ Be.out _|refine qsF ?_ Bf.out _|refine qsF ?_ Bm.out _)|exact HI0.out)⟩,⟨by repeat (first|(with_reducible first|exact HK.out|apply qkS|apply qkN|apply qkD|apply qkA|refine qkF ?_ Bi.out _|refine qkF ?_ Bk.out _|refine qkF ?_ Bq.out _)|exact HK.out)⟩,⟨by repeat (first|(with_reducible first|exact HB.out|apply oA|apply pN|apply o1|refine bS ?_ (qsG HI0.out)|refine bS ?_ Bo.out|refine bS ?_ Bp.out|refine bS ?_ Br.out)|exact HB.out)⟩⟩
     rw [if_pos c47] at H
     have c47b0:(t198==0)=true:=beq_iff_eq.mpr c47
     have c47b1:(t198 != 0)=false:=bne_eq_false_iff_eq.mpr c47
     clear c47
     replace H:=oC H
     obtain ⟨⟨t200,t201⟩,A480,H⟩:=H
     replace H:((spec_ClockTick.f kj24 x182000_24 x182001_24 t200).bind fun bt202=>(if bt202.2.2.2=true then (spec_l97Clock.l0 kj24 (wrap64 (yn-1)) s0_0 t201 bt202.1 bt202.2.1) else (spec_l97Clock.l0 kj24 (wrap64 (yn-1)) s0_0 t201 x182000_24 x182001_24)))=some (r1,r2,r3):=H
     have A48:=Am A480
     clear A480
     replace H:=oC H
     obtain ⟨⟨t202,t203,t206,t209⟩,A490,H⟩:=H
     replace H:(if t209=true then (spec_l97Clock.l0 kj24 (wrap64 (yn-1)) s0_0 t201 t202 t203) else (spec_l97Clock.l0 kj24 (wrap64 (yn-1)) s0_0 t201 x182000_24 x182001_24))=some (r1,r2,r3):=H
     have A49:=Am A490
     clear A490
     by_cases c50:t209=true
     rotate_left
     ·replace c50:=Bool.eq_false_iff.mpr c50
      subst c50
      have H1:(spec_l97Clock.l0 kj24 (wrap64 (yn-1)) s0_0 t201 x182000_24 x182001_24)=some (r1,r2,r3):=by rw [if_neg (show ¬ (false=true) by decide)] at H;exact H
      clear H
      have H:=H1
      clear H1
      have H':=Am H
      clear H
      try go_wp2_with (first|((with_reducible refine gC (f:=13) rfl ?_);refine goesL_ (some 44) rfl rfl Try.func13 (by kernel_rfl) rfl #[.pointer (some ⟨g,0,none⟩),.int .i64 4] rfl (by (try simp only [lM,lC,lN]);first|done|rfl|(simp only [lD,lT];rfl)) ?_;(with_reducible refine (spec_l6Rd_pick.calls kj24 g s0_0 t191 4 t198 t199 w0 _ ?side1 ?side2 A46.out).mono ?_);(case side1=>repeat (first|(with_reducible first|exact HI0.out|apply qsA|apply qsN|apply qsD|apply qsS|refine qsF ?_ Be.out _|refine qsF ?_ Bf.out _|refine qsF ?_ Bm.out _)|exact HI0.out));(case side2=>repeat (first|(with_reducible first|exact HB.out|apply oA|apply pN|apply o1|refine bS ?_ (qsG HI0.out)|refine bS ?_ Bo.out|refine bS ?_ Bp.out|refine bS ?_ Br.out)|exact HB.out));rintro e w70 ⟨rfl,hi,hb,hk⟩;refine ⟨_,rfl,?_⟩;have n0_:=Am (rM (Kd.R_keep (IsS51.apart (show IsS51 w0 _ g s0_0 t191 from by repeat (first|(with_reducible first|exact HI0.out|apply qsA|apply qsN|apply qsD|apply qsS|refine qsF ?_ Be.out _|refine qsF ?_ Bf.out _|refine qsF ?_ Bm.out _)|exact HI0.out)) (rL Ba.out) (by decide)) hk (fun _ h=>h.2)) (fun _ h=>h.1));have n1_:=Am (rM (Kd.R_keep (IsS51.apart (show IsS51 w0 _ g s0_0 t191 from by repeat (first|(with_reducible first|exact HI0.out|apply qsA|apply qsN|apply qsD|apply qsS|refine qsF ?_ Be.out _|refine qsF ?_ Bf.out _|refine qsF ?_ Bm.out _)|exact HI0.out)) (rL Bj.out) (by decide)) hk (fun _ h=>h.2)) (fun _ h=>h.1));have n2_:=Am (qkB hk (g':=Bg) (o:=.cells #[.int .i64 0,.slice none 0 0] 25 (0,0)) (bL Bc.out) Bz.out (by simp));have n3_:=Am (qkB hk (g':=Bd) (o:=.cells #[.int .i64 x182000_24,u182001] 25 (0,0)) (bL Bb.out) Bw.out (by simp));have n4_:=Am (qkB hk (g':=Bh) (o:=.cells #[.int .i64 t192,.slice Ao36 t193.length co36] 25 (0,0)) (bL Bl.out) Bx.out (by simp));have n5_:=Am (KeepBut.trans (by repeat (first|(with_reducible first|exact HK.out|apply qkS|apply qkN|apply qkD|apply qkA|refine qkF ?_ Bi.out _|refine qkF ?_ Bk.out _|refine qkF ?_ Bq.out _)|exact HK.out)) hk (.inl rfl));have n6_:=Am (hb);have n7_:=Am (hi);clear Ba Bj Bc Bb Bl HK HB HI0;revert n0_ n1_ n2_ n3_ n4_ n5_ n6_ n7_;intro Ba Bj Bc Bb Bl HK HB HI0;(try clear hb);(try clear hb2);(try clear hk);(try clear hi);obtain ⟨Ao71,co71,eo71⟩:=rC Ba.out;subst eo71))
      have n0_:=Am (rD Ba.out)
      have n1_:=Am (rD Bj.out)
      have n2_:=Am (bD Bc.out)
      have n3_:=Am (bD Bb.out)
      have n4_:=Am (bD Bl.out)
      have n5_:=Am (qsD HI0.out)
      have n6_:=Am (qkD HK.out)
      have n7_:=Am (o1 HB.out)
      clear Ba
      clear Bj
      clear Bc
      clear Bb
      clear Bl
      clear HI0
      clear HK
      clear HB
      have Ba:=n0_
      have Bj:=n1_
      have Bc:=n2_
      have Bb:=n3_
      have Bl:=n4_
      have HI0:=n5_
      have HK:=n6_
      have HB:=n7_
      clear n0_ n1_ n2_ n3_ n4_ n5_ n6_ n7_
      refine start_ (n:=12) (S:=fun w'=>w'.cell? ⟨Bd,0,none⟩=some (.int .i64 x182000_24)∧w'.cell? ⟨Bd,1,none⟩=some (.slice Ao71 x182001_24.length co71)) (ds:=[]) z12q29 (by kernel_rfl) rfl rfl ⟨(bC Bb.out 0).trans rfl,(bC Bb.out 1).trans rfl⟩ (fun hHeld=>?_);refine with_st spec_l97Clock.tab9 spec_l97Clock.bits9 (fun _ _ _ _ _ h=>h) (fun HT_=>?_)
      generalize w70.drew=w72 at Ba Bj Bc Bb Bl HI0 HK HB hHeld ⊢
      refine pS 1 48 z12q30 HT_ rfl rfl (by kernel_rfl) (by rfl) (by intro w';go_simp;with_reducible rfl) (by simp only [Act.put,lA,lZ,lS,iw,jw];rfl) ?_
      refine tS 0 47 z12q31 HT_ hHeld rfl rfl (by kernel_rfl) (by rfl) (by rintro w' ⟨s0,s1⟩;go_simp;with_reducible rfl) (by simp only [Act.put,lA,lZ,lS,iw,jw];rfl) ?_
      refine join_ (σ:=Value × Value × Nat) 3 z12q32 (fun s_=>[(49,.int .i64 t200),(50,.tuple #[.agg #[.int .i64 t202,s_.1],s_.2.1,.bool false]),(8,.pointer (some ⟨s_.2.2,0,none⟩)),(46,.tuple #[.agg #[.int .i64 t202,s_.1],s_.2.1,.bool false]),(51,.agg #[.int .i64 t202,s_.1]),(52,s_.2.1),(53,.bool false)]) (fun s_ w'=>(w'.cell? ⟨Bd,0,none⟩=some (.int .i64 x182000_24)∧w'.cell? ⟨Bd,1,none⟩=some (.slice Ao71 x182001_24.length co71))∧(Kd.R k35 35 w' w.heap.size (fun k_=>some k_≠(.slice Ao71 x182001_24.length co71:Value).ownBlock∧some k_≠(.slice Ao36 t193.length co36:Value).ownBlock) s_.1 t203)∧(Kd.R (Kd.int .i64) 3 w' w.heap.size (fun _=>True) s_.2.1 t206)∧(Kd.R k35 35 w' w.heap.size (fun k_=>some k_≠(s_.1:Value).ownBlock) (.slice Ao71 x182001_24.length co71) x182001_24)∧(Kd.R k35 35 w' w.heap.size (fun k_=>some k_≠(s_.1:Value).ownBlock) (.slice Ao36 t193.length co36) t193)∧(w'.heap[Bg]?=some (.cells #[.int .i64 0,.slice none 0 0] 25 (0,0)))∧(w'.heap[Bd]?=some (.cells #[.int .i64 x182000_24,.slice Ao71 x182001_24.length co71] 25 (0,0)))∧(w'.heap[Bh]?=some (.cells #[.int .i64 t192,.slice Ao36 t193.length co36] 25 (0,0)))∧(w'.heap[s_.2.2]?=some (.cells #[.int .i64 0,.slice none 0 0] 25 (0,0)))∧(w.heap.size≤s_.2.2)∧(w0.heap.size≤s_.2.2)∧(g≠s_.2.2)∧(s_.2.2≠g)∧(Bg≠s_.2.2)∧(s_.2.2≠Bg)∧(Bd≠s_.2.2)∧(s_.2.2≠Bd)∧(Bh≠s_.2.2)∧(s_.2.2≠Bh)∧(IsS51 w0 w' g s0_0 t201)∧(KeepBut w w' g none)∧(Below w0.heap.size w0 w')) ?_ ?_
      rotate_left
      ·intro hCont
       refine two_ (i:=2) (j:=8) (Ni:=some 49) (Nj:=some 8) z12q33 z12q34 rfl rfl rfl rfl (two_of HT_.out (by kernel_rfl)) (by decide) (by decide) (fun K hK=>?_) (fun K hK=>?_)
       ·skip
        refine goes_ Try.func13 (by kernel_rfl) rfl #[.pointer (some ⟨g,0,none⟩),.int .i64 20] (by rfl) rfl rfl (by (try simp only [lM,lC,lN]);first|done|rfl|(simp only [lD,lT];rfl)) ?_
        with_reducible refine (spec_l6Rd_pick.calls kj24 g s0_0 t199 20 t200 t201 w0 _ ?side1 ?side2 A48.out).mono ?_
        (case side1=>repeat (first|(with_reducible first|exact HI0.out|apply qsA|apply qsN|apply qsD|apply qsS|refine qsF ?_ Be.out _|refine qsF ?_ Bf.out _|refine qsF ?_ Bm.out _)|exact HI0.out))
        (case side2=>repeat (first|(with_reducible first|exact HB.out|apply oA|apply pN|apply o1|refine bS ?_ (qsG HI0.out)|refine bS ?_ Bo.out|refine bS ?_ Bp.out|refine bS ?_ Br.out)|exact HB.out))
        rintro e w73 ⟨rfl,hi,hb,hk⟩
        refine ⟨_,rfl,?_⟩
        have n0_:=Am (rM (Kd.R_keep (IsS51.apart (show IsS51 w0 _ g s0_0 t199 from by repeat (first|(with_reducible first|exact HI0.out|apply qsA|apply qsN|apply qsD|apply qsS|refine qsF ?_ Be.out _|refine qsF ?_ Bf.out _|refine qsF ?_ Bm.out _)|exact HI0.out)) (rL Ba.out) (by decide)) hk (fun _ h=>h.2)) (fun _ h=>h.1))
        have n1_:=Am (rM (Kd.R_keep (IsS51.apart (show IsS51 w0 _ g s0_0 t199 from by repeat (first|(with_reducible first|exact HI0.out|apply qsA|apply qsN|apply qsD|apply qsS|refine qsF ?_ Be.out _|refine qsF ?_ Bf.out _|refine qsF ?_ Bm.out _)|exact HI0.out)) (rL Bj.out) (by decide)) hk (fun _ h=>h.2)) (fun _ h=>h.1))
        have n2_:=Am (qkB hk (g':=Bg) (o:=.cells #[.int .i64 0,.slice none 0 0] 25 (0,0)) (bL Bc.out) Bz.out (by simp))
        have n3_:=Am (qkB hk (g':=Bd) (o:=.cells #[.int .i64 x182000_24,.slice Ao71 x182001_24.length co71] 25 (0,0)) (bL Bb.out) Bw.out (by simp))
        have n4_:=Am (qkB hk (g':=Bh) (o:=.cells #[.int .i64 t192,.slice Ao36 t193.length co36] 25 (0,0)) (bL Bl.out) Bx.out (by simp))
        have n5_:=Am (KeepBut.trans (by repeat (first|(with_reducible first|exact HK.out|apply qkS|apply qkN|apply qkD|apply qkA|refine qkF ?_ Bi.out _|refine qkF ?_ Bk.out _|refine qkF ?_ Bq.out _)|exact HK.out)) hk (.inl rfl))
        have n6_:=Am (hb)
        have n7_:=Am (hi)
        clear Ba
        clear Bj
        clear Bc
        clear Bb
        clear Bl
        clear HK
        clear HB
        clear HI0
        have Ba:=n0_
        have Bj:=n1_
        have Bc:=n2_
        have Bb:=n3_
        have Bl:=n4_
        have HK:=n5_
        have HB:=n6_
        have HI0:=n7_
        clear n0_ n1_ n2_ n3_ n4_ n5_ n6_ n7_
        (try clear hb)
        (try clear hb2)
        (try clear hk)
        (try clear hi)
        refine hK.out _ _ ⟨(bC Bb.out 0).trans rfl,(bC Bb.out 1).trans rfl⟩ (fun hHeld=>?_)
        clear hK K
        refine norm_ (by show Act.put _ (some 49) _=_;simp only [Act.put,lA,lZ,lS,iw,jw];rfl) ?_
        refine two_ (i:=3) (j:=8) (Ni:=some 50) (Nj:=some 8) z12q35 z12q36 rfl rfl rfl rfl (two_of HT_.out (by kernel_rfl)) (by decide) (by decide) (fun K hK=>?_) (fun K hK=>?_)
        ·skip
         refine goes_ Try.func24 (by kernel_rfl) rfl #[.agg #[.int .i64 x182000_24,.slice Ao71 x182001_24.length co71],.int .i64 t200] (by rfl) rfl rfl (by (try simp only [lM,lC,lN]);first|done|rfl|(simp only [lD,lT];rfl)) ?_
         with_reducible refine (spec_ClockTick.calls kj24 x182000_24 _ _ x182001_24 t200 t202 t203 t206 false _ ?side1 ?side2 A49.out).mono ?_
         (case side1=>exact cL (rR Ba.out).2.2)
         (case side2=>exact (rR Ba.out).2.1)
         rintro e w74 ⟨v204,v207,rfl,ho0,ho1,hb⟩
         refine ⟨_,rfl,?_⟩
         have n0_:=Am (rX (rL Ba.out) (rZ ho0) hb)
         have n1_:=Am (rX (rL Bj.out) (rZ ho0) hb)
         have n2_:=Am (rW (rQ (rQ ho0 (rI (rL Ba.out))) (rI (rL Bj.out))) (keep_size (w:=w) (g:=g) (row:=none) (by repeat (first|(with_reducible first|exact HK.out|apply qkS|apply qkN|apply qkD|apply qkA|refine qkF ?_ Bi.out _|refine qkF ?_ Bk.out _|refine qkF ?_ Bq.out _)|exact HK.out))))
         have n3_:=Am (rW ho1 (keep_size (w:=w) (g:=g) (row:=none) (by repeat (first|(with_reducible first|exact HK.out|apply qkS|apply qkN|apply qkD|apply qkA|refine qkF ?_ Bi.out _|refine qkF ?_ Bk.out _|refine qkF ?_ Bq.out _)|exact HK.out))))
         have n4_:=Am (bX Bc.out hb)
         have n5_:=Am (bX Bb.out hb)
         have n6_:=Am (bX Bl.out hb)
         have n7_:=Am (IsS51.below (by repeat (first|(with_reducible first|exact HI0.out|apply qsA|apply qsN|apply qsD|apply qsS|refine qsF ?_ Be.out _|refine qsF ?_ Bf.out _|refine qsF ?_ Bm.out _)|exact HI0.out)) hb)
         have n8_:=Am (KeepBut.trans (by repeat (first|(with_reducible first|exact HK.out|apply qkS|apply qkN|apply qkD|apply qkA|refine qkF ?_ Bi.out _|refine qkF ?_ Bk.out _|refine qkF ?_ Bq.out _)|exact HK.out)) (KeepBut.of_below hb g none) (.inl rfl))
         have n9_:=Am (bP (by repeat (first|(with_reducible first|exact HB.out|apply oA|apply pN|apply o1|refine bS ?_ (qsG HI0.out)|refine bS ?_ Bo.out|refine bS ?_ Bp.out|refine bS ?_ Br.out)|exact HB.out)) hb)
         clear Ba
         clear Bj
         clear Bc
         clear Bb
         clear Bl
         clear HI0
         clear HK
         clear HB
         have Ba:=n0_
         have Bj:=n1_
         have BM:=n2_
         have BN:=n3_
         have Bc:=n4_
         have Bb:=n5_
         have Bl:=n6_
         have HI0:=n7_
         have HK:=n8_
         have HB:=n9_
         clear n0_ n1_ n2_ n3_ n4_ n5_ n6_ n7_ n8_ n9_
         (try clear hb)
         (try clear hb2)
         (try clear hk)
         (try clear hi)
         (try clear ho0)
         (try clear ho1)
         refine hK.out _ _ ⟨(bC Bb.out 0).trans rfl,(bC Bb.out 1).trans rfl⟩ (fun hHeld=>?_)
         clear hK K
         refine norm_ (by show Act.put _ (some 50) _=_;simp only [Act.put,lA,lZ,lS,iw,jw];rfl) ?_
         refine pS 4 46 z12q37 HT_ rfl rfl (by kernel_rfl) (by rfl) (by intro w';go_simp;with_reducible rfl) (by simp only [Act.put,lA,lZ,lS,iw,jw];rfl) ?_
         refine pS 5 51 z12q38 HT_ rfl rfl (by kernel_rfl) (by rfl) (by intro w';go_simp;with_reducible rfl) (by simp only [Act.put,lA,lZ,lS,iw,jw];rfl) ?_
         refine pS 6 52 z12q39 HT_ rfl rfl (by kernel_rfl) (by rfl) (by intro w';go_simp;with_reducible rfl) (by simp only [Act.put,lA,lZ,lS,iw,jw];rfl) ?_
         refine pS 7 53 z12q40 HT_ rfl rfl (by kernel_rfl) (by rfl) (by intro w';go_simp;with_reducible rfl) (by simp only [Act.put,lA,lZ,lS,iw,jw];rfl) ?_
         refine oS 8 8 z12q32 HT_ rfl rfl (by kernel_rfl) (by decide) (fun K hK=>?_)
         refine box_step ?hg (N:=8) ?hd (cs:=#[.int .i64 0,.slice none 0 0]) (t:=25) ?hr ?_;(case hd=>rfl);(case hg=>rfl);(case hr=>first|(go_simp;done)|(go_simp;rfl))
         intro Bn hg w75 hbox hb
         have n0_:=Am (rB (rL Ba.out) hb)
         have n1_:=Am (rB (rL Bj.out) hb)
         have n2_:=Am (rB (rL BM.out) hb)
         have n3_:=Am (rB (rL BN.out) hb)
         have n4_:=Am (bX Bc.out hb)
         have n5_:=Am (bX Bb.out hb)
         have n6_:=Am (bX Bl.out hb)
         have n7_:=Am (IsS51.below (by repeat (first|(with_reducible first|exact HI0.out|apply qsA|apply qsN|apply qsD|apply qsS|refine qsF ?_ Be.out _|refine qsF ?_ Bf.out _|refine qsF ?_ Bm.out _)|exact HI0.out)) hb)
         have n8_:=Am (KeepBut.trans (by repeat (first|(with_reducible first|exact HK.out|apply qkS|apply qkN|apply qkD|apply qkA|refine qkF ?_ Bi.out _|refine qkF ?_ Bk.out _|refine qkF ?_ Bq.out _)|exact HK.out)) (KeepBut.of_below hb g none) (.inl rfl))
         have n9_:=Am (bP (by repeat (first|(with_reducible first|exact HB.out|apply oA|apply pN|apply o1|refine bS ?_ (qsG HI0.out)|refine bS ?_ Bo.out|refine bS ?_ Bp.out|refine bS ?_ Br.out)|exact HB.out)) hb)
         have n10_:=Am (hbox)
         have n11_:=Am ((by rw [hg];exact (keep_size (w:=w) (g:=g) (row:=none) (by repeat (first|(with_reducible first|exact HK.out|apply qkS|apply qkN|apply qkD|apply qkA|refine qkF ?_ Bi.out _|refine qkF ?_ Bk.out _|refine qkF ?_ Bq.out _)|exact HK.out))):w.heap.size≤Bn))
         have n12_:=Am ((Nat.le_trans HW0.out (by rw [hg];exact (keep_size (w:=w) (g:=g) (row:=none) (by repeat (first|(with_reducible first|exact HK.out|apply qkS|apply qkN|apply qkD|apply qkA|refine qkF ?_ Bi.out _|refine qkF ?_ Bk.out _|refine qkF ?_ Bq.out _)|exact HK.out))):w.heap.size≤Bn):w0.heap.size≤Bn))
         have n13_:=Am ((nL Bc.out hg))
         have n14_:=Am ((nG Bc.out hg))
         have n15_:=Am ((nL Bb.out hg))
         have n16_:=Am ((nG Bb.out hg))
         have n17_:=Am ((nL Bl.out hg))
         have n18_:=Am ((nG Bl.out hg))
         have n19_:=Am ((by rw [hg];exact nI (IsS51.lt (show IsS51 w0 _ g s0_0 t201 from by repeat (first|(with_reducible first|exact HI0.out|apply qsA|apply qsN|apply qsD|apply qsS|refine qsF ?_ Be.out _|refine qsF ?_ Bf.out _|refine qsF ?_ Bm.out _)|exact HI0.out))):g≠Bn))
         have n20_:=Am ((by rw [hg];exact nJ (IsS51.lt (show IsS51 w0 _ g s0_0 t201 from by repeat (first|(with_reducible first|exact HI0.out|apply qsA|apply qsN|apply qsD|apply qsS|refine qsF ?_ Be.out _|refine qsF ?_ Bf.out _|refine qsF ?_ Bm.out _)|exact HI0.out))):Bn≠g))
         clear Ba
         clear Bj
         clear BM
         clear BN
         clear Bc
         clear Bb
         clear Bl
         clear HI0
         clear HK
         clear HB
         have Ba:=n0_
         have Bj:=n1_
         have BM:=n2_
         have BN:=n3_
         have Bc:=n4_
         have Bb:=n5_
         have Bl:=n6_
         have HI0:=n7_
         have HK:=n8_
         have HB:=n9_
         have BB:=n10_
         have BE:=n11_
         have BJ:=n12_
         have BD:=n13_
         have BF:=n14_
         have Bt:=n15_
         have BG:=n16_
         have BH:=n17_
         have BI:=n18_
         have BA:=n19_
         have BL:=n20_
         clear n0_ n1_ n2_ n3_ n4_ n5_ n6_ n7_ n8_ n9_ n10_ n11_ n12_ n13_ n14_ n15_ n16_ n17_ n18_ n19_ n20_
         clear hb hbox hg
         refine hK.out _ _ ⟨(bC Bb.out 0).trans rfl,(bC Bb.out 1).trans rfl⟩ (fun hHeld=>?_)
         clear hK K
         refine norm_ (by show Act.put _ (some 8) _=_;simp only [Act.put,lA,lZ,lS,iw,jw];rfl) ?_
         exact norm_ (by simp only [putAll,Act.put,lA,lZ,lS]) (hCont (v204,v207,Bn) _ ⟨hHeld,(by (with_reducible repeat (first|apply rA|apply rN|apply rD));exact rM BM.out (fun _ hk=>⟨hk.1.2,hk.2⟩)),(rL BN.out),(by (with_reducible repeat (first|apply rA|apply rN|apply rD));exact rM Ba.out (fun _ hk=>hk.2)),(by (with_reducible repeat (first|apply rA|apply rN|apply rD));exact rM Bj.out (fun _ hk=>hk.2)),(bL Bc.out),(bL Bb.out),(bL Bl.out),(bL BB.out),BE.out,BJ.out,BA.out,BL.out,BD.out,BF.out,Bt.out,BG.out,BH.out,BI.out,(by repeat (first|(with_reducible first|exact HI0.out|apply qsA|apply qsN|apply qsD|apply qsS|refine qsF ?_ Be.out _|refine qsF ?_ Bf.out _|refine qsF ?_ Bm.out _|refine qsF ?_ BA.out _)|exact HI0.out)),(by repeat (first|(with_reducible first|exact HK.out|apply qkS|apply qkN|apply qkD|apply qkA|refine qkF ?_ Bi.out _|refine qkF ?_ Bk.out _|refine qkF ?_ Bq.out _|refine qkF ?_ BE.out _)|exact HK.out)),(by repeat (first|(with_reducible first|exact HB.out|apply oA|apply pN|apply o1|refine bS ?_ (qsG HI0.out)|refine bS ?_ Bo.out|refine bS ?_ Bp.out|refine bS ?_ Br.out|refine bS ?_ BJ.out)|exact HB.out))⟩)
        ·skip
         refine box_step ?hg (N:=8) ?hd (cs:=#[.int .i64 0,.slice none 0 0]) (t:=25) ?hr ?_;(case hd=>rfl);(case hg=>rfl);(case hr=>first|(go_simp;done)|(go_simp;rfl))
         intro Bn hg w74 hbox hb
         have n0_:=Am (rB (rL Ba.out) hb)
         have n1_:=Am (rB (rL Bj.out) hb)
         have n2_:=Am (bX Bc.out hb)
         have n3_:=Am (bX Bb.out hb)
         have n4_:=Am (bX Bl.out hb)
         have n5_:=Am (IsS51.below (by repeat (first|(with_reducible first|exact HI0.out|apply qsA|apply qsN|apply qsD|apply qsS|refine qsF ?_ Be.out _|refine qsF ?_ Bf.out _|refine qsF ?_ Bm.out _)|exact HI0.out)) hb)
         have n6_:=Am (KeepBut.trans (by repeat (first|(with_reducible first|exact HK.out|apply qkS|apply qkN|apply qkD|apply qkA|refine qkF ?_ Bi.out _|refine qkF ?_ Bk.out _|refine qkF ?_ Bq.out _)|exact HK.out)) (KeepBut.of_below hb g none) (.inl rfl))
         have n7_:=Am (bP (by repeat (first|(with_reducible first|exact HB.out|apply oA|apply pN|apply o1|refine bS ?_ (qsG HI0.out)|refine bS ?_ Bo.out|refine bS ?_ Bp.out|refine bS ?_ Br.out)|exact HB.out)) hb)
         have n8_:=Am (hbox)
         have n9_:=Am ((by rw [hg];exact (keep_size (w:=w) (g:=g) (row:=none) (by repeat (first|(with_reducible first|exact HK.out|apply qkS|apply qkN|apply qkD|apply qkA|refine qkF ?_ Bi.out _|refine qkF ?_ Bk.out _|refine qkF ?_ Bq.out _)|exact HK.out))):w.heap.size≤Bn))
         have n10_:=Am ((Nat.le_trans HW0.out (by rw [hg];exact (keep_size (w:=w) (g:=g) (row:=none) (by repeat (first|(with_reducible first|exact HK.out|apply qkS|apply qkN|apply qkD|apply qkA|refine qkF ?_ Bi.out _|refine qkF ?_ Bk.out _|refine qkF ?_ Bq.out _)|exact HK.out))):w.heap.size≤Bn):w0.heap.size≤Bn))
         have n11_:=Am ((nL Bc.out hg))
         have n12_:=Am ((nG Bc.out hg))
         have n13_:=Am ((nL Bb.out hg))
         have n14_:=Am ((nG Bb.out hg))
         have n15_:=Am ((nL Bl.out hg))
         have n16_:=Am ((nG Bl.out hg))
         have n17_:=Am ((by rw [hg];exact nI (IsS51.lt (show IsS51 w0 _ g s0_0 t201 from by repeat (first|(with_reducible first|exact HI0.out|apply qsA|apply qsN|apply qsD|apply qsS|refine qsF ?_ Be.out _|refine qsF ?_ Bf.out _|refine qsF ?_ Bm.out _)|exact HI0.out))):g≠Bn))
         have n18_:=Am ((by rw [hg];exact nJ (IsS51.lt (show IsS51 w0 _ g s0_0 t201 from by repeat (first|(with_reducible first|exact HI0.out|apply qsA|apply qsN|apply qsD|apply qsS|refine qsF ?_ Be.out _|refine qsF ?_ Bf.out _|refine qsF ?_ Bm.out _)|exact HI0.out))):Bn≠g))
         clear Ba
         clear Bj
         clear Bc
         clear Bb
         clear Bl
         clear HI0
         clear HK
         clear HB
         have Ba:=n0_
         have Bj:=n1_
         have Bc:=n2_
         have Bb:=n3_
         have Bl:=n4_
         have HI0:=n5_
         have HK:=n6_
         have HB:=n7_
         have BB:=n8_
         have BE:=n9_
         have BJ:=n10_
         have BD:=n11_
         have BF:=n12_
         have Bt:=n13_
         have BG:=n14_
         have BH:=n15_
         have BI:=n16_
         have BA:=n17_
         have BL:=n18_
         clear n0_ n1_ n2_ n3_ n4_ n5_ n6_ n7_ n8_ n9_ n10_ n11_ n12_ n13_ n14_ n15_ n16_ n17_ n18_
         clear hb hbox hg
         refine hK.out _ _ ⟨(bC Bb.out 0).trans rfl,(bC Bb.out 1).trans rfl⟩ (fun hHeld=>?_)
         clear hK K
         refine norm_ (by show Act.put _ (some 8) _=_;simp only [Act.put,lA,lZ,lS,iw,jw];rfl) ?_
         refine oS 3 50 z12q41 HT_ rfl rfl (by kernel_rfl) (by decide) (fun K hK=>?_)
         refine goes_ Try.func24 (by kernel_rfl) rfl #[.agg #[.int .i64 x182000_24,.slice Ao71 x182001_24.length co71],.int .i64 t200] (by rfl) rfl rfl (by (try simp only [lM,lC,lN]);first|done|rfl|(simp only [lD,lT];rfl)) ?_
         with_reducible refine (spec_ClockTick.calls kj24 x182000_24 _ _ x182001_24 t200 t202 t203 t206 false _ ?side1 ?side2 A49.out).mono ?_
         (case side1=>exact cL (rR Ba.out).2.2)
         (case side2=>exact (rR Ba.out).2.1)
         rintro e w75 ⟨v204,v207,rfl,ho0,ho1,hb⟩
         refine ⟨_,rfl,?_⟩
         have n0_:=Am (rX (rL Ba.out) (rZ ho0) hb)
         have n1_:=Am (rX (rL Bj.out) (rZ ho0) hb)
         have n2_:=Am (rW (rQ (rQ ho0 (rI (rL Ba.out))) (rI (rL Bj.out))) (keep_size (w:=w) (g:=g) (row:=none) (by repeat (first|(with_reducible first|exact HK.out|apply qkS|apply qkN|apply qkD|apply qkA|refine qkF ?_ Bi.out _|refine qkF ?_ Bk.out _|refine qkF ?_ Bq.out _|refine qkF ?_ BE.out _)|exact HK.out))))
         have n3_:=Am (rW ho1 (keep_size (w:=w) (g:=g) (row:=none) (by repeat (first|(with_reducible first|exact HK.out|apply qkS|apply qkN|apply qkD|apply qkA|refine qkF ?_ Bi.out _|refine qkF ?_ Bk.out _|refine qkF ?_ Bq.out _|refine qkF ?_ BE.out _)|exact HK.out))))
         have n4_:=Am (bX Bc.out hb)
         have n5_:=Am (bX Bb.out hb)
         have n6_:=Am (bX Bl.out hb)
         have n7_:=Am (IsS51.below (by repeat (first|(with_reducible first|exact HI0.out|apply qsA|apply qsN|apply qsD|apply qsS|refine qsF ?_ Be.out _|refine qsF ?_ Bf.out _|refine qsF ?_ Bm.out _|refine qsF ?_ BA.out _)|exact HI0.out)) hb)
         have n8_:=Am (bX BB.out hb)
         have n9_:=Am (KeepBut.trans (by repeat (first|(with_reducible first|exact HK.out|apply qkS|apply qkN|apply qkD|apply qkA|refine qkF ?_ Bi.out _|refine qkF ?_ Bk.out _|refine qkF ?_ Bq.out _|refine qkF ?_ BE.out _)|exact HK.out)) (KeepBut.of_below hb g none) (.inl rfl))
         have n10_:=Am (bP (by repeat (first|(with_reducible first|exact HB.out|apply oA|apply pN|apply o1|refine bS ?_ (qsG HI0.out)|refine bS ?_ Bo.out|refine bS ?_ Bp.out|refine bS ?_ Br.out|refine bS ?_ BJ.out)|exact HB.out)) hb)
         clear Ba
         clear Bj
         clear Bc
         clear Bb
         clear Bl
         clear HI0
         clear BB
         clear HK
         clear HB
         have Ba:=n0_
         have Bj:=n1_
         have BM:=n2_
         have BN:=n3_
         have Bc:=n4_
         have Bb:=n5_
         have Bl:=n6_
         have HI0:=n7_
         have BB:=n8_
         have HK:=n9_
         have HB:=n10_
         clear n0_ n1_ n2_ n3_ n4_ n5_ n6_ n7_ n8_ n9_ n10_
         (try clear hb)
         (try clear hb2)
         (try clear hk)
         (try clear hi)
         (try clear ho0)
         (try clear ho1)
         refine hK.out _ _ ⟨(bC Bb.out 0).trans rfl,(bC Bb.out 1).trans rfl⟩ (fun hHeld=>?_)
         clear hK K
         refine norm_ (by show Act.put _ (some 50) _=_;simp only [Act.put,lA,lZ,lS,iw,jw];rfl) ?_
         refine pS 4 46 z12q42 HT_ rfl rfl (by kernel_rfl) (by rfl) (by intro w';go_simp;with_reducible rfl) (by simp only [Act.put,lA,lZ,lS,iw,jw];rfl) ?_
         refine pS 5 51 z12q43 HT_ rfl rfl (by kernel_rfl) (by rfl) (by intro w';go_simp;with_reducible rfl) (by simp only [Act.put,lA,lZ,lS,iw,jw];rfl) ?_
         refine pS 6 52 z12q44 HT_ rfl rfl (by kernel_rfl) (by rfl) (by intro w';go_simp;with_reducible rfl) (by simp only [Act.put,lA,lZ,lS,iw,jw];rfl) ?_
         refine pS 7 53 z12q32 HT_ rfl rfl (by kernel_rfl) (by rfl) (by intro w';go_simp;with_reducible rfl) (by simp only [Act.put,lA,lZ,lS,iw,jw];rfl) ?_
         exact norm_ (by simp only [putAll,Act.put,lA,lZ,lS]) (hCont (v204,v207,Bn) _ ⟨hHeld,(by (with_reducible repeat (first|apply rA|apply rN|apply rD));exact rM BM.out (fun _ hk=>⟨hk.1.2,hk.2⟩)),(rL BN.out),(by (with_reducible repeat (first|apply rA|apply rN|apply rD));exact rM Ba.out (fun _ hk=>hk.2)),(by (with_reducible repeat (first|apply rA|apply rN|apply rD));exact rM Bj.out (fun _ hk=>hk.2)),(bL Bc.out),(bL Bb.out),(bL Bl.out),(bL BB.out),BE.out,BJ.out,BA.out,BL.out,BD.out,BF.out,Bt.out,BG.out,BH.out,BI.out,(by repeat (first|(with_reducible first|exact HI0.out|apply qsA|apply qsN|apply qsD|apply qsS|refine qsF ?_ Be.out _|refine qsF ?_ Bf.out _|refine qsF ?_ Bm.out _|refine qsF ?_ BA.out _)|exact HI0.out)),(by repeat (first|(with_reducible first|exact HK.out|apply qkS|apply qkN|apply qkD|apply qkA|refine qkF ?_ Bi.out _|refine qkF ?_ Bk.out _|refine qkF ?_ Bq.out _|refine qkF ?_ BE.out _)|exact HK.out)),(by repeat (first|(with_reducible first|exact HB.out|apply oA|apply pN|apply o1|refine bS ?_ (qsG HI0.out)|refine bS ?_ Bo.out|refine bS ?_ Bp.out|refine bS ?_ Br.out|refine bS ?_ BJ.out)|exact HB.out))⟩)
       ·skip
        refine box_step ?hg (N:=8) ?hd (cs:=#[.int .i64 0,.slice none 0 0]) (t:=25) ?hr ?_;(case hd=>rfl);(case hg=>rfl);(case hr=>first|(go_simp;done)|(go_simp;rfl))
        intro Bn hg w73 hbox hb
        have n0_:=Am (rB (rL Ba.out) hb)
        have n1_:=Am (rB (rL Bj.out) hb)
        have n2_:=Am (bX Bc.out hb)
        have n3_:=Am (bX Bb.out hb)
        have n4_:=Am (bX Bl.out hb)
        have n5_:=Am (IsS51.below (by repeat (first|(with_reducible first|exact HI0.out|apply qsA|apply qsN|apply qsD|apply qsS|refine qsF ?_ Be.out _|refine qsF ?_ Bf.out _|refine qsF ?_ Bm.out _)|exact HI0.out)) hb)
        have n6_:=Am (KeepBut.trans (by repeat (first|(with_reducible first|exact HK.out|apply qkS|apply qkN|apply qkD|apply qkA|refine qkF ?_ Bi.out _|refine qkF ?_ Bk.out _|refine qkF ?_ Bq.out _)|exact HK.out)) (KeepBut.of_below hb g none) (.inl rfl))
        have n7_:=Am (bP (by repeat (first|(with_reducible first|exact HB.out|apply oA|apply pN|apply o1|refine bS ?_ (qsG HI0.out)|refine bS ?_ Bo.out|refine bS ?_ Bp.out|refine bS ?_ Br.out)|exact HB.out)) hb)
        have n8_:=Am (hbox)
        have n9_:=Am ((by rw [hg];exact (keep_size (w:=w) (g:=g) (row:=none) (by repeat (first|(with_reducible first|exact HK.out|apply qkS|apply qkN|apply qkD|apply qkA|refine qkF ?_ Bi.out _|refine qkF ?_ Bk.out _|refine qkF ?_ Bq.out _)|exact HK.out))):w.heap.size≤Bn))
        have n10_:=Am ((Nat.le_trans HW0.out (by rw [hg];exact (keep_size (w:=w) (g:=g) (row:=none) (by repeat (first|(with_reducible first|exact HK.out|apply qkS|apply qkN|apply qkD|apply qkA|refine qkF ?_ Bi.out _|refine qkF ?_ Bk.out _|refine qkF ?_ Bq.out _)|exact HK.out))):w.heap.size≤Bn):w0.heap.size≤Bn))
        have n11_:=Am ((nL Bc.out hg))
        have n12_:=Am ((nG Bc.out hg))
        have n13_:=Am ((nL Bb.out hg))
        have n14_:=Am ((nG Bb.out hg))
        have n15_:=Am ((nL Bl.out hg))
        have n16_:=Am ((nG Bl.out hg))
        have n17_:=Am ((by rw [hg];exact nI (IsS51.lt (show IsS51 w0 _ g s0_0 t199 from by repeat (first|(with_reducible first|exact HI0.out|apply qsA|apply qsN|apply qsD|apply qsS|refine qsF ?_ Be.out _|refine qsF ?_ Bf.out _|refine qsF ?_ Bm.out _)|exact HI0.out))):g≠Bn))
        have n18_:=Am ((by rw [hg];exact nJ (IsS51.lt (show IsS51 w0 _ g s0_0 t199 from by repeat (first|(with_reducible first|exact HI0.out|apply qsA|apply qsN|apply qsD|apply qsS|refine qsF ?_ Be.out _|refine qsF ?_ Bf.out _|refine qsF ?_ Bm.out _)|exact HI0.out))):Bn≠g))
        clear Ba
        clear Bj
        clear Bc
        clear Bb
        clear Bl
        clear HI0
        clear HK
        clear HB
        have Ba:=n0_
        have Bj:=n1_
        have Bc:=n2_
        have Bb:=n3_
        have Bl:=n4_
        have HI0:=n5_
        have HK:=n6_
        have HB:=n7_
        have BB:=n8_
        have BE:=n9_
        have BJ:=n10_
        have BD:=n11_
        have BF:=n12_
        have Bt:=n13_
        have BG:=n14_
        have BH:=n15_
        have BI:=n16_
        have BA:=n17_
        have BL:=n18_
        clear n0_ n1_ n2_ n3_ n4_ n5_ n6_ n7_ n8_ n9_ n10_ n11_ n12_ n13_ n14_ n15_ n16_ n17_ n18_
        clear hb hbox hg
        refine hK.out _ _ ⟨(bC Bb.out 0).trans rfl,(bC Bb.out 1).trans rfl⟩ (fun hHeld=>?_)
        clear hK K
        refine norm_ (by show Act.put _ (some 8) _=_;simp only [Act.put,lA,lZ,lS,iw,jw];rfl) ?_
        refine oS 2 49 z12q36 HT_ rfl rfl (by kernel_rfl) (by decide) (fun K hK=>?_)
        refine goes_ Try.func13 (by kernel_rfl) rfl #[.pointer (some ⟨g,0,none⟩),.int .i64 20] (by rfl) rfl rfl (by (try simp only [lM,lC,lN]);first|done|rfl|(simp only [lD,lT];rfl)) ?_
        with_reducible refine (spec_l6Rd_pick.calls kj24 g s0_0 t199 20 t200 t201 w0 _ ?side1 ?side2 A48.out).mono ?_
        (case side1=>repeat (first|(with_reducible first|exact HI0.out|apply qsA|apply qsN|apply qsD|apply qsS|refine qsF ?_ Be.out _|refine qsF ?_ Bf.out _|refine qsF ?_ Bm.out _|refine qsF ?_ BA.out _)|exact HI0.out))
        (case side2=>repeat (first|(with_reducible first|exact HB.out|apply oA|apply pN|apply o1|refine bS ?_ (qsG HI0.out)|refine bS ?_ Bo.out|refine bS ?_ Bp.out|refine bS ?_ Br.out|refine bS ?_ BJ.out)|exact HB.out))
        rintro e w74 ⟨rfl,hi,hb,hk⟩
        refine ⟨_,rfl,?_⟩
        have n0_:=Am (rM (Kd.R_keep (IsS51.apart (show IsS51 w0 _ g s0_0 t199 from by repeat (first|(with_reducible first|exact HI0.out|apply qsA|apply qsN|apply qsD|apply qsS|refine qsF ?_ Be.out _|refine qsF ?_ Bf.out _|refine qsF ?_ Bm.out _|refine qsF ?_ BA.out _)|exact HI0.out)) (rL Ba.out) (by decide)) hk (fun _ h=>h.2)) (fun _ h=>h.1))
        have n1_:=Am (rM (Kd.R_keep (IsS51.apart (show IsS51 w0 _ g s0_0 t199 from by repeat (first|(with_reducible first|exact HI0.out|apply qsA|apply qsN|apply qsD|apply qsS|refine qsF ?_ Be.out _|refine qsF ?_ Bf.out _|refine qsF ?_ Bm.out _|refine qsF ?_ BA.out _)|exact HI0.out)) (rL Bj.out) (by decide)) hk (fun _ h=>h.2)) (fun _ h=>h.1))
        have n2_:=Am (qkB hk (g':=Bg) (o:=.cells #[.int .i64 0,.slice none 0 0] 25 (0,0)) (bL Bc.out) Bz.out (by simp))
        have n3_:=Am (qkB hk (g':=Bd) (o:=.cells #[.int .i64 x182000_24,.slice Ao71 x182001_24.length co71] 25 (0,0)) (bL Bb.out) Bw.out (by simp))
        have n4_:=Am (qkB hk (g':=Bh) (o:=.cells #[.int .i64 t192,.slice Ao36 t193.length co36] 25 (0,0)) (bL Bl.out) Bx.out (by simp))
        have n5_:=Am (qkB hk (g':=Bn) (o:=.cells #[.int .i64 0,.slice none 0 0] 25 (0,0)) (bL BB.out) BL.out (by simp))
        have n6_:=Am (KeepBut.trans (by repeat (first|(with_reducible first|exact HK.out|apply qkS|apply qkN|apply qkD|apply qkA|refine qkF ?_ Bi.out _|refine qkF ?_ Bk.out _|refine qkF ?_ Bq.out _|refine qkF ?_ BE.out _)|exact HK.out)) hk (.inl rfl))
        have n7_:=Am (hb)
        have n8_:=Am (hi)
        clear Ba
        clear Bj
        clear Bc
        clear Bb
        clear Bl
        clear BB
        clear HK
        clear HB
        clear HI0
        have Ba:=n0_
        have Bj:=n1_
        have Bc:=n2_
        have Bb:=n3_
        have Bl:=n4_
        have BB:=n5_
        have HK:=n6_
        have HB:=n7_
        have HI0:=n8_
        clear n0_ n1_ n2_ n3_ n4_ n5_ n6_ n7_ n8_
        (try clear hb)
        (try clear hb2)
        (try clear hk)
        (try clear hi)
        refine hK.out _ _ ⟨(bC Bb.out 0).trans rfl,(bC Bb.out 1).trans rfl⟩ (fun hHeld=>?_)
        clear hK K
        refine norm_ (by show Act.put _ (some 49) _=_;simp only [Act.put,lA,lZ,lS,iw,jw];rfl) ?_
        refine oS 3 50 z12q41 HT_ rfl rfl (by kernel_rfl) (by decide) (fun K hK=>?_)
        refine goes_ Try.func24 (by kernel_rfl) rfl #[.agg #[.int .i64 x182000_24,.slice Ao71 x182001_24.length co71],.int .i64 t200] (by rfl) rfl rfl (by (try simp only [lM,lC,lN]);first|done|rfl|(simp only [lD,lT];rfl)) ?_
        with_reducible refine (spec_ClockTick.calls kj24 x182000_24 _ _ x182001_24 t200 t202 t203 t206 false _ ?side1 ?side2 A49.out).mono ?_
        (case side1=>exact cL (rR Ba.out).2.2)
        (case side2=>exact (rR Ba.out).2.1)
        rintro e w75 ⟨v204,v207,rfl,ho0,ho1,hb⟩
        refine ⟨_,rfl,?_⟩
        have n0_:=Am (rX (rL Ba.out) (rZ ho0) hb)
        have n1_:=Am (rX (rL Bj.out) (rZ ho0) hb)
        have n2_:=Am (rW (rQ (rQ ho0 (rI (rL Ba.out))) (rI (rL Bj.out))) (keep_size (w:=w) (g:=g) (row:=none) (by repeat (first|(with_reducible first|exact HK.out|apply qkS|apply qkN|apply qkD|apply qkA|refine qkF ?_ Bi.out _|refine qkF ?_ Bk.out _|refine qkF ?_ Bq.out _|refine qkF ?_ BE.out _)|exact HK.out))))
        have n3_:=Am (rW ho1 (keep_size (w:=w) (g:=g) (row:=none) (by repeat (first|(with_reducible first|exact HK.out|apply qkS|apply qkN|apply qkD|apply qkA|refine qkF ?_ Bi.out _|refine qkF ?_ Bk.out _|refine qkF ?_ Bq.out _|refine qkF ?_ BE.out _)|exact HK.out))))
        have n4_:=Am (bX Bc.out hb)
        have n5_:=Am (bX Bb.out hb)
        have n6_:=Am (bX Bl.out hb)
        have n7_:=Am (IsS51.below (by repeat (first|(with_reducible first|exact HI0.out|apply qsA|apply qsN|apply qsD|apply qsS|refine qsF ?_ Be.out _|refine qsF ?_ Bf.out _|refine qsF ?_ Bm.out _|refine qsF ?_ BA.out _)|exact HI0.out)) hb)
        have n8_:=Am (bX BB.out hb)
        have n9_:=Am (KeepBut.trans (by repeat (first|(with_reducible first|exact HK.out|apply qkS|apply qkN|apply qkD|apply qkA|refine qkF ?_ Bi.out _|refine qkF ?_ Bk.out _|refine qkF ?_ Bq.out _|refine qkF ?_ BE.out _)|exact HK.out)) (KeepBut.of_below hb g none) (.inl rfl))
        have n10_:=Am (bP (by repeat (first|(with_reducible first|exact HB.out|apply oA|apply pN|apply o1|refine bS ?_ (qsG HI0.out)|refine bS ?_ Bo.out|refine bS ?_ Bp.out|refine bS ?_ Br.out|refine bS ?_ BJ.out)|exact HB.out)) hb)
        clear Ba
        clear Bj
        clear Bc
        clear Bb
        clear Bl
        clear HI0
        clear BB
        clear HK
        clear HB
        have Ba:=n0_
        have Bj:=n1_
        have BM:=n2_
        have BN:=n3_
        have Bc:=n4_
        have Bb:=n5_
        have Bl:=n6_
        have HI0:=n7_
        have BB:=n8_
        have HK:=n9_
        have HB:=n10_
        clear n0_ n1_ n2_ n3_ n4_ n5_ n6_ n7_ n8_ n9_ n10_
        (try clear hb)
        (try clear hb2)
        (try clear hk)
        (try clear hi)
        (try clear ho0)
        (try clear ho1)
        refine hK.out _ _ ⟨(bC Bb.out 0).trans rfl,(bC Bb.out 1).trans rfl⟩ (fun hHeld=>?_)
        clear hK K
        refine norm_ (by show Act.put _ (some 50) _=_;simp only [Act.put,lA,lZ,lS,iw,jw];rfl) ?_
        refine pS 4 46 z12q42 HT_ rfl rfl (by kernel_rfl) (by rfl) (by intro w';go_simp;with_reducible rfl) (by simp only [Act.put,lA,lZ,lS,iw,jw];rfl) ?_
        refine pS 5 51 z12q43 HT_ rfl rfl (by kernel_rfl) (by rfl) (by intro w';go_simp;with_reducible rfl) (by simp only [Act.put,lA,lZ,lS,iw,jw];rfl) ?_
        refine pS 6 52 z12q44 HT_ rfl rfl (by kernel_rfl) (by rfl) (by intro w';go_simp;with_reducible rfl) (by simp only [Act.put,lA,lZ,lS,iw,jw];rfl) ?_
        refine pS 7 53 z12q32 HT_ rfl rfl (by kernel_rfl) (by rfl) (by intro w';go_simp;with_reducible rfl) (by simp only [Act.put,lA,lZ,lS,iw,jw];rfl) ?_
        exact norm_ (by simp only [putAll,Act.put,lA,lZ,lS]) (hCont (v204,v207,Bn) _ ⟨hHeld,(by (with_reducible repeat (first|apply rA|apply rN|apply rD));exact rM BM.out (fun _ hk=>⟨hk.1.2,hk.2⟩)),(rL BN.out),(by (with_reducible repeat (first|apply rA|apply rN|apply rD));exact rM Ba.out (fun _ hk=>hk.2)),(by (with_reducible repeat (first|apply rA|apply rN|apply rD));exact rM Bj.out (fun _ hk=>hk.2)),(bL Bc.out),(bL Bb.out),(bL Bl.out),(bL BB.out),BE.out,BJ.out,BA.out,BL.out,BD.out,BF.out,Bt.out,BG.out,BH.out,BI.out,(by repeat (first|(with_reducible first|exact HI0.out|apply qsA|apply qsN|apply qsD|apply qsS|refine qsF ?_ Be.out _|refine qsF ?_ Bf.out _|refine qsF ?_ Bm.out _|refine qsF ?_ BA.out _)|exact HI0.out)),(by repeat (first|(with_reducible first|exact HK.out|apply qkS|apply qkN|apply qkD|apply qkA|refine qkF ?_ Bi.out _|refine qkF ?_ Bk.out _|refine qkF ?_ Bq.out _|refine qkF ?_ BE.out _)|exact HK.out)),(by repeat (first|(with_reducible first|exact HB.out|apply oA|apply pN|apply o1|refine bS ?_ (qsG HI0.out)|refine bS ?_ Bo.out|refine bS ?_ Bp.out|refine bS ?_ Br.out|refine bS ?_ BJ.out)|exact HB.out))⟩)
      rintro ⟨v204,v207,Bn⟩ w76 ⟨hS_,h0_,h1_,h2_,h3_,h4_,h5_,h6_,h7_,h8_,h9_,h10_,h11_,h12_,h13_,h14_,h15_,h16_,h17_,h18_,h19_,h20_⟩
      have n0_:Aside0 (Kd.R k35 35 w76 w.heap.size (fun k_=>some k_≠(.slice Ao71 x182001_24.length co71:Value).ownBlock∧some k_≠(.slice Ao36 t193.length co36:Value).ownBlock) v204 t203):=⟨h0_⟩
      have n1_:Aside0 (Kd.R (Kd.int .i64) 3 w76 w.heap.size (fun _=>True) v207 t206):=⟨h1_⟩
      have n2_:Aside0 (Kd.R k35 35 w76 w.heap.size (fun k_=>some k_≠(v204:Value).ownBlock) (.slice Ao71 x182001_24.length co71) x182001_24):=⟨h2_⟩
      have n3_:Aside0 (Kd.R k35 35 w76 w.heap.size (fun k_=>some k_≠(v204:Value).ownBlock) (.slice Ao36 t193.length co36) t193):=⟨h3_⟩
      have n4_:Aside0 (w76.heap[Bg]?=some (.cells #[.int .i64 0,.slice none 0 0] 25 (0,0))):=⟨h4_⟩
      have n5_:Aside0 (w76.heap[Bd]?=some (.cells #[.int .i64 x182000_24,.slice Ao71 x182001_24.length co71] 25 (0,0))):=⟨h5_⟩
      have n6_:Aside0 (w76.heap[Bh]?=some (.cells #[.int .i64 t192,.slice Ao36 t193.length co36] 25 (0,0))):=⟨h6_⟩
      have n7_:Aside0 (w76.heap[Bn]?=some (.cells #[.int .i64 0,.slice none 0 0] 25 (0,0))):=⟨h7_⟩
      have n8_:Aside0 (w.heap.size≤Bn):=⟨h8_⟩
      have n9_:Aside0 (w0.heap.size≤Bn):=⟨h9_⟩
      have n10_:Aside0 (g≠Bn):=⟨h10_⟩
      have n11_:Aside0 (Bn≠g):=⟨h11_⟩
      have n12_:Aside0 (Bg≠Bn):=⟨h12_⟩
      have n13_:Aside0 (Bn≠Bg):=⟨h13_⟩
      have n14_:Aside0 (Bd≠Bn):=⟨h14_⟩
      have n15_:Aside0 (Bn≠Bd):=⟨h15_⟩
      have n16_:Aside0 (Bh≠Bn):=⟨h16_⟩
      have n17_:Aside0 (Bn≠Bh):=⟨h17_⟩
      have n18_:Aside0 (IsS51 w0 w76 g s0_0 t201):=⟨h18_⟩
      have n19_:Aside0 (KeepBut w w76 g none):=⟨h19_⟩
      have n20_:Aside0 (Below w0.heap.size w0 w76):=⟨h20_⟩
      clear Ba
      clear Bj
      clear Bc
      clear Bb
      clear Bl
      clear HI0
      clear HK
      clear HB
      clear h0_ h1_ h2_ h3_ h4_ h5_ h6_ h7_ h8_ h9_ h10_ h11_ h12_ h13_ h14_ h15_ h16_ h17_ h18_ h19_ h20_
      have BM:=n0_
      have BN:=n1_
      have Ba:=n2_
      have Bj:=n3_
      have Bc:=n4_
      have Bb:=n5_
      have Bl:=n6_
      have BB:=n7_
      have BE:=n8_
      have BJ:=n9_
      have BA:=n10_
      have BL:=n11_
      have BD:=n12_
      have BF:=n13_
      have Bt:=n14_
      have BG:=n15_
      have BH:=n16_
      have BI:=n17_
      have HI0:=n18_
      have HK:=n19_
      have HB:=n20_
      clear n0_ n1_ n2_ n3_ n4_ n5_ n6_ n7_ n8_ n9_ n10_ n11_ n12_ n13_ n14_ n15_ n16_ n17_ n18_ n19_ n20_
      have hHeld:w76.cell? ⟨Bd,0,none⟩=some (.int .i64 x182000_24)∧w76.cell? ⟨Bd,1,none⟩=some (.slice Ao71 x182001_24.length co71):=hS_
      obtain ⟨Ao78,co78,eo78⟩:=rC BM.out
      (first|subst eo78|(injection eo78 with f1_ f2_ f3_;have f4_:=f1_.symm;have f5_:=f3_.symm;clear f1_ f2_ f3_;subst f4_;subst f5_))
      refine norm_ (by simp only [putAll,Act.put,lA,lZ,lS];rfl) ?_
      refine oU 9 none z12q45 HT_ rfl rfl (by kernel_rfl) (by decide) (fun K hK=>?_)
      have hs77:=cz0 BB.out
      have hfs77:=bF BB.out 0
      have hns77_0:=BD.out
      have hns77_1:=Bt.out
      have hns77_2:=BH.out
      have hms77_0:=BF.out
      have hms77_1:=BG.out
      have hms77_2:=BI.out
      have hs79:=cz1 BB.out
      have hfs79:=bF BB.out 1
      have hns79_0:=BD.out
      have hns79_1:=Bt.out
      have hns79_2:=BH.out
      have hms79_0:=BF.out
      have hms79_1:=BG.out
      have hms79_2:=BI.out
      refine skip_ (w1:=?_) (by rfl) rfl ?_ ?_
      rotate_left;(go_simp;rfl)
      refine hK.out _ _ ⟨((cF (p:=⟨Bn,_,none⟩) Bt.out _).trans (((cF (p:=⟨Bn,_,none⟩) Bt.out _).trans (hHeld.1)))),((cF (p:=⟨Bn,_,none⟩) Bt.out _).trans (((cF (p:=⟨Bn,_,none⟩) Bt.out _).trans (hHeld.2))))⟩ (fun hHeld=>?_)
      clear hK K
      refine pS 10 9 z12q46 HT_ rfl rfl (by kernel_rfl) (by rfl) (by intro w';go_simp;with_reducible rfl) (by simp only [Act.put,lA,lZ,lS,iw,jw];rfl) ?_
      refine pS 11 10 z12q47 HT_ rfl rfl (by kernel_rfl) (by rfl) (by intro w';go_simp;with_reducible rfl) (by simp only [Act.put,lA,lZ,lS,iw,jw];rfl) ?_
      refine done_ (done_of HT_.out (by kernel_rfl)) ?_
      try go_wp2
      go_roundg kj24
      case measure=>have:=HK1.out;have:=BT.out;omega
      case rel=>exact ⟨(wrap64 (yn-1)),(t201),(x182000_24),(x182001_24),(.slice Ao71 x182001_24.length co71),(by first|rfl|(simp;done)|(simp [*];done)),H',⟨by have:=HK1.out;have:=BT.out;omega⟩,⟨by (with_reducible repeat (first|apply rA|apply rN|apply rD));exact rM (rF (p:=⟨Bn,1,none⟩) (rF (p:=⟨Bn,0,none⟩) (rT Ba.out BB.out (by decide)) (fun _ hk=>hk.2) (.int .i64 t202)) (fun _ hk=>hk.2) (.slice Ao78 t203.length co78)) (fun _ hk=>trivial)⟩,⟨by (with_reducible repeat (first|refine bN ?_ _|refine bD ?_|refine bA ?_ _|refine bE ?_ BD.out _));exact Bc.out⟩,⟨by (with_reducible repeat (first|refine bN ?_ _|refine bD ?_|refine bA ?_ _|refine bE ?_ Bt.out _));exact Bb.out⟩,⟨by repeat (first|(with_reducible first|exact HI0.out|apply qsA|apply qsN|apply qsD|apply qsS|refine qsF ?_ Be.out _|refine qsF ?_ Bf.out _|refine qsF ?_ Bm.out _|refine qsF ?_ BA.out _)|exact HI0.out)⟩,⟨by repeat (first|(with_reducible first|exact HK.out|apply qkS|apply qkN|apply qkD|apply qkA|refine qkF ?_ Bi.out _|refine qkF ?_ Bk.out _|refine qkF ?_ Bq.out _|refine qkF ?_ BE.out _)|exact HK.out)⟩,⟨by repeat (first|(with_reducible first|exact HB.out|apply oA|apply pN|apply o1|refine bS ?_ (qsG HI0.out)|refine bS ?_ Bo.out|refine bS ?_ Bp.out|refine bS ?_ Br.out|refine bS ?_ BJ.out)|exact HB.out)⟩⟩
     subst c50
     have H1:(spec_l97Clock.l0 kj24 (wrap64 (yn-1)) s0_0 t201 t202 t203)=some (r1,r2,r3):=by rw [if_pos rfl] at H;exact H
     clear H
     have H:=H1
     clear H1
     have H':=Am H
     clear H
     try go_wp2_with (first|((with_reducible refine gC (f:=13) rfl ?_);refine goesL_ (some 44) rfl rfl Try.func13 (by kernel_rfl) rfl #[.pointer (some ⟨g,0,none⟩),.int .i64 4] rfl (by (try simp only [lM,lC,lN]);first|done|rfl|(simp only [lD,lT];rfl)) ?_;(with_reducible refine (spec_l6Rd_pick.calls kj24 g s0_0 t191 4 t198 t199 w0 _ ?side1 ?side2 A46.out).mono ?_);(case side1=>repeat (first|(with_reducible first|exact HI0.out|apply qsA|apply qsN|apply qsD|apply qsS|refine qsF ?_ Be.out _|refine qsF ?_ Bf.out _|refine qsF ?_ Bm.out _)|exact HI0.out));(case side2=>repeat (first|(with_reducible first|exact HB.out|apply oA|apply pN|apply o1|refine bS ?_ (qsG HI0.out)|refine bS ?_ Bo.out|refine bS ?_ Bp.out|refine bS ?_ Br.out)|exact HB.out));rintro e w51 ⟨rfl,hi,hb,hk⟩;refine ⟨_,rfl,?_⟩;have n0_:=Am (rM (Kd.R_keep (IsS51.apart (show IsS51 w0 _ g s0_0 t191 from by repeat (first|(with_reducible first|exact HI0.out|apply qsA|apply qsN|apply qsD|apply qsS|refine qsF ?_ Be.out _|refine qsF ?_ Bf.out _|refine qsF ?_ Bm.out _)|exact HI0.out)) (rL Ba.out) (by decide)) hk (fun _ h=>h.2)) (fun _ h=>h.1));have n1_:=Am (rM (Kd.R_keep (IsS51.apart (show IsS51 w0 _ g s0_0 t191 from by repeat (first|(with_reducible first|exact HI0.out|apply qsA|apply qsN|apply qsD|apply qsS|refine qsF ?_ Be.out _|refine qsF ?_ Bf.out _|refine qsF ?_ Bm.out _)|exact HI0.out)) (rL Bj.out) (by decide)) hk (fun _ h=>h.2)) (fun _ h=>h.1));have n2_:=Am (qkB hk (g':=Bg) (o:=.cells #[.int .i64 0,.slice none 0 0] 25 (0,0)) (bL Bc.out) Bz.out (by simp));have n3_:=Am (qkB hk (g':=Bd) (o:=.cells #[.int .i64 x182000_24,u182001] 25 (0,0)) (bL Bb.out) Bw.out (by simp));have n4_:=Am (qkB hk (g':=Bh) (o:=.cells #[.int .i64 t192,.slice Ao36 t193.length co36] 25 (0,0)) (bL Bl.out) Bx.out (by simp));have n5_:=Am (KeepBut.trans (by repeat (first|(with_reducible first|exact HK.out|apply qkS|apply qkN|apply qkD|apply qkA|refine qkF ?_ Bi.out _|refine qkF ?_ Bk.out _|refine qkF ?_ Bq.out _)|exact HK.out)) hk (.inl rfl));have n6_:=Am (hb);have n7_:=Am (hi);clear Ba Bj Bc Bb Bl HK HB HI0;revert n0_ n1_ n2_ n3_ n4_ n5_ n6_ n7_;intro Ba Bj Bc Bb Bl HK HB HI0;(try clear hb);(try clear hb2);(try clear hk);(try clear hi);obtain ⟨Ao52,co52,eo52⟩:=rC Ba.out;subst eo52))
     have n0_:=Am (rD Ba.out)
     have n1_:=Am (rD Bj.out)
     have n2_:=Am (bD Bc.out)
     have n3_:=Am (bD Bb.out)
     have n4_:=Am (bD Bl.out)
     have n5_:=Am (qsD HI0.out)
     have n6_:=Am (qkD HK.out)
     have n7_:=Am (o1 HB.out)
     clear Ba
     clear Bj
     clear Bc
     clear Bb
     clear Bl
     clear HI0
     clear HK
     clear HB
     have Ba:=n0_
     have Bj:=n1_
     have Bc:=n2_
     have Bb:=n3_
     have Bl:=n4_
     have HI0:=n5_
     have HK:=n6_
     have HB:=n7_
     clear n0_ n1_ n2_ n3_ n4_ n5_ n6_ n7_
     refine start_ (n:=12) (S:=fun w'=>w'.cell? ⟨Bd,0,none⟩=some (.int .i64 x182000_24)∧w'.cell? ⟨Bd,1,none⟩=some (.slice Ao52 x182001_24.length co52)) (ds:=[]) z12q29 (by kernel_rfl) rfl rfl ⟨(bC Bb.out 0).trans rfl,(bC Bb.out 1).trans rfl⟩ (fun hHeld=>?_);refine with_st spec_l97Clock.tab9 spec_l97Clock.bits9 (fun _ _ _ _ _ h=>h) (fun HT_=>?_)
     generalize w51.drew=w53 at Ba Bj Bc Bb Bl HI0 HK HB hHeld ⊢
     refine pS 1 48 z12q30 HT_ rfl rfl (by kernel_rfl) (by rfl) (by intro w';go_simp;with_reducible rfl) (by simp only [Act.put,lA,lZ,lS,iw,jw];rfl) ?_
     refine tS 0 47 z12q31 HT_ hHeld rfl rfl (by kernel_rfl) (by rfl) (by rintro w' ⟨s0,s1⟩;go_simp;with_reducible rfl) (by simp only [Act.put,lA,lZ,lS,iw,jw];rfl) ?_
     refine join_ (σ:=Value × Value × Nat) 3 z12q32 (fun s_=>[(49,.int .i64 t200),(50,.tuple #[.agg #[.int .i64 t202,s_.1],s_.2.1,.bool true]),(8,.pointer (some ⟨s_.2.2,0,none⟩)),(46,.tuple #[.agg #[.int .i64 t202,s_.1],s_.2.1,.bool true]),(51,.agg #[.int .i64 t202,s_.1]),(52,s_.2.1),(53,.bool true)]) (fun s_ w'=>(w'.cell? ⟨Bd,0,none⟩=some (.int .i64 x182000_24)∧w'.cell? ⟨Bd,1,none⟩=some (.slice Ao52 x182001_24.length co52))∧(Kd.R k35 35 w' w.heap.size (fun k_=>some k_≠(.slice Ao52 x182001_24.length co52:Value).ownBlock∧some k_≠(.slice Ao36 t193.length co36:Value).ownBlock) s_.1 t203)∧(Kd.R (Kd.int .i64) 3 w' w.heap.size (fun _=>True) s_.2.1 t206)∧(Kd.R k35 35 w' w.heap.size (fun k_=>some k_≠(s_.1:Value).ownBlock) (.slice Ao52 x182001_24.length co52) x182001_24)∧(Kd.R k35 35 w' w.heap.size (fun k_=>some k_≠(s_.1:Value).ownBlock) (.slice Ao36 t193.length co36) t193)∧(w'.heap[Bg]?=some (.cells #[.int .i64 0,.slice none 0 0] 25 (0,0)))∧(w'.heap[Bd]?=some (.cells #[.int .i64 x182000_24,.slice Ao52 x182001_24.length co52] 25 (0,0)))∧(w'.heap[Bh]?=some (.cells #[.int .i64 t192,.slice Ao36 t193.length co36] 25 (0,0)))∧(w'.heap[s_.2.2]?=some (.cells #[.int .i64 0,.slice none 0 0] 25 (0,0)))∧(w.heap.size≤s_.2.2)∧(w0.heap.size≤s_.2.2)∧(g≠s_.2.2)∧(s_.2.2≠g)∧(Bg≠s_.2.2)∧(s_.2.2≠Bg)∧(Bd≠s_.2.2)∧(s_.2.2≠Bd)∧(Bh≠s_.2.2)∧(s_.2.2≠Bh)∧(IsS51 w0 w' g s0_0 t201)∧(KeepBut w w' g none)∧(Below w0.heap.size w0 w')) ?_ ?_
     rotate_left
     ·intro hCont
      refine two_ (i:=2) (j:=8) (Ni:=some 49) (Nj:=some 8) z12q33 z12q34 rfl rfl rfl rfl (two_of HT_.out (by kernel_rfl)) (by decide) (by decide) (fun K hK=>?_) (fun K hK=>?_)
      ·skip
       refine goes_ Try.func13 (by kernel_rfl) rfl #[.pointer (some ⟨g,0,none⟩),.int .i64 20] (by rfl) rfl rfl (by (try simp only [lM,lC,lN]);first|done|rfl|(simp only [lD,lT];rfl)) ?_
       with_reducible refine (spec_l6Rd_pick.calls kj24 g s0_0 t199 20 t200 t201 w0 _ ?side1 ?side2 A48.out).mono ?_
       (case side1=>repeat (first|(with_reducible first|exact HI0.out|apply qsA|apply qsN|apply qsD|apply qsS|refine qsF ?_ Be.out _|refine qsF ?_ Bf.out _|refine qsF ?_ Bm.out _)|exact HI0.out))
       (case side2=>repeat (first|(with_reducible first|exact HB.out|apply oA|apply pN|apply o1|refine bS ?_ (qsG HI0.out)|refine bS ?_ Bo.out|refine bS ?_ Bp.out|refine bS ?_ Br.out)|exact HB.out))
       rintro e w54 ⟨rfl,hi,hb,hk⟩
       refine ⟨_,rfl,?_⟩
       have n0_:=Am (rM (Kd.R_keep (IsS51.apart (show IsS51 w0 _ g s0_0 t199 from by repeat (first|(with_reducible first|exact HI0.out|apply qsA|apply qsN|apply qsD|apply qsS|refine qsF ?_ Be.out _|refine qsF ?_ Bf.out _|refine qsF ?_ Bm.out _)|exact HI0.out)) (rL Ba.out) (by decide)) hk (fun _ h=>h.2)) (fun _ h=>h.1))
       have n1_:=Am (rM (Kd.R_keep (IsS51.apart (show IsS51 w0 _ g s0_0 t199 from by repeat (first|(with_reducible first|exact HI0.out|apply qsA|apply qsN|apply qsD|apply qsS|refine qsF ?_ Be.out _|refine qsF ?_ Bf.out _|refine qsF ?_ Bm.out _)|exact HI0.out)) (rL Bj.out) (by decide)) hk (fun _ h=>h.2)) (fun _ h=>h.1))
       have n2_:=Am (qkB hk (g':=Bg) (o:=.cells #[.int .i64 0,.slice none 0 0] 25 (0,0)) (bL Bc.out) Bz.out (by simp))
       have n3_:=Am (qkB hk (g':=Bd) (o:=.cells #[.int .i64 x182000_24,.slice Ao52 x182001_24.length co52] 25 (0,0)) (bL Bb.out) Bw.out (by simp))
       have n4_:=Am (qkB hk (g':=Bh) (o:=.cells #[.int .i64 t192,.slice Ao36 t193.length co36] 25 (0,0)) (bL Bl.out) Bx.out (by simp))
       have n5_:=Am (KeepBut.trans (by repeat (first|(with_reducible first|exact HK.out|apply qkS|apply qkN|apply qkD|apply qkA|refine qkF ?_ Bi.out _|refine qkF ?_ Bk.out _|refine qkF ?_ Bq.out _)|exact HK.out)) hk (.inl rfl))
       have n6_:=Am (hb)
       have n7_:=Am (hi)
       clear Ba
       clear Bj
       clear Bc
       clear Bb
       clear Bl
       clear HK
       clear HB
       clear HI0
       have Ba:=n0_
       have Bj:=n1_
       have Bc:=n2_
       have Bb:=n3_
       have Bl:=n4_
       have HK:=n5_
       have HB:=n6_
       have HI0:=n7_
       clear n0_ n1_ n2_ n3_ n4_ n5_ n6_ n7_
       (try clear hb)
       (try clear hb2)
       (try clear hk)
       (try clear hi)
       refine hK.out _ _ ⟨(bC Bb.out 0).trans rfl,(bC Bb.out 1).trans rfl⟩ (fun hHeld=>?_)
       clear hK K
       refine norm_ (by show Act.put _ (some 49) _=_;simp only [Act.put,lA,lZ,lS,iw,jw];rfl) ?_
       refine two_ (i:=3) (j:=8) (Ni:=some 50) (Nj:=some 8) z12q35 z12q36 rfl rfl rfl rfl (two_of HT_.out (by kernel_rfl)) (by decide) (by decide) (fun K hK=>?_) (fun K hK=>?_)
       ·skip
        refine goes_ Try.func24 (by kernel_rfl) rfl #[.agg #[.int .i64 x182000_24,.slice Ao52 x182001_24.length co52],.int .i64 t200] (by rfl) rfl rfl (by (try simp only [lM,lC,lN]);first|done|rfl|(simp only [lD,lT];rfl)) ?_
        with_reducible refine (spec_ClockTick.calls kj24 x182000_24 _ _ x182001_24 t200 t202 t203 t206 true _ ?side1 ?side2 A49.out).mono ?_
        (case side1=>exact cL (rR Ba.out).2.2)
        (case side2=>exact (rR Ba.out).2.1)
        rintro e w55 ⟨v204,v207,rfl,ho0,ho1,hb⟩
        refine ⟨_,rfl,?_⟩
        have n0_:=Am (rX (rL Ba.out) (rZ ho0) hb)
        have n1_:=Am (rX (rL Bj.out) (rZ ho0) hb)
        have n2_:=Am (rW (rQ (rQ ho0 (rI (rL Ba.out))) (rI (rL Bj.out))) (keep_size (w:=w) (g:=g) (row:=none) (by repeat (first|(with_reducible first|exact HK.out|apply qkS|apply qkN|apply qkD|apply qkA|refine qkF ?_ Bi.out _|refine qkF ?_ Bk.out _|refine qkF ?_ Bq.out _)|exact HK.out))))
        have n3_:=Am (rW ho1 (keep_size (w:=w) (g:=g) (row:=none) (by repeat (first|(with_reducible first|exact HK.out|apply qkS|apply qkN|apply qkD|apply qkA|refine qkF ?_ Bi.out _|refine qkF ?_ Bk.out _|refine qkF ?_ Bq.out _)|exact HK.out))))
        have n4_:=Am (bX Bc.out hb)
        have n5_:=Am (bX Bb.out hb)
        have n6_:=Am (bX Bl.out hb)
        have n7_:=Am (IsS51.below (by repeat (first|(with_reducible first|exact HI0.out|apply qsA|apply qsN|apply qsD|apply qsS|refine qsF ?_ Be.out _|refine qsF ?_ Bf.out _|refine qsF ?_ Bm.out _)|exact HI0.out)) hb)
        have n8_:=Am (KeepBut.trans (by repeat (first|(with_reducible first|exact HK.out|apply qkS|apply qkN|apply qkD|apply qkA|refine qkF ?_ Bi.out _|refine qkF ?_ Bk.out _|refine qkF ?_ Bq.out _)|exact HK.out)) (KeepBut.of_below hb g none) (.inl rfl))
        have n9_:=Am (bP (by repeat (first|(with_reducible first|exact HB.out|apply oA|apply pN|apply o1|refine bS ?_ (qsG HI0.out)|refine bS ?_ Bo.out|refine bS ?_ Bp.out|refine bS ?_ Br.out)|exact HB.out)) hb)
        clear Ba
        clear Bj
        clear Bc
        clear Bb
        clear Bl
        clear HI0
        clear HK
        clear HB
        have Ba:=n0_
        have Bj:=n1_
        have BM:=n2_
        have BN:=n3_
        have Bc:=n4_
        have Bb:=n5_
        have Bl:=n6_
        have HI0:=n7_
        have HK:=n8_
        have HB:=n9_
        clear n0_ n1_ n2_ n3_ n4_ n5_ n6_ n7_ n8_ n9_
        (try clear hb)
        (try clear hb2)
        (try clear hk)
        (try clear hi)
        (try clear ho0)
        (try clear ho1)
        refine hK.out _ _ ⟨(bC Bb.out 0).trans rfl,(bC Bb.out 1).trans rfl⟩ (fun hHeld=>?_)
        clear hK K
        refine norm_ (by show Act.put _ (some 50) _=_;simp only [Act.put,lA,lZ,lS,iw,jw];rfl) ?_
        refine pS 4 46 z12q37 HT_ rfl rfl (by kernel_rfl) (by rfl) (by intro w';go_simp;with_reducible rfl) (by simp only [Act.put,lA,lZ,lS,iw,jw];rfl) ?_
        refine pS 5 51 z12q38 HT_ rfl rfl (by kernel_rfl) (by rfl) (by intro w';go_simp;with_reducible rfl) (by simp only [Act.put,lA,lZ,lS,iw,jw];rfl) ?_
        refine pS 6 52 z12q39 HT_ rfl rfl (by kernel_rfl) (by rfl) (by intro w';go_simp;with_reducible rfl) (by simp only [Act.put,lA,lZ,lS,iw,jw];rfl) ?_
        refine pS 7 53 z12q40 HT_ rfl rfl (by kernel_rfl) (by rfl) (by intro w';go_simp;with_reducible rfl) (by simp only [Act.put,lA,lZ,lS,iw,jw];rfl) ?_
        refine oS 8 8 z12q32 HT_ rfl rfl (by kernel_rfl) (by decide) (fun K hK=>?_)
        refine box_step ?hg (N:=8) ?hd (cs:=#[.int .i64 0,.slice none 0 0]) (t:=25) ?hr ?_;(case hd=>rfl);(case hg=>rfl);(case hr=>first|(go_simp;done)|(go_simp;rfl))
        intro Bn hg w56 hbox hb
        have n0_:=Am (rB (rL Ba.out) hb)
        have n1_:=Am (rB (rL Bj.out) hb)
        have n2_:=Am (rB (rL BM.out) hb)
        have n3_:=Am (rB (rL BN.out) hb)
        have n4_:=Am (bX Bc.out hb)
        have n5_:=Am (bX Bb.out hb)
        have n6_:=Am (bX Bl.out hb)
        have n7_:=Am (IsS51.below (by repeat (first|(with_reducible first|exact HI0.out|apply qsA|apply qsN|apply qsD|apply qsS|refine qsF ?_ Be.out _|refine qsF ?_ Bf.out _|refine qsF ?_ Bm.out _)|exact HI0.out)) hb)
        have n8_:=Am (KeepBut.trans (by repeat (first|(with_reducible first|exact HK.out|apply qkS|apply qkN|apply qkD|apply qkA|refine qkF ?_ Bi.out _|refine qkF ?_ Bk.out _|refine qkF ?_ Bq.out _)|exact HK.out)) (KeepBut.of_below hb g none) (.inl rfl))
        have n9_:=Am (bP (by repeat (first|(with_reducible first|exact HB.out|apply oA|apply pN|apply o1|refine bS ?_ (qsG HI0.out)|refine bS ?_ Bo.out|refine bS ?_ Bp.out|refine bS ?_ Br.out)|exact HB.out)) hb)
        have n10_:=Am (hbox)
        have n11_:=Am ((by rw [hg];exact (keep_size (w:=w) (g:=g) (row:=none) (by repeat (first|(with_reducible first|exact HK.out|apply qkS|apply qkN|apply qkD|apply qkA|refine qkF ?_ Bi.out _|refine qkF ?_ Bk.out _|refine qkF ?_ Bq.out _)|exact HK.out))):w.heap.size≤Bn))
        have n12_:=Am ((Nat.le_trans HW0.out (by rw [hg];exact (keep_size (w:=w) (g:=g) (row:=none) (by repeat (first|(with_reducible first|exact HK.out|apply qkS|apply qkN|apply qkD|apply qkA|refine qkF ?_ Bi.out _|refine qkF ?_ Bk.out _|refine qkF ?_ Bq.out _)|exact HK.out))):w.heap.size≤Bn):w0.heap.size≤Bn))
        have n13_:=Am ((nL Bc.out hg))
        have n14_:=Am ((nG Bc.out hg))
        have n15_:=Am ((nL Bb.out hg))
        have n16_:=Am ((nG Bb.out hg))
        have n17_:=Am ((nL Bl.out hg))
        have n18_:=Am ((nG Bl.out hg))
        have n19_:=Am ((by rw [hg];exact nI (IsS51.lt (show IsS51 w0 _ g s0_0 t201 from by repeat (first|(with_reducible first|exact HI0.out|apply qsA|apply qsN|apply qsD|apply qsS|refine qsF ?_ Be.out _|refine qsF ?_ Bf.out _|refine qsF ?_ Bm.out _)|exact HI0.out))):g≠Bn))
        have n20_:=Am ((by rw [hg];exact nJ (IsS51.lt (show IsS51 w0 _ g s0_0 t201 from by repeat (first|(with_reducible first|exact HI0.out|apply qsA|apply qsN|apply qsD|apply qsS|refine qsF ?_ Be.out _|refine qsF ?_ Bf.out _|refine qsF ?_ Bm.out _)|exact HI0.out))):Bn≠g))
        clear Ba
        clear Bj
        clear BM
        clear BN
        clear Bc
        clear Bb
        clear Bl
        clear HI0
        clear HK
        clear HB
        have Ba:=n0_
        have Bj:=n1_
        have BM:=n2_
        have BN:=n3_
        have Bc:=n4_
        have Bb:=n5_
        have Bl:=n6_
        have HI0:=n7_
        have HK:=n8_
        have HB:=n9_
        have BB:=n10_
        have BE:=n11_
        have BJ:=n12_
        have BD:=n13_
        have BF:=n14_
        have Bt:=n15_
        have BG:=n16_
        have BH:=n17_
        have BI:=n18_
        have BA:=n19_
        have BL:=n20_
        clear n0_ n1_ n2_ n3_ n4_ n5_ n6_ n7_ n8_ n9_ n10_ n11_ n12_ n13_ n14_ n15_ n16_ n17_ n18_ n19_ n20_
        clear hb hbox hg
        refine hK.out _ _ ⟨(bC Bb.out 0).trans rfl,(bC Bb.out 1).trans rfl⟩ (fun hHeld=>?_)
        clear hK K
        refine norm_ (by show Act.put _ (some 8) _=_;simp only [Act.put,lA,lZ,lS,iw,jw];rfl) ?_
        exact norm_ (by simp only [putAll,Act.put,lA,lZ,lS]) (hCont (v204,v207,Bn) _ ⟨hHeld,(by (with_reducible repeat (first|apply rA|apply rN|apply rD));exact rM BM.out (fun _ hk=>⟨hk.1.2,hk.2⟩)),(rL BN.out),(by (with_reducible repeat (first|apply rA|apply rN|apply rD));exact rM Ba.out (fun _ hk=>hk.2)),(by (with_reducible repeat (first|apply rA|apply rN|apply rD));exact rM Bj.out (fun _ hk=>hk.2)),(bL Bc.out),(bL Bb.out),(bL Bl.out),(bL BB.out),BE.out,BJ.out,BA.out,BL.out,BD.out,BF.out,Bt.out,BG.out,BH.out,BI.out,(by repeat (first|(with_reducible first|exact HI0.out|apply qsA|apply qsN|apply qsD|apply qsS|refine qsF ?_ Be.out _|refine qsF ?_ Bf.out _|refine qsF ?_ Bm.out _|refine qsF ?_ BA.out _)|exact HI0.out)),(by repeat (first|(with_reducible first|exact HK.out|apply qkS|apply qkN|apply qkD|apply qkA|refine qkF ?_ Bi.out _|refine qkF ?_ Bk.out _|refine qkF ?_ Bq.out _|refine qkF ?_ BE.out _)|exact HK.out)),(by repeat (first|(with_reducible first|exact HB.out|apply oA|apply pN|apply o1|refine bS ?_ (qsG HI0.out)|refine bS ?_ Bo.out|refine bS ?_ Bp.out|refine bS ?_ Br.out|refine bS ?_ BJ.out)|exact HB.out))⟩)
       ·skip
        refine box_step ?hg (N:=8) ?hd (cs:=#[.int .i64 0,.slice none 0 0]) (t:=25) ?hr ?_;(case hd=>rfl);(case hg=>rfl);(case hr=>first|(go_simp;done)|(go_simp;rfl))
        intro Bn hg w55 hbox hb
        have n0_:=Am (rB (rL Ba.out) hb)
        have n1_:=Am (rB (rL Bj.out) hb)
        have n2_:=Am (bX Bc.out hb)
        have n3_:=Am (bX Bb.out hb)
        have n4_:=Am (bX Bl.out hb)
        have n5_:=Am (IsS51.below (by repeat (first|(with_reducible first|exact HI0.out|apply qsA|apply qsN|apply qsD|apply qsS|refine qsF ?_ Be.out _|refine qsF ?_ Bf.out _|refine qsF ?_ Bm.out _)|exact HI0.out)) hb)
        have n6_:=Am (KeepBut.trans (by repeat (first|(with_reducible first|exact HK.out|apply qkS|apply qkN|apply qkD|apply qkA|refine qkF ?_ Bi.out _|refine qkF ?_ Bk.out _|refine qkF ?_ Bq.out _)|exact HK.out)) (KeepBut.of_below hb g none) (.inl rfl))
        have n7_:=Am (bP (by repeat (first|(with_reducible first|exact HB.out|apply oA|apply pN|apply o1|refine bS ?_ (qsG HI0.out)|refine bS ?_ Bo.out|refine bS ?_ Bp.out|refine bS ?_ Br.out)|exact HB.out)) hb)
        have n8_:=Am (hbox)
        have n9_:=Am ((by rw [hg];exact (keep_size (w:=w) (g:=g) (row:=none) (by repeat (first|(with_reducible first|exact HK.out|apply qkS|apply qkN|apply qkD|apply qkA|refine qkF ?_ Bi.out _|refine qkF ?_ Bk.out _|refine qkF ?_ Bq.out _)|exact HK.out))):w.heap.size≤Bn))
        have n10_:=Am ((Nat.le_trans HW0.out (by rw [hg];exact (keep_size (w:=w) (g:=g) (row:=none) (by repeat (first|(with_reducible first|exact HK.out|apply qkS|apply qkN|apply qkD|apply qkA|refine qkF ?_ Bi.out _|refine qkF ?_ Bk.out _|refine qkF ?_ Bq.out _)|exact HK.out))):w.heap.size≤Bn):w0.heap.size≤Bn))
        have n11_:=Am ((nL Bc.out hg))
        have n12_:=Am ((nG Bc.out hg))
        have n13_:=Am ((nL Bb.out hg))
        have n14_:=Am ((nG Bb.out hg))
        have n15_:=Am ((nL Bl.out hg))
        have n16_:=Am ((nG Bl.out hg))
        have n17_:=Am ((by rw [hg];exact nI (IsS51.lt (show IsS51 w0 _ g s0_0 t201 from by repeat (first|(with_reducible first|exact HI0.out|apply qsA|apply qsN|apply qsD|apply qsS|refine qsF ?_ Be.out _|refine qsF ?_ Bf.out _|refine qsF ?_ Bm.out _)|exact HI0.out))):g≠Bn))
        have n18_:=Am ((by rw [hg];exact nJ (IsS51.lt (show IsS51 w0 _ g s0_0 t201 from by repeat (first|(with_reducible first|exact HI0.out|apply qsA|apply qsN|apply qsD|apply qsS|refine qsF ?_ Be.out _|refine qsF ?_ Bf.out _|refine qsF ?_ Bm.out _)|exact HI0.out))):Bn≠g))
        clear Ba
        clear Bj
        clear Bc
        clear Bb
        clear Bl
        clear HI0
        clear HK
        clear HB
        have Ba:=n0_
        have Bj:=n1_
        have Bc:=n2_
        have Bb:=n3_
        have Bl:=n4_
        have HI0:=n5_
        have HK:=n6_
        have HB:=n7_
        have BB:=n8_
        have BE:=n9_
        have BJ:=n10_
        have BD:=n11_
        have BF:=n12_
        have Bt:=n13_
        have BG:=n14_
        have BH:=n15_
        have BI:=n16_
        have BA:=n17_
        have BL:=n18_
        clear n0_ n1_ n2_ n3_ n4_ n5_ n6_ n7_ n8_ n9_ n10_ n11_ n12_ n13_ n14_ n15_ n16_ n17_ n18_
        clear hb hbox hg
        refine hK.out _ _ ⟨(bC Bb.out 0).trans rfl,(bC Bb.out 1).trans rfl⟩ (fun hHeld=>?_)
        clear hK K
        refine norm_ (by show Act.put _ (some 8) _=_;simp only [Act.put,lA,lZ,lS,iw,jw];rfl) ?_
        refine oS 3 50 z12q41 HT_ rfl rfl (by kernel_rfl) (by decide) (fun K hK=>?_)
        refine goes_ Try.func24 (by kernel_rfl) rfl #[.agg #[.int .i64 x182000_24,.slice Ao52 x182001_24.length co52],.int .i64 t200] (by rfl) rfl rfl (by (try simp only [lM,lC,lN]);first|done|rfl|(simp only [lD,lT];rfl)) ?_
        with_reducible refine (spec_ClockTick.calls kj24 x182000_24 _ _ x182001_24 t200 t202 t203 t206 true _ ?side1 ?side2 A49.out).mono ?_
        (case side1=>exact cL (rR Ba.out).2.2)
        (case side2=>exact (rR Ba.out).2.1)
        rintro e w56 ⟨v204,v207,rfl,ho0,ho1,hb⟩
        refine ⟨_,rfl,?_⟩
        have n0_:=Am (rX (rL Ba.out) (rZ ho0) hb)
        have n1_:=Am (rX (rL Bj.out) (rZ ho0) hb)
        have n2_:=Am (rW (rQ (rQ ho0 (rI (rL Ba.out))) (rI (rL Bj.out))) (keep_size (w:=w) (g:=g) (row:=none) (by repeat (first|(with_reducible first|exact HK.out|apply qkS|apply qkN|apply qkD|apply qkA|refine qkF ?_ Bi.out _|refine qkF ?_ Bk.out _|refine qkF ?_ Bq.out _|refine qkF ?_ BE.out _)|exact HK.out))))
        have n3_:=Am (rW ho1 (keep_size (w:=w) (g:=g) (row:=none) (by repeat (first|(with_reducible first|exact HK.out|apply qkS|apply qkN|apply qkD|apply qkA|refine qkF ?_ Bi.out _|refine qkF ?_ Bk.out _|refine qkF ?_ Bq.out _|refine qkF ?_ BE.out _)|exact HK.out))))
        have n4_:=Am (bX Bc.out hb)
        have n5_:=Am (bX Bb.out hb)
        have n6_:=Am (bX Bl.out hb)
        have n7_:=Am (IsS51.below (by repeat (first|(with_reducible first|exact HI0.out|apply qsA|apply qsN|apply qsD|apply qsS|refine qsF ?_ Be.out _|refine qsF ?_ Bf.out _|refine qsF ?_ Bm.out _|refine qsF ?_ BA.out _)|exact HI0.out)) hb)
        have n8_:=Am (bX BB.out hb)
        have n9_:=Am (KeepBut.trans (by repeat (first|(with_reducible first|exact HK.out|apply qkS|apply qkN|apply qkD|apply qkA|refine qkF ?_ Bi.out _|refine qkF ?_ Bk.out _|refine qkF ?_ Bq.out _|refine qkF ?_ BE.out _)|exact HK.out)) (KeepBut.of_below hb g none) (.inl rfl))
        have n10_:=Am (bP (by repeat (first|(with_reducible first|exact HB.out|apply oA|apply pN|apply o1|refine bS ?_ (qsG HI0.out)|refine bS ?_ Bo.out|refine bS ?_ Bp.out|refine bS ?_ Br.out|refine bS ?_ BJ.out)|exact HB.out)) hb)
        clear Ba
        clear Bj
        clear Bc
        clear Bb
        clear Bl
        clear HI0
        clear BB
        clear HK
        clear HB
        have Ba:=n0_
        have Bj:=n1_
        have BM:=n2_
        have BN:=n3_
        have Bc:=n4_
        have Bb:=n5_
        have Bl:=n6_
        have HI0:=n7_
        have BB:=n8_
        have HK:=n9_
        have HB:=n10_
        clear n0_ n1_ n2_ n3_ n4_ n5_ n6_ n7_ n8_ n9_ n10_
        (try clear hb)
        (try clear hb2)
        (try clear hk)
        (try clear hi)
        (try clear ho0)
        (try clear ho1)
        refine hK.out _ _ ⟨(bC Bb.out 0).trans rfl,(bC Bb.out 1).trans rfl⟩ (fun hHeld=>?_)
        clear hK K
        refine norm_ (by show Act.put _ (some 50) _=_;simp only [Act.put,lA,lZ,lS,iw,jw];rfl) ?_
        refine pS 4 46 z12q42 HT_ rfl rfl (by kernel_rfl) (by rfl) (by intro w';go_simp;with_reducible rfl) (by simp only [Act.put,lA,lZ,lS,iw,jw];rfl) ?_
        refine pS 5 51 z12q43 HT_ rfl rfl (by kernel_rfl) (by rfl) (by intro w';go_simp;with_reducible rfl) (by simp only [Act.put,lA,lZ,lS,iw,jw];rfl) ?_
        refine pS 6 52 z12q44 HT_ rfl rfl (by kernel_rfl) (by rfl) (by intro w';go_simp;with_reducible rfl) (by simp only [Act.put,lA,lZ,lS,iw,jw];rfl) ?_
        refine pS 7 53 z12q32 HT_ rfl rfl (by kernel_rfl) (by rfl) (by intro w';go_simp;with_reducible rfl) (by simp only [Act.put,lA,lZ,lS,iw,jw];rfl) ?_
        exact norm_ (by simp only [putAll,Act.put,lA,lZ,lS]) (hCont (v204,v207,Bn) _ ⟨hHeld,(by (with_reducible repeat (first|apply rA|apply rN|apply rD));exact rM BM.out (fun _ hk=>⟨hk.1.2,hk.2⟩)),(rL BN.out),(by (with_reducible repeat (first|apply rA|apply rN|apply rD));exact rM Ba.out (fun _ hk=>hk.2)),(by (with_reducible repeat (first|apply rA|apply rN|apply rD));exact rM Bj.out (fun _ hk=>hk.2)),(bL Bc.out),(bL Bb.out),(bL Bl.out),(bL BB.out),BE.out,BJ.out,BA.out,BL.out,BD.out,BF.out,Bt.out,BG.out,BH.out,BI.out,(by repeat (first|(with_reducible first|exact HI0.out|apply qsA|apply qsN|apply qsD|apply qsS|refine qsF ?_ Be.out _|refine qsF ?_ Bf.out _|refine qsF ?_ Bm.out _|refine qsF ?_ BA.out _)|exact HI0.out)),(by repeat (first|(with_reducible first|exact HK.out|apply qkS|apply qkN|apply qkD|apply qkA|refine qkF ?_ Bi.out _|refine qkF ?_ Bk.out _|refine qkF ?_ Bq.out _|refine qkF ?_ BE.out _)|exact HK.out)),(by repeat (first|(with_reducible first|exact HB.out|apply oA|apply pN|apply o1|refine bS ?_ (qsG HI0.out)|refine bS ?_ Bo.out|refine bS ?_ Bp.out|refine bS ?_ Br.out|refine bS ?_ BJ.out)|exact HB.out))⟩)
      ·skip
       refine box_step ?hg (N:=8) ?hd (cs:=#[.int .i64 0,.slice none 0 0]) (t:=25) ?hr ?_;(case hd=>rfl);(case hg=>rfl);(case hr=>first|(go_simp;done)|(go_simp;rfl))
       intro Bn hg w54 hbox hb
       have n0_:=Am (rB (rL Ba.out) hb)
       have n1_:=Am (rB (rL Bj.out) hb)
       have n2_:=Am (bX Bc.out hb)
       have n3_:=Am (bX Bb.out hb)
       have n4_:=Am (bX Bl.out hb)
       have n5_:=Am (IsS51.below (by repeat (first|(with_reducible first|exact HI0.out|apply qsA|apply qsN|apply qsD|apply qsS|refine qsF ?_ Be.out _|refine qsF ?_ Bf.out _|refine qsF ?_ Bm.out _)|exact HI0.out)) hb)
       have n6_:=Am (KeepBut.trans (by repeat (first|(with_reducible first|exact HK.out|apply qkS|apply qkN|apply qkD|apply qkA|refine qkF ?_ Bi.out _|refine qkF ?_ Bk.out _|refine qkF ?_ Bq.out _)|exact HK.out)) (KeepBut.of_below hb g none) (.inl rfl))
       have n7_:=Am (bP (by repeat (first|(with_reducible first|exact HB.out|apply oA|apply pN|apply o1|refine bS ?_ (qsG HI0.out)|refine bS ?_ Bo.out|refine bS ?_ Bp.out|refine bS ?_ Br.out)|exact HB.out)) hb)
       have n8_:=Am (hbox)
       have n9_:=Am ((by rw [hg];exact (keep_size (w:=w) (g:=g) (row:=none) (by repeat (first|(with_reducible first|exact HK.out|apply qkS|apply qkN|apply qkD|apply qkA|refine qkF ?_ Bi.out _|refine qkF ?_ Bk.out _|refine qkF ?_ Bq.out _)|exact HK.out))):w.heap.size≤Bn))
       have n10_:=Am ((Nat.le_trans HW0.out (by rw [hg];exact (keep_size (w:=w) (g:=g) (row:=none) (by repeat (first|(with_reducible first|exact HK.out|apply qkS|apply qkN|apply qkD|apply qkA|refine qkF ?_ Bi.out _|refine qkF ?_ Bk.out _|refine qkF ?_ Bq.out _)|exact HK.out))):w.heap.size≤Bn):w0.heap.size≤Bn))
       have n11_:=Am ((nL Bc.out hg))
       have n12_:=Am ((nG Bc.out hg))
       have n13_:=Am ((nL Bb.out hg))
       have n14_:=Am ((nG Bb.out hg))
       have n15_:=Am ((nL Bl.out hg))
       have n16_:=Am ((nG Bl.out hg))
       have n17_:=Am ((by rw [hg];exact nI (IsS51.lt (show IsS51 w0 _ g s0_0 t199 from by repeat (first|(with_reducible first|exact HI0.out|apply qsA|apply qsN|apply qsD|apply qsS|refine qsF ?_ Be.out _|refine qsF ?_ Bf.out _|refine qsF ?_ Bm.out _)|exact HI0.out))):g≠Bn))
       have n18_:=Am ((by rw [hg];exact nJ (IsS51.lt (show IsS51 w0 _ g s0_0 t199 from by repeat (first|(with_reducible first|exact HI0.out|apply qsA|apply qsN|apply qsD|apply qsS|refine qsF ?_ Be.out _|refine qsF ?_ Bf.out _|refine qsF ?_ Bm.out _)|exact HI0.out))):Bn≠g))
       clear Ba
       clear Bj
       clear Bc
       clear Bb
       clear Bl
       clear HI0
       clear HK
       clear HB
       have Ba:=n0_
       have Bj:=n1_
       have Bc:=n2_
       have Bb:=n3_
       have Bl:=n4_
       have HI0:=n5_
       have HK:=n6_
       have HB:=n7_
       have BB:=n8_
       have BE:=n9_
       have BJ:=n10_
       have BD:=n11_
       have BF:=n12_
       have Bt:=n13_
       have BG:=n14_
       have BH:=n15_
       have BI:=n16_
       have BA:=n17_
       have BL:=n18_
       clear n0_ n1_ n2_ n3_ n4_ n5_ n6_ n7_ n8_ n9_ n10_ n11_ n12_ n13_ n14_ n15_ n16_ n17_ n18_
       clear hb hbox hg
       refine hK.out _ _ ⟨(bC Bb.out 0).trans rfl,(bC Bb.out 1).trans rfl⟩ (fun hHeld=>?_)
       clear hK K
       refine norm_ (by show Act.put _ (some 8) _=_;simp only [Act.put,lA,lZ,lS,iw,jw];rfl) ?_
       refine oS 2 49 z12q36 HT_ rfl rfl (by kernel_rfl) (by decide) (fun K hK=>?_)
       refine goes_ Try.func13 (by kernel_rfl) rfl #[.pointer (some ⟨g,0,none⟩),.int .i64 20] (by rfl) rfl rfl (by (try simp only [lM,lC,lN]);first|done|rfl|(simp only [lD,lT];rfl)) ?_
       with_reducible refine (spec_l6Rd_pick.calls kj24 g s0_0 t199 20 t200 t201 w0 _ ?side1 ?side2 A48.out).mono ?_
       (case side1=>repeat (first|(with_reducible first|exact HI0.out|apply qsA|apply qsN|apply qsD|apply qsS|refine qsF ?_ Be.out _|refine qsF ?_ Bf.out _|refine qsF ?_ Bm.out _|refine qsF ?_ BA.out _)|exact HI0.out))
       (case side2=>repeat (first|(with_reducible first|exact HB.out|apply oA|apply pN|apply o1|refine bS ?_ (qsG HI0.out)|refine bS ?_ Bo.out|refine bS ?_ Bp.out|refine bS ?_ Br.out|refine bS ?_ BJ.out)|exact HB.out))
       rintro e w55 ⟨rfl,hi,hb,hk⟩
       refine ⟨_,rfl,?_⟩
       have n0_:=Am (rM (Kd.R_keep (IsS51.apart (show IsS51 w0 _ g s0_0 t199 from by repeat (first|(with_reducible first|exact HI0.out|apply qsA|apply qsN|apply qsD|apply qsS|refine qsF ?_ Be.out _|refine qsF ?_ Bf.out _|refine qsF ?_ Bm.out _|refine qsF ?_ BA.out _)|exact HI0.out)) (rL Ba.out) (by decide)) hk (fun _ h=>h.2)) (fun _ h=>h.1))
       have n1_:=Am (rM (Kd.R_keep (IsS51.apart (show IsS51 w0 _ g s0_0 t199 from by repeat (first|(with_reducible first|exact HI0.out|apply qsA|apply qsN|apply qsD|apply qsS|refine qsF ?_ Be.out _|refine qsF ?_ Bf.out _|refine qsF ?_ Bm.out _|refine qsF ?_ BA.out _)|exact HI0.out)) (rL Bj.out) (by decide)) hk (fun _ h=>h.2)) (fun _ h=>h.1))
       have n2_:=Am (qkB hk (g':=Bg) (o:=.cells #[.int .i64 0,.slice none 0 0] 25 (0,0)) (bL Bc.out) Bz.out (by simp))
       have n3_:=Am (qkB hk (g':=Bd) (o:=.cells #[.int .i64 x182000_24,.slice Ao52 x182001_24.length co52] 25 (0,0)) (bL Bb.out) Bw.out (by simp))
       have n4_:=Am (qkB hk (g':=Bh) (o:=.cells #[.int .i64 t192,.slice Ao36 t193.length co36] 25 (0,0)) (bL Bl.out) Bx.out (by simp))
       have n5_:=Am (qkB hk (g':=Bn) (o:=.cells #[.int .i64 0,.slice none 0 0] 25 (0,0)) (bL BB.out) BL.out (by simp))
       have n6_:=Am (KeepBut.trans (by repeat (first|(with_reducible first|exact HK.out|apply qkS|apply qkN|apply qkD|apply qkA|refine qkF ?_ Bi.out _|refine qkF ?_ Bk.out _|refine qkF ?_ Bq.out _|refine qkF ?_ BE.out _)|exact HK.out)) hk (.inl rfl))
       have n7_:=Am (hb)
       have n8_:=Am (hi)
       clear Ba
       clear Bj
       clear Bc
       clear Bb
       clear Bl
       clear BB
       clear HK
       clear HB
       clear HI0
       have Ba:=n0_
       have Bj:=n1_
       have Bc:=n2_
       have Bb:=n3_
       have Bl:=n4_
       have BB:=n5_
       have HK:=n6_
       have HB:=n7_
       have HI0:=n8_
       clear n0_ n1_ n2_ n3_ n4_ n5_ n6_ n7_ n8_
       (try clear hb)
       (try clear hb2)
       (try clear hk)
       (try clear hi)
       refine hK.out _ _ ⟨(bC Bb.out 0).trans rfl,(bC Bb.out 1).trans rfl⟩ (fun hHeld=>?_)
       clear hK K
       refine norm_ (by show Act.put _ (some 49) _=_;simp only [Act.put,lA,lZ,lS,iw,jw];rfl) ?_
       refine oS 3 50 z12q41 HT_ rfl rfl (by kernel_rfl) (by decide) (fun K hK=>?_)
       refine goes_ Try.func24 (by kernel_rfl) rfl #[.agg #[.int .i64 x182000_24,.slice Ao52 x182001_24.length co52],.int .i64 t200] (by rfl) rfl rfl (by (try simp only [lM,lC,lN]);first|done|rfl|(simp only [lD,lT];rfl)) ?_
       with_reducible refine (spec_ClockTick.calls kj24 x182000_24 _ _ x182001_24 t200 t202 t203 t206 true _ ?side1 ?side2 A49.out).mono ?_
       (case side1=>exact cL (rR Ba.out).2.2)
       (case side2=>exact (rR Ba.out).2.1)
       rintro e w56 ⟨v204,v207,rfl,ho0,ho1,hb⟩
       refine ⟨_,rfl,?_⟩
       have n0_:=Am (rX (rL Ba.out) (rZ ho0) hb)
       have n1_:=Am (rX (rL Bj.out) (rZ ho0) hb)
       have n2_:=Am (rW (rQ (rQ ho0 (rI (rL Ba.out))) (rI (rL Bj.out))) (keep_size (w:=w) (g:=g) (row:=none) (by repeat (first|(with_reducible first|exact HK.out|apply qkS|apply qkN|apply qkD|apply qkA|refine qkF ?_ Bi.out _|refine qkF ?_ Bk.out _|refine qkF ?_ Bq.out _|refine qkF ?_ BE.out _)|exact HK.out))))
       have n3_:=Am (rW ho1 (keep_size (w:=w) (g:=g) (row:=none) (by repeat (first|(with_reducible first|exact HK.out|apply qkS|apply qkN|apply qkD|apply qkA|refine qkF ?_ Bi.out _|refine qkF ?_ Bk.out _|refine qkF ?_ Bq.out _|refine qkF ?_ BE.out _)|exact HK.out))))
       have n4_:=Am (bX Bc.out hb)
       have n5_:=Am (bX Bb.out hb)
       have n6_:=Am (bX Bl.out hb)
       have n7_:=Am (IsS51.below (by repeat (first|(with_reducible first|exact HI0.out|apply qsA|apply qsN|apply qsD|apply qsS|refine qsF ?_ Be.out _|refine qsF ?_ Bf.out _|refine qsF ?_ Bm.out _|refine qsF ?_ BA.out _)|exact HI0.out)) hb)
       have n8_:=Am (bX BB.out hb)
       have n9_:=Am (KeepBut.trans (by repeat (first|(with_reducible first|exact HK.out|apply qkS|apply qkN|apply qkD|apply qkA|refine qkF ?_ Bi.out _|refine qkF ?_ Bk.out _|refine qkF ?_ Bq.out _|refine qkF ?_ BE.out _)|exact HK.out)) (KeepBut.of_below hb g none) (.inl rfl))
       have n10_:=Am (bP (by repeat (first|(with_reducible first|exact HB.out|apply oA|apply pN|apply o1|refine bS ?_ (qsG HI0.out)|refine bS ?_ Bo.out|refine bS ?_ Bp.out|refine bS ?_ Br.out|refine bS ?_ BJ.out)|exact HB.out)) hb)
       clear Ba
       clear Bj
       clear Bc
       clear Bb
       clear Bl
       clear HI0
       clear BB
       clear HK
       clear HB
       have Ba:=n0_
       have Bj:=n1_
       have BM:=n2_
       have BN:=n3_
       have Bc:=n4_
       have Bb:=n5_
       have Bl:=n6_
       have HI0:=n7_
       have BB:=n8_
       have HK:=n9_
       have HB:=n10_
       clear n0_ n1_ n2_ n3_ n4_ n5_ n6_ n7_ n8_ n9_ n10_
       (try clear hb)
       (try clear hb2)
       (try clear hk)
       (try clear hi)
       (try clear ho0)
       (try clear ho1)
       refine hK.out _ _ ⟨(bC Bb.out 0).trans rfl,(bC Bb.out 1).trans rfl⟩ (fun hHeld=>?_)
       clear hK K
       refine norm_ (by show Act.put _ (some 50) _=_;simp only [Act.put,lA,lZ,lS,iw,jw];rfl) ?_
       refine pS 4 46 z12q42 HT_ rfl rfl (by kernel_rfl) (by rfl) (by intro w';go_simp;with_reducible rfl) (by simp only [Act.put,lA,lZ,lS,iw,jw];rfl) ?_
       refine pS 5 51 z12q43 HT_ rfl rfl (by kernel_rfl) (by rfl) (by intro w';go_simp;with_reducible rfl) (by simp only [Act.put,lA,lZ,lS,iw,jw];rfl) ?_
       refine pS 6 52 z12q44 HT_ rfl rfl (by kernel_rfl) (by rfl) (by intro w';go_simp;with_reducible rfl) (by simp only [Act.put,lA,lZ,lS,iw,jw];rfl) ?_
       refine pS 7 53 z12q32 HT_ rfl rfl (by kernel_rfl) (by rfl) (by intro w';go_simp;with_reducible rfl) (by simp only [Act.put,lA,lZ,lS,iw,jw];rfl) ?_
       exact norm_ (by simp only [putAll,Act.put,lA,lZ,lS]) (hCont (v204,v207,Bn) _ ⟨hHeld,(by (with_reducible repeat (first|apply rA|apply rN|apply rD));exact rM BM.out (fun _ hk=>⟨hk.1.2,hk.2⟩)),(rL BN.out),(by (with_reducible repeat (first|apply rA|apply rN|apply rD));exact rM Ba.out (fun _ hk=>hk.2)),(by (with_reducible repeat (first|apply rA|apply rN|apply rD));exact rM Bj.out (fun _ hk=>hk.2)),(bL Bc.out),(bL Bb.out),(bL Bl.out),(bL BB.out),BE.out,BJ.out,BA.out,BL.out,BD.out,BF.out,Bt.out,BG.out,BH.out,BI.out,(by repeat (first|(with_reducible first|exact HI0.out|apply qsA|apply qsN|apply qsD|apply qsS|refine qsF ?_ Be.out _|refine qsF ?_ Bf.out _|refine qsF ?_ Bm.out _|refine qsF ?_ BA.out _)|exact HI0.out)),(by repeat (first|(with_reducible first|exact HK.out|apply qkS|apply qkN|apply qkD|apply qkA|refine qkF ?_ Bi.out _|refine qkF ?_ Bk.out _|refine qkF ?_ Bq.out _|refine qkF ?_ BE.out _)|exact HK.out)),(by repeat (first|(with_reducible first|exact HB.out|apply oA|apply pN|apply o1|refine bS ?_ (qsG HI0.out)|refine bS ?_ Bo.out|refine bS ?_ Bp.out|refine bS ?_ Br.out|refine bS ?_ BJ.out)|exact HB.out))⟩)
     rintro ⟨v204,v207,Bn⟩ w57 ⟨hS_,h0_,h1_,h2_,h3_,h4_,h5_,h6_,h7_,h8_,h9_,h10_,h11_,h12_,h13_,h14_,h15_,h16_,h17_,h18_,h19_,h20_⟩
     have n0_:Aside0 (Kd.R k35 35 w57 w.heap.size (fun k_=>some k_≠(.slice Ao52 x182001_24.length co52:Value).ownBlock∧some k_≠(.slice Ao36 t193.length co36:Value).ownBlock) v204 t203):=⟨h0_⟩
     have n1_:Aside0 (Kd.R (Kd.int .i64) 3 w57 w.heap.size (fun _=>True) v207 t206):=⟨h1_⟩
     have n2_:Aside0 (Kd.R k35 35 w57 w.heap.size (fun k_=>some k_≠(v204:Value).ownBlock) (.slice Ao52 x182001_24.length co52) x182001_24):=⟨h2_⟩
     have n3_:Aside0 (Kd.R k35 35 w57 w.heap.size (fun k_=>some k_≠(v204:Value).ownBlock) (.slice Ao36 t193.length co36) t193):=⟨h3_⟩
     have n4_:Aside0 (w57.heap[Bg]?=some (.cells #[.int .i64 0,.slice none 0 0] 25 (0,0))):=⟨h4_⟩
     have n5_:Aside0 (w57.heap[Bd]?=some (.cells #[.int .i64 x182000_24,.slice Ao52 x182001_24.length co52] 25 (0,0))):=⟨h5_⟩
     have n6_:Aside0 (w57.heap[Bh]?=some (.cells #[.int .i64 t192,.slice Ao36 t193.length co36] 25 (0,0))):=⟨h6_⟩
     have n7_:Aside0 (w57.heap[Bn]?=some (.cells #[.int .i64 0,.slice none 0 0] 25 (0,0))):=⟨h7_⟩
     have n8_:Aside0 (w.heap.size≤Bn):=⟨h8_⟩
     have n9_:Aside0 (w0.heap.size≤Bn):=⟨h9_⟩
     have n10_:Aside0 (g≠Bn):=⟨h10_⟩
     have n11_:Aside0 (Bn≠g):=⟨h11_⟩
     have n12_:Aside0 (Bg≠Bn):=⟨h12_⟩
     have n13_:Aside0 (Bn≠Bg):=⟨h13_⟩
     have n14_:Aside0 (Bd≠Bn):=⟨h14_⟩
     have n15_:Aside0 (Bn≠Bd):=⟨h15_⟩
     have n16_:Aside0 (Bh≠Bn):=⟨h16_⟩
     have n17_:Aside0 (Bn≠Bh):=⟨h17_⟩
     have n18_:Aside0 (IsS51 w0 w57 g s0_0 t201):=⟨h18_⟩
     have n19_:Aside0 (KeepBut w w57 g none):=⟨h19_⟩
     have n20_:Aside0 (Below w0.heap.size w0 w57):=⟨h20_⟩
     clear Ba
     clear Bj
     clear Bc
     clear Bb
     clear Bl
     clear HI0
     clear HK
     clear HB
     clear h0_ h1_ h2_ h3_ h4_ h5_ h6_ h7_ h8_ h9_ h10_ h11_ h12_ h13_ h14_ h15_ h16_ h17_ h18_ h19_ h20_
     have BM:=n0_
     have BN:=n1_
     have Ba:=n2_
     have Bj:=n3_
     have Bc:=n4_
     have Bb:=n5_
     have Bl:=n6_
     have BB:=n7_
     have BE:=n8_
     have BJ:=n9_
     have BA:=n10_
     have BL:=n11_
     have BD:=n12_
     have BF:=n13_
     have Bt:=n14_
     have BG:=n15_
     have BH:=n16_
     have BI:=n17_
     have HI0:=n18_
     have HK:=n19_
     have HB:=n20_
     clear n0_ n1_ n2_ n3_ n4_ n5_ n6_ n7_ n8_ n9_ n10_ n11_ n12_ n13_ n14_ n15_ n16_ n17_ n18_ n19_ n20_
     have hHeld:w57.cell? ⟨Bd,0,none⟩=some (.int .i64 x182000_24)∧w57.cell? ⟨Bd,1,none⟩=some (.slice Ao52 x182001_24.length co52):=hS_
     obtain ⟨Ao59,co59,eo59⟩:=rC BM.out
     (first|subst eo59|(injection eo59 with f1_ f2_ f3_;have f4_:=f1_.symm;have f5_:=f3_.symm;clear f1_ f2_ f3_;subst f4_;subst f5_))
     refine norm_ (by simp only [putAll,Act.put,lA,lZ,lS];rfl) ?_
     refine oU 9 none z12q45 HT_ rfl rfl (by kernel_rfl) (by decide) (fun K hK=>?_)
     have hs58:=cz0 BB.out
     have hfs58:=bF BB.out 0
     have hns58_0:=BD.out
     have hns58_1:=Bt.out
     have hns58_2:=BH.out
     have hms58_0:=BF.out
     have hms58_1:=BG.out
     have hms58_2:=BI.out
     have hs60:=cz1 BB.out
     have hfs60:=bF BB.out 1
     have hns60_0:=BD.out
     have hns60_1:=Bt.out
     have hns60_2:=BH.out
     have hms60_0:=BF.out
     have hms60_1:=BG.out
     have hms60_2:=BI.out
     refine skip_ (w1:=?_) (by rfl) rfl ?_ ?_
     rotate_left;(go_simp;rfl)
     refine hK.out _ _ ⟨((cF (p:=⟨Bn,_,none⟩) Bt.out _).trans (((cF (p:=⟨Bn,_,none⟩) Bt.out _).trans (hHeld.1)))),((cF (p:=⟨Bn,_,none⟩) Bt.out _).trans (((cF (p:=⟨Bn,_,none⟩) Bt.out _).trans (hHeld.2))))⟩ (fun hHeld=>?_)
     clear hK K
     refine pS 10 9 z12q46 HT_ rfl rfl (by kernel_rfl) (by rfl) (by intro w';go_simp;with_reducible rfl) (by simp only [Act.put,lA,lZ,lS,iw,jw];rfl) ?_
     refine pS 11 10 z12q47 HT_ rfl rfl (by kernel_rfl) (by rfl) (by intro w';go_simp;with_reducible rfl) (by simp only [Act.put,lA,lZ,lS,iw,jw];rfl) ?_
     refine done_ (done_of HT_.out (by kernel_rfl)) ?_
     have D5:=BF.out
     have D6:=BD.out
     have D7:=BG.out
     have D8:=Bt.out
     have D9:=BI.out
     have Fa:=BH.out
     have Fb:=BL.out
     have Fc:=BA.out
     have Dp:=cz0 BB.out
     have Dq:=cz1 BB.out
     have Dr:=bF BB.out 0
     have Ds:=bF BB.out 1
     have Fd:=BO.out
     have Fe:=BK.out
     have Ff:=Bs.out
     have Fg:=Bv.out
     have Fh:=Bw.out
     have Fi:=Bf.out
     have Dt:=cz0 Bb.out
     have Du:=cz1 Bb.out
     have Dv:=bF Bb.out 0
     have Dw:=bF Bb.out 1
     try go_wp2
     go_roundg kj24
     case measure=>have:=HK1.out;have:=BT.out;omega
     case rel=>exact ⟨(wrap64 (yn-1)),(t201),(t202),(t203),(.slice Ao59 t203.length co59),(by first|rfl|(simp;done)|(simp [*];done)),H',⟨by have:=HK1.out;have:=BT.out;omega⟩,⟨by (with_reducible repeat (first|apply rA|apply rN|apply rD));exact rM (rF (p:=⟨Bd,1,none⟩) (rF (p:=⟨Bd,0,none⟩) (rF (p:=⟨Bn,1,none⟩) (rF (p:=⟨Bn,0,none⟩) (rT (rT BM.out BB.out (by decide)) Bb.out (by decide)) (fun _ hk=>hk.1.2) (.int .i64 t202)) (fun _ hk=>hk.1.2) (.slice Ao59 t203.length co59)) (fun _ hk=>hk.2) (.int .i64 t202)) (fun _ hk=>hk.2) (.slice Ao59 t203.length co59)) (fun _ hk=>trivial)⟩,⟨by (with_reducible repeat (first|refine bN ?_ _|refine bD ?_|refine bA ?_ _|refine bE ?_ BK.out _|refine bE ?_ BD.out _));exact Bc.out⟩,⟨by (with_reducible repeat (first|refine bN ?_ _|refine bD ?_|refine bA ?_ _));refine bT (cs:=#[.int .i64 t202,.slice Ao52 x182001_24.length co52]) ?_ 1 _ rfl;(with_reducible repeat (first|refine bN ?_ _|refine bD ?_|refine bA ?_ _));refine bT (cs:=#[.int .i64 x182000_24,.slice Ao52 x182001_24.length co52]) ?_ 0 _ rfl;(with_reducible repeat (first|refine bN ?_ _|refine bD ?_|refine bA ?_ _|refine bE ?_ Bt.out _));exact Bb.out⟩,⟨by repeat (first|(with_reducible first|exact HI0.out|apply qsA|apply qsN|apply qsD|apply qsS|refine qsF ?_ Be.out _|refine qsF ?_ Bf.out _|refine qsF ?_ Bm.out _|refine qsF ?_ BA.out _)|exact HI0.out)⟩,⟨by repeat (first|(with_reducible first|exact HK.out|apply qkS|apply qkN|apply qkD|apply qkA|refine qkF ?_ Bi.out _|refine qkF ?_ Bk.out _|refine qkF ?_ Bq.out _|refine qkF ?_ BE.out _)|exact HK.out)⟩,⟨by repeat (first|(with_reducible first|exact HB.out|apply oA|apply pN|apply o1|refine bS ?_ (qsG HI0.out)|refine bS ?_ Bo.out|refine bS ?_ Bp.out|refine bS ?_ Br.out|refine bS ?_ BJ.out)|exact HB.out)⟩⟩
end Go.Proofs.Ytpacdakadkblgaa.PFnClockDrop
