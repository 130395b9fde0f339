/- Proved here, without a condition beyond those that each theorem states: what the Go functions named below do is what the plain functions of the same names say. Written by xprint.py, a program of this session. -/
import Derived.Test.YtiifanjjohophaaPFnSigsDrainx0
import Derived.Test.YtiifanjjohophaaPFnSigsDrainx5
import Derived.Test.YtiifanjjohophaaPFnSigsDrainx8
namespace Go.Proofs.Ytiifanjjohophaa.PFnSigsDrain
open Go.RowKit Go.Proofs.YtiifanjjohophaaW.PrintWords Go.Proofs.YtiifanjjohophaaW.PrintLast Go.Proofs.YtiifanjjohophaaW.PrintMore
attribute [local go_sem] max2_int min2_int max_two min_two max_three min_three max_four min_four   -- for this text's walks alone
set_option linter.unusedVariables false
set_option linter.unusedSimpArgs false

attribute [local go_sem ↓] isSome_setCell_
/-! ### spec_DrawSigsNext: function 17 -/
def spec_DrawSigsNext.f (k : Nat) (l0 : List Int) : Option (List Bool × List Bool × List Int) := (spec_l6Open.f l0).bind fun bt211 => ((spec_l92Sigs.f k bt211.1 bt211.2).bind fun bt214 => (some (bt214.1, bt214.2.1, bt214.2.2.1)))
theorem spec_DrawSigsNext.mono : ∀ a0 k, LeO (spec_DrawSigsNext.f k a0) (spec_DrawSigsNext.f (k + 1) a0) := by
 intro a0 k
 unfold spec_DrawSigsNext.f
 repeat' first
  |(with_reducible exact spec_l92Sigs.mono _ _ _)
  |(with_reducible exact LeO.refl _)
  |(with_reducible exact LeO.none _)
  |(with_reducible refine LeO.ite ?_ ?_)
  |(with_reducible refine LeO.bind ?_ (fun _ => ?_))
  |exact spec_l92Sigs.mono _ _ _
  |exact LeO.none _
  |refine LeO.ite ?_ ?_
  |refine LeO.bind ?_ (fun _ => ?_)
set_option maxHeartbeats 2000000 in
set_option maxRecDepth 100000 in
theorem spec_DrawSigsNext.calls (k:Nat) (A0:Option Addr) (c0:Nat) (l0:List Int) (r1:List Bool) (r2:List Bool) (r3:List Int) (w:World) (hr0:Kd.C (Kd.int .u8) w A0 l0.length l0) (hc0:l0.length≤c0) (h:spec_DrawSigsNext.f k l0=some (r1,r2,r3)) :
  Calls Try.prog 17 #[.slice A0 l0.length c0] w fun e w'=>∃ v0_ v1_ v2_:Value,e=.returned (.agg #[v0_,v1_,v2_])∧Kd.Q Kd.bool 4 w' w.heap.size (fun k_=>some k_≠(v1_:Value).ownBlock) v0_ r1∧Kd.R Kd.bool 4 w' w.heap.size (fun k_=>some k_≠(v0_:Value).ownBlock) v1_ r2∧Kd.R (Kd.int .i64) 3 w' w.heap.size (fun _=>True) v2_ r3∧Below w.heap.size w w':=by
 have hu26:=Try.underlying26
 have HR0:=Am hr0
 have HC0:=Am hc0
 clear hr0 hc0
 have HB:=Am (bJ w.heap.size w)
 have H:((spec_l6Open.f l0).bind fun bt211=>((spec_l92Sigs.f k bt211.1 bt211.2).bind fun bt214=>(some (bt214.1,bt214.2.1,bt214.2.2.1))))=some (r1,r2,r3):=h
 clear h
 replace H:=oC H
 obtain ⟨⟨t211,t212⟩,A20,H⟩:=H
 replace H:((spec_l92Sigs.f k t211 t212).bind fun bt214=>(some (bt214.1,bt214.2.1,bt214.2.2.1)))=some (r1,r2,r3):=H
 have A2:=Am A20
 clear A20
 replace H:=oC H
 obtain ⟨⟨t214,t217,t220,t223⟩,A30,H⟩:=H
 replace H:(some (t214,t217,t220))=some (r1,r2,r3):=H
 have A3:=Am A30
 clear A30
 simp only [Option.some.injEq,Prod.mk.injEq] at H
 obtain ⟨rfl,rfl,rfl⟩:=H
 go_enter Try.func17,Try.ntmps17
 go_wp2_with (first|((with_reducible refine gD (N:=2) rfl ?_);refine bI ?hg (N:=2) ?hd (cs:=#[.slice none 0 0,.slice none 0 0,.slice none 0 0]) (t:=26) ?hr ?_;(case hd=>rfl);(case hg=>rfl);(case hr=>first|(go_simp;done)|(go_simp;rfl));intro Ba hg w4 hbox hb;have n0_:=Am (bP (by repeat (first|(with_reducible first|exact HB.out|apply oA|apply pN|apply o1)|exact HB.out)) hb);have n1_:=Am (hbox);have n2_:=Am ((by rw [hg];exact (bZ (by repeat (first|(with_reducible first|exact HB.out|apply oA|apply pN|apply o1)|exact HB.out))):w.heap.size≤Ba));have n3_:=Am ((by rw [hg];exact (bZ (by repeat (first|(with_reducible first|exact HB.out|apply oA|apply pN|apply o1)|exact HB.out))):w.heap.size≤Ba));clear HB;revert n0_ n1_ n2_ n3_;intro HB Bb Bo Bc;clear hb hbox hg)|((with_reducible refine gC (f:=41) rfl ?_);refine goesL_ (some 5) rfl rfl Try.func41 (by kernel_rfl) rfl #[.slice A0 l0.length c0] rfl (by (try simp only [lM,lC,lN]);first|done|rfl|(simp only [lD,lT];rfl)) ?_;(with_reducible refine (spec_l6Open.calls _ _ l0 t211 t212 w _ ?side1 ?side2 ?side3 A2.out).mono ?_);(case side1=>repeat (first|(with_reducible first|exact HB.out|apply oA|apply pN|apply o1|refine bS ?_ Bc.out)|exact HB.out));(case side2=>exact HR0.out);(case side3=>exact HC0.out);rintro e w5 ⟨g213,rfl,hi,hb,hb2⟩;refine ⟨_,rfl,?_⟩;have n0_:=Am (bB (g:=Ba) (o:=.cells #[.slice none 0 0,.slice none 0 0,.slice none 0 0] 26 (0,0)) (bL Bb.out) hb2);have n1_:=Am (hb);have n2_:=Am (hi);have n3_:=Am (IsS60.ne_blk hi (bB (g:=Ba) (o:=.cells #[.slice none 0 0,.slice none 0 0,.slice none 0 0] 26 (0,0)) (bL Bb.out) hb2) (by decide));have n4_:=Am (Ne.symm (IsS60.ne_blk hi (bB (g:=Ba) (o:=.cells #[.slice none 0 0,.slice none 0 0,.slice none 0 0] 26 (0,0)) (bL Bb.out) hb2) (by decide)));clear Bb HB;revert n0_ n1_ n2_ n3_ n4_;intro Bb HB HI213 Bd Be;(try clear hb);(try clear hb2);(try clear hk);(try clear hi))|((with_reducible refine gC (f:=42) rfl ?_);refine goesL_ (some 7) rfl rfl Try.func42 (by kernel_rfl) rfl #[.pointer (some ⟨g213,0,none⟩)] rfl (by (try simp only [lM,lC,lN]);first|done|rfl|(simp only [lD,lT];rfl)) ?_;(with_reducible refine (spec_l92Sigs.calls k g213 t211 t212 t214 t217 t220 t223 w _ ?side1 ?side2 A3.out).mono ?_);(case side1=>repeat (first|(with_reducible first|exact HI213.out|apply IsS60.alloc|apply IsS60.drewN|apply IsS60.drew|apply IsS60.set_1|refine IsS60.far ?_ Bd.out _)|exact HI213.out));(case side2=>repeat (first|(with_reducible first|exact HB.out|apply oA|apply pN|apply o1|refine bS ?_ (IsS60.ge HI213.out)|refine bS ?_ Bc.out)|exact HB.out));rintro e w6 ⟨v215,v218,v221,rfl,ho0,ho1,ho2,hi,hb,hk⟩;refine ⟨_,rfl,?_⟩;have n0_:=Am (KeepBut.blk hk (g':=Ba) (o:=.cells #[.slice none 0 0,.slice none 0 0,.slice none 0 0] 26 (0,0)) (bL Bb.out) Be.out (by simp));have n1_:=Am (Kd.Q_lower ho0 (bZ (by repeat (first|(with_reducible first|exact HB.out|apply oA|apply pN|apply o1|refine bS ?_ (IsS60.ge HI213.out)|refine bS ?_ Bc.out)|exact HB.out))));have n2_:=Am (rW ho1 (bZ (by repeat (first|(with_reducible first|exact HB.out|apply oA|apply pN|apply o1|refine bS ?_ (IsS60.ge HI213.out)|refine bS ?_ Bc.out)|exact HB.out))));have n3_:=Am (rW ho2 (bZ (by repeat (first|(with_reducible first|exact HB.out|apply oA|apply pN|apply o1|refine bS ?_ (IsS60.ge HI213.out)|refine bS ?_ Bc.out)|exact HB.out))));have n4_:=Am (hb);have n5_:=Am (hi);clear Bb HB HI213;revert n0_ n1_ n2_ n3_ n4_ n5_;intro Bb Bf Bg Bh HB HI213;(try clear hb);(try clear hb2);(try clear hk);(try clear hi);(try clear ho0);(try clear ho1);(try clear ho2);obtain ⟨Ao7,co7,eo7,_⟩:=Kd.Q_slice Bf.out;subst eo7;have Bp:=Be.out;have Bq:=Bd.out;have Bi:=cz0 Bb.out;have Bj:=cz1 Bb.out;have Bk:=cz2 Bb.out;have Bl:=bF Bb.out 0;have Bm:=bF Bb.out 1;have Bn:=bF Bb.out 2;obtain ⟨Ao10,co10,eo10⟩:=rC Bg.out;subst eo10;obtain ⟨Ao11,co11,eo11⟩:=rC Bh.out;subst eo11))
 refine bodyPost_ret (results_cell_row rfl _ _ Ba 26 #[.slice Ao7 t214.length co7,.slice Ao10 t217.length co10,.slice Ao11 t220.length co11] (0,0) _ rfl (by (with_reducible repeat (first|refine bN ?_ _|refine bD ?_|refine bA ?_ _));refine bT (cs:=#[.slice Ao7 t214.length co7,.slice Ao10 t217.length co10,.slice none 0 0]) ?_ 2 _ rfl;(with_reducible repeat (first|refine bN ?_ _|refine bD ?_|refine bA ?_ _));refine bT (cs:=#[.slice Ao7 t214.length co7,.slice none 0 0,.slice none 0 0]) ?_ 1 _ rfl;(with_reducible repeat (first|refine bN ?_ _|refine bD ?_|refine bA ?_ _));refine bT (cs:=#[.slice none 0 0,.slice none 0 0,.slice none 0 0]) ?_ 0 _ rfl;(with_reducible repeat (first|refine bN ?_ _|refine bD ?_|refine bA ?_ _));exact Bb.out) Try.underlying26 rfl (by kernel_rfl)) rfl ?_
 exact ⟨_,_,_,by first|rfl|(simp [errW_none,errW_some] <;> rfl)|(simp [*,errW_none,errW_some] <;> rfl),by (with_reducible repeat (first|apply Kd.Q_alloc|apply Kd.Q_drewN|apply Kd.Q_drew));exact qM (Kd.Q_far (p:=⟨Ba,2,none⟩) (Kd.Q_far (p:=⟨Ba,1,none⟩) (Kd.Q_far (p:=⟨Ba,0,none⟩) (Kd.Q_types Bf.out Bb.out (by decide)) (fun _ hk=>hk.2) (.slice Ao7 t214.length co7)) (fun _ hk=>hk.2) (.slice Ao10 t217.length co10)) (fun _ hk=>hk.2) (.slice Ao11 t220.length co11)) (fun _ hk=>hk.1),by (with_reducible repeat (first|apply rA|apply rN|apply rD));exact rM (rF (p:=⟨Ba,2,none⟩) (rF (p:=⟨Ba,1,none⟩) (rF (p:=⟨Ba,0,none⟩) (rT Bg.out Bb.out (by decide)) (fun _ hk=>hk.2) (.slice Ao7 t214.length co7)) (fun _ hk=>hk.2) (.slice Ao10 t217.length co10)) (fun _ hk=>hk.2) (.slice Ao11 t220.length co11)) (fun _ hk=>hk.1),by (with_reducible repeat (first|apply rA|apply rN|apply rD));exact rM (rF (p:=⟨Ba,2,none⟩) (rF (p:=⟨Ba,1,none⟩) (rF (p:=⟨Ba,0,none⟩) (rT Bh.out Bb.out (by decide)) (fun _ hk=>hk.2) (.slice Ao7 t214.length co7)) (fun _ hk=>hk.2) (.slice Ao10 t217.length co10)) (fun _ hk=>hk.2) (.slice Ao11 t220.length co11)) (fun _ hk=>trivial),by repeat (first|(with_reducible first|exact HB.out|apply oA|apply pN|apply o1|refine bS ?_ (IsS60.ge HI213.out)|refine bS ?_ Bc.out)|exact HB.out)⟩

end Go.Proofs.Ytiifanjjohophaa.PFnSigsDrain
