/- Proved here, without a condition beyond those that each theorem states: what the Go functions named below do is what the plain functions of the same names say. Written by xprint.py, a program of this session. -/
import Derived.Test.YtfhcgmfodfcpeaaPFnQueueRunx0
import Derived.Test.YtfhcgmfodfcpeaaPFnQueueRunx7
import Derived.Test.YtfhcgmfodfcpeaaPFnQueueRunx12
namespace Go.Proofs.Ytfhcgmfodfcpeaa.PFnQueueRun
open Go.RowKit Go.Proofs.YtfhcgmfodfcpeaaW.PrintWords Go.Proofs.YtfhcgmfodfcpeaaW.PrintLast Go.Proofs.YtfhcgmfodfcpeaaW.PrintMore
attribute [local go_sem] max2_int min2_int max_two min_two max_three min_three max_four min_four   -- for this text's walks alone
set_option linter.unusedVariables false
set_option linter.unusedSimpArgs false

attribute [local go_sem ↓] isSome_setCell_
/-! ### spec_DrawQueueRun: function 30 -/
def spec_DrawQueueRun.f (k : Nat) (l0 : List Int) : Option ((List (S40)) × Int × Int) := (spec_l6Open.f l0).bind fun bt276 => ((spec_l92Queue.f k bt276.1 bt276.2).bind fun bt279 => ((spec_l6Rd_pick.f k bt276.1 bt279.2.2 60).bind fun bt284 => ((spec_l6Rd_pick.f k bt276.1 bt284.2 30).bind fun bt286 => (some (bt279.1, bt279.2.1, wrap64 (bt284.1 - (wrap64 (Int.tdiv bt286.1 29))))))))
theorem spec_DrawQueueRun.mono : ∀ a0 k, LeO (spec_DrawQueueRun.f k a0) (spec_DrawQueueRun.f (k + 1) a0) := by
 intro a0 k
 unfold spec_DrawQueueRun.f
 repeat' first
  |(with_reducible exact spec_l6Rd_pick.mono _ _ _ _)
  |(with_reducible exact spec_l92Queue.mono _ _ _)
  |(with_reducible exact LeO.refl _)
  |(with_reducible exact LeO.none _)
  |(with_reducible refine LeO.ite ?_ ?_)
  |(with_reducible refine LeO.bind ?_ (fun _ => ?_))
  |exact spec_l6Rd_pick.mono _ _ _ _
  |exact spec_l92Queue.mono _ _ _
  |exact LeO.none _
  |refine LeO.ite ?_ ?_
  |refine LeO.bind ?_ (fun _ => ?_)
set_option maxHeartbeats 2000000 in
set_option maxRecDepth 100000 in
theorem spec_DrawQueueRun.calls (k:Nat) (A0:Option Addr) (c0:Nat) (l0:List Int) (r1:List (S40)) (r2:Int) (r3:Int) (w:World) (hr0:Kd.C (Kd.int .u8) w A0 l0.length l0) (hc0:l0.length≤c0) (h:spec_DrawQueueRun.f k l0=some (r1,r2,r3)) :
  Calls Try.prog 30 #[.slice A0 l0.length c0] w fun e w'=>∃ v0_:Value,e=.returned (.tuple #[.agg #[v0_,.int .i64 r2],.int .i64 r3])∧Kd.R k40 40 w' w.heap.size (fun _=>True) v0_ r1∧Below w.heap.size w w':=by
 have hu25:=Try.underlying25
 have HR0:=Am hr0
 have HC0:=Am hc0
 clear hr0 hc0
 have HB:=Am (Below.refl w.heap.size w)
 have H:((spec_l6Open.f l0).bind fun bt276=>((spec_l92Queue.f k bt276.1 bt276.2).bind fun bt279=>((spec_l6Rd_pick.f k bt276.1 bt279.2.2 60).bind fun bt284=>((spec_l6Rd_pick.f k bt276.1 bt284.2 30).bind fun bt286=>(some (bt279.1,bt279.2.1,wrap64 (bt284.1 - (wrap64 (Int.tdiv bt286.1 29)))))))))=some (r1,r2,r3):=h
 clear h
 replace H:=oC H
 obtain ⟨⟨t276,t277⟩,A20,H⟩:=H
 replace H:((spec_l92Queue.f k t276 t277).bind fun bt279=>((spec_l6Rd_pick.f k t276 bt279.2.2 60).bind fun bt284=>((spec_l6Rd_pick.f k t276 bt284.2 30).bind fun bt286=>(some (bt279.1,bt279.2.1,wrap64 (bt284.1 - (wrap64 (Int.tdiv bt286.1 29))))))))=some (r1,r2,r3):=H
 have A2:=Am A20
 clear A20
 replace H:=oC H
 obtain ⟨⟨t279,t282,t283⟩,A30,H⟩:=H
 replace H:((spec_l6Rd_pick.f k t276 t283 60).bind fun bt284=>((spec_l6Rd_pick.f k t276 bt284.2 30).bind fun bt286=>(some (t279,t282,wrap64 (bt284.1 - (wrap64 (Int.tdiv bt286.1 29)))))))=some (r1,r2,r3):=H
 have A3:=Am A30
 clear A30
 replace H:=oC H
 obtain ⟨⟨t284,t285⟩,A40,H⟩:=H
 replace H:((spec_l6Rd_pick.f k t276 t285 30).bind fun bt286=>(some (t279,t282,wrap64 (t284 - (wrap64 (Int.tdiv bt286.1 29))))))=some (r1,r2,r3):=H
 have A4:=Am A40
 clear A40
 replace H:=oC H
 obtain ⟨⟨t286,t287⟩,A50,H⟩:=H
 replace H:(some (t279,t282,wrap64 (t284 - (wrap64 (Int.tdiv t286 29)))))=some (r1,r2,r3):=H
 have A5:=Am A50
 clear A50
 simp only [Option.some.injEq,Prod.mk.injEq] at H
 obtain ⟨rfl,rfl,rfl⟩:=H
 go_enter Try.func30,Try.ntmps30
 go_wp2_with (first|((with_reducible refine gate_dst (N:=2) rfl ?_);refine box_event ?hg (N:=2) ?hd (cs:=#[.slice none 0 0,.int .i64 0]) (t:=25) ?hr ?_;(case hd=>rfl);(case hg=>rfl);(case hr=>first|(go_simp;done)|(go_simp;rfl));intro Bb hg w6 hbox hb;have n0_:=Am (bP (by repeat (first|(with_reducible first|exact HB.out|apply oA|apply pN|apply o1)|exact HB.out)) hb);have n1_:=Am (hbox);have n2_:=Am ((by rw [hg];exact (bZ (by repeat (first|(with_reducible first|exact HB.out|apply oA|apply pN|apply o1)|exact HB.out))):w.heap.size≤Bb));have n3_:=Am ((by rw [hg];exact (bZ (by repeat (first|(with_reducible first|exact HB.out|apply oA|apply pN|apply o1)|exact HB.out))):w.heap.size≤Bb));clear HB;revert n0_ n1_ n2_ n3_;intro HB Ba Bk Bf;clear hb hbox hg)|((with_reducible refine gate_callee (f:=33) rfl ?_);refine goesL_ (some 6) rfl rfl Try.func33 (by kernel_rfl) rfl #[.slice A0 l0.length c0] rfl (by (try simp only [lM,lC,lN]);first|done|rfl|(simp only [lD,lT];rfl)) ?_;(with_reducible refine (spec_l6Open.calls _ _ l0 t276 t277 w _ ?side1 ?side2 ?side3 A2.out).mono ?_);(case side1=>repeat (first|(with_reducible first|exact HB.out|apply oA|apply pN|apply o1|refine bS ?_ Bf.out)|exact HB.out));(case side2=>exact HR0.out);(case side3=>exact HC0.out);rintro e w7 ⟨g278,rfl,hi,hb,hb2⟩;refine ⟨_,rfl,?_⟩;have n0_:=Am (bB (g:=Bb) (o:=.cells #[.slice none 0 0,.int .i64 0] 25 (0,0)) (bL Ba.out) hb2);have n1_:=Am (hb);have n2_:=Am (hi);have n3_:=Am (IsS58.ne_blk hi (bB (g:=Bb) (o:=.cells #[.slice none 0 0,.int .i64 0] 25 (0,0)) (bL Ba.out) hb2) (by decide));have n4_:=Am (Ne.symm (IsS58.ne_blk hi (bB (g:=Bb) (o:=.cells #[.slice none 0 0,.int .i64 0] 25 (0,0)) (bL Ba.out) hb2) (by decide)));clear Ba HB;revert n0_ n1_ n2_ n3_ n4_;intro Ba HB HI278 Bc Bd;(try clear hb);(try clear hb2);(try clear hk);(try clear hi))|((with_reducible refine gate_callee (f:=34) rfl ?_);refine goesL_ (some 8) rfl rfl Try.func34 (by kernel_rfl) rfl #[.pointer (some ⟨g278,0,none⟩)] rfl (by (try simp only [lM,lC,lN]);first|done|rfl|(simp only [lD,lT];rfl)) ?_;(with_reducible refine (spec_l92Queue.calls k g278 t276 t277 t279 t282 t283 w _ ?side1 ?side2 A3.out).mono ?_);(case side1=>repeat (first|(with_reducible first|exact HI278.out|apply IsS58.alloc|apply IsS58.drewN|apply IsS58.drew|apply IsS58.set_1|refine IsS58.far ?_ Bc.out _)|exact HI278.out));(case side2=>repeat (first|(with_reducible first|exact HB.out|apply oA|apply pN|apply o1|refine bS ?_ (IsS58.ge HI278.out)|refine bS ?_ Bf.out)|exact HB.out));rintro e w8 ⟨v280,rfl,ho0,hi,hb,hk⟩;refine ⟨_,rfl,?_⟩;have n0_:=Am (KeepBut.blk hk (g':=Bb) (o:=.cells #[.slice none 0 0,.int .i64 0] 25 (0,0)) (bL Ba.out) Bd.out (by simp));have n1_:=Am (Kd.R_lower ho0 (bZ (by repeat (first|(with_reducible first|exact HB.out|apply oA|apply pN|apply o1|refine bS ?_ (IsS58.ge HI278.out)|refine bS ?_ Bf.out)|exact HB.out))));have n2_:=Am (hb);have n3_:=Am (hi);clear Ba HB HI278;revert n0_ n1_ n2_ n3_;intro Ba Be HB HI278;(try clear hb);(try clear hb2);(try clear hk);(try clear hi);(try clear ho0))|((with_reducible refine gate_callee (f:=35) rfl ?_);refine goesL_ (some 10) rfl rfl Try.func35 (by kernel_rfl) rfl #[.pointer (some ⟨g278,0,none⟩),.int .i64 60] rfl (by (try simp only [lM,lC,lN]);first|done|rfl|(simp only [lD,lT];rfl)) ?_;(with_reducible refine (spec_l6Rd_pick.calls k g278 t276 t283 60 t284 t285 w _ ?side1 ?side2 A4.out).mono ?_);(case side1=>repeat (first|(with_reducible first|exact HI278.out|apply IsS58.alloc|apply IsS58.drewN|apply IsS58.drew|apply IsS58.set_1|refine IsS58.far ?_ Bc.out _)|exact HI278.out));(case side2=>repeat (first|(with_reducible first|exact HB.out|apply oA|apply pN|apply o1|refine bS ?_ (IsS58.ge HI278.out)|refine bS ?_ Bf.out)|exact HB.out));rintro e w9 ⟨rfl,hi,hb,hk⟩;refine ⟨_,rfl,?_⟩;have n0_:=Am (KeepBut.blk hk (g':=Bb) (o:=.cells #[.slice none 0 0,.int .i64 0] 25 (0,0)) (bL Ba.out) Bd.out (by simp));have n1_:=Am (rM (Kd.R_keep (IsS58.apart (show IsS58 w _ g278 t276 t283 from by repeat (first|(with_reducible first|exact HI278.out|apply IsS58.alloc|apply IsS58.drewN|apply IsS58.drew|apply IsS58.set_1|refine IsS58.far ?_ Bc.out _)|exact HI278.out)) (rL Be.out) (by decide)) hk (fun _ h=>h.2)) (fun _ h=>h.1));have n2_:=Am (hb);have n3_:=Am (hi);clear Ba Be HB HI278;revert n0_ n1_ n2_ n3_;intro Ba Be HB HI278;(try clear hb);(try clear hb2);(try clear hk);(try clear hi))|((with_reducible refine gate_callee (f:=35) rfl ?_);refine goesL_ (some 12) rfl rfl Try.func35 (by kernel_rfl) rfl #[.pointer (some ⟨g278,0,none⟩),.int .i64 30] rfl (by (try simp only [lM,lC,lN]);first|done|rfl|(simp only [lD,lT];rfl)) ?_;(with_reducible refine (spec_l6Rd_pick.calls k g278 t276 t285 30 t286 t287 w _ ?side1 ?side2 A5.out).mono ?_);(case side1=>repeat (first|(with_reducible first|exact HI278.out|apply IsS58.alloc|apply IsS58.drewN|apply IsS58.drew|apply IsS58.set_1|refine IsS58.far ?_ Bc.out _)|exact HI278.out));(case side2=>repeat (first|(with_reducible first|exact HB.out|apply oA|apply pN|apply o1|refine bS ?_ (IsS58.ge HI278.out)|refine bS ?_ Bf.out)|exact HB.out));rintro e w10 ⟨rfl,hi,hb,hk⟩;refine ⟨_,rfl,?_⟩;have n0_:=Am (KeepBut.blk hk (g':=Bb) (o:=.cells #[.slice none 0 0,.int .i64 0] 25 (0,0)) (bL Ba.out) Bd.out (by simp));have n1_:=Am (rM (Kd.R_keep (IsS58.apart (show IsS58 w _ g278 t276 t285 from by repeat (first|(with_reducible first|exact HI278.out|apply IsS58.alloc|apply IsS58.drewN|apply IsS58.drew|apply IsS58.set_1|refine IsS58.far ?_ Bc.out _)|exact HI278.out)) (rL Be.out) (by decide)) hk (fun _ h=>h.2)) (fun _ h=>h.1));have n2_:=Am (hb);have n3_:=Am (hi);clear Ba Be HB HI278;revert n0_ n1_ n2_ n3_;intro Ba Be HB HI278;(try clear hb);(try clear hb2);(try clear hk);(try clear hi);obtain ⟨Ao11,co11,eo11⟩:=Kd.R_slice Be.out;subst eo11;have Bl:=Bd.out;have Bm:=Bc.out;have Bg:w10.cell? ⟨Bb,0,none⟩=some (.slice none 0 0):=(bC Ba.out 0).trans rfl;have Bh:w10.cell? ⟨Bb,1,none⟩=some (.int .i64 0):=(bC Ba.out 1).trans rfl;have Bi:=bF Ba.out 0;have Bj:=bF Ba.out 1))
 refine bodyPost_ret (results_ct rfl _ _ Bb 25 #[.slice Ao11 t279.length co11,.int .i64 t282] (0,0) _ rfl (by (with_reducible repeat (first|refine bN ?_ _|refine bD ?_|refine bA ?_ _));refine blk_put (cs:=#[.slice Ao11 t279.length co11,.int .i64 0]) ?_ 1 _ rfl;(with_reducible repeat (first|refine bN ?_ _|refine bD ?_|refine bA ?_ _));refine blk_put (cs:=#[.slice none 0 0,.int .i64 0]) ?_ 0 _ rfl;(with_reducible repeat (first|refine bN ?_ _|refine bD ?_|refine bA ?_ _));exact Ba.out) Try.underlying25 rfl (by kernel_rfl)) rfl ?_
 exact ⟨_,by first|rfl|(simp [errW_none,errW_some] <;> rfl)|(simp [*,errW_none,errW_some] <;> rfl),by (with_reducible repeat (first|apply rA|apply rN|apply rD));exact rM (rF (p:=⟨Bb,1,none⟩) (rF (p:=⟨Bb,0,none⟩) (rT Be.out Ba.out (by decide)) (fun _ hk=>hk.2) (.slice Ao11 t279.length co11)) (fun _ hk=>hk.2) (.int .i64 t282)) (fun _ hk=>trivial),by repeat (first|(with_reducible first|exact HB.out|apply oA|apply pN|apply o1|refine bS ?_ (IsS58.ge HI278.out)|refine bS ?_ Bf.out)|exact HB.out)⟩

/-! ### spec_l6In: function 42 -/
def spec_l6In.f (a0 : Int) (a1 : Int) (a2 : Int) : Option (Bool) := if a0 ≥ a1 then (some (decide (a0 ≤ a2))) else (some false)
set_option maxHeartbeats 2000000 in
set_option maxRecDepth 100000 in
theorem spec_l6In.calls (a0:Int) (a1:Int) (a2:Int) (r:Bool) (w:World) (h:spec_l6In.f a0 a1 a2=some r) :
  Calls Try.prog 42 #[.int .i64 a0,.int .i64 a1,.int .i64 a2] w fun e w'=>e=.returned (.bool r)∧Drawn0 w w':=by
 have H:(if a0 ≥ a1 then (some (decide (a0≤a2))) else (some false))=some r:=h
 clear h
 by_cases c4:a0 ≥ a1
 ·rw [if_pos c4] at H
  have c4b0:decide (a1≤a0)=true:=decide_eq_true c4
  clear c4
  obtain rfl:=Option.some.inj H
  go_enter Try.func42,Try.ntmps42
  go_wp2
  go_ret
  exact ⟨by first|rfl|(simp;done)|(simp [*];done),by repeat (first|exact Drawn0.refl _|apply Drawn0.step)⟩
 rw [if_neg c4] at H
 have c4b0:decide (a1≤a0)=false:=decide_eq_false c4
 clear c4
 obtain rfl:=Option.some.inj H
 go_enter Try.func42,Try.ntmps42
 go_wp2
 go_ret
 exact ⟨by first|rfl|(simp;done)|(simp [*];done),by repeat (first|exact Drawn0.refl _|apply Drawn0.step)⟩

end Go.Proofs.Ytfhcgmfodfcpeaa.PFnQueueRun
