/- Proved here, without a condition beyond those that each theorem states: what the Go functions named below do is what the plain functions of the same names say. Written by xprint.py, a program of this session. -/
import Derived.Test.YtfhcgmfodfcpeaaPFnQueueWakex0
import Derived.Test.YtfhcgmfodfcpeaaPFnQueueWakex2
import Derived.Test.YtfhcgmfodfcpeaaPFnQueueWakex7
namespace Go.Proofs.Ytfhcgmfodfcpeaa.PFnQueueWake
open Go.RowKit Go.Proofs.YtfhcgmfodfcpeaaW.PrintWords Go.Proofs.YtfhcgmfodfcpeaaW.PrintLast Go.Proofs.YtfhcgmfodfcpeaaW.PrintMore
attribute [local go_sem] max2_int min2_int max_two min_two max_three min_three max_four min_four   -- for this text's walks alone
set_option linter.unusedVariables false
set_option linter.unusedSimpArgs false

attribute [local go_sem ↓] isSome_setCell_
/-! ### spec_DrawQueueWake: function 12 -/
def spec_DrawQueueWake.f (k : Nat) (l0 : List Int) : Option ((List (S40)) × Int × Int) := (spec_l6Open.f l0).bind fun bt209 => ((spec_l92Queue.f k bt209.1 bt209.2).bind fun bt212 => ((spec_l6Rd_pick.f k bt209.1 bt212.2.2 8).bind fun bt217 => (some (bt212.1, bt212.2.1, bt217.1))))
theorem spec_DrawQueueWake.mono : ∀ a0 k, LeO (spec_DrawQueueWake.f k a0) (spec_DrawQueueWake.f (k + 1) a0) := by
 intro a0 k
 unfold spec_DrawQueueWake.f
 repeat' first
  |(with_reducible exact spec_l6Rd_pick.mono _ _ _ _)
  |(with_reducible exact spec_l92Queue.mono _ _ _)
  |(with_reducible exact LeO.refl _)
  |(with_reducible exact LeO.none _)
  |(with_reducible refine LeO.ite ?_ ?_)
  |(with_reducible refine LeO.bind ?_ (fun _ => ?_))
  |exact spec_l6Rd_pick.mono _ _ _ _
  |exact spec_l92Queue.mono _ _ _
  |exact LeO.none _
  |refine LeO.ite ?_ ?_
  |refine LeO.bind ?_ (fun _ => ?_)
set_option maxHeartbeats 2000000 in
set_option maxRecDepth 100000 in
theorem spec_DrawQueueWake.calls (k:Nat) (A0:Option Addr) (c0:Nat) (l0:List Int) (r1:List (S40)) (r2:Int) (r3:Int) (w:World) (hr0:Kd.C (Kd.int .u8) w A0 l0.length l0) (hc0:l0.length≤c0) (h:spec_DrawQueueWake.f k l0=some (r1,r2,r3)) :
  Calls Try.prog 12 #[.slice A0 l0.length c0] w fun e w'=>∃ v0_:Value,e=.returned (.tuple #[.agg #[v0_,.int .i64 r2],.int .i64 r3])∧Kd.R k40 40 w' w.heap.size (fun _=>True) v0_ r1∧Below w.heap.size w w':=by
 have hu25:=Try.underlying25
 have HR0:=Am hr0
 have HC0:=Am hc0
 clear hr0 hc0
 have HB:=Am (Below.refl w.heap.size w)
 have H:((spec_l6Open.f l0).bind fun bt209=>((spec_l92Queue.f k bt209.1 bt209.2).bind fun bt212=>((spec_l6Rd_pick.f k bt209.1 bt212.2.2 8).bind fun bt217=>(some (bt212.1,bt212.2.1,bt217.1)))))=some (r1,r2,r3):=h
 clear h
 replace H:=oC H
 obtain ⟨⟨t209,t210⟩,A20,H⟩:=H
 replace H:((spec_l92Queue.f k t209 t210).bind fun bt212=>((spec_l6Rd_pick.f k t209 bt212.2.2 8).bind fun bt217=>(some (bt212.1,bt212.2.1,bt217.1))))=some (r1,r2,r3):=H
 have A2:=Am A20
 clear A20
 replace H:=oC H
 obtain ⟨⟨t212,t215,t216⟩,A30,H⟩:=H
 replace H:((spec_l6Rd_pick.f k t209 t216 8).bind fun bt217=>(some (t212,t215,bt217.1)))=some (r1,r2,r3):=H
 have A3:=Am A30
 clear A30
 replace H:=oC H
 obtain ⟨⟨t217,t218⟩,A40,H⟩:=H
 replace H:(some (t212,t215,t217))=some (r1,r2,r3):=H
 have A4:=Am A40
 clear A40
 simp only [Option.some.injEq,Prod.mk.injEq] at H
 obtain ⟨rfl,rfl,rfl⟩:=H
 go_enter Try.func12,Try.ntmps12
 go_wp2_with (first|((with_reducible refine gate_dst (N:=2) rfl ?_);refine box_event ?hg (N:=2) ?hd (cs:=#[.slice none 0 0,.int .i64 0]) (t:=25) ?hr ?_;(case hd=>rfl);(case hg=>rfl);(case hr=>first|(go_simp;done)|(go_simp;rfl));intro Bb hg w5 hbox hb;have n0_:=Am (bP (by repeat (first|(with_reducible first|exact HB.out|apply oA|apply pN|apply o1)|exact HB.out)) hb);have n1_:=Am (hbox);have n2_:=Am ((by rw [hg];exact (bZ (by repeat (first|(with_reducible first|exact HB.out|apply oA|apply pN|apply o1)|exact HB.out))):w.heap.size≤Bb));have n3_:=Am ((by rw [hg];exact (bZ (by repeat (first|(with_reducible first|exact HB.out|apply oA|apply pN|apply o1)|exact HB.out))):w.heap.size≤Bb));clear HB;revert n0_ n1_ n2_ n3_;intro HB Ba Bk Be;clear hb hbox hg)|((with_reducible refine gate_callee (f:=33) rfl ?_);refine goesL_ (some 6) rfl rfl Try.func33 (by kernel_rfl) rfl #[.slice A0 l0.length c0] rfl (by (try simp only [lM,lC,lN]);first|done|rfl|(simp only [lD,lT];rfl)) ?_;(with_reducible refine (spec_l6Open.calls _ _ l0 t209 t210 w _ ?side1 ?side2 ?side3 A2.out).mono ?_);(case side1=>repeat (first|(with_reducible first|exact HB.out|apply oA|apply pN|apply o1|refine bS ?_ Be.out)|exact HB.out));(case side2=>exact HR0.out);(case side3=>exact HC0.out);rintro e w6 ⟨g211,rfl,hi,hb,hb2⟩;refine ⟨_,rfl,?_⟩;have n0_:=Am (bB (g:=Bb) (o:=.cells #[.slice none 0 0,.int .i64 0] 25 (0,0)) (bL Ba.out) hb2);have n1_:=Am (hb);have n2_:=Am (hi);have n3_:=Am (IsS58.ne_blk hi (bB (g:=Bb) (o:=.cells #[.slice none 0 0,.int .i64 0] 25 (0,0)) (bL Ba.out) hb2) (by decide));have n4_:=Am (Ne.symm (IsS58.ne_blk hi (bB (g:=Bb) (o:=.cells #[.slice none 0 0,.int .i64 0] 25 (0,0)) (bL Ba.out) hb2) (by decide)));clear Ba HB;revert n0_ n1_ n2_ n3_ n4_;intro Ba HB HI211 Bc Bd;(try clear hb);(try clear hb2);(try clear hk);(try clear hi))|((with_reducible refine gate_callee (f:=34) rfl ?_);refine goesL_ (some 8) rfl rfl Try.func34 (by kernel_rfl) rfl #[.pointer (some ⟨g211,0,none⟩)] rfl (by (try simp only [lM,lC,lN]);first|done|rfl|(simp only [lD,lT];rfl)) ?_;(with_reducible refine (spec_l92Queue.calls k g211 t209 t210 t212 t215 t216 w _ ?side1 ?side2 A3.out).mono ?_);(case side1=>repeat (first|(with_reducible first|exact HI211.out|apply IsS58.alloc|apply IsS58.drewN|apply IsS58.drew|apply IsS58.set_1|refine IsS58.far ?_ Bc.out _)|exact HI211.out));(case side2=>repeat (first|(with_reducible first|exact HB.out|apply oA|apply pN|apply o1|refine bS ?_ (IsS58.ge HI211.out)|refine bS ?_ Be.out)|exact HB.out));rintro e w7 ⟨v213,rfl,ho0,hi,hb,hk⟩;refine ⟨_,rfl,?_⟩;have n0_:=Am (KeepBut.blk hk (g':=Bb) (o:=.cells #[.slice none 0 0,.int .i64 0] 25 (0,0)) (bL Ba.out) Bd.out (by simp));have n1_:=Am (Kd.R_lower ho0 (bZ (by repeat (first|(with_reducible first|exact HB.out|apply oA|apply pN|apply o1|refine bS ?_ (IsS58.ge HI211.out)|refine bS ?_ Be.out)|exact HB.out))));have n2_:=Am (hb);have n3_:=Am (hi);clear Ba HB HI211;revert n0_ n1_ n2_ n3_;intro Ba Bf HB HI211;(try clear hb);(try clear hb2);(try clear hk);(try clear hi);(try clear ho0))|((with_reducible refine gate_callee (f:=35) rfl ?_);refine goesL_ (some 10) rfl rfl Try.func35 (by kernel_rfl) rfl #[.pointer (some ⟨g211,0,none⟩),.int .i64 8] rfl (by (try simp only [lM,lC,lN]);first|done|rfl|(simp only [lD,lT];rfl)) ?_;(with_reducible refine (spec_l6Rd_pick.calls k g211 t209 t216 8 t217 t218 w _ ?side1 ?side2 A4.out).mono ?_);(case side1=>repeat (first|(with_reducible first|exact HI211.out|apply IsS58.alloc|apply IsS58.drewN|apply IsS58.drew|apply IsS58.set_1|refine IsS58.far ?_ Bc.out _)|exact HI211.out));(case side2=>repeat (first|(with_reducible first|exact HB.out|apply oA|apply pN|apply o1|refine bS ?_ (IsS58.ge HI211.out)|refine bS ?_ Be.out)|exact HB.out));rintro e w8 ⟨rfl,hi,hb,hk⟩;refine ⟨_,rfl,?_⟩;have n0_:=Am (KeepBut.blk hk (g':=Bb) (o:=.cells #[.slice none 0 0,.int .i64 0] 25 (0,0)) (bL Ba.out) Bd.out (by simp));have n1_:=Am (rM (Kd.R_keep (IsS58.apart (show IsS58 w _ g211 t209 t216 from by repeat (first|(with_reducible first|exact HI211.out|apply IsS58.alloc|apply IsS58.drewN|apply IsS58.drew|apply IsS58.set_1|refine IsS58.far ?_ Bc.out _)|exact HI211.out)) (rL Bf.out) (by decide)) hk (fun _ h=>h.2)) (fun _ h=>h.1));have n2_:=Am (hb);have n3_:=Am (hi);clear Ba Bf HB HI211;revert n0_ n1_ n2_ n3_;intro Ba Bf HB HI211;(try clear hb);(try clear hb2);(try clear hk);(try clear hi);obtain ⟨Ao9,co9,eo9⟩:=Kd.R_slice Bf.out;subst eo9;have Bl:=Bd.out;have Bm:=Bc.out;have Bg:w8.cell? ⟨Bb,0,none⟩=some (.slice none 0 0):=(bC Ba.out 0).trans rfl;have Bh:w8.cell? ⟨Bb,1,none⟩=some (.int .i64 0):=(bC Ba.out 1).trans rfl;have Bi:=bF Ba.out 0;have Bj:=bF Ba.out 1))
 refine bodyPost_ret (results_ct rfl _ _ Bb 25 #[.slice Ao9 t212.length co9,.int .i64 t215] (0,0) _ rfl (by (with_reducible repeat (first|refine bN ?_ _|refine bD ?_|refine bA ?_ _));refine blk_put (cs:=#[.slice Ao9 t212.length co9,.int .i64 0]) ?_ 1 _ rfl;(with_reducible repeat (first|refine bN ?_ _|refine bD ?_|refine bA ?_ _));refine blk_put (cs:=#[.slice none 0 0,.int .i64 0]) ?_ 0 _ rfl;(with_reducible repeat (first|refine bN ?_ _|refine bD ?_|refine bA ?_ _));exact Ba.out) Try.underlying25 rfl (by kernel_rfl)) rfl ?_
 exact ⟨_,by first|rfl|(simp [errW_none,errW_some] <;> rfl)|(simp [*,errW_none,errW_some] <;> rfl),by (with_reducible repeat (first|apply rA|apply rN|apply rD));exact rM (rF (p:=⟨Bb,1,none⟩) (rF (p:=⟨Bb,0,none⟩) (rT Bf.out Ba.out (by decide)) (fun _ hk=>hk.2) (.slice Ao9 t212.length co9)) (fun _ hk=>hk.2) (.int .i64 t215)) (fun _ hk=>trivial),by repeat (first|(with_reducible first|exact HB.out|apply oA|apply pN|apply o1|refine bS ?_ (IsS58.ge HI211.out)|refine bS ?_ Be.out)|exact HB.out)⟩

/-! ### impl_in: function 41 -/
def impl_in.f (a0 : Int) (a1 : Int) (a2 : Int) : Option (Bool) := if a0 ≥ a1 then (some (decide (a0 ≤ a2))) else (some false)
set_option maxHeartbeats 2000000 in
set_option maxRecDepth 100000 in
theorem impl_in.calls (a0:Int) (a1:Int) (a2:Int) (r:Bool) (w:World) (h:impl_in.f a0 a1 a2=some r) :
  Calls Try.prog 41 #[.int .i64 a0,.int .i64 a1,.int .i64 a2] w fun e w'=>e=.returned (.bool r)∧Drawn0 w w':=by
 have H:(if a0 ≥ a1 then (some (decide (a0≤a2))) else (some false))=some r:=h
 clear h
 by_cases c4:a0 ≥ a1
 ·rw [if_pos c4] at H
  have c4b0:decide (a1≤a0)=true:=decide_eq_true c4
  clear c4
  obtain rfl:=Option.some.inj H
  go_enter Try.func41,Try.ntmps41
  go_wp2
  go_ret
  exact ⟨by first|rfl|(simp;done)|(simp [*];done),by repeat (first|exact Drawn0.refl _|apply Drawn0.step)⟩
 rw [if_neg c4] at H
 have c4b0:decide (a1≤a0)=false:=decide_eq_false c4
 clear c4
 obtain rfl:=Option.some.inj H
 go_enter Try.func41,Try.ntmps41
 go_wp2
 go_ret
 exact ⟨by first|rfl|(simp;done)|(simp [*];done),by repeat (first|exact Drawn0.refl _|apply Drawn0.step)⟩

end Go.Proofs.Ytfhcgmfodfcpeaa.PFnQueueWake
