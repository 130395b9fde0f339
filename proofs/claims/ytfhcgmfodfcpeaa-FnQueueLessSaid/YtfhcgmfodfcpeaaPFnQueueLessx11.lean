/- Proved here, without a condition beyond those that each theorem states: what the Go functions named below do is what the plain functions of the same names say. Written by xprint.py, a program of this session. -/
import Derived.Test.YtfhcgmfodfcpeaaPFnQueueLessx0
import Derived.Test.YtfhcgmfodfcpeaaPFnQueueLessx4
import Derived.Test.YtfhcgmfodfcpeaaPFnQueueLessx5
import Derived.Test.YtfhcgmfodfcpeaaPFnQueueLessx10
namespace Go.Proofs.Ytfhcgmfodfcpeaa.PFnQueueLess
open Go.RowKit Go.Proofs.YtfhcgmfodfcpeaaW.PrintWords Go.Proofs.YtfhcgmfodfcpeaaW.PrintLast Go.Proofs.YtfhcgmfodfcpeaaW.PrintMore
attribute [local go_sem] max2_int min2_int max_two min_two max_three min_three max_four min_four   -- for this text's walks alone
set_option linter.unusedVariables false
set_option linter.unusedSimpArgs false

attribute [local go_sem ↓] isSome_setCell_
/-! ### spec_DrawQueueLess: function 27 -/
def spec_DrawQueueLess.f (k : Nat) (l0 : List Int) : Option ((List (S40)) × Int × Int) := (spec_l6Open.f l0).bind fun bt230 => ((spec_l92Queue.f k bt230.1 bt230.2).bind fun bt233 => ((spec_l6Rd_pick.f k bt230.1 bt233.2.2 8).bind fun bt238 => (some (bt233.1, bt233.2.1, bt238.1))))
theorem spec_DrawQueueLess.mono : ∀ a0 k, LeO (spec_DrawQueueLess.f k a0) (spec_DrawQueueLess.f (k + 1) a0) := by
 intro a0 k
 unfold spec_DrawQueueLess.f
 repeat' first
  |(with_reducible exact spec_l6Rd_pick.mono _ _ _ _)
  |(with_reducible exact spec_l92Queue.mono _ _ _)
  |(with_reducible exact LeO.refl _)
  |(with_reducible exact LeO.none _)
  |(with_reducible refine LeO.ite ?_ ?_)
  |(with_reducible refine LeO.bind ?_ (fun _ => ?_))
  |exact spec_l6Rd_pick.mono _ _ _ _
  |exact spec_l92Queue.mono _ _ _
  |exact LeO.none _
  |refine LeO.ite ?_ ?_
  |refine LeO.bind ?_ (fun _ => ?_)
set_option maxHeartbeats 2000000 in
set_option maxRecDepth 100000 in
theorem spec_DrawQueueLess.calls (k:Nat) (A0:Option Addr) (c0:Nat) (l0:List Int) (r1:List (S40)) (r2:Int) (r3:Int) (w:World) (hr0:Kd.C (Kd.int .u8) w A0 l0.length l0) (hc0:l0.length≤c0) (h:spec_DrawQueueLess.f k l0=some (r1,r2,r3)) :
  Calls Try.prog 27 #[.slice A0 l0.length c0] w fun e w'=>∃ v0_:Value,e=.returned (.tuple #[.agg #[v0_,.int .i64 r2],.int .i64 r3])∧Kd.R k40 40 w' w.heap.size (fun _=>True) v0_ r1∧Below w.heap.size w w':=by
 have hu25:=Try.underlying25
 have HR0:=Am hr0
 have HC0:=Am hc0
 clear hr0 hc0
 have HB:=Am (Below.refl w.heap.size w)
 have H:((spec_l6Open.f l0).bind fun bt230=>((spec_l92Queue.f k bt230.1 bt230.2).bind fun bt233=>((spec_l6Rd_pick.f k bt230.1 bt233.2.2 8).bind fun bt238=>(some (bt233.1,bt233.2.1,bt238.1)))))=some (r1,r2,r3):=h
 clear h
 replace H:=oC H
 obtain ⟨⟨t230,t231⟩,A20,H⟩:=H
 replace H:((spec_l92Queue.f k t230 t231).bind fun bt233=>((spec_l6Rd_pick.f k t230 bt233.2.2 8).bind fun bt238=>(some (bt233.1,bt233.2.1,bt238.1))))=some (r1,r2,r3):=H
 have A2:=Am A20
 clear A20
 replace H:=oC H
 obtain ⟨⟨t233,t236,t237⟩,A30,H⟩:=H
 replace H:((spec_l6Rd_pick.f k t230 t237 8).bind fun bt238=>(some (t233,t236,bt238.1)))=some (r1,r2,r3):=H
 have A3:=Am A30
 clear A30
 replace H:=oC H
 obtain ⟨⟨t238,t239⟩,A40,H⟩:=H
 replace H:(some (t233,t236,t238))=some (r1,r2,r3):=H
 have A4:=Am A40
 clear A40
 simp only [Option.some.injEq,Prod.mk.injEq] at H
 obtain ⟨rfl,rfl,rfl⟩:=H
 go_enter Try.func27,Try.ntmps27
 go_wp2_with (first|((with_reducible refine gate_dst (N:=2) rfl ?_);refine box_event ?hg (N:=2) ?hd (cs:=#[.slice none 0 0,.int .i64 0]) (t:=25) ?hr ?_;(case hd=>rfl);(case hg=>rfl);(case hr=>first|(go_simp;done)|(go_simp;rfl));intro Bb hg w5 hbox hb;have n0_:=Am (bP (by repeat (first|(with_reducible first|exact HB.out|apply oA|apply pN|apply o1)|exact HB.out)) hb);have n1_:=Am (hbox);have n2_:=Am ((by rw [hg];exact (bZ (by repeat (first|(with_reducible first|exact HB.out|apply oA|apply pN|apply o1)|exact HB.out))):w.heap.size≤Bb));have n3_:=Am ((by rw [hg];exact (bZ (by repeat (first|(with_reducible first|exact HB.out|apply oA|apply pN|apply o1)|exact HB.out))):w.heap.size≤Bb));clear HB;revert n0_ n1_ n2_ n3_;intro HB Ba Bk Be;clear hb hbox hg)|((with_reducible refine gate_callee (f:=33) rfl ?_);refine goesL_ (some 6) rfl rfl Try.func33 (by kernel_rfl) rfl #[.slice A0 l0.length c0] rfl (by (try simp only [lM,lC,lN]);first|done|rfl|(simp only [lD,lT];rfl)) ?_;(with_reducible refine (spec_l6Open.calls _ _ l0 t230 t231 w _ ?side1 ?side2 ?side3 A2.out).mono ?_);(case side1=>repeat (first|(with_reducible first|exact HB.out|apply oA|apply pN|apply o1|refine bS ?_ Be.out)|exact HB.out));(case side2=>exact HR0.out);(case side3=>exact HC0.out);rintro e w6 ⟨g232,rfl,hi,hb,hb2⟩;refine ⟨_,rfl,?_⟩;have n0_:=Am (bB (g:=Bb) (o:=.cells #[.slice none 0 0,.int .i64 0] 25 (0,0)) (bL Ba.out) hb2);have n1_:=Am (hb);have n2_:=Am (hi);have n3_:=Am (IsS58.ne_blk hi (bB (g:=Bb) (o:=.cells #[.slice none 0 0,.int .i64 0] 25 (0,0)) (bL Ba.out) hb2) (by decide));have n4_:=Am (Ne.symm (IsS58.ne_blk hi (bB (g:=Bb) (o:=.cells #[.slice none 0 0,.int .i64 0] 25 (0,0)) (bL Ba.out) hb2) (by decide)));clear Ba HB;revert n0_ n1_ n2_ n3_ n4_;intro Ba HB HI232 Bc Bd;(try clear hb);(try clear hb2);(try clear hk);(try clear hi))|((with_reducible refine gate_callee (f:=34) rfl ?_);refine goesL_ (some 8) rfl rfl Try.func34 (by kernel_rfl) rfl #[.pointer (some ⟨g232,0,none⟩)] rfl (by (try simp only [lM,lC,lN]);first|done|rfl|(simp only [lD,lT];rfl)) ?_;(with_reducible refine (spec_l92Queue.calls k g232 t230 t231 t233 t236 t237 w _ ?side1 ?side2 A3.out).mono ?_);(case side1=>repeat (first|(with_reducible first|exact HI232.out|apply IsS58.alloc|apply IsS58.drewN|apply IsS58.drew|apply IsS58.set_1|refine IsS58.far ?_ Bc.out _)|exact HI232.out));(case side2=>repeat (first|(with_reducible first|exact HB.out|apply oA|apply pN|apply o1|refine bS ?_ (IsS58.ge HI232.out)|refine bS ?_ Be.out)|exact HB.out));rintro e w7 ⟨v234,rfl,ho0,hi,hb,hk⟩;refine ⟨_,rfl,?_⟩;have n0_:=Am (KeepBut.blk hk (g':=Bb) (o:=.cells #[.slice none 0 0,.int .i64 0] 25 (0,0)) (bL Ba.out) Bd.out (by simp));have n1_:=Am (Kd.R_lower ho0 (bZ (by repeat (first|(with_reducible first|exact HB.out|apply oA|apply pN|apply o1|refine bS ?_ (IsS58.ge HI232.out)|refine bS ?_ Be.out)|exact HB.out))));have n2_:=Am (hb);have n3_:=Am (hi);clear Ba HB HI232;revert n0_ n1_ n2_ n3_;intro Ba Bf HB HI232;(try clear hb);(try clear hb2);(try clear hk);(try clear hi);(try clear ho0))|((with_reducible refine gate_callee (f:=35) rfl ?_);refine goesL_ (some 10) rfl rfl Try.func35 (by kernel_rfl) rfl #[.pointer (some ⟨g232,0,none⟩),.int .i64 8] rfl (by (try simp only [lM,lC,lN]);first|done|rfl|(simp only [lD,lT];rfl)) ?_;(with_reducible refine (spec_l6Rd_pick.calls k g232 t230 t237 8 t238 t239 w _ ?side1 ?side2 A4.out).mono ?_);(case side1=>repeat (first|(with_reducible first|exact HI232.out|apply IsS58.alloc|apply IsS58.drewN|apply IsS58.drew|apply IsS58.set_1|refine IsS58.far ?_ Bc.out _)|exact HI232.out));(case side2=>repeat (first|(with_reducible first|exact HB.out|apply oA|apply pN|apply o1|refine bS ?_ (IsS58.ge HI232.out)|refine bS ?_ Be.out)|exact HB.out));rintro e w8 ⟨rfl,hi,hb,hk⟩;refine ⟨_,rfl,?_⟩;have n0_:=Am (KeepBut.blk hk (g':=Bb) (o:=.cells #[.slice none 0 0,.int .i64 0] 25 (0,0)) (bL Ba.out) Bd.out (by simp));have n1_:=Am (rM (Kd.R_keep (IsS58.apart (show IsS58 w _ g232 t230 t237 from by repeat (first|(with_reducible first|exact HI232.out|apply IsS58.alloc|apply IsS58.drewN|apply IsS58.drew|apply IsS58.set_1|refine IsS58.far ?_ Bc.out _)|exact HI232.out)) (rL Bf.out) (by decide)) hk (fun _ h=>h.2)) (fun _ h=>h.1));have n2_:=Am (hb);have n3_:=Am (hi);clear Ba Bf HB HI232;revert n0_ n1_ n2_ n3_;intro Ba Bf HB HI232;(try clear hb);(try clear hb2);(try clear hk);(try clear hi);obtain ⟨Ao9,co9,eo9⟩:=Kd.R_slice Bf.out;subst eo9;have Bl:=Bd.out;have Bm:=Bc.out;have Bg:=cz0 Ba.out;have Bh:=cz1 Ba.out;have Bi:=bF Ba.out 0;have Bj:=bF Ba.out 1))
 refine bodyPost_ret (results_ct rfl _ _ Bb 25 #[.slice Ao9 t233.length co9,.int .i64 t236] (0,0) _ rfl (by (with_reducible repeat (first|refine bN ?_ _|refine bD ?_|refine bA ?_ _));refine blk_put (cs:=#[.slice Ao9 t233.length co9,.int .i64 0]) ?_ 1 _ rfl;(with_reducible repeat (first|refine bN ?_ _|refine bD ?_|refine bA ?_ _));refine blk_put (cs:=#[.slice none 0 0,.int .i64 0]) ?_ 0 _ rfl;(with_reducible repeat (first|refine bN ?_ _|refine bD ?_|refine bA ?_ _));exact Ba.out) Try.underlying25 rfl (by kernel_rfl)) rfl ?_
 exact ⟨_,by first|rfl|(simp [errW_none,errW_some] <;> rfl)|(simp [*,errW_none,errW_some] <;> rfl),by (with_reducible repeat (first|apply rA|apply rN|apply rD));exact rM (rF (p:=⟨Bb,1,none⟩) (rF (p:=⟨Bb,0,none⟩) (rT Bf.out Ba.out (by decide)) (fun _ hk=>hk.2) (.slice Ao9 t233.length co9)) (fun _ hk=>hk.2) (.int .i64 t236)) (fun _ hk=>trivial),by repeat (first|(with_reducible first|exact HB.out|apply oA|apply pN|apply o1|refine bS ?_ (IsS58.ge HI232.out)|refine bS ?_ Be.out)|exact HB.out)⟩

-- NOT PRINTED: function 48 (impl_Task_48)

/-! ### impl_Queue_at: function 36 -/
set_option maxRecDepth 100000 in
theorem impl_Queue_at.pred (x : S40) (id : Int) (pg : Nat) (w : World) (hc : w.heap[pg]? = some (.cells #[.int .i64 id] 3 (0, 0))) :
 Calls Try.prog 49 #[.agg #[.int .i64 x.f0, .int .i64 x.f1, .int .i64 x.f2, .bool x.f3], .pointer (some ⟨pg, 0, none⟩)] w fun e w' => e = .returned (.bool (x.f0 == id)) ∧ Below w.heap.size w w' := by
 have hu40 := Try.underlying40
 have HP := Am hc
 clear hc
 have HB := Am (Below.refl w.heap.size w)
 go_enter Try.func49, Try.ntmps49
 go_wp2_with (first|((with_reducible refine gate_dst (N := 2) rfl ?_);refine box_event ?hg (N := 2) ?hd (cs := #[.int .i64 x.f0, .int .i64 x.f1, .int .i64 x.f2, .bool x.f3]) (t := 40) ?hr ?_;(case hd => rfl);(case hg => rfl);(case hr => first|(go_simp;done)|(go_simp;rfl));intro gb hg w2 hbox hb;have n0_ := Am (bB (g := pg) (o := .cells #[.int .i64 id] 3 (0, 0)) HP.out hb);have n1_ := Am hb;have n2_ := Am hbox;clear HP HB hb hbox hg;have hcz : w2.cell? ⟨gb, 0, none⟩ = some (.int .i64 x.f0) := (bC n2_.out 0).trans rfl;have hpz : w2.cell? ⟨pg, 0, none⟩ = some (.int .i64 id) := (bC n0_.out 0).trans rfl))
 go_ret
 exact ⟨rfl, n1_.out⟩

def impl_Queue_at.idx (l : List S40) (id : Int) : Nat → Nat → Int
|0, _ => -1
|d + 1, i => if (rd_T40 l (i : Int)).f0 = id then (i : Int) else impl_Queue_at.idx l id d (i + 1)
set_option maxHeartbeats 2000000 in
set_option maxRecDepth 100000 in
theorem impl_Queue_at.index (A : Option Addr) (c : Nat) (l : List S40) (id : Int) (pg : Nat) (w : World) (hr : Kd.C k40 w A l.length l) (hc : w.heap[pg]? = some (.cells #[.int .i64 id] 3 (0, 0))) :
 Calls Try.prog 48 #[.slice A l.length c, .func (.func 49) #[] #[.pointer (some ⟨pg, 0, none⟩)]] w fun e w' => e = .returned (.int .i64 (impl_Queue_at.idx l id l.length 0)) ∧ Below w.heap.size w w' := by
 have hu40 := Try.underlying40
 have HR := Am hr
 have HP := Am hc
 have hmax := (show l.length ≤ 9223372036854775807 from hr.2.1)
 clear hc hr
 have HB := Am (Below.refl w.heap.size w)
 go_enter Try.func48, Try.ntmps48
 go_wp2
 go_loopg [5, 8] l.length (fun kq v5 v8 w' => ∃ x : Int, v8 = .int .i64 x ∧ Aside0 (0 ≤ x) ∧ Aside0 (x ≤ l.length) ∧ Aside0 (l.length - x.toNat ≤ kq) ∧ Aside0 (Below w.heap.size w w') ∧ Aside0 (impl_Queue_at.idx l id l.length 0 = impl_Queue_at.idx l id (l.length - x.toNat) x.toNat))
 case atStart => exact ⟨0, rfl, ⟨by omega⟩, ⟨by omega⟩, ⟨by omega⟩, HB, ⟨rfl⟩⟩
 case round =>
  obtain ⟨x, rfl, H0, H1, H2, BW, A1⟩ := hrel
  have Hm := Am hmax
  clear hmax
  by_cases hlt : x < (l.length : Int)
  rotate_left
  ·have c1 : decide (x < (l.length : Int)) = false := decide_eq_false hlt
   have hx : x.toNat = l.length := by have := H0.out;have := H1.out;omega
   have A2 : impl_Queue_at.idx l id l.length 0 = -1 := by rw [A1.out, hx, Nat.sub_self];rfl
   have A3 := Am A2
   clear A2 A1 hx hlt
   go_wp2
   go_ret
   exact ⟨by rw [A3.out];rfl, BW.out⟩
  have e1 : Aside0 (impl_Queue_at.idx l id (l.length - x.toNat) x.toNat = if (rd_T40 l x).f0 = id then x else impl_Queue_at.idx l id (l.length - (x.toNat + 1)) (x.toNat + 1)) := by
   have := H0.out
   refine ⟨?_⟩
   rw [show l.length - x.toNat = (l.length - (x.toNat + 1)) + 1 from by omega, impl_Queue_at.idx, show ((x.toNat : Nat) : Int) = x from by omega]
  obtain ⟨ad, e, hx0, hx1, hx2, hx3⟩ := at_T40 (cB HR.out BW.out) x H0.out hlt
  cases e
  have hp : Aside0 (wr.heap[pg]? = some (.cells #[.int .i64 id] 3 (0, 0))) := ⟨bB HP.out BW.out⟩
  have hcall := Am (impl_Queue_at.pred (rd_T40 l x) id pg wr hp.out)
  have c1 : decide (x < (l.length : Int)) = true := decide_eq_true hlt
  have c2 : decide (0 ≤ x) = true := decide_eq_true H0.out
  have p1 := eq_true H0.out
  have p2 := eq_true hlt
  clear hlt
  by_cases q : (rd_T40 l x).f0 = id
  ·have e2 := Am (show impl_Queue_at.idx l id l.length 0 = x by rw [A1.out, e1.out, if_pos q])
   rw [beq_iff_eq.mpr q] at hcall
   clear q e1 A1
   repeat go_step
   refine hcall.out.mono ?_
   rintro e w' ⟨rfl, hb'⟩
   have hb2 := Am (bP BW.out hb')
   clear hcall hb' BW
   go_wp2
   go_ret
   exact ⟨by rw [e2.out];rfl, hb2.out⟩
  have e2 := Am (show impl_Queue_at.idx l id l.length 0 = impl_Queue_at.idx l id (l.length - (x.toNat + 1)) (x.toNat + 1) by rw [A1.out, e1.out, if_neg q])
  rw [beq_eq_false_iff_ne.mpr q] at hcall
  have H3 := Am (of_decide_eq_true c1)
  clear q e1 A1
  repeat go_step
  refine hcall.out.mono ?_
  rintro e w' ⟨rfl, hb'⟩
  have hb2 := Am (bP BW.out hb')
  clear hcall hb' BW
  go_wp2
  go_roundg (l.length - (x.toNat + 1))
  case measure => have := H0.out;have := H2.out;have := H3.out;omega
  case rel =>
   have h0 := H0.out
   have h3 := H3.out
   have h4 := Hm.out
   have hw : wrap64 (x + 1) = x + 1 := by unfold wrap64;omega
   refine ⟨wrap64 (x + 1), (by first|rfl|(simp;done)|(simp [*];done)), ⟨by omega⟩, ⟨by omega⟩, ⟨by omega⟩, hb2, ⟨?_⟩⟩
   rw [e2.out, hw, show (x + 1).toNat = x.toNat + 1 from by omega]
def impl_Queue_at.f (l0_0 : List (S40)) (a0_1 : Int) (a1 : Int) : Option (Int) := some (impl_Queue_at.idx l0_0 a1 l0_0.length 0)
set_option maxHeartbeats 2000000 in
set_option maxRecDepth 100000 in
theorem impl_Queue_at.calls (A0_0:Option Addr) (c0_0:Nat) (l0_0:List (S40)) (a0_1:Int) (a1:Int) (r:Int) (w:World) (hr0_0:Kd.C k40 w A0_0 l0_0.length l0_0) (hc0_0:l0_0.length≤c0_0) (h:impl_Queue_at.f l0_0 a0_1 a1=some r) :
 Calls Try.prog 36 #[.agg #[.slice A0_0 l0_0.length c0_0,.int .i64 a0_1],.int .i64 a1] w fun e w'=>e=.returned (.int .i64 r)∧Below w.heap.size w w':=by
 have hu25:=Try.underlying25
 have HR:=Am hr0_0
 obtain rfl:=Option.some.inj h
 clear h hr0_0
 have HB:=Am (Below.refl w.heap.size w)
 go_enter Try.func36,Try.ntmps36
 go_upto_region 1 with (first|((with_reducible refine gate_dst (N:=2) rfl ?_);refine box_event ?hg (N:=2) ?hd (cs:=#[.slice A0_0 l0_0.length c0_0,.int .i64 a0_1]) (t:=25) ?hr ?_;(case hd=>rfl);(case hg=>rfl);(case hr=>first|(go_simp;done)|(go_simp;rfl));intro g1 hg w2 hbox hb;have n1_:=Am (bP HB.out hb);have n2_:=Am hbox;clear HB hb hbox hg;have hcz:=cz0 n2_.out)|((with_reducible refine gate_dst (N:=3) rfl ?_);refine box_event ?hg (N:=3) ?hd (cs:=#[.int .i64 a1]) (t:=3) ?hr ?_;(case hd=>rfl);(case hg=>rfl);(case hr=>first|(go_simp;done)|(go_simp;rfl));intro g2 hg w3 hbox hb;have n3_:=Am (bP n1_.out hb);have n4_:=Am (bB n2_.out hb);have n5_:=Am hbox;clear n1_ n2_ hb hbox hg hcz;have hcz:=cz0 n4_.out))
 have hcall:=Am (impl_Queue_at.index A0_0 c0_0 l0_0 a1 g2 w3 (cB HR.out n3_.out) n5_.out)
 repeat go_step
 refine hcall.out.mono ?_
 rintro e w' ⟨rfl,hb'⟩
 have hb2:=Am (bP n3_.out hb')
 clear hcall hb'
 go_wp2
 go_ret
 exact ⟨rfl,hb2.out⟩

/-! ### impl_Task_50: function 50 -/
def impl_Task_50.f (l0 : List (S40)) : Option ((List (S40))) := (some (([] : List (S40)) : List (S40))).bind fun y240 => (if y240.length + l0.length < 4398046511104 then (some (y240 ++ l0)) else (none))
set_option maxHeartbeats 2000000 in
set_option maxRecDepth 100000 in
theorem impl_Task_50.calls (A0:Option Addr) (c0:Nat) (l0:List (S40)) (r:List (S40)) (w:World) (hr0:Kd.C k40 w A0 l0.length l0) (hc0:l0.length≤c0) (h:impl_Task_50.f l0=some r) :
  Calls Try.prog 50 #[.slice A0 l0.length c0] w fun e w'=>∃ v0_:Value,e=.returned (v0_)∧Kd.R k40 40 w' w.heap.size (fun _=>True) v0_ r∧Below w.heap.size w w':=by
 cases A0 with
|none =>
  have hl_:l0=[]:=by
   rcases l0 with _|⟨x_,xs_⟩
   ·rfl
   ·exact absurd (hr0.2.2 (by simp)) (by rintro ⟨_,h_,_⟩;cases h_)
  subst hl_
  have hr_:r=[]:=by
   unfold impl_Task_50.f at h
   simpa using h.symm
  subst hr_
  have q_:∀ (w:World) (a:Option Addr) (n c n' c':Nat),(binOp .eql 23 (.slice a n c) (.slice none n' c')).run Try.prog w=.ok (.bool a.isNone) w:=fun w a n c n' c'=>Lib.run_eql_slice_nil w _ _ a n c n' c' Try.underlying23
  go_enter Try.func50,Try.ntmps50
  go_wp2
  go_ret
  exact ⟨_,rfl,Kd.R_nil _ _ _ _ _,Below.refl _ _⟩
|some ad0_ =>
  have HR0:=Am hr0
  have HC0:=Am hc0
  clear hr0 hc0
  have HB:=Am (Below.refl w.heap.size w)
  have H:((some (([]:List (S40)):List (S40))).bind fun y240=>(if y240.length + l0.length<4398046511104 then (some (y240 ++ l0)) else (none)))=some r:=h
  clear h
  obtain ⟨y240,hy240⟩:∃ y_:List (S40),y_=(([]:List (S40))):=⟨_,rfl⟩
  replace H:(if y240.length + l0.length<4398046511104 then (some (y240 ++ l0)) else (none))=some r:=by first|(rw [hy240];with_reducible exact H)|(have H2_:=(Option.bind_some _ _).symm.trans H;rw [hy240];with_reducible exact H2_)|(have H2_:=(Option.bind_some _ _).symm.trans H;with_reducible exact H2_)|with_reducible exact H|(rw [hy240];exact H)|exact H
  have Ny240:=Am hy240
  clear hy240
  by_cases c2:y240.length + l0.length<4398046511104
  rotate_left
  ·rw [if_neg c2] at H
   exact absurd H (by simp)


  rw [if_pos c2] at H
  have LMc2:=Am c2
  clear c2
  obtain ⟨y243,hy243⟩:∃ y_:List (S40),y_=(y240 ++ l0):=⟨_,rfl⟩
  replace H:(some y243)=some r:=by first|(rw [hy243];with_reducible exact H)|(have H2_:=(Option.bind_some _ _).symm.trans H;rw [hy243];with_reducible exact H2_)|(have H2_:=(Option.bind_some _ _).symm.trans H;with_reducible exact H2_)|with_reducible exact H|(rw [hy243];exact H)|exact H
  have Ny243:=Am hy243
  clear hy243
  obtain rfl:=Option.some.inj H
  have q_:∀ (w:World) (a:Option Addr) (n c n' c':Nat),(binOp .eql 23 (.slice a n c) (.slice none n' c')).run Try.prog w=.ok (.bool a.isNone) w:=fun w a n c n' c'=>Lib.run_eql_slice_nil w _ _ a n c n' c' Try.underlying23
  go_enter Try.func50,Try.ntmps50
  go_wp2_with (first|((with_reducible refine gate_dst (N:=5) rfl ?_);refine Kd.R_lit k40 _ 40 ?hg (N:=5) ?hd (xs:=([]:List (S40))) (inner:=[]) (ok:=fun _=>True) (okp:=fun _=>True) ?hr ?hp (fun _ hk=>hk) trivial (Below.refl _ _) (Nat.le_refl _) (by simp) ?_;(case hd=>rfl);(case hg=>rfl);(case hr=>first|(go_simp;done)|(go_simp;rfl));(case hp=>exact (Reps.none _ _));intro v241 w3 ho4 hb hg_ hnew_;clear hg_ hnew_;(first|rw [← Ny240.out] at ho4|(simp only [Int.reduceToNat] at ho4;rw [← Ny240.out] at ho4));have n0_:=Am (Kd.R_lower ho4 (bZ (by repeat (first|(with_reducible first|exact HB.out|apply oA|apply pN|apply o1)|exact HB.out))));have n1_:=Am (bP (by repeat (first|(with_reducible first|exact HB.out|apply oA|apply pN|apply o1)|exact HB.out)) hb);clear HB;revert n0_ n1_;intro Ba HB;clear hb ho4)|((with_reducible refine gate_builtin (b:=.append) (xs:=#[.tmp 5,.tmp 6]) rfl ?_);at_builtin;refine Kd.R_append_rows k40 (w0:=w) w.heap.size rfl (.tmp 5) (.tmp 6) 23 40 (.agg #[(.int .i64 0),(.int .i64 0),(.int .i64 0),(.bool false)]) 32 rfl Try.underlying23 info40 rfl (by decide) (by omega) v241 y240 l0 _ _ _ (fun _=>True) (fun _=>False) rfl rfl ?aO ?aR (fun _ _ h=>h) (fun _ h=>h.elim) ?aF ?aB ?aS ?aL ?_;(case aR=>repeat (first|exact (cB HR0.out HB.out)|(with_reducible refine cA ?_ _)|(with_reducible refine cN ?_ _)|(with_reducible refine cD ?_)));(case aB=>exact (by repeat (first|(with_reducible first|exact HB.out|apply oA|apply pN|apply o1)|exact HB.out)));(case aF=>exact (fun _ _=>trivial));(case aO=>exact (rL Ba.out));(case aS=>exact (bZ (by repeat (first|(with_reducible first|exact HB.out|apply oA|apply pN|apply o1)|exact HB.out))));(case aL=>have:=LMc2.out;omega);intro v244 w5 ho hb hg hat;rw [← Ny243.out] at ho;have n0_:=Am (hb);have n1_:=Am (ho);clear HB Ba;revert n0_ n1_;intro HB Bb;clear ho hb hg hat))
  go_ret
  exact ⟨_,by first|rfl|(simp [errW_none,errW_some] <;> rfl)|(simp [*,errW_none,errW_some] <;> rfl),by (with_reducible repeat (first|apply rA|apply rN|apply rD));exact Bb.out,by repeat (first|(with_reducible first|exact HB.out|apply oA|apply pN|apply o1)|exact HB.out)⟩/-! ### impl_Queue_clone: function 37 -/
def impl_Queue_clone.f (l0_0 : List (S40)) (a0_1 : Int) : Option ((List (S40)) × Int) := (impl_Task_50.f l0_0).bind fun t248 => (some (t248, a0_1))
set_option maxHeartbeats 2000000 in
set_option maxRecDepth 100000 in
theorem impl_Queue_clone.calls (A0_0:Option Addr) (c0_0:Nat) (l0_0:List (S40)) (a0_1:Int) (r1:List (S40)) (r2:Int) (w:World) (hr0_0:Kd.C k40 w A0_0 l0_0.length l0_0) (hc0_0:l0_0.length≤c0_0) (h:impl_Queue_clone.f l0_0 a0_1=some (r1,r2)) :
  Calls Try.prog 37 #[.agg #[.slice A0_0 l0_0.length c0_0,.int .i64 a0_1]] w fun e w'=>∃ v0_:Value,e=.returned (.agg #[v0_,.int .i64 r2])∧Kd.R k40 40 w' w.heap.size (fun _=>True) v0_ r1∧Below w.heap.size w w':=by
 have hu25:=Try.underlying25
 have HR0_0:=Am hr0_0
 have HC0_0:=Am hc0_0
 clear hr0_0 hc0_0
 have HB:=Am (Below.refl w.heap.size w)
 have H:((impl_Task_50.f l0_0).bind fun t248=>(some (t248,a0_1)))=some (r1,r2):=h
 clear h
 replace H:=oC H
 obtain ⟨t248,A20,H⟩:=H
 replace H:(some (t248,a0_1))=some (r1,r2):=H
 have A2:=Am A20
 clear A20
 simp only [Option.some.injEq,Prod.mk.injEq] at H
 obtain ⟨rfl,rfl⟩:=H
 go_enter Try.func37,Try.ntmps37
 try go_wp2_with (first|((with_reducible refine gate_dst (N:=1) rfl ?_);refine box_event ?hg (N:=1) ?hd (cs:=#[.slice A0_0 l0_0.length c0_0,.int .i64 a0_1]) (t:=25) ?hr ?_;(case hd=>rfl);(case hg=>rfl);(case hr=>first|(go_simp;done)|(go_simp;rfl));intro Be hg w3 hbox hb;have n0_:=Am (bP (by repeat (first|(with_reducible first|exact HB.out|apply oA|apply pN|apply o1)|exact HB.out)) hb);have n1_:=Am (hbox);have n2_:=Am ((by rw [hg];exact (bZ (by repeat (first|(with_reducible first|exact HB.out|apply oA|apply pN|apply o1)|exact HB.out))):w.heap.size≤Be));have n3_:=Am ((by rw [hg];exact (bZ (by repeat (first|(with_reducible first|exact HB.out|apply oA|apply pN|apply o1)|exact HB.out))):w.heap.size≤Be));clear HB;revert n0_ n1_ n2_ n3_;intro HB Ba Bj Bf;clear hb hbox hg)|((with_reducible refine gate_dst (N:=2) rfl ?_);refine box_event ?hg (N:=2) ?hd (cs:=#[.slice none 0 0,.int .i64 0]) (t:=25) ?hr ?_;(case hd=>rfl);(case hg=>rfl);(case hr=>first|(go_simp;done)|(go_simp;rfl));intro Bb hg w4 hbox hb;have n0_:=Am (bX Ba.out hb);have n1_:=Am (bP (by repeat (first|(with_reducible first|exact HB.out|apply oA|apply pN|apply o1|refine bS ?_ Bf.out)|exact HB.out)) hb);have n2_:=Am (hbox);have n3_:=Am ((by rw [hg];exact (bZ (by repeat (first|(with_reducible first|exact HB.out|apply oA|apply pN|apply o1|refine bS ?_ Bf.out)|exact HB.out))):w.heap.size≤Bb));have n4_:=Am ((by rw [hg];exact (bZ (by repeat (first|(with_reducible first|exact HB.out|apply oA|apply pN|apply o1|refine bS ?_ Bf.out)|exact HB.out))):w.heap.size≤Bb));have n5_:=Am ((nL Ba.out hg));have n6_:=Am ((nG Ba.out hg));clear Ba HB;revert n0_ n1_ n2_ n3_ n4_ n5_ n6_;intro Ba HB Bc Bk Bh Bd Bg;clear hb hbox hg))
 have n0_:=Am (bD Ba.out)
 have n1_:=Am (bD Bc.out)
 have n2_:=Am (o1 HB.out)
 clear Ba
 clear Bc
 clear HB
 have Ba:=n0_
 have Bc:=n1_
 have HB:=n2_
 clear n0_ n1_ n2_
 refine start_ (n:=7) (S:=fun w'=>w'.cell? ⟨Be,0,none⟩=some (.slice A0_0 l0_0.length c0_0)∧w'.cell? ⟨Be,1,none⟩=some (.int .i64 a0_1)) (ds:=[]) #[false,false,false,false,false,false,false] (by kernel_rfl) rfl rfl ⟨(bC Ba.out 0).trans rfl,(bC Ba.out 1).trans rfl⟩ (fun hHeld=>?_)
 generalize w4.drew=w5 at Ba Bc HB hHeld ⊢
 refine pure_ (i:=0) (N:=some 3) (v:=?_) (a':=?_) #[true,false,false,false,false,false,false] rfl rfl (by kernel_rfl) (fun _ _ _ h=>h) (Or.inl ⟨by rfl,?_⟩) ?_ ?_
 rotate_left;(intro w';go_simp;with_reducible rfl)
 rotate_left;(simp only [Act.put,lA,lZ,lS,iw,jw];rfl)
 refine pure_ (i:=3) (N:=some 6) (v:=?_) (a':=?_) #[true,false,false,true,false,false,false] rfl rfl (by kernel_rfl) (fun _ _ _ h=>h) (Or.inl ⟨by rfl,?_⟩) ?_ ?_
 rotate_left;(intro w';go_simp;with_reducible rfl)
 rotate_left;(simp only [Act.put,lA,lZ,lS,iw,jw];rfl)
 refine take_ (i:=1) (N:=some 4) (v:=?_) (a':=?_) #[true,true,false,true,false,false,false] rfl rfl (by kernel_rfl) (fun _ _ _ h=>h) (Or.inl ⟨by rfl,?_⟩) hHeld ?_ ?_
 rotate_left;(rintro w' ⟨s0,s1⟩;go_simp;with_reducible rfl)
 rotate_left;(simp only [Act.put,lA,lZ,lS,iw,jw];rfl)
 refine take_ (i:=4) (N:=some 7) (v:=?_) (a':=?_) #[true,true,false,true,true,false,false] rfl rfl (by kernel_rfl) (fun _ _ _ h=>h) (Or.inl ⟨by rfl,?_⟩) hHeld ?_ ?_
 rotate_left;(rintro w' ⟨s0,s1⟩;go_simp;with_reducible rfl)
 rotate_left;(simp only [Act.put,lA,lZ,lS,iw,jw];rfl)
 refine one_ (i:=2) (N:=some 5) #[true,true,true,true,true,false,false] rfl rfl (by kernel_rfl) (by decide) (fun K hK=>?_)
 refine goes_ Try.func50 (by kernel_rfl) rfl #[.slice A0_0 l0_0.length c0_0] (by rfl) rfl rfl (by (try simp only [lM,lC,lN]);first|done|rfl|(simp only [lD,lT];rfl)) ?_
 with_reducible refine (impl_Task_50.calls _ _ l0_0 t248 _ ?side1 ?side2 A2.out).mono ?_
 (case side1=>repeat (first|exact (cB HR0_0.out HB.out)|(with_reducible refine cA ?_ _)|(with_reducible refine cN ?_ _)|(with_reducible refine cD ?_)))
 (case side2=>exact HC0_0.out)
 rintro e w6 ⟨v249,rfl,ho0,hb⟩
 refine ⟨_,rfl,?_⟩
 have n0_:=Am (Kd.R_lower ho0 (bZ (by repeat (first|(with_reducible first|exact HB.out|apply oA|apply pN|apply o1|refine bS ?_ Bf.out|refine bS ?_ Bh.out)|exact HB.out))))
 have n1_:=Am (bX Ba.out hb)
 have n2_:=Am (bX Bc.out hb)
 have n3_:=Am (bP (by repeat (first|(with_reducible first|exact HB.out|apply oA|apply pN|apply o1|refine bS ?_ Bf.out|refine bS ?_ Bh.out)|exact HB.out)) hb)
 clear Ba
 clear Bc
 clear HB
 have Bi:=n0_
 have Ba:=n1_
 have Bc:=n2_
 have HB:=n3_
 clear n0_ n1_ n2_ n3_
 (try clear hb)
 (try clear hb2)
 (try clear hk)
 (try clear hi)
 (try clear ho0)
 obtain ⟨Ao7,co7,eo7⟩:=Kd.R_slice Bi.out
 (first|subst eo7|(injection eo7 with f1_ f2_ f3_;have f4_:=f1_.symm;have f5_:=f3_.symm;clear f1_ f2_ f3_;subst f4_;subst f5_))
 refine hK.out _ _ ⟨(bC Ba.out 0).trans rfl,(bC Ba.out 1).trans rfl⟩ (fun hHeld=>?_)
 clear hK K
 refine norm_ (by show Act.put _ (some 5) _=_;simp only [Act.put,lA,lZ,lS,iw,jw];rfl) ?_
 refine pure_ (i:=5) (N:=some 8) (v:=?_) (a':=?_) #[true,true,true,true,true,true,false] rfl rfl (by kernel_rfl) (fun _ _ _ h=>h) (Or.inl ⟨by rfl,?_⟩) ?_ ?_
 rotate_left;(intro w';go_simp;with_reducible rfl)
 rotate_left;(simp only [Act.put,lA,lZ,lS,iw,jw];rfl)
 refine one_ (i:=6) (N:=none) #[true,true,true,true,true,true,true] rfl rfl (by kernel_rfl) (by decide) (fun K hK=>?_)
 have hs8:=cz0 Bc.out
 have hfs8:=bF Bc.out 0
 have hns8_0:=Bd.out
 have hms8_0:=Bg.out
 have hs9:=cz1 Bc.out
 have hfs9:=bF Bc.out 1
 have hns9_0:=Bd.out
 have hms9_0:=Bg.out
 refine skip_ (w1:=?_) (by rfl) rfl ?_ ?_
 rotate_left;(go_simp;rfl)
 refine hK.out _ _ ⟨((cell_far (p:=⟨Bb,_,none⟩) Bd.out _).trans (((cell_far (p:=⟨Bb,_,none⟩) Bd.out _).trans (hHeld.1)))),((cell_far (p:=⟨Bb,_,none⟩) Bd.out _).trans (((cell_far (p:=⟨Bb,_,none⟩) Bd.out _).trans (hHeld.2))))⟩ (fun hHeld=>?_)
 clear hK K
 refine done_ (by kernel_rfl) ?_
 try go_wp2
 refine bodyPost_ret (results_cell_row rfl _ _ Bb 25 #[.slice Ao7 t248.length co7,.int .i64 a0_1] (0,0) _ rfl (by (with_reducible repeat (first|refine bN ?_ _|refine bD ?_|refine bA ?_ _));refine blk_put (cs:=#[.slice Ao7 t248.length co7,.int .i64 0]) ?_ 1 _ rfl;(with_reducible repeat (first|refine bN ?_ _|refine bD ?_|refine bA ?_ _));refine blk_put (cs:=#[.slice none 0 0,.int .i64 0]) ?_ 0 _ rfl;(with_reducible repeat (first|refine bN ?_ _|refine bD ?_|refine bA ?_ _));exact Bc.out) Try.underlying25 rfl (by kernel_rfl)) rfl ?_
 exact ⟨_,by first|rfl|(simp [errW_none,errW_some] <;> rfl)|(simp [*,errW_none,errW_some] <;> rfl),by (with_reducible repeat (first|apply rA|apply rN|apply rD));exact rM (rF (p:=⟨Bb,1,none⟩) (rF (p:=⟨Bb,0,none⟩) (rT Bi.out Bc.out (by decide)) (fun _ hk=>hk.2) (.slice Ao7 t248.length co7)) (fun _ hk=>hk.2) (.int .i64 a0_1)) (fun _ hk=>trivial),by repeat (first|(with_reducible first|exact HB.out|apply oA|apply pN|apply o1|refine bS ?_ Bf.out|refine bS ?_ Bh.out)|exact HB.out)⟩

end Go.Proofs.Ytfhcgmfodfcpeaa.PFnQueueLess
