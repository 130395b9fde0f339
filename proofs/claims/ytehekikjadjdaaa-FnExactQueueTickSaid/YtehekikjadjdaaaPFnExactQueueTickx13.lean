/- Proved here, without a condition beyond those that each theorem states: what the Go functions named below do is what the plain functions of the same names say. Written by xprint.py, a program of this session. -/
import Derived.Test.YtehekikjadjdaaaPFnExactQueueTickx0
import Derived.Test.YtehekikjadjdaaaPFnExactQueueTickx1
import Derived.Test.YtehekikjadjdaaaPFnExactQueueTickx3
import Derived.Test.YtehekikjadjdaaaPFnExactQueueTickx4
import Derived.Test.YtehekikjadjdaaaPFnExactQueueTickx9
import Derived.Test.YtehekikjadjdaaaPFnExactQueueTickx12
namespace Go.Proofs.Ytehekikjadjdaaa.PFnExactQueueTick
open Go.RowKit Go.Proofs.YtehekikjadjdaaaW.PrintWords Go.Proofs.YtehekikjadjdaaaW.PrintLast Go.Proofs.YtehekikjadjdaaaW.PrintMore
attribute [local go_sem] max2_int min2_int max_two min_two max_three min_three max_four min_four   -- for this text's walks alone
set_option linter.unusedVariables false
set_option linter.unusedSimpArgs false

attribute [local go_sem ↓] isSome_setCell_
/-! ### laws_FnExactQueueTick: function 10 -/
mutual
def laws_FnExactQueueTick.j0 : Nat → Int → Bool → Int → Bool → Bool → List (S108) → Int → List (S86) → Int → List (S86) → Int → List (S86) → Int → Option (Bool)
|0, _, _, _, _, _, _, _, _, _, _, _, _, _ => none
|k + 1, x5, x6, x9, x10, x50, x226000, x226001, x238000, x238001, x243000, x243001, x250000, x250001 => if x50 = true then (some false) else ((laws_toQueue.f k x226000 x226001).bind fun bt251 => ((laws_eqQueue.f k x243000 x243001 bt251.1 bt251.2).bind fun t255 => (if t255 = true then ((laws_markQueue.f k x243000 x243001 1).bind fun bt256 => (if bt256.1 < 0 then (laws_FnExactQueueTick.j1 k x5 x6 true x226000 x226001 x238000 x238001 x250000 x250001) else ((laws_eqQueue.f k x250000 x250001 x238000 x238001).bind fun t258 => (if t258 = true then (if x9 = x5 then (laws_FnExactQueueTick.j1 k x5 x6 (x10 != x6) x226000 x226001 x238000 x238001 x250000 x250001) else (laws_FnExactQueueTick.j1 k x5 x6 true x226000 x226001 x238000 x238001 x250000 x250001)) else (laws_FnExactQueueTick.j1 k x5 x6 true x226000 x226001 x238000 x238001 x250000 x250001))))) else (some false))))
def laws_FnExactQueueTick.j1 : Nat → Int → Bool → Bool → List (S108) → Int → List (S86) → Int → List (S86) → Int → Option (Bool)
|0, _, _, _, _, _, _, _, _, _ => none
|k + 1, x5, x6, x76, x226000, x226001, x238000, x238001, x250000, x250001 => if x76 = true then (some false) else ((laws_markQueue.f k x250000 x250001 1).bind fun bt259 => ((laws_heldQueue.f k bt259.2 x250001 1).bind fun t261 => (if t261 < 0 then (some false) else (if t261 = bt259.1 then ((laws_toQueue.f k x226000 x226001).bind fun bt262 => ((impl_QueueTick.f k bt262.1 bt262.2).bind fun bt266 => ((laws_eqQueue.f k bt266.1 bt266.2.1 x238000 x238001).bind fun t273 => (if t273 = true then (if bt266.2.2.1 = x5 then (laws_FnExactQueueTick.j2 k bt259.1 (bt266.2.2.2 != x6) bt259.2 x250001) else (laws_FnExactQueueTick.j2 k bt259.1 true bt259.2 x250001)) else (laws_FnExactQueueTick.j2 k bt259.1 true bt259.2 x250001))))) else (some false)))))
def laws_FnExactQueueTick.j2 : Nat → Int → Bool → List (S86) → Int → Option (Bool)
|0, _, _, _, _ => none
|k + 1, x12, x108, x250000, x250001 => if x108 = true then (some false) else ((laws_heldQueue.f k x250000 x250001 1).bind fun t274 => (if t274 < 0 then (some false) else (if t274 = x12 then (some true) else (some false))))
end
def laws_FnExactQueueTick.f (k : Nat) (l0_0 : List (S108)) (a0_1 : Int) : Option (Bool) := (laws_szQueue.f l0_0 a0_1 1048576).bind fun t226 => (if t226 < 0 then (some true) else ((laws_toQueue.f k l0_0 a0_1).bind fun bt227 => ((spec_QueueTick.f k bt227.1 bt227.2).bind fun bt231 => ((laws_toQueue.f k l0_0 a0_1).bind fun bt238 => ((impl_QueueTick.f k bt238.1 bt238.2).bind fun bt243 => ((laws_eqQueue.f k bt243.1 bt243.2.1 bt231.1 bt231.2.1).bind fun t250 => (if t250 = true then (if bt243.2.2.1 = bt231.2.2.1 then (laws_FnExactQueueTick.j0 k bt231.2.2.1 bt231.2.2.2 bt243.2.2.1 bt243.2.2.2 (bt243.2.2.2 != bt231.2.2.2) l0_0 a0_1 bt231.1 bt231.2.1 bt238.1 bt238.2 bt243.1 bt243.2.1) else (laws_FnExactQueueTick.j0 k bt231.2.2.1 bt231.2.2.2 bt243.2.2.1 bt243.2.2.2 true l0_0 a0_1 bt231.1 bt231.2.1 bt238.1 bt238.2 bt243.1 bt243.2.1)) else (laws_FnExactQueueTick.j0 k bt231.2.2.1 bt231.2.2.2 bt243.2.2.1 bt243.2.2.2 true l0_0 a0_1 bt231.1 bt231.2.1 bt238.1 bt238.2 bt243.1 bt243.2.1))))))))
theorem laws_FnExactQueueTick.mono_l : ∀ k, (∀ y0 y1 y2 y3 y4 y5 y6 y7 y8 y9 y10 y11 y12, LeO (laws_FnExactQueueTick.j0 k y0 y1 y2 y3 y4 y5 y6 y7 y8 y9 y10 y11 y12) (laws_FnExactQueueTick.j0 (k + 1) y0 y1 y2 y3 y4 y5 y6 y7 y8 y9 y10 y11 y12)) ∧ (∀ y0 y1 y2 y3 y4 y5 y6 y7 y8, LeO (laws_FnExactQueueTick.j1 k y0 y1 y2 y3 y4 y5 y6 y7 y8) (laws_FnExactQueueTick.j1 (k + 1) y0 y1 y2 y3 y4 y5 y6 y7 y8)) ∧ (∀ y0 y1 y2 y3, LeO (laws_FnExactQueueTick.j2 k y0 y1 y2 y3) (laws_FnExactQueueTick.j2 (k + 1) y0 y1 y2 y3))
|0 => ⟨fun _ _ _ _ _ _ _ _ _ _ _ _ _ r h => by simp [laws_FnExactQueueTick.j0] at h, fun _ _ _ _ _ _ _ _ _ r h => by simp [laws_FnExactQueueTick.j1] at h, fun _ _ _ _ r h => by simp [laws_FnExactQueueTick.j2] at h⟩
|k + 1 => by
  obtain ⟨ih0, ih1, ih2⟩ := laws_FnExactQueueTick.mono_l k
  refine ⟨?_, ?_, ?_⟩
  ·intro y0 y1 y2 y3 y4 y5 y6 y7 y8 y9 y10 y11 y12
   unfold laws_FnExactQueueTick.j0
   repeat' first
  |(with_reducible exact ih0 _ _ _ _ _ _ _ _ _ _ _ _ _)
  |(with_reducible exact ih1 _ _ _ _ _ _ _ _ _)
  |(with_reducible exact ih2 _ _ _ _)
  |(with_reducible exact impl_QueueTick.mono _ _ _)
  |(with_reducible exact laws_eqQueue.mono _ _ _ _ _)
  |(with_reducible exact laws_heldQueue.mono _ _ _ _)
  |(with_reducible exact laws_markQueue.mono _ _ _ _)
  |(with_reducible exact laws_toQueue.mono _ _ _)
  |(with_reducible exact spec_QueueTick.mono _ _ _)
  |(with_reducible exact LeO.refl _)
  |(with_reducible exact LeO.none _)
  |(with_reducible refine LeO.ite ?_ ?_)
  |(with_reducible refine LeO.bind ?_ (fun _ => ?_))
  |exact ih0 _ _ _ _ _ _ _ _ _ _ _ _ _
  |exact ih1 _ _ _ _ _ _ _ _ _
  |exact ih2 _ _ _ _
  |exact impl_QueueTick.mono _ _ _
  |exact laws_eqQueue.mono _ _ _ _ _
  |exact laws_heldQueue.mono _ _ _ _
  |exact laws_markQueue.mono _ _ _ _
  |exact laws_toQueue.mono _ _ _
  |exact spec_QueueTick.mono _ _ _
  |exact LeO.none _
  |refine LeO.ite ?_ ?_
  |refine LeO.bind ?_ (fun _ => ?_)
  ·intro y0 y1 y2 y3 y4 y5 y6 y7 y8
   unfold laws_FnExactQueueTick.j1
   repeat' first
  |(with_reducible exact ih0 _ _ _ _ _ _ _ _ _ _ _ _ _)
  |(with_reducible exact ih1 _ _ _ _ _ _ _ _ _)
  |(with_reducible exact ih2 _ _ _ _)
  |(with_reducible exact impl_QueueTick.mono _ _ _)
  |(with_reducible exact laws_eqQueue.mono _ _ _ _ _)
  |(with_reducible exact laws_heldQueue.mono _ _ _ _)
  |(with_reducible exact laws_markQueue.mono _ _ _ _)
  |(with_reducible exact laws_toQueue.mono _ _ _)
  |(with_reducible exact spec_QueueTick.mono _ _ _)
  |(with_reducible exact LeO.refl _)
  |(with_reducible exact LeO.none _)
  |(with_reducible refine LeO.ite ?_ ?_)
  |(with_reducible refine LeO.bind ?_ (fun _ => ?_))
  |exact ih0 _ _ _ _ _ _ _ _ _ _ _ _ _
  |exact ih1 _ _ _ _ _ _ _ _ _
  |exact ih2 _ _ _ _
  |exact impl_QueueTick.mono _ _ _
  |exact laws_eqQueue.mono _ _ _ _ _
  |exact laws_heldQueue.mono _ _ _ _
  |exact laws_markQueue.mono _ _ _ _
  |exact laws_toQueue.mono _ _ _
  |exact spec_QueueTick.mono _ _ _
  |exact LeO.none _
  |refine LeO.ite ?_ ?_
  |refine LeO.bind ?_ (fun _ => ?_)
  ·intro y0 y1 y2 y3
   unfold laws_FnExactQueueTick.j2
   repeat' first
  |(with_reducible exact ih0 _ _ _ _ _ _ _ _ _ _ _ _ _)
  |(with_reducible exact ih1 _ _ _ _ _ _ _ _ _)
  |(with_reducible exact ih2 _ _ _ _)
  |(with_reducible exact impl_QueueTick.mono _ _ _)
  |(with_reducible exact laws_eqQueue.mono _ _ _ _ _)
  |(with_reducible exact laws_heldQueue.mono _ _ _ _)
  |(with_reducible exact laws_markQueue.mono _ _ _ _)
  |(with_reducible exact laws_toQueue.mono _ _ _)
  |(with_reducible exact spec_QueueTick.mono _ _ _)
  |(with_reducible exact LeO.refl _)
  |(with_reducible exact LeO.none _)
  |(with_reducible refine LeO.ite ?_ ?_)
  |(with_reducible refine LeO.bind ?_ (fun _ => ?_))
  |exact ih0 _ _ _ _ _ _ _ _ _ _ _ _ _
  |exact ih1 _ _ _ _ _ _ _ _ _
  |exact ih2 _ _ _ _
  |exact impl_QueueTick.mono _ _ _
  |exact laws_eqQueue.mono _ _ _ _ _
  |exact laws_heldQueue.mono _ _ _ _
  |exact laws_markQueue.mono _ _ _ _
  |exact laws_toQueue.mono _ _ _
  |exact spec_QueueTick.mono _ _ _
  |exact LeO.none _
  |refine LeO.ite ?_ ?_
  |refine LeO.bind ?_ (fun _ => ?_)
theorem laws_FnExactQueueTick.mono : ∀ a0 a1 k, LeO (laws_FnExactQueueTick.f k a0 a1) (laws_FnExactQueueTick.f (k + 1) a0 a1) := by
 intro a0 a1 k
 obtain ⟨ih0, ih1, ih2⟩ := laws_FnExactQueueTick.mono_l k
 unfold laws_FnExactQueueTick.f
 repeat' first
  |(with_reducible exact ih0 _ _ _ _ _ _ _ _ _ _ _ _ _)
  |(with_reducible exact ih1 _ _ _ _ _ _ _ _ _)
  |(with_reducible exact ih2 _ _ _ _)
  |(with_reducible exact impl_QueueTick.mono _ _ _)
  |(with_reducible exact laws_eqQueue.mono _ _ _ _ _)
  |(with_reducible exact laws_heldQueue.mono _ _ _ _)
  |(with_reducible exact laws_markQueue.mono _ _ _ _)
  |(with_reducible exact laws_toQueue.mono _ _ _)
  |(with_reducible exact spec_QueueTick.mono _ _ _)
  |(with_reducible exact LeO.refl _)
  |(with_reducible exact LeO.none _)
  |(with_reducible refine LeO.ite ?_ ?_)
  |(with_reducible refine LeO.bind ?_ (fun _ => ?_))
  |exact ih0 _ _ _ _ _ _ _ _ _ _ _ _ _
  |exact ih1 _ _ _ _ _ _ _ _ _
  |exact ih2 _ _ _ _
  |exact impl_QueueTick.mono _ _ _
  |exact laws_eqQueue.mono _ _ _ _ _
  |exact laws_heldQueue.mono _ _ _ _
  |exact laws_markQueue.mono _ _ _ _
  |exact laws_toQueue.mono _ _ _
  |exact spec_QueueTick.mono _ _ _
  |exact LeO.none _
  |refine LeO.ite ?_ ?_
  |refine LeO.bind ?_ (fun _ => ?_)
set_option maxHeartbeats 2000000 in
set_option maxRecDepth 100000 in
theorem laws_FnExactQueueTick.calls (k:Nat) (A0_0:Option Addr) (c0_0:Nat) (l0_0:List (S108)) (a0_1:Int) (r:Bool) (w:World) (hr0_0:Kd.C k108 w A0_0 l0_0.length l0_0) (hc0_0:l0_0.length≤c0_0) (h:laws_FnExactQueueTick.f k l0_0 a0_1=some r) (hT_:Aside0 (r=true)) :
  Calls Try.prog 10 #[.agg #[.slice A0_0 l0_0.length c0_0,.int .i64 a0_1]] w fun e w'=>e=.returned (.bool r)∧Below w.heap.size w w':=by
 have hu43:=Try.underlying43
 have hu47:=Try.underlying47
 have HR0_0:=Am hr0_0
 have HC0_0:=Am hc0_0
 clear hr0_0 hc0_0
 have HB:=Am (Below.refl w.heap.size w)
 have H:((laws_szQueue.f l0_0 a0_1 1048576).bind fun t226=>(if t226<0 then (some true) else ((laws_toQueue.f k l0_0 a0_1).bind fun bt227=>((spec_QueueTick.f k bt227.1 bt227.2).bind fun bt231=>((laws_toQueue.f k l0_0 a0_1).bind fun bt238=>((impl_QueueTick.f k bt238.1 bt238.2).bind fun bt243=>((laws_eqQueue.f k bt243.1 bt243.2.1 bt231.1 bt231.2.1).bind fun t250=>(if t250=true then (if bt243.2.2.1=bt231.2.2.1 then (laws_FnExactQueueTick.j0 k bt231.2.2.1 bt231.2.2.2 bt243.2.2.1 bt243.2.2.2 (bt243.2.2.2 != bt231.2.2.2) l0_0 a0_1 bt231.1 bt231.2.1 bt238.1 bt238.2 bt243.1 bt243.2.1) else (laws_FnExactQueueTick.j0 k bt231.2.2.1 bt231.2.2.2 bt243.2.2.1 bt243.2.2.2 true l0_0 a0_1 bt231.1 bt231.2.1 bt238.1 bt238.2 bt243.1 bt243.2.1)) else (laws_FnExactQueueTick.j0 k bt231.2.2.1 bt231.2.2.2 bt243.2.2.1 bt243.2.2.2 true l0_0 a0_1 bt231.1 bt231.2.1 bt238.1 bt238.2 bt243.1 bt243.2.1)))))))))=some r:=h
 clear h
 replace H:=oC H
 obtain ⟨t226,A20,H⟩:=H
 replace H:(if t226<0 then (some true) else ((laws_toQueue.f k l0_0 a0_1).bind fun bt227=>((spec_QueueTick.f k bt227.1 bt227.2).bind fun bt231=>((laws_toQueue.f k l0_0 a0_1).bind fun bt238=>((impl_QueueTick.f k bt238.1 bt238.2).bind fun bt243=>((laws_eqQueue.f k bt243.1 bt243.2.1 bt231.1 bt231.2.1).bind fun t250=>(if t250=true then (if bt243.2.2.1=bt231.2.2.1 then (laws_FnExactQueueTick.j0 k bt231.2.2.1 bt231.2.2.2 bt243.2.2.1 bt243.2.2.2 (bt243.2.2.2 != bt231.2.2.2) l0_0 a0_1 bt231.1 bt231.2.1 bt238.1 bt238.2 bt243.1 bt243.2.1) else (laws_FnExactQueueTick.j0 k bt231.2.2.1 bt231.2.2.2 bt243.2.2.1 bt243.2.2.2 true l0_0 a0_1 bt231.1 bt231.2.1 bt238.1 bt238.2 bt243.1 bt243.2.1)) else (laws_FnExactQueueTick.j0 k bt231.2.2.1 bt231.2.2.2 bt243.2.2.1 bt243.2.2.2 true l0_0 a0_1 bt231.1 bt231.2.1 bt238.1 bt238.2 bt243.1 bt243.2.1))))))))=some r:=H
 have A2:=Am A20
 clear A20
 by_cases c3:t226<0
 ·rw [if_pos c3] at H
  have c3b0:decide (t226<0)=true:=decide_eq_true c3
  clear c3
  obtain rfl:=Option.some.inj H
  go_enter Try.func10,Try.ntmps10
  go_wp2_with (first|((with_reducible refine gate_dst (N:=1) rfl ?_);refine box_event ?hg (N:=1) ?hd (cs:=#[.slice A0_0 l0_0.length c0_0,.int .i64 a0_1]) (t:=43) ?hr ?_;(case hd=>rfl);(case hg=>rfl);(case hr=>first|(go_simp;done)|(go_simp;rfl));intro Bk hg w4 hbox hb;have n0_:=Am (bP (by repeat (first|(with_reducible first|exact HB.out|apply oA|apply pN|apply o1)|exact HB.out)) hb);have n1_:=Am (hbox);have n2_:=Am ((by rw [hg];exact (bZ (by repeat (first|(with_reducible first|exact HB.out|apply oA|apply pN|apply o1)|exact HB.out))):w.heap.size≤Bk));have n3_:=Am ((by rw [hg];exact (bZ (by repeat (first|(with_reducible first|exact HB.out|apply oA|apply pN|apply o1)|exact HB.out))):w.heap.size≤Bk));clear HB;revert n0_ n1_ n2_ n3_;intro HB Bb FS Bl;clear hb hbox hg;have DH:w4.cell? ⟨Bk,0,none⟩=some (.slice A0_0 l0_0.length c0_0):=(bC Bb.out 0).trans rfl;have DI:w4.cell? ⟨Bk,1,none⟩=some (.int .i64 a0_1):=(bC Bb.out 1).trans rfl;have DJ:=bF Bb.out 0;have DK:=bF Bb.out 1)|((with_reducible refine gate_callee (f:=29) rfl ?_);refine goesL_ (some 19) rfl rfl Try.func29 (by kernel_rfl) rfl #[.agg #[.slice A0_0 l0_0.length c0_0,.int .i64 a0_1],.int .i64 1048576] rfl (by (try simp only [lM,lC,lN]);first|done|rfl|(simp only [lD,lT];rfl)) ?_;(with_reducible refine (laws_szQueue.calls _ _ l0_0 a0_1 1048576 t226 _ ?side1 ?side2 A2.out).mono ?_);(case side1=>repeat (first|exact (cB HR0_0.out HB.out)|(with_reducible refine cA ?_ _)|(with_reducible refine cN ?_ _)|(with_reducible refine cD ?_)));(case side2=>exact HC0_0.out);rintro e w6 ⟨rfl,hb⟩;refine ⟨_,rfl,?_⟩;have n0_:=Am (bB (g:=Bk) (o:=.cells #[.slice A0_0 l0_0.length c0_0,.int .i64 a0_1] 43 (0,0)) (bL Bb.out) hb);have n1_:=Am (bP (by repeat (first|(with_reducible first|exact HB.out|apply oA|apply pN|apply o1|refine bS ?_ Bl.out)|exact HB.out)) hb);clear Bb HB;revert n0_ n1_;intro Bb HB;(try clear hb);(try clear hb2);(try clear hk);(try clear hi)))
  go_ret
  exact ⟨by first|rfl|(simp [errW_none,errW_some] <;> rfl)|(simp [*,errW_none,errW_some] <;> rfl),by repeat (first|(with_reducible first|exact HB.out|apply oA|apply pN|apply o1|refine bS ?_ Bl.out)|exact HB.out)⟩
 rw [if_neg c3] at H
 have c3b0:decide (t226<0)=false:=decide_eq_false c3
 clear c3
 replace H:=oC H
 obtain ⟨⟨t227,t230⟩,A70,H⟩:=H
 replace H:((spec_QueueTick.f k t227 t230).bind fun bt231=>((laws_toQueue.f k l0_0 a0_1).bind fun bt238=>((impl_QueueTick.f k bt238.1 bt238.2).bind fun bt243=>((laws_eqQueue.f k bt243.1 bt243.2.1 bt231.1 bt231.2.1).bind fun t250=>(if t250=true then (if bt243.2.2.1=bt231.2.2.1 then (laws_FnExactQueueTick.j0 k bt231.2.2.1 bt231.2.2.2 bt243.2.2.1 bt243.2.2.2 (bt243.2.2.2 != bt231.2.2.2) l0_0 a0_1 bt231.1 bt231.2.1 bt238.1 bt238.2 bt243.1 bt243.2.1) else (laws_FnExactQueueTick.j0 k bt231.2.2.1 bt231.2.2.2 bt243.2.2.1 bt243.2.2.2 true l0_0 a0_1 bt231.1 bt231.2.1 bt238.1 bt238.2 bt243.1 bt243.2.1)) else (laws_FnExactQueueTick.j0 k bt231.2.2.1 bt231.2.2.2 bt243.2.2.1 bt243.2.2.2 true l0_0 a0_1 bt231.1 bt231.2.1 bt238.1 bt238.2 bt243.1 bt243.2.1))))))=some r:=H
 have A7:=Am A70
 clear A70
 replace H:=oC H
 obtain ⟨⟨t231,t234,t235,t236⟩,A80,H⟩:=H
 replace H:((laws_toQueue.f k l0_0 a0_1).bind fun bt238=>((impl_QueueTick.f k bt238.1 bt238.2).bind fun bt243=>((laws_eqQueue.f k bt243.1 bt243.2.1 t231 t234).bind fun t250=>(if t250=true then (if bt243.2.2.1=t235 then (laws_FnExactQueueTick.j0 k t235 t236 bt243.2.2.1 bt243.2.2.2 (bt243.2.2.2 != t236) l0_0 a0_1 t231 t234 bt238.1 bt238.2 bt243.1 bt243.2.1) else (laws_FnExactQueueTick.j0 k t235 t236 bt243.2.2.1 bt243.2.2.2 true l0_0 a0_1 t231 t234 bt238.1 bt238.2 bt243.1 bt243.2.1)) else (laws_FnExactQueueTick.j0 k t235 t236 bt243.2.2.1 bt243.2.2.2 true l0_0 a0_1 t231 t234 bt238.1 bt238.2 bt243.1 bt243.2.1)))))=some r:=H
 have A8:=Am A80
 clear A80
 replace H:=oC H
 obtain ⟨⟨t238,t241⟩,A90,H⟩:=H
 replace H:((impl_QueueTick.f k t238 t241).bind fun bt243=>((laws_eqQueue.f k bt243.1 bt243.2.1 t231 t234).bind fun t250=>(if t250=true then (if bt243.2.2.1=t235 then (laws_FnExactQueueTick.j0 k t235 t236 bt243.2.2.1 bt243.2.2.2 (bt243.2.2.2 != t236) l0_0 a0_1 t231 t234 t238 t241 bt243.1 bt243.2.1) else (laws_FnExactQueueTick.j0 k t235 t236 bt243.2.2.1 bt243.2.2.2 true l0_0 a0_1 t231 t234 t238 t241 bt243.1 bt243.2.1)) else (laws_FnExactQueueTick.j0 k t235 t236 bt243.2.2.1 bt243.2.2.2 true l0_0 a0_1 t231 t234 t238 t241 bt243.1 bt243.2.1))))=some r:=H
 have A9:=Am A90
 clear A90
 replace H:=oC H
 obtain ⟨⟨t243,t246,t247,t248⟩,A100,H⟩:=H
 replace H:((laws_eqQueue.f k t243 t246 t231 t234).bind fun t250=>(if t250=true then (if t247=t235 then (laws_FnExactQueueTick.j0 k t235 t236 t247 t248 (t248 != t236) l0_0 a0_1 t231 t234 t238 t241 t243 t246) else (laws_FnExactQueueTick.j0 k t235 t236 t247 t248 true l0_0 a0_1 t231 t234 t238 t241 t243 t246)) else (laws_FnExactQueueTick.j0 k t235 t236 t247 t248 true l0_0 a0_1 t231 t234 t238 t241 t243 t246)))=some r:=H
 have A10:=Am A100
 clear A100
 have HC11:=Am H
 clear H
 go_enter Try.func10,Try.ntmps10
 go_upto_region 8 with (first|((with_reducible refine gate_dst (N:=1) rfl ?_);refine box_event ?hg (N:=1) ?hd (cs:=#[.slice A0_0 l0_0.length c0_0,.int .i64 a0_1]) (t:=43) ?hr ?_;(case hd=>rfl);(case hg=>rfl);(case hr=>first|(go_simp;done)|(go_simp;rfl));intro Bk hg w12 hbox hb;have n0_:=Am (bP (by repeat (first|(with_reducible first|exact HB.out|apply oA|apply pN|apply o1)|exact HB.out)) hb);have n1_:=Am (hbox);have n2_:=Am ((by rw [hg];exact (bZ (by repeat (first|(with_reducible first|exact HB.out|apply oA|apply pN|apply o1)|exact HB.out))):w.heap.size≤Bk));have n3_:=Am ((by rw [hg];exact (bZ (by repeat (first|(with_reducible first|exact HB.out|apply oA|apply pN|apply o1)|exact HB.out))):w.heap.size≤Bk));clear HB;revert n0_ n1_ n2_ n3_;intro HB Bb FS Bl;clear hb hbox hg;have BV:w12.cell? ⟨Bk,0,none⟩=some (.slice A0_0 l0_0.length c0_0):=(bC Bb.out 0).trans rfl;have BW:w12.cell? ⟨Bk,1,none⟩=some (.int .i64 a0_1):=(bC Bb.out 1).trans rfl;have BX:=bF Bb.out 0;have BY:=bF Bb.out 1)|((with_reducible refine gate_callee (f:=29) rfl ?_);refine goesL_ (some 19) rfl rfl Try.func29 (by kernel_rfl) rfl #[.agg #[.slice A0_0 l0_0.length c0_0,.int .i64 a0_1],.int .i64 1048576] rfl (by (try simp only [lM,lC,lN]);first|done|rfl|(simp only [lD,lT];rfl)) ?_;(with_reducible refine (laws_szQueue.calls _ _ l0_0 a0_1 1048576 t226 _ ?side1 ?side2 A2.out).mono ?_);(case side1=>repeat (first|exact (cB HR0_0.out HB.out)|(with_reducible refine cA ?_ _)|(with_reducible refine cN ?_ _)|(with_reducible refine cD ?_)));(case side2=>exact HC0_0.out);rintro e w14 ⟨rfl,hb⟩;refine ⟨_,rfl,?_⟩;have n0_:=Am (bB (g:=Bk) (o:=.cells #[.slice A0_0 l0_0.length c0_0,.int .i64 a0_1] 43 (0,0)) (bL Bb.out) hb);have n1_:=Am (bP (by repeat (first|(with_reducible first|exact HB.out|apply oA|apply pN|apply o1|refine bS ?_ Bl.out)|exact HB.out)) hb);clear Bb HB;revert n0_ n1_;intro Bb HB;(try clear hb);(try clear hb2);(try clear hk);(try clear hi);have BZ:w14.cell? ⟨Bk,0,none⟩=some (.slice A0_0 l0_0.length c0_0):=(bC Bb.out 0).trans rfl;have B0:w14.cell? ⟨Bk,1,none⟩=some (.int .i64 a0_1):=(bC Bb.out 1).trans rfl;have B1:=bF Bb.out 0;have B2:=bF Bb.out 1)|((with_reducible refine gate_callee (f:=31) rfl ?_);refine goesL_ (some 24) rfl rfl Try.func31 (by kernel_rfl) rfl #[.agg #[.slice A0_0 l0_0.length c0_0,.int .i64 a0_1]] rfl (by (try simp only [lM,lC,lN]);first|done|rfl|(simp only [lD,lT];rfl)) ?_;(with_reducible refine (laws_toQueue.calls k _ _ l0_0 a0_1 t227 t230 _ ?side1 ?side2 A7.out).mono ?_);(case side1=>repeat (first|exact (cB HR0_0.out HB.out)|(with_reducible refine cA ?_ _)|(with_reducible refine cN ?_ _)|(with_reducible refine cD ?_)));(case side2=>exact HC0_0.out);rintro e w16 ⟨v228,rfl,ho0,hb⟩;refine ⟨_,rfl,?_⟩;have n0_:=Am (Kd.R_lower ho0 (bZ (by repeat (first|(with_reducible first|exact HB.out|apply oA|apply pN|apply o1|refine bS ?_ Bl.out)|exact HB.out))));have n1_:=Am (bB (g:=Bk) (o:=.cells #[.slice A0_0 l0_0.length c0_0,.int .i64 a0_1] 43 (0,0)) (bL Bb.out) hb);have n2_:=Am (bP (by repeat (first|(with_reducible first|exact HB.out|apply oA|apply pN|apply o1|refine bS ?_ Bl.out)|exact HB.out)) hb);clear Bb HB;revert n0_ n1_ n2_;intro Bs Bb HB;(try clear hb);(try clear hb2);(try clear hk);(try clear hi);(try clear ho0);obtain ⟨Ao17,co17,eo17⟩:=Kd.R_slice Bs.out;subst eo17)|((with_reducible refine gate_callee (f:=40) rfl ?_);refine goesL_ (some 25) rfl rfl Try.func40 (by kernel_rfl) rfl #[.agg #[.slice Ao17 t227.length co17,.int .i64 t230]] rfl (by (try simp only [lM,lC,lN]);first|done|rfl|(simp only [lD,lT];rfl)) ?_;(with_reducible refine (spec_QueueTick.calls k _ _ t227 t230 t231 t234 t235 t236 _ ?side1 ?side2 A8.out).mono ?_);(case side1=>repeat (first|exact (Kd.R_reads' Bs.out).2.2|(with_reducible refine cA ?_ _)|(with_reducible refine cN ?_ _)|(with_reducible refine cD ?_)));(case side2=>exact (Kd.R_reads' Bs.out).2.1);rintro e w18 ⟨v232,rfl,ho0,hb⟩;refine ⟨_,rfl,?_⟩;have n0_:=Am (Kd.R_elder' (rL Bs.out) (Kd.R_base ho0) hb);have n1_:=Am (Kd.R_lower (Kd.R_new' ho0 (Kd.R_lt (rL Bs.out))) (bZ (by repeat (first|(with_reducible first|exact HB.out|apply oA|apply pN|apply o1|refine bS ?_ Bl.out)|exact HB.out))));have n2_:=Am (bB (g:=Bk) (o:=.cells #[.slice A0_0 l0_0.length c0_0,.int .i64 a0_1] 43 (0,0)) (bL Bb.out) hb);have n3_:=Am (bP (by repeat (first|(with_reducible first|exact HB.out|apply oA|apply pN|apply o1|refine bS ?_ Bl.out)|exact HB.out)) hb);clear Bs Bb HB;revert n0_ n1_ n2_ n3_;intro Bs Bq Bb HB;(try clear hb);(try clear hb2);(try clear hk);(try clear hi);(try clear ho0))|((with_reducible refine gate_dst (N:=4) rfl ?_);refine box_event ?hg (N:=4) ?hd (cs:=#[.slice none 0 0,.int .i64 0]) (t:=47) ?hr ?_;(case hd=>rfl);(case hg=>rfl);(case hr=>first|(go_simp;done)|(go_simp;rfl));intro Bi hg w19 hbox hb;have n0_:=Am (rB (rL Bs.out) hb);have n1_:=Am (rB (rL Bq.out) hb);have n2_:=Am (bB (g:=Bk) (o:=.cells #[.slice A0_0 l0_0.length c0_0,.int .i64 a0_1] 43 (0,0)) (bL Bb.out) hb);have n3_:=Am (bP (by repeat (first|(with_reducible first|exact HB.out|apply oA|apply pN|apply o1|refine bS ?_ Bl.out)|exact HB.out)) hb);have n4_:=Am (hbox);have n5_:=Am ((by rw [hg];exact (bZ (by repeat (first|(with_reducible first|exact HB.out|apply oA|apply pN|apply o1|refine bS ?_ Bl.out)|exact HB.out))):w.heap.size≤Bi));have n6_:=Am ((by rw [hg];exact (bZ (by repeat (first|(with_reducible first|exact HB.out|apply oA|apply pN|apply o1|refine bS ?_ Bl.out)|exact HB.out))):w.heap.size≤Bi));have n7_:=Am ((by rw [hg];exact Nat.ne_of_lt (blk_lt (g:=Bk) (o:=.cells #[.slice A0_0 l0_0.length c0_0,.int .i64 a0_1] 43 (0,0)) (bL Bb.out)):Bk≠Bi));have n8_:=Am ((by rw [hg];exact Nat.ne_of_gt (blk_lt (g:=Bk) (o:=.cells #[.slice A0_0 l0_0.length c0_0,.int .i64 a0_1] 43 (0,0)) (bL Bb.out)):Bi≠Bk));clear Bs Bq Bb HB;revert n0_ n1_ n2_ n3_ n4_ n5_ n6_ n7_ n8_;intro Bs Bq Bb HB Bc Jc Bo Bw BC;clear hb hbox hg;obtain ⟨Ao20,co20,eo20⟩:=Kd.R_slice Bq.out;subst eo20;have Jd:=BC.out;have Je:=Bw.out;have B3:w19.cell? ⟨Bi,0,none⟩=some (.slice none 0 0):=(bC Bc.out 0).trans rfl;have B4:w19.cell? ⟨Bi,1,none⟩=some (.int .i64 0):=(bC Bc.out 1).trans rfl;have B5:=bF Bc.out 0;have B6:=bF Bc.out 1;have B7:w19.cell? ⟨Bk,0,none⟩=some (.slice A0_0 l0_0.length c0_0):=(bC Bb.out 0).trans rfl;have B8:w19.cell? ⟨Bk,1,none⟩=some (.int .i64 a0_1):=(bC Bb.out 1).trans rfl;have B9:=bF Bb.out 0;have Da:=bF Bb.out 1)|((with_reducible refine gate_callee (f:=31) rfl ?_);refine goesL_ (some 30) rfl rfl Try.func31 (by kernel_rfl) rfl #[.agg #[.slice A0_0 l0_0.length c0_0,.int .i64 a0_1]] rfl (by (try simp only [lM,lC,lN]);first|done|rfl|(simp only [lD,lT];rfl)) ?_;(with_reducible refine (laws_toQueue.calls k _ _ l0_0 a0_1 t238 t241 _ ?side1 ?side2 A9.out).mono ?_);(case side1=>exact cB HR0_0.out (by repeat (first|(with_reducible first|exact HB.out|apply oA|apply pN|apply o1|refine bS ?_ Bl.out|refine bS ?_ Bo.out)|exact HB.out)));(case side2=>exact HC0_0.out);rintro e w24 ⟨v239,rfl,ho0,hb⟩;refine ⟨_,rfl,?_⟩;have n0_:=Am (Kd.R_elder' (by (with_reducible repeat (first|apply rA|apply rN|apply rD));exact (rM (rF (p:=⟨Bi,1,none⟩) (rF (p:=⟨Bi,0,none⟩) (rT Bs.out Bc.out (by decide)) (fun _ hk=>hk.2) (.slice Ao20 t231.length co20)) (fun _ hk=>hk.2) (.int .i64 t234)) (fun _ h_=>h_.1))) (Kd.R_base ho0) hb);have n1_:=Am (Kd.R_elder' (by (with_reducible repeat (first|apply rA|apply rN|apply rD));exact (rM (rF (p:=⟨Bi,1,none⟩) (rF (p:=⟨Bi,0,none⟩) (rT Bq.out Bc.out (by decide)) (fun _ hk=>hk.2) (.slice Ao20 t231.length co20)) (fun _ hk=>hk.2) (.int .i64 t234)) (fun _ h_=>h_.1))) (Kd.R_base ho0) hb);have n2_:=Am (Kd.R_lower (Kd.R_new' (Kd.R_new' ho0 (Kd.R_lt (by (with_reducible repeat (first|apply rA|apply rN|apply rD));exact (rM (rF (p:=⟨Bi,1,none⟩) (rF (p:=⟨Bi,0,none⟩) (rT Bs.out Bc.out (by decide)) (fun _ hk=>hk.2) (.slice Ao20 t231.length co20)) (fun _ hk=>hk.2) (.int .i64 t234)) (fun _ h_=>h_.1))))) (Kd.R_lt (by (with_reducible repeat (first|apply rA|apply rN|apply rD));exact (rM (rF (p:=⟨Bi,1,none⟩) (rF (p:=⟨Bi,0,none⟩) (rT Bq.out Bc.out (by decide)) (fun _ hk=>hk.2) (.slice Ao20 t231.length co20)) (fun _ hk=>hk.2) (.int .i64 t234)) (fun _ h_=>h_.1))))) (bZ (by repeat (first|(with_reducible first|exact HB.out|apply oA|apply pN|apply o1|refine bS ?_ Bl.out|refine bS ?_ Bo.out)|exact HB.out))));have n3_:=Am (bB (g:=Bk) (o:=.cells #[.slice A0_0 l0_0.length c0_0,.int .i64 a0_1] 43 (0,0)) (by (with_reducible repeat (first|refine bN ?_ _|refine bD ?_|refine bA ?_ _|refine blk_far ?_ Bw.out _));exact Bb.out) hb);have n4_:=Am (bB (g:=Bi) (o:=.cells #[.slice Ao20 t231.length co20,.int .i64 t234] 47 (0,0)) (by (with_reducible repeat (first|refine bN ?_ _|refine bD ?_|refine bA ?_ _));refine blk_put (cs:=#[.slice Ao20 t231.length co20,.int .i64 0]) ?_ 1 _ rfl;(with_reducible repeat (first|refine bN ?_ _|refine bD ?_|refine bA ?_ _));refine blk_put (cs:=#[.slice none 0 0,.int .i64 0]) ?_ 0 _ rfl;(with_reducible repeat (first|refine bN ?_ _|refine bD ?_|refine bA ?_ _));exact Bc.out) hb);have n5_:=Am (bP (by repeat (first|(with_reducible first|exact HB.out|apply oA|apply pN|apply o1|refine bS ?_ Bl.out|refine bS ?_ Bo.out)|exact HB.out)) hb);clear Bs Bq Bb Bc HB;revert n0_ n1_ n2_ n3_ n4_ n5_;intro Bs Bq Bu Bb Bc HB;(try clear hb);(try clear hb2);(try clear hk);(try clear hi);(try clear ho0))|((with_reducible refine gate_dst (N:=7) rfl ?_);refine box_event ?hg (N:=7) ?hd (cs:=#[.slice none 0 0,.int .i64 0]) (t:=47) ?hr ?_;(case hd=>rfl);(case hg=>rfl);(case hr=>first|(go_simp;done)|(go_simp;rfl));intro Bm hg w25 hbox hb;have n0_:=Am (rB (rL Bs.out) hb);have n1_:=Am (rB (rL Bq.out) hb);have n2_:=Am (rB (rL Bu.out) hb);have n3_:=Am (bB (g:=Bk) (o:=.cells #[.slice A0_0 l0_0.length c0_0,.int .i64 a0_1] 43 (0,0)) (bL Bb.out) hb);have n4_:=Am (bB (g:=Bi) (o:=.cells #[.slice Ao20 t231.length co20,.int .i64 t234] 47 (0,0)) (bL Bc.out) hb);have n5_:=Am (bP (by repeat (first|(with_reducible first|exact HB.out|apply oA|apply pN|apply o1|refine bS ?_ Bl.out|refine bS ?_ Bo.out)|exact HB.out)) hb);have n6_:=Am (hbox);have n7_:=Am ((by rw [hg];exact (bZ (by repeat (first|(with_reducible first|exact HB.out|apply oA|apply pN|apply o1|refine bS ?_ Bl.out|refine bS ?_ Bo.out)|exact HB.out))):w.heap.size≤Bm));have n8_:=Am ((by rw [hg];exact (bZ (by repeat (first|(with_reducible first|exact HB.out|apply oA|apply pN|apply o1|refine bS ?_ Bl.out|refine bS ?_ Bo.out)|exact HB.out))):w.heap.size≤Bm));have n9_:=Am ((by rw [hg];exact Nat.ne_of_lt (blk_lt (g:=Bk) (o:=.cells #[.slice A0_0 l0_0.length c0_0,.int .i64 a0_1] 43 (0,0)) (bL Bb.out)):Bk≠Bm));have n10_:=Am ((by rw [hg];exact Nat.ne_of_gt (blk_lt (g:=Bk) (o:=.cells #[.slice A0_0 l0_0.length c0_0,.int .i64 a0_1] 43 (0,0)) (bL Bb.out)):Bm≠Bk));have n11_:=Am ((by rw [hg];exact Nat.ne_of_lt (blk_lt (g:=Bi) (o:=.cells #[.slice Ao20 t231.length co20,.int .i64 t234] 47 (0,0)) (bL Bc.out)):Bi≠Bm));have n12_:=Am ((by rw [hg];exact Nat.ne_of_gt (blk_lt (g:=Bi) (o:=.cells #[.slice Ao20 t231.length co20,.int .i64 t234] 47 (0,0)) (bL Bc.out)):Bm≠Bi));clear Bs Bq Bu Bb Bc HB;revert n0_ n1_ n2_ n3_ n4_ n5_ n6_ n7_ n8_ n9_ n10_ n11_ n12_;intro Bs Bq Bu Bb Bc HB Bg Jf Bp BN BT Bx BD;clear hb hbox hg;obtain ⟨Ao26,co26,eo26⟩:=Kd.R_slice Bu.out;subst eo26;have Jg:=BT.out;have Jh:=BN.out;have Ji:=BD.out;have Jj:=Bx.out;have Db:w25.cell? ⟨Bm,0,none⟩=some (.slice none 0 0):=(bC Bg.out 0).trans rfl;have Dc:w25.cell? ⟨Bm,1,none⟩=some (.int .i64 0):=(bC Bg.out 1).trans rfl;have Dd:=bF Bg.out 0;have De:=bF Bg.out 1)|((with_reducible refine gate_callee (f:=41) rfl ?_);refine goesL_ (some 33) rfl rfl Try.func41 (by kernel_rfl) rfl #[.agg #[.slice Ao26 t238.length co26,.int .i64 t241]] rfl (by (try simp only [lM,lC,lN]);first|done|rfl|(simp only [lD,lT];rfl)) ?_;(with_reducible refine (impl_QueueTick.calls k _ _ t238 t241 t243 t246 t247 t248 _ ?side1 ?side2 A10.out).mono ?_);(case side1=>refine (Kd.R_reads' (e:=86) (base:=w.heap.size) (ok:=fun k_=>((True∧some k_≠(.slice Ao17 t227.length co17:Value).ownBlock)∧some k_≠(.slice Ao20 t231.length co20:Value).ownBlock)) (n:=t238.length) (c:=co26) ?_).2.2;exact (by (with_reducible repeat (first|apply rA|apply rN|apply rD));exact (rM (rF (p:=⟨Bm,1,none⟩) (rF (p:=⟨Bm,0,none⟩) (rT Bu.out Bg.out (by decide)) (fun _ hk=>hk.2) (.slice Ao26 t238.length co26)) (fun _ hk=>hk.2) (.int .i64 t241)) (fun _ h_=>h_.1))));(case side2=>exact (Kd.R_reads' Bu.out).2.1);rintro e w30 ⟨v244,rfl,ho0,hb⟩;refine ⟨_,rfl,?_⟩;have n0_:=Am (Kd.R_elder' (by (with_reducible repeat (first|apply rA|apply rN|apply rD));exact (rM (rF (p:=⟨Bm,1,none⟩) (rF (p:=⟨Bm,0,none⟩) (rT Bs.out Bg.out (by decide)) (fun _ hk=>hk.2) (.slice Ao26 t238.length co26)) (fun _ hk=>hk.2) (.int .i64 t241)) (fun _ h_=>h_.1))) (Kd.R_base ho0) hb);have n1_:=Am (Kd.R_elder' (by (with_reducible repeat (first|apply rA|apply rN|apply rD));exact (rM (rF (p:=⟨Bm,1,none⟩) (rF (p:=⟨Bm,0,none⟩) (rT Bq.out Bg.out (by decide)) (fun _ hk=>hk.2) (.slice Ao26 t238.length co26)) (fun _ hk=>hk.2) (.int .i64 t241)) (fun _ h_=>h_.1))) (Kd.R_base ho0) hb);have n2_:=Am (Kd.R_elder' (by (with_reducible repeat (first|apply rA|apply rN|apply rD));exact (rM (rF (p:=⟨Bm,1,none⟩) (rF (p:=⟨Bm,0,none⟩) (rT Bu.out Bg.out (by decide)) (fun _ hk=>hk.2) (.slice Ao26 t238.length co26)) (fun _ hk=>hk.2) (.int .i64 t241)) (fun _ h_=>h_.1))) (Kd.R_base ho0) hb);have n3_:=Am (Kd.R_lower (Kd.R_new' (Kd.R_new' (Kd.R_new' ho0 (Kd.R_lt (by (with_reducible repeat (first|apply rA|apply rN|apply rD));exact (rM (rF (p:=⟨Bm,1,none⟩) (rF (p:=⟨Bm,0,none⟩) (rT Bs.out Bg.out (by decide)) (fun _ hk=>hk.2) (.slice Ao26 t238.length co26)) (fun _ hk=>hk.2) (.int .i64 t241)) (fun _ h_=>h_.1))))) (Kd.R_lt (by (with_reducible repeat (first|apply rA|apply rN|apply rD));exact (rM (rF (p:=⟨Bm,1,none⟩) (rF (p:=⟨Bm,0,none⟩) (rT Bq.out Bg.out (by decide)) (fun _ hk=>hk.2) (.slice Ao26 t238.length co26)) (fun _ hk=>hk.2) (.int .i64 t241)) (fun _ h_=>h_.1))))) (Kd.R_lt (by (with_reducible repeat (first|apply rA|apply rN|apply rD));exact (rM (rF (p:=⟨Bm,1,none⟩) (rF (p:=⟨Bm,0,none⟩) (rT Bu.out Bg.out (by decide)) (fun _ hk=>hk.2) (.slice Ao26 t238.length co26)) (fun _ hk=>hk.2) (.int .i64 t241)) (fun _ h_=>h_.1))))) (bZ (by repeat (first|(with_reducible first|exact HB.out|apply oA|apply pN|apply o1|refine bS ?_ Bl.out|refine bS ?_ Bo.out|refine bS ?_ Bp.out)|exact HB.out))));have n4_:=Am (bB (g:=Bk) (o:=.cells #[.slice A0_0 l0_0.length c0_0,.int .i64 a0_1] 43 (0,0)) (by (with_reducible repeat (first|refine bN ?_ _|refine bD ?_|refine bA ?_ _|refine blk_far ?_ BN.out _));exact Bb.out) hb);have n5_:=Am (bB (g:=Bi) (o:=.cells #[.slice Ao20 t231.length co20,.int .i64 t234] 47 (0,0)) (by (with_reducible repeat (first|refine bN ?_ _|refine bD ?_|refine bA ?_ _|refine blk_far ?_ Bx.out _));exact Bc.out) hb);have n6_:=Am (bB (g:=Bm) (o:=.cells #[.slice Ao26 t238.length co26,.int .i64 t241] 47 (0,0)) (by (with_reducible repeat (first|refine bN ?_ _|refine bD ?_|refine bA ?_ _));refine blk_put (cs:=#[.slice Ao26 t238.length co26,.int .i64 0]) ?_ 1 _ rfl;(with_reducible repeat (first|refine bN ?_ _|refine bD ?_|refine bA ?_ _));refine blk_put (cs:=#[.slice none 0 0,.int .i64 0]) ?_ 0 _ rfl;(with_reducible repeat (first|refine bN ?_ _|refine bD ?_|refine bA ?_ _));exact Bg.out) hb);have n7_:=Am (bP (by repeat (first|(with_reducible first|exact HB.out|apply oA|apply pN|apply o1|refine bS ?_ Bl.out|refine bS ?_ Bo.out|refine bS ?_ Bp.out)|exact HB.out)) hb);clear Bs Bq Bu Bb Bc Bg HB;revert n0_ n1_ n2_ n3_ n4_ n5_ n6_ n7_;intro Bs Bq Bu BA Bb Bc Bg HB;(try clear hb);(try clear hb2);(try clear hk);(try clear hi);(try clear ho0))|((with_reducible refine gate_dst (N:=8) rfl ?_);refine box_event ?hg (N:=8) ?hd (cs:=#[.slice none 0 0,.int .i64 0]) (t:=47) ?hr ?_;(case hd=>rfl);(case hg=>rfl);(case hr=>first|(go_simp;done)|(go_simp;rfl));intro Bh hg w31 hbox hb;have n0_:=Am (rB (rL Bs.out) hb);have n1_:=Am (rB (rL Bq.out) hb);have n2_:=Am (rB (rL Bu.out) hb);have n3_:=Am (rB (rL BA.out) hb);have n4_:=Am (bB (g:=Bk) (o:=.cells #[.slice A0_0 l0_0.length c0_0,.int .i64 a0_1] 43 (0,0)) (bL Bb.out) hb);have n5_:=Am (bB (g:=Bi) (o:=.cells #[.slice Ao20 t231.length co20,.int .i64 t234] 47 (0,0)) (bL Bc.out) hb);have n6_:=Am (bB (g:=Bm) (o:=.cells #[.slice Ao26 t238.length co26,.int .i64 t241] 47 (0,0)) (bL Bg.out) hb);have n7_:=Am (bP (by repeat (first|(with_reducible first|exact HB.out|apply oA|apply pN|apply o1|refine bS ?_ Bl.out|refine bS ?_ Bo.out|refine bS ?_ Bp.out)|exact HB.out)) hb);have n8_:=Am (hbox);have n9_:=Am ((by rw [hg];exact (bZ (by repeat (first|(with_reducible first|exact HB.out|apply oA|apply pN|apply o1|refine bS ?_ Bl.out|refine bS ?_ Bo.out|refine bS ?_ Bp.out)|exact HB.out))):w.heap.size≤Bh));have n10_:=Am ((by rw [hg];exact (bZ (by repeat (first|(with_reducible first|exact HB.out|apply oA|apply pN|apply o1|refine bS ?_ Bl.out|refine bS ?_ Bo.out|refine bS ?_ Bp.out)|exact HB.out))):w.heap.size≤Bh));have n11_:=Am ((by rw [hg];exact Nat.ne_of_lt (blk_lt (g:=Bk) (o:=.cells #[.slice A0_0 l0_0.length c0_0,.int .i64 a0_1] 43 (0,0)) (bL Bb.out)):Bk≠Bh));have n12_:=Am ((by rw [hg];exact Nat.ne_of_gt (blk_lt (g:=Bk) (o:=.cells #[.slice A0_0 l0_0.length c0_0,.int .i64 a0_1] 43 (0,0)) (bL Bb.out)):Bh≠Bk));have n13_:=Am ((by rw [hg];exact Nat.ne_of_lt (blk_lt (g:=Bi) (o:=.cells #[.slice Ao20 t231.length co20,.int .i64 t234] 47 (0,0)) (bL Bc.out)):Bi≠Bh));have n14_:=Am ((by rw [hg];exact Nat.ne_of_gt (blk_lt (g:=Bi) (o:=.cells #[.slice Ao20 t231.length co20,.int .i64 t234] 47 (0,0)) (bL Bc.out)):Bh≠Bi));have n15_:=Am ((by rw [hg];exact Nat.ne_of_lt (blk_lt (g:=Bm) (o:=.cells #[.slice Ao26 t238.length co26,.int .i64 t241] 47 (0,0)) (bL Bg.out)):Bm≠Bh));have n16_:=Am ((by rw [hg];exact Nat.ne_of_gt (blk_lt (g:=Bm) (o:=.cells #[.slice Ao26 t238.length co26,.int .i64 t241] 47 (0,0)) (bL Bg.out)):Bh≠Bm));clear Bs Bq Bu BA Bb Bc Bg HB;revert n0_ n1_ n2_ n3_ n4_ n5_ n6_ n7_ n8_ n9_ n10_ n11_ n12_ n13_ n14_ n15_ n16_;intro Bs Bq Bu BA Bb Bc Bg HB Be Jk Br By BH Bt Bz Bv BF;clear hb hbox hg;obtain ⟨Ao32,co32,eo32⟩:=Kd.R_slice BA.out;subst eo32;have Jl:=BH.out;have Jm:=By.out;have Jn:=Bz.out;have Jo:=Bt.out;have Jp:=BF.out;have Jq:=Bv.out;have Df:w31.cell? ⟨Bh,0,none⟩=some (.slice none 0 0):=(bC Be.out 0).trans rfl;have Dg:w31.cell? ⟨Bh,1,none⟩=some (.int .i64 0):=(bC Be.out 1).trans rfl;have Dh:=bF Be.out 0;have Di:=bF Be.out 1))
 (try simp only [Act.put,lA,lZ,lS])
 go_cut [50] (fun v50 wc=>∃ (kq:Nat) (x50_10:Bool),v50=.bool x50_10∧Aside0 (laws_FnExactQueueTick.j0 kq t235 t236 t247 t248 x50_10 l0_0 a0_1 t231 t234 t238 t241 t243 t246=some r)∧Aside0 (kq≤k)∧Aside0 (Kd.R k86 86 wc w.heap.size (fun k_=>some k_≠((.slice Ao26 t238.length co26):Value).ownBlock∧some k_≠((.slice Ao32 t243.length co32):Value).ownBlock) (.slice Ao20 t231.length co20) t231)∧Aside0 (Kd.R k86 86 wc w.heap.size (fun k_=>some k_≠((.slice Ao20 t231.length co20):Value).ownBlock∧some k_≠((.slice Ao32 t243.length co32):Value).ownBlock) (.slice Ao26 t238.length co26) t238)∧Aside0 (Kd.R k86 86 wc w.heap.size (fun k_=>some k_≠((.slice Ao20 t231.length co20):Value).ownBlock∧some k_≠((.slice Ao26 t238.length co26):Value).ownBlock) (.slice Ao32 t243.length co32) t243)∧Aside0 (wc.heap[Bk]?=some (.cells #[(.slice A0_0 l0_0.length c0_0),.int .i64 a0_1] 43 (0,0)))∧Aside0 (wc.heap[Bi]?=some (.cells #[(.slice Ao20 t231.length co20),.int .i64 t234] 47 (0,0)))∧Aside0 (wc.heap[Bm]?=some (.cells #[(.slice Ao26 t238.length co26),.int .i64 t241] 47 (0,0)))∧Aside0 (wc.heap[Bh]?=some (.cells #[(.slice Ao32 t243.length co32),.int .i64 t246] 47 (0,0)))∧Aside0 (Below w.heap.size w wc))
 case first =>
  have H:=HC11.out
  clear HC11
  replace H:=oC H
  obtain ⟨t250,A370,H⟩:=H
  replace H:(if t250=true then (if t247=t235 then (laws_FnExactQueueTick.j0 k t235 t236 t247 t248 (t248 != t236) l0_0 a0_1 t231 t234 t238 t241 t243 t246) else (laws_FnExactQueueTick.j0 k t235 t236 t247 t248 true l0_0 a0_1 t231 t234 t238 t241 t243 t246)) else (laws_FnExactQueueTick.j0 k t235 t236 t247 t248 true l0_0 a0_1 t231 t234 t238 t241 t243 t246))=some r:=H
  have A37:=Am A370
  clear A370
  by_cases c38:t250=true
  rotate_left
  ·replace c38:=Bool.eq_false_iff.mpr c38
   subst c38
   have H1:(laws_FnExactQueueTick.j0 k t235 t236 t247 t248 true l0_0 a0_1 t231 t234 t238 t241 t243 t246)=some r:=by rw [if_neg (show ¬ (false=true) by decide)] at H;exact H
   clear H
   have H:=H1
   clear H1
   have H':=Am H
   clear H
   have JL:=BH.out
   have JM:=By.out
   have JN:=Bz.out
   have JO:=Bt.out
   have JP:=BF.out
   have JQ:=Bv.out
   have Dz:w31.cell? ⟨Bh,0,none⟩=some (.slice none 0 0):=(bC Be.out 0).trans rfl
   have DA:w31.cell? ⟨Bh,1,none⟩=some (.int .i64 0):=(bC Be.out 1).trans rfl
   have DB:=bF Be.out 0
   have DC:=bF Be.out 1
   have JR:=BC.out
   have JS:=Bw.out
   have JT:=Bx.out
   have JU:=BD.out
   have DD:w31.cell? ⟨Bi,0,none⟩=some (.slice Ao20 t231.length co20):=(bC Bc.out 0).trans rfl
   have DE:w31.cell? ⟨Bi,1,none⟩=some (.int .i64 t234):=(bC Bc.out 1).trans rfl
   have DF:=bF Bc.out 0
   have DG:=bF Bc.out 1
   go_wp2_with (first|((with_reducible refine gate_callee (f:=33) rfl ?_);refine goesL_ (some 39) rfl rfl Try.func33 (by kernel_rfl) rfl #[.agg #[.slice Ao32 t243.length co32,.int .i64 t246],.agg #[.slice Ao20 t231.length co20,.int .i64 t234]] rfl (by (try simp only [lM,lC,lN]);first|done|rfl|(simp only [lD,lT];rfl)) ?_;(with_reducible refine (laws_eqQueue.calls k _ _ t243 t246 _ _ t231 t234 false _ ?side1 ?side2 ?side3 ?side4 A37.out).mono ?_);(case side1=>refine (Kd.R_reads' (e:=86) (base:=w.heap.size) (ok:=fun k_=>(((True∧some k_≠(.slice Ao17 t227.length co17:Value).ownBlock)∧some k_≠(.slice Ao20 t231.length co20:Value).ownBlock)∧some k_≠(.slice Ao26 t238.length co26:Value).ownBlock)) (n:=t243.length) (c:=co32) ?_).2.2;exact (by (with_reducible repeat (first|apply rA|apply rN|apply rD));exact (rM (rF (p:=⟨Bh,1,none⟩) (rF (p:=⟨Bh,0,none⟩) (rT BA.out Be.out (by decide)) (fun _ hk=>hk.2) (.slice Ao32 t243.length co32)) (fun _ hk=>hk.2) (.int .i64 t246)) (fun _ h_=>h_.1))));(case side2=>exact (Kd.R_reads' BA.out).2.1);(case side3=>refine (Kd.R_reads' (e:=86) (base:=w.heap.size) (ok:=fun k_=>(((True∧some k_≠(.slice Ao17 t227.length co17:Value).ownBlock)∧some k_≠(.slice Ao26 t238.length co26:Value).ownBlock)∧some k_≠(.slice Ao32 t243.length co32:Value).ownBlock)) (n:=t231.length) (c:=co20) ?_).2.2;exact (by (with_reducible repeat (first|apply rA|apply rN|apply rD));exact (rM (rF (p:=⟨Bh,1,none⟩) (rF (p:=⟨Bh,0,none⟩) (rT Bq.out Be.out (by decide)) (fun _ hk=>hk.2) (.slice Ao32 t243.length co32)) (fun _ hk=>hk.2) (.int .i64 t246)) (fun _ h_=>h_.1))));(case side4=>exact (Kd.R_reads' Bq.out).2.1);rintro e w63 ⟨rfl,hb⟩;refine ⟨_,rfl,?_⟩;have n0_:=Am (rB (by (with_reducible repeat (first|apply rA|apply rN|apply rD));exact (rM (rF (p:=⟨Bh,1,none⟩) (rF (p:=⟨Bh,0,none⟩) (rT Bs.out Be.out (by decide)) (fun _ hk=>hk.2) (.slice Ao32 t243.length co32)) (fun _ hk=>hk.2) (.int .i64 t246)) (fun _ h_=>h_.1))) hb);have n1_:=Am (rB (by (with_reducible repeat (first|apply rA|apply rN|apply rD));exact (rM (rF (p:=⟨Bh,1,none⟩) (rF (p:=⟨Bh,0,none⟩) (rT Bq.out Be.out (by decide)) (fun _ hk=>hk.2) (.slice Ao32 t243.length co32)) (fun _ hk=>hk.2) (.int .i64 t246)) (fun _ h_=>h_.1))) hb);have n2_:=Am (rB (by (with_reducible repeat (first|apply rA|apply rN|apply rD));exact (rM (rF (p:=⟨Bh,1,none⟩) (rF (p:=⟨Bh,0,none⟩) (rT Bu.out Be.out (by decide)) (fun _ hk=>hk.2) (.slice Ao32 t243.length co32)) (fun _ hk=>hk.2) (.int .i64 t246)) (fun _ h_=>h_.1))) hb);have n3_:=Am (rB (by (with_reducible repeat (first|apply rA|apply rN|apply rD));exact (rM (rF (p:=⟨Bh,1,none⟩) (rF (p:=⟨Bh,0,none⟩) (rT BA.out Be.out (by decide)) (fun _ hk=>hk.2) (.slice Ao32 t243.length co32)) (fun _ hk=>hk.2) (.int .i64 t246)) (fun _ h_=>h_.1))) hb);have n4_:=Am (bB (g:=Bk) (o:=.cells #[.slice A0_0 l0_0.length c0_0,.int .i64 a0_1] 43 (0,0)) (by (with_reducible repeat (first|refine bN ?_ _|refine bD ?_|refine bA ?_ _|refine blk_far ?_ By.out _));exact Bb.out) hb);have n5_:=Am (bB (g:=Bi) (o:=.cells #[.slice Ao20 t231.length co20,.int .i64 t234] 47 (0,0)) (by (with_reducible repeat (first|refine bN ?_ _|refine bD ?_|refine bA ?_ _|refine blk_far ?_ Bt.out _));exact Bc.out) hb);have n6_:=Am (bB (g:=Bm) (o:=.cells #[.slice Ao26 t238.length co26,.int .i64 t241] 47 (0,0)) (by (with_reducible repeat (first|refine bN ?_ _|refine bD ?_|refine bA ?_ _|refine blk_far ?_ Bv.out _));exact Bg.out) hb);have n7_:=Am (bB (g:=Bh) (o:=.cells #[.slice Ao32 t243.length co32,.int .i64 t246] 47 (0,0)) (by (with_reducible repeat (first|refine bN ?_ _|refine bD ?_|refine bA ?_ _));refine blk_put (cs:=#[.slice Ao32 t243.length co32,.int .i64 0]) ?_ 1 _ rfl;(with_reducible repeat (first|refine bN ?_ _|refine bD ?_|refine bA ?_ _));refine blk_put (cs:=#[.slice none 0 0,.int .i64 0]) ?_ 0 _ rfl;(with_reducible repeat (first|refine bN ?_ _|refine bD ?_|refine bA ?_ _));exact Be.out) hb);have n8_:=Am (bP (by repeat (first|(with_reducible first|exact HB.out|apply oA|apply pN|apply o1|refine bS ?_ Bl.out|refine bS ?_ Bo.out|refine bS ?_ Bp.out|refine bS ?_ Br.out)|exact HB.out)) hb);clear Bs Bq Bu BA Bb Bc Bg Be HB;revert n0_ n1_ n2_ n3_ n4_ n5_ n6_ n7_ n8_;intro Bs Bq Bu BA Bb Bc Bg Be HB;(try clear hb);(try clear hb2);(try clear hk);(try clear hi)))
   go_meet
   case rel=>exact ⟨_,(true),(by first|rfl|(simp;done)|(simp [*];done)),H',⟨by first|omega|exact Nat.le_refl _⟩,⟨by (with_reducible repeat (first|apply rA|apply rN|apply rD));exact rM Bq.out (fun _ hk=>⟨hk.1.2,hk.2⟩)⟩,⟨by (with_reducible repeat (first|apply rA|apply rN|apply rD));exact rM Bu.out (fun _ hk=>⟨hk.1.2,hk.2⟩)⟩,⟨by (with_reducible repeat (first|apply rA|apply rN|apply rD));exact rM BA.out (fun _ hk=>⟨hk.1.2,hk.2⟩)⟩,⟨by (with_reducible repeat (first|refine bN ?_ _|refine bD ?_|refine bA ?_ _));exact Bb.out⟩,⟨by (with_reducible repeat (first|refine bN ?_ _|refine bD ?_|refine bA ?_ _));exact Bc.out⟩,⟨by (with_reducible repeat (first|refine bN ?_ _|refine bD ?_|refine bA ?_ _));exact Bg.out⟩,⟨by (with_reducible repeat (first|refine bN ?_ _|refine bD ?_|refine bA ?_ _));exact Be.out⟩,⟨by repeat (first|(with_reducible first|exact HB.out|apply oA|apply pN|apply o1|refine bS ?_ Bl.out|refine bS ?_ Bo.out|refine bS ?_ Bp.out|refine bS ?_ Br.out)|exact HB.out)⟩⟩
  subst c38
  have H1:(if t247=t235 then (laws_FnExactQueueTick.j0 k t235 t236 t247 t248 (t248 != t236) l0_0 a0_1 t231 t234 t238 t241 t243 t246) else (laws_FnExactQueueTick.j0 k t235 t236 t247 t248 true l0_0 a0_1 t231 t234 t238 t241 t243 t246))=some r:=by rw [if_pos rfl] at H;exact H
  clear H
  have H:=H1
  clear H1
  by_cases c39:t247=t235
  rotate_left
  ·rw [if_neg c39] at H
   have c39b0:(t247 == t235)=false:=beq_eq_false_iff_ne.mpr c39
   have c39b1:(t247 != t235)=true:=bne_iff_ne.mpr c39
   (first|rw [c39b0]|(simp only [i64_w,i32_w];rw [c39b0])|skip)
   have H':=Am H
   clear H
   have JB:=BH.out
   have JC:=By.out
   have JD:=Bz.out
   have JE:=Bt.out
   have JF:=BF.out
   have JG:=Bv.out
   have Dr:w31.cell? ⟨Bh,0,none⟩=some (.slice none 0 0):=(bC Be.out 0).trans rfl
   have Ds:w31.cell? ⟨Bh,1,none⟩=some (.int .i64 0):=(bC Be.out 1).trans rfl
   have Dt:=bF Be.out 0
   have Du:=bF Be.out 1
   have JH:=BC.out
   have JI:=Bw.out
   have JJ:=Bx.out
   have JK:=BD.out
   have Dv:w31.cell? ⟨Bi,0,none⟩=some (.slice Ao20 t231.length co20):=(bC Bc.out 0).trans rfl
   have Dw:w31.cell? ⟨Bi,1,none⟩=some (.int .i64 t234):=(bC Bc.out 1).trans rfl
   have Dx:=bF Bc.out 0
   have Dy:=bF Bc.out 1
   go_wp2_with (first|((with_reducible refine gate_callee (f:=33) rfl ?_);refine goesL_ (some 39) rfl rfl Try.func33 (by kernel_rfl) rfl #[.agg #[.slice Ao32 t243.length co32,.int .i64 t246],.agg #[.slice Ao20 t231.length co20,.int .i64 t234]] rfl (by (try simp only [lM,lC,lN]);first|done|rfl|(simp only [lD,lT];rfl)) ?_;(with_reducible refine (laws_eqQueue.calls k _ _ t243 t246 _ _ t231 t234 true _ ?side1 ?side2 ?side3 ?side4 A37.out).mono ?_);(case side1=>refine (Kd.R_reads' (e:=86) (base:=w.heap.size) (ok:=fun k_=>(((True∧some k_≠(.slice Ao17 t227.length co17:Value).ownBlock)∧some k_≠(.slice Ao20 t231.length co20:Value).ownBlock)∧some k_≠(.slice Ao26 t238.length co26:Value).ownBlock)) (n:=t243.length) (c:=co32) ?_).2.2;exact (by (with_reducible repeat (first|apply rA|apply rN|apply rD));exact (rM (rF (p:=⟨Bh,1,none⟩) (rF (p:=⟨Bh,0,none⟩) (rT BA.out Be.out (by decide)) (fun _ hk=>hk.2) (.slice Ao32 t243.length co32)) (fun _ hk=>hk.2) (.int .i64 t246)) (fun _ h_=>h_.1))));(case side2=>exact (Kd.R_reads' BA.out).2.1);(case side3=>refine (Kd.R_reads' (e:=86) (base:=w.heap.size) (ok:=fun k_=>(((True∧some k_≠(.slice Ao17 t227.length co17:Value).ownBlock)∧some k_≠(.slice Ao26 t238.length co26:Value).ownBlock)∧some k_≠(.slice Ao32 t243.length co32:Value).ownBlock)) (n:=t231.length) (c:=co20) ?_).2.2;exact (by (with_reducible repeat (first|apply rA|apply rN|apply rD));exact (rM (rF (p:=⟨Bh,1,none⟩) (rF (p:=⟨Bh,0,none⟩) (rT Bq.out Be.out (by decide)) (fun _ hk=>hk.2) (.slice Ao32 t243.length co32)) (fun _ hk=>hk.2) (.int .i64 t246)) (fun _ h_=>h_.1))));(case side4=>exact (Kd.R_reads' Bq.out).2.1);rintro e w55 ⟨rfl,hb⟩;refine ⟨_,rfl,?_⟩;have n0_:=Am (rB (by (with_reducible repeat (first|apply rA|apply rN|apply rD));exact (rM (rF (p:=⟨Bh,1,none⟩) (rF (p:=⟨Bh,0,none⟩) (rT Bs.out Be.out (by decide)) (fun _ hk=>hk.2) (.slice Ao32 t243.length co32)) (fun _ hk=>hk.2) (.int .i64 t246)) (fun _ h_=>h_.1))) hb);have n1_:=Am (rB (by (with_reducible repeat (first|apply rA|apply rN|apply rD));exact (rM (rF (p:=⟨Bh,1,none⟩) (rF (p:=⟨Bh,0,none⟩) (rT Bq.out Be.out (by decide)) (fun _ hk=>hk.2) (.slice Ao32 t243.length co32)) (fun _ hk=>hk.2) (.int .i64 t246)) (fun _ h_=>h_.1))) hb);have n2_:=Am (rB (by (with_reducible repeat (first|apply rA|apply rN|apply rD));exact (rM (rF (p:=⟨Bh,1,none⟩) (rF (p:=⟨Bh,0,none⟩) (rT Bu.out Be.out (by decide)) (fun _ hk=>hk.2) (.slice Ao32 t243.length co32)) (fun _ hk=>hk.2) (.int .i64 t246)) (fun _ h_=>h_.1))) hb);have n3_:=Am (rB (by (with_reducible repeat (first|apply rA|apply rN|apply rD));exact (rM (rF (p:=⟨Bh,1,none⟩) (rF (p:=⟨Bh,0,none⟩) (rT BA.out Be.out (by decide)) (fun _ hk=>hk.2) (.slice Ao32 t243.length co32)) (fun _ hk=>hk.2) (.int .i64 t246)) (fun _ h_=>h_.1))) hb);have n4_:=Am (bB (g:=Bk) (o:=.cells #[.slice A0_0 l0_0.length c0_0,.int .i64 a0_1] 43 (0,0)) (by (with_reducible repeat (first|refine bN ?_ _|refine bD ?_|refine bA ?_ _|refine blk_far ?_ By.out _));exact Bb.out) hb);have n5_:=Am (bB (g:=Bi) (o:=.cells #[.slice Ao20 t231.length co20,.int .i64 t234] 47 (0,0)) (by (with_reducible repeat (first|refine bN ?_ _|refine bD ?_|refine bA ?_ _|refine blk_far ?_ Bt.out _));exact Bc.out) hb);have n6_:=Am (bB (g:=Bm) (o:=.cells #[.slice Ao26 t238.length co26,.int .i64 t241] 47 (0,0)) (by (with_reducible repeat (first|refine bN ?_ _|refine bD ?_|refine bA ?_ _|refine blk_far ?_ Bv.out _));exact Bg.out) hb);have n7_:=Am (bB (g:=Bh) (o:=.cells #[.slice Ao32 t243.length co32,.int .i64 t246] 47 (0,0)) (by (with_reducible repeat (first|refine bN ?_ _|refine bD ?_|refine bA ?_ _));refine blk_put (cs:=#[.slice Ao32 t243.length co32,.int .i64 0]) ?_ 1 _ rfl;(with_reducible repeat (first|refine bN ?_ _|refine bD ?_|refine bA ?_ _));refine blk_put (cs:=#[.slice none 0 0,.int .i64 0]) ?_ 0 _ rfl;(with_reducible repeat (first|refine bN ?_ _|refine bD ?_|refine bA ?_ _));exact Be.out) hb);have n8_:=Am (bP (by repeat (first|(with_reducible first|exact HB.out|apply oA|apply pN|apply o1|refine bS ?_ Bl.out|refine bS ?_ Bo.out|refine bS ?_ Bp.out|refine bS ?_ Br.out)|exact HB.out)) hb);clear Bs Bq Bu BA Bb Bc Bg Be HB;revert n0_ n1_ n2_ n3_ n4_ n5_ n6_ n7_ n8_;intro Bs Bq Bu BA Bb Bc Bg Be HB;(try clear hb);(try clear hb2);(try clear hk);(try clear hi)))
   go_meet
   case rel=>exact ⟨_,(true),(by first|rfl|(simp;done)|(simp [*];done)),H',⟨by first|omega|exact Nat.le_refl _⟩,⟨by (with_reducible repeat (first|apply rA|apply rN|apply rD));exact rM Bq.out (fun _ hk=>⟨hk.1.2,hk.2⟩)⟩,⟨by (with_reducible repeat (first|apply rA|apply rN|apply rD));exact rM Bu.out (fun _ hk=>⟨hk.1.2,hk.2⟩)⟩,⟨by (with_reducible repeat (first|apply rA|apply rN|apply rD));exact rM BA.out (fun _ hk=>⟨hk.1.2,hk.2⟩)⟩,⟨by (with_reducible repeat (first|refine bN ?_ _|refine bD ?_|refine bA ?_ _));exact Bb.out⟩,⟨by (with_reducible repeat (first|refine bN ?_ _|refine bD ?_|refine bA ?_ _));exact Bc.out⟩,⟨by (with_reducible repeat (first|refine bN ?_ _|refine bD ?_|refine bA ?_ _));exact Bg.out⟩,⟨by (with_reducible repeat (first|refine bN ?_ _|refine bD ?_|refine bA ?_ _));exact Be.out⟩,⟨by repeat (first|(with_reducible first|exact HB.out|apply oA|apply pN|apply o1|refine bS ?_ Bl.out|refine bS ?_ Bo.out|refine bS ?_ Bp.out|refine bS ?_ Br.out)|exact HB.out)⟩⟩
  rw [if_pos c39] at H
  have c39b0:(t247 == t235)=true:=beq_iff_eq.mpr c39
  have c39b1:(t247 != t235)=false:=bne_eq_false_iff_eq.mpr c39
  clear c39
  (first|rw [c39b0]|(simp only [i64_w,i32_w];rw [c39b0])|skip)
  have H':=Am H
  clear H
  have Jr:=BH.out
  have Js:=By.out
  have Jt:=Bz.out
  have Ju:=Bt.out
  have Jv:=BF.out
  have Jw:=Bv.out
  have Dj:w31.cell? ⟨Bh,0,none⟩=some (.slice none 0 0):=(bC Be.out 0).trans rfl
  have Dk:w31.cell? ⟨Bh,1,none⟩=some (.int .i64 0):=(bC Be.out 1).trans rfl
  have Dl:=bF Be.out 0
  have Dm:=bF Be.out 1
  have Jx:=BC.out
  have Jy:=Bw.out
  have Jz:=Bx.out
  have JA:=BD.out
  have Dn:w31.cell? ⟨Bi,0,none⟩=some (.slice Ao20 t231.length co20):=(bC Bc.out 0).trans rfl
  have Do:w31.cell? ⟨Bi,1,none⟩=some (.int .i64 t234):=(bC Bc.out 1).trans rfl
  have Dp:=bF Bc.out 0
  have Dq:=bF Bc.out 1
  go_wp2_with (first|((with_reducible refine gate_callee (f:=33) rfl ?_);refine goesL_ (some 39) rfl rfl Try.func33 (by kernel_rfl) rfl #[.agg #[.slice Ao32 t243.length co32,.int .i64 t246],.agg #[.slice Ao20 t231.length co20,.int .i64 t234]] rfl (by (try simp only [lM,lC,lN]);first|done|rfl|(simp only [lD,lT];rfl)) ?_;(with_reducible refine (laws_eqQueue.calls k _ _ t243 t246 _ _ t231 t234 true _ ?side1 ?side2 ?side3 ?side4 A37.out).mono ?_);(case side1=>refine (Kd.R_reads' (e:=86) (base:=w.heap.size) (ok:=fun k_=>(((True∧some k_≠(.slice Ao17 t227.length co17:Value).ownBlock)∧some k_≠(.slice Ao20 t231.length co20:Value).ownBlock)∧some k_≠(.slice Ao26 t238.length co26:Value).ownBlock)) (n:=t243.length) (c:=co32) ?_).2.2;exact (by (with_reducible repeat (first|apply rA|apply rN|apply rD));exact (rM (rF (p:=⟨Bh,1,none⟩) (rF (p:=⟨Bh,0,none⟩) (rT BA.out Be.out (by decide)) (fun _ hk=>hk.2) (.slice Ao32 t243.length co32)) (fun _ hk=>hk.2) (.int .i64 t246)) (fun _ h_=>h_.1))));(case side2=>exact (Kd.R_reads' BA.out).2.1);(case side3=>refine (Kd.R_reads' (e:=86) (base:=w.heap.size) (ok:=fun k_=>(((True∧some k_≠(.slice Ao17 t227.length co17:Value).ownBlock)∧some k_≠(.slice Ao26 t238.length co26:Value).ownBlock)∧some k_≠(.slice Ao32 t243.length co32:Value).ownBlock)) (n:=t231.length) (c:=co20) ?_).2.2;exact (by (with_reducible repeat (first|apply rA|apply rN|apply rD));exact (rM (rF (p:=⟨Bh,1,none⟩) (rF (p:=⟨Bh,0,none⟩) (rT Bq.out Be.out (by decide)) (fun _ hk=>hk.2) (.slice Ao32 t243.length co32)) (fun _ hk=>hk.2) (.int .i64 t246)) (fun _ h_=>h_.1))));(case side4=>exact (Kd.R_reads' Bq.out).2.1);rintro e w47 ⟨rfl,hb⟩;refine ⟨_,rfl,?_⟩;have n0_:=Am (rB (by (with_reducible repeat (first|apply rA|apply rN|apply rD));exact (rM (rF (p:=⟨Bh,1,none⟩) (rF (p:=⟨Bh,0,none⟩) (rT Bs.out Be.out (by decide)) (fun _ hk=>hk.2) (.slice Ao32 t243.length co32)) (fun _ hk=>hk.2) (.int .i64 t246)) (fun _ h_=>h_.1))) hb);have n1_:=Am (rB (by (with_reducible repeat (first|apply rA|apply rN|apply rD));exact (rM (rF (p:=⟨Bh,1,none⟩) (rF (p:=⟨Bh,0,none⟩) (rT Bq.out Be.out (by decide)) (fun _ hk=>hk.2) (.slice Ao32 t243.length co32)) (fun _ hk=>hk.2) (.int .i64 t246)) (fun _ h_=>h_.1))) hb);have n2_:=Am (rB (by (with_reducible repeat (first|apply rA|apply rN|apply rD));exact (rM (rF (p:=⟨Bh,1,none⟩) (rF (p:=⟨Bh,0,none⟩) (rT Bu.out Be.out (by decide)) (fun _ hk=>hk.2) (.slice Ao32 t243.length co32)) (fun _ hk=>hk.2) (.int .i64 t246)) (fun _ h_=>h_.1))) hb);have n3_:=Am (rB (by (with_reducible repeat (first|apply rA|apply rN|apply rD));exact (rM (rF (p:=⟨Bh,1,none⟩) (rF (p:=⟨Bh,0,none⟩) (rT BA.out Be.out (by decide)) (fun _ hk=>hk.2) (.slice Ao32 t243.length co32)) (fun _ hk=>hk.2) (.int .i64 t246)) (fun _ h_=>h_.1))) hb);have n4_:=Am (bB (g:=Bk) (o:=.cells #[.slice A0_0 l0_0.length c0_0,.int .i64 a0_1] 43 (0,0)) (by (with_reducible repeat (first|refine bN ?_ _|refine bD ?_|refine bA ?_ _|refine blk_far ?_ By.out _));exact Bb.out) hb);have n5_:=Am (bB (g:=Bi) (o:=.cells #[.slice Ao20 t231.length co20,.int .i64 t234] 47 (0,0)) (by (with_reducible repeat (first|refine bN ?_ _|refine bD ?_|refine bA ?_ _|refine blk_far ?_ Bt.out _));exact Bc.out) hb);have n6_:=Am (bB (g:=Bm) (o:=.cells #[.slice Ao26 t238.length co26,.int .i64 t241] 47 (0,0)) (by (with_reducible repeat (first|refine bN ?_ _|refine bD ?_|refine bA ?_ _|refine blk_far ?_ Bv.out _));exact Bg.out) hb);have n7_:=Am (bB (g:=Bh) (o:=.cells #[.slice Ao32 t243.length co32,.int .i64 t246] 47 (0,0)) (by (with_reducible repeat (first|refine bN ?_ _|refine bD ?_|refine bA ?_ _));refine blk_put (cs:=#[.slice Ao32 t243.length co32,.int .i64 0]) ?_ 1 _ rfl;(with_reducible repeat (first|refine bN ?_ _|refine bD ?_|refine bA ?_ _));refine blk_put (cs:=#[.slice none 0 0,.int .i64 0]) ?_ 0 _ rfl;(with_reducible repeat (first|refine bN ?_ _|refine bD ?_|refine bA ?_ _));exact Be.out) hb);have n8_:=Am (bP (by repeat (first|(with_reducible first|exact HB.out|apply oA|apply pN|apply o1|refine bS ?_ Bl.out|refine bS ?_ Bo.out|refine bS ?_ Bp.out|refine bS ?_ Br.out)|exact HB.out)) hb);clear Bs Bq Bu BA Bb Bc Bg Be HB;revert n0_ n1_ n2_ n3_ n4_ n5_ n6_ n7_ n8_;intro Bs Bq Bu BA Bb Bc Bg Be HB;(try clear hb);(try clear hb2);(try clear hk);(try clear hi)))
  go_meet
  case rel=>exact ⟨_,((t248 != t236)),(by first|rfl|(simp;done)|(simp [*];done)),H',⟨by first|omega|exact Nat.le_refl _⟩,⟨by (with_reducible repeat (first|apply rA|apply rN|apply rD));exact rM Bq.out (fun _ hk=>⟨hk.1.2,hk.2⟩)⟩,⟨by (with_reducible repeat (first|apply rA|apply rN|apply rD));exact rM Bu.out (fun _ hk=>⟨hk.1.2,hk.2⟩)⟩,⟨by (with_reducible repeat (first|apply rA|apply rN|apply rD));exact rM BA.out (fun _ hk=>⟨hk.1.2,hk.2⟩)⟩,⟨by (with_reducible repeat (first|refine bN ?_ _|refine bD ?_|refine bA ?_ _));exact Bb.out⟩,⟨by (with_reducible repeat (first|refine bN ?_ _|refine bD ?_|refine bA ?_ _));exact Bc.out⟩,⟨by (with_reducible repeat (first|refine bN ?_ _|refine bD ?_|refine bA ?_ _));exact Bg.out⟩,⟨by (with_reducible repeat (first|refine bN ?_ _|refine bD ?_|refine bA ?_ _));exact Be.out⟩,⟨by repeat (first|(with_reducible first|exact HB.out|apply oA|apply pN|apply o1|refine bS ?_ Bl.out|refine bS ?_ Bo.out|refine bS ?_ Bp.out|refine bS ?_ Br.out)|exact HB.out)⟩⟩
 case rest =>
  clear HC11
  try clear c1
  try clear c2
  try clear p2
  try clear c3
  try clear c3b0
  try clear c4
  try clear c5
  try clear c6
  try clear c10
  try clear c21
  try clear c27
  try clear c28
  try clear c29
  try clear c31
  try clear c33
  try clear c34
  try clear c35
  try clear c38
  try clear c39
  try clear c39b0
  try clear c39b1
  try clear c40
  try clear c41
  try clear c42
  try clear c44
  try clear c45
  try clear c48
  try clear c49
  try clear c50
  try clear c52
  try clear c53
  try clear c56
  try clear c57
  try clear c58
  try clear c60
  try clear c61
  try clear BV
  try clear BW
  try clear BZ
  try clear B0
  try clear B3
  try clear B4
  try clear B7
  try clear B8
  try clear Db
  try clear Dc
  try clear Df
  try clear Dg
  try clear Dj
  try clear Dk
  try clear Dn
  try clear Do
  try clear Dr
  try clear Ds
  try clear Dv
  try clear Dw
  try clear Dz
  try clear DA
  try clear DH
  try clear DI
  try clear DD
  try clear DE
  try clear BX
  try clear BY
  try clear B1
  try clear B2
  try clear B5
  try clear B6
  try clear B9
  try clear Da
  try clear Dd
  try clear De
  try clear Dh
  try clear Di
  try clear Dl
  try clear Dm
  try clear Dp
  try clear Dq
  try clear Dt
  try clear Du
  try clear Dx
  try clear Dy
  try clear DB
  try clear DC
  try clear DJ
  try clear DK
  try clear DF
  try clear DG
  obtain ⟨kq,x50_10,rfl,HA,BU,Bd,Bf,Ba,Bb,Bc,Bg,Be,HB⟩:=hcut
  cases kq with
 |zero=>exact absurd HA.out (by simp [laws_FnExactQueueTick.j0])
 |succ kj10 =>
   have H:=HA.out
   clear HA
   simp only [laws_FnExactQueueTick.j0] at H
   by_cases c64:x50_10=true
   ·subst c64
    have H1:(some false)=some r:=by rw [if_pos rfl] at H;exact H
    clear H
    have H:=H1
    clear H1
    exact absurd ((Option.some.inj H).trans hT_.out) (by decide)
   replace c64:=Bool.eq_false_iff.mpr c64
   subst c64
   have H1:((laws_toQueue.f kj10 l0_0 a0_1).bind fun bt251=>((laws_eqQueue.f kj10 t238 t241 bt251.1 bt251.2).bind fun t255=>(if t255=true then ((laws_markQueue.f kj10 t238 t241 1).bind fun bt256=>(if bt256.1<0 then (laws_FnExactQueueTick.j1 kj10 t235 t236 true l0_0 a0_1 t231 t234 t243 t246) else ((laws_eqQueue.f kj10 t243 t246 t231 t234).bind fun t258=>(if t258=true then (if t247=t235 then (laws_FnExactQueueTick.j1 kj10 t235 t236 (t248 != t236) l0_0 a0_1 t231 t234 t243 t246) else (laws_FnExactQueueTick.j1 kj10 t235 t236 true l0_0 a0_1 t231 t234 t243 t246)) else (laws_FnExactQueueTick.j1 kj10 t235 t236 true l0_0 a0_1 t231 t234 t243 t246))))) else (some false))))=some r:=by rw [if_neg (show ¬ (false=true) by decide)] at H;exact H
   clear H
   have H:=H1
   clear H1
   replace H:=oC H
   obtain ⟨⟨t251,t254⟩,A650,H⟩:=H
   replace H:((laws_eqQueue.f kj10 t238 t241 t251 t254).bind fun t255=>(if t255=true then ((laws_markQueue.f kj10 t238 t241 1).bind fun bt256=>(if bt256.1<0 then (laws_FnExactQueueTick.j1 kj10 t235 t236 true l0_0 a0_1 t231 t234 t243 t246) else ((laws_eqQueue.f kj10 t243 t246 t231 t234).bind fun t258=>(if t258=true then (if t247=t235 then (laws_FnExactQueueTick.j1 kj10 t235 t236 (t248 != t236) l0_0 a0_1 t231 t234 t243 t246) else (laws_FnExactQueueTick.j1 kj10 t235 t236 true l0_0 a0_1 t231 t234 t243 t246)) else (laws_FnExactQueueTick.j1 kj10 t235 t236 true l0_0 a0_1 t231 t234 t243 t246))))) else (some false)))=some r:=H
   have A65:=Am A650
   clear A650
   replace H:=oC H
   obtain ⟨t255,A660,H⟩:=H
   replace H:(if t255=true then ((laws_markQueue.f kj10 t238 t241 1).bind fun bt256=>(if bt256.1<0 then (laws_FnExactQueueTick.j1 kj10 t235 t236 true l0_0 a0_1 t231 t234 t243 t246) else ((laws_eqQueue.f kj10 t243 t246 t231 t234).bind fun t258=>(if t258=true then (if t247=t235 then (laws_FnExactQueueTick.j1 kj10 t235 t236 (t248 != t236) l0_0 a0_1 t231 t234 t243 t246) else (laws_FnExactQueueTick.j1 kj10 t235 t236 true l0_0 a0_1 t231 t234 t243 t246)) else (laws_FnExactQueueTick.j1 kj10 t235 t236 true l0_0 a0_1 t231 t234 t243 t246))))) else (some false))=some r:=H
   have A66:=Am A660
   clear A660
   by_cases c67:t255=true
   rotate_left
   ·replace c67:=Bool.eq_false_iff.mpr c67
    subst c67
    have H1:(some false)=some r:=by rw [if_neg (show ¬ (false=true) by decide)] at H;exact H
    clear H
    have H:=H1
    clear H1
    exact absurd ((Option.some.inj H).trans hT_.out) (by decide)

   subst c67
   have H1:((laws_markQueue.f kj10 t238 t241 1).bind fun bt256=>(if bt256.1<0 then (laws_FnExactQueueTick.j1 kj10 t235 t236 true l0_0 a0_1 t231 t234 t243 t246) else ((laws_eqQueue.f kj10 t243 t246 t231 t234).bind fun t258=>(if t258=true then (if t247=t235 then (laws_FnExactQueueTick.j1 kj10 t235 t236 (t248 != t236) l0_0 a0_1 t231 t234 t243 t246) else (laws_FnExactQueueTick.j1 kj10 t235 t236 true l0_0 a0_1 t231 t234 t243 t246)) else (laws_FnExactQueueTick.j1 kj10 t235 t236 true l0_0 a0_1 t231 t234 t243 t246)))))=some r:=by rw [if_pos rfl] at H;exact H
   clear H
   have H:=H1
   clear H1
   replace H:=oC H
   obtain ⟨⟨t256,t257⟩,A680,H⟩:=H
   replace H:(if t256<0 then (laws_FnExactQueueTick.j1 kj10 t235 t236 true l0_0 a0_1 t231 t234 t243 t246) else ((laws_eqQueue.f kj10 t243 t246 t231 t234).bind fun t258=>(if t258=true then (if t247=t235 then (laws_FnExactQueueTick.j1 kj10 t235 t236 (t248 != t236) l0_0 a0_1 t231 t234 t243 t246) else (laws_FnExactQueueTick.j1 kj10 t235 t236 true l0_0 a0_1 t231 t234 t243 t246)) else (laws_FnExactQueueTick.j1 kj10 t235 t236 true l0_0 a0_1 t231 t234 t243 t246))))=some r:=H
   have A68:=Am A680
   clear A680
   have HC69:=Am H
   clear H
   try go_wp2
   have n0_:=Am (rD Bd.out)
   have n1_:=Am (rD Bf.out)
   have n2_:=Am (rD Ba.out)
   have n3_:=Am (bD Bb.out)
   have n4_:=Am (bD Bc.out)
   have n5_:=Am (bD Bg.out)
   have n6_:=Am (bD Be.out)
   have n7_:=Am (o1 HB.out)
   clear Bd
   clear Bf
   clear Ba
   clear Bb
   clear Bc
   clear Bg
   clear Be
   clear HB
   have Bd:=n0_
   have Bf:=n1_
   have Ba:=n2_
   have Bb:=n3_
   have Bc:=n4_
   have Bg:=n5_
   have Be:=n6_
   have HB:=n7_
   clear n0_ n1_ n2_ n3_ n4_ n5_ n6_ n7_
   refine start_ (n:=5) (S:=fun w'=>w'.cell? ⟨Bm,0,none⟩=some (.slice Ao26 t238.length co26)∧w'.cell? ⟨Bm,1,none⟩=some (.int .i64 t241)∧w'.cell? ⟨Bk,0,none⟩=some (.slice A0_0 l0_0.length c0_0)∧w'.cell? ⟨Bk,1,none⟩=some (.int .i64 a0_1)) (ds:=[]) #[false,false,false,false,false] (by kernel_rfl) rfl rfl ⟨(bC Bg.out 0).trans rfl,(bC Bg.out 1).trans rfl,(bC Bb.out 0).trans rfl,(bC Bb.out 1).trans rfl⟩ (fun hHeld=>?_)
   generalize wc.drew=w70 at Bd Bf Ba Bb Bc Bg Be HB hHeld ⊢
   refine take_ (i:=0) (N:=some 51) (v:=?_) (a':=?_) #[true,false,false,false,false] rfl rfl (by kernel_rfl) (fun _ _ _ h=>h) (Or.inl ⟨by rfl,?_⟩) hHeld ?_ ?_
   rotate_left;(rintro w' ⟨s0,s1,s2,s3⟩;go_simp;with_reducible rfl)
   rotate_left;(simp only [Act.put,lA,lZ,lS,iw,jw];rfl)
   refine take_ (i:=1) (N:=some 52) (v:=?_) (a':=?_) #[true,true,false,false,false] rfl rfl (by kernel_rfl) (fun _ _ _ h=>h) (Or.inl ⟨by rfl,?_⟩) hHeld ?_ ?_
   rotate_left;(rintro w' ⟨s0,s1,s2,s3⟩;go_simp;with_reducible rfl)
   rotate_left;(simp only [Act.put,lA,lZ,lS,iw,jw];rfl)
   refine one_ (i:=2) (N:=some 53) #[true,true,true,false,false] rfl rfl (by kernel_rfl) (by decide) (fun K hK=>?_)
   refine goes_ Try.func31 (by kernel_rfl) rfl #[.agg #[.slice A0_0 l0_0.length c0_0,.int .i64 a0_1]] (by rfl) rfl rfl (by (try simp only [lM,lC,lN]);first|done|rfl|(simp only [lD,lT];rfl)) ?_
   with_reducible refine (laws_toQueue.calls kj10 _ _ l0_0 a0_1 t251 t254 _ ?side1 ?side2 A65.out).mono ?_
   (case side1=>repeat (first|exact (cB HR0_0.out HB.out)|(with_reducible refine cA ?_ _)|(with_reducible refine cN ?_ _)|(with_reducible refine cD ?_)))
   (case side2=>exact HC0_0.out)
   rintro e w71 ⟨v252,rfl,ho0,hb⟩
   refine ⟨_,rfl,?_⟩
   have n0_:=Am (Kd.R_elder' (rL Bd.out) (Kd.R_base ho0) hb)
   have n1_:=Am (Kd.R_elder' (rL Bf.out) (Kd.R_base ho0) hb)
   have n2_:=Am (Kd.R_elder' (rL Ba.out) (Kd.R_base ho0) hb)
   have n3_:=Am (Kd.R_lower (Kd.R_new' (Kd.R_new' (Kd.R_new' ho0 (Kd.R_lt (rL Bd.out))) (Kd.R_lt (rL Bf.out))) (Kd.R_lt (rL Ba.out))) (bZ (by repeat (first|(with_reducible first|exact HB.out|apply oA|apply pN|apply o1|refine bS ?_ Bl.out|refine bS ?_ Bo.out|refine bS ?_ Bp.out|refine bS ?_ Br.out)|exact HB.out))))
   have n4_:=Am (bB (g:=Bk) (o:=.cells #[.slice A0_0 l0_0.length c0_0,.int .i64 a0_1] 43 (0,0)) (bL Bb.out) hb)
   have n5_:=Am (bB (g:=Bi) (o:=.cells #[.slice Ao20 t231.length co20,.int .i64 t234] 47 (0,0)) (bL Bc.out) hb)
   have n6_:=Am (bB (g:=Bm) (o:=.cells #[.slice Ao26 t238.length co26,.int .i64 t241] 47 (0,0)) (bL Bg.out) hb)
   have n7_:=Am (bB (g:=Bh) (o:=.cells #[.slice Ao32 t243.length co32,.int .i64 t246] 47 (0,0)) (bL Be.out) hb)
   have n8_:=Am (bP (by repeat (first|(with_reducible first|exact HB.out|apply oA|apply pN|apply o1|refine bS ?_ Bl.out|refine bS ?_ Bo.out|refine bS ?_ Bp.out|refine bS ?_ Br.out)|exact HB.out)) hb)
   clear Bd
   clear Bf
   clear Ba
   clear Bb
   clear Bc
   clear Bg
   clear Be
   clear HB
   have Bd:=n0_
   have Bf:=n1_
   have Ba:=n2_
   have BG:=n3_
   have Bb:=n4_
   have Bc:=n5_
   have Bg:=n6_
   have Be:=n7_
   have HB:=n8_
   clear n0_ n1_ n2_ n3_ n4_ n5_ n6_ n7_ n8_
   (try clear hb)
   (try clear hb2)
   (try clear hk)
   (try clear hi)
   (try clear ho0)
   obtain ⟨Ao72,co72,eo72⟩:=Kd.R_slice BG.out
   (first|subst eo72|(injection eo72 with f1_ f2_ f3_;have f4_:=f1_.symm;have f5_:=f3_.symm;clear f1_ f2_ f3_;subst f4_;subst f5_))
   refine hK.out _ _ ⟨(bC Bg.out 0).trans rfl,(bC Bg.out 1).trans rfl,(bC Bb.out 0).trans rfl,(bC Bb.out 1).trans rfl⟩ (fun hHeld=>?_)
   clear hK K
   refine norm_ (by show Act.put _ (some 53) _=_;simp only [Act.put,lA,lZ,lS,iw,jw];rfl) ?_
   refine one_ (i:=3) (N:=some 54) #[true,true,true,true,false] rfl rfl (by kernel_rfl) (by decide) (fun K hK=>?_)
   refine goes_ Try.func33 (by kernel_rfl) rfl #[.agg #[.slice Ao26 t238.length co26,.int .i64 t241],.agg #[.slice Ao72 t251.length co72,.int .i64 t254]] (by rfl) rfl rfl (by (try simp only [lM,lC,lN]);first|done|rfl|(simp only [lD,lT];rfl)) ?_
   with_reducible refine (laws_eqQueue.calls kj10 _ _ t238 t241 _ _ t251 t254 true _ ?side1 ?side2 ?side3 ?side4 A66.out).mono ?_
   (case side1=>repeat (first|exact (Kd.R_reads' Bf.out).2.2|(with_reducible refine cA ?_ _)|(with_reducible refine cN ?_ _)|(with_reducible refine cD ?_)))
   (case side2=>exact (Kd.R_reads' Bf.out).2.1)
   (case side3=>repeat (first|exact (Kd.R_reads' BG.out).2.2|(with_reducible refine cA ?_ _)|(with_reducible refine cN ?_ _)|(with_reducible refine cD ?_)))
   (case side4=>exact (Kd.R_reads' BG.out).2.1)
   rintro e w73 ⟨rfl,hb⟩
   refine ⟨_,rfl,?_⟩
   have n0_:=Am (rB (rL Bd.out) hb)
   have n1_:=Am (rB (rL Bf.out) hb)
   have n2_:=Am (rB (rL Ba.out) hb)
   have n3_:=Am (rB (rL BG.out) hb)
   have n4_:=Am (bB (g:=Bk) (o:=.cells #[.slice A0_0 l0_0.length c0_0,.int .i64 a0_1] 43 (0,0)) (bL Bb.out) hb)
   have n5_:=Am (bB (g:=Bi) (o:=.cells #[.slice Ao20 t231.length co20,.int .i64 t234] 47 (0,0)) (bL Bc.out) hb)
   have n6_:=Am (bB (g:=Bm) (o:=.cells #[.slice Ao26 t238.length co26,.int .i64 t241] 47 (0,0)) (bL Bg.out) hb)
   have n7_:=Am (bB (g:=Bh) (o:=.cells #[.slice Ao32 t243.length co32,.int .i64 t246] 47 (0,0)) (bL Be.out) hb)
   have n8_:=Am (bP (by repeat (first|(with_reducible first|exact HB.out|apply oA|apply pN|apply o1|refine bS ?_ Bl.out|refine bS ?_ Bo.out|refine bS ?_ Bp.out|refine bS ?_ Br.out)|exact HB.out)) hb)
   clear Bd
   clear Bf
   clear Ba
   clear BG
   clear Bb
   clear Bc
   clear Bg
   clear Be
   clear HB
   have Bd:=n0_
   have Bf:=n1_
   have Ba:=n2_
   have BG:=n3_
   have Bb:=n4_
   have Bc:=n5_
   have Bg:=n6_
   have Be:=n7_
   have HB:=n8_
   clear n0_ n1_ n2_ n3_ n4_ n5_ n6_ n7_ n8_
   (try clear hb)
   (try clear hb2)
   (try clear hk)
   (try clear hi)
   refine hK.out _ _ ⟨(bC Bg.out 0).trans rfl,(bC Bg.out 1).trans rfl,(bC Bb.out 0).trans rfl,(bC Bb.out 1).trans rfl⟩ (fun hHeld=>?_)
   clear hK K
   refine norm_ (by show Act.put _ (some 54) _=_;simp only [Act.put,lA,lZ,lS,iw,jw];rfl) ?_
   refine pure_ (i:=4) (N:=some 55) (v:=?_) (a':=?_) #[true,true,true,true,true] rfl rfl (by kernel_rfl) (fun _ _ _ h=>h) (Or.inl ⟨by rfl,?_⟩) ?_ ?_
   rotate_left;(intro w';go_simp;with_reducible rfl)
   rotate_left;(simp only [Act.put,lA,lZ,lS,iw,jw];rfl)
   refine done_ (by kernel_rfl) ?_
   have JV:=BT.out
   have JW:=BN.out
   have JX:=BD.out
   have JY:=Bx.out
   have JZ:=Bv.out
   have J0:=BF.out
   have DT:w73.cell? ⟨Bm,0,none⟩=some (.slice Ao26 t238.length co26):=(bC Bg.out 0).trans rfl
   have DU:w73.cell? ⟨Bm,1,none⟩=some (.int .i64 t241):=(bC Bg.out 1).trans rfl
   have DV:=bF Bg.out 0
   have DW:=bF Bg.out 1
   go_upto_region 14 with (first|((with_reducible refine gate_callee (f:=34) rfl ?_);refine goesL_ (some 58) rfl rfl Try.func34 (by kernel_rfl) rfl #[.agg #[.slice Ao26 t238.length co26,.int .i64 t241],.int .i64 1] rfl (by (try simp only [lM,lC,lN]);first|done|rfl|(simp only [lD,lT];rfl)) ?_;(with_reducible refine (laws_markQueue.calls kj10 (fun k_=>some k_=(.slice Ao26 t238.length co26:Value).ownBlock) (.slice Ao26 t238.length co26) t238 t241 1 t256 t257 w _ ?side1 ?side2 A68.out).mono ?_);(case side1=>repeat (first|(with_reducible first|exact HB.out|apply oA|apply pN|apply o1|refine bS ?_ Bl.out|refine bS ?_ Bo.out|refine bS ?_ Bp.out|refine bS ?_ Br.out)|exact HB.out));(case side2=>exact Kd.R_tight rfl Bf.out);rintro e w78 ⟨rfl,hy0,hb,hkp⟩;refine ⟨_,rfl,?_⟩;have n0_:=Am (rM (ok':=fun k_=>some k_≠(.slice Ao26 t238.length co26:Value).ownBlock∧some k_≠(.slice Ao32 t243.length co32:Value).ownBlock∧some k_≠(.slice Ao72 t251.length co72:Value).ownBlock) (Kd.R_keptB (Bd.out) hkp (fun k_ hk_ hs_=>(hk_.1.1) hs_)) (fun k_ hk_=>⟨hk_.1.1.1,hk_.1.1.2,hk_.1.2⟩));have n1_:=Am (Kd.R_reok rfl hy0 (fun k_ e_=>Bf.out.1 k_ e_));have n2_:=Am (rM (ok':=fun k_=>some k_≠(.slice Ao20 t231.length co20:Value).ownBlock∧some k_≠(.slice Ao26 t238.length co26:Value).ownBlock∧some k_≠(.slice Ao72 t251.length co72:Value).ownBlock) (Kd.R_keptB (Ba.out) hkp (fun k_ hk_ hs_=>(hk_.1.2) hs_)) (fun k_ hk_=>⟨hk_.1.1.1,hk_.1.1.2,hk_.1.2⟩));have n3_:=Am (blk_kept (bL Bb.out) hkp (fun hs_=>(fun e_=>(Kd.R_ne Bf.out Bb.out (by decide)) e_) hs_));have n4_:=Am (blk_kept (bL Bc.out) hkp (fun hs_=>(fun e_=>(Kd.R_ne Bf.out Bc.out (by decide)) e_) hs_));have n5_:=Am (blk_kept (bL Bg.out) hkp (fun hs_=>(fun e_=>(Kd.R_ne Bf.out Bg.out (by decide)) e_) hs_));have n6_:=Am (blk_kept (bL Be.out) hkp (fun hs_=>(fun e_=>(Kd.R_ne Bf.out Be.out (by decide)) e_) hs_));have n7_:=Am (rM (ok':=fun k_=>some k_≠(.slice Ao20 t231.length co20:Value).ownBlock∧some k_≠(.slice Ao26 t238.length co26:Value).ownBlock∧some k_≠(.slice Ao32 t243.length co32:Value).ownBlock) (Kd.R_keptB (BG.out) hkp (fun k_ hk_ hs_=>(hk_.1.2) hs_)) (fun k_ hk_=>⟨hk_.1.1.1.2,hk_.1.1.2,hk_.1.2⟩));have n8_:=Am (hb);clear Bd Bf Ba Bb Bc Bg Be BG HB;revert n0_ n1_ n2_ n3_ n4_ n5_ n6_ n7_ n8_;intro Bd Bf Ba Bb Bc Bg Be BG HB;(try clear hb);(try clear hkp);(try clear hy0)))
   (try simp only [Act.put,lA,lZ,lS])
   go_cut [76] (fun v76 wc=>∃ (kq:Nat) (x76_68:Bool),v76=.bool x76_68∧Aside0 (laws_FnExactQueueTick.j1 kq t235 t236 x76_68 l0_0 a0_1 t231 t234 t243 t246=some r)∧Aside0 (kq≤kj10)∧Aside0 (Kd.R k86 86 wc w.heap.size (fun k_=>some k_≠((.slice Ao26 t238.length co26):Value).ownBlock∧some k_≠((.slice Ao32 t243.length co32):Value).ownBlock) (.slice Ao20 t231.length co20) t231)∧Aside0 (Kd.R k86 86 wc w.heap.size (fun k_=>some k_≠((.slice Ao20 t231.length co20):Value).ownBlock∧some k_≠((.slice Ao32 t243.length co32):Value).ownBlock) (.slice Ao26 t238.length co26) t257)∧Aside0 (Kd.R k86 86 wc w.heap.size (fun k_=>some k_≠((.slice Ao20 t231.length co20):Value).ownBlock∧some k_≠((.slice Ao26 t238.length co26):Value).ownBlock) (.slice Ao32 t243.length co32) t243)∧Aside0 (wc.heap[Bk]?=some (.cells #[(.slice A0_0 l0_0.length c0_0),.int .i64 a0_1] 43 (0,0)))∧Aside0 (wc.heap[Bi]?=some (.cells #[(.slice Ao20 t231.length co20),.int .i64 t234] 47 (0,0)))∧Aside0 (wc.heap[Bm]?=some (.cells #[(.slice Ao26 t238.length co26),.int .i64 t241] 47 (0,0)))∧Aside0 (wc.heap[Bh]?=some (.cells #[(.slice Ao32 t243.length co32),.int .i64 t246] 47 (0,0)))∧Aside0 (Below w.heap.size w wc))
   case first =>
    have H:=HC69.out
    clear HC69
    by_cases c79:t256<0
    ·rw [if_pos c79] at H
     have c79b0:decide (t256<0)=true:=decide_eq_true c79
     clear c79
     (first|rw [c79b0]|(simp only [i64_w,i32_w];rw [c79b0])|skip)
     have H':=Am H
     clear H
     go_wp2
     go_meet
     case rel=>exact ⟨_,(true),(by first|rfl|(simp;done)|(simp [*];done)),H',⟨by have:=BU.out;first|omega|exact Nat.le_refl _⟩,⟨by (with_reducible repeat (first|apply rA|apply rN|apply rD));exact rM Bd.out (fun _ hk=>⟨hk.1,hk.2.1⟩)⟩,⟨by (with_reducible repeat (first|apply rA|apply rN|apply rD));exact rM Bf.out (fun _ hk=>⟨hk.1.1,hk.1.2⟩)⟩,⟨by (with_reducible repeat (first|apply rA|apply rN|apply rD));exact rM Ba.out (fun _ hk=>⟨hk.1,hk.2.1⟩)⟩,⟨by (with_reducible repeat (first|refine bN ?_ _|refine bD ?_|refine bA ?_ _));exact Bb.out⟩,⟨by (with_reducible repeat (first|refine bN ?_ _|refine bD ?_|refine bA ?_ _));exact Bc.out⟩,⟨by (with_reducible repeat (first|refine bN ?_ _|refine bD ?_|refine bA ?_ _));exact Bg.out⟩,⟨by (with_reducible repeat (first|refine bN ?_ _|refine bD ?_|refine bA ?_ _));exact Be.out⟩,⟨by repeat (first|(with_reducible first|exact HB.out|apply oA|apply pN|apply o1|refine bS ?_ Bl.out|refine bS ?_ Bo.out|refine bS ?_ Bp.out|refine bS ?_ Br.out)|exact HB.out)⟩⟩
    rw [if_neg c79] at H
    have c79b0:decide (t256<0)=false:=decide_eq_false c79
    clear c79
    (first|rw [c79b0]|(simp only [i64_w,i32_w];rw [c79b0])|skip)
    replace H:=oC H
    obtain ⟨t258,A800,H⟩:=H
    replace H:(if t258=true then (if t247=t235 then (laws_FnExactQueueTick.j1 kj10 t235 t236 (t248 != t236) l0_0 a0_1 t231 t234 t243 t246) else (laws_FnExactQueueTick.j1 kj10 t235 t236 true l0_0 a0_1 t231 t234 t243 t246)) else (laws_FnExactQueueTick.j1 kj10 t235 t236 true l0_0 a0_1 t231 t234 t243 t246))=some r:=H
    have A80:=Am A800
    clear A800
    by_cases c81:t258=true
    rotate_left
    ·replace c81:=Bool.eq_false_iff.mpr c81
     subst c81
     have H1:(laws_FnExactQueueTick.j1 kj10 t235 t236 true l0_0 a0_1 t231 t234 t243 t246)=some r:=by rw [if_neg (show ¬ (false=true) by decide)] at H;exact H
     clear H
     have H:=H1
     clear H1
     have H':=Am H
     clear H
     have Ml:=BH.out
     have Mm:=By.out
     have FX:=Bz.out
     have FY:=Bt.out
     have FZ:=BF.out
     have F0:=Bv.out
     have DL:w78.cell? ⟨Bh,0,none⟩=some (.slice Ao32 t243.length co32):=(bC Be.out 0).trans rfl
     have DM:w78.cell? ⟨Bh,1,none⟩=some (.int .i64 t246):=(bC Be.out 1).trans rfl
     have DN:=bF Be.out 0
     have DO:=bF Be.out 1
     have F1:=BC.out
     have F2:=Bw.out
     have F3:=Bx.out
     have F4:=BD.out
     have DP:w78.cell? ⟨Bi,0,none⟩=some (.slice Ao20 t231.length co20):=(bC Bc.out 0).trans rfl
     have DQ:w78.cell? ⟨Bi,1,none⟩=some (.int .i64 t234):=(bC Bc.out 1).trans rfl
     have DR:=bF Bc.out 0
     have DS:=bF Bc.out 1
     go_wp2_with (first|(go_at_call 33;(with_reducible refine (laws_eqQueue.calls kj10 _ _ t243 t246 _ _ t231 t234 false _ ?side1 ?side2 ?side3 ?side4 A80.out).mono ?_);(case side1=>repeat (first|exact (Kd.R_reads' Ba.out).2.2|(with_reducible refine cA ?_ _)|(with_reducible refine cN ?_ _)|(with_reducible refine cD ?_)));(case side2=>exact (Kd.R_reads' Ba.out).2.1);(case side3=>repeat (first|exact (Kd.R_reads' Bd.out).2.2|(with_reducible refine cA ?_ _)|(with_reducible refine cN ?_ _)|(with_reducible refine cD ?_)));(case side4=>exact (Kd.R_reads' Bd.out).2.1);rintro e w106 ⟨rfl,hb⟩;have n0_:=Am (rB (rL Bd.out) hb);have n1_:=Am (rB (rL Bf.out) hb);have n2_:=Am (rB (rL Ba.out) hb);have n3_:=Am (rB (rL BG.out) hb);have n4_:=Am (bB (g:=Bk) (o:=.cells #[.slice A0_0 l0_0.length c0_0,.int .i64 a0_1] 43 (0,0)) (bL Bb.out) hb);have n5_:=Am (bB (g:=Bi) (o:=.cells #[.slice Ao20 t231.length co20,.int .i64 t234] 47 (0,0)) (bL Bc.out) hb);have n6_:=Am (bB (g:=Bm) (o:=.cells #[.slice Ao26 t238.length co26,.int .i64 t241] 47 (0,0)) (bL Bg.out) hb);have n7_:=Am (bB (g:=Bh) (o:=.cells #[.slice Ao32 t243.length co32,.int .i64 t246] 47 (0,0)) (bL Be.out) hb);have n8_:=Am (bP (by repeat (first|(with_reducible first|exact HB.out|apply oA|apply pN|apply o1|refine bS ?_ Bl.out|refine bS ?_ Bo.out|refine bS ?_ Bp.out|refine bS ?_ Br.out)|exact HB.out)) hb);clear Bd Bf Ba BG Bb Bc Bg Be HB;revert n0_ n1_ n2_ n3_ n4_ n5_ n6_ n7_ n8_;intro Bd Bf Ba BG Bb Bc Bg Be HB;(try clear hb);(try clear hb2);(try clear hk);(try clear hi)))
     go_meet
     case rel=>exact ⟨_,(true),(by first|rfl|(simp;done)|(simp [*];done)),H',⟨by have:=BU.out;first|omega|exact Nat.le_refl _⟩,⟨by (with_reducible repeat (first|apply rA|apply rN|apply rD));exact rM Bd.out (fun _ hk=>⟨hk.1,hk.2.1⟩)⟩,⟨by (with_reducible repeat (first|apply rA|apply rN|apply rD));exact rM Bf.out (fun _ hk=>⟨hk.1.1,hk.1.2⟩)⟩,⟨by (with_reducible repeat (first|apply rA|apply rN|apply rD));exact rM Ba.out (fun _ hk=>⟨hk.1,hk.2.1⟩)⟩,⟨by (with_reducible repeat (first|refine bN ?_ _|refine bD ?_|refine bA ?_ _));exact Bb.out⟩,⟨by (with_reducible repeat (first|refine bN ?_ _|refine bD ?_|refine bA ?_ _));exact Bc.out⟩,⟨by (with_reducible repeat (first|refine bN ?_ _|refine bD ?_|refine bA ?_ _));exact Bg.out⟩,⟨by (with_reducible repeat (first|refine bN ?_ _|refine bD ?_|refine bA ?_ _));exact Be.out⟩,⟨by repeat (first|(with_reducible first|exact HB.out|apply oA|apply pN|apply o1|refine bS ?_ Bl.out|refine bS ?_ Bo.out|refine bS ?_ Bp.out|refine bS ?_ Br.out)|exact HB.out)⟩⟩
    subst c81
    have H1:(if t247=t235 then (laws_FnExactQueueTick.j1 kj10 t235 t236 (t248 != t236) l0_0 a0_1 t231 t234 t243 t246) else (laws_FnExactQueueTick.j1 kj10 t235 t236 true l0_0 a0_1 t231 t234 t243 t246))=some r:=by rw [if_pos rfl] at H;exact H
    clear H
    have H:=H1
    clear H1
    by_cases c82:t247=t235
    rotate_left
    ·rw [if_neg c82] at H
     have c82b0:(t247 == t235)=false:=beq_eq_false_iff_ne.mpr c82
     have c82b1:(t247 != t235)=true:=bne_iff_ne.mpr c82
     have H':=Am H
     clear H
     have Mb:=BH.out
     have Mc:=By.out
     have Md:=Bz.out
     have Me:=Bt.out
     have Mf:=BF.out
     have Mg:=Bv.out
     have D5:w78.cell? ⟨Bh,0,none⟩=some (.slice Ao32 t243.length co32):=(bC Be.out 0).trans rfl
     have D6:w78.cell? ⟨Bh,1,none⟩=some (.int .i64 t246):=(bC Be.out 1).trans rfl
     have D7:=bF Be.out 0
     have D8:=bF Be.out 1
     have Mh:=BC.out
     have Mi:=Bw.out
     have Mj:=Bx.out
     have Mk:=BD.out
     have D9:w78.cell? ⟨Bi,0,none⟩=some (.slice Ao20 t231.length co20):=(bC Bc.out 0).trans rfl
     have Fa:w78.cell? ⟨Bi,1,none⟩=some (.int .i64 t234):=(bC Bc.out 1).trans rfl
     have Fb:=bF Bc.out 0
     have Fc:=bF Bc.out 1
     go_wp2_with (first|(go_at_call 33;(with_reducible refine (laws_eqQueue.calls kj10 _ _ t243 t246 _ _ t231 t234 true _ ?side1 ?side2 ?side3 ?side4 A80.out).mono ?_);(case side1=>repeat (first|exact (Kd.R_reads' Ba.out).2.2|(with_reducible refine cA ?_ _)|(with_reducible refine cN ?_ _)|(with_reducible refine cD ?_)));(case side2=>exact (Kd.R_reads' Ba.out).2.1);(case side3=>repeat (first|exact (Kd.R_reads' Bd.out).2.2|(with_reducible refine cA ?_ _)|(with_reducible refine cN ?_ _)|(with_reducible refine cD ?_)));(case side4=>exact (Kd.R_reads' Bd.out).2.1);rintro e w98 ⟨rfl,hb⟩;have n0_:=Am (rB (rL Bd.out) hb);have n1_:=Am (rB (rL Bf.out) hb);have n2_:=Am (rB (rL Ba.out) hb);have n3_:=Am (rB (rL BG.out) hb);have n4_:=Am (bB (g:=Bk) (o:=.cells #[.slice A0_0 l0_0.length c0_0,.int .i64 a0_1] 43 (0,0)) (bL Bb.out) hb);have n5_:=Am (bB (g:=Bi) (o:=.cells #[.slice Ao20 t231.length co20,.int .i64 t234] 47 (0,0)) (bL Bc.out) hb);have n6_:=Am (bB (g:=Bm) (o:=.cells #[.slice Ao26 t238.length co26,.int .i64 t241] 47 (0,0)) (bL Bg.out) hb);have n7_:=Am (bB (g:=Bh) (o:=.cells #[.slice Ao32 t243.length co32,.int .i64 t246] 47 (0,0)) (bL Be.out) hb);have n8_:=Am (bP (by repeat (first|(with_reducible first|exact HB.out|apply oA|apply pN|apply o1|refine bS ?_ Bl.out|refine bS ?_ Bo.out|refine bS ?_ Bp.out|refine bS ?_ Br.out)|exact HB.out)) hb);clear Bd Bf Ba BG Bb Bc Bg Be HB;revert n0_ n1_ n2_ n3_ n4_ n5_ n6_ n7_ n8_;intro Bd Bf Ba BG Bb Bc Bg Be HB;(try clear hb);(try clear hb2);(try clear hk);(try clear hi)))
     go_meet
     case rel=>exact ⟨_,(true),(by first|rfl|(simp;done)|(simp [*];done)),H',⟨by have:=BU.out;first|omega|exact Nat.le_refl _⟩,⟨by (with_reducible repeat (first|apply rA|apply rN|apply rD));exact rM Bd.out (fun _ hk=>⟨hk.1,hk.2.1⟩)⟩,⟨by (with_reducible repeat (first|apply rA|apply rN|apply rD));exact rM Bf.out (fun _ hk=>⟨hk.1.1,hk.1.2⟩)⟩,⟨by (with_reducible repeat (first|apply rA|apply rN|apply rD));exact rM Ba.out (fun _ hk=>⟨hk.1,hk.2.1⟩)⟩,⟨by (with_reducible repeat (first|refine bN ?_ _|refine bD ?_|refine bA ?_ _));exact Bb.out⟩,⟨by (with_reducible repeat (first|refine bN ?_ _|refine bD ?_|refine bA ?_ _));exact Bc.out⟩,⟨by (with_reducible repeat (first|refine bN ?_ _|refine bD ?_|refine bA ?_ _));exact Bg.out⟩,⟨by (with_reducible repeat (first|refine bN ?_ _|refine bD ?_|refine bA ?_ _));exact Be.out⟩,⟨by repeat (first|(with_reducible first|exact HB.out|apply oA|apply pN|apply o1|refine bS ?_ Bl.out|refine bS ?_ Bo.out|refine bS ?_ Bp.out|refine bS ?_ Br.out)|exact HB.out)⟩⟩
    rw [if_pos c82] at H
    have c82b0:(t247 == t235)=true:=beq_iff_eq.mpr c82
    have c82b1:(t247 != t235)=false:=bne_eq_false_iff_eq.mpr c82
    clear c82
    have H':=Am H
    clear H
    have J1:=BH.out
    have J2:=By.out
    have J3:=Bz.out
    have J4:=Bt.out
    have J5:=BF.out
    have J6:=Bv.out
    have DX:w78.cell? ⟨Bh,0,none⟩=some (.slice Ao32 t243.length co32):=(bC Be.out 0).trans rfl
    have DY:w78.cell? ⟨Bh,1,none⟩=some (.int .i64 t246):=(bC Be.out 1).trans rfl
    have DZ:=bF Be.out 0
    have D0:=bF Be.out 1
    have J7:=BC.out
    have J8:=Bw.out
    have J9:=Bx.out
    have Ma:=BD.out
    have D1:w78.cell? ⟨Bi,0,none⟩=some (.slice Ao20 t231.length co20):=(bC Bc.out 0).trans rfl
    have D2:w78.cell? ⟨Bi,1,none⟩=some (.int .i64 t234):=(bC Bc.out 1).trans rfl
    have D3:=bF Bc.out 0
    have D4:=bF Bc.out 1
    go_wp2_with (first|(go_at_call 33;(with_reducible refine (laws_eqQueue.calls kj10 _ _ t243 t246 _ _ t231 t234 true _ ?side1 ?side2 ?side3 ?side4 A80.out).mono ?_);(case side1=>repeat (first|exact (Kd.R_reads' Ba.out).2.2|(with_reducible refine cA ?_ _)|(with_reducible refine cN ?_ _)|(with_reducible refine cD ?_)));(case side2=>exact (Kd.R_reads' Ba.out).2.1);(case side3=>repeat (first|exact (Kd.R_reads' Bd.out).2.2|(with_reducible refine cA ?_ _)|(with_reducible refine cN ?_ _)|(with_reducible refine cD ?_)));(case side4=>exact (Kd.R_reads' Bd.out).2.1);rintro e w90 ⟨rfl,hb⟩;have n0_:=Am (rB (rL Bd.out) hb);have n1_:=Am (rB (rL Bf.out) hb);have n2_:=Am (rB (rL Ba.out) hb);have n3_:=Am (rB (rL BG.out) hb);have n4_:=Am (bB (g:=Bk) (o:=.cells #[.slice A0_0 l0_0.length c0_0,.int .i64 a0_1] 43 (0,0)) (bL Bb.out) hb);have n5_:=Am (bB (g:=Bi) (o:=.cells #[.slice Ao20 t231.length co20,.int .i64 t234] 47 (0,0)) (bL Bc.out) hb);have n6_:=Am (bB (g:=Bm) (o:=.cells #[.slice Ao26 t238.length co26,.int .i64 t241] 47 (0,0)) (bL Bg.out) hb);have n7_:=Am (bB (g:=Bh) (o:=.cells #[.slice Ao32 t243.length co32,.int .i64 t246] 47 (0,0)) (bL Be.out) hb);have n8_:=Am (bP (by repeat (first|(with_reducible first|exact HB.out|apply oA|apply pN|apply o1|refine bS ?_ Bl.out|refine bS ?_ Bo.out|refine bS ?_ Bp.out|refine bS ?_ Br.out)|exact HB.out)) hb);clear Bd Bf Ba BG Bb Bc Bg Be HB;revert n0_ n1_ n2_ n3_ n4_ n5_ n6_ n7_ n8_;intro Bd Bf Ba BG Bb Bc Bg Be HB;(try clear hb);(try clear hb2);(try clear hk);(try clear hi)))
    go_meet
    case rel=>exact ⟨_,((t248 != t236)),(by first|rfl|(simp;done)|(simp [*];done)),H',⟨by have:=BU.out;first|omega|exact Nat.le_refl _⟩,⟨by (with_reducible repeat (first|apply rA|apply rN|apply rD));exact rM Bd.out (fun _ hk=>⟨hk.1,hk.2.1⟩)⟩,⟨by (with_reducible repeat (first|apply rA|apply rN|apply rD));exact rM Bf.out (fun _ hk=>⟨hk.1.1,hk.1.2⟩)⟩,⟨by (with_reducible repeat (first|apply rA|apply rN|apply rD));exact rM Ba.out (fun _ hk=>⟨hk.1,hk.2.1⟩)⟩,⟨by (with_reducible repeat (first|refine bN ?_ _|refine bD ?_|refine bA ?_ _));exact Bb.out⟩,⟨by (with_reducible repeat (first|refine bN ?_ _|refine bD ?_|refine bA ?_ _));exact Bc.out⟩,⟨by (with_reducible repeat (first|refine bN ?_ _|refine bD ?_|refine bA ?_ _));exact Bg.out⟩,⟨by (with_reducible repeat (first|refine bN ?_ _|refine bD ?_|refine bA ?_ _));exact Be.out⟩,⟨by repeat (first|(with_reducible first|exact HB.out|apply oA|apply pN|apply o1|refine bS ?_ Bl.out|refine bS ?_ Bo.out|refine bS ?_ Bp.out|refine bS ?_ Br.out)|exact HB.out)⟩⟩
   case rest =>
    clear HC69
    try clear c1
    try clear c2
    try clear p2
    try clear c3
    try clear c3b0
    try clear c4
    try clear c5
    try clear c6
    try clear c7
    try clear c8
    try clear c9
    try clear c10
    try clear c21
    try clear c27
    try clear c28
    try clear c29
    try clear c31
    try clear c33
    try clear c34
    try clear c35
    try clear c38
    try clear c39
    try clear c39b0
    try clear c39b1
    try clear c40
    try clear c41
    try clear c42
    try clear c44
    try clear c45
    try clear c48
    try clear c49
    try clear c50
    try clear c52
    try clear c53
    try clear c56
    try clear c57
    try clear c58
    try clear c60
    try clear c61
    try clear c64
    try clear c67
    try clear c74
    try clear c75
    try clear c76
    try clear c79
    try clear c79b0
    try clear c81
    try clear c82
    try clear c82b0
    try clear c82b1
    try clear c83
    try clear c84
    try clear c85
    try clear c87
    try clear c88
    try clear c91
    try clear c92
    try clear c93
    try clear c95
    try clear c96
    try clear c99
    try clear c100
    try clear c101
    try clear c103
    try clear c104
    try clear DL
    try clear DM
    try clear DP
    try clear DQ
    try clear BV
    try clear BW
    try clear BZ
    try clear B0
    try clear B3
    try clear B4
    try clear B7
    try clear B8
    try clear Db
    try clear Dc
    try clear Df
    try clear Dg
    try clear Dj
    try clear Dk
    try clear Dn
    try clear Do
    try clear Dr
    try clear Ds
    try clear Dv
    try clear Dw
    try clear Dz
    try clear DA
    try clear DH
    try clear DI
    try clear DD
    try clear DE
    try clear DT
    try clear DU
    try clear DX
    try clear DY
    try clear D1
    try clear D2
    try clear D5
    try clear D6
    try clear D9
    try clear Fa
    try clear DN
    try clear DO
    try clear DR
    try clear DS
    try clear BX
    try clear BY
    try clear B1
    try clear B2
    try clear B5
    try clear B6
    try clear B9
    try clear Da
    try clear Dd
    try clear De
    try clear Dh
    try clear Di
    try clear Dl
    try clear Dm
    try clear Dp
    try clear Dq
    try clear Dt
    try clear Du
    try clear Dx
    try clear Dy
    try clear DB
    try clear DC
    try clear DJ
    try clear DK
    try clear DF
    try clear DG
    try clear DV
    try clear DW
    try clear DZ
    try clear D0
    try clear D3
    try clear D4
    try clear D7
    try clear D8
    try clear Fb
    try clear Fc
    try clear p2
    obtain ⟨kq,x76_68,rfl,HA,Fd,Bd,Bf,Ba,Bb,Bc,Bg,Be,HB⟩:=hcut
    have hl243000_68:=(Kd.R_reads' Bf.out).1
    rw [hl243000_68] at Bf
    (try simp only [hl243000_68])
    (try simp only [hl243000_68] at Bb)
    (try simp only [hl243000_68] at Bc)
    (try simp only [hl243000_68] at Bg)
    (try simp only [hl243000_68] at Be)
    (try simp only [hl243000_68] at Bd)
    (try simp only [hl243000_68] at Ba)
    cases kq with
   |zero=>exact absurd HA.out (by simp [laws_FnExactQueueTick.j1])
   |succ kj68 =>
     have H:=HA.out
     clear HA
     simp only [laws_FnExactQueueTick.j1] at H
     by_cases c107:x76_68=true
     ·subst c107
      have H1:(some false)=some r:=by rw [if_pos rfl] at H;exact H
      clear H
      have H:=H1
      clear H1
      exact absurd ((Option.some.inj H).trans hT_.out) (by decide)
     replace c107:=Bool.eq_false_iff.mpr c107
     subst c107
     have H1:((laws_markQueue.f kj68 t243 t246 1).bind fun bt259=>((laws_heldQueue.f kj68 bt259.2 t246 1).bind fun t261=>(if t261<0 then (some false) else (if t261=bt259.1 then ((laws_toQueue.f kj68 l0_0 a0_1).bind fun bt262=>((impl_QueueTick.f kj68 bt262.1 bt262.2).bind fun bt266=>((laws_eqQueue.f kj68 bt266.1 bt266.2.1 t231 t234).bind fun t273=>(if t273=true then (if bt266.2.2.1=t235 then (laws_FnExactQueueTick.j2 kj68 bt259.1 (bt266.2.2.2 != t236) bt259.2 t246) else (laws_FnExactQueueTick.j2 kj68 bt259.1 true bt259.2 t246)) else (laws_FnExactQueueTick.j2 kj68 bt259.1 true bt259.2 t246))))) else (some false)))))=some r:=by rw [if_neg (show ¬ (false=true) by decide)] at H;exact H
     clear H
     have H:=H1
     clear H1
     replace H:=oC H
     obtain ⟨⟨t259,t260⟩,A1080,H⟩:=H
     replace H:((laws_heldQueue.f kj68 t260 t246 1).bind fun t261=>(if t261<0 then (some false) else (if t261=t259 then ((laws_toQueue.f kj68 l0_0 a0_1).bind fun bt262=>((impl_QueueTick.f kj68 bt262.1 bt262.2).bind fun bt266=>((laws_eqQueue.f kj68 bt266.1 bt266.2.1 t231 t234).bind fun t273=>(if t273=true then (if bt266.2.2.1=t235 then (laws_FnExactQueueTick.j2 kj68 t259 (bt266.2.2.2 != t236) t260 t246) else (laws_FnExactQueueTick.j2 kj68 t259 true t260 t246)) else (laws_FnExactQueueTick.j2 kj68 t259 true t260 t246))))) else (some false))))=some r:=H
     have A108:=Am A1080
     clear A1080
     replace H:=oC H
     obtain ⟨t261,A1090,H⟩:=H
     replace H:(if t261<0 then (some false) else (if t261=t259 then ((laws_toQueue.f kj68 l0_0 a0_1).bind fun bt262=>((impl_QueueTick.f kj68 bt262.1 bt262.2).bind fun bt266=>((laws_eqQueue.f kj68 bt266.1 bt266.2.1 t231 t234).bind fun t273=>(if t273=true then (if bt266.2.2.1=t235 then (laws_FnExactQueueTick.j2 kj68 t259 (bt266.2.2.2 != t236) t260 t246) else (laws_FnExactQueueTick.j2 kj68 t259 true t260 t246)) else (laws_FnExactQueueTick.j2 kj68 t259 true t260 t246))))) else (some false)))=some r:=H
     have A109:=Am A1090
     clear A1090
     by_cases c110:t261<0
     ·rw [if_pos c110] at H
      have c110b0:decide (t261<0)=true:=decide_eq_true c110
      clear c110
      exact absurd ((Option.some.inj H).trans hT_.out) (by decide)
     rw [if_neg c110] at H
     have c110b0:decide (t261<0)=false:=decide_eq_false c110
     clear c110
     by_cases c111:t261=t259
     rotate_left
     ·rw [if_neg c111] at H
      have c111b0:(t261 == t259)=false:=beq_eq_false_iff_ne.mpr c111
      have c111b1:(t261 != t259)=true:=bne_iff_ne.mpr c111
      exact absurd ((Option.some.inj H).trans hT_.out) (by decide)
     rw [if_pos c111] at H
     have c111b0:(t261 == t259)=true:=beq_iff_eq.mpr c111
     have c111b1:(t261 != t259)=false:=bne_eq_false_iff_eq.mpr c111
     clear c111
     replace H:=oC H
     obtain ⟨⟨t262,t265⟩,A1120,H⟩:=H
     replace H:((impl_QueueTick.f kj68 t262 t265).bind fun bt266=>((laws_eqQueue.f kj68 bt266.1 bt266.2.1 t231 t234).bind fun t273=>(if t273=true then (if bt266.2.2.1=t235 then (laws_FnExactQueueTick.j2 kj68 t259 (bt266.2.2.2 != t236) t260 t246) else (laws_FnExactQueueTick.j2 kj68 t259 true t260 t246)) else (laws_FnExactQueueTick.j2 kj68 t259 true t260 t246))))=some r:=H
     have A112:=Am A1120
     clear A1120
     replace H:=oC H
     obtain ⟨⟨t266,t269,t270,t271⟩,A1130,H⟩:=H
     replace H:((laws_eqQueue.f kj68 t266 t269 t231 t234).bind fun t273=>(if t273=true then (if t270=t235 then (laws_FnExactQueueTick.j2 kj68 t259 (t271 != t236) t260 t246) else (laws_FnExactQueueTick.j2 kj68 t259 true t260 t246)) else (laws_FnExactQueueTick.j2 kj68 t259 true t260 t246)))=some r:=H
     have A113:=Am A1130
     clear A1130
     have HC114:=Am H
     clear H
     have F5:=BH.out
     have F6:=By.out
     have F7:=Bz.out
     have F8:=Bt.out
     have F9:=BF.out
     have Ga:=Bv.out
     have Fe:wc.cell? ⟨Bh,0,none⟩=some (.slice Ao32 t243.length co32):=(bC Be.out 0).trans rfl
     have Ff:wc.cell? ⟨Bh,1,none⟩=some (.int .i64 t246):=(bC Be.out 1).trans rfl
     have Fg:=bF Be.out 0
     have Fh:=bF Be.out 1
     go_upto_region 25 with (first|((with_reducible refine gate_callee (f:=34) rfl ?_);refine goesL_ (some 79) rfl rfl Try.func34 (by kernel_rfl) rfl #[.agg #[.slice Ao32 t243.length co32,.int .i64 t246],.int .i64 1] rfl (by (try simp only [lM,lC,lN]);first|done|rfl|(simp only [lD,lT];rfl)) ?_;(with_reducible refine (laws_markQueue.calls kj68 (fun k_=>some k_=(.slice Ao32 t243.length co32:Value).ownBlock) (.slice Ao32 t243.length co32) t243 t246 1 t259 t260 w _ ?side1 ?side2 A108.out).mono ?_);(case side1=>repeat (first|(with_reducible first|exact HB.out|apply oA|apply pN|apply o1|refine bS ?_ Bl.out|refine bS ?_ Bo.out|refine bS ?_ Bp.out|refine bS ?_ Br.out)|exact HB.out));(case side2=>exact Kd.R_tight rfl Ba.out);rintro e w119 ⟨rfl,hy0,hb,hkp⟩;refine ⟨_,rfl,?_⟩;have n0_:=Am (rM (ok':=fun k_=>some k_≠(.slice Ao26 t257.length co26:Value).ownBlock∧some k_≠(.slice Ao32 t243.length co32:Value).ownBlock) (Kd.R_keptB (Bd.out) hkp (fun k_ hk_ hs_=>(hk_.2) hs_)) (fun k_ hk_=>⟨hk_.1.1,hk_.1.2⟩));have n1_:=Am (rM (ok':=fun k_=>some k_≠(.slice Ao20 t231.length co20:Value).ownBlock∧some k_≠(.slice Ao32 t243.length co32:Value).ownBlock) (Kd.R_keptB (Bf.out) hkp (fun k_ hk_ hs_=>(hk_.2) hs_)) (fun k_ hk_=>⟨hk_.1.1,hk_.1.2⟩));have n2_:=Am (Kd.R_reok rfl hy0 (fun k_ e_=>Ba.out.1 k_ e_));have n3_:=Am (blk_kept (bL Bb.out) hkp (fun hs_=>(fun e_=>(Kd.R_ne Ba.out Bb.out (by decide)) e_) hs_));have n4_:=Am (blk_kept (bL Bc.out) hkp (fun hs_=>(fun e_=>(Kd.R_ne Ba.out Bc.out (by decide)) e_) hs_));have n5_:=Am (blk_kept (bL Bg.out) hkp (fun hs_=>(fun e_=>(Kd.R_ne Ba.out Bg.out (by decide)) e_) hs_));have n6_:=Am (blk_kept (bL Be.out) hkp (fun hs_=>(fun e_=>(Kd.R_ne Ba.out Be.out (by decide)) e_) hs_));have n7_:=Am (hb);clear Bd Bf Ba Bb Bc Bg Be HB;revert n0_ n1_ n2_ n3_ n4_ n5_ n6_ n7_;intro Bd Bf Ba Bb Bc Bg Be HB;(try clear hb);(try clear hkp);(try clear hy0);have Fi:w119.cell? ⟨Bh,0,none⟩=some (.slice Ao32 t243.length co32):=(bC Be.out 0).trans rfl;have Fj:w119.cell? ⟨Bh,1,none⟩=some (.int .i64 t246):=(bC Be.out 1).trans rfl;have Fk:=bF Be.out 0;have Fl:=bF Be.out 1)|((with_reducible refine gate_callee (f:=35) rfl ?_);refine goesL_ (some 82) rfl rfl Try.func35 (by kernel_rfl) rfl #[.agg #[.slice Ao32 t260.length co32,.int .i64 t246],.int .i64 1] rfl (by (try simp only [lM,lC,lN]);first|done|(rw [show t260.length=t243.length from (Kd.R_reads' Ba.out).1.symm] <;> rfl)|rfl|(simp only [lD,lT];rfl)) ?_;(with_reducible refine (laws_heldQueue.calls kj68 _ _ t260 t246 1 t261 _ ?side1 ?side2 A109.out).mono ?_);(case side1=>repeat (first|exact (Kd.R_reads' Ba.out).2.2|(with_reducible refine cA ?_ _)|(with_reducible refine cN ?_ _)|(with_reducible refine cD ?_)));(case side2=>rw [show t260.length=t243.length from (Kd.R_reads' Ba.out).1.symm];exact (Kd.R_reads' Ba.out).2.1);rintro e w121 ⟨rfl,hb⟩;refine ⟨_,rfl,?_⟩;have n0_:=Am (rB (rL Bd.out) hb);have n1_:=Am (rB (rL Bf.out) hb);have n2_:=Am (rB (rL Ba.out) hb);have n3_:=Am (bB (g:=Bk) (o:=.cells #[.slice A0_0 l0_0.length c0_0,.int .i64 a0_1] 43 (0,0)) (bL Bb.out) hb);have n4_:=Am (bB (g:=Bi) (o:=.cells #[.slice Ao20 t231.length co20,.int .i64 t234] 47 (0,0)) (bL Bc.out) hb);have n5_:=Am (bB (g:=Bm) (o:=.cells #[.slice Ao26 t257.length co26,.int .i64 t241] 47 (0,0)) (bL Bg.out) hb);have n6_:=Am (bB (g:=Bh) (o:=.cells #[.slice Ao32 t243.length co32,.int .i64 t246] 47 (0,0)) (bL Be.out) hb);have n7_:=Am (bP (by repeat (first|(with_reducible first|exact HB.out|apply oA|apply pN|apply o1|refine bS ?_ Bl.out|refine bS ?_ Bo.out|refine bS ?_ Bp.out|refine bS ?_ Br.out)|exact HB.out)) hb);clear Bd Bf Ba Bb Bc Bg Be HB;revert n0_ n1_ n2_ n3_ n4_ n5_ n6_ n7_;intro Bd Bf Ba Bb Bc Bg Be HB;(try clear hb);(try clear hb2);(try clear hk);(try clear hi);have Gb:=Bw.out;have Gc:=BC.out;have Gd:=BN.out;have Ge:=BT.out;have Fm:w121.cell? ⟨Bk,0,none⟩=some (.slice A0_0 l0_0.length c0_0):=(bC Bb.out 0).trans rfl;have Fn:w121.cell? ⟨Bk,1,none⟩=some (.int .i64 a0_1):=(bC Bb.out 1).trans rfl;have Fo:=bF Bb.out 0;have Fp:=bF Bb.out 1)|((with_reducible refine gate_callee (f:=31) rfl ?_);refine goesL_ (some 90) rfl rfl Try.func31 (by kernel_rfl) rfl #[.agg #[.slice A0_0 l0_0.length c0_0,.int .i64 a0_1]] rfl (by (try simp only [lM,lC,lN]);first|done|rfl|(simp only [lD,lT];rfl)) ?_;(with_reducible refine (laws_toQueue.calls kj68 _ _ l0_0 a0_1 t262 t265 _ ?side1 ?side2 A112.out).mono ?_);(case side1=>repeat (first|exact (cB HR0_0.out HB.out)|(with_reducible refine cA ?_ _)|(with_reducible refine cN ?_ _)|(with_reducible refine cD ?_)));(case side2=>exact HC0_0.out);rintro e w125 ⟨v263,rfl,ho0,hb⟩;refine ⟨_,rfl,?_⟩;have n0_:=Am (Kd.R_elder' (rL Bd.out) (Kd.R_base ho0) hb);have n1_:=Am (Kd.R_elder' (rL Bf.out) (Kd.R_base ho0) hb);have n2_:=Am (Kd.R_elder' (rL Ba.out) (Kd.R_base ho0) hb);have n3_:=Am (Kd.R_lower (Kd.R_new' (Kd.R_new' (Kd.R_new' ho0 (Kd.R_lt (rL Bd.out))) (Kd.R_lt (rL Bf.out))) (Kd.R_lt (rL Ba.out))) (bZ (by repeat (first|(with_reducible first|exact HB.out|apply oA|apply pN|apply o1|refine bS ?_ Bl.out|refine bS ?_ Bo.out|refine bS ?_ Bp.out|refine bS ?_ Br.out)|exact HB.out))));have n4_:=Am (bB (g:=Bk) (o:=.cells #[.slice A0_0 l0_0.length c0_0,.int .i64 a0_1] 43 (0,0)) (bL Bb.out) hb);have n5_:=Am (bB (g:=Bi) (o:=.cells #[.slice Ao20 t231.length co20,.int .i64 t234] 47 (0,0)) (bL Bc.out) hb);have n6_:=Am (bB (g:=Bm) (o:=.cells #[.slice Ao26 t257.length co26,.int .i64 t241] 47 (0,0)) (bL Bg.out) hb);have n7_:=Am (bB (g:=Bh) (o:=.cells #[.slice Ao32 t243.length co32,.int .i64 t246] 47 (0,0)) (bL Be.out) hb);have n8_:=Am (bP (by repeat (first|(with_reducible first|exact HB.out|apply oA|apply pN|apply o1|refine bS ?_ Bl.out|refine bS ?_ Bo.out|refine bS ?_ Bp.out|refine bS ?_ Br.out)|exact HB.out)) hb);clear Bd Bf Ba Bb Bc Bg Be HB;revert n0_ n1_ n2_ n3_ n4_ n5_ n6_ n7_ n8_;intro Bd Bf Ba BE Bb Bc Bg Be HB;(try clear hb);(try clear hb2);(try clear hk);(try clear hi);(try clear ho0);obtain ⟨Ao126,co126,eo126⟩:=Kd.R_slice BE.out;subst eo126)|((with_reducible refine gate_callee (f:=41) rfl ?_);refine goesL_ (some 91) rfl rfl Try.func41 (by kernel_rfl) rfl #[.agg #[.slice Ao126 t262.length co126,.int .i64 t265]] rfl (by (try simp only [lM,lC,lN]);first|done|rfl|(simp only [lD,lT];rfl)) ?_;(with_reducible refine (impl_QueueTick.calls kj68 _ _ t262 t265 t266 t269 t270 t271 _ ?side1 ?side2 A113.out).mono ?_);(case side1=>repeat (first|exact (Kd.R_reads' BE.out).2.2|(with_reducible refine cA ?_ _)|(with_reducible refine cN ?_ _)|(with_reducible refine cD ?_)));(case side2=>exact (Kd.R_reads' BE.out).2.1);rintro e w127 ⟨v267,rfl,ho0,hb⟩;refine ⟨_,rfl,?_⟩;have n0_:=Am (Kd.R_elder' (rL Bd.out) (Kd.R_base ho0) hb);have n1_:=Am (Kd.R_elder' (rL Bf.out) (Kd.R_base ho0) hb);have n2_:=Am (Kd.R_elder' (rL Ba.out) (Kd.R_base ho0) hb);have n3_:=Am (Kd.R_elder' (rL BE.out) (Kd.R_base ho0) hb);have n4_:=Am (Kd.R_lower (Kd.R_new' (Kd.R_new' (Kd.R_new' (Kd.R_new' ho0 (Kd.R_lt (rL Bd.out))) (Kd.R_lt (rL Bf.out))) (Kd.R_lt (rL Ba.out))) (Kd.R_lt (rL BE.out))) (bZ (by repeat (first|(with_reducible first|exact HB.out|apply oA|apply pN|apply o1|refine bS ?_ Bl.out|refine bS ?_ Bo.out|refine bS ?_ Bp.out|refine bS ?_ Br.out)|exact HB.out))));have n5_:=Am (bB (g:=Bk) (o:=.cells #[.slice A0_0 l0_0.length c0_0,.int .i64 a0_1] 43 (0,0)) (bL Bb.out) hb);have n6_:=Am (bB (g:=Bi) (o:=.cells #[.slice Ao20 t231.length co20,.int .i64 t234] 47 (0,0)) (bL Bc.out) hb);have n7_:=Am (bB (g:=Bm) (o:=.cells #[.slice Ao26 t257.length co26,.int .i64 t241] 47 (0,0)) (bL Bg.out) hb);have n8_:=Am (bB (g:=Bh) (o:=.cells #[.slice Ao32 t243.length co32,.int .i64 t246] 47 (0,0)) (bL Be.out) hb);have n9_:=Am (bP (by repeat (first|(with_reducible first|exact HB.out|apply oA|apply pN|apply o1|refine bS ?_ Bl.out|refine bS ?_ Bo.out|refine bS ?_ Bp.out|refine bS ?_ Br.out)|exact HB.out)) hb);clear Bd Bf Ba BE Bb Bc Bg Be HB;revert n0_ n1_ n2_ n3_ n4_ n5_ n6_ n7_ n8_ n9_;intro Bd Bf Ba BE BB Bb Bc Bg Be HB;(try clear hb);(try clear hb2);(try clear hk);(try clear hi);(try clear ho0))|((with_reducible refine gate_dst (N:=14) rfl ?_);refine box_event ?hg (N:=14) ?hd (cs:=#[.slice none 0 0,.int .i64 0]) (t:=47) ?hr ?_;(case hd=>rfl);(case hg=>rfl);(case hr=>first|(go_simp;done)|(go_simp;rfl));intro Bj hg w128 hbox hb;have n0_:=Am (rB (rL Bd.out) hb);have n1_:=Am (rB (rL Bf.out) hb);have n2_:=Am (rB (rL Ba.out) hb);have n3_:=Am (rB (rL BE.out) hb);have n4_:=Am (rB (rL BB.out) hb);have n5_:=Am (bB (g:=Bk) (o:=.cells #[.slice A0_0 l0_0.length c0_0,.int .i64 a0_1] 43 (0,0)) (bL Bb.out) hb);have n6_:=Am (bB (g:=Bi) (o:=.cells #[.slice Ao20 t231.length co20,.int .i64 t234] 47 (0,0)) (bL Bc.out) hb);have n7_:=Am (bB (g:=Bm) (o:=.cells #[.slice Ao26 t257.length co26,.int .i64 t241] 47 (0,0)) (bL Bg.out) hb);have n8_:=Am (bB (g:=Bh) (o:=.cells #[.slice Ao32 t243.length co32,.int .i64 t246] 47 (0,0)) (bL Be.out) hb);have n9_:=Am (bP (by repeat (first|(with_reducible first|exact HB.out|apply oA|apply pN|apply o1|refine bS ?_ Bl.out|refine bS ?_ Bo.out|refine bS ?_ Bp.out|refine bS ?_ Br.out)|exact HB.out)) hb);have n10_:=Am (hbox);have n11_:=Am ((by rw [hg];exact (bZ (by repeat (first|(with_reducible first|exact HB.out|apply oA|apply pN|apply o1|refine bS ?_ Bl.out|refine bS ?_ Bo.out|refine bS ?_ Bp.out|refine bS ?_ Br.out)|exact HB.out))):w.heap.size≤Bj));have n12_:=Am ((by rw [hg];exact (bZ (by repeat (first|(with_reducible first|exact HB.out|apply oA|apply pN|apply o1|refine bS ?_ Bl.out|refine bS ?_ Bo.out|refine bS ?_ Bp.out|refine bS ?_ Br.out)|exact HB.out))):w.heap.size≤Bj));have n13_:=Am ((by rw [hg];exact Nat.ne_of_lt (blk_lt (g:=Bk) (o:=.cells #[.slice A0_0 l0_0.length c0_0,.int .i64 a0_1] 43 (0,0)) (bL Bb.out)):Bk≠Bj));have n14_:=Am ((by rw [hg];exact Nat.ne_of_gt (blk_lt (g:=Bk) (o:=.cells #[.slice A0_0 l0_0.length c0_0,.int .i64 a0_1] 43 (0,0)) (bL Bb.out)):Bj≠Bk));have n15_:=Am ((by rw [hg];exact Nat.ne_of_lt (blk_lt (g:=Bi) (o:=.cells #[.slice Ao20 t231.length co20,.int .i64 t234] 47 (0,0)) (bL Bc.out)):Bi≠Bj));have n16_:=Am ((by rw [hg];exact Nat.ne_of_gt (blk_lt (g:=Bi) (o:=.cells #[.slice Ao20 t231.length co20,.int .i64 t234] 47 (0,0)) (bL Bc.out)):Bj≠Bi));have n17_:=Am ((by rw [hg];exact Nat.ne_of_lt (blk_lt (g:=Bm) (o:=.cells #[.slice Ao26 t257.length co26,.int .i64 t241] 47 (0,0)) (bL Bg.out)):Bm≠Bj));have n18_:=Am ((by rw [hg];exact Nat.ne_of_gt (blk_lt (g:=Bm) (o:=.cells #[.slice Ao26 t257.length co26,.int .i64 t241] 47 (0,0)) (bL Bg.out)):Bj≠Bm));have n19_:=Am ((by rw [hg];exact Nat.ne_of_lt (blk_lt (g:=Bh) (o:=.cells #[.slice Ao32 t243.length co32,.int .i64 t246] 47 (0,0)) (bL Be.out)):Bh≠Bj));have n20_:=Am ((by rw [hg];exact Nat.ne_of_gt (blk_lt (g:=Bh) (o:=.cells #[.slice Ao32 t243.length co32,.int .i64 t246] 47 (0,0)) (bL Be.out)):Bj≠Bh));clear Bd Bf Ba BE BB Bb Bc Bg Be HB;revert n0_ n1_ n2_ n3_ n4_ n5_ n6_ n7_ n8_ n9_ n10_ n11_ n12_ n13_ n14_ n15_ n16_ n17_ n18_ n19_ n20_;intro Bd Bf Ba BE BB Bb Bc Bg Be HB Bn Mn BO BJ BP BK BQ BL BR BI BM;clear hb hbox hg;obtain ⟨Ao129,co129,eo129⟩:=Kd.R_slice BB.out;subst eo129;have Gf:=BP.out;have Gg:=BJ.out;have Gh:=BQ.out;have Gi:=BK.out;have Gj:=BR.out;have Gk:=BL.out;have Gl:=BM.out;have Gm:=BI.out;have Fq:w128.cell? ⟨Bj,0,none⟩=some (.slice none 0 0):=(bC Bn.out 0).trans rfl;have Fr:w128.cell? ⟨Bj,1,none⟩=some (.int .i64 0):=(bC Bn.out 1).trans rfl;have Fs:=bF Bn.out 0;have Ft:=bF Bn.out 1))
     (try simp only [Act.put,lA,lZ,lS])
     go_cut [108] (fun v108 wc=>∃ (kq:Nat) (x108_113:Bool),v108=.bool x108_113∧Aside0 (laws_FnExactQueueTick.j2 kq t259 x108_113 t260 t246=some r)∧Aside0 (kq≤kj68)∧Aside0 (Kd.R k86 86 wc w.heap.size (fun k_=>some k_≠((.slice Ao26 t257.length co26):Value).ownBlock∧some k_≠((.slice Ao32 t243.length co32):Value).ownBlock∧some k_≠((.slice Ao129 t266.length co129):Value).ownBlock) (.slice Ao20 t231.length co20) t231)∧Aside0 (Kd.R k86 86 wc w.heap.size (fun k_=>some k_≠((.slice Ao20 t231.length co20):Value).ownBlock∧some k_≠((.slice Ao32 t243.length co32):Value).ownBlock∧some k_≠((.slice Ao129 t266.length co129):Value).ownBlock) (.slice Ao26 t257.length co26) t257)∧Aside0 (Kd.R k86 86 wc w.heap.size (fun k_=>some k_≠((.slice Ao20 t231.length co20):Value).ownBlock∧some k_≠((.slice Ao26 t257.length co26):Value).ownBlock∧some k_≠((.slice Ao129 t266.length co129):Value).ownBlock) (.slice Ao32 t243.length co32) t260)∧Aside0 (Kd.R k86 86 wc w.heap.size (fun k_=>some k_≠((.slice Ao20 t231.length co20):Value).ownBlock∧some k_≠((.slice Ao26 t257.length co26):Value).ownBlock∧some k_≠((.slice Ao32 t243.length co32):Value).ownBlock) (.slice Ao129 t266.length co129) t266)∧Aside0 (wc.heap[Bk]?=some (.cells #[(.slice A0_0 l0_0.length c0_0),.int .i64 a0_1] 43 (0,0)))∧Aside0 (wc.heap[Bi]?=some (.cells #[(.slice Ao20 t231.length co20),.int .i64 t234] 47 (0,0)))∧Aside0 (wc.heap[Bm]?=some (.cells #[(.slice Ao26 t257.length co26),.int .i64 t241] 47 (0,0)))∧Aside0 (wc.heap[Bh]?=some (.cells #[(.slice Ao32 t243.length co32),.int .i64 t246] 47 (0,0)))∧Aside0 (wc.heap[Bj]?=some (.cells #[(.slice Ao129 t266.length co129),.int .i64 t269] 47 (0,0)))∧Aside0 (Below w.heap.size w wc))
     case first =>
      have H:=HC114.out
      clear HC114
      replace H:=oC H
      obtain ⟨t273,A1350,H⟩:=H
      replace H:(if t273=true then (if t270=t235 then (laws_FnExactQueueTick.j2 kj68 t259 (t271 != t236) t260 t246) else (laws_FnExactQueueTick.j2 kj68 t259 true t260 t246)) else (laws_FnExactQueueTick.j2 kj68 t259 true t260 t246))=some r:=H
      have A135:=Am A1350
      clear A1350
      by_cases c136:t273=true
      rotate_left
      ·replace c136:=Bool.eq_false_iff.mpr c136
       subst c136
       have H1:(laws_FnExactQueueTick.j2 kj68 t259 true t260 t246)=some r:=by rw [if_neg (show ¬ (false=true) by decide)] at H;exact H
       clear H
       have H:=H1
       clear H1
       have H':=Am H
       clear H
       have GQ:=BP.out
       have GR:=BJ.out
       have GS:=BQ.out
       have GT:=BK.out
       have GU:=BR.out
       have GV:=BL.out
       have GW:=BM.out
       have GX:=BI.out
       have FK:w128.cell? ⟨Bj,0,none⟩=some (.slice none 0 0):=(bC Bn.out 0).trans rfl
       have FL:w128.cell? ⟨Bj,1,none⟩=some (.int .i64 0):=(bC Bn.out 1).trans rfl
       have FM:=bF Bn.out 0
       have FN:=bF Bn.out 1
       have GY:=BC.out
       have GZ:=Bw.out
       have G0:=Bx.out
       have G1:=BD.out
       have G2:=Bt.out
       have G3:=Bz.out
       have FO:w128.cell? ⟨Bi,0,none⟩=some (.slice Ao20 t231.length co20):=(bC Bc.out 0).trans rfl
       have FP:w128.cell? ⟨Bi,1,none⟩=some (.int .i64 t234):=(bC Bc.out 1).trans rfl
       have FQ:=bF Bc.out 0
       have FR:=bF Bc.out 1
       go_wp2_with (first|((with_reducible refine gate_callee (f:=33) rfl ?_);refine goesL_ (some 97) rfl rfl Try.func33 (by kernel_rfl) rfl #[.agg #[.slice Ao129 t266.length co129,.int .i64 t269],.agg #[.slice Ao20 t231.length co20,.int .i64 t234]] rfl (by (try simp only [lM,lC,lN]);first|done|rfl|(simp only [lD,lT];rfl)) ?_;(with_reducible refine (laws_eqQueue.calls kj68 _ _ t266 t269 _ _ t231 t234 false _ ?side1 ?side2 ?side3 ?side4 A135.out).mono ?_);(case side1=>refine (Kd.R_reads' (e:=86) (base:=w.heap.size) (ok:=fun k_=>((((True∧some k_≠(.slice Ao20 t231.length co20:Value).ownBlock)∧some k_≠(.slice Ao26 t257.length co26:Value).ownBlock)∧some k_≠(.slice Ao32 t243.length co32:Value).ownBlock)∧some k_≠(.slice Ao126 t262.length co126:Value).ownBlock)) (n:=t266.length) (c:=co129) ?_).2.2;exact (by (with_reducible repeat (first|apply rA|apply rN|apply rD));exact (rM (rF (p:=⟨Bj,1,none⟩) (rF (p:=⟨Bj,0,none⟩) (rT BB.out Bn.out (by decide)) (fun _ hk=>hk.2) (.slice Ao129 t266.length co129)) (fun _ hk=>hk.2) (.int .i64 t269)) (fun _ h_=>h_.1))));(case side2=>exact (Kd.R_reads' BB.out).2.1);(case side3=>refine (Kd.R_reads' (e:=86) (base:=w.heap.size) (ok:=fun k_=>(((some k_≠(.slice Ao26 t257.length co26:Value).ownBlock∧some k_≠(.slice Ao32 t243.length co32:Value).ownBlock)∧some k_≠(.slice Ao126 t262.length co126:Value).ownBlock)∧some k_≠(.slice Ao129 t266.length co129:Value).ownBlock)) (n:=t231.length) (c:=co20) ?_).2.2;exact (by (with_reducible repeat (first|apply rA|apply rN|apply rD));exact (rM (rF (p:=⟨Bj,1,none⟩) (rF (p:=⟨Bj,0,none⟩) (rT Bd.out Bn.out (by decide)) (fun _ hk=>hk.2) (.slice Ao129 t266.length co129)) (fun _ hk=>hk.2) (.int .i64 t269)) (fun _ h_=>h_.1))));(case side4=>exact (Kd.R_reads' Bd.out).2.1);rintro e w167 ⟨rfl,hb⟩;refine ⟨_,rfl,?_⟩;have n0_:=Am (rB (by (with_reducible repeat (first|apply rA|apply rN|apply rD));exact (rM (rF (p:=⟨Bj,1,none⟩) (rF (p:=⟨Bj,0,none⟩) (rT Bd.out Bn.out (by decide)) (fun _ hk=>hk.2) (.slice Ao129 t266.length co129)) (fun _ hk=>hk.2) (.int .i64 t269)) (fun _ h_=>h_.1))) hb);have n1_:=Am (rB (by (with_reducible repeat (first|apply rA|apply rN|apply rD));exact (rM (rF (p:=⟨Bj,1,none⟩) (rF (p:=⟨Bj,0,none⟩) (rT Bf.out Bn.out (by decide)) (fun _ hk=>hk.2) (.slice Ao129 t266.length co129)) (fun _ hk=>hk.2) (.int .i64 t269)) (fun _ h_=>h_.1))) hb);have n2_:=Am (rB (by (with_reducible repeat (first|apply rA|apply rN|apply rD));exact (rM (rF (p:=⟨Bj,1,none⟩) (rF (p:=⟨Bj,0,none⟩) (rT Ba.out Bn.out (by decide)) (fun _ hk=>hk.2) (.slice Ao129 t266.length co129)) (fun _ hk=>hk.2) (.int .i64 t269)) (fun _ h_=>h_.1))) hb);have n3_:=Am (rB (by (with_reducible repeat (first|apply rA|apply rN|apply rD));exact (rM (rF (p:=⟨Bj,1,none⟩) (rF (p:=⟨Bj,0,none⟩) (rT BE.out Bn.out (by decide)) (fun _ hk=>hk.2) (.slice Ao129 t266.length co129)) (fun _ hk=>hk.2) (.int .i64 t269)) (fun _ h_=>h_.1))) hb);have n4_:=Am (rB (by (with_reducible repeat (first|apply rA|apply rN|apply rD));exact (rM (rF (p:=⟨Bj,1,none⟩) (rF (p:=⟨Bj,0,none⟩) (rT BB.out Bn.out (by decide)) (fun _ hk=>hk.2) (.slice Ao129 t266.length co129)) (fun _ hk=>hk.2) (.int .i64 t269)) (fun _ h_=>h_.1))) hb);have n5_:=Am (bB (g:=Bk) (o:=.cells #[.slice A0_0 l0_0.length c0_0,.int .i64 a0_1] 43 (0,0)) (by (with_reducible repeat (first|refine bN ?_ _|refine bD ?_|refine bA ?_ _|refine blk_far ?_ BJ.out _));exact Bb.out) hb);have n6_:=Am (bB (g:=Bi) (o:=.cells #[.slice Ao20 t231.length co20,.int .i64 t234] 47 (0,0)) (by (with_reducible repeat (first|refine bN ?_ _|refine bD ?_|refine bA ?_ _|refine blk_far ?_ BK.out _));exact Bc.out) hb);have n7_:=Am (bB (g:=Bm) (o:=.cells #[.slice Ao26 t257.length co26,.int .i64 t241] 47 (0,0)) (by (with_reducible repeat (first|refine bN ?_ _|refine bD ?_|refine bA ?_ _|refine blk_far ?_ BL.out _));exact Bg.out) hb);have n8_:=Am (bB (g:=Bh) (o:=.cells #[.slice Ao32 t243.length co32,.int .i64 t246] 47 (0,0)) (by (with_reducible repeat (first|refine bN ?_ _|refine bD ?_|refine bA ?_ _|refine blk_far ?_ BI.out _));exact Be.out) hb);have n9_:=Am (bB (g:=Bj) (o:=.cells #[.slice Ao129 t266.length co129,.int .i64 t269] 47 (0,0)) (by (with_reducible repeat (first|refine bN ?_ _|refine bD ?_|refine bA ?_ _));refine blk_put (cs:=#[.slice Ao129 t266.length co129,.int .i64 0]) ?_ 1 _ rfl;(with_reducible repeat (first|refine bN ?_ _|refine bD ?_|refine bA ?_ _));refine blk_put (cs:=#[.slice none 0 0,.int .i64 0]) ?_ 0 _ rfl;(with_reducible repeat (first|refine bN ?_ _|refine bD ?_|refine bA ?_ _));exact Bn.out) hb);have n10_:=Am (bP (by repeat (first|(with_reducible first|exact HB.out|apply oA|apply pN|apply o1|refine bS ?_ Bl.out|refine bS ?_ Bo.out|refine bS ?_ Bp.out|refine bS ?_ Br.out|refine bS ?_ BO.out)|exact HB.out)) hb);clear Bd Bf Ba BE BB Bb Bc Bg Be Bn HB;revert n0_ n1_ n2_ n3_ n4_ n5_ n6_ n7_ n8_ n9_ n10_;intro Bd Bf Ba BE BB Bb Bc Bg Be Bn HB;(try clear hb);(try clear hb2);(try clear hk);(try clear hi)))
       go_meet
       case rel=>exact ⟨_,(true),(by first|rfl|(simp;done)|(simp [*];done)),H',⟨by have:=BU.out;have:=Fd.out;first|omega|exact Nat.le_refl _⟩,⟨by (try simp only [hl243000_68]);(with_reducible repeat (first|apply rA|apply rN|apply rD));exact rM Bd.out (fun _ hk=>⟨hk.1.1.1,⟨hk.1.1.2,hk.2⟩⟩)⟩,⟨by (try simp only [hl243000_68]);(with_reducible repeat (first|apply rA|apply rN|apply rD));exact rM Bf.out (fun _ hk=>⟨hk.1.1.1,⟨hk.1.1.2,hk.2⟩⟩)⟩,⟨by (try simp only [hl243000_68]);(with_reducible repeat (first|apply rA|apply rN|apply rD));exact rM Ba.out (fun _ hk=>⟨hk.1.1.1,⟨hk.1.1.2,hk.2⟩⟩)⟩,⟨by (try simp only [hl243000_68]);(with_reducible repeat (first|apply rA|apply rN|apply rD));exact rM BB.out (fun _ hk=>⟨hk.1.1.1.2,⟨hk.1.1.2,hk.1.2⟩⟩)⟩,⟨by (try simp only [hl243000_68]);(with_reducible repeat (first|refine bN ?_ _|refine bD ?_|refine bA ?_ _));exact Bb.out⟩,⟨by (try simp only [hl243000_68]);(with_reducible repeat (first|refine bN ?_ _|refine bD ?_|refine bA ?_ _));exact Bc.out⟩,⟨by (try simp only [hl243000_68]);(with_reducible repeat (first|refine bN ?_ _|refine bD ?_|refine bA ?_ _));exact Bg.out⟩,⟨by (try simp only [hl243000_68]);(with_reducible repeat (first|refine bN ?_ _|refine bD ?_|refine bA ?_ _));exact Be.out⟩,⟨by (try simp only [hl243000_68]);(with_reducible repeat (first|refine bN ?_ _|refine bD ?_|refine bA ?_ _));exact Bn.out⟩,⟨by repeat (first|(with_reducible first|exact HB.out|apply oA|apply pN|apply o1|refine bS ?_ Bl.out|refine bS ?_ Bo.out|refine bS ?_ Bp.out|refine bS ?_ Br.out|refine bS ?_ BO.out)|exact HB.out)⟩⟩
      subst c136
      have H1:(if t270=t235 then (laws_FnExactQueueTick.j2 kj68 t259 (t271 != t236) t260 t246) else (laws_FnExactQueueTick.j2 kj68 t259 true t260 t246))=some r:=by rw [if_pos rfl] at H;exact H
      clear H
      have H:=H1
      clear H1
      by_cases c137:t270=t235
      rotate_left
      ·rw [if_neg c137] at H
       have c137b0:(t270 == t235)=false:=beq_eq_false_iff_ne.mpr c137
       have c137b1:(t270 != t235)=true:=bne_iff_ne.mpr c137
       (first|rw [c137b0]|(simp only [i64_w,i32_w];rw [c137b0])|skip)
       have H':=Am H
       clear H
       have GC:=BP.out
       have GD:=BJ.out
       have GE:=BQ.out
       have GF:=BK.out
       have GG:=BR.out
       have GH:=BL.out
       have GI:=BM.out
       have GJ:=BI.out
       have FC:w128.cell? ⟨Bj,0,none⟩=some (.slice none 0 0):=(bC Bn.out 0).trans rfl
       have FD:w128.cell? ⟨Bj,1,none⟩=some (.int .i64 0):=(bC Bn.out 1).trans rfl
       have FE:=bF Bn.out 0
       have FF:=bF Bn.out 1
       have GK:=BC.out
       have GL:=Bw.out
       have GM:=Bx.out
       have GN:=BD.out
       have GO:=Bt.out
       have GP:=Bz.out
       have FG:w128.cell? ⟨Bi,0,none⟩=some (.slice Ao20 t231.length co20):=(bC Bc.out 0).trans rfl
       have FH:w128.cell? ⟨Bi,1,none⟩=some (.int .i64 t234):=(bC Bc.out 1).trans rfl
       have FI:=bF Bc.out 0
       have FJ:=bF Bc.out 1
       go_wp2_with (first|((with_reducible refine gate_callee (f:=33) rfl ?_);refine goesL_ (some 97) rfl rfl Try.func33 (by kernel_rfl) rfl #[.agg #[.slice Ao129 t266.length co129,.int .i64 t269],.agg #[.slice Ao20 t231.length co20,.int .i64 t234]] rfl (by (try simp only [lM,lC,lN]);first|done|rfl|(simp only [lD,lT];rfl)) ?_;(with_reducible refine (laws_eqQueue.calls kj68 _ _ t266 t269 _ _ t231 t234 true _ ?side1 ?side2 ?side3 ?side4 A135.out).mono ?_);(case side1=>refine (Kd.R_reads' (e:=86) (base:=w.heap.size) (ok:=fun k_=>((((True∧some k_≠(.slice Ao20 t231.length co20:Value).ownBlock)∧some k_≠(.slice Ao26 t257.length co26:Value).ownBlock)∧some k_≠(.slice Ao32 t243.length co32:Value).ownBlock)∧some k_≠(.slice Ao126 t262.length co126:Value).ownBlock)) (n:=t266.length) (c:=co129) ?_).2.2;exact (by (with_reducible repeat (first|apply rA|apply rN|apply rD));exact (rM (rF (p:=⟨Bj,1,none⟩) (rF (p:=⟨Bj,0,none⟩) (rT BB.out Bn.out (by decide)) (fun _ hk=>hk.2) (.slice Ao129 t266.length co129)) (fun _ hk=>hk.2) (.int .i64 t269)) (fun _ h_=>h_.1))));(case side2=>exact (Kd.R_reads' BB.out).2.1);(case side3=>refine (Kd.R_reads' (e:=86) (base:=w.heap.size) (ok:=fun k_=>(((some k_≠(.slice Ao26 t257.length co26:Value).ownBlock∧some k_≠(.slice Ao32 t243.length co32:Value).ownBlock)∧some k_≠(.slice Ao126 t262.length co126:Value).ownBlock)∧some k_≠(.slice Ao129 t266.length co129:Value).ownBlock)) (n:=t231.length) (c:=co20) ?_).2.2;exact (by (with_reducible repeat (first|apply rA|apply rN|apply rD));exact (rM (rF (p:=⟨Bj,1,none⟩) (rF (p:=⟨Bj,0,none⟩) (rT Bd.out Bn.out (by decide)) (fun _ hk=>hk.2) (.slice Ao129 t266.length co129)) (fun _ hk=>hk.2) (.int .i64 t269)) (fun _ h_=>h_.1))));(case side4=>exact (Kd.R_reads' Bd.out).2.1);rintro e w157 ⟨rfl,hb⟩;refine ⟨_,rfl,?_⟩;have n0_:=Am (rB (by (with_reducible repeat (first|apply rA|apply rN|apply rD));exact (rM (rF (p:=⟨Bj,1,none⟩) (rF (p:=⟨Bj,0,none⟩) (rT Bd.out Bn.out (by decide)) (fun _ hk=>hk.2) (.slice Ao129 t266.length co129)) (fun _ hk=>hk.2) (.int .i64 t269)) (fun _ h_=>h_.1))) hb);have n1_:=Am (rB (by (with_reducible repeat (first|apply rA|apply rN|apply rD));exact (rM (rF (p:=⟨Bj,1,none⟩) (rF (p:=⟨Bj,0,none⟩) (rT Bf.out Bn.out (by decide)) (fun _ hk=>hk.2) (.slice Ao129 t266.length co129)) (fun _ hk=>hk.2) (.int .i64 t269)) (fun _ h_=>h_.1))) hb);have n2_:=Am (rB (by (with_reducible repeat (first|apply rA|apply rN|apply rD));exact (rM (rF (p:=⟨Bj,1,none⟩) (rF (p:=⟨Bj,0,none⟩) (rT Ba.out Bn.out (by decide)) (fun _ hk=>hk.2) (.slice Ao129 t266.length co129)) (fun _ hk=>hk.2) (.int .i64 t269)) (fun _ h_=>h_.1))) hb);have n3_:=Am (rB (by (with_reducible repeat (first|apply rA|apply rN|apply rD));exact (rM (rF (p:=⟨Bj,1,none⟩) (rF (p:=⟨Bj,0,none⟩) (rT BE.out Bn.out (by decide)) (fun _ hk=>hk.2) (.slice Ao129 t266.length co129)) (fun _ hk=>hk.2) (.int .i64 t269)) (fun _ h_=>h_.1))) hb);have n4_:=Am (rB (by (with_reducible repeat (first|apply rA|apply rN|apply rD));exact (rM (rF (p:=⟨Bj,1,none⟩) (rF (p:=⟨Bj,0,none⟩) (rT BB.out Bn.out (by decide)) (fun _ hk=>hk.2) (.slice Ao129 t266.length co129)) (fun _ hk=>hk.2) (.int .i64 t269)) (fun _ h_=>h_.1))) hb);have n5_:=Am (bB (g:=Bk) (o:=.cells #[.slice A0_0 l0_0.length c0_0,.int .i64 a0_1] 43 (0,0)) (by (with_reducible repeat (first|refine bN ?_ _|refine bD ?_|refine bA ?_ _|refine blk_far ?_ BJ.out _));exact Bb.out) hb);have n6_:=Am (bB (g:=Bi) (o:=.cells #[.slice Ao20 t231.length co20,.int .i64 t234] 47 (0,0)) (by (with_reducible repeat (first|refine bN ?_ _|refine bD ?_|refine bA ?_ _|refine blk_far ?_ BK.out _));exact Bc.out) hb);have n7_:=Am (bB (g:=Bm) (o:=.cells #[.slice Ao26 t257.length co26,.int .i64 t241] 47 (0,0)) (by (with_reducible repeat (first|refine bN ?_ _|refine bD ?_|refine bA ?_ _|refine blk_far ?_ BL.out _));exact Bg.out) hb);have n8_:=Am (bB (g:=Bh) (o:=.cells #[.slice Ao32 t243.length co32,.int .i64 t246] 47 (0,0)) (by (with_reducible repeat (first|refine bN ?_ _|refine bD ?_|refine bA ?_ _|refine blk_far ?_ BI.out _));exact Be.out) hb);have n9_:=Am (bB (g:=Bj) (o:=.cells #[.slice Ao129 t266.length co129,.int .i64 t269] 47 (0,0)) (by (with_reducible repeat (first|refine bN ?_ _|refine bD ?_|refine bA ?_ _));refine blk_put (cs:=#[.slice Ao129 t266.length co129,.int .i64 0]) ?_ 1 _ rfl;(with_reducible repeat (first|refine bN ?_ _|refine bD ?_|refine bA ?_ _));refine blk_put (cs:=#[.slice none 0 0,.int .i64 0]) ?_ 0 _ rfl;(with_reducible repeat (first|refine bN ?_ _|refine bD ?_|refine bA ?_ _));exact Bn.out) hb);have n10_:=Am (bP (by repeat (first|(with_reducible first|exact HB.out|apply oA|apply pN|apply o1|refine bS ?_ Bl.out|refine bS ?_ Bo.out|refine bS ?_ Bp.out|refine bS ?_ Br.out|refine bS ?_ BO.out)|exact HB.out)) hb);clear Bd Bf Ba BE BB Bb Bc Bg Be Bn HB;revert n0_ n1_ n2_ n3_ n4_ n5_ n6_ n7_ n8_ n9_ n10_;intro Bd Bf Ba BE BB Bb Bc Bg Be Bn HB;(try clear hb);(try clear hb2);(try clear hk);(try clear hi)))
       go_meet
       case rel=>exact ⟨_,(true),(by first|rfl|(simp;done)|(simp [*];done)),H',⟨by have:=BU.out;have:=Fd.out;first|omega|exact Nat.le_refl _⟩,⟨by (try simp only [hl243000_68]);(with_reducible repeat (first|apply rA|apply rN|apply rD));exact rM Bd.out (fun _ hk=>⟨hk.1.1.1,⟨hk.1.1.2,hk.2⟩⟩)⟩,⟨by (try simp only [hl243000_68]);(with_reducible repeat (first|apply rA|apply rN|apply rD));exact rM Bf.out (fun _ hk=>⟨hk.1.1.1,⟨hk.1.1.2,hk.2⟩⟩)⟩,⟨by (try simp only [hl243000_68]);(with_reducible repeat (first|apply rA|apply rN|apply rD));exact rM Ba.out (fun _ hk=>⟨hk.1.1.1,⟨hk.1.1.2,hk.2⟩⟩)⟩,⟨by (try simp only [hl243000_68]);(with_reducible repeat (first|apply rA|apply rN|apply rD));exact rM BB.out (fun _ hk=>⟨hk.1.1.1.2,⟨hk.1.1.2,hk.1.2⟩⟩)⟩,⟨by (try simp only [hl243000_68]);(with_reducible repeat (first|refine bN ?_ _|refine bD ?_|refine bA ?_ _));exact Bb.out⟩,⟨by (try simp only [hl243000_68]);(with_reducible repeat (first|refine bN ?_ _|refine bD ?_|refine bA ?_ _));exact Bc.out⟩,⟨by (try simp only [hl243000_68]);(with_reducible repeat (first|refine bN ?_ _|refine bD ?_|refine bA ?_ _));exact Bg.out⟩,⟨by (try simp only [hl243000_68]);(with_reducible repeat (first|refine bN ?_ _|refine bD ?_|refine bA ?_ _));exact Be.out⟩,⟨by (try simp only [hl243000_68]);(with_reducible repeat (first|refine bN ?_ _|refine bD ?_|refine bA ?_ _));exact Bn.out⟩,⟨by repeat (first|(with_reducible first|exact HB.out|apply oA|apply pN|apply o1|refine bS ?_ Bl.out|refine bS ?_ Bo.out|refine bS ?_ Bp.out|refine bS ?_ Br.out|refine bS ?_ BO.out)|exact HB.out)⟩⟩
      rw [if_pos c137] at H
      have c137b0:(t270 == t235)=true:=beq_iff_eq.mpr c137
      have c137b1:(t270 != t235)=false:=bne_eq_false_iff_eq.mpr c137
      clear c137
      (first|rw [c137b0]|(simp only [i64_w,i32_w];rw [c137b0])|skip)
      have H':=Am H
      clear H
      have Gn:=BP.out
      have Gp:=BJ.out
      have Gq:=BQ.out
      have Gr:=BK.out
      have Gs:=BR.out
      have Gt:=BL.out
      have Gu:=BM.out
      have Gv:=BI.out
      have Fu:w128.cell? ⟨Bj,0,none⟩=some (.slice none 0 0):=(bC Bn.out 0).trans rfl
      have Fv:w128.cell? ⟨Bj,1,none⟩=some (.int .i64 0):=(bC Bn.out 1).trans rfl
      have Fw:=bF Bn.out 0
      have Fx:=bF Bn.out 1
      have Gw:=BC.out
      have Gx:=Bw.out
      have Gy:=Bx.out
      have Gz:=BD.out
      have GA:=Bt.out
      have GB:=Bz.out
      have Fy:w128.cell? ⟨Bi,0,none⟩=some (.slice Ao20 t231.length co20):=(bC Bc.out 0).trans rfl
      have Fz:w128.cell? ⟨Bi,1,none⟩=some (.int .i64 t234):=(bC Bc.out 1).trans rfl
      have FA:=bF Bc.out 0
      have FB:=bF Bc.out 1
      go_wp2_with (first|((with_reducible refine gate_callee (f:=33) rfl ?_);refine goesL_ (some 97) rfl rfl Try.func33 (by kernel_rfl) rfl #[.agg #[.slice Ao129 t266.length co129,.int .i64 t269],.agg #[.slice Ao20 t231.length co20,.int .i64 t234]] rfl (by (try simp only [lM,lC,lN]);first|done|rfl|(simp only [lD,lT];rfl)) ?_;(with_reducible refine (laws_eqQueue.calls kj68 _ _ t266 t269 _ _ t231 t234 true _ ?side1 ?side2 ?side3 ?side4 A135.out).mono ?_);(case side1=>refine (Kd.R_reads' (e:=86) (base:=w.heap.size) (ok:=fun k_=>((((True∧some k_≠(.slice Ao20 t231.length co20:Value).ownBlock)∧some k_≠(.slice Ao26 t257.length co26:Value).ownBlock)∧some k_≠(.slice Ao32 t243.length co32:Value).ownBlock)∧some k_≠(.slice Ao126 t262.length co126:Value).ownBlock)) (n:=t266.length) (c:=co129) ?_).2.2;exact (by (with_reducible repeat (first|apply rA|apply rN|apply rD));exact (rM (rF (p:=⟨Bj,1,none⟩) (rF (p:=⟨Bj,0,none⟩) (rT BB.out Bn.out (by decide)) (fun _ hk=>hk.2) (.slice Ao129 t266.length co129)) (fun _ hk=>hk.2) (.int .i64 t269)) (fun _ h_=>h_.1))));(case side2=>exact (Kd.R_reads' BB.out).2.1);(case side3=>refine (Kd.R_reads' (e:=86) (base:=w.heap.size) (ok:=fun k_=>(((some k_≠(.slice Ao26 t257.length co26:Value).ownBlock∧some k_≠(.slice Ao32 t243.length co32:Value).ownBlock)∧some k_≠(.slice Ao126 t262.length co126:Value).ownBlock)∧some k_≠(.slice Ao129 t266.length co129:Value).ownBlock)) (n:=t231.length) (c:=co20) ?_).2.2;exact (by (with_reducible repeat (first|apply rA|apply rN|apply rD));exact (rM (rF (p:=⟨Bj,1,none⟩) (rF (p:=⟨Bj,0,none⟩) (rT Bd.out Bn.out (by decide)) (fun _ hk=>hk.2) (.slice Ao129 t266.length co129)) (fun _ hk=>hk.2) (.int .i64 t269)) (fun _ h_=>h_.1))));(case side4=>exact (Kd.R_reads' Bd.out).2.1);rintro e w147 ⟨rfl,hb⟩;refine ⟨_,rfl,?_⟩;have n0_:=Am (rB (by (with_reducible repeat (first|apply rA|apply rN|apply rD));exact (rM (rF (p:=⟨Bj,1,none⟩) (rF (p:=⟨Bj,0,none⟩) (rT Bd.out Bn.out (by decide)) (fun _ hk=>hk.2) (.slice Ao129 t266.length co129)) (fun _ hk=>hk.2) (.int .i64 t269)) (fun _ h_=>h_.1))) hb);have n1_:=Am (rB (by (with_reducible repeat (first|apply rA|apply rN|apply rD));exact (rM (rF (p:=⟨Bj,1,none⟩) (rF (p:=⟨Bj,0,none⟩) (rT Bf.out Bn.out (by decide)) (fun _ hk=>hk.2) (.slice Ao129 t266.length co129)) (fun _ hk=>hk.2) (.int .i64 t269)) (fun _ h_=>h_.1))) hb);have n2_:=Am (rB (by (with_reducible repeat (first|apply rA|apply rN|apply rD));exact (rM (rF (p:=⟨Bj,1,none⟩) (rF (p:=⟨Bj,0,none⟩) (rT Ba.out Bn.out (by decide)) (fun _ hk=>hk.2) (.slice Ao129 t266.length co129)) (fun _ hk=>hk.2) (.int .i64 t269)) (fun _ h_=>h_.1))) hb);have n3_:=Am (rB (by (with_reducible repeat (first|apply rA|apply rN|apply rD));exact (rM (rF (p:=⟨Bj,1,none⟩) (rF (p:=⟨Bj,0,none⟩) (rT BE.out Bn.out (by decide)) (fun _ hk=>hk.2) (.slice Ao129 t266.length co129)) (fun _ hk=>hk.2) (.int .i64 t269)) (fun _ h_=>h_.1))) hb);have n4_:=Am (rB (by (with_reducible repeat (first|apply rA|apply rN|apply rD));exact (rM (rF (p:=⟨Bj,1,none⟩) (rF (p:=⟨Bj,0,none⟩) (rT BB.out Bn.out (by decide)) (fun _ hk=>hk.2) (.slice Ao129 t266.length co129)) (fun _ hk=>hk.2) (.int .i64 t269)) (fun _ h_=>h_.1))) hb);have n5_:=Am (bB (g:=Bk) (o:=.cells #[.slice A0_0 l0_0.length c0_0,.int .i64 a0_1] 43 (0,0)) (by (with_reducible repeat (first|refine bN ?_ _|refine bD ?_|refine bA ?_ _|refine blk_far ?_ BJ.out _));exact Bb.out) hb);have n6_:=Am (bB (g:=Bi) (o:=.cells #[.slice Ao20 t231.length co20,.int .i64 t234] 47 (0,0)) (by (with_reducible repeat (first|refine bN ?_ _|refine bD ?_|refine bA ?_ _|refine blk_far ?_ BK.out _));exact Bc.out) hb);have n7_:=Am (bB (g:=Bm) (o:=.cells #[.slice Ao26 t257.length co26,.int .i64 t241] 47 (0,0)) (by (with_reducible repeat (first|refine bN ?_ _|refine bD ?_|refine bA ?_ _|refine blk_far ?_ BL.out _));exact Bg.out) hb);have n8_:=Am (bB (g:=Bh) (o:=.cells #[.slice Ao32 t243.length co32,.int .i64 t246] 47 (0,0)) (by (with_reducible repeat (first|refine bN ?_ _|refine bD ?_|refine bA ?_ _|refine blk_far ?_ BI.out _));exact Be.out) hb);have n9_:=Am (bB (g:=Bj) (o:=.cells #[.slice Ao129 t266.length co129,.int .i64 t269] 47 (0,0)) (by (with_reducible repeat (first|refine bN ?_ _|refine bD ?_|refine bA ?_ _));refine blk_put (cs:=#[.slice Ao129 t266.length co129,.int .i64 0]) ?_ 1 _ rfl;(with_reducible repeat (first|refine bN ?_ _|refine bD ?_|refine bA ?_ _));refine blk_put (cs:=#[.slice none 0 0,.int .i64 0]) ?_ 0 _ rfl;(with_reducible repeat (first|refine bN ?_ _|refine bD ?_|refine bA ?_ _));exact Bn.out) hb);have n10_:=Am (bP (by repeat (first|(with_reducible first|exact HB.out|apply oA|apply pN|apply o1|refine bS ?_ Bl.out|refine bS ?_ Bo.out|refine bS ?_ Bp.out|refine bS ?_ Br.out|refine bS ?_ BO.out)|exact HB.out)) hb);clear Bd Bf Ba BE BB Bb Bc Bg Be Bn HB;revert n0_ n1_ n2_ n3_ n4_ n5_ n6_ n7_ n8_ n9_ n10_;intro Bd Bf Ba BE BB Bb Bc Bg Be Bn HB;(try clear hb);(try clear hb2);(try clear hk);(try clear hi)))
      go_meet
      case rel=>exact ⟨_,((t271 != t236)),(by first|rfl|(simp;done)|(simp [*];done)),H',⟨by have:=BU.out;have:=Fd.out;first|omega|exact Nat.le_refl _⟩,⟨by (try simp only [hl243000_68]);(with_reducible repeat (first|apply rA|apply rN|apply rD));exact rM Bd.out (fun _ hk=>⟨hk.1.1.1,⟨hk.1.1.2,hk.2⟩⟩)⟩,⟨by (try simp only [hl243000_68]);(with_reducible repeat (first|apply rA|apply rN|apply rD));exact rM Bf.out (fun _ hk=>⟨hk.1.1.1,⟨hk.1.1.2,hk.2⟩⟩)⟩,⟨by (try simp only [hl243000_68]);(with_reducible repeat (first|apply rA|apply rN|apply rD));exact rM Ba.out (fun _ hk=>⟨hk.1.1.1,⟨hk.1.1.2,hk.2⟩⟩)⟩,⟨by (try simp only [hl243000_68]);(with_reducible repeat (first|apply rA|apply rN|apply rD));exact rM BB.out (fun _ hk=>⟨hk.1.1.1.2,⟨hk.1.1.2,hk.1.2⟩⟩)⟩,⟨by (try simp only [hl243000_68]);(with_reducible repeat (first|refine bN ?_ _|refine bD ?_|refine bA ?_ _));exact Bb.out⟩,⟨by (try simp only [hl243000_68]);(with_reducible repeat (first|refine bN ?_ _|refine bD ?_|refine bA ?_ _));exact Bc.out⟩,⟨by (try simp only [hl243000_68]);(with_reducible repeat (first|refine bN ?_ _|refine bD ?_|refine bA ?_ _));exact Bg.out⟩,⟨by (try simp only [hl243000_68]);(with_reducible repeat (first|refine bN ?_ _|refine bD ?_|refine bA ?_ _));exact Be.out⟩,⟨by (try simp only [hl243000_68]);(with_reducible repeat (first|refine bN ?_ _|refine bD ?_|refine bA ?_ _));exact Bn.out⟩,⟨by repeat (first|(with_reducible first|exact HB.out|apply oA|apply pN|apply o1|refine bS ?_ Bl.out|refine bS ?_ Bo.out|refine bS ?_ Bp.out|refine bS ?_ Br.out|refine bS ?_ BO.out)|exact HB.out)⟩⟩
     case rest =>
      clear HC114
      try clear c1
      try clear c2
      try clear p2
      try clear c3
      try clear c3b0
      try clear c4
      try clear c5
      try clear c6
      try clear c7
      try clear c8
      try clear c9
      try clear c10
      try clear c11
      try clear c12
      try clear c13
      try clear c14
      try clear c15
      try clear c16
      try clear c21
      try clear c27
      try clear c28
      try clear c29
      try clear c31
      try clear c33
      try clear c34
      try clear c35
      try clear c38
      try clear c39
      try clear c39b0
      try clear c39b1
      try clear c40
      try clear c41
      try clear c42
      try clear c44
      try clear c45
      try clear c48
      try clear c49
      try clear c50
      try clear c52
      try clear c53
      try clear c56
      try clear c57
      try clear c58
      try clear c60
      try clear c61
      try clear c64
      try clear c67
      try clear c74
      try clear c75
      try clear c76
      try clear c79
      try clear c79b0
      try clear c81
      try clear c82
      try clear c82b0
      try clear c82b1
      try clear c83
      try clear c84
      try clear c85
      try clear c87
      try clear c88
      try clear c91
      try clear c92
      try clear c93
      try clear c95
      try clear c96
      try clear c99
      try clear c100
      try clear c101
      try clear c103
      try clear c104
      try clear c107
      try clear c110
      try clear c110b0
      try clear c111
      try clear c111b0
      try clear c111b1
      try clear c115
      try clear c116
      try clear c117
      try clear c122
      try clear c123
      try clear c130
      try clear c131
      try clear c132
      try clear c133
      try clear c136
      try clear c137
      try clear c137b0
      try clear c137b1
      try clear c138
      try clear c139
      try clear c140
      try clear c141
      try clear c143
      try clear c144
      try clear c145
      try clear c148
      try clear c149
      try clear c150
      try clear c151
      try clear c153
      try clear c154
      try clear c155
      try clear c158
      try clear c159
      try clear c160
      try clear c161
      try clear c163
      try clear c164
      try clear c165
      try clear DL
      try clear DM
      try clear DP
      try clear DQ
      try clear Fe
      try clear Ff
      try clear Fi
      try clear Fj
      try clear Fm
      try clear Fn
      try clear Fq
      try clear Fr
      try clear BV
      try clear BW
      try clear Fu
      try clear Fv
      try clear Fy
      try clear Fz
      try clear FC
      try clear FD
      try clear FG
      try clear FH
      try clear BZ
      try clear B0
      try clear FK
      try clear FL
      try clear FO
      try clear FP
      try clear B3
      try clear B4
      try clear B7
      try clear B8
      try clear Db
      try clear Dc
      try clear Df
      try clear Dg
      try clear Dj
      try clear Dk
      try clear Dn
      try clear Do
      try clear Dr
      try clear Ds
      try clear Dv
      try clear Dw
      try clear Dz
      try clear DA
      try clear DH
      try clear DI
      try clear DD
      try clear DE
      try clear DT
      try clear DU
      try clear DX
      try clear DY
      try clear D1
      try clear D2
      try clear D5
      try clear D6
      try clear D9
      try clear Fa
      try clear DN
      try clear DO
      try clear DR
      try clear DS
      try clear Fg
      try clear Fh
      try clear Fk
      try clear Fl
      try clear Fo
      try clear Fp
      try clear Fs
      try clear Ft
      try clear BX
      try clear BY
      try clear Fw
      try clear Fx
      try clear FA
      try clear FB
      try clear FE
      try clear FF
      try clear FI
      try clear FJ
      try clear B1
      try clear B2
      try clear FM
      try clear FN
      try clear FQ
      try clear FR
      try clear B5
      try clear B6
      try clear B9
      try clear Da
      try clear Dd
      try clear De
      try clear Dh
      try clear Di
      try clear Dl
      try clear Dm
      try clear Dp
      try clear Dq
      try clear Dt
      try clear Du
      try clear Dx
      try clear Dy
      try clear DB
      try clear DC
      try clear DJ
      try clear DK
      try clear DF
      try clear DG
      try clear DV
      try clear DW
      try clear DZ
      try clear D0
      try clear D3
      try clear D4
      try clear D7
      try clear D8
      try clear Fb
      try clear Fc
      try clear p2
      obtain ⟨kq,x108_113,rfl,HA,Mo,Bd,Bf,Ba,BS,Bb,Bc,Bg,Be,Bn,HB⟩:=hcut
      have hl250000_113:=(Kd.R_reads' Ba.out).1
      rw [hl250000_113] at Ba
      (try simp only [hl250000_113])
      (try simp only [hl250000_113] at Bb)
      (try simp only [hl250000_113] at Bc)
      (try simp only [hl250000_113] at Bg)
      (try simp only [hl250000_113] at Be)
      (try simp only [hl250000_113] at Bn)
      (try simp only [hl250000_113] at Bd)
      (try simp only [hl250000_113] at Bf)
      (try simp only [hl250000_113] at BS)
      cases kq with
     |zero=>exact absurd HA.out (by simp [laws_FnExactQueueTick.j2])
     |succ kj113 =>
       have H:=HA.out
       clear HA
       simp only [laws_FnExactQueueTick.j2] at H
       by_cases c168:x108_113=true
       ·subst c168
        have H1:(some false)=some r:=by rw [if_pos rfl] at H;exact H
        clear H
        have H:=H1
        clear H1
        exact absurd ((Option.some.inj H).trans hT_.out) (by decide)
       replace c168:=Bool.eq_false_iff.mpr c168
       subst c168
       have H1:((laws_heldQueue.f kj113 t260 t246 1).bind fun t274=>(if t274<0 then (some false) else (if t274=t259 then (some true) else (some false))))=some r:=by rw [if_neg (show ¬ (false=true) by decide)] at H;exact H
       clear H
       have H:=H1
       clear H1
       replace H:=oC H
       obtain ⟨t274,A1690,H⟩:=H
       replace H:(if t274<0 then (some false) else (if t274=t259 then (some true) else (some false)))=some r:=H
       have A169:=Am A1690
       clear A1690
       by_cases c170:t274<0
       ·rw [if_pos c170] at H
        have c170b0:decide (t274<0)=true:=decide_eq_true c170
        clear c170
        exact absurd ((Option.some.inj H).trans hT_.out) (by decide)
       rw [if_neg c170] at H
       have c170b0:decide (t274<0)=false:=decide_eq_false c170
       clear c170
       by_cases c171:t274=t259
       rotate_left
       ·rw [if_neg c171] at H
        have c171b0:(t274 == t259)=false:=beq_eq_false_iff_ne.mpr c171
        have c171b1:(t274 != t259)=true:=bne_iff_ne.mpr c171
        exact absurd ((Option.some.inj H).trans hT_.out) (by decide)
       rw [if_pos c171] at H
       have c171b0:(t274 == t259)=true:=beq_iff_eq.mpr c171
       have c171b1:(t274 != t259)=false:=bne_eq_false_iff_eq.mpr c171
       clear c171
       obtain rfl:=Option.some.inj H
       have G4:=BH.out
       have G5:=By.out
       have G6:=Bz.out
       have G7:=Bt.out
       have G8:=BF.out
       have G9:=Bv.out
       have Ja:=BI.out
       have Jb:=BM.out
       have FT:wc.cell? ⟨Bh,0,none⟩=some (.slice Ao32 t260.length co32):=(bC Be.out 0).trans rfl
       have FU:wc.cell? ⟨Bh,1,none⟩=some (.int .i64 t246):=(bC Be.out 1).trans rfl
       have FV:=bF Be.out 0
       have FW:=bF Be.out 1
       go_wp2_with (first|((with_reducible refine gate_callee (f:=35) rfl ?_);refine goesL_ (some 111) rfl rfl Try.func35 (by kernel_rfl) rfl #[.agg #[.slice Ao32 t260.length co32,.int .i64 t246],.int .i64 1] rfl (by (try simp only [lM,lC,lN]);first|done|rfl|(simp only [lD,lT];rfl)) ?_;(with_reducible refine (laws_heldQueue.calls kj113 _ _ t260 t246 1 t274 _ ?side1 ?side2 A169.out).mono ?_);(case side1=>repeat (first|exact (Kd.R_reads' Ba.out).2.2|(with_reducible refine cA ?_ _)|(with_reducible refine cN ?_ _)|(with_reducible refine cD ?_)));(case side2=>exact (Kd.R_reads' Ba.out).2.1);rintro e w177 ⟨rfl,hb⟩;refine ⟨_,rfl,?_⟩;have n0_:=Am (rB (rL Bd.out) hb);have n1_:=Am (rB (rL Bf.out) hb);have n2_:=Am (rB (rL Ba.out) hb);have n3_:=Am (rB (rL BS.out) hb);have n4_:=Am (bB (g:=Bk) (o:=.cells #[.slice A0_0 l0_0.length c0_0,.int .i64 a0_1] 43 (0,0)) (bL Bb.out) hb);have n5_:=Am (bB (g:=Bi) (o:=.cells #[.slice Ao20 t231.length co20,.int .i64 t234] 47 (0,0)) (bL Bc.out) hb);have n6_:=Am (bB (g:=Bm) (o:=.cells #[.slice Ao26 t257.length co26,.int .i64 t241] 47 (0,0)) (bL Bg.out) hb);have n7_:=Am (bB (g:=Bh) (o:=.cells #[.slice Ao32 t260.length co32,.int .i64 t246] 47 (0,0)) (bL Be.out) hb);have n8_:=Am (bB (g:=Bj) (o:=.cells #[.slice Ao129 t266.length co129,.int .i64 t269] 47 (0,0)) (bL Bn.out) hb);have n9_:=Am (bP (by repeat (first|(with_reducible first|exact HB.out|apply oA|apply pN|apply o1|refine bS ?_ Bl.out|refine bS ?_ Bo.out|refine bS ?_ Bp.out|refine bS ?_ Br.out|refine bS ?_ BO.out)|exact HB.out)) hb);clear Bd Bf Ba BS Bb Bc Bg Be Bn HB;revert n0_ n1_ n2_ n3_ n4_ n5_ n6_ n7_ n8_ n9_;intro Bd Bf Ba BS Bb Bc Bg Be Bn HB;(try clear hb);(try clear hb2);(try clear hk);(try clear hi)))
       go_ret
       exact ⟨by first|rfl|(simp [errW_none,errW_some] <;> rfl)|(simp [*,errW_none,errW_some] <;> rfl),by repeat (first|(with_reducible first|exact HB.out|apply oA|apply pN|apply o1|refine bS ?_ Bl.out|refine bS ?_ Bo.out|refine bS ?_ Bp.out|refine bS ?_ Br.out|refine bS ?_ BO.out)|exact HB.out)⟩
/-- THE ONE PURE STATEMENT of laws_FnExactQueueTick. -/
def laws_FnExactQueueTick.Pure:Prop:=∀ (l0_0:List (S108)) (a0_1:Int),l0_0.length≤9223372036854775807 → (∀ x0_ ∈ l0_0,((Lit.int .i64 x0_.f0).wf=true∧((Lit.int .i64 x0_.f1).wf=true∧((Lit.int .i64 x0_.f2).wf=true∧(True))))) → (Lit.int .i64 a0_1).wf=true → ∃ k,laws_FnExactQueueTick.f k l0_0 a0_1=some true

end Go.Proofs.Ytehekikjadjdaaa.PFnExactQueueTick
