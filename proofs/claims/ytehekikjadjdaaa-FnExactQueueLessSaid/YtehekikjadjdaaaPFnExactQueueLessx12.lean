/- Proved here, without a condition beyond those that each theorem states: what the Go functions named below do is what the plain functions of the same names say. Written by xprint.py, a program of this session. -/
import Derived.Test.YtehekikjadjdaaaPFnExactQueueLessx0
import Derived.Test.YtehekikjadjdaaaPFnExactQueueLessx1
import Derived.Test.YtehekikjadjdaaaPFnExactQueueLessx3
import Derived.Test.YtehekikjadjdaaaPFnExactQueueLessx4
import Derived.Test.YtehekikjadjdaaaPFnExactQueueLessx8
import Derived.Test.YtehekikjadjdaaaPFnExactQueueLessx11
namespace Go.Proofs.Ytehekikjadjdaaa.PFnExactQueueLess
open Go.RowKit Go.Proofs.YtehekikjadjdaaaW.PrintWords Go.Proofs.YtehekikjadjdaaaW.PrintLast Go.Proofs.YtehekikjadjdaaaW.PrintMore
attribute [local go_sem] max2_int min2_int max_two min_two max_three min_three max_four min_four   -- for this text's walks alone
set_option linter.unusedVariables false
set_option linter.unusedSimpArgs false

attribute [local go_sem ↓] isSome_setCell_
/-! ### laws_FnExactQueueLess: function 9 -/
mutual
def laws_FnExactQueueLess.j0 : Nat → Int → Bool → Bool → Bool → List (S108) → Int → List (S86) → Int → List (S86) → Int → List (S86) → Int → Option (Bool)
|0, _, _, _, _, _, _, _, _, _, _, _, _ => none
|k + 1, x1, x7, x10, x44, x220000, x220001, x231000, x231001, x236000, x236001, x242000, x242001 => if x44 = true then (some false) else ((laws_toQueue.f k x220000 x220001).bind fun bt243 => ((laws_eqQueue.f k x236000 x236001 bt243.1 bt243.2).bind fun t247 => (if t247 = true then ((laws_markQueue.f k x236000 x236001 1).bind fun bt248 => (if bt248.1 < 0 then (laws_FnExactQueueLess.j1 k x1 x7 true x220000 x220001 x231000 x231001 x242000 x242001) else ((laws_eqQueue.f k x242000 x242001 x231000 x231001).bind fun t250 => (if t250 = true then (laws_FnExactQueueLess.j1 k x1 x7 (x10 != x7) x220000 x220001 x231000 x231001 x242000 x242001) else (laws_FnExactQueueLess.j1 k x1 x7 true x220000 x220001 x231000 x231001 x242000 x242001))))) else (some false))))
def laws_FnExactQueueLess.j1 : Nat → Int → Bool → Bool → List (S108) → Int → List (S86) → Int → List (S86) → Int → Option (Bool)
|0, _, _, _, _, _, _, _, _, _ => none
|k + 1, x1, x7, x65, x220000, x220001, x231000, x231001, x242000, x242001 => if x65 = true then (some false) else ((laws_markQueue.f k x242000 x242001 1).bind fun bt251 => ((laws_heldQueue.f k bt251.2 x242001 1).bind fun t253 => (if t253 < 0 then (some false) else (if t253 = bt251.1 then ((laws_toQueue.f k x220000 x220001).bind fun bt254 => ((impl_QueueLess.f k bt254.1 bt254.2 x1).bind fun bt258 => ((laws_eqQueue.f k bt258.1 bt258.2.1 x231000 x231001).bind fun t264 => (if t264 = true then (laws_FnExactQueueLess.j2 k bt251.1 (bt258.2.2 != x7) bt251.2 x242001) else (laws_FnExactQueueLess.j2 k bt251.1 true bt251.2 x242001))))) else (some false)))))
def laws_FnExactQueueLess.j2 : Nat → Int → Bool → List (S86) → Int → Option (Bool)
|0, _, _, _, _ => none
|k + 1, x12, x92, x242000, x242001 => if x92 = true then (some false) else ((laws_heldQueue.f k x242000 x242001 1).bind fun t265 => (if t265 < 0 then (some false) else (if t265 = x12 then (some true) else (some false))))
end
def laws_FnExactQueueLess.f (k : Nat) (l0_0 : List (S108)) (a0_1 : Int) (a1 : Int) : Option (Bool) := (laws_szQueue.f l0_0 a0_1 1048576).bind fun t220 => (if t220 < 0 then (some true) else ((laws_toQueue.f k l0_0 a0_1).bind fun bt221 => ((spec_QueueLess.f k bt221.1 bt221.2 a1).bind fun bt225 => ((laws_toQueue.f k l0_0 a0_1).bind fun bt231 => ((impl_QueueLess.f k bt231.1 bt231.2 a1).bind fun bt236 => ((laws_eqQueue.f k bt236.1 bt236.2.1 bt225.1 bt225.2.1).bind fun t242 => (if t242 = true then (laws_FnExactQueueLess.j0 k a1 bt225.2.2 bt236.2.2 (bt236.2.2 != bt225.2.2) l0_0 a0_1 bt225.1 bt225.2.1 bt231.1 bt231.2 bt236.1 bt236.2.1) else (laws_FnExactQueueLess.j0 k a1 bt225.2.2 bt236.2.2 true l0_0 a0_1 bt225.1 bt225.2.1 bt231.1 bt231.2 bt236.1 bt236.2.1))))))))
theorem laws_FnExactQueueLess.mono_l : ∀ k, (∀ y0 y1 y2 y3 y4 y5 y6 y7 y8 y9 y10 y11, LeO (laws_FnExactQueueLess.j0 k y0 y1 y2 y3 y4 y5 y6 y7 y8 y9 y10 y11) (laws_FnExactQueueLess.j0 (k + 1) y0 y1 y2 y3 y4 y5 y6 y7 y8 y9 y10 y11)) ∧ (∀ y0 y1 y2 y3 y4 y5 y6 y7 y8, LeO (laws_FnExactQueueLess.j1 k y0 y1 y2 y3 y4 y5 y6 y7 y8) (laws_FnExactQueueLess.j1 (k + 1) y0 y1 y2 y3 y4 y5 y6 y7 y8)) ∧ (∀ y0 y1 y2 y3, LeO (laws_FnExactQueueLess.j2 k y0 y1 y2 y3) (laws_FnExactQueueLess.j2 (k + 1) y0 y1 y2 y3))
|0 => ⟨fun _ _ _ _ _ _ _ _ _ _ _ _ r h => by simp [laws_FnExactQueueLess.j0] at h, fun _ _ _ _ _ _ _ _ _ r h => by simp [laws_FnExactQueueLess.j1] at h, fun _ _ _ _ r h => by simp [laws_FnExactQueueLess.j2] at h⟩
|k + 1 => by
  obtain ⟨ih0, ih1, ih2⟩ := laws_FnExactQueueLess.mono_l k
  refine ⟨?_, ?_, ?_⟩
  ·intro y0 y1 y2 y3 y4 y5 y6 y7 y8 y9 y10 y11
   unfold laws_FnExactQueueLess.j0
   repeat' first
  |(with_reducible exact ih0 _ _ _ _ _ _ _ _ _ _ _ _)
  |(with_reducible exact ih1 _ _ _ _ _ _ _ _ _)
  |(with_reducible exact ih2 _ _ _ _)
  |(with_reducible exact impl_QueueLess.mono _ _ _ _)
  |(with_reducible exact laws_eqQueue.mono _ _ _ _ _)
  |(with_reducible exact laws_heldQueue.mono _ _ _ _)
  |(with_reducible exact laws_markQueue.mono _ _ _ _)
  |(with_reducible exact laws_toQueue.mono _ _ _)
  |(with_reducible exact spec_QueueLess.mono _ _ _ _)
  |(with_reducible exact LeO.refl _)
  |(with_reducible exact LeO.none _)
  |(with_reducible refine LeO.ite ?_ ?_)
  |(with_reducible refine LeO.bind ?_ (fun _ => ?_))
  |exact ih0 _ _ _ _ _ _ _ _ _ _ _ _
  |exact ih1 _ _ _ _ _ _ _ _ _
  |exact ih2 _ _ _ _
  |exact impl_QueueLess.mono _ _ _ _
  |exact laws_eqQueue.mono _ _ _ _ _
  |exact laws_heldQueue.mono _ _ _ _
  |exact laws_markQueue.mono _ _ _ _
  |exact laws_toQueue.mono _ _ _
  |exact spec_QueueLess.mono _ _ _ _
  |exact LeO.none _
  |refine LeO.ite ?_ ?_
  |refine LeO.bind ?_ (fun _ => ?_)
  ·intro y0 y1 y2 y3 y4 y5 y6 y7 y8
   unfold laws_FnExactQueueLess.j1
   repeat' first
  |(with_reducible exact ih0 _ _ _ _ _ _ _ _ _ _ _ _)
  |(with_reducible exact ih1 _ _ _ _ _ _ _ _ _)
  |(with_reducible exact ih2 _ _ _ _)
  |(with_reducible exact impl_QueueLess.mono _ _ _ _)
  |(with_reducible exact laws_eqQueue.mono _ _ _ _ _)
  |(with_reducible exact laws_heldQueue.mono _ _ _ _)
  |(with_reducible exact laws_markQueue.mono _ _ _ _)
  |(with_reducible exact laws_toQueue.mono _ _ _)
  |(with_reducible exact spec_QueueLess.mono _ _ _ _)
  |(with_reducible exact LeO.refl _)
  |(with_reducible exact LeO.none _)
  |(with_reducible refine LeO.ite ?_ ?_)
  |(with_reducible refine LeO.bind ?_ (fun _ => ?_))
  |exact ih0 _ _ _ _ _ _ _ _ _ _ _ _
  |exact ih1 _ _ _ _ _ _ _ _ _
  |exact ih2 _ _ _ _
  |exact impl_QueueLess.mono _ _ _ _
  |exact laws_eqQueue.mono _ _ _ _ _
  |exact laws_heldQueue.mono _ _ _ _
  |exact laws_markQueue.mono _ _ _ _
  |exact laws_toQueue.mono _ _ _
  |exact spec_QueueLess.mono _ _ _ _
  |exact LeO.none _
  |refine LeO.ite ?_ ?_
  |refine LeO.bind ?_ (fun _ => ?_)
  ·intro y0 y1 y2 y3
   unfold laws_FnExactQueueLess.j2
   repeat' first
  |(with_reducible exact ih0 _ _ _ _ _ _ _ _ _ _ _ _)
  |(with_reducible exact ih1 _ _ _ _ _ _ _ _ _)
  |(with_reducible exact ih2 _ _ _ _)
  |(with_reducible exact impl_QueueLess.mono _ _ _ _)
  |(with_reducible exact laws_eqQueue.mono _ _ _ _ _)
  |(with_reducible exact laws_heldQueue.mono _ _ _ _)
  |(with_reducible exact laws_markQueue.mono _ _ _ _)
  |(with_reducible exact laws_toQueue.mono _ _ _)
  |(with_reducible exact spec_QueueLess.mono _ _ _ _)
  |(with_reducible exact LeO.refl _)
  |(with_reducible exact LeO.none _)
  |(with_reducible refine LeO.ite ?_ ?_)
  |(with_reducible refine LeO.bind ?_ (fun _ => ?_))
  |exact ih0 _ _ _ _ _ _ _ _ _ _ _ _
  |exact ih1 _ _ _ _ _ _ _ _ _
  |exact ih2 _ _ _ _
  |exact impl_QueueLess.mono _ _ _ _
  |exact laws_eqQueue.mono _ _ _ _ _
  |exact laws_heldQueue.mono _ _ _ _
  |exact laws_markQueue.mono _ _ _ _
  |exact laws_toQueue.mono _ _ _
  |exact spec_QueueLess.mono _ _ _ _
  |exact LeO.none _
  |refine LeO.ite ?_ ?_
  |refine LeO.bind ?_ (fun _ => ?_)
theorem laws_FnExactQueueLess.mono : ∀ a0 a1 a2 k, LeO (laws_FnExactQueueLess.f k a0 a1 a2) (laws_FnExactQueueLess.f (k + 1) a0 a1 a2) := by
 intro a0 a1 a2 k
 obtain ⟨ih0, ih1, ih2⟩ := laws_FnExactQueueLess.mono_l k
 unfold laws_FnExactQueueLess.f
 repeat' first
  |(with_reducible exact ih0 _ _ _ _ _ _ _ _ _ _ _ _)
  |(with_reducible exact ih1 _ _ _ _ _ _ _ _ _)
  |(with_reducible exact ih2 _ _ _ _)
  |(with_reducible exact impl_QueueLess.mono _ _ _ _)
  |(with_reducible exact laws_eqQueue.mono _ _ _ _ _)
  |(with_reducible exact laws_heldQueue.mono _ _ _ _)
  |(with_reducible exact laws_markQueue.mono _ _ _ _)
  |(with_reducible exact laws_toQueue.mono _ _ _)
  |(with_reducible exact spec_QueueLess.mono _ _ _ _)
  |(with_reducible exact LeO.refl _)
  |(with_reducible exact LeO.none _)
  |(with_reducible refine LeO.ite ?_ ?_)
  |(with_reducible refine LeO.bind ?_ (fun _ => ?_))
  |exact ih0 _ _ _ _ _ _ _ _ _ _ _ _
  |exact ih1 _ _ _ _ _ _ _ _ _
  |exact ih2 _ _ _ _
  |exact impl_QueueLess.mono _ _ _ _
  |exact laws_eqQueue.mono _ _ _ _ _
  |exact laws_heldQueue.mono _ _ _ _
  |exact laws_markQueue.mono _ _ _ _
  |exact laws_toQueue.mono _ _ _
  |exact spec_QueueLess.mono _ _ _ _
  |exact LeO.none _
  |refine LeO.ite ?_ ?_
  |refine LeO.bind ?_ (fun _ => ?_)
set_option maxHeartbeats 2000000 in
set_option maxRecDepth 100000 in
theorem laws_FnExactQueueLess.calls (k:Nat) (A0_0:Option Addr) (c0_0:Nat) (l0_0:List (S108)) (a0_1:Int) (a1:Int) (r:Bool) (w:World) (hr0_0:Kd.C k108 w A0_0 l0_0.length l0_0) (hc0_0:l0_0.length≤c0_0) (h:laws_FnExactQueueLess.f k l0_0 a0_1 a1=some r) (hT_:Aside0 (r=true)) :
  Calls Try.prog 9 #[.agg #[.slice A0_0 l0_0.length c0_0,.int .i64 a0_1],.int .i64 a1] w fun e w'=>e=.returned (.bool r)∧Below w.heap.size w w':=by
 have hu43:=Try.underlying43
 have hu47:=Try.underlying47
 have HR0_0:=Am hr0_0
 have HC0_0:=Am hc0_0
 clear hr0_0 hc0_0
 have HB:=Am (Below.refl w.heap.size w)
 have H:((laws_szQueue.f l0_0 a0_1 1048576).bind fun t220=>(if t220<0 then (some true) else ((laws_toQueue.f k l0_0 a0_1).bind fun bt221=>((spec_QueueLess.f k bt221.1 bt221.2 a1).bind fun bt225=>((laws_toQueue.f k l0_0 a0_1).bind fun bt231=>((impl_QueueLess.f k bt231.1 bt231.2 a1).bind fun bt236=>((laws_eqQueue.f k bt236.1 bt236.2.1 bt225.1 bt225.2.1).bind fun t242=>(if t242=true then (laws_FnExactQueueLess.j0 k a1 bt225.2.2 bt236.2.2 (bt236.2.2 != bt225.2.2) l0_0 a0_1 bt225.1 bt225.2.1 bt231.1 bt231.2 bt236.1 bt236.2.1) else (laws_FnExactQueueLess.j0 k a1 bt225.2.2 bt236.2.2 true l0_0 a0_1 bt225.1 bt225.2.1 bt231.1 bt231.2 bt236.1 bt236.2.1)))))))))=some r:=h
 clear h
 replace H:=oC H
 obtain ⟨t220,A30,H⟩:=H
 replace H:(if t220<0 then (some true) else ((laws_toQueue.f k l0_0 a0_1).bind fun bt221=>((spec_QueueLess.f k bt221.1 bt221.2 a1).bind fun bt225=>((laws_toQueue.f k l0_0 a0_1).bind fun bt231=>((impl_QueueLess.f k bt231.1 bt231.2 a1).bind fun bt236=>((laws_eqQueue.f k bt236.1 bt236.2.1 bt225.1 bt225.2.1).bind fun t242=>(if t242=true then (laws_FnExactQueueLess.j0 k a1 bt225.2.2 bt236.2.2 (bt236.2.2 != bt225.2.2) l0_0 a0_1 bt225.1 bt225.2.1 bt231.1 bt231.2 bt236.1 bt236.2.1) else (laws_FnExactQueueLess.j0 k a1 bt225.2.2 bt236.2.2 true l0_0 a0_1 bt225.1 bt225.2.1 bt231.1 bt231.2 bt236.1 bt236.2.1))))))))=some r:=H
 have A3:=Am A30
 clear A30
 by_cases c4:t220<0
 ·rw [if_pos c4] at H
  have c4b0:decide (t220<0)=true:=decide_eq_true c4
  clear c4
  obtain rfl:=Option.some.inj H
  go_enter Try.func9,Try.ntmps9
  go_wp2_with (first|((with_reducible refine gate_dst (N:=2) rfl ?_);refine box_event ?hg (N:=2) ?hd (cs:=#[.slice A0_0 l0_0.length c0_0,.int .i64 a0_1]) (t:=43) ?hr ?_;(case hd=>rfl);(case hg=>rfl);(case hr=>first|(go_simp;done)|(go_simp;rfl));intro Bi hg w5 hbox hb;have n0_:=Am (bP (by repeat (first|(with_reducible first|exact HB.out|apply oA|apply pN|apply o1)|exact HB.out)) hb);have n1_:=Am (hbox);have n2_:=Am ((by rw [hg];exact (bZ (by repeat (first|(with_reducible first|exact HB.out|apply oA|apply pN|apply o1)|exact HB.out))):w.heap.size≤Bi));have n3_:=Am ((by rw [hg];exact (bZ (by repeat (first|(with_reducible first|exact HB.out|apply oA|apply pN|apply o1)|exact HB.out))):w.heap.size≤Bi));clear HB;revert n0_ n1_ n2_ n3_;intro HB Bb Fu Bl;clear hb hbox hg;have Dy:=cz0 Bb.out;have Dz:=cz1 Bb.out;have DA:=bF Bb.out 0;have DB:=bF Bb.out 1)|((with_reducible refine gate_callee (f:=29) rfl ?_);refine goesL_ (some 18) rfl rfl Try.func29 (by kernel_rfl) rfl #[.agg #[.slice A0_0 l0_0.length c0_0,.int .i64 a0_1],.int .i64 1048576] rfl (by (try simp only [lM,lC,lN]);first|done|rfl|(simp only [lD,lT];rfl)) ?_;(with_reducible refine (laws_szQueue.calls _ _ l0_0 a0_1 1048576 t220 _ ?side1 ?side2 A3.out).mono ?_);(case side1=>repeat (first|exact (cB HR0_0.out HB.out)|(with_reducible refine cA ?_ _)|(with_reducible refine cN ?_ _)|(with_reducible refine cD ?_)));(case side2=>exact HC0_0.out);rintro e w7 ⟨rfl,hb⟩;refine ⟨_,rfl,?_⟩;have n0_:=Am (bX Bb.out hb);have n1_:=Am (bP (by repeat (first|(with_reducible first|exact HB.out|apply oA|apply pN|apply o1|refine bS ?_ Bl.out)|exact HB.out)) hb);clear Bb HB;revert n0_ n1_;intro Bb HB;(try clear hb);(try clear hb2);(try clear hk);(try clear hi)))
  go_ret
  exact ⟨by first|rfl|(simp [errW_none,errW_some] <;> rfl)|(simp [*,errW_none,errW_some] <;> rfl),by repeat (first|(with_reducible first|exact HB.out|apply oA|apply pN|apply o1|refine bS ?_ Bl.out)|exact HB.out)⟩
 rw [if_neg c4] at H
 have c4b0:decide (t220<0)=false:=decide_eq_false c4
 clear c4
 replace H:=oC H
 obtain ⟨⟨t221,t224⟩,A80,H⟩:=H
 replace H:((spec_QueueLess.f k t221 t224 a1).bind fun bt225=>((laws_toQueue.f k l0_0 a0_1).bind fun bt231=>((impl_QueueLess.f k bt231.1 bt231.2 a1).bind fun bt236=>((laws_eqQueue.f k bt236.1 bt236.2.1 bt225.1 bt225.2.1).bind fun t242=>(if t242=true then (laws_FnExactQueueLess.j0 k a1 bt225.2.2 bt236.2.2 (bt236.2.2 != bt225.2.2) l0_0 a0_1 bt225.1 bt225.2.1 bt231.1 bt231.2 bt236.1 bt236.2.1) else (laws_FnExactQueueLess.j0 k a1 bt225.2.2 bt236.2.2 true l0_0 a0_1 bt225.1 bt225.2.1 bt231.1 bt231.2 bt236.1 bt236.2.1))))))=some r:=H
 have A8:=Am A80
 clear A80
 replace H:=oC H
 obtain ⟨⟨t225,t228,t229⟩,A90,H⟩:=H
 replace H:((laws_toQueue.f k l0_0 a0_1).bind fun bt231=>((impl_QueueLess.f k bt231.1 bt231.2 a1).bind fun bt236=>((laws_eqQueue.f k bt236.1 bt236.2.1 t225 t228).bind fun t242=>(if t242=true then (laws_FnExactQueueLess.j0 k a1 t229 bt236.2.2 (bt236.2.2 != t229) l0_0 a0_1 t225 t228 bt231.1 bt231.2 bt236.1 bt236.2.1) else (laws_FnExactQueueLess.j0 k a1 t229 bt236.2.2 true l0_0 a0_1 t225 t228 bt231.1 bt231.2 bt236.1 bt236.2.1)))))=some r:=H
 have A9:=Am A90
 clear A90
 replace H:=oC H
 obtain ⟨⟨t231,t234⟩,A100,H⟩:=H
 replace H:((impl_QueueLess.f k t231 t234 a1).bind fun bt236=>((laws_eqQueue.f k bt236.1 bt236.2.1 t225 t228).bind fun t242=>(if t242=true then (laws_FnExactQueueLess.j0 k a1 t229 bt236.2.2 (bt236.2.2 != t229) l0_0 a0_1 t225 t228 t231 t234 bt236.1 bt236.2.1) else (laws_FnExactQueueLess.j0 k a1 t229 bt236.2.2 true l0_0 a0_1 t225 t228 t231 t234 bt236.1 bt236.2.1))))=some r:=H
 have A10:=Am A100
 clear A100
 replace H:=oC H
 obtain ⟨⟨t236,t239,t240⟩,A110,H⟩:=H
 replace H:((laws_eqQueue.f k t236 t239 t225 t228).bind fun t242=>(if t242=true then (laws_FnExactQueueLess.j0 k a1 t229 t240 (t240 != t229) l0_0 a0_1 t225 t228 t231 t234 t236 t239) else (laws_FnExactQueueLess.j0 k a1 t229 t240 true l0_0 a0_1 t225 t228 t231 t234 t236 t239)))=some r:=H
 have A11:=Am A110
 clear A110
 have HC12:=Am H
 clear H
 go_enter Try.func9,Try.ntmps9
 go_upto_region 8 with (first|((with_reducible refine gate_dst (N:=2) rfl ?_);refine box_event ?hg (N:=2) ?hd (cs:=#[.slice A0_0 l0_0.length c0_0,.int .i64 a0_1]) (t:=43) ?hr ?_;(case hd=>rfl);(case hg=>rfl);(case hr=>first|(go_simp;done)|(go_simp;rfl));intro Bi hg w13 hbox hb;have n0_:=Am (bP (by repeat (first|(with_reducible first|exact HB.out|apply oA|apply pN|apply o1)|exact HB.out)) hb);have n1_:=Am (hbox);have n2_:=Am ((by rw [hg];exact (bZ (by repeat (first|(with_reducible first|exact HB.out|apply oA|apply pN|apply o1)|exact HB.out))):w.heap.size≤Bi));have n3_:=Am ((by rw [hg];exact (bZ (by repeat (first|(with_reducible first|exact HB.out|apply oA|apply pN|apply o1)|exact HB.out))):w.heap.size≤Bi));clear HB;revert n0_ n1_ n2_ n3_;intro HB Bb Fu Bl;clear hb hbox hg;have BU:=cz0 Bb.out;have BV:=cz1 Bb.out;have BW:=bF Bb.out 0;have BX:=bF Bb.out 1)|((with_reducible refine gate_callee (f:=29) rfl ?_);refine goesL_ (some 18) rfl rfl Try.func29 (by kernel_rfl) rfl #[.agg #[.slice A0_0 l0_0.length c0_0,.int .i64 a0_1],.int .i64 1048576] rfl (by (try simp only [lM,lC,lN]);first|done|rfl|(simp only [lD,lT];rfl)) ?_;(with_reducible refine (laws_szQueue.calls _ _ l0_0 a0_1 1048576 t220 _ ?side1 ?side2 A3.out).mono ?_);(case side1=>repeat (first|exact (cB HR0_0.out HB.out)|(with_reducible refine cA ?_ _)|(with_reducible refine cN ?_ _)|(with_reducible refine cD ?_)));(case side2=>exact HC0_0.out);rintro e w15 ⟨rfl,hb⟩;refine ⟨_,rfl,?_⟩;have n0_:=Am (bX Bb.out hb);have n1_:=Am (bP (by repeat (first|(with_reducible first|exact HB.out|apply oA|apply pN|apply o1|refine bS ?_ Bl.out)|exact HB.out)) hb);clear Bb HB;revert n0_ n1_;intro Bb HB;(try clear hb);(try clear hb2);(try clear hk);(try clear hi);have BY:=cz0 Bb.out;have BZ:=cz1 Bb.out;have B0:=bF Bb.out 0;have B1:=bF Bb.out 1)|((with_reducible refine gate_callee (f:=31) rfl ?_);refine goesL_ (some 23) rfl rfl Try.func31 (by kernel_rfl) rfl #[.agg #[.slice A0_0 l0_0.length c0_0,.int .i64 a0_1]] rfl (by (try simp only [lM,lC,lN]);first|done|rfl|(simp only [lD,lT];rfl)) ?_;(with_reducible refine (laws_toQueue.calls k _ _ l0_0 a0_1 t221 t224 _ ?side1 ?side2 A8.out).mono ?_);(case side1=>repeat (first|exact (cB HR0_0.out HB.out)|(with_reducible refine cA ?_ _)|(with_reducible refine cN ?_ _)|(with_reducible refine cD ?_)));(case side2=>exact HC0_0.out);rintro e w17 ⟨v222,rfl,ho0,hb⟩;refine ⟨_,rfl,?_⟩;have n0_:=Am (Kd.R_lower ho0 (bZ (by repeat (first|(with_reducible first|exact HB.out|apply oA|apply pN|apply o1|refine bS ?_ Bl.out)|exact HB.out))));have n1_:=Am (bX Bb.out hb);have n2_:=Am (bP (by repeat (first|(with_reducible first|exact HB.out|apply oA|apply pN|apply o1|refine bS ?_ Bl.out)|exact HB.out)) hb);clear Bb HB;revert n0_ n1_ n2_;intro Bq Bb HB;(try clear hb);(try clear hb2);(try clear hk);(try clear hi);(try clear ho0);obtain ⟨Ao18,co18,eo18⟩:=Kd.R_slice Bq.out;subst eo18)|((with_reducible refine gate_callee (f:=38) rfl ?_);refine goesL_ (some 25) rfl rfl Try.func38 (by kernel_rfl) rfl #[.agg #[.slice Ao18 t221.length co18,.int .i64 t224],.int .i64 a1] rfl (by (try simp only [lM,lC,lN]);first|done|rfl|(simp only [lD,lT];rfl)) ?_;(with_reducible refine (spec_QueueLess.calls k _ _ t221 t224 a1 t225 t228 t229 _ ?side1 ?side2 A9.out).mono ?_);(case side1=>exact cL (Kd.R_reads' Bq.out).2.2);(case side2=>exact (Kd.R_reads' Bq.out).2.1);rintro e w19 ⟨v226,rfl,ho0,hb⟩;refine ⟨_,rfl,?_⟩;have n0_:=Am (Kd.R_elder' (rL Bq.out) (Kd.R_base ho0) hb);have n1_:=Am (Kd.R_lower (Kd.R_new' ho0 (Kd.R_lt (rL Bq.out))) (bZ (by repeat (first|(with_reducible first|exact HB.out|apply oA|apply pN|apply o1|refine bS ?_ Bl.out)|exact HB.out))));have n2_:=Am (bX Bb.out hb);have n3_:=Am (bP (by repeat (first|(with_reducible first|exact HB.out|apply oA|apply pN|apply o1|refine bS ?_ Bl.out)|exact HB.out)) hb);clear Bq Bb HB;revert n0_ n1_ n2_ n3_;intro Bq Br Bb HB;(try clear hb);(try clear hb2);(try clear hk);(try clear hi);(try clear ho0))|((with_reducible refine gate_dst (N:=6) rfl ?_);refine box_event ?hg (N:=6) ?hd (cs:=#[.slice none 0 0,.int .i64 0]) (t:=47) ?hr ?_;(case hd=>rfl);(case hg=>rfl);(case hr=>first|(go_simp;done)|(go_simp;rfl));intro Bj hg w20 hbox hb;have n0_:=Am (rB (rL Bq.out) hb);have n1_:=Am (rB (rL Br.out) hb);have n2_:=Am (bX Bb.out hb);have n3_:=Am (bP (by repeat (first|(with_reducible first|exact HB.out|apply oA|apply pN|apply o1|refine bS ?_ Bl.out)|exact HB.out)) hb);have n4_:=Am (hbox);have n5_:=Am ((by rw [hg];exact (bZ (by repeat (first|(with_reducible first|exact HB.out|apply oA|apply pN|apply o1|refine bS ?_ Bl.out)|exact HB.out))):w.heap.size≤Bj));have n6_:=Am ((by rw [hg];exact (bZ (by repeat (first|(with_reducible first|exact HB.out|apply oA|apply pN|apply o1|refine bS ?_ Bl.out)|exact HB.out))):w.heap.size≤Bj));have n7_:=Am ((nL Bb.out hg));have n8_:=Am ((nG Bb.out hg));clear Bq Br Bb HB;revert n0_ n1_ n2_ n3_ n4_ n5_ n6_ n7_ n8_;intro Bq Br Bb HB Be Gn Bn Bw BD;clear hb hbox hg;obtain ⟨Ao21,co21,eo21⟩:=Kd.R_slice Br.out;subst eo21;have Gp:=BD.out;have Gq:=Bw.out;have B2:=cz0 Be.out;have B3:=cz1 Be.out;have B4:=bF Be.out 0;have B5:=bF Be.out 1;have B6:=cz0 Bb.out;have B7:=cz1 Bb.out;have B8:=bF Bb.out 0;have B9:=bF Bb.out 1)|((with_reducible refine gate_callee (f:=31) rfl ?_);refine goesL_ (some 29) rfl rfl Try.func31 (by kernel_rfl) rfl #[.agg #[.slice A0_0 l0_0.length c0_0,.int .i64 a0_1]] rfl (by (try simp only [lM,lC,lN]);first|done|rfl|(simp only [lD,lT];rfl)) ?_;(with_reducible refine (laws_toQueue.calls k _ _ l0_0 a0_1 t231 t234 _ ?side1 ?side2 A10.out).mono ?_);(case side1=>exact cB HR0_0.out (by repeat (first|(with_reducible first|exact HB.out|apply oA|apply pN|apply o1|refine bS ?_ Bl.out|refine bS ?_ Bn.out)|exact HB.out)));(case side2=>exact HC0_0.out);rintro e w25 ⟨v232,rfl,ho0,hb⟩;refine ⟨_,rfl,?_⟩;have n0_:=Am (Kd.R_elder' (by (with_reducible repeat (first|apply rA|apply rN|apply rD));exact (rM (rF (p:=⟨Bj,1,none⟩) (rF (p:=⟨Bj,0,none⟩) (rT Bq.out Be.out (by decide)) (fun _ hk=>hk.2) (.slice Ao21 t225.length co21)) (fun _ hk=>hk.2) (.int .i64 t228)) (fun _ h_=>h_.1))) (Kd.R_base ho0) hb);have n1_:=Am (Kd.R_elder' (by (with_reducible repeat (first|apply rA|apply rN|apply rD));exact (rM (rF (p:=⟨Bj,1,none⟩) (rF (p:=⟨Bj,0,none⟩) (rT Br.out Be.out (by decide)) (fun _ hk=>hk.2) (.slice Ao21 t225.length co21)) (fun _ hk=>hk.2) (.int .i64 t228)) (fun _ h_=>h_.1))) (Kd.R_base ho0) hb);have n2_:=Am (Kd.R_lower (Kd.R_new' (Kd.R_new' ho0 (Kd.R_lt (by (with_reducible repeat (first|apply rA|apply rN|apply rD));exact (rM (rF (p:=⟨Bj,1,none⟩) (rF (p:=⟨Bj,0,none⟩) (rT Bq.out Be.out (by decide)) (fun _ hk=>hk.2) (.slice Ao21 t225.length co21)) (fun _ hk=>hk.2) (.int .i64 t228)) (fun _ h_=>h_.1))))) (Kd.R_lt (by (with_reducible repeat (first|apply rA|apply rN|apply rD));exact (rM (rF (p:=⟨Bj,1,none⟩) (rF (p:=⟨Bj,0,none⟩) (rT Br.out Be.out (by decide)) (fun _ hk=>hk.2) (.slice Ao21 t225.length co21)) (fun _ hk=>hk.2) (.int .i64 t228)) (fun _ h_=>h_.1))))) (bZ (by repeat (first|(with_reducible first|exact HB.out|apply oA|apply pN|apply o1|refine bS ?_ Bl.out|refine bS ?_ Bn.out)|exact HB.out))));have n3_:=Am (bB (g:=Bi) (o:=.cells #[.slice A0_0 l0_0.length c0_0,.int .i64 a0_1] 43 (0,0)) (by (with_reducible repeat (first|refine bN ?_ _|refine bD ?_|refine bA ?_ _|refine blk_far ?_ Bw.out _));exact Bb.out) hb);have n4_:=Am (bB (g:=Bj) (o:=.cells #[.slice Ao21 t225.length co21,.int .i64 t228] 47 (0,0)) (by (with_reducible repeat (first|refine bN ?_ _|refine bD ?_|refine bA ?_ _));refine blk_put (cs:=#[.slice Ao21 t225.length co21,.int .i64 0]) ?_ 1 _ rfl;(with_reducible repeat (first|refine bN ?_ _|refine bD ?_|refine bA ?_ _));refine blk_put (cs:=#[.slice none 0 0,.int .i64 0]) ?_ 0 _ rfl;(with_reducible repeat (first|refine bN ?_ _|refine bD ?_|refine bA ?_ _));exact Be.out) hb);have n5_:=Am (bP (by repeat (first|(with_reducible first|exact HB.out|apply oA|apply pN|apply o1|refine bS ?_ Bl.out|refine bS ?_ Bn.out)|exact HB.out)) hb);clear Bq Br Bb Be HB;revert n0_ n1_ n2_ n3_ n4_ n5_;intro Bq Br Bt Bb Be HB;(try clear hb);(try clear hb2);(try clear hk);(try clear hi);(try clear ho0))|((with_reducible refine gate_dst (N:=8) rfl ?_);refine box_event ?hg (N:=8) ?hd (cs:=#[.slice none 0 0,.int .i64 0]) (t:=47) ?hr ?_;(case hd=>rfl);(case hg=>rfl);(case hr=>first|(go_simp;done)|(go_simp;rfl));intro Bk hg w26 hbox hb;have n0_:=Am (rB (rL Bq.out) hb);have n1_:=Am (rB (rL Br.out) hb);have n2_:=Am (rB (rL Bt.out) hb);have n3_:=Am (bX Bb.out hb);have n4_:=Am (bX Be.out hb);have n5_:=Am (bP (by repeat (first|(with_reducible first|exact HB.out|apply oA|apply pN|apply o1|refine bS ?_ Bl.out|refine bS ?_ Bn.out)|exact HB.out)) hb);have n6_:=Am (hbox);have n7_:=Am ((by rw [hg];exact (bZ (by repeat (first|(with_reducible first|exact HB.out|apply oA|apply pN|apply o1|refine bS ?_ Bl.out|refine bS ?_ Bn.out)|exact HB.out))):w.heap.size≤Bk));have n8_:=Am ((by rw [hg];exact (bZ (by repeat (first|(with_reducible first|exact HB.out|apply oA|apply pN|apply o1|refine bS ?_ Bl.out|refine bS ?_ Bn.out)|exact HB.out))):w.heap.size≤Bk));have n9_:=Am ((nL Bb.out hg));have n10_:=Am ((nG Bb.out hg));have n11_:=Am ((nL Be.out hg));have n12_:=Am ((nG Be.out hg));clear Bq Br Bt Bb Be HB;revert n0_ n1_ n2_ n3_ n4_ n5_ n6_ n7_ n8_ n9_ n10_ n11_ n12_;intro Bq Br Bt Bb Be HB Bg Gr Bp BM BP Bx BE;clear hb hbox hg;obtain ⟨Ao27,co27,eo27⟩:=Kd.R_slice Bt.out;subst eo27;have Gs:=BP.out;have Gt:=BM.out;have Gu:=BE.out;have Gv:=Bx.out;have Da:=cz0 Bg.out;have Db:=cz1 Bg.out;have Dc:=bF Bg.out 0;have Dd:=bF Bg.out 1)|((with_reducible refine gate_callee (f:=39) rfl ?_);refine goesL_ (some 33) rfl rfl Try.func39 (by kernel_rfl) rfl #[.agg #[.slice Ao27 t231.length co27,.int .i64 t234],.int .i64 a1] rfl (by (try simp only [lM,lC,lN]);first|done|rfl|(simp only [lD,lT];rfl)) ?_;(with_reducible refine (impl_QueueLess.calls k _ _ t231 t234 a1 t236 t239 t240 _ ?side1 ?side2 A11.out).mono ?_);(case side1=>refine (Kd.R_reads' (e:=86) (base:=w.heap.size) (ok:=fun k_=>((True∧some k_≠(.slice Ao18 t221.length co18:Value).ownBlock)∧some k_≠(.slice Ao21 t225.length co21:Value).ownBlock)) (n:=t231.length) (c:=co27) ?_).2.2;exact (by (with_reducible repeat (first|apply rA|apply rN|apply rD));exact (rM (rF (p:=⟨Bk,1,none⟩) (rF (p:=⟨Bk,0,none⟩) (rT Bt.out Bg.out (by decide)) (fun _ hk=>hk.2) (.slice Ao27 t231.length co27)) (fun _ hk=>hk.2) (.int .i64 t234)) (fun _ h_=>h_.1))));(case side2=>exact (Kd.R_reads' Bt.out).2.1);rintro e w31 ⟨v237,rfl,ho0,hb⟩;refine ⟨_,rfl,?_⟩;have n0_:=Am (Kd.R_elder' (by (with_reducible repeat (first|apply rA|apply rN|apply rD));exact (rM (rF (p:=⟨Bk,1,none⟩) (rF (p:=⟨Bk,0,none⟩) (rT Bq.out Bg.out (by decide)) (fun _ hk=>hk.2) (.slice Ao27 t231.length co27)) (fun _ hk=>hk.2) (.int .i64 t234)) (fun _ h_=>h_.1))) (Kd.R_base ho0) hb);have n1_:=Am (Kd.R_elder' (by (with_reducible repeat (first|apply rA|apply rN|apply rD));exact (rM (rF (p:=⟨Bk,1,none⟩) (rF (p:=⟨Bk,0,none⟩) (rT Br.out Bg.out (by decide)) (fun _ hk=>hk.2) (.slice Ao27 t231.length co27)) (fun _ hk=>hk.2) (.int .i64 t234)) (fun _ h_=>h_.1))) (Kd.R_base ho0) hb);have n2_:=Am (Kd.R_elder' (by (with_reducible repeat (first|apply rA|apply rN|apply rD));exact (rM (rF (p:=⟨Bk,1,none⟩) (rF (p:=⟨Bk,0,none⟩) (rT Bt.out Bg.out (by decide)) (fun _ hk=>hk.2) (.slice Ao27 t231.length co27)) (fun _ hk=>hk.2) (.int .i64 t234)) (fun _ h_=>h_.1))) (Kd.R_base ho0) hb);have n3_:=Am (Kd.R_lower (Kd.R_new' (Kd.R_new' (Kd.R_new' ho0 (Kd.R_lt (by (with_reducible repeat (first|apply rA|apply rN|apply rD));exact (rM (rF (p:=⟨Bk,1,none⟩) (rF (p:=⟨Bk,0,none⟩) (rT Bq.out Bg.out (by decide)) (fun _ hk=>hk.2) (.slice Ao27 t231.length co27)) (fun _ hk=>hk.2) (.int .i64 t234)) (fun _ h_=>h_.1))))) (Kd.R_lt (by (with_reducible repeat (first|apply rA|apply rN|apply rD));exact (rM (rF (p:=⟨Bk,1,none⟩) (rF (p:=⟨Bk,0,none⟩) (rT Br.out Bg.out (by decide)) (fun _ hk=>hk.2) (.slice Ao27 t231.length co27)) (fun _ hk=>hk.2) (.int .i64 t234)) (fun _ h_=>h_.1))))) (Kd.R_lt (by (with_reducible repeat (first|apply rA|apply rN|apply rD));exact (rM (rF (p:=⟨Bk,1,none⟩) (rF (p:=⟨Bk,0,none⟩) (rT Bt.out Bg.out (by decide)) (fun _ hk=>hk.2) (.slice Ao27 t231.length co27)) (fun _ hk=>hk.2) (.int .i64 t234)) (fun _ h_=>h_.1))))) (bZ (by repeat (first|(with_reducible first|exact HB.out|apply oA|apply pN|apply o1|refine bS ?_ Bl.out|refine bS ?_ Bn.out|refine bS ?_ Bp.out)|exact HB.out))));have n4_:=Am (bB (g:=Bi) (o:=.cells #[.slice A0_0 l0_0.length c0_0,.int .i64 a0_1] 43 (0,0)) (by (with_reducible repeat (first|refine bN ?_ _|refine bD ?_|refine bA ?_ _|refine blk_far ?_ BM.out _));exact Bb.out) hb);have n5_:=Am (bB (g:=Bj) (o:=.cells #[.slice Ao21 t225.length co21,.int .i64 t228] 47 (0,0)) (by (with_reducible repeat (first|refine bN ?_ _|refine bD ?_|refine bA ?_ _|refine blk_far ?_ Bx.out _));exact Be.out) hb);have n6_:=Am (bB (g:=Bk) (o:=.cells #[.slice Ao27 t231.length co27,.int .i64 t234] 47 (0,0)) (by (with_reducible repeat (first|refine bN ?_ _|refine bD ?_|refine bA ?_ _));refine blk_put (cs:=#[.slice Ao27 t231.length co27,.int .i64 0]) ?_ 1 _ rfl;(with_reducible repeat (first|refine bN ?_ _|refine bD ?_|refine bA ?_ _));refine blk_put (cs:=#[.slice none 0 0,.int .i64 0]) ?_ 0 _ rfl;(with_reducible repeat (first|refine bN ?_ _|refine bD ?_|refine bA ?_ _));exact Bg.out) hb);have n7_:=Am (bP (by repeat (first|(with_reducible first|exact HB.out|apply oA|apply pN|apply o1|refine bS ?_ Bl.out|refine bS ?_ Bn.out|refine bS ?_ Bp.out)|exact HB.out)) hb);clear Bq Br Bt Bb Be Bg HB;revert n0_ n1_ n2_ n3_ n4_ n5_ n6_ n7_;intro Bq Br Bt BA Bb Be Bg HB;(try clear hb);(try clear hb2);(try clear hk);(try clear hi);(try clear ho0))|((with_reducible refine gate_dst (N:=9) rfl ?_);refine box_event ?hg (N:=9) ?hd (cs:=#[.slice none 0 0,.int .i64 0]) (t:=47) ?hr ?_;(case hd=>rfl);(case hg=>rfl);(case hr=>first|(go_simp;done)|(go_simp;rfl));intro Bh hg w32 hbox hb;have n0_:=Am (rB (rL Bq.out) hb);have n1_:=Am (rB (rL Br.out) hb);have n2_:=Am (rB (rL Bt.out) hb);have n3_:=Am (rB (rL BA.out) hb);have n4_:=Am (bX Bb.out hb);have n5_:=Am (bX Be.out hb);have n6_:=Am (bX Bg.out hb);have n7_:=Am (bP (by repeat (first|(with_reducible first|exact HB.out|apply oA|apply pN|apply o1|refine bS ?_ Bl.out|refine bS ?_ Bn.out|refine bS ?_ Bp.out)|exact HB.out)) hb);have n8_:=Am (hbox);have n9_:=Am ((by rw [hg];exact (bZ (by repeat (first|(with_reducible first|exact HB.out|apply oA|apply pN|apply o1|refine bS ?_ Bl.out|refine bS ?_ Bn.out|refine bS ?_ Bp.out)|exact HB.out))):w.heap.size≤Bh));have n10_:=Am ((by rw [hg];exact (bZ (by repeat (first|(with_reducible first|exact HB.out|apply oA|apply pN|apply o1|refine bS ?_ Bl.out|refine bS ?_ Bn.out|refine bS ?_ Bp.out)|exact HB.out))):w.heap.size≤Bh));have n11_:=Am ((nL Bb.out hg));have n12_:=Am ((nG Bb.out hg));have n13_:=Am ((nL Be.out hg));have n14_:=Am ((nG Be.out hg));have n15_:=Am ((nL Bg.out hg));have n16_:=Am ((nG Bg.out hg));clear Bq Br Bt BA Bb Be Bg HB;revert n0_ n1_ n2_ n3_ n4_ n5_ n6_ n7_ n8_ n9_ n10_ n11_ n12_ n13_ n14_ n15_ n16_;intro Bq Br Bt BA Bb Be Bg HB Bf Gw Bs By BH Bu Bz Bv BF;clear hb hbox hg;obtain ⟨Ao33,co33,eo33⟩:=Kd.R_slice BA.out;subst eo33;have Gx:=BH.out;have Gy:=By.out;have Gz:=Bz.out;have GA:=Bu.out;have GB:=BF.out;have GC:=Bv.out;have De:=cz0 Bf.out;have Df:=cz1 Bf.out;have Dg:=bF Bf.out 0;have Dh:=bF Bf.out 1))
 (try simp only [Act.put,lA,lZ,lS])
 go_cut [44] (fun v44 wc=>∃ (kq:Nat) (x44_11:Bool),v44=.bool x44_11∧Aside0 (laws_FnExactQueueLess.j0 kq a1 t229 t240 x44_11 l0_0 a0_1 t225 t228 t231 t234 t236 t239=some r)∧Aside0 (kq≤k)∧Aside0 (Kd.R k86 86 wc w.heap.size (fun k_=>some k_≠((.slice Ao27 t231.length co27):Value).ownBlock∧some k_≠((.slice Ao33 t236.length co33):Value).ownBlock) (.slice Ao21 t225.length co21) t225)∧Aside0 (Kd.R k86 86 wc w.heap.size (fun k_=>some k_≠((.slice Ao21 t225.length co21):Value).ownBlock∧some k_≠((.slice Ao33 t236.length co33):Value).ownBlock) (.slice Ao27 t231.length co27) t231)∧Aside0 (Kd.R k86 86 wc w.heap.size (fun k_=>some k_≠((.slice Ao21 t225.length co21):Value).ownBlock∧some k_≠((.slice Ao27 t231.length co27):Value).ownBlock) (.slice Ao33 t236.length co33) t236)∧Aside0 (wc.heap[Bi]?=some (.cells #[(.slice A0_0 l0_0.length c0_0),.int .i64 a0_1] 43 (0,0)))∧Aside0 (wc.heap[Bj]?=some (.cells #[(.slice Ao21 t225.length co21),.int .i64 t228] 47 (0,0)))∧Aside0 (wc.heap[Bk]?=some (.cells #[(.slice Ao27 t231.length co27),.int .i64 t234] 47 (0,0)))∧Aside0 (wc.heap[Bh]?=some (.cells #[(.slice Ao33 t236.length co33),.int .i64 t239] 47 (0,0)))∧Aside0 (Below w.heap.size w wc))
 case first =>
  have H:=HC12.out
  clear HC12
  replace H:=oC H
  obtain ⟨t242,A380,H⟩:=H
  replace H:(if t242=true then (laws_FnExactQueueLess.j0 k a1 t229 t240 (t240 != t229) l0_0 a0_1 t225 t228 t231 t234 t236 t239) else (laws_FnExactQueueLess.j0 k a1 t229 t240 true l0_0 a0_1 t225 t228 t231 t234 t236 t239))=some r:=H
  have A38:=Am A380
  clear A380
  by_cases c39:t242=true
  ·subst c39
   have H1:(laws_FnExactQueueLess.j0 k a1 t229 t240 (t240 != t229) l0_0 a0_1 t225 t228 t231 t234 t236 t239)=some r:=by rw [if_pos rfl] at H;exact H
   clear H
   have H:=H1
   clear H1
   have H':=Am H
   clear H
   have GD:=BH.out
   have GE:=By.out
   have GF:=Bz.out
   have GG:=Bu.out
   have GH:=BF.out
   have GI:=Bv.out
   have Di:=cz0 Bf.out
   have Dj:=cz1 Bf.out
   have Dk:=bF Bf.out 0
   have Dl:=bF Bf.out 1
   have GJ:=BD.out
   have GK:=Bw.out
   have GL:=Bx.out
   have GM:=BE.out
   have Dm:=cz0 Be.out
   have Dn:=cz1 Be.out
   have Do:=bF Be.out 0
   have Dp:=bF Be.out 1
   go_wp2_with (first|((with_reducible refine gate_callee (f:=33) rfl ?_);refine goesL_ (some 38) rfl rfl Try.func33 (by kernel_rfl) rfl #[.agg #[.slice Ao33 t236.length co33,.int .i64 t239],.agg #[.slice Ao21 t225.length co21,.int .i64 t228]] rfl (by (try simp only [lM,lC,lN]);first|done|rfl|(simp only [lD,lT];rfl)) ?_;(with_reducible refine (laws_eqQueue.calls k _ _ t236 t239 _ _ t225 t228 true _ ?side1 ?side2 ?side3 ?side4 A38.out).mono ?_);(case side1=>refine (Kd.R_reads' (e:=86) (base:=w.heap.size) (ok:=fun k_=>(((True∧some k_≠(.slice Ao18 t221.length co18:Value).ownBlock)∧some k_≠(.slice Ao21 t225.length co21:Value).ownBlock)∧some k_≠(.slice Ao27 t231.length co27:Value).ownBlock)) (n:=t236.length) (c:=co33) ?_).2.2;exact (by (with_reducible repeat (first|apply rA|apply rN|apply rD));exact (rM (rF (p:=⟨Bh,1,none⟩) (rF (p:=⟨Bh,0,none⟩) (rT BA.out Bf.out (by decide)) (fun _ hk=>hk.2) (.slice Ao33 t236.length co33)) (fun _ hk=>hk.2) (.int .i64 t239)) (fun _ h_=>h_.1))));(case side2=>exact (Kd.R_reads' BA.out).2.1);(case side3=>refine (Kd.R_reads' (e:=86) (base:=w.heap.size) (ok:=fun k_=>(((True∧some k_≠(.slice Ao18 t221.length co18:Value).ownBlock)∧some k_≠(.slice Ao27 t231.length co27:Value).ownBlock)∧some k_≠(.slice Ao33 t236.length co33:Value).ownBlock)) (n:=t225.length) (c:=co21) ?_).2.2;exact (by (with_reducible repeat (first|apply rA|apply rN|apply rD));exact (rM (rF (p:=⟨Bh,1,none⟩) (rF (p:=⟨Bh,0,none⟩) (rT Br.out Bf.out (by decide)) (fun _ hk=>hk.2) (.slice Ao33 t236.length co33)) (fun _ hk=>hk.2) (.int .i64 t239)) (fun _ h_=>h_.1))));(case side4=>exact (Kd.R_reads' Br.out).2.1);rintro e w47 ⟨rfl,hb⟩;refine ⟨_,rfl,?_⟩;have n0_:=Am (rB (by (with_reducible repeat (first|apply rA|apply rN|apply rD));exact (rM (rF (p:=⟨Bh,1,none⟩) (rF (p:=⟨Bh,0,none⟩) (rT Bq.out Bf.out (by decide)) (fun _ hk=>hk.2) (.slice Ao33 t236.length co33)) (fun _ hk=>hk.2) (.int .i64 t239)) (fun _ h_=>h_.1))) hb);have n1_:=Am (rB (by (with_reducible repeat (first|apply rA|apply rN|apply rD));exact (rM (rF (p:=⟨Bh,1,none⟩) (rF (p:=⟨Bh,0,none⟩) (rT Br.out Bf.out (by decide)) (fun _ hk=>hk.2) (.slice Ao33 t236.length co33)) (fun _ hk=>hk.2) (.int .i64 t239)) (fun _ h_=>h_.1))) hb);have n2_:=Am (rB (by (with_reducible repeat (first|apply rA|apply rN|apply rD));exact (rM (rF (p:=⟨Bh,1,none⟩) (rF (p:=⟨Bh,0,none⟩) (rT Bt.out Bf.out (by decide)) (fun _ hk=>hk.2) (.slice Ao33 t236.length co33)) (fun _ hk=>hk.2) (.int .i64 t239)) (fun _ h_=>h_.1))) hb);have n3_:=Am (rB (by (with_reducible repeat (first|apply rA|apply rN|apply rD));exact (rM (rF (p:=⟨Bh,1,none⟩) (rF (p:=⟨Bh,0,none⟩) (rT BA.out Bf.out (by decide)) (fun _ hk=>hk.2) (.slice Ao33 t236.length co33)) (fun _ hk=>hk.2) (.int .i64 t239)) (fun _ h_=>h_.1))) hb);have n4_:=Am (bB (g:=Bi) (o:=.cells #[.slice A0_0 l0_0.length c0_0,.int .i64 a0_1] 43 (0,0)) (by (with_reducible repeat (first|refine bN ?_ _|refine bD ?_|refine bA ?_ _|refine blk_far ?_ By.out _));exact Bb.out) hb);have n5_:=Am (bB (g:=Bj) (o:=.cells #[.slice Ao21 t225.length co21,.int .i64 t228] 47 (0,0)) (by (with_reducible repeat (first|refine bN ?_ _|refine bD ?_|refine bA ?_ _|refine blk_far ?_ Bu.out _));exact Be.out) hb);have n6_:=Am (bB (g:=Bk) (o:=.cells #[.slice Ao27 t231.length co27,.int .i64 t234] 47 (0,0)) (by (with_reducible repeat (first|refine bN ?_ _|refine bD ?_|refine bA ?_ _|refine blk_far ?_ Bv.out _));exact Bg.out) hb);have n7_:=Am (bB (g:=Bh) (o:=.cells #[.slice Ao33 t236.length co33,.int .i64 t239] 47 (0,0)) (by (with_reducible repeat (first|refine bN ?_ _|refine bD ?_|refine bA ?_ _));refine blk_put (cs:=#[.slice Ao33 t236.length co33,.int .i64 0]) ?_ 1 _ rfl;(with_reducible repeat (first|refine bN ?_ _|refine bD ?_|refine bA ?_ _));refine blk_put (cs:=#[.slice none 0 0,.int .i64 0]) ?_ 0 _ rfl;(with_reducible repeat (first|refine bN ?_ _|refine bD ?_|refine bA ?_ _));exact Bf.out) hb);have n8_:=Am (bP (by repeat (first|(with_reducible first|exact HB.out|apply oA|apply pN|apply o1|refine bS ?_ Bl.out|refine bS ?_ Bn.out|refine bS ?_ Bp.out|refine bS ?_ Bs.out)|exact HB.out)) hb);clear Bq Br Bt BA Bb Be Bg Bf HB;revert n0_ n1_ n2_ n3_ n4_ n5_ n6_ n7_ n8_;intro Bq Br Bt BA Bb Be Bg Bf HB;(try clear hb);(try clear hb2);(try clear hk);(try clear hi)))
   go_meet
   case rel=>exact ⟨_,((t240 != t229)),(by first|rfl|(simp;done)|(simp [*];done)),H',⟨by first|omega|exact Nat.le_refl _⟩,⟨by (with_reducible repeat (first|apply rA|apply rN|apply rD));exact rM Br.out (fun _ hk=>⟨hk.1.2,hk.2⟩)⟩,⟨by (with_reducible repeat (first|apply rA|apply rN|apply rD));exact rM Bt.out (fun _ hk=>⟨hk.1.2,hk.2⟩)⟩,⟨by (with_reducible repeat (first|apply rA|apply rN|apply rD));exact rM BA.out (fun _ hk=>⟨hk.1.2,hk.2⟩)⟩,⟨by (with_reducible repeat (first|refine bN ?_ _|refine bD ?_|refine bA ?_ _));exact Bb.out⟩,⟨by (with_reducible repeat (first|refine bN ?_ _|refine bD ?_|refine bA ?_ _));exact Be.out⟩,⟨by (with_reducible repeat (first|refine bN ?_ _|refine bD ?_|refine bA ?_ _));exact Bg.out⟩,⟨by (with_reducible repeat (first|refine bN ?_ _|refine bD ?_|refine bA ?_ _));exact Bf.out⟩,⟨by repeat (first|(with_reducible first|exact HB.out|apply oA|apply pN|apply o1|refine bS ?_ Bl.out|refine bS ?_ Bn.out|refine bS ?_ Bp.out|refine bS ?_ Bs.out)|exact HB.out)⟩⟩
  replace c39:=Bool.eq_false_iff.mpr c39
  subst c39
  have H1:(laws_FnExactQueueLess.j0 k a1 t229 t240 true l0_0 a0_1 t225 t228 t231 t234 t236 t239)=some r:=by rw [if_neg (show ¬ (false=true) by decide)] at H;exact H
  clear H
  have H:=H1
  clear H1
  have H':=Am H
  clear H
  have GN:=BH.out
  have GO:=By.out
  have GP:=Bz.out
  have GQ:=Bu.out
  have GR:=BF.out
  have GS:=Bv.out
  have Dq:=cz0 Bf.out
  have Dr:=cz1 Bf.out
  have Ds:=bF Bf.out 0
  have Dt:=bF Bf.out 1
  have GT:=BD.out
  have GU:=Bw.out
  have GV:=Bx.out
  have GW:=BE.out
  have Du:=cz0 Be.out
  have Dv:=cz1 Be.out
  have Dw:=bF Be.out 0
  have Dx:=bF Be.out 1
  go_wp2_with (first|((with_reducible refine gate_callee (f:=33) rfl ?_);refine goesL_ (some 38) rfl rfl Try.func33 (by kernel_rfl) rfl #[.agg #[.slice Ao33 t236.length co33,.int .i64 t239],.agg #[.slice Ao21 t225.length co21,.int .i64 t228]] rfl (by (try simp only [lM,lC,lN]);first|done|rfl|(simp only [lD,lT];rfl)) ?_;(with_reducible refine (laws_eqQueue.calls k _ _ t236 t239 _ _ t225 t228 false _ ?side1 ?side2 ?side3 ?side4 A38.out).mono ?_);(case side1=>refine (Kd.R_reads' (e:=86) (base:=w.heap.size) (ok:=fun k_=>(((True∧some k_≠(.slice Ao18 t221.length co18:Value).ownBlock)∧some k_≠(.slice Ao21 t225.length co21:Value).ownBlock)∧some k_≠(.slice Ao27 t231.length co27:Value).ownBlock)) (n:=t236.length) (c:=co33) ?_).2.2;exact (by (with_reducible repeat (first|apply rA|apply rN|apply rD));exact (rM (rF (p:=⟨Bh,1,none⟩) (rF (p:=⟨Bh,0,none⟩) (rT BA.out Bf.out (by decide)) (fun _ hk=>hk.2) (.slice Ao33 t236.length co33)) (fun _ hk=>hk.2) (.int .i64 t239)) (fun _ h_=>h_.1))));(case side2=>exact (Kd.R_reads' BA.out).2.1);(case side3=>refine (Kd.R_reads' (e:=86) (base:=w.heap.size) (ok:=fun k_=>(((True∧some k_≠(.slice Ao18 t221.length co18:Value).ownBlock)∧some k_≠(.slice Ao27 t231.length co27:Value).ownBlock)∧some k_≠(.slice Ao33 t236.length co33:Value).ownBlock)) (n:=t225.length) (c:=co21) ?_).2.2;exact (by (with_reducible repeat (first|apply rA|apply rN|apply rD));exact (rM (rF (p:=⟨Bh,1,none⟩) (rF (p:=⟨Bh,0,none⟩) (rT Br.out Bf.out (by decide)) (fun _ hk=>hk.2) (.slice Ao33 t236.length co33)) (fun _ hk=>hk.2) (.int .i64 t239)) (fun _ h_=>h_.1))));(case side4=>exact (Kd.R_reads' Br.out).2.1);rintro e w55 ⟨rfl,hb⟩;refine ⟨_,rfl,?_⟩;have n0_:=Am (rB (by (with_reducible repeat (first|apply rA|apply rN|apply rD));exact (rM (rF (p:=⟨Bh,1,none⟩) (rF (p:=⟨Bh,0,none⟩) (rT Bq.out Bf.out (by decide)) (fun _ hk=>hk.2) (.slice Ao33 t236.length co33)) (fun _ hk=>hk.2) (.int .i64 t239)) (fun _ h_=>h_.1))) hb);have n1_:=Am (rB (by (with_reducible repeat (first|apply rA|apply rN|apply rD));exact (rM (rF (p:=⟨Bh,1,none⟩) (rF (p:=⟨Bh,0,none⟩) (rT Br.out Bf.out (by decide)) (fun _ hk=>hk.2) (.slice Ao33 t236.length co33)) (fun _ hk=>hk.2) (.int .i64 t239)) (fun _ h_=>h_.1))) hb);have n2_:=Am (rB (by (with_reducible repeat (first|apply rA|apply rN|apply rD));exact (rM (rF (p:=⟨Bh,1,none⟩) (rF (p:=⟨Bh,0,none⟩) (rT Bt.out Bf.out (by decide)) (fun _ hk=>hk.2) (.slice Ao33 t236.length co33)) (fun _ hk=>hk.2) (.int .i64 t239)) (fun _ h_=>h_.1))) hb);have n3_:=Am (rB (by (with_reducible repeat (first|apply rA|apply rN|apply rD));exact (rM (rF (p:=⟨Bh,1,none⟩) (rF (p:=⟨Bh,0,none⟩) (rT BA.out Bf.out (by decide)) (fun _ hk=>hk.2) (.slice Ao33 t236.length co33)) (fun _ hk=>hk.2) (.int .i64 t239)) (fun _ h_=>h_.1))) hb);have n4_:=Am (bB (g:=Bi) (o:=.cells #[.slice A0_0 l0_0.length c0_0,.int .i64 a0_1] 43 (0,0)) (by (with_reducible repeat (first|refine bN ?_ _|refine bD ?_|refine bA ?_ _|refine blk_far ?_ By.out _));exact Bb.out) hb);have n5_:=Am (bB (g:=Bj) (o:=.cells #[.slice Ao21 t225.length co21,.int .i64 t228] 47 (0,0)) (by (with_reducible repeat (first|refine bN ?_ _|refine bD ?_|refine bA ?_ _|refine blk_far ?_ Bu.out _));exact Be.out) hb);have n6_:=Am (bB (g:=Bk) (o:=.cells #[.slice Ao27 t231.length co27,.int .i64 t234] 47 (0,0)) (by (with_reducible repeat (first|refine bN ?_ _|refine bD ?_|refine bA ?_ _|refine blk_far ?_ Bv.out _));exact Bg.out) hb);have n7_:=Am (bB (g:=Bh) (o:=.cells #[.slice Ao33 t236.length co33,.int .i64 t239] 47 (0,0)) (by (with_reducible repeat (first|refine bN ?_ _|refine bD ?_|refine bA ?_ _));refine blk_put (cs:=#[.slice Ao33 t236.length co33,.int .i64 0]) ?_ 1 _ rfl;(with_reducible repeat (first|refine bN ?_ _|refine bD ?_|refine bA ?_ _));refine blk_put (cs:=#[.slice none 0 0,.int .i64 0]) ?_ 0 _ rfl;(with_reducible repeat (first|refine bN ?_ _|refine bD ?_|refine bA ?_ _));exact Bf.out) hb);have n8_:=Am (bP (by repeat (first|(with_reducible first|exact HB.out|apply oA|apply pN|apply o1|refine bS ?_ Bl.out|refine bS ?_ Bn.out|refine bS ?_ Bp.out|refine bS ?_ Bs.out)|exact HB.out)) hb);clear Bq Br Bt BA Bb Be Bg Bf HB;revert n0_ n1_ n2_ n3_ n4_ n5_ n6_ n7_ n8_;intro Bq Br Bt BA Bb Be Bg Bf HB;(try clear hb);(try clear hb2);(try clear hk);(try clear hi)))
  go_meet
  case rel=>exact ⟨_,(true),(by first|rfl|(simp;done)|(simp [*];done)),H',⟨by first|omega|exact Nat.le_refl _⟩,⟨by (with_reducible repeat (first|apply rA|apply rN|apply rD));exact rM Br.out (fun _ hk=>⟨hk.1.2,hk.2⟩)⟩,⟨by (with_reducible repeat (first|apply rA|apply rN|apply rD));exact rM Bt.out (fun _ hk=>⟨hk.1.2,hk.2⟩)⟩,⟨by (with_reducible repeat (first|apply rA|apply rN|apply rD));exact rM BA.out (fun _ hk=>⟨hk.1.2,hk.2⟩)⟩,⟨by (with_reducible repeat (first|refine bN ?_ _|refine bD ?_|refine bA ?_ _));exact Bb.out⟩,⟨by (with_reducible repeat (first|refine bN ?_ _|refine bD ?_|refine bA ?_ _));exact Be.out⟩,⟨by (with_reducible repeat (first|refine bN ?_ _|refine bD ?_|refine bA ?_ _));exact Bg.out⟩,⟨by (with_reducible repeat (first|refine bN ?_ _|refine bD ?_|refine bA ?_ _));exact Bf.out⟩,⟨by repeat (first|(with_reducible first|exact HB.out|apply oA|apply pN|apply o1|refine bS ?_ Bl.out|refine bS ?_ Bn.out|refine bS ?_ Bp.out|refine bS ?_ Bs.out)|exact HB.out)⟩⟩
 case rest =>
  clear HC12
  try clear c2
  try clear p2
  try clear c3
  try clear c4
  try clear c4b0
  try clear c5
  try clear c9
  try clear c22
  try clear c28
  try clear c29
  try clear c31
  try clear c33
  try clear c34
  try clear c35
  try clear c36
  try clear c38
  try clear c39
  try clear c40
  try clear c41
  try clear c42
  try clear c44
  try clear c45
  try clear c48
  try clear c49
  try clear c50
  try clear c52
  try clear c53
  try clear BU
  try clear BV
  try clear BY
  try clear BZ
  try clear B2
  try clear B3
  try clear B6
  try clear B7
  try clear Da
  try clear Db
  try clear De
  try clear Df
  try clear Di
  try clear Dj
  try clear Dm
  try clear Dn
  try clear Dq
  try clear Dr
  try clear Du
  try clear Dv
  try clear Dy
  try clear Dz
  try clear BW
  try clear BX
  try clear B0
  try clear B1
  try clear B4
  try clear B5
  try clear B8
  try clear B9
  try clear Dc
  try clear Dd
  try clear Dg
  try clear Dh
  try clear Dk
  try clear Dl
  try clear Do
  try clear Dp
  try clear Ds
  try clear Dt
  try clear Dw
  try clear Dx
  try clear DA
  try clear DB
  obtain ⟨kq,x44_11,rfl,HA,DC,Bc,Bd,Ba,Bb,Be,Bg,Bf,HB⟩:=hcut
  cases kq with
 |zero=>exact absurd HA.out (by simp [laws_FnExactQueueLess.j0])
 |succ kj11 =>
   have H:=HA.out
   clear HA
   simp only [laws_FnExactQueueLess.j0] at H
   by_cases c56:x44_11=true
   ·subst c56
    have H1:(some false)=some r:=by rw [if_pos rfl] at H;exact H
    clear H
    have H:=H1
    clear H1
    exact absurd ((Option.some.inj H).trans hT_.out) (by decide)
   replace c56:=Bool.eq_false_iff.mpr c56
   subst c56
   have H1:((laws_toQueue.f kj11 l0_0 a0_1).bind fun bt243=>((laws_eqQueue.f kj11 t231 t234 bt243.1 bt243.2).bind fun t247=>(if t247=true then ((laws_markQueue.f kj11 t231 t234 1).bind fun bt248=>(if bt248.1<0 then (laws_FnExactQueueLess.j1 kj11 a1 t229 true l0_0 a0_1 t225 t228 t236 t239) else ((laws_eqQueue.f kj11 t236 t239 t225 t228).bind fun t250=>(if t250=true then (laws_FnExactQueueLess.j1 kj11 a1 t229 (t240 != t229) l0_0 a0_1 t225 t228 t236 t239) else (laws_FnExactQueueLess.j1 kj11 a1 t229 true l0_0 a0_1 t225 t228 t236 t239))))) else (some false))))=some r:=by rw [if_neg (show ¬ (false=true) by decide)] at H;exact H
   clear H
   have H:=H1
   clear H1
   replace H:=oC H
   obtain ⟨⟨t243,t246⟩,A570,H⟩:=H
   replace H:((laws_eqQueue.f kj11 t231 t234 t243 t246).bind fun t247=>(if t247=true then ((laws_markQueue.f kj11 t231 t234 1).bind fun bt248=>(if bt248.1<0 then (laws_FnExactQueueLess.j1 kj11 a1 t229 true l0_0 a0_1 t225 t228 t236 t239) else ((laws_eqQueue.f kj11 t236 t239 t225 t228).bind fun t250=>(if t250=true then (laws_FnExactQueueLess.j1 kj11 a1 t229 (t240 != t229) l0_0 a0_1 t225 t228 t236 t239) else (laws_FnExactQueueLess.j1 kj11 a1 t229 true l0_0 a0_1 t225 t228 t236 t239))))) else (some false)))=some r:=H
   have A57:=Am A570
   clear A570
   replace H:=oC H
   obtain ⟨t247,A580,H⟩:=H
   replace H:(if t247=true then ((laws_markQueue.f kj11 t231 t234 1).bind fun bt248=>(if bt248.1<0 then (laws_FnExactQueueLess.j1 kj11 a1 t229 true l0_0 a0_1 t225 t228 t236 t239) else ((laws_eqQueue.f kj11 t236 t239 t225 t228).bind fun t250=>(if t250=true then (laws_FnExactQueueLess.j1 kj11 a1 t229 (t240 != t229) l0_0 a0_1 t225 t228 t236 t239) else (laws_FnExactQueueLess.j1 kj11 a1 t229 true l0_0 a0_1 t225 t228 t236 t239))))) else (some false))=some r:=H
   have A58:=Am A580
   clear A580
   by_cases c59:t247=true
   rotate_left
   ·replace c59:=Bool.eq_false_iff.mpr c59
    subst c59
    have H1:(some false)=some r:=by rw [if_neg (show ¬ (false=true) by decide)] at H;exact H
    clear H
    have H:=H1
    clear H1
    exact absurd ((Option.some.inj H).trans hT_.out) (by decide)

   subst c59
   have H1:((laws_markQueue.f kj11 t231 t234 1).bind fun bt248=>(if bt248.1<0 then (laws_FnExactQueueLess.j1 kj11 a1 t229 true l0_0 a0_1 t225 t228 t236 t239) else ((laws_eqQueue.f kj11 t236 t239 t225 t228).bind fun t250=>(if t250=true then (laws_FnExactQueueLess.j1 kj11 a1 t229 (t240 != t229) l0_0 a0_1 t225 t228 t236 t239) else (laws_FnExactQueueLess.j1 kj11 a1 t229 true l0_0 a0_1 t225 t228 t236 t239)))))=some r:=by rw [if_pos rfl] at H;exact H
   clear H
   have H:=H1
   clear H1
   replace H:=oC H
   obtain ⟨⟨t248,t249⟩,A600,H⟩:=H
   replace H:(if t248<0 then (laws_FnExactQueueLess.j1 kj11 a1 t229 true l0_0 a0_1 t225 t228 t236 t239) else ((laws_eqQueue.f kj11 t236 t239 t225 t228).bind fun t250=>(if t250=true then (laws_FnExactQueueLess.j1 kj11 a1 t229 (t240 != t229) l0_0 a0_1 t225 t228 t236 t239) else (laws_FnExactQueueLess.j1 kj11 a1 t229 true l0_0 a0_1 t225 t228 t236 t239))))=some r:=H
   have A60:=Am A600
   clear A600
   have HC61:=Am H
   clear H
   try go_wp2
   have n0_:=Am (rD Bc.out)
   have n1_:=Am (rD Bd.out)
   have n2_:=Am (rD Ba.out)
   have n3_:=Am (bD Bb.out)
   have n4_:=Am (bD Be.out)
   have n5_:=Am (bD Bg.out)
   have n6_:=Am (bD Bf.out)
   have n7_:=Am (o1 HB.out)
   clear Bc
   clear Bd
   clear Ba
   clear Bb
   clear Be
   clear Bg
   clear Bf
   clear HB
   have Bc:=n0_
   have Bd:=n1_
   have Ba:=n2_
   have Bb:=n3_
   have Be:=n4_
   have Bg:=n5_
   have Bf:=n6_
   have HB:=n7_
   clear n0_ n1_ n2_ n3_ n4_ n5_ n6_ n7_
   refine start_ (n:=5) (S:=fun w'=>w'.cell? ⟨Bk,0,none⟩=some (.slice Ao27 t231.length co27)∧w'.cell? ⟨Bk,1,none⟩=some (.int .i64 t234)∧w'.cell? ⟨Bi,0,none⟩=some (.slice A0_0 l0_0.length c0_0)∧w'.cell? ⟨Bi,1,none⟩=some (.int .i64 a0_1)) (ds:=[]) #[false,false,false,false,false] (by kernel_rfl) rfl rfl ⟨(bC Bg.out 0).trans rfl,(bC Bg.out 1).trans rfl,(bC Bb.out 0).trans rfl,(bC Bb.out 1).trans rfl⟩ (fun hHeld=>?_)
   generalize wc.drew=w62 at Bc Bd Ba Bb Be Bg Bf HB hHeld ⊢
   refine take_ (i:=0) (N:=some 45) (v:=?_) (a':=?_) #[true,false,false,false,false] rfl rfl (by kernel_rfl) (fun _ _ _ h=>h) (Or.inl ⟨by rfl,?_⟩) hHeld ?_ ?_
   rotate_left;(rintro w' ⟨s0,s1,s2,s3⟩;go_simp;with_reducible rfl)
   rotate_left;(simp only [Act.put,lA,lZ,lS,iw,jw];rfl)
   refine take_ (i:=1) (N:=some 46) (v:=?_) (a':=?_) #[true,true,false,false,false] rfl rfl (by kernel_rfl) (fun _ _ _ h=>h) (Or.inl ⟨by rfl,?_⟩) hHeld ?_ ?_
   rotate_left;(rintro w' ⟨s0,s1,s2,s3⟩;go_simp;with_reducible rfl)
   rotate_left;(simp only [Act.put,lA,lZ,lS,iw,jw];rfl)
   refine one_ (i:=2) (N:=some 47) #[true,true,true,false,false] rfl rfl (by kernel_rfl) (by decide) (fun K hK=>?_)
   refine goes_ Try.func31 (by kernel_rfl) rfl #[.agg #[.slice A0_0 l0_0.length c0_0,.int .i64 a0_1]] (by rfl) rfl rfl (by (try simp only [lM,lC,lN]);first|done|rfl|(simp only [lD,lT];rfl)) ?_
   with_reducible refine (laws_toQueue.calls kj11 _ _ l0_0 a0_1 t243 t246 _ ?side1 ?side2 A57.out).mono ?_
   (case side1=>repeat (first|exact (cB HR0_0.out HB.out)|(with_reducible refine cA ?_ _)|(with_reducible refine cN ?_ _)|(with_reducible refine cD ?_)))
   (case side2=>exact HC0_0.out)
   rintro e w63 ⟨v244,rfl,ho0,hb⟩
   refine ⟨_,rfl,?_⟩
   have n0_:=Am (Kd.R_elder' (rL Bc.out) (Kd.R_base ho0) hb)
   have n1_:=Am (Kd.R_elder' (rL Bd.out) (Kd.R_base ho0) hb)
   have n2_:=Am (Kd.R_elder' (rL Ba.out) (Kd.R_base ho0) hb)
   have n3_:=Am (Kd.R_lower (Kd.R_new' (Kd.R_new' (Kd.R_new' ho0 (Kd.R_lt (rL Bc.out))) (Kd.R_lt (rL Bd.out))) (Kd.R_lt (rL Ba.out))) (bZ (by repeat (first|(with_reducible first|exact HB.out|apply oA|apply pN|apply o1|refine bS ?_ Bl.out|refine bS ?_ Bn.out|refine bS ?_ Bp.out|refine bS ?_ Bs.out)|exact HB.out))))
   have n4_:=Am (bX Bb.out hb)
   have n5_:=Am (bX Be.out hb)
   have n6_:=Am (bX Bg.out hb)
   have n7_:=Am (bX Bf.out hb)
   have n8_:=Am (bP (by repeat (first|(with_reducible first|exact HB.out|apply oA|apply pN|apply o1|refine bS ?_ Bl.out|refine bS ?_ Bn.out|refine bS ?_ Bp.out|refine bS ?_ Bs.out)|exact HB.out)) hb)
   clear Bc
   clear Bd
   clear Ba
   clear Bb
   clear Be
   clear Bg
   clear Bf
   clear HB
   have Bc:=n0_
   have Bd:=n1_
   have Ba:=n2_
   have BG:=n3_
   have Bb:=n4_
   have Be:=n5_
   have Bg:=n6_
   have Bf:=n7_
   have HB:=n8_
   clear n0_ n1_ n2_ n3_ n4_ n5_ n6_ n7_ n8_
   (try clear hb)
   (try clear hb2)
   (try clear hk)
   (try clear hi)
   (try clear ho0)
   obtain ⟨Ao64,co64,eo64⟩:=Kd.R_slice BG.out
   (first|subst eo64|(injection eo64 with f1_ f2_ f3_;have f4_:=f1_.symm;have f5_:=f3_.symm;clear f1_ f2_ f3_;subst f4_;subst f5_))
   refine hK.out _ _ ⟨(bC Bg.out 0).trans rfl,(bC Bg.out 1).trans rfl,(bC Bb.out 0).trans rfl,(bC Bb.out 1).trans rfl⟩ (fun hHeld=>?_)
   clear hK K
   refine norm_ (by show Act.put _ (some 47) _=_;simp only [Act.put,lA,lZ,lS,iw,jw];rfl) ?_
   refine one_ (i:=3) (N:=some 48) #[true,true,true,true,false] rfl rfl (by kernel_rfl) (by decide) (fun K hK=>?_)
   refine goes_ Try.func33 (by kernel_rfl) rfl #[.agg #[.slice Ao27 t231.length co27,.int .i64 t234],.agg #[.slice Ao64 t243.length co64,.int .i64 t246]] (by rfl) rfl rfl (by (try simp only [lM,lC,lN]);first|done|rfl|(simp only [lD,lT];rfl)) ?_
   with_reducible refine (laws_eqQueue.calls kj11 _ _ t231 t234 _ _ t243 t246 true _ ?side1 ?side2 ?side3 ?side4 A58.out).mono ?_
   (case side1=>exact cL (Kd.R_reads' Bd.out).2.2)
   (case side2=>exact (Kd.R_reads' Bd.out).2.1)
   (case side3=>exact cL (Kd.R_reads' BG.out).2.2)
   (case side4=>exact (Kd.R_reads' BG.out).2.1)
   rintro e w65 ⟨rfl,hb⟩
   refine ⟨_,rfl,?_⟩
   have n0_:=Am (rB (rL Bc.out) hb)
   have n1_:=Am (rB (rL Bd.out) hb)
   have n2_:=Am (rB (rL Ba.out) hb)
   have n3_:=Am (rB (rL BG.out) hb)
   have n4_:=Am (bX Bb.out hb)
   have n5_:=Am (bX Be.out hb)
   have n6_:=Am (bX Bg.out hb)
   have n7_:=Am (bX Bf.out hb)
   have n8_:=Am (bP (by repeat (first|(with_reducible first|exact HB.out|apply oA|apply pN|apply o1|refine bS ?_ Bl.out|refine bS ?_ Bn.out|refine bS ?_ Bp.out|refine bS ?_ Bs.out)|exact HB.out)) hb)
   clear Bc
   clear Bd
   clear Ba
   clear BG
   clear Bb
   clear Be
   clear Bg
   clear Bf
   clear HB
   have Bc:=n0_
   have Bd:=n1_
   have Ba:=n2_
   have BG:=n3_
   have Bb:=n4_
   have Be:=n5_
   have Bg:=n6_
   have Bf:=n7_
   have HB:=n8_
   clear n0_ n1_ n2_ n3_ n4_ n5_ n6_ n7_ n8_
   (try clear hb)
   (try clear hb2)
   (try clear hk)
   (try clear hi)
   refine hK.out _ _ ⟨(bC Bg.out 0).trans rfl,(bC Bg.out 1).trans rfl,(bC Bb.out 0).trans rfl,(bC Bb.out 1).trans rfl⟩ (fun hHeld=>?_)
   clear hK K
   refine norm_ (by show Act.put _ (some 48) _=_;simp only [Act.put,lA,lZ,lS,iw,jw];rfl) ?_
   refine pure_ (i:=4) (N:=some 49) (v:=?_) (a':=?_) #[true,true,true,true,true] rfl rfl (by kernel_rfl) (fun _ _ _ h=>h) (Or.inl ⟨by rfl,?_⟩) ?_ ?_
   rotate_left;(intro w';go_simp;with_reducible rfl)
   rotate_left;(simp only [Act.put,lA,lZ,lS,iw,jw];rfl)
   refine done_ (by kernel_rfl) ?_
   have GX:=BP.out
   have GY:=BM.out
   have GZ:=BE.out
   have G0:=Bx.out
   have G1:=Bv.out
   have G2:=BF.out
   have DD:=cz0 Bg.out
   have DE:=cz1 Bg.out
   have DF:=bF Bg.out 0
   have DG:=bF Bg.out 1
   go_upto_region 14 with (first|((with_reducible refine gate_callee (f:=34) rfl ?_);refine goesL_ (some 52) rfl rfl Try.func34 (by kernel_rfl) rfl #[.agg #[.slice Ao27 t231.length co27,.int .i64 t234],.int .i64 1] rfl (by (try simp only [lM,lC,lN]);first|done|rfl|(simp only [lD,lT];rfl)) ?_;(with_reducible refine (laws_markQueue.calls kj11 (fun k_=>some k_=(.slice Ao27 t231.length co27:Value).ownBlock) (.slice Ao27 t231.length co27) t231 t234 1 t248 t249 w _ ?side1 ?side2 A60.out).mono ?_);(case side1=>repeat (first|(with_reducible first|exact HB.out|apply oA|apply pN|apply o1|refine bS ?_ Bl.out|refine bS ?_ Bn.out|refine bS ?_ Bp.out|refine bS ?_ Bs.out)|exact HB.out));(case side2=>exact Kd.R_tight rfl Bd.out);rintro e w70 ⟨rfl,hy0,hb,hkp⟩;refine ⟨_,rfl,?_⟩;have n0_:=Am (rM (ok':=fun k_=>some k_≠(.slice Ao27 t231.length co27:Value).ownBlock∧some k_≠(.slice Ao33 t236.length co33:Value).ownBlock∧some k_≠(.slice Ao64 t243.length co64:Value).ownBlock) (Kd.R_keptB (Bc.out) hkp (fun k_ hk_ hs_=>(hk_.1.1) hs_)) (fun k_ hk_=>⟨hk_.1.1.1,hk_.1.1.2,hk_.1.2⟩));have n1_:=Am (Kd.R_reok rfl hy0 (fun k_ e_=>Bd.out.1 k_ e_));have n2_:=Am (rM (ok':=fun k_=>some k_≠(.slice Ao21 t225.length co21:Value).ownBlock∧some k_≠(.slice Ao27 t231.length co27:Value).ownBlock∧some k_≠(.slice Ao64 t243.length co64:Value).ownBlock) (Kd.R_keptB (Ba.out) hkp (fun k_ hk_ hs_=>(hk_.1.2) hs_)) (fun k_ hk_=>⟨hk_.1.1.1,hk_.1.1.2,hk_.1.2⟩));have n3_:=Am (blk_kept (bL Bb.out) hkp (fun hs_=>(fun e_=>(Kd.R_ne Bd.out Bb.out (by decide)) e_) hs_));have n4_:=Am (blk_kept (bL Be.out) hkp (fun hs_=>(fun e_=>(Kd.R_ne Bd.out Be.out (by decide)) e_) hs_));have n5_:=Am (blk_kept (bL Bg.out) hkp (fun hs_=>(fun e_=>(Kd.R_ne Bd.out Bg.out (by decide)) e_) hs_));have n6_:=Am (blk_kept (bL Bf.out) hkp (fun hs_=>(fun e_=>(Kd.R_ne Bd.out Bf.out (by decide)) e_) hs_));have n7_:=Am (rM (ok':=fun k_=>some k_≠(.slice Ao21 t225.length co21:Value).ownBlock∧some k_≠(.slice Ao27 t231.length co27:Value).ownBlock∧some k_≠(.slice Ao33 t236.length co33:Value).ownBlock) (Kd.R_keptB (BG.out) hkp (fun k_ hk_ hs_=>(hk_.1.2) hs_)) (fun k_ hk_=>⟨hk_.1.1.1.2,hk_.1.1.2,hk_.1.2⟩));have n8_:=Am (hb);clear Bc Bd Ba Bb Be Bg Bf BG HB;revert n0_ n1_ n2_ n3_ n4_ n5_ n6_ n7_ n8_;intro Bc Bd Ba Bb Be Bg Bf BG HB;(try clear hb);(try clear hkp);(try clear hy0)))
   (try simp only [Act.put,lA,lZ,lS])
   go_cut [65] (fun v65 wc=>∃ (kq:Nat) (x65_60:Bool),v65=.bool x65_60∧Aside0 (laws_FnExactQueueLess.j1 kq a1 t229 x65_60 l0_0 a0_1 t225 t228 t236 t239=some r)∧Aside0 (kq≤kj11)∧Aside0 (Kd.R k86 86 wc w.heap.size (fun k_=>some k_≠((.slice Ao27 t231.length co27):Value).ownBlock∧some k_≠((.slice Ao33 t236.length co33):Value).ownBlock) (.slice Ao21 t225.length co21) t225)∧Aside0 (Kd.R k86 86 wc w.heap.size (fun k_=>some k_≠((.slice Ao21 t225.length co21):Value).ownBlock∧some k_≠((.slice Ao33 t236.length co33):Value).ownBlock) (.slice Ao27 t231.length co27) t249)∧Aside0 (Kd.R k86 86 wc w.heap.size (fun k_=>some k_≠((.slice Ao21 t225.length co21):Value).ownBlock∧some k_≠((.slice Ao27 t231.length co27):Value).ownBlock) (.slice Ao33 t236.length co33) t236)∧Aside0 (wc.heap[Bi]?=some (.cells #[(.slice A0_0 l0_0.length c0_0),.int .i64 a0_1] 43 (0,0)))∧Aside0 (wc.heap[Bj]?=some (.cells #[(.slice Ao21 t225.length co21),.int .i64 t228] 47 (0,0)))∧Aside0 (wc.heap[Bk]?=some (.cells #[(.slice Ao27 t231.length co27),.int .i64 t234] 47 (0,0)))∧Aside0 (wc.heap[Bh]?=some (.cells #[(.slice Ao33 t236.length co33),.int .i64 t239] 47 (0,0)))∧Aside0 (Below w.heap.size w wc))
   case first =>
    have H:=HC61.out
    clear HC61
    by_cases c71:t248<0
    ·rw [if_pos c71] at H
     have c71b0:decide (t248<0)=true:=decide_eq_true c71
     clear c71
     (first|rw [c71b0]|(simp only [i64_w,i32_w];rw [c71b0])|skip)
     have H':=Am H
     clear H
     go_wp2
     go_meet
     case rel=>exact ⟨_,(true),(by first|rfl|(simp;done)|(simp [*];done)),H',⟨by have:=DC.out;first|omega|exact Nat.le_refl _⟩,⟨by (with_reducible repeat (first|apply rA|apply rN|apply rD));exact rM Bc.out (fun _ hk=>⟨hk.1,hk.2.1⟩)⟩,⟨by (with_reducible repeat (first|apply rA|apply rN|apply rD));exact rM Bd.out (fun _ hk=>⟨hk.1.1,hk.1.2⟩)⟩,⟨by (with_reducible repeat (first|apply rA|apply rN|apply rD));exact rM Ba.out (fun _ hk=>⟨hk.1,hk.2.1⟩)⟩,⟨by (with_reducible repeat (first|refine bN ?_ _|refine bD ?_|refine bA ?_ _));exact Bb.out⟩,⟨by (with_reducible repeat (first|refine bN ?_ _|refine bD ?_|refine bA ?_ _));exact Be.out⟩,⟨by (with_reducible repeat (first|refine bN ?_ _|refine bD ?_|refine bA ?_ _));exact Bg.out⟩,⟨by (with_reducible repeat (first|refine bN ?_ _|refine bD ?_|refine bA ?_ _));exact Bf.out⟩,⟨by repeat (first|(with_reducible first|exact HB.out|apply oA|apply pN|apply o1|refine bS ?_ Bl.out|refine bS ?_ Bn.out|refine bS ?_ Bp.out|refine bS ?_ Bs.out)|exact HB.out)⟩⟩
    rw [if_neg c71] at H
    have c71b0:decide (t248<0)=false:=decide_eq_false c71
    clear c71
    (first|rw [c71b0]|(simp only [i64_w,i32_w];rw [c71b0])|skip)
    replace H:=oC H
    obtain ⟨t250,A720,H⟩:=H
    replace H:(if t250=true then (laws_FnExactQueueLess.j1 kj11 a1 t229 (t240 != t229) l0_0 a0_1 t225 t228 t236 t239) else (laws_FnExactQueueLess.j1 kj11 a1 t229 true l0_0 a0_1 t225 t228 t236 t239))=some r:=H
    have A72:=Am A720
    clear A720
    by_cases c73:t250=true
    ·subst c73
     have H1:(laws_FnExactQueueLess.j1 kj11 a1 t229 (t240 != t229) l0_0 a0_1 t225 t228 t236 t239)=some r:=by rw [if_pos rfl] at H;exact H
     clear H
     have H:=H1
     clear H1
     have H':=Am H
     clear H
     have G3:=BH.out
     have G4:=By.out
     have G5:=Bz.out
     have G6:=Bu.out
     have G7:=BF.out
     have G8:=Bv.out
     have DH:=cz0 Bf.out
     have DI:=cz1 Bf.out
     have DJ:=bF Bf.out 0
     have DK:=bF Bf.out 1
     have G9:=BD.out
     have Ja:=Bw.out
     have Jb:=Bx.out
     have Jc:=BE.out
     have DL:=cz0 Be.out
     have DM:=cz1 Be.out
     have DN:=bF Be.out 0
     have DO:=bF Be.out 1
     go_wp2_with (first|(go_at_call 33;(with_reducible refine (laws_eqQueue.calls kj11 _ _ t236 t239 _ _ t225 t228 true _ ?side1 ?side2 ?side3 ?side4 A72.out).mono ?_);(case side1=>exact cL (Kd.R_reads' Ba.out).2.2);(case side2=>exact (Kd.R_reads' Ba.out).2.1);(case side3=>exact cL (Kd.R_reads' Bc.out).2.2);(case side4=>exact (Kd.R_reads' Bc.out).2.1);rintro e w81 ⟨rfl,hb⟩;have n0_:=Am (rB (rL Bc.out) hb);have n1_:=Am (rB (rL Bd.out) hb);have n2_:=Am (rB (rL Ba.out) hb);have n3_:=Am (rB (rL BG.out) hb);have n4_:=Am (bX Bb.out hb);have n5_:=Am (bX Be.out hb);have n6_:=Am (bX Bg.out hb);have n7_:=Am (bX Bf.out hb);have n8_:=Am (bP (by repeat (first|(with_reducible first|exact HB.out|apply oA|apply pN|apply o1|refine bS ?_ Bl.out|refine bS ?_ Bn.out|refine bS ?_ Bp.out|refine bS ?_ Bs.out)|exact HB.out)) hb);clear Bc Bd Ba BG Bb Be Bg Bf HB;revert n0_ n1_ n2_ n3_ n4_ n5_ n6_ n7_ n8_;intro Bc Bd Ba BG Bb Be Bg Bf HB;(try clear hb);(try clear hb2);(try clear hk);(try clear hi)))
     go_meet
     case rel=>exact ⟨_,((t240 != t229)),(by first|rfl|(simp;done)|(simp [*];done)),H',⟨by have:=DC.out;first|omega|exact Nat.le_refl _⟩,⟨by (with_reducible repeat (first|apply rA|apply rN|apply rD));exact rM Bc.out (fun _ hk=>⟨hk.1,hk.2.1⟩)⟩,⟨by (with_reducible repeat (first|apply rA|apply rN|apply rD));exact rM Bd.out (fun _ hk=>⟨hk.1.1,hk.1.2⟩)⟩,⟨by (with_reducible repeat (first|apply rA|apply rN|apply rD));exact rM Ba.out (fun _ hk=>⟨hk.1,hk.2.1⟩)⟩,⟨by (with_reducible repeat (first|refine bN ?_ _|refine bD ?_|refine bA ?_ _));exact Bb.out⟩,⟨by (with_reducible repeat (first|refine bN ?_ _|refine bD ?_|refine bA ?_ _));exact Be.out⟩,⟨by (with_reducible repeat (first|refine bN ?_ _|refine bD ?_|refine bA ?_ _));exact Bg.out⟩,⟨by (with_reducible repeat (first|refine bN ?_ _|refine bD ?_|refine bA ?_ _));exact Bf.out⟩,⟨by repeat (first|(with_reducible first|exact HB.out|apply oA|apply pN|apply o1|refine bS ?_ Bl.out|refine bS ?_ Bn.out|refine bS ?_ Bp.out|refine bS ?_ Bs.out)|exact HB.out)⟩⟩
    replace c73:=Bool.eq_false_iff.mpr c73
    subst c73
    have H1:(laws_FnExactQueueLess.j1 kj11 a1 t229 true l0_0 a0_1 t225 t228 t236 t239)=some r:=by rw [if_neg (show ¬ (false=true) by decide)] at H;exact H
    clear H
    have H:=H1
    clear H1
    have H':=Am H
    clear H
    have Jd:=BH.out
    have Je:=By.out
    have Jf:=Bz.out
    have Jg:=Bu.out
    have Jh:=BF.out
    have Ji:=Bv.out
    have DP:=cz0 Bf.out
    have DQ:=cz1 Bf.out
    have DR:=bF Bf.out 0
    have DS:=bF Bf.out 1
    have Jj:=BD.out
    have Jk:=Bw.out
    have Jl:=Bx.out
    have Jm:=BE.out
    have DT:=cz0 Be.out
    have DU:=cz1 Be.out
    have DV:=bF Be.out 0
    have DW:=bF Be.out 1
    go_wp2_with (first|(go_at_call 33;(with_reducible refine (laws_eqQueue.calls kj11 _ _ t236 t239 _ _ t225 t228 false _ ?side1 ?side2 ?side3 ?side4 A72.out).mono ?_);(case side1=>exact cL (Kd.R_reads' Ba.out).2.2);(case side2=>exact (Kd.R_reads' Ba.out).2.1);(case side3=>exact cL (Kd.R_reads' Bc.out).2.2);(case side4=>exact (Kd.R_reads' Bc.out).2.1);rintro e w89 ⟨rfl,hb⟩;have n0_:=Am (rB (rL Bc.out) hb);have n1_:=Am (rB (rL Bd.out) hb);have n2_:=Am (rB (rL Ba.out) hb);have n3_:=Am (rB (rL BG.out) hb);have n4_:=Am (bX Bb.out hb);have n5_:=Am (bX Be.out hb);have n6_:=Am (bX Bg.out hb);have n7_:=Am (bX Bf.out hb);have n8_:=Am (bP (by repeat (first|(with_reducible first|exact HB.out|apply oA|apply pN|apply o1|refine bS ?_ Bl.out|refine bS ?_ Bn.out|refine bS ?_ Bp.out|refine bS ?_ Bs.out)|exact HB.out)) hb);clear Bc Bd Ba BG Bb Be Bg Bf HB;revert n0_ n1_ n2_ n3_ n4_ n5_ n6_ n7_ n8_;intro Bc Bd Ba BG Bb Be Bg Bf HB;(try clear hb);(try clear hb2);(try clear hk);(try clear hi)))
    go_meet
    case rel=>exact ⟨_,(true),(by first|rfl|(simp;done)|(simp [*];done)),H',⟨by have:=DC.out;first|omega|exact Nat.le_refl _⟩,⟨by (with_reducible repeat (first|apply rA|apply rN|apply rD));exact rM Bc.out (fun _ hk=>⟨hk.1,hk.2.1⟩)⟩,⟨by (with_reducible repeat (first|apply rA|apply rN|apply rD));exact rM Bd.out (fun _ hk=>⟨hk.1.1,hk.1.2⟩)⟩,⟨by (with_reducible repeat (first|apply rA|apply rN|apply rD));exact rM Ba.out (fun _ hk=>⟨hk.1,hk.2.1⟩)⟩,⟨by (with_reducible repeat (first|refine bN ?_ _|refine bD ?_|refine bA ?_ _));exact Bb.out⟩,⟨by (with_reducible repeat (first|refine bN ?_ _|refine bD ?_|refine bA ?_ _));exact Be.out⟩,⟨by (with_reducible repeat (first|refine bN ?_ _|refine bD ?_|refine bA ?_ _));exact Bg.out⟩,⟨by (with_reducible repeat (first|refine bN ?_ _|refine bD ?_|refine bA ?_ _));exact Bf.out⟩,⟨by repeat (first|(with_reducible first|exact HB.out|apply oA|apply pN|apply o1|refine bS ?_ Bl.out|refine bS ?_ Bn.out|refine bS ?_ Bp.out|refine bS ?_ Bs.out)|exact HB.out)⟩⟩
   case rest =>
    clear HC61
    try clear c2
    try clear p2
    try clear c3
    try clear c4
    try clear c4b0
    try clear c5
    try clear c6
    try clear c7
    try clear c8
    try clear c9
    try clear c22
    try clear c28
    try clear c29
    try clear c31
    try clear c33
    try clear c34
    try clear c35
    try clear c36
    try clear c38
    try clear c39
    try clear c40
    try clear c41
    try clear c42
    try clear c44
    try clear c45
    try clear c48
    try clear c49
    try clear c50
    try clear c52
    try clear c53
    try clear c56
    try clear c59
    try clear c66
    try clear c67
    try clear c68
    try clear c71
    try clear c71b0
    try clear c73
    try clear c74
    try clear c75
    try clear c76
    try clear c78
    try clear c79
    try clear c82
    try clear c83
    try clear c84
    try clear c86
    try clear c87
    try clear BU
    try clear BV
    try clear BY
    try clear BZ
    try clear B2
    try clear B3
    try clear B6
    try clear B7
    try clear Da
    try clear Db
    try clear De
    try clear Df
    try clear Di
    try clear Dj
    try clear Dm
    try clear Dn
    try clear Dq
    try clear Dr
    try clear Du
    try clear Dv
    try clear DD
    try clear DE
    try clear Dy
    try clear Dz
    try clear DH
    try clear DI
    try clear DL
    try clear DM
    try clear DP
    try clear DQ
    try clear DT
    try clear DU
    try clear BW
    try clear BX
    try clear B0
    try clear B1
    try clear B4
    try clear B5
    try clear B8
    try clear B9
    try clear Dc
    try clear Dd
    try clear Dg
    try clear Dh
    try clear Dk
    try clear Dl
    try clear Do
    try clear Dp
    try clear Ds
    try clear Dt
    try clear Dw
    try clear Dx
    try clear DF
    try clear DG
    try clear DA
    try clear DB
    try clear DJ
    try clear DK
    try clear DN
    try clear DO
    try clear DR
    try clear DS
    try clear DV
    try clear DW
    try clear p2
    obtain ⟨kq,x65_60,rfl,HA,Ft,Bc,Bd,Ba,Bb,Be,Bg,Bf,HB⟩:=hcut
    have hl236000_60:=(Kd.R_reads' Bd.out).1
    rw [hl236000_60] at Bd
    (try simp only [hl236000_60])
    (try simp only [hl236000_60] at Bb)
    (try simp only [hl236000_60] at Be)
    (try simp only [hl236000_60] at Bg)
    (try simp only [hl236000_60] at Bf)
    (try simp only [hl236000_60] at Bc)
    (try simp only [hl236000_60] at Ba)
    cases kq with
   |zero=>exact absurd HA.out (by simp [laws_FnExactQueueLess.j1])
   |succ kj60 =>
     have H:=HA.out
     clear HA
     simp only [laws_FnExactQueueLess.j1] at H
     by_cases c90:x65_60=true
     ·subst c90
      have H1:(some false)=some r:=by rw [if_pos rfl] at H;exact H
      clear H
      have H:=H1
      clear H1
      exact absurd ((Option.some.inj H).trans hT_.out) (by decide)
     replace c90:=Bool.eq_false_iff.mpr c90
     subst c90
     have H1:((laws_markQueue.f kj60 t236 t239 1).bind fun bt251=>((laws_heldQueue.f kj60 bt251.2 t239 1).bind fun t253=>(if t253<0 then (some false) else (if t253=bt251.1 then ((laws_toQueue.f kj60 l0_0 a0_1).bind fun bt254=>((impl_QueueLess.f kj60 bt254.1 bt254.2 a1).bind fun bt258=>((laws_eqQueue.f kj60 bt258.1 bt258.2.1 t225 t228).bind fun t264=>(if t264=true then (laws_FnExactQueueLess.j2 kj60 bt251.1 (bt258.2.2 != t229) bt251.2 t239) else (laws_FnExactQueueLess.j2 kj60 bt251.1 true bt251.2 t239))))) else (some false)))))=some r:=by rw [if_neg (show ¬ (false=true) by decide)] at H;exact H
     clear H
     have H:=H1
     clear H1
     replace H:=oC H
     obtain ⟨⟨t251,t252⟩,A910,H⟩:=H
     replace H:((laws_heldQueue.f kj60 t252 t239 1).bind fun t253=>(if t253<0 then (some false) else (if t253=t251 then ((laws_toQueue.f kj60 l0_0 a0_1).bind fun bt254=>((impl_QueueLess.f kj60 bt254.1 bt254.2 a1).bind fun bt258=>((laws_eqQueue.f kj60 bt258.1 bt258.2.1 t225 t228).bind fun t264=>(if t264=true then (laws_FnExactQueueLess.j2 kj60 t251 (bt258.2.2 != t229) t252 t239) else (laws_FnExactQueueLess.j2 kj60 t251 true t252 t239))))) else (some false))))=some r:=H
     have A91:=Am A910
     clear A910
     replace H:=oC H
     obtain ⟨t253,A920,H⟩:=H
     replace H:(if t253<0 then (some false) else (if t253=t251 then ((laws_toQueue.f kj60 l0_0 a0_1).bind fun bt254=>((impl_QueueLess.f kj60 bt254.1 bt254.2 a1).bind fun bt258=>((laws_eqQueue.f kj60 bt258.1 bt258.2.1 t225 t228).bind fun t264=>(if t264=true then (laws_FnExactQueueLess.j2 kj60 t251 (bt258.2.2 != t229) t252 t239) else (laws_FnExactQueueLess.j2 kj60 t251 true t252 t239))))) else (some false)))=some r:=H
     have A92:=Am A920
     clear A920
     by_cases c93:t253<0
     ·rw [if_pos c93] at H
      have c93b0:decide (t253<0)=true:=decide_eq_true c93
      clear c93
      exact absurd ((Option.some.inj H).trans hT_.out) (by decide)
     rw [if_neg c93] at H
     have c93b0:decide (t253<0)=false:=decide_eq_false c93
     clear c93
     by_cases c94:t253=t251
     rotate_left
     ·rw [if_neg c94] at H
      have c94b0:(t253 == t251)=false:=beq_eq_false_iff_ne.mpr c94
      have c94b1:(t253 != t251)=true:=bne_iff_ne.mpr c94
      exact absurd ((Option.some.inj H).trans hT_.out) (by decide)
     rw [if_pos c94] at H
     have c94b0:(t253 == t251)=true:=beq_iff_eq.mpr c94
     have c94b1:(t253 != t251)=false:=bne_eq_false_iff_eq.mpr c94
     clear c94
     replace H:=oC H
     obtain ⟨⟨t254,t257⟩,A950,H⟩:=H
     replace H:((impl_QueueLess.f kj60 t254 t257 a1).bind fun bt258=>((laws_eqQueue.f kj60 bt258.1 bt258.2.1 t225 t228).bind fun t264=>(if t264=true then (laws_FnExactQueueLess.j2 kj60 t251 (bt258.2.2 != t229) t252 t239) else (laws_FnExactQueueLess.j2 kj60 t251 true t252 t239))))=some r:=H
     have A95:=Am A950
     clear A950
     replace H:=oC H
     obtain ⟨⟨t258,t261,t262⟩,A960,H⟩:=H
     replace H:((laws_eqQueue.f kj60 t258 t261 t225 t228).bind fun t264=>(if t264=true then (laws_FnExactQueueLess.j2 kj60 t251 (t262 != t229) t252 t239) else (laws_FnExactQueueLess.j2 kj60 t251 true t252 t239)))=some r:=H
     have A96:=Am A960
     clear A960
     have HC97:=Am H
     clear H
     have Jn:=BH.out
     have Jo:=By.out
     have Jp:=Bz.out
     have Jq:=Bu.out
     have Fz:=BF.out
     have FA:=Bv.out
     have DX:=cz0 Bf.out
     have DY:=cz1 Bf.out
     have DZ:=bF Bf.out 0
     have D0:=bF Bf.out 1
     go_upto_region 25 with (first|((with_reducible refine gate_callee (f:=34) rfl ?_);refine goesL_ (some 68) rfl rfl Try.func34 (by kernel_rfl) rfl #[.agg #[.slice Ao33 t236.length co33,.int .i64 t239],.int .i64 1] rfl (by (try simp only [lM,lC,lN]);first|done|rfl|(simp only [lD,lT];rfl)) ?_;(with_reducible refine (laws_markQueue.calls kj60 (fun k_=>some k_=(.slice Ao33 t236.length co33:Value).ownBlock) (.slice Ao33 t236.length co33) t236 t239 1 t251 t252 w _ ?side1 ?side2 A91.out).mono ?_);(case side1=>repeat (first|(with_reducible first|exact HB.out|apply oA|apply pN|apply o1|refine bS ?_ Bl.out|refine bS ?_ Bn.out|refine bS ?_ Bp.out|refine bS ?_ Bs.out)|exact HB.out));(case side2=>exact Kd.R_tight rfl Ba.out);rintro e w102 ⟨rfl,hy0,hb,hkp⟩;refine ⟨_,rfl,?_⟩;have n0_:=Am (rM (ok':=fun k_=>some k_≠(.slice Ao27 t249.length co27:Value).ownBlock∧some k_≠(.slice Ao33 t236.length co33:Value).ownBlock) (Kd.R_keptB (Bc.out) hkp (fun k_ hk_ hs_=>(hk_.2) hs_)) (fun k_ hk_=>⟨hk_.1.1,hk_.1.2⟩));have n1_:=Am (rM (ok':=fun k_=>some k_≠(.slice Ao21 t225.length co21:Value).ownBlock∧some k_≠(.slice Ao33 t236.length co33:Value).ownBlock) (Kd.R_keptB (Bd.out) hkp (fun k_ hk_ hs_=>(hk_.2) hs_)) (fun k_ hk_=>⟨hk_.1.1,hk_.1.2⟩));have n2_:=Am (Kd.R_reok rfl hy0 (fun k_ e_=>Ba.out.1 k_ e_));have n3_:=Am (blk_kept (bL Bb.out) hkp (fun hs_=>(fun e_=>(Kd.R_ne Ba.out Bb.out (by decide)) e_) hs_));have n4_:=Am (blk_kept (bL Be.out) hkp (fun hs_=>(fun e_=>(Kd.R_ne Ba.out Be.out (by decide)) e_) hs_));have n5_:=Am (blk_kept (bL Bg.out) hkp (fun hs_=>(fun e_=>(Kd.R_ne Ba.out Bg.out (by decide)) e_) hs_));have n6_:=Am (blk_kept (bL Bf.out) hkp (fun hs_=>(fun e_=>(Kd.R_ne Ba.out Bf.out (by decide)) e_) hs_));have n7_:=Am (hb);clear Bc Bd Ba Bb Be Bg Bf HB;revert n0_ n1_ n2_ n3_ n4_ n5_ n6_ n7_;intro Bc Bd Ba Bb Be Bg Bf HB;(try clear hb);(try clear hkp);(try clear hy0);have D1:=cz0 Bf.out;have D2:=cz1 Bf.out;have D3:=bF Bf.out 0;have D4:=bF Bf.out 1)|((with_reducible refine gate_callee (f:=35) rfl ?_);refine goesL_ (some 71) rfl rfl Try.func35 (by kernel_rfl) rfl #[.agg #[.slice Ao33 t252.length co33,.int .i64 t239],.int .i64 1] rfl (by (try simp only [lM,lC,lN]);first|done|(rw [show t252.length=t236.length from (Kd.R_reads' Ba.out).1.symm] <;> rfl)|rfl|(simp only [lD,lT];rfl)) ?_;(with_reducible refine (laws_heldQueue.calls kj60 _ _ t252 t239 1 t253 _ ?side1 ?side2 A92.out).mono ?_);(case side1=>exact cL (Kd.R_reads' Ba.out).2.2);(case side2=>rw [show t252.length=t236.length from (Kd.R_reads' Ba.out).1.symm];exact (Kd.R_reads' Ba.out).2.1);rintro e w104 ⟨rfl,hb⟩;refine ⟨_,rfl,?_⟩;have n0_:=Am (rB (rL Bc.out) hb);have n1_:=Am (rB (rL Bd.out) hb);have n2_:=Am (rB (rL Ba.out) hb);have n3_:=Am (bX Bb.out hb);have n4_:=Am (bX Be.out hb);have n5_:=Am (bX Bg.out hb);have n6_:=Am (bX Bf.out hb);have n7_:=Am (bP (by repeat (first|(with_reducible first|exact HB.out|apply oA|apply pN|apply o1|refine bS ?_ Bl.out|refine bS ?_ Bn.out|refine bS ?_ Bp.out|refine bS ?_ Bs.out)|exact HB.out)) hb);clear Bc Bd Ba Bb Be Bg Bf HB;revert n0_ n1_ n2_ n3_ n4_ n5_ n6_ n7_;intro Bc Bd Ba Bb Be Bg Bf HB;(try clear hb);(try clear hb2);(try clear hk);(try clear hi);have FB:=Bw.out;have FC:=BD.out;have FD:=BM.out;have FE:=BP.out;have D5:=cz0 Bb.out;have D6:=cz1 Bb.out;have D7:=bF Bb.out 0;have D8:=bF Bb.out 1)|((with_reducible refine gate_callee (f:=31) rfl ?_);refine goesL_ (some 79) rfl rfl Try.func31 (by kernel_rfl) rfl #[.agg #[.slice A0_0 l0_0.length c0_0,.int .i64 a0_1]] rfl (by (try simp only [lM,lC,lN]);first|done|rfl|(simp only [lD,lT];rfl)) ?_;(with_reducible refine (laws_toQueue.calls kj60 _ _ l0_0 a0_1 t254 t257 _ ?side1 ?side2 A95.out).mono ?_);(case side1=>repeat (first|exact (cB HR0_0.out HB.out)|(with_reducible refine cA ?_ _)|(with_reducible refine cN ?_ _)|(with_reducible refine cD ?_)));(case side2=>exact HC0_0.out);rintro e w108 ⟨v255,rfl,ho0,hb⟩;refine ⟨_,rfl,?_⟩;have n0_:=Am (Kd.R_elder' (rL Bc.out) (Kd.R_base ho0) hb);have n1_:=Am (Kd.R_elder' (rL Bd.out) (Kd.R_base ho0) hb);have n2_:=Am (Kd.R_elder' (rL Ba.out) (Kd.R_base ho0) hb);have n3_:=Am (Kd.R_lower (Kd.R_new' (Kd.R_new' (Kd.R_new' ho0 (Kd.R_lt (rL Bc.out))) (Kd.R_lt (rL Bd.out))) (Kd.R_lt (rL Ba.out))) (bZ (by repeat (first|(with_reducible first|exact HB.out|apply oA|apply pN|apply o1|refine bS ?_ Bl.out|refine bS ?_ Bn.out|refine bS ?_ Bp.out|refine bS ?_ Bs.out)|exact HB.out))));have n4_:=Am (bX Bb.out hb);have n5_:=Am (bX Be.out hb);have n6_:=Am (bX Bg.out hb);have n7_:=Am (bX Bf.out hb);have n8_:=Am (bP (by repeat (first|(with_reducible first|exact HB.out|apply oA|apply pN|apply o1|refine bS ?_ Bl.out|refine bS ?_ Bn.out|refine bS ?_ Bp.out|refine bS ?_ Bs.out)|exact HB.out)) hb);clear Bc Bd Ba Bb Be Bg Bf HB;revert n0_ n1_ n2_ n3_ n4_ n5_ n6_ n7_ n8_;intro Bc Bd Ba BB Bb Be Bg Bf HB;(try clear hb);(try clear hb2);(try clear hk);(try clear hi);(try clear ho0);obtain ⟨Ao109,co109,eo109⟩:=Kd.R_slice BB.out;subst eo109)|((with_reducible refine gate_callee (f:=39) rfl ?_);refine goesL_ (some 81) rfl rfl Try.func39 (by kernel_rfl) rfl #[.agg #[.slice Ao109 t254.length co109,.int .i64 t257],.int .i64 a1] rfl (by (try simp only [lM,lC,lN]);first|done|rfl|(simp only [lD,lT];rfl)) ?_;(with_reducible refine (impl_QueueLess.calls kj60 _ _ t254 t257 a1 t258 t261 t262 _ ?side1 ?side2 A96.out).mono ?_);(case side1=>exact cL (Kd.R_reads' BB.out).2.2);(case side2=>exact (Kd.R_reads' BB.out).2.1);rintro e w110 ⟨v259,rfl,ho0,hb⟩;refine ⟨_,rfl,?_⟩;have n0_:=Am (Kd.R_elder' (rL Bc.out) (Kd.R_base ho0) hb);have n1_:=Am (Kd.R_elder' (rL Bd.out) (Kd.R_base ho0) hb);have n2_:=Am (Kd.R_elder' (rL Ba.out) (Kd.R_base ho0) hb);have n3_:=Am (Kd.R_elder' (rL BB.out) (Kd.R_base ho0) hb);have n4_:=Am (Kd.R_lower (Kd.R_new' (Kd.R_new' (Kd.R_new' (Kd.R_new' ho0 (Kd.R_lt (rL Bc.out))) (Kd.R_lt (rL Bd.out))) (Kd.R_lt (rL Ba.out))) (Kd.R_lt (rL BB.out))) (bZ (by repeat (first|(with_reducible first|exact HB.out|apply oA|apply pN|apply o1|refine bS ?_ Bl.out|refine bS ?_ Bn.out|refine bS ?_ Bp.out|refine bS ?_ Bs.out)|exact HB.out))));have n5_:=Am (bX Bb.out hb);have n6_:=Am (bX Be.out hb);have n7_:=Am (bX Bg.out hb);have n8_:=Am (bX Bf.out hb);have n9_:=Am (bP (by repeat (first|(with_reducible first|exact HB.out|apply oA|apply pN|apply o1|refine bS ?_ Bl.out|refine bS ?_ Bn.out|refine bS ?_ Bp.out|refine bS ?_ Bs.out)|exact HB.out)) hb);clear Bc Bd Ba BB Bb Be Bg Bf HB;revert n0_ n1_ n2_ n3_ n4_ n5_ n6_ n7_ n8_ n9_;intro Bc Bd Ba BB BC Bb Be Bg Bf HB;(try clear hb);(try clear hb2);(try clear hk);(try clear hi);(try clear ho0))|((with_reducible refine gate_dst (N:=14) rfl ?_);refine box_event ?hg (N:=14) ?hd (cs:=#[.slice none 0 0,.int .i64 0]) (t:=47) ?hr ?_;(case hd=>rfl);(case hg=>rfl);(case hr=>first|(go_simp;done)|(go_simp;rfl));intro Bm hg w111 hbox hb;have n0_:=Am (rB (rL Bc.out) hb);have n1_:=Am (rB (rL Bd.out) hb);have n2_:=Am (rB (rL Ba.out) hb);have n3_:=Am (rB (rL BB.out) hb);have n4_:=Am (rB (rL BC.out) hb);have n5_:=Am (bX Bb.out hb);have n6_:=Am (bX Be.out hb);have n7_:=Am (bX Bg.out hb);have n8_:=Am (bX Bf.out hb);have n9_:=Am (bP (by repeat (first|(with_reducible first|exact HB.out|apply oA|apply pN|apply o1|refine bS ?_ Bl.out|refine bS ?_ Bn.out|refine bS ?_ Bp.out|refine bS ?_ Bs.out)|exact HB.out)) hb);have n10_:=Am (hbox);have n11_:=Am ((by rw [hg];exact (bZ (by repeat (first|(with_reducible first|exact HB.out|apply oA|apply pN|apply o1|refine bS ?_ Bl.out|refine bS ?_ Bn.out|refine bS ?_ Bp.out|refine bS ?_ Bs.out)|exact HB.out))):w.heap.size≤Bm));have n12_:=Am ((by rw [hg];exact (bZ (by repeat (first|(with_reducible first|exact HB.out|apply oA|apply pN|apply o1|refine bS ?_ Bl.out|refine bS ?_ Bn.out|refine bS ?_ Bp.out|refine bS ?_ Bs.out)|exact HB.out))):w.heap.size≤Bm));have n13_:=Am ((nL Bb.out hg));have n14_:=Am ((nG Bb.out hg));have n15_:=Am ((nL Be.out hg));have n16_:=Am ((nG Be.out hg));have n17_:=Am ((nL Bg.out hg));have n18_:=Am ((nG Bg.out hg));have n19_:=Am ((nL Bf.out hg));have n20_:=Am ((nG Bf.out hg));clear Bc Bd Ba BB BC Bb Be Bg Bf HB;revert n0_ n1_ n2_ n3_ n4_ n5_ n6_ n7_ n8_ n9_ n10_ n11_ n12_ n13_ n14_ n15_ n16_ n17_ n18_ n19_ n20_;intro Bc Bd Ba BB BC Bb Be Bg Bf HB Bo Jr BT BJ BQ BK BR BL BS BI BN;clear hb hbox hg;obtain ⟨Ao112,co112,eo112⟩:=Kd.R_slice BC.out;subst eo112;have FF:=BQ.out;have FG:=BJ.out;have FH:=BR.out;have FI:=BK.out;have FJ:=BS.out;have FK:=BL.out;have FL:=BN.out;have FM:=BI.out;have D9:=cz0 Bo.out;have Fa:=cz1 Bo.out;have Fb:=bF Bo.out 0;have Fc:=bF Bo.out 1))
     (try simp only [Act.put,lA,lZ,lS])
     go_cut [92] (fun v92 wc=>∃ (kq:Nat) (x92_96:Bool),v92=.bool x92_96∧Aside0 (laws_FnExactQueueLess.j2 kq t251 x92_96 t252 t239=some r)∧Aside0 (kq≤kj60)∧Aside0 (Kd.R k86 86 wc w.heap.size (fun k_=>some k_≠((.slice Ao27 t249.length co27):Value).ownBlock∧some k_≠((.slice Ao33 t236.length co33):Value).ownBlock∧some k_≠((.slice Ao112 t258.length co112):Value).ownBlock) (.slice Ao21 t225.length co21) t225)∧Aside0 (Kd.R k86 86 wc w.heap.size (fun k_=>some k_≠((.slice Ao21 t225.length co21):Value).ownBlock∧some k_≠((.slice Ao33 t236.length co33):Value).ownBlock∧some k_≠((.slice Ao112 t258.length co112):Value).ownBlock) (.slice Ao27 t249.length co27) t249)∧Aside0 (Kd.R k86 86 wc w.heap.size (fun k_=>some k_≠((.slice Ao21 t225.length co21):Value).ownBlock∧some k_≠((.slice Ao27 t249.length co27):Value).ownBlock∧some k_≠((.slice Ao112 t258.length co112):Value).ownBlock) (.slice Ao33 t236.length co33) t252)∧Aside0 (Kd.R k86 86 wc w.heap.size (fun k_=>some k_≠((.slice Ao21 t225.length co21):Value).ownBlock∧some k_≠((.slice Ao27 t249.length co27):Value).ownBlock∧some k_≠((.slice Ao33 t236.length co33):Value).ownBlock) (.slice Ao112 t258.length co112) t258)∧Aside0 (wc.heap[Bi]?=some (.cells #[(.slice A0_0 l0_0.length c0_0),.int .i64 a0_1] 43 (0,0)))∧Aside0 (wc.heap[Bj]?=some (.cells #[(.slice Ao21 t225.length co21),.int .i64 t228] 47 (0,0)))∧Aside0 (wc.heap[Bk]?=some (.cells #[(.slice Ao27 t249.length co27),.int .i64 t234] 47 (0,0)))∧Aside0 (wc.heap[Bh]?=some (.cells #[(.slice Ao33 t236.length co33),.int .i64 t239] 47 (0,0)))∧Aside0 (wc.heap[Bm]?=some (.cells #[(.slice Ao112 t258.length co112),.int .i64 t261] 47 (0,0)))∧Aside0 (Below w.heap.size w wc))
     case first =>
      have H:=HC97.out
      clear HC97
      replace H:=oC H
      obtain ⟨t264,A1180,H⟩:=H
      replace H:(if t264=true then (laws_FnExactQueueLess.j2 kj60 t251 (t262 != t229) t252 t239) else (laws_FnExactQueueLess.j2 kj60 t251 true t252 t239))=some r:=H
      have A118:=Am A1180
      clear A1180
      by_cases c119:t264=true
      ·subst c119
       have H1:(laws_FnExactQueueLess.j2 kj60 t251 (t262 != t229) t252 t239)=some r:=by rw [if_pos rfl] at H;exact H
       clear H
       have H:=H1
       clear H1
       have H':=Am H
       clear H
       have FN:=BQ.out
       have FO:=BJ.out
       have FP:=BR.out
       have FQ:=BK.out
       have FR:=BS.out
       have FS:=BL.out
       have FT:=BN.out
       have FU:=BI.out
       have Fd:=cz0 Bo.out
       have Fe:=cz1 Bo.out
       have Ff:=bF Bo.out 0
       have Fg:=bF Bo.out 1
       have FV:=BD.out
       have FW:=Bw.out
       have FX:=Bx.out
       have FY:=BE.out
       have FZ:=Bu.out
       have F0:=Bz.out
       have Fh:=cz0 Be.out
       have Fi:=cz1 Be.out
       have Fj:=bF Be.out 0
       have Fk:=bF Be.out 1
       go_wp2_with (first|((with_reducible refine gate_callee (f:=33) rfl ?_);refine goesL_ (some 86) rfl rfl Try.func33 (by kernel_rfl) rfl #[.agg #[.slice Ao112 t258.length co112,.int .i64 t261],.agg #[.slice Ao21 t225.length co21,.int .i64 t228]] rfl (by (try simp only [lM,lC,lN]);first|done|rfl|(simp only [lD,lT];rfl)) ?_;(with_reducible refine (laws_eqQueue.calls kj60 _ _ t258 t261 _ _ t225 t228 true _ ?side1 ?side2 ?side3 ?side4 A118.out).mono ?_);(case side1=>refine (Kd.R_reads' (e:=86) (base:=w.heap.size) (ok:=fun k_=>((((True∧some k_≠(.slice Ao21 t225.length co21:Value).ownBlock)∧some k_≠(.slice Ao27 t249.length co27:Value).ownBlock)∧some k_≠(.slice Ao33 t236.length co33:Value).ownBlock)∧some k_≠(.slice Ao109 t254.length co109:Value).ownBlock)) (n:=t258.length) (c:=co112) ?_).2.2;exact (by (with_reducible repeat (first|apply rA|apply rN|apply rD));exact (rM (rF (p:=⟨Bm,1,none⟩) (rF (p:=⟨Bm,0,none⟩) (rT BC.out Bo.out (by decide)) (fun _ hk=>hk.2) (.slice Ao112 t258.length co112)) (fun _ hk=>hk.2) (.int .i64 t261)) (fun _ h_=>h_.1))));(case side2=>exact (Kd.R_reads' BC.out).2.1);(case side3=>refine (Kd.R_reads' (e:=86) (base:=w.heap.size) (ok:=fun k_=>(((some k_≠(.slice Ao27 t249.length co27:Value).ownBlock∧some k_≠(.slice Ao33 t236.length co33:Value).ownBlock)∧some k_≠(.slice Ao109 t254.length co109:Value).ownBlock)∧some k_≠(.slice Ao112 t258.length co112:Value).ownBlock)) (n:=t225.length) (c:=co21) ?_).2.2;exact (by (with_reducible repeat (first|apply rA|apply rN|apply rD));exact (rM (rF (p:=⟨Bm,1,none⟩) (rF (p:=⟨Bm,0,none⟩) (rT Bc.out Bo.out (by decide)) (fun _ hk=>hk.2) (.slice Ao112 t258.length co112)) (fun _ hk=>hk.2) (.int .i64 t261)) (fun _ h_=>h_.1))));(case side4=>exact (Kd.R_reads' Bc.out).2.1);rintro e w129 ⟨rfl,hb⟩;refine ⟨_,rfl,?_⟩;have n0_:=Am (rB (by (with_reducible repeat (first|apply rA|apply rN|apply rD));exact (rM (rF (p:=⟨Bm,1,none⟩) (rF (p:=⟨Bm,0,none⟩) (rT Bc.out Bo.out (by decide)) (fun _ hk=>hk.2) (.slice Ao112 t258.length co112)) (fun _ hk=>hk.2) (.int .i64 t261)) (fun _ h_=>h_.1))) hb);have n1_:=Am (rB (by (with_reducible repeat (first|apply rA|apply rN|apply rD));exact (rM (rF (p:=⟨Bm,1,none⟩) (rF (p:=⟨Bm,0,none⟩) (rT Bd.out Bo.out (by decide)) (fun _ hk=>hk.2) (.slice Ao112 t258.length co112)) (fun _ hk=>hk.2) (.int .i64 t261)) (fun _ h_=>h_.1))) hb);have n2_:=Am (rB (by (with_reducible repeat (first|apply rA|apply rN|apply rD));exact (rM (rF (p:=⟨Bm,1,none⟩) (rF (p:=⟨Bm,0,none⟩) (rT Ba.out Bo.out (by decide)) (fun _ hk=>hk.2) (.slice Ao112 t258.length co112)) (fun _ hk=>hk.2) (.int .i64 t261)) (fun _ h_=>h_.1))) hb);have n3_:=Am (rB (by (with_reducible repeat (first|apply rA|apply rN|apply rD));exact (rM (rF (p:=⟨Bm,1,none⟩) (rF (p:=⟨Bm,0,none⟩) (rT BB.out Bo.out (by decide)) (fun _ hk=>hk.2) (.slice Ao112 t258.length co112)) (fun _ hk=>hk.2) (.int .i64 t261)) (fun _ h_=>h_.1))) hb);have n4_:=Am (rB (by (with_reducible repeat (first|apply rA|apply rN|apply rD));exact (rM (rF (p:=⟨Bm,1,none⟩) (rF (p:=⟨Bm,0,none⟩) (rT BC.out Bo.out (by decide)) (fun _ hk=>hk.2) (.slice Ao112 t258.length co112)) (fun _ hk=>hk.2) (.int .i64 t261)) (fun _ h_=>h_.1))) hb);have n5_:=Am (bB (g:=Bi) (o:=.cells #[.slice A0_0 l0_0.length c0_0,.int .i64 a0_1] 43 (0,0)) (by (with_reducible repeat (first|refine bN ?_ _|refine bD ?_|refine bA ?_ _|refine blk_far ?_ BJ.out _));exact Bb.out) hb);have n6_:=Am (bB (g:=Bj) (o:=.cells #[.slice Ao21 t225.length co21,.int .i64 t228] 47 (0,0)) (by (with_reducible repeat (first|refine bN ?_ _|refine bD ?_|refine bA ?_ _|refine blk_far ?_ BK.out _));exact Be.out) hb);have n7_:=Am (bB (g:=Bk) (o:=.cells #[.slice Ao27 t249.length co27,.int .i64 t234] 47 (0,0)) (by (with_reducible repeat (first|refine bN ?_ _|refine bD ?_|refine bA ?_ _|refine blk_far ?_ BL.out _));exact Bg.out) hb);have n8_:=Am (bB (g:=Bh) (o:=.cells #[.slice Ao33 t236.length co33,.int .i64 t239] 47 (0,0)) (by (with_reducible repeat (first|refine bN ?_ _|refine bD ?_|refine bA ?_ _|refine blk_far ?_ BI.out _));exact Bf.out) hb);have n9_:=Am (bB (g:=Bm) (o:=.cells #[.slice Ao112 t258.length co112,.int .i64 t261] 47 (0,0)) (by (with_reducible repeat (first|refine bN ?_ _|refine bD ?_|refine bA ?_ _));refine blk_put (cs:=#[.slice Ao112 t258.length co112,.int .i64 0]) ?_ 1 _ rfl;(with_reducible repeat (first|refine bN ?_ _|refine bD ?_|refine bA ?_ _));refine blk_put (cs:=#[.slice none 0 0,.int .i64 0]) ?_ 0 _ rfl;(with_reducible repeat (first|refine bN ?_ _|refine bD ?_|refine bA ?_ _));exact Bo.out) hb);have n10_:=Am (bP (by repeat (first|(with_reducible first|exact HB.out|apply oA|apply pN|apply o1|refine bS ?_ Bl.out|refine bS ?_ Bn.out|refine bS ?_ Bp.out|refine bS ?_ Bs.out|refine bS ?_ BT.out)|exact HB.out)) hb);clear Bc Bd Ba BB BC Bb Be Bg Bf Bo HB;revert n0_ n1_ n2_ n3_ n4_ n5_ n6_ n7_ n8_ n9_ n10_;intro Bc Bd Ba BB BC Bb Be Bg Bf Bo HB;(try clear hb);(try clear hb2);(try clear hk);(try clear hi)))
       go_meet
       case rel=>exact ⟨_,((t262 != t229)),(by first|rfl|(simp;done)|(simp [*];done)),H',⟨by have:=DC.out;have:=Ft.out;first|omega|exact Nat.le_refl _⟩,⟨by (try simp only [hl236000_60]);(with_reducible repeat (first|apply rA|apply rN|apply rD));exact rM Bc.out (fun _ hk=>⟨hk.1.1.1,⟨hk.1.1.2,hk.2⟩⟩)⟩,⟨by (try simp only [hl236000_60]);(with_reducible repeat (first|apply rA|apply rN|apply rD));exact rM Bd.out (fun _ hk=>⟨hk.1.1.1,⟨hk.1.1.2,hk.2⟩⟩)⟩,⟨by (try simp only [hl236000_60]);(with_reducible repeat (first|apply rA|apply rN|apply rD));exact rM Ba.out (fun _ hk=>⟨hk.1.1.1,⟨hk.1.1.2,hk.2⟩⟩)⟩,⟨by (try simp only [hl236000_60]);(with_reducible repeat (first|apply rA|apply rN|apply rD));exact rM BC.out (fun _ hk=>⟨hk.1.1.1.2,⟨hk.1.1.2,hk.1.2⟩⟩)⟩,⟨by (try simp only [hl236000_60]);(with_reducible repeat (first|refine bN ?_ _|refine bD ?_|refine bA ?_ _));exact Bb.out⟩,⟨by (try simp only [hl236000_60]);(with_reducible repeat (first|refine bN ?_ _|refine bD ?_|refine bA ?_ _));exact Be.out⟩,⟨by (try simp only [hl236000_60]);(with_reducible repeat (first|refine bN ?_ _|refine bD ?_|refine bA ?_ _));exact Bg.out⟩,⟨by (try simp only [hl236000_60]);(with_reducible repeat (first|refine bN ?_ _|refine bD ?_|refine bA ?_ _));exact Bf.out⟩,⟨by (try simp only [hl236000_60]);(with_reducible repeat (first|refine bN ?_ _|refine bD ?_|refine bA ?_ _));exact Bo.out⟩,⟨by repeat (first|(with_reducible first|exact HB.out|apply oA|apply pN|apply o1|refine bS ?_ Bl.out|refine bS ?_ Bn.out|refine bS ?_ Bp.out|refine bS ?_ Bs.out|refine bS ?_ BT.out)|exact HB.out)⟩⟩
      replace c119:=Bool.eq_false_iff.mpr c119
      subst c119
      have H1:(laws_FnExactQueueLess.j2 kj60 t251 true t252 t239)=some r:=by rw [if_neg (show ¬ (false=true) by decide)] at H;exact H
      clear H
      have H:=H1
      clear H1
      have H':=Am H
      clear H
      have F1:=BQ.out
      have F2:=BJ.out
      have F3:=BR.out
      have F4:=BK.out
      have F5:=BS.out
      have F6:=BL.out
      have F7:=BN.out
      have F8:=BI.out
      have Fl:=cz0 Bo.out
      have Fm:=cz1 Bo.out
      have Fn:=bF Bo.out 0
      have Fo:=bF Bo.out 1
      have F9:=BD.out
      have Ga:=Bw.out
      have Gb:=Bx.out
      have Gc:=BE.out
      have Gd:=Bu.out
      have Ge:=Bz.out
      have Fp:=cz0 Be.out
      have Fq:=cz1 Be.out
      have Fr:=bF Be.out 0
      have Fs:=bF Be.out 1
      go_wp2_with (first|((with_reducible refine gate_callee (f:=33) rfl ?_);refine goesL_ (some 86) rfl rfl Try.func33 (by kernel_rfl) rfl #[.agg #[.slice Ao112 t258.length co112,.int .i64 t261],.agg #[.slice Ao21 t225.length co21,.int .i64 t228]] rfl (by (try simp only [lM,lC,lN]);first|done|rfl|(simp only [lD,lT];rfl)) ?_;(with_reducible refine (laws_eqQueue.calls kj60 _ _ t258 t261 _ _ t225 t228 false _ ?side1 ?side2 ?side3 ?side4 A118.out).mono ?_);(case side1=>refine (Kd.R_reads' (e:=86) (base:=w.heap.size) (ok:=fun k_=>((((True∧some k_≠(.slice Ao21 t225.length co21:Value).ownBlock)∧some k_≠(.slice Ao27 t249.length co27:Value).ownBlock)∧some k_≠(.slice Ao33 t236.length co33:Value).ownBlock)∧some k_≠(.slice Ao109 t254.length co109:Value).ownBlock)) (n:=t258.length) (c:=co112) ?_).2.2;exact (by (with_reducible repeat (first|apply rA|apply rN|apply rD));exact (rM (rF (p:=⟨Bm,1,none⟩) (rF (p:=⟨Bm,0,none⟩) (rT BC.out Bo.out (by decide)) (fun _ hk=>hk.2) (.slice Ao112 t258.length co112)) (fun _ hk=>hk.2) (.int .i64 t261)) (fun _ h_=>h_.1))));(case side2=>exact (Kd.R_reads' BC.out).2.1);(case side3=>refine (Kd.R_reads' (e:=86) (base:=w.heap.size) (ok:=fun k_=>(((some k_≠(.slice Ao27 t249.length co27:Value).ownBlock∧some k_≠(.slice Ao33 t236.length co33:Value).ownBlock)∧some k_≠(.slice Ao109 t254.length co109:Value).ownBlock)∧some k_≠(.slice Ao112 t258.length co112:Value).ownBlock)) (n:=t225.length) (c:=co21) ?_).2.2;exact (by (with_reducible repeat (first|apply rA|apply rN|apply rD));exact (rM (rF (p:=⟨Bm,1,none⟩) (rF (p:=⟨Bm,0,none⟩) (rT Bc.out Bo.out (by decide)) (fun _ hk=>hk.2) (.slice Ao112 t258.length co112)) (fun _ hk=>hk.2) (.int .i64 t261)) (fun _ h_=>h_.1))));(case side4=>exact (Kd.R_reads' Bc.out).2.1);rintro e w139 ⟨rfl,hb⟩;refine ⟨_,rfl,?_⟩;have n0_:=Am (rB (by (with_reducible repeat (first|apply rA|apply rN|apply rD));exact (rM (rF (p:=⟨Bm,1,none⟩) (rF (p:=⟨Bm,0,none⟩) (rT Bc.out Bo.out (by decide)) (fun _ hk=>hk.2) (.slice Ao112 t258.length co112)) (fun _ hk=>hk.2) (.int .i64 t261)) (fun _ h_=>h_.1))) hb);have n1_:=Am (rB (by (with_reducible repeat (first|apply rA|apply rN|apply rD));exact (rM (rF (p:=⟨Bm,1,none⟩) (rF (p:=⟨Bm,0,none⟩) (rT Bd.out Bo.out (by decide)) (fun _ hk=>hk.2) (.slice Ao112 t258.length co112)) (fun _ hk=>hk.2) (.int .i64 t261)) (fun _ h_=>h_.1))) hb);have n2_:=Am (rB (by (with_reducible repeat (first|apply rA|apply rN|apply rD));exact (rM (rF (p:=⟨Bm,1,none⟩) (rF (p:=⟨Bm,0,none⟩) (rT Ba.out Bo.out (by decide)) (fun _ hk=>hk.2) (.slice Ao112 t258.length co112)) (fun _ hk=>hk.2) (.int .i64 t261)) (fun _ h_=>h_.1))) hb);have n3_:=Am (rB (by (with_reducible repeat (first|apply rA|apply rN|apply rD));exact (rM (rF (p:=⟨Bm,1,none⟩) (rF (p:=⟨Bm,0,none⟩) (rT BB.out Bo.out (by decide)) (fun _ hk=>hk.2) (.slice Ao112 t258.length co112)) (fun _ hk=>hk.2) (.int .i64 t261)) (fun _ h_=>h_.1))) hb);have n4_:=Am (rB (by (with_reducible repeat (first|apply rA|apply rN|apply rD));exact (rM (rF (p:=⟨Bm,1,none⟩) (rF (p:=⟨Bm,0,none⟩) (rT BC.out Bo.out (by decide)) (fun _ hk=>hk.2) (.slice Ao112 t258.length co112)) (fun _ hk=>hk.2) (.int .i64 t261)) (fun _ h_=>h_.1))) hb);have n5_:=Am (bB (g:=Bi) (o:=.cells #[.slice A0_0 l0_0.length c0_0,.int .i64 a0_1] 43 (0,0)) (by (with_reducible repeat (first|refine bN ?_ _|refine bD ?_|refine bA ?_ _|refine blk_far ?_ BJ.out _));exact Bb.out) hb);have n6_:=Am (bB (g:=Bj) (o:=.cells #[.slice Ao21 t225.length co21,.int .i64 t228] 47 (0,0)) (by (with_reducible repeat (first|refine bN ?_ _|refine bD ?_|refine bA ?_ _|refine blk_far ?_ BK.out _));exact Be.out) hb);have n7_:=Am (bB (g:=Bk) (o:=.cells #[.slice Ao27 t249.length co27,.int .i64 t234] 47 (0,0)) (by (with_reducible repeat (first|refine bN ?_ _|refine bD ?_|refine bA ?_ _|refine blk_far ?_ BL.out _));exact Bg.out) hb);have n8_:=Am (bB (g:=Bh) (o:=.cells #[.slice Ao33 t236.length co33,.int .i64 t239] 47 (0,0)) (by (with_reducible repeat (first|refine bN ?_ _|refine bD ?_|refine bA ?_ _|refine blk_far ?_ BI.out _));exact Bf.out) hb);have n9_:=Am (bB (g:=Bm) (o:=.cells #[.slice Ao112 t258.length co112,.int .i64 t261] 47 (0,0)) (by (with_reducible repeat (first|refine bN ?_ _|refine bD ?_|refine bA ?_ _));refine blk_put (cs:=#[.slice Ao112 t258.length co112,.int .i64 0]) ?_ 1 _ rfl;(with_reducible repeat (first|refine bN ?_ _|refine bD ?_|refine bA ?_ _));refine blk_put (cs:=#[.slice none 0 0,.int .i64 0]) ?_ 0 _ rfl;(with_reducible repeat (first|refine bN ?_ _|refine bD ?_|refine bA ?_ _));exact Bo.out) hb);have n10_:=Am (bP (by repeat (first|(with_reducible first|exact HB.out|apply oA|apply pN|apply o1|refine bS ?_ Bl.out|refine bS ?_ Bn.out|refine bS ?_ Bp.out|refine bS ?_ Bs.out|refine bS ?_ BT.out)|exact HB.out)) hb);clear Bc Bd Ba BB BC Bb Be Bg Bf Bo HB;revert n0_ n1_ n2_ n3_ n4_ n5_ n6_ n7_ n8_ n9_ n10_;intro Bc Bd Ba BB BC Bb Be Bg Bf Bo HB;(try clear hb);(try clear hb2);(try clear hk);(try clear hi)))
      go_meet
      case rel=>exact ⟨_,(true),(by first|rfl|(simp;done)|(simp [*];done)),H',⟨by have:=DC.out;have:=Ft.out;first|omega|exact Nat.le_refl _⟩,⟨by (try simp only [hl236000_60]);(with_reducible repeat (first|apply rA|apply rN|apply rD));exact rM Bc.out (fun _ hk=>⟨hk.1.1.1,⟨hk.1.1.2,hk.2⟩⟩)⟩,⟨by (try simp only [hl236000_60]);(with_reducible repeat (first|apply rA|apply rN|apply rD));exact rM Bd.out (fun _ hk=>⟨hk.1.1.1,⟨hk.1.1.2,hk.2⟩⟩)⟩,⟨by (try simp only [hl236000_60]);(with_reducible repeat (first|apply rA|apply rN|apply rD));exact rM Ba.out (fun _ hk=>⟨hk.1.1.1,⟨hk.1.1.2,hk.2⟩⟩)⟩,⟨by (try simp only [hl236000_60]);(with_reducible repeat (first|apply rA|apply rN|apply rD));exact rM BC.out (fun _ hk=>⟨hk.1.1.1.2,⟨hk.1.1.2,hk.1.2⟩⟩)⟩,⟨by (try simp only [hl236000_60]);(with_reducible repeat (first|refine bN ?_ _|refine bD ?_|refine bA ?_ _));exact Bb.out⟩,⟨by (try simp only [hl236000_60]);(with_reducible repeat (first|refine bN ?_ _|refine bD ?_|refine bA ?_ _));exact Be.out⟩,⟨by (try simp only [hl236000_60]);(with_reducible repeat (first|refine bN ?_ _|refine bD ?_|refine bA ?_ _));exact Bg.out⟩,⟨by (try simp only [hl236000_60]);(with_reducible repeat (first|refine bN ?_ _|refine bD ?_|refine bA ?_ _));exact Bf.out⟩,⟨by (try simp only [hl236000_60]);(with_reducible repeat (first|refine bN ?_ _|refine bD ?_|refine bA ?_ _));exact Bo.out⟩,⟨by repeat (first|(with_reducible first|exact HB.out|apply oA|apply pN|apply o1|refine bS ?_ Bl.out|refine bS ?_ Bn.out|refine bS ?_ Bp.out|refine bS ?_ Bs.out|refine bS ?_ BT.out)|exact HB.out)⟩⟩
     case rest =>
      clear HC97
      try clear c1
      try clear c2
      try clear p2
      try clear c3
      try clear c4
      try clear c4b0
      try clear c5
      try clear c6
      try clear c7
      try clear c8
      try clear c9
      try clear c10
      try clear c11
      try clear c12
      try clear c13
      try clear c22
      try clear c28
      try clear c29
      try clear c31
      try clear c33
      try clear c34
      try clear c35
      try clear c36
      try clear c38
      try clear c39
      try clear c40
      try clear c41
      try clear c42
      try clear c44
      try clear c45
      try clear c48
      try clear c49
      try clear c50
      try clear c52
      try clear c53
      try clear c56
      try clear c59
      try clear c66
      try clear c67
      try clear c68
      try clear c71
      try clear c71b0
      try clear c73
      try clear c74
      try clear c75
      try clear c76
      try clear c78
      try clear c79
      try clear c82
      try clear c83
      try clear c84
      try clear c86
      try clear c87
      try clear c90
      try clear c93
      try clear c93b0
      try clear c94
      try clear c94b0
      try clear c94b1
      try clear c98
      try clear c99
      try clear c100
      try clear c105
      try clear c106
      try clear c113
      try clear c114
      try clear c115
      try clear c116
      try clear c119
      try clear c120
      try clear c121
      try clear c122
      try clear c123
      try clear c125
      try clear c126
      try clear c127
      try clear c130
      try clear c131
      try clear c132
      try clear c133
      try clear c135
      try clear c136
      try clear c137
      try clear DX
      try clear DY
      try clear D1
      try clear D2
      try clear D5
      try clear D6
      try clear D9
      try clear Fa
      try clear Fd
      try clear Fe
      try clear Fh
      try clear Fi
      try clear Fl
      try clear Fm
      try clear Fp
      try clear Fq
      try clear BU
      try clear BV
      try clear BY
      try clear BZ
      try clear B2
      try clear B3
      try clear B6
      try clear B7
      try clear Da
      try clear Db
      try clear De
      try clear Df
      try clear Di
      try clear Dj
      try clear Dm
      try clear Dn
      try clear Dq
      try clear Dr
      try clear Du
      try clear Dv
      try clear DD
      try clear DE
      try clear Dy
      try clear Dz
      try clear DH
      try clear DI
      try clear DL
      try clear DM
      try clear DP
      try clear DQ
      try clear DT
      try clear DU
      try clear DZ
      try clear D0
      try clear D3
      try clear D4
      try clear D7
      try clear D8
      try clear Fb
      try clear Fc
      try clear Ff
      try clear Fg
      try clear Fj
      try clear Fk
      try clear Fn
      try clear Fo
      try clear Fr
      try clear Fs
      try clear BW
      try clear BX
      try clear B0
      try clear B1
      try clear B4
      try clear B5
      try clear B8
      try clear B9
      try clear Dc
      try clear Dd
      try clear Dg
      try clear Dh
      try clear Dk
      try clear Dl
      try clear Do
      try clear Dp
      try clear Ds
      try clear Dt
      try clear Dw
      try clear Dx
      try clear DF
      try clear DG
      try clear DA
      try clear DB
      try clear DJ
      try clear DK
      try clear DN
      try clear DO
      try clear DR
      try clear DS
      try clear DV
      try clear DW
      try clear p2
      obtain ⟨kq,x92_96,rfl,HA,Js,Bc,Bd,Ba,BO,Bb,Be,Bg,Bf,Bo,HB⟩:=hcut
      have hl242000_96:=(Kd.R_reads' Ba.out).1
      rw [hl242000_96] at Ba
      (try simp only [hl242000_96])
      (try simp only [hl242000_96] at Bb)
      (try simp only [hl242000_96] at Be)
      (try simp only [hl242000_96] at Bg)
      (try simp only [hl242000_96] at Bf)
      (try simp only [hl242000_96] at Bo)
      (try simp only [hl242000_96] at Bc)
      (try simp only [hl242000_96] at Bd)
      (try simp only [hl242000_96] at BO)
      cases kq with
     |zero=>exact absurd HA.out (by simp [laws_FnExactQueueLess.j2])
     |succ kj96 =>
       have H:=HA.out
       clear HA
       simp only [laws_FnExactQueueLess.j2] at H
       by_cases c140:x92_96=true
       ·subst c140
        have H1:(some false)=some r:=by rw [if_pos rfl] at H;exact H
        clear H
        have H:=H1
        clear H1
        exact absurd ((Option.some.inj H).trans hT_.out) (by decide)
       replace c140:=Bool.eq_false_iff.mpr c140
       subst c140
       have H1:((laws_heldQueue.f kj96 t252 t239 1).bind fun t265=>(if t265<0 then (some false) else (if t265=t251 then (some true) else (some false))))=some r:=by rw [if_neg (show ¬ (false=true) by decide)] at H;exact H
       clear H
       have H:=H1
       clear H1
       replace H:=oC H
       obtain ⟨t265,A1410,H⟩:=H
       replace H:(if t265<0 then (some false) else (if t265=t251 then (some true) else (some false)))=some r:=H
       have A141:=Am A1410
       clear A1410
       by_cases c142:t265<0
       ·rw [if_pos c142] at H
        have c142b0:decide (t265<0)=true:=decide_eq_true c142
        clear c142
        exact absurd ((Option.some.inj H).trans hT_.out) (by decide)
       rw [if_neg c142] at H
       have c142b0:decide (t265<0)=false:=decide_eq_false c142
       clear c142
       by_cases c143:t265=t251
       rotate_left
       ·rw [if_neg c143] at H
        have c143b0:(t265 == t251)=false:=beq_eq_false_iff_ne.mpr c143
        have c143b1:(t265 != t251)=true:=bne_iff_ne.mpr c143
        exact absurd ((Option.some.inj H).trans hT_.out) (by decide)
       rw [if_pos c143] at H
       have c143b0:(t265 == t251)=true:=beq_iff_eq.mpr c143
       have c143b1:(t265 != t251)=false:=bne_eq_false_iff_eq.mpr c143
       clear c143
       obtain rfl:=Option.some.inj H
       have Gf:=BH.out
       have Gg:=By.out
       have Gh:=Bz.out
       have Gi:=Bu.out
       have Gj:=BF.out
       have Gk:=Bv.out
       have Gl:=BI.out
       have Gm:=BN.out
       have Fv:=cz0 Bf.out
       have Fw:=cz1 Bf.out
       have Fx:=bF Bf.out 0
       have Fy:=bF Bf.out 1
       go_wp2_with (first|((with_reducible refine gate_callee (f:=35) rfl ?_);refine goesL_ (some 95) rfl rfl Try.func35 (by kernel_rfl) rfl #[.agg #[.slice Ao33 t252.length co33,.int .i64 t239],.int .i64 1] rfl (by (try simp only [lM,lC,lN]);first|done|rfl|(simp only [lD,lT];rfl)) ?_;(with_reducible refine (laws_heldQueue.calls kj96 _ _ t252 t239 1 t265 _ ?side1 ?side2 A141.out).mono ?_);(case side1=>exact cL (Kd.R_reads' Ba.out).2.2);(case side2=>exact (Kd.R_reads' Ba.out).2.1);rintro e w149 ⟨rfl,hb⟩;refine ⟨_,rfl,?_⟩;have n0_:=Am (rB (rL Bc.out) hb);have n1_:=Am (rB (rL Bd.out) hb);have n2_:=Am (rB (rL Ba.out) hb);have n3_:=Am (rB (rL BO.out) hb);have n4_:=Am (bX Bb.out hb);have n5_:=Am (bX Be.out hb);have n6_:=Am (bX Bg.out hb);have n7_:=Am (bX Bf.out hb);have n8_:=Am (bX Bo.out hb);have n9_:=Am (bP (by repeat (first|(with_reducible first|exact HB.out|apply oA|apply pN|apply o1|refine bS ?_ Bl.out|refine bS ?_ Bn.out|refine bS ?_ Bp.out|refine bS ?_ Bs.out|refine bS ?_ BT.out)|exact HB.out)) hb);clear Bc Bd Ba BO Bb Be Bg Bf Bo HB;revert n0_ n1_ n2_ n3_ n4_ n5_ n6_ n7_ n8_ n9_;intro Bc Bd Ba BO Bb Be Bg Bf Bo HB;(try clear hb);(try clear hb2);(try clear hk);(try clear hi)))
       go_ret
       exact ⟨by first|rfl|(simp [errW_none,errW_some] <;> rfl)|(simp [*,errW_none,errW_some] <;> rfl),by repeat (first|(with_reducible first|exact HB.out|apply oA|apply pN|apply o1|refine bS ?_ Bl.out|refine bS ?_ Bn.out|refine bS ?_ Bp.out|refine bS ?_ Bs.out|refine bS ?_ BT.out)|exact HB.out)⟩
/-- THE ONE PURE STATEMENT of laws_FnExactQueueLess. -/
def laws_FnExactQueueLess.Pure:Prop:=∀ (l0_0:List (S108)) (a0_1:Int) (a1:Int),l0_0.length≤9223372036854775807 → (∀ x0_ ∈ l0_0,((Lit.int .i64 x0_.f0).wf=true∧((Lit.int .i64 x0_.f1).wf=true∧((Lit.int .i64 x0_.f2).wf=true∧(True))))) → (Lit.int .i64 a0_1).wf=true → (Lit.int .i64 a1).wf=true → ∃ k,laws_FnExactQueueLess.f k l0_0 a0_1 a1=some true

end Go.Proofs.Ytehekikjadjdaaa.PFnExactQueueLess
