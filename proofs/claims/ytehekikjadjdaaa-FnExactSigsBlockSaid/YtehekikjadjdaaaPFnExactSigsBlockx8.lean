/- Proved here, without a condition beyond those that each theorem states: what the Go functions named below do is what the plain functions of the same names say. Written by xprint.py, a program of this session. -/
import Derived.Test.YtehekikjadjdaaaPFnExactSigsBlockx0
import Derived.Test.YtehekikjadjdaaaPFnExactSigsBlockx1
import Derived.Test.YtehekikjadjdaaaPFnExactSigsBlockx2
import Derived.Test.YtehekikjadjdaaaPFnExactSigsBlockx5
import Derived.Test.YtehekikjadjdaaaPFnExactSigsBlockx7
namespace Go.Proofs.Ytehekikjadjdaaa.PFnExactSigsBlock
open Go.RowKit Go.Proofs.YtehekikjadjdaaaW.PrintWords Go.Proofs.YtehekikjadjdaaaW.PrintLast Go.Proofs.YtehekikjadjdaaaW.PrintMore
attribute [local go_sem] max2_int min2_int max_two min_two max_three min_three max_four min_four   -- for this text's walks alone
set_option linter.unusedVariables false
set_option linter.unusedSimpArgs false

attribute [local go_sem ↓] isSome_setCell_
/-! ### laws_FnExactSigsBlock: function 4 -/
mutual
def laws_FnExactSigsBlock.j0 : Nat → List Bool → Bool → List Bool → Bool → Bool → List Bool → List Bool → List Int → List Bool → List Bool → List Int → List Bool → List Bool → List Int → List Bool → List Bool → List Int → Option (Bool)
|0, _, _, _, _, _, _, _, _, _, _, _, _, _, _, _, _, _ => none
|k + 1, x1, x7, x9, x11, x51, x245000, x245001, x245002, x269000, x269001, x269002, x279000, x279001, x279002, x293000, x293001, x293002 => if x51 = true then (some false) else ((laws_toSigs.f k x245000 x245001 x245002).bind fun bt294 => ((laws_eqSigs.f k x279000 x279001 x279002 bt294.1 bt294.2.1 bt294.2.2).bind fun t303 => (if t303 = true then ((laws_toBoolS.f k x1).bind fun t304 => ((laws_eqBoolS.f k x9 t304).bind fun t307 => (if t307 = true then ((laws_markSigs.f k x279000 x279001 x279002 1).bind fun bt308 => ((laws_markBoolS.f k x9 bt308.1).bind fun bt312 => (if bt312.1 < 0 then (laws_FnExactSigsBlock.j1 k x1 x7 true x245000 x245001 x245002 x269000 x269001 x269002 x293000 x293001 x293002) else ((laws_eqSigs.f k x293000 x293001 x293002 x269000 x269001 x269002).bind fun t314 => (if t314 = true then (laws_FnExactSigsBlock.j1 k x1 x7 (x11 != x7) x245000 x245001 x245002 x269000 x269001 x269002 x293000 x293001 x293002) else (laws_FnExactSigsBlock.j1 k x1 x7 true x245000 x245001 x245002 x269000 x269001 x269002 x293000 x293001 x293002)))))) else (some false)))) else (some false))))
def laws_FnExactSigsBlock.j1 : Nat → List Bool → Bool → Bool → List Bool → List Bool → List Int → List Bool → List Bool → List Int → List Bool → List Bool → List Int → Option (Bool)
|0, _, _, _, _, _, _, _, _, _, _, _, _ => none
|k + 1, x1, x7, x80, x245000, x245001, x245002, x269000, x269001, x269002, x293000, x293001, x293002 => if x80 = true then (some false) else ((laws_markSigs.f k x293000 x293001 x293002 1).bind fun bt315 => ((laws_heldSigs.f k bt315.2.1 bt315.2.2.1 bt315.2.2.2 1).bind fun t319 => (if t319 < 0 then (some false) else (if t319 = bt315.1 then ((laws_toSigs.f k x245000 x245001 x245002).bind fun bt320 => ((laws_toBoolS.f k x1).bind fun t329 => ((impl_SigsBlock.f k bt320.1 bt320.2.1 bt320.2.2 t329).bind fun bt332 => ((laws_eqSigs.f k bt332.1 bt332.2.1 bt332.2.2.1 x269000 x269001 x269002).bind fun t343 => (if t343 = true then (laws_FnExactSigsBlock.j2 k bt315.1 (bt332.2.2.2 != x7) bt315.2.1 bt315.2.2.1 bt315.2.2.2) else (laws_FnExactSigsBlock.j2 k bt315.1 true bt315.2.1 bt315.2.2.1 bt315.2.2.2)))))) else (some false)))))
def laws_FnExactSigsBlock.j2 : Nat → Int → Bool → List Bool → List Bool → List Int → Option (Bool)
|0, _, _, _, _, _ => none
|k + 1, x13, x108, x293000, x293001, x293002 => if x108 = true then (some false) else ((laws_heldSigs.f k x293000 x293001 x293002 1).bind fun t344 => (if t344 < 0 then (some false) else (if t344 = x13 then (some true) else (some false))))
end
def laws_FnExactSigsBlock.f (k : Nat) (l0_0 : List Bool) (l0_1 : List Bool) (l0_2 : List Int) (l1 : List Bool) : Option (Bool) := if (l1.length : Int) > 1048576 then (some true) else ((laws_szSigs.f l0_0 l0_1 l0_2 1048576).bind fun t245 => (if t245 < 0 then (some true) else ((laws_toSigs.f k l0_0 l0_1 l0_2).bind fun bt246 => ((laws_toBoolS.f k l1).bind fun t255 => ((spec_SigsBlock.f k bt246.1 bt246.2.1 bt246.2.2 t255).bind fun bt258 => ((laws_toSigs.f k l0_0 l0_1 l0_2).bind fun bt269 => ((laws_toBoolS.f k l1).bind fun t279 => ((impl_SigsBlock.f k bt269.1 bt269.2.1 bt269.2.2 t279).bind fun bt282 => ((laws_eqSigs.f k bt282.1 bt282.2.1 bt282.2.2.1 bt258.1 bt258.2.1 bt258.2.2.1).bind fun t293 => (if t293 = true then (laws_FnExactSigsBlock.j0 k l1 bt258.2.2.2 t279 bt282.2.2.2 (bt282.2.2.2 != bt258.2.2.2) l0_0 l0_1 l0_2 bt258.1 bt258.2.1 bt258.2.2.1 bt269.1 bt269.2.1 bt269.2.2 bt282.1 bt282.2.1 bt282.2.2.1) else (laws_FnExactSigsBlock.j0 k l1 bt258.2.2.2 t279 bt282.2.2.2 true l0_0 l0_1 l0_2 bt258.1 bt258.2.1 bt258.2.2.1 bt269.1 bt269.2.1 bt269.2.2 bt282.1 bt282.2.1 bt282.2.2.1)))))))))))
theorem laws_FnExactSigsBlock.mono_l : ∀ k, (∀ y0 y1 y2 y3 y4 y5 y6 y7 y8 y9 y10 y11 y12 y13 y14 y15 y16, LeO (laws_FnExactSigsBlock.j0 k y0 y1 y2 y3 y4 y5 y6 y7 y8 y9 y10 y11 y12 y13 y14 y15 y16) (laws_FnExactSigsBlock.j0 (k + 1) y0 y1 y2 y3 y4 y5 y6 y7 y8 y9 y10 y11 y12 y13 y14 y15 y16)) ∧ (∀ y0 y1 y2 y3 y4 y5 y6 y7 y8 y9 y10 y11, LeO (laws_FnExactSigsBlock.j1 k y0 y1 y2 y3 y4 y5 y6 y7 y8 y9 y10 y11) (laws_FnExactSigsBlock.j1 (k + 1) y0 y1 y2 y3 y4 y5 y6 y7 y8 y9 y10 y11)) ∧ (∀ y0 y1 y2 y3 y4, LeO (laws_FnExactSigsBlock.j2 k y0 y1 y2 y3 y4) (laws_FnExactSigsBlock.j2 (k + 1) y0 y1 y2 y3 y4))
|0 => ⟨fun _ _ _ _ _ _ _ _ _ _ _ _ _ _ _ _ _ r h => by simp [laws_FnExactSigsBlock.j0] at h, fun _ _ _ _ _ _ _ _ _ _ _ _ r h => by simp [laws_FnExactSigsBlock.j1] at h, fun _ _ _ _ _ r h => by simp [laws_FnExactSigsBlock.j2] at h⟩
|k + 1 => by
  obtain ⟨ih0, ih1, ih2⟩ := laws_FnExactSigsBlock.mono_l k
  refine ⟨?_, ?_, ?_⟩
  ·intro y0 y1 y2 y3 y4 y5 y6 y7 y8 y9 y10 y11 y12 y13 y14 y15 y16
   unfold laws_FnExactSigsBlock.j0
   repeat' first
  |(with_reducible exact ih0 _ _ _ _ _ _ _ _ _ _ _ _ _ _ _ _ _)
  |(with_reducible exact ih1 _ _ _ _ _ _ _ _ _ _ _ _)
  |(with_reducible exact ih2 _ _ _ _ _)
  |(with_reducible exact impl_SigsBlock.mono _ _ _ _ _)
  |(with_reducible exact laws_eqBoolS.mono _ _ _)
  |(with_reducible exact laws_eqSigs.mono _ _ _ _ _ _ _)
  |(with_reducible exact laws_heldSigs.mono _ _ _ _ _)
  |(with_reducible exact laws_markBoolS.mono _ _ _)
  |(with_reducible exact laws_markSigs.mono _ _ _ _ _)
  |(with_reducible exact laws_toBoolS.mono _ _)
  |(with_reducible exact laws_toSigs.mono _ _ _ _)
  |(with_reducible exact spec_SigsBlock.mono _ _ _ _ _)
  |(with_reducible exact LeO.refl _)
  |(with_reducible exact LeO.none _)
  |(with_reducible refine LeO.ite ?_ ?_)
  |(with_reducible refine LeO.bind ?_ (fun _ => ?_))
  |exact ih0 _ _ _ _ _ _ _ _ _ _ _ _ _ _ _ _ _
  |exact ih1 _ _ _ _ _ _ _ _ _ _ _ _
  |exact ih2 _ _ _ _ _
  |exact impl_SigsBlock.mono _ _ _ _ _
  |exact laws_eqBoolS.mono _ _ _
  |exact laws_eqSigs.mono _ _ _ _ _ _ _
  |exact laws_heldSigs.mono _ _ _ _ _
  |exact laws_markBoolS.mono _ _ _
  |exact laws_markSigs.mono _ _ _ _ _
  |exact laws_toBoolS.mono _ _
  |exact laws_toSigs.mono _ _ _ _
  |exact spec_SigsBlock.mono _ _ _ _ _
  |exact LeO.none _
  |refine LeO.ite ?_ ?_
  |refine LeO.bind ?_ (fun _ => ?_)
  ·intro y0 y1 y2 y3 y4 y5 y6 y7 y8 y9 y10 y11
   unfold laws_FnExactSigsBlock.j1
   repeat' first
  |(with_reducible exact ih0 _ _ _ _ _ _ _ _ _ _ _ _ _ _ _ _ _)
  |(with_reducible exact ih1 _ _ _ _ _ _ _ _ _ _ _ _)
  |(with_reducible exact ih2 _ _ _ _ _)
  |(with_reducible exact impl_SigsBlock.mono _ _ _ _ _)
  |(with_reducible exact laws_eqBoolS.mono _ _ _)
  |(with_reducible exact laws_eqSigs.mono _ _ _ _ _ _ _)
  |(with_reducible exact laws_heldSigs.mono _ _ _ _ _)
  |(with_reducible exact laws_markBoolS.mono _ _ _)
  |(with_reducible exact laws_markSigs.mono _ _ _ _ _)
  |(with_reducible exact laws_toBoolS.mono _ _)
  |(with_reducible exact laws_toSigs.mono _ _ _ _)
  |(with_reducible exact spec_SigsBlock.mono _ _ _ _ _)
  |(with_reducible exact LeO.refl _)
  |(with_reducible exact LeO.none _)
  |(with_reducible refine LeO.ite ?_ ?_)
  |(with_reducible refine LeO.bind ?_ (fun _ => ?_))
  |exact ih0 _ _ _ _ _ _ _ _ _ _ _ _ _ _ _ _ _
  |exact ih1 _ _ _ _ _ _ _ _ _ _ _ _
  |exact ih2 _ _ _ _ _
  |exact impl_SigsBlock.mono _ _ _ _ _
  |exact laws_eqBoolS.mono _ _ _
  |exact laws_eqSigs.mono _ _ _ _ _ _ _
  |exact laws_heldSigs.mono _ _ _ _ _
  |exact laws_markBoolS.mono _ _ _
  |exact laws_markSigs.mono _ _ _ _ _
  |exact laws_toBoolS.mono _ _
  |exact laws_toSigs.mono _ _ _ _
  |exact spec_SigsBlock.mono _ _ _ _ _
  |exact LeO.none _
  |refine LeO.ite ?_ ?_
  |refine LeO.bind ?_ (fun _ => ?_)
  ·intro y0 y1 y2 y3 y4
   unfold laws_FnExactSigsBlock.j2
   repeat' first
  |(with_reducible exact ih0 _ _ _ _ _ _ _ _ _ _ _ _ _ _ _ _ _)
  |(with_reducible exact ih1 _ _ _ _ _ _ _ _ _ _ _ _)
  |(with_reducible exact ih2 _ _ _ _ _)
  |(with_reducible exact impl_SigsBlock.mono _ _ _ _ _)
  |(with_reducible exact laws_eqBoolS.mono _ _ _)
  |(with_reducible exact laws_eqSigs.mono _ _ _ _ _ _ _)
  |(with_reducible exact laws_heldSigs.mono _ _ _ _ _)
  |(with_reducible exact laws_markBoolS.mono _ _ _)
  |(with_reducible exact laws_markSigs.mono _ _ _ _ _)
  |(with_reducible exact laws_toBoolS.mono _ _)
  |(with_reducible exact laws_toSigs.mono _ _ _ _)
  |(with_reducible exact spec_SigsBlock.mono _ _ _ _ _)
  |(with_reducible exact LeO.refl _)
  |(with_reducible exact LeO.none _)
  |(with_reducible refine LeO.ite ?_ ?_)
  |(with_reducible refine LeO.bind ?_ (fun _ => ?_))
  |exact ih0 _ _ _ _ _ _ _ _ _ _ _ _ _ _ _ _ _
  |exact ih1 _ _ _ _ _ _ _ _ _ _ _ _
  |exact ih2 _ _ _ _ _
  |exact impl_SigsBlock.mono _ _ _ _ _
  |exact laws_eqBoolS.mono _ _ _
  |exact laws_eqSigs.mono _ _ _ _ _ _ _
  |exact laws_heldSigs.mono _ _ _ _ _
  |exact laws_markBoolS.mono _ _ _
  |exact laws_markSigs.mono _ _ _ _ _
  |exact laws_toBoolS.mono _ _
  |exact laws_toSigs.mono _ _ _ _
  |exact spec_SigsBlock.mono _ _ _ _ _
  |exact LeO.none _
  |refine LeO.ite ?_ ?_
  |refine LeO.bind ?_ (fun _ => ?_)
theorem laws_FnExactSigsBlock.mono : ∀ a0 a1 a2 a3 k, LeO (laws_FnExactSigsBlock.f k a0 a1 a2 a3) (laws_FnExactSigsBlock.f (k + 1) a0 a1 a2 a3) := by
 intro a0 a1 a2 a3 k
 obtain ⟨ih0, ih1, ih2⟩ := laws_FnExactSigsBlock.mono_l k
 unfold laws_FnExactSigsBlock.f
 repeat' first
  |(with_reducible exact ih0 _ _ _ _ _ _ _ _ _ _ _ _ _ _ _ _ _)
  |(with_reducible exact ih1 _ _ _ _ _ _ _ _ _ _ _ _)
  |(with_reducible exact ih2 _ _ _ _ _)
  |(with_reducible exact impl_SigsBlock.mono _ _ _ _ _)
  |(with_reducible exact laws_eqBoolS.mono _ _ _)
  |(with_reducible exact laws_eqSigs.mono _ _ _ _ _ _ _)
  |(with_reducible exact laws_heldSigs.mono _ _ _ _ _)
  |(with_reducible exact laws_markBoolS.mono _ _ _)
  |(with_reducible exact laws_markSigs.mono _ _ _ _ _)
  |(with_reducible exact laws_toBoolS.mono _ _)
  |(with_reducible exact laws_toSigs.mono _ _ _ _)
  |(with_reducible exact spec_SigsBlock.mono _ _ _ _ _)
  |(with_reducible exact LeO.refl _)
  |(with_reducible exact LeO.none _)
  |(with_reducible refine LeO.ite ?_ ?_)
  |(with_reducible refine LeO.bind ?_ (fun _ => ?_))
  |exact ih0 _ _ _ _ _ _ _ _ _ _ _ _ _ _ _ _ _
  |exact ih1 _ _ _ _ _ _ _ _ _ _ _ _
  |exact ih2 _ _ _ _ _
  |exact impl_SigsBlock.mono _ _ _ _ _
  |exact laws_eqBoolS.mono _ _ _
  |exact laws_eqSigs.mono _ _ _ _ _ _ _
  |exact laws_heldSigs.mono _ _ _ _ _
  |exact laws_markBoolS.mono _ _ _
  |exact laws_markSigs.mono _ _ _ _ _
  |exact laws_toBoolS.mono _ _
  |exact laws_toSigs.mono _ _ _ _
  |exact spec_SigsBlock.mono _ _ _ _ _
  |exact LeO.none _
  |refine LeO.ite ?_ ?_
  |refine LeO.bind ?_ (fun _ => ?_)
set_option maxHeartbeats 2000000 in
set_option maxRecDepth 100000 in
theorem laws_FnExactSigsBlock.calls (k : Nat) (A0_0 : Option Addr) (c0_0 : Nat) (l0_0 : List Bool) (A0_1 : Option Addr) (c0_1 : Nat) (l0_1 : List Bool) (A0_2 : Option Addr) (c0_2 : Nat) (l0_2 : List Int) (A1 : Option Addr) (c1 : Nat) (l1 : List Bool) (r : Bool) (w : World) (hr0_0 : Kd.C Kd.bool w A0_0 l0_0.length l0_0) (hc0_0 : l0_0.length ≤ c0_0) (hr0_1 : Kd.C Kd.bool w A0_1 l0_1.length l0_1) (hc0_1 : l0_1.length ≤ c0_1) (hr0_2 : Kd.C (Kd.int .i64) w A0_2 l0_2.length l0_2) (hc0_2 : l0_2.length ≤ c0_2) (hr1 : Kd.C Kd.bool w A1 l1.length l1) (hc1 : l1.length ≤ c1) (h : laws_FnExactSigsBlock.f k l0_0 l0_1 l0_2 l1 = some r) (hT_ : Aside0 (r = true)) :
  Calls Try.prog 4 #[.agg #[.slice A0_0 l0_0.length c0_0, .slice A0_1 l0_1.length c0_1, .slice A0_2 l0_2.length c0_2], .slice A1 l1.length c1] w fun e w' => e = .returned (.bool r) ∧ Below w.heap.size w w' := by
 have hu25 := Try.underlying25
 have hu27 := Try.underlying27
 have HR0_0 := Am hr0_0
 have HC0_0 := Am hc0_0
 clear hr0_0 hc0_0
 have HR0_1 := Am hr0_1
 have HC0_1 := Am hc0_1
 clear hr0_1 hc0_1
 have HR0_2 := Am hr0_2
 have HC0_2 := Am hc0_2
 clear hr0_2 hc0_2
 have HR1 := Am hr1
 have HC1 := Am hc1
 clear hr1 hc1
 have HB := Am (Below.refl w.heap.size w)
 have H : (if (l1.length : Int) > 1048576 then (some true) else ((laws_szSigs.f l0_0 l0_1 l0_2 1048576).bind fun t245 => (if t245 < 0 then (some true) else ((laws_toSigs.f k l0_0 l0_1 l0_2).bind fun bt246 => ((laws_toBoolS.f k l1).bind fun t255 => ((spec_SigsBlock.f k bt246.1 bt246.2.1 bt246.2.2 t255).bind fun bt258 => ((laws_toSigs.f k l0_0 l0_1 l0_2).bind fun bt269 => ((laws_toBoolS.f k l1).bind fun t279 => ((impl_SigsBlock.f k bt269.1 bt269.2.1 bt269.2.2 t279).bind fun bt282 => ((laws_eqSigs.f k bt282.1 bt282.2.1 bt282.2.2.1 bt258.1 bt258.2.1 bt258.2.2.1).bind fun t293 => (if t293 = true then (laws_FnExactSigsBlock.j0 k l1 bt258.2.2.2 t279 bt282.2.2.2 (bt282.2.2.2 != bt258.2.2.2) l0_0 l0_1 l0_2 bt258.1 bt258.2.1 bt258.2.2.1 bt269.1 bt269.2.1 bt269.2.2 bt282.1 bt282.2.1 bt282.2.2.1) else (laws_FnExactSigsBlock.j0 k l1 bt258.2.2.2 t279 bt282.2.2.2 true l0_0 l0_1 l0_2 bt258.1 bt258.2.1 bt258.2.2.1 bt269.1 bt269.2.1 bt269.2.2 bt282.1 bt282.2.1 bt282.2.2.1)))))))))))) = some r := h
 clear h
 by_cases c3 : (l1.length : Int) > 1048576
 ·rw [if_pos c3] at H
  have c3b0 : decide (1048576 < (l1.length : Int)) = true := decide_eq_true c3
  have c3b1 : decide (1048576 < l1.length) = true := decide_eq_true (by omega)
  clear c3
  obtain rfl := Option.some.inj H
  go_enter Try.func4, Try.ntmps4
  go_wp2_with (first|((with_reducible refine gate_dst (N := 2) rfl ?_);refine box_event ?hg (N := 2) ?hd (cs := #[.slice A0_0 l0_0.length c0_0, .slice A0_1 l0_1.length c0_1, .slice A0_2 l0_2.length c0_2]) (t := 25) ?hr ?_;(case hd => rfl);(case hg => rfl);(case hr => first|(go_simp;done)|(go_simp;rfl));intro Bt hg w4 hbox hb;have n0_ := Am (bP (by repeat (first|(with_reducible first|exact HB.out|apply oA|apply pN|apply o1)|exact HB.out)) hb);have n1_ := Am (hbox);have n2_ := Am ((by rw [hg];exact (bZ (by repeat (first|(with_reducible first|exact HB.out|apply oA|apply pN|apply o1)|exact HB.out))) : w.heap.size ≤ Bt));have n3_ := Am ((by rw [hg];exact (bZ (by repeat (first|(with_reducible first|exact HB.out|apply oA|apply pN|apply o1)|exact HB.out))) : w.heap.size ≤ Bt));clear HB;revert n0_ n1_ n2_ n3_;intro HB Be GN Br;clear hb hbox hg))
  go_ret
  exact ⟨by first|rfl|(simp [errW_none, errW_some] <;> rfl)|(simp [*, errW_none, errW_some] <;> rfl), by repeat (first|(with_reducible first|exact HB.out|apply oA|apply pN|apply o1|refine bS ?_ Br.out)|exact HB.out)⟩
 rw [if_neg c3] at H
 have c3b0 : decide (1048576 < (l1.length : Int)) = false := decide_eq_false c3
 have c3b1 : decide (1048576 < l1.length) = false := decide_eq_false (by omega)
 clear c3
 replace H := Option.bind_eq_some_iff.mp H
 obtain ⟨t245, A50, H⟩ := H
 replace H : (if t245 < 0 then (some true) else ((laws_toSigs.f k l0_0 l0_1 l0_2).bind fun bt246 => ((laws_toBoolS.f k l1).bind fun t255 => ((spec_SigsBlock.f k bt246.1 bt246.2.1 bt246.2.2 t255).bind fun bt258 => ((laws_toSigs.f k l0_0 l0_1 l0_2).bind fun bt269 => ((laws_toBoolS.f k l1).bind fun t279 => ((impl_SigsBlock.f k bt269.1 bt269.2.1 bt269.2.2 t279).bind fun bt282 => ((laws_eqSigs.f k bt282.1 bt282.2.1 bt282.2.2.1 bt258.1 bt258.2.1 bt258.2.2.1).bind fun t293 => (if t293 = true then (laws_FnExactSigsBlock.j0 k l1 bt258.2.2.2 t279 bt282.2.2.2 (bt282.2.2.2 != bt258.2.2.2) l0_0 l0_1 l0_2 bt258.1 bt258.2.1 bt258.2.2.1 bt269.1 bt269.2.1 bt269.2.2 bt282.1 bt282.2.1 bt282.2.2.1) else (laws_FnExactSigsBlock.j0 k l1 bt258.2.2.2 t279 bt282.2.2.2 true l0_0 l0_1 l0_2 bt258.1 bt258.2.1 bt258.2.2.1 bt269.1 bt269.2.1 bt269.2.2 bt282.1 bt282.2.1 bt282.2.2.1)))))))))) = some r := H
 have A5 := Am A50
 clear A50
 by_cases c6 : t245 < 0
 ·rw [if_pos c6] at H
  have c6b0 : decide (t245 < 0) = true := decide_eq_true c6
  clear c6
  obtain rfl := Option.some.inj H
  go_enter Try.func4, Try.ntmps4
  go_wp2_with (first|((with_reducible refine gate_dst (N := 2) rfl ?_);refine box_event ?hg (N := 2) ?hd (cs := #[.slice A0_0 l0_0.length c0_0, .slice A0_1 l0_1.length c0_1, .slice A0_2 l0_2.length c0_2]) (t := 25) ?hr ?_;(case hd => rfl);(case hg => rfl);(case hr => first|(go_simp;done)|(go_simp;rfl));intro Bt hg w7 hbox hb;have n0_ := Am (bP (by repeat (first|(with_reducible first|exact HB.out|apply oA|apply pN|apply o1)|exact HB.out)) hb);have n1_ := Am (hbox);have n2_ := Am ((by rw [hg];exact (bZ (by repeat (first|(with_reducible first|exact HB.out|apply oA|apply pN|apply o1)|exact HB.out))) : w.heap.size ≤ Bt));have n3_ := Am ((by rw [hg];exact (bZ (by repeat (first|(with_reducible first|exact HB.out|apply oA|apply pN|apply o1)|exact HB.out))) : w.heap.size ≤ Bt));clear HB;revert n0_ n1_ n2_ n3_;intro HB Be GN Br;clear hb hbox hg;have Fp : w7.cell? ⟨Bt, 0, none⟩ = some (.slice A0_0 l0_0.length c0_0) := (bC Be.out 0).trans rfl;have Fq : w7.cell? ⟨Bt, 1, none⟩ = some (.slice A0_1 l0_1.length c0_1) := (bC Be.out 1).trans rfl;have Fr : w7.cell? ⟨Bt, 2, none⟩ = some (.slice A0_2 l0_2.length c0_2) := (bC Be.out 2).trans rfl;have Fs := bF Be.out 0;have Ft := bF Be.out 1;have Fu := bF Be.out 2)|((with_reducible refine gate_callee (f := 13) rfl ?_);refine goesL_ (some 22) rfl rfl Try.func13 (by kernel_rfl) rfl #[.agg #[.slice A0_0 l0_0.length c0_0, .slice A0_1 l0_1.length c0_1, .slice A0_2 l0_2.length c0_2], .int .i64 1048576] rfl (by (try simp only [lM, lC, lN]);first|done|rfl|(simp only [lD, lT];rfl)) ?_;(with_reducible refine (laws_szSigs.calls _ _ l0_0 _ _ l0_1 _ _ l0_2 1048576 t245 _ ?side1 ?side2 ?side3 ?side4 ?side5 ?side6 A5.out).mono ?_);(case side1 => repeat (first|exact (cB HR0_0.out HB.out)|(with_reducible refine cA ?_ _)|(with_reducible refine cN ?_ _)|(with_reducible refine cD ?_)));(case side2 => exact HC0_0.out);(case side3 => repeat (first|exact (cB HR0_1.out HB.out)|(with_reducible refine cA ?_ _)|(with_reducible refine cN ?_ _)|(with_reducible refine cD ?_)));(case side4 => exact HC0_1.out);(case side5 => repeat (first|exact (cB HR0_2.out HB.out)|(with_reducible refine cA ?_ _)|(with_reducible refine cN ?_ _)|(with_reducible refine cD ?_)));(case side6 => exact HC0_2.out);rintro e w9 ⟨rfl, hb⟩;refine ⟨_, rfl, ?_⟩;have n0_ := Am (bB (g := Bt) (o := .cells #[.slice A0_0 l0_0.length c0_0, .slice A0_1 l0_1.length c0_1, .slice A0_2 l0_2.length c0_2] 25 (0, 0)) (bL Be.out) hb);have n1_ := Am (bP (by repeat (first|(with_reducible first|exact HB.out|apply oA|apply pN|apply o1|refine bS ?_ Br.out)|exact HB.out)) hb);clear Be HB;revert n0_ n1_;intro Be HB;(try clear hb);(try clear hb2);(try clear hk);(try clear hi)))
  go_ret
  exact ⟨by first|rfl|(simp [errW_none, errW_some] <;> rfl)|(simp [*, errW_none, errW_some] <;> rfl), by repeat (first|(with_reducible first|exact HB.out|apply oA|apply pN|apply o1|refine bS ?_ Br.out)|exact HB.out)⟩
 rw [if_neg c6] at H
 have c6b0 : decide (t245 < 0) = false := decide_eq_false c6
 clear c6
 replace H := Option.bind_eq_some_iff.mp H
 obtain ⟨⟨t246, t249, t252⟩, A100, H⟩ := H
 replace H : ((laws_toBoolS.f k l1).bind fun t255 => ((spec_SigsBlock.f k t246 t249 t252 t255).bind fun bt258 => ((laws_toSigs.f k l0_0 l0_1 l0_2).bind fun bt269 => ((laws_toBoolS.f k l1).bind fun t279 => ((impl_SigsBlock.f k bt269.1 bt269.2.1 bt269.2.2 t279).bind fun bt282 => ((laws_eqSigs.f k bt282.1 bt282.2.1 bt282.2.2.1 bt258.1 bt258.2.1 bt258.2.2.1).bind fun t293 => (if t293 = true then (laws_FnExactSigsBlock.j0 k l1 bt258.2.2.2 t279 bt282.2.2.2 (bt282.2.2.2 != bt258.2.2.2) l0_0 l0_1 l0_2 bt258.1 bt258.2.1 bt258.2.2.1 bt269.1 bt269.2.1 bt269.2.2 bt282.1 bt282.2.1 bt282.2.2.1) else (laws_FnExactSigsBlock.j0 k l1 bt258.2.2.2 t279 bt282.2.2.2 true l0_0 l0_1 l0_2 bt258.1 bt258.2.1 bt258.2.2.1 bt269.1 bt269.2.1 bt269.2.2 bt282.1 bt282.2.1 bt282.2.2.1)))))))) = some r := H
 have A10 := Am A100
 clear A100
 replace H := Option.bind_eq_some_iff.mp H
 obtain ⟨t255, A110, H⟩ := H
 replace H : ((spec_SigsBlock.f k t246 t249 t252 t255).bind fun bt258 => ((laws_toSigs.f k l0_0 l0_1 l0_2).bind fun bt269 => ((laws_toBoolS.f k l1).bind fun t279 => ((impl_SigsBlock.f k bt269.1 bt269.2.1 bt269.2.2 t279).bind fun bt282 => ((laws_eqSigs.f k bt282.1 bt282.2.1 bt282.2.2.1 bt258.1 bt258.2.1 bt258.2.2.1).bind fun t293 => (if t293 = true then (laws_FnExactSigsBlock.j0 k l1 bt258.2.2.2 t279 bt282.2.2.2 (bt282.2.2.2 != bt258.2.2.2) l0_0 l0_1 l0_2 bt258.1 bt258.2.1 bt258.2.2.1 bt269.1 bt269.2.1 bt269.2.2 bt282.1 bt282.2.1 bt282.2.2.1) else (laws_FnExactSigsBlock.j0 k l1 bt258.2.2.2 t279 bt282.2.2.2 true l0_0 l0_1 l0_2 bt258.1 bt258.2.1 bt258.2.2.1 bt269.1 bt269.2.1 bt269.2.2 bt282.1 bt282.2.1 bt282.2.2.1))))))) = some r := H
 have A11 := Am A110
 clear A110
 replace H := Option.bind_eq_some_iff.mp H
 obtain ⟨⟨t258, t261, t264, t267⟩, A120, H⟩ := H
 replace H : ((laws_toSigs.f k l0_0 l0_1 l0_2).bind fun bt269 => ((laws_toBoolS.f k l1).bind fun t279 => ((impl_SigsBlock.f k bt269.1 bt269.2.1 bt269.2.2 t279).bind fun bt282 => ((laws_eqSigs.f k bt282.1 bt282.2.1 bt282.2.2.1 t258 t261 t264).bind fun t293 => (if t293 = true then (laws_FnExactSigsBlock.j0 k l1 t267 t279 bt282.2.2.2 (bt282.2.2.2 != t267) l0_0 l0_1 l0_2 t258 t261 t264 bt269.1 bt269.2.1 bt269.2.2 bt282.1 bt282.2.1 bt282.2.2.1) else (laws_FnExactSigsBlock.j0 k l1 t267 t279 bt282.2.2.2 true l0_0 l0_1 l0_2 t258 t261 t264 bt269.1 bt269.2.1 bt269.2.2 bt282.1 bt282.2.1 bt282.2.2.1)))))) = some r := H
 have A12 := Am A120
 clear A120
 replace H := Option.bind_eq_some_iff.mp H
 obtain ⟨⟨t269, t272, t275⟩, A130, H⟩ := H
 replace H : ((laws_toBoolS.f k l1).bind fun t279 => ((impl_SigsBlock.f k t269 t272 t275 t279).bind fun bt282 => ((laws_eqSigs.f k bt282.1 bt282.2.1 bt282.2.2.1 t258 t261 t264).bind fun t293 => (if t293 = true then (laws_FnExactSigsBlock.j0 k l1 t267 t279 bt282.2.2.2 (bt282.2.2.2 != t267) l0_0 l0_1 l0_2 t258 t261 t264 t269 t272 t275 bt282.1 bt282.2.1 bt282.2.2.1) else (laws_FnExactSigsBlock.j0 k l1 t267 t279 bt282.2.2.2 true l0_0 l0_1 l0_2 t258 t261 t264 t269 t272 t275 bt282.1 bt282.2.1 bt282.2.2.1))))) = some r := H
 have A13 := Am A130
 clear A130
 replace H := Option.bind_eq_some_iff.mp H
 obtain ⟨t279, A140, H⟩ := H
 replace H : ((impl_SigsBlock.f k t269 t272 t275 t279).bind fun bt282 => ((laws_eqSigs.f k bt282.1 bt282.2.1 bt282.2.2.1 t258 t261 t264).bind fun t293 => (if t293 = true then (laws_FnExactSigsBlock.j0 k l1 t267 t279 bt282.2.2.2 (bt282.2.2.2 != t267) l0_0 l0_1 l0_2 t258 t261 t264 t269 t272 t275 bt282.1 bt282.2.1 bt282.2.2.1) else (laws_FnExactSigsBlock.j0 k l1 t267 t279 bt282.2.2.2 true l0_0 l0_1 l0_2 t258 t261 t264 t269 t272 t275 bt282.1 bt282.2.1 bt282.2.2.1)))) = some r := H
 have A14 := Am A140
 clear A140
 replace H := Option.bind_eq_some_iff.mp H
 obtain ⟨⟨t282, t285, t288, t291⟩, A150, H⟩ := H
 replace H : ((laws_eqSigs.f k t282 t285 t288 t258 t261 t264).bind fun t293 => (if t293 = true then (laws_FnExactSigsBlock.j0 k l1 t267 t279 t291 (t291 != t267) l0_0 l0_1 l0_2 t258 t261 t264 t269 t272 t275 t282 t285 t288) else (laws_FnExactSigsBlock.j0 k l1 t267 t279 t291 true l0_0 l0_1 l0_2 t258 t261 t264 t269 t272 t275 t282 t285 t288))) = some r := H
 have A15 := Am A150
 clear A150
 have HC16 := Am H
 clear H
 go_enter Try.func4, Try.ntmps4
 go_upto_region 11 with (first|((with_reducible refine gate_dst (N := 2) rfl ?_);refine box_event ?hg (N := 2) ?hd (cs := #[.slice A0_0 l0_0.length c0_0, .slice A0_1 l0_1.length c0_1, .slice A0_2 l0_2.length c0_2]) (t := 25) ?hr ?_;(case hd => rfl);(case hg => rfl);(case hr => first|(go_simp;done)|(go_simp;rfl));intro Bt hg w17 hbox hb;have n0_ := Am (bP (by repeat (first|(with_reducible first|exact HB.out|apply oA|apply pN|apply o1)|exact HB.out)) hb);have n1_ := Am (hbox);have n2_ := Am ((by rw [hg];exact (bZ (by repeat (first|(with_reducible first|exact HB.out|apply oA|apply pN|apply o1)|exact HB.out))) : w.heap.size ≤ Bt));have n3_ := Am ((by rw [hg];exact (bZ (by repeat (first|(with_reducible first|exact HB.out|apply oA|apply pN|apply o1)|exact HB.out))) : w.heap.size ≤ Bt));clear HB;revert n0_ n1_ n2_ n3_;intro HB Be GN Br;clear hb hbox hg;have Dl : w17.cell? ⟨Bt, 0, none⟩ = some (.slice A0_0 l0_0.length c0_0) := (bC Be.out 0).trans rfl;have Dm : w17.cell? ⟨Bt, 1, none⟩ = some (.slice A0_1 l0_1.length c0_1) := (bC Be.out 1).trans rfl;have Dn : w17.cell? ⟨Bt, 2, none⟩ = some (.slice A0_2 l0_2.length c0_2) := (bC Be.out 2).trans rfl;have Do := bF Be.out 0;have Dp := bF Be.out 1;have Dq := bF Be.out 2)|((with_reducible refine gate_callee (f := 13) rfl ?_);refine goesL_ (some 22) rfl rfl Try.func13 (by kernel_rfl) rfl #[.agg #[.slice A0_0 l0_0.length c0_0, .slice A0_1 l0_1.length c0_1, .slice A0_2 l0_2.length c0_2], .int .i64 1048576] rfl (by (try simp only [lM, lC, lN]);first|done|rfl|(simp only [lD, lT];rfl)) ?_;(with_reducible refine (laws_szSigs.calls _ _ l0_0 _ _ l0_1 _ _ l0_2 1048576 t245 _ ?side1 ?side2 ?side3 ?side4 ?side5 ?side6 A5.out).mono ?_);(case side1 => repeat (first|exact (cB HR0_0.out HB.out)|(with_reducible refine cA ?_ _)|(with_reducible refine cN ?_ _)|(with_reducible refine cD ?_)));(case side2 => exact HC0_0.out);(case side3 => repeat (first|exact (cB HR0_1.out HB.out)|(with_reducible refine cA ?_ _)|(with_reducible refine cN ?_ _)|(with_reducible refine cD ?_)));(case side4 => exact HC0_1.out);(case side5 => repeat (first|exact (cB HR0_2.out HB.out)|(with_reducible refine cA ?_ _)|(with_reducible refine cN ?_ _)|(with_reducible refine cD ?_)));(case side6 => exact HC0_2.out);rintro e w19 ⟨rfl, hb⟩;refine ⟨_, rfl, ?_⟩;have n0_ := Am (bB (g := Bt) (o := .cells #[.slice A0_0 l0_0.length c0_0, .slice A0_1 l0_1.length c0_1, .slice A0_2 l0_2.length c0_2] 25 (0, 0)) (bL Be.out) hb);have n1_ := Am (bP (by repeat (first|(with_reducible first|exact HB.out|apply oA|apply pN|apply o1|refine bS ?_ Br.out)|exact HB.out)) hb);clear Be HB;revert n0_ n1_;intro Be HB;(try clear hb);(try clear hb2);(try clear hk);(try clear hi);have Dr : w19.cell? ⟨Bt, 0, none⟩ = some (.slice A0_0 l0_0.length c0_0) := (bC Be.out 0).trans rfl;have Ds : w19.cell? ⟨Bt, 1, none⟩ = some (.slice A0_1 l0_1.length c0_1) := (bC Be.out 1).trans rfl;have Dt : w19.cell? ⟨Bt, 2, none⟩ = some (.slice A0_2 l0_2.length c0_2) := (bC Be.out 2).trans rfl;have Du := bF Be.out 0;have Dv := bF Be.out 1;have Dw := bF Be.out 2)|((with_reducible refine gate_callee (f := 15) rfl ?_);refine goesL_ (some 27) rfl rfl Try.func15 (by kernel_rfl) rfl #[.agg #[.slice A0_0 l0_0.length c0_0, .slice A0_1 l0_1.length c0_1, .slice A0_2 l0_2.length c0_2]] rfl (by (try simp only [lM, lC, lN]);first|done|rfl|(simp only [lD, lT];rfl)) ?_;(with_reducible refine (laws_toSigs.calls k _ _ l0_0 _ _ l0_1 _ _ l0_2 t246 t249 t252 _ ?side1 ?side2 ?side3 ?side4 ?side5 ?side6 A10.out).mono ?_);(case side1 => repeat (first|exact (cB HR0_0.out HB.out)|(with_reducible refine cA ?_ _)|(with_reducible refine cN ?_ _)|(with_reducible refine cD ?_)));(case side2 => exact HC0_0.out);(case side3 => repeat (first|exact (cB HR0_1.out HB.out)|(with_reducible refine cA ?_ _)|(with_reducible refine cN ?_ _)|(with_reducible refine cD ?_)));(case side4 => exact HC0_1.out);(case side5 => repeat (first|exact (cB HR0_2.out HB.out)|(with_reducible refine cA ?_ _)|(with_reducible refine cN ?_ _)|(with_reducible refine cD ?_)));(case side6 => exact HC0_2.out);rintro e w21 ⟨v247, v250, v253, rfl, ho0, ho1, ho2, hb⟩;refine ⟨_, rfl, ?_⟩;have n0_ := Am (Kd.R_lower ho0 (bZ (by repeat (first|(with_reducible first|exact HB.out|apply oA|apply pN|apply o1|refine bS ?_ Br.out)|exact HB.out))));have n1_ := Am (Kd.R_lower ho1 (bZ (by repeat (first|(with_reducible first|exact HB.out|apply oA|apply pN|apply o1|refine bS ?_ Br.out)|exact HB.out))));have n2_ := Am (Kd.R_lower ho2 (bZ (by repeat (first|(with_reducible first|exact HB.out|apply oA|apply pN|apply o1|refine bS ?_ Br.out)|exact HB.out))));have n3_ := Am (bB (g := Bt) (o := .cells #[.slice A0_0 l0_0.length c0_0, .slice A0_1 l0_1.length c0_1, .slice A0_2 l0_2.length c0_2] 25 (0, 0)) (bL Be.out) hb);have n4_ := Am (bP (by repeat (first|(with_reducible first|exact HB.out|apply oA|apply pN|apply o1|refine bS ?_ Br.out)|exact HB.out)) hb);clear Be HB;revert n0_ n1_ n2_ n3_ n4_;intro Bw Bx BA Be HB;(try clear hb);(try clear hb2);(try clear hk);(try clear hi);(try clear ho0);(try clear ho1);(try clear ho2))|((with_reducible refine gate_callee (f := 21) rfl ?_);refine goesL_ (some 29) rfl rfl Try.func21 (by kernel_rfl) rfl #[.slice A1 l1.length c1] rfl (by (try simp only [lM, lC, lN]);first|done|rfl|(simp only [lD, lT];rfl)) ?_;(with_reducible refine (laws_toBoolS.calls k _ _ l1 t255 _ ?side1 ?side2 A11.out).mono ?_);(case side1 => repeat (first|exact (cB HR1.out HB.out)|(with_reducible refine cA ?_ _)|(with_reducible refine cN ?_ _)|(with_reducible refine cD ?_)));(case side2 => exact HC1.out);rintro e w22 ⟨v256, rfl, ho0, hb⟩;refine ⟨_, rfl, ?_⟩;have n0_ := Am (Kd.R_elder' (rL Bw.out) (Kd.R_base ho0) hb);have n1_ := Am (Kd.R_elder' (rL Bx.out) (Kd.R_base ho0) hb);have n2_ := Am (rB (rL BA.out) hb);have n3_ := Am (Kd.R_lower (Kd.R_new' (Kd.R_new' ho0 (Kd.R_lt (rL Bw.out))) (Kd.R_lt (rL Bx.out))) (bZ (by repeat (first|(with_reducible first|exact HB.out|apply oA|apply pN|apply o1|refine bS ?_ Br.out)|exact HB.out))));have n4_ := Am (bB (g := Bt) (o := .cells #[.slice A0_0 l0_0.length c0_0, .slice A0_1 l0_1.length c0_1, .slice A0_2 l0_2.length c0_2] 25 (0, 0)) (bL Be.out) hb);have n5_ := Am (bP (by repeat (first|(with_reducible first|exact HB.out|apply oA|apply pN|apply o1|refine bS ?_ Br.out)|exact HB.out)) hb);clear Bw Bx BA Be HB;revert n0_ n1_ n2_ n3_ n4_ n5_;intro Bw Bx BA Bz Be HB;(try clear hb);(try clear hb2);(try clear hk);(try clear hi);(try clear ho0);obtain ⟨Ao23, co23, eo23⟩ := Kd.R_slice Bw.out;subst eo23;obtain ⟨Ao24, co24, eo24⟩ := Kd.R_slice Bx.out;subst eo24;obtain ⟨Ao25, co25, eo25⟩ := Kd.R_slice BA.out;subst eo25;obtain ⟨Ao26, co26, eo26⟩ := Kd.R_slice Bz.out;subst eo26)|((with_reducible refine gate_callee (f := 20) rfl ?_);refine goesL_ (some 30) rfl rfl Try.func20 (by kernel_rfl) rfl #[.agg #[.slice Ao23 t246.length co23, .slice Ao24 t249.length co24, .slice Ao25 t252.length co25], .slice Ao26 t255.length co26] rfl (by (try simp only [lM, lC, lN]);first|done|rfl|(simp only [lD, lT];rfl)) ?_;(with_reducible refine (spec_SigsBlock.calls k _ _ t246 _ _ t249 _ _ t252 _ _ t255 t258 t261 t264 t267 _ ?side1 ?side2 ?side3 ?side4 ?side5 ?side6 ?side7 ?side8 A12.out).mono ?_);(case side1 => repeat (first|exact (Kd.R_reads' Bw.out).2.2|(with_reducible refine cA ?_ _)|(with_reducible refine cN ?_ _)|(with_reducible refine cD ?_)));(case side2 => exact (Kd.R_reads' Bw.out).2.1);(case side3 => repeat (first|exact (Kd.R_reads' Bx.out).2.2|(with_reducible refine cA ?_ _)|(with_reducible refine cN ?_ _)|(with_reducible refine cD ?_)));(case side4 => exact (Kd.R_reads' Bx.out).2.1);(case side5 => repeat (first|exact (Kd.R_reads' BA.out).2.2|(with_reducible refine cA ?_ _)|(with_reducible refine cN ?_ _)|(with_reducible refine cD ?_)));(case side6 => exact (Kd.R_reads' BA.out).2.1);(case side7 => repeat (first|exact (Kd.R_reads' Bz.out).2.2|(with_reducible refine cA ?_ _)|(with_reducible refine cN ?_ _)|(with_reducible refine cD ?_)));(case side8 => exact (Kd.R_reads' Bz.out).2.1);rintro e w27 ⟨v259, v262, v265, rfl, ho0, ho1, ho2, hb⟩;refine ⟨_, rfl, ?_⟩;have n0_ := Am (rM (Kd.R_told (Kd.R_told (Kd.R_old (rL Bw.out) hb) (Kd.R_base ho0)) (Kd.R_base ho1)) (fun _ h_ => h_.1));have n1_ := Am (rM (Kd.R_told (Kd.R_told (Kd.R_old (rL Bx.out) hb) (Kd.R_base ho0)) (Kd.R_base ho1)) (fun _ h_ => h_.1));have n2_ := Am (Kd.R_elder' (rL BA.out) (Kd.R_base ho2) hb);have n3_ := Am (rM (Kd.R_told (Kd.R_told (Kd.R_old (rL Bz.out) hb) (Kd.R_base ho0)) (Kd.R_base ho1)) (fun _ h_ => h_.1));have n4_ := Am (Kd.R_lower (Kd.R_new' (Kd.R_new' (Kd.R_new' ho0 (Kd.R_lt (rL Bw.out))) (Kd.R_lt (rL Bx.out))) (Kd.R_lt (rL Bz.out))) (bZ (by repeat (first|(with_reducible first|exact HB.out|apply oA|apply pN|apply o1|refine bS ?_ Br.out)|exact HB.out))));have n5_ := Am (Kd.R_lower (Kd.R_new' (Kd.R_new' (Kd.R_new' ho1 (Kd.R_lt (rL Bw.out))) (Kd.R_lt (rL Bx.out))) (Kd.R_lt (rL Bz.out))) (bZ (by repeat (first|(with_reducible first|exact HB.out|apply oA|apply pN|apply o1|refine bS ?_ Br.out)|exact HB.out))));have n6_ := Am (Kd.R_lower (Kd.R_new' ho2 (Kd.R_lt (rL BA.out))) (bZ (by repeat (first|(with_reducible first|exact HB.out|apply oA|apply pN|apply o1|refine bS ?_ Br.out)|exact HB.out))));have n7_ := Am (bB (g := Bt) (o := .cells #[.slice A0_0 l0_0.length c0_0, .slice A0_1 l0_1.length c0_1, .slice A0_2 l0_2.length c0_2] 25 (0, 0)) (bL Be.out) hb);have n8_ := Am (bP (by repeat (first|(with_reducible first|exact HB.out|apply oA|apply pN|apply o1|refine bS ?_ Br.out)|exact HB.out)) hb);clear Bw Bx BA Bz Be HB;revert n0_ n1_ n2_ n3_ n4_ n5_ n6_ n7_ n8_;intro Bw Bx BA Bz BB BC BD Be HB;(try clear hb);(try clear hb2);(try clear hk);(try clear hi);(try clear ho0);(try clear ho1);(try clear ho2))|((with_reducible refine gate_dst (N := 6) rfl ?_);refine box_event ?hg (N := 6) ?hd (cs := #[.slice none 0 0, .slice none 0 0, .slice none 0 0]) (t := 27) ?hr ?_;(case hd => rfl);(case hg => rfl);(case hr => first|(go_simp;done)|(go_simp;rfl));intro Bp hg w28 hbox hb;have n0_ := Am (rB (rL Bw.out) hb);have n1_ := Am (rB (rL Bx.out) hb);have n2_ := Am (rB (rL BA.out) hb);have n3_ := Am (rB (rL Bz.out) hb);have n4_ := Am (rB (rL BB.out) hb);have n5_ := Am (rB (rL BC.out) hb);have n6_ := Am (rB (rL BD.out) hb);have n7_ := Am (bB (g := Bt) (o := .cells #[.slice A0_0 l0_0.length c0_0, .slice A0_1 l0_1.length c0_1, .slice A0_2 l0_2.length c0_2] 25 (0, 0)) (bL Be.out) hb);have n8_ := Am (bP (by repeat (first|(with_reducible first|exact HB.out|apply oA|apply pN|apply o1|refine bS ?_ Br.out)|exact HB.out)) hb);have n9_ := Am (hbox);have n10_ := Am ((by rw [hg];exact (bZ (by repeat (first|(with_reducible first|exact HB.out|apply oA|apply pN|apply o1|refine bS ?_ Br.out)|exact HB.out))) : w.heap.size ≤ Bp));have n11_ := Am ((by rw [hg];exact (bZ (by repeat (first|(with_reducible first|exact HB.out|apply oA|apply pN|apply o1|refine bS ?_ Br.out)|exact HB.out))) : w.heap.size ≤ Bp));have n12_ := Am ((by rw [hg];exact Nat.ne_of_lt (blk_lt (g := Bt) (o := .cells #[.slice A0_0 l0_0.length c0_0, .slice A0_1 l0_1.length c0_1, .slice A0_2 l0_2.length c0_2] 25 (0, 0)) (bL Be.out)) : Bt ≠ Bp));have n13_ := Am ((by rw [hg];exact Nat.ne_of_gt (blk_lt (g := Bt) (o := .cells #[.slice A0_0 l0_0.length c0_0, .slice A0_1 l0_1.length c0_1, .slice A0_2 l0_2.length c0_2] 25 (0, 0)) (bL Be.out)) : Bp ≠ Bt));clear Bw Bx BA Bz BB BC BD Be HB;revert n0_ n1_ n2_ n3_ n4_ n5_ n6_ n7_ n8_ n9_ n10_ n11_ n12_ n13_;intro Bw Bx BA Bz BB BC BD Be HB Bf J7 Bu BR B2;clear hb hbox hg;obtain ⟨Ao29, co29, eo29⟩ := Kd.R_slice BB.out;subst eo29;have J8 := B2.out;have J9 := BR.out;have Dx : w28.cell? ⟨Bp, 0, none⟩ = some (.slice none 0 0) := (bC Bf.out 0).trans rfl;have Dy : w28.cell? ⟨Bp, 1, none⟩ = some (.slice none 0 0) := (bC Bf.out 1).trans rfl;have Dz : w28.cell? ⟨Bp, 2, none⟩ = some (.slice none 0 0) := (bC Bf.out 2).trans rfl;have DA := bF Bf.out 0;have DB := bF Bf.out 1;have DC := bF Bf.out 2;obtain ⟨Ao32, co32, eo32⟩ := Kd.R_slice BC.out;subst eo32;obtain ⟨Ao33, co33, eo33⟩ := Kd.R_slice BD.out;subst eo33;have DD : w28.cell? ⟨Bt, 0, none⟩ = some (.slice A0_0 l0_0.length c0_0) := (bC Be.out 0).trans rfl;have DE : w28.cell? ⟨Bt, 1, none⟩ = some (.slice A0_1 l0_1.length c0_1) := (bC Be.out 1).trans rfl;have DF : w28.cell? ⟨Bt, 2, none⟩ = some (.slice A0_2 l0_2.length c0_2) := (bC Be.out 2).trans rfl;have DG := bF Be.out 0;have DH := bF Be.out 1;have DI := bF Be.out 2)|((with_reducible refine gate_callee (f := 15) rfl ?_);refine goesL_ (some 34) rfl rfl Try.func15 (by kernel_rfl) rfl #[.agg #[.slice A0_0 l0_0.length c0_0, .slice A0_1 l0_1.length c0_1, .slice A0_2 l0_2.length c0_2]] rfl (by (try simp only [lM, lC, lN]);first|done|rfl|(simp only [lD, lT];rfl)) ?_;(with_reducible refine (laws_toSigs.calls k _ _ l0_0 _ _ l0_1 _ _ l0_2 t269 t272 t275 _ ?side1 ?side2 ?side3 ?side4 ?side5 ?side6 A13.out).mono ?_);(case side1 => exact cB HR0_0.out (by repeat (first|(with_reducible first|exact HB.out|apply oA|apply pN|apply o1|refine bS ?_ Br.out|refine bS ?_ Bu.out)|exact HB.out)));(case side2 => exact HC0_0.out);(case side3 => exact cB HR0_1.out (by repeat (first|(with_reducible first|exact HB.out|apply oA|apply pN|apply o1|refine bS ?_ Br.out|refine bS ?_ Bu.out)|exact HB.out)));(case side4 => exact HC0_1.out);(case side5 => exact cB HR0_2.out (by repeat (first|(with_reducible first|exact HB.out|apply oA|apply pN|apply o1|refine bS ?_ Br.out|refine bS ?_ Bu.out)|exact HB.out)));(case side6 => exact HC0_2.out);rintro e w35 ⟨v270, v273, v276, rfl, ho0, ho1, ho2, hb⟩;refine ⟨_, rfl, ?_⟩;have n0_ := Am (rM (Kd.R_told (Kd.R_told (Kd.R_old (by (with_reducible repeat (first|apply rA|apply rN|apply rD));exact (rM (rF (p := ⟨Bp, 2, none⟩) (rF (p := ⟨Bp, 1, none⟩) (rF (p := ⟨Bp, 0, none⟩) (rT Bw.out Bf.out (by decide)) (fun _ hk => hk.2) (.slice Ao29 t258.length co29)) (fun _ hk => hk.2) (.slice Ao32 t261.length co32)) (fun _ hk => hk.2) (.slice Ao33 t264.length co33)) (fun _ h_ => h_.1))) hb) (Kd.R_base ho0)) (Kd.R_base ho1)) (fun _ h_ => h_.1));have n1_ := Am (rM (Kd.R_told (Kd.R_told (Kd.R_old (by (with_reducible repeat (first|apply rA|apply rN|apply rD));exact (rM (rF (p := ⟨Bp, 2, none⟩) (rF (p := ⟨Bp, 1, none⟩) (rF (p := ⟨Bp, 0, none⟩) (rT Bx.out Bf.out (by decide)) (fun _ hk => hk.2) (.slice Ao29 t258.length co29)) (fun _ hk => hk.2) (.slice Ao32 t261.length co32)) (fun _ hk => hk.2) (.slice Ao33 t264.length co33)) (fun _ h_ => h_.1))) hb) (Kd.R_base ho0)) (Kd.R_base ho1)) (fun _ h_ => h_.1));have n2_ := Am (Kd.R_elder' (by (with_reducible repeat (first|apply rA|apply rN|apply rD));exact (rM (rF (p := ⟨Bp, 2, none⟩) (rF (p := ⟨Bp, 1, none⟩) (rF (p := ⟨Bp, 0, none⟩) (rT BA.out Bf.out (by decide)) (fun _ hk => hk.2) (.slice Ao29 t258.length co29)) (fun _ hk => hk.2) (.slice Ao32 t261.length co32)) (fun _ hk => hk.2) (.slice Ao33 t264.length co33)) (fun _ h_ => h_.1))) (Kd.R_base ho2) hb);have n3_ := Am (rM (Kd.R_told (Kd.R_told (Kd.R_old (by (with_reducible repeat (first|apply rA|apply rN|apply rD));exact (rM (rF (p := ⟨Bp, 2, none⟩) (rF (p := ⟨Bp, 1, none⟩) (rF (p := ⟨Bp, 0, none⟩) (rT Bz.out Bf.out (by decide)) (fun _ hk => hk.2) (.slice Ao29 t258.length co29)) (fun _ hk => hk.2) (.slice Ao32 t261.length co32)) (fun _ hk => hk.2) (.slice Ao33 t264.length co33)) (fun _ h_ => h_.1))) hb) (Kd.R_base ho0)) (Kd.R_base ho1)) (fun _ h_ => h_.1));have n4_ := Am (rM (Kd.R_told (Kd.R_told (Kd.R_old (by (with_reducible repeat (first|apply rA|apply rN|apply rD));exact (rM (rF (p := ⟨Bp, 2, none⟩) (rF (p := ⟨Bp, 1, none⟩) (rF (p := ⟨Bp, 0, none⟩) (rT BB.out Bf.out (by decide)) (fun _ hk => hk.2) (.slice Ao29 t258.length co29)) (fun _ hk => hk.2) (.slice Ao32 t261.length co32)) (fun _ hk => hk.2) (.slice Ao33 t264.length co33)) (fun _ h_ => h_.1))) hb) (Kd.R_base ho0)) (Kd.R_base ho1)) (fun _ h_ => h_.1));have n5_ := Am (rM (Kd.R_told (Kd.R_told (Kd.R_old (by (with_reducible repeat (first|apply rA|apply rN|apply rD));exact (rM (rF (p := ⟨Bp, 2, none⟩) (rF (p := ⟨Bp, 1, none⟩) (rF (p := ⟨Bp, 0, none⟩) (rT BC.out Bf.out (by decide)) (fun _ hk => hk.2) (.slice Ao29 t258.length co29)) (fun _ hk => hk.2) (.slice Ao32 t261.length co32)) (fun _ hk => hk.2) (.slice Ao33 t264.length co33)) (fun _ h_ => h_.1))) hb) (Kd.R_base ho0)) (Kd.R_base ho1)) (fun _ h_ => h_.1));have n6_ := Am (Kd.R_elder' (by (with_reducible repeat (first|apply rA|apply rN|apply rD));exact (rM (rF (p := ⟨Bp, 2, none⟩) (rF (p := ⟨Bp, 1, none⟩) (rF (p := ⟨Bp, 0, none⟩) (rT BD.out Bf.out (by decide)) (fun _ hk => hk.2) (.slice Ao29 t258.length co29)) (fun _ hk => hk.2) (.slice Ao32 t261.length co32)) (fun _ hk => hk.2) (.slice Ao33 t264.length co33)) (fun _ h_ => h_.1))) (Kd.R_base ho2) hb);have n7_ := Am (Kd.R_lower (Kd.R_new' (Kd.R_new' (Kd.R_new' (Kd.R_new' (Kd.R_new' ho0 (Kd.R_lt (by (with_reducible repeat (first|apply rA|apply rN|apply rD));exact (rM (rF (p := ⟨Bp, 2, none⟩) (rF (p := ⟨Bp, 1, none⟩) (rF (p := ⟨Bp, 0, none⟩) (rT Bw.out Bf.out (by decide)) (fun _ hk => hk.2) (.slice Ao29 t258.length co29)) (fun _ hk => hk.2) (.slice Ao32 t261.length co32)) (fun _ hk => hk.2) (.slice Ao33 t264.length co33)) (fun _ h_ => h_.1))))) (Kd.R_lt (by (with_reducible repeat (first|apply rA|apply rN|apply rD));exact (rM (rF (p := ⟨Bp, 2, none⟩) (rF (p := ⟨Bp, 1, none⟩) (rF (p := ⟨Bp, 0, none⟩) (rT Bx.out Bf.out (by decide)) (fun _ hk => hk.2) (.slice Ao29 t258.length co29)) (fun _ hk => hk.2) (.slice Ao32 t261.length co32)) (fun _ hk => hk.2) (.slice Ao33 t264.length co33)) (fun _ h_ => h_.1))))) (Kd.R_lt (by (with_reducible repeat (first|apply rA|apply rN|apply rD));exact (rM (rF (p := ⟨Bp, 2, none⟩) (rF (p := ⟨Bp, 1, none⟩) (rF (p := ⟨Bp, 0, none⟩) (rT Bz.out Bf.out (by decide)) (fun _ hk => hk.2) (.slice Ao29 t258.length co29)) (fun _ hk => hk.2) (.slice Ao32 t261.length co32)) (fun _ hk => hk.2) (.slice Ao33 t264.length co33)) (fun _ h_ => h_.1))))) (Kd.R_lt (by (with_reducible repeat (first|apply rA|apply rN|apply rD));exact (rM (rF (p := ⟨Bp, 2, none⟩) (rF (p := ⟨Bp, 1, none⟩) (rF (p := ⟨Bp, 0, none⟩) (rT BB.out Bf.out (by decide)) (fun _ hk => hk.2) (.slice Ao29 t258.length co29)) (fun _ hk => hk.2) (.slice Ao32 t261.length co32)) (fun _ hk => hk.2) (.slice Ao33 t264.length co33)) (fun _ h_ => h_.1))))) (Kd.R_lt (by (with_reducible repeat (first|apply rA|apply rN|apply rD));exact (rM (rF (p := ⟨Bp, 2, none⟩) (rF (p := ⟨Bp, 1, none⟩) (rF (p := ⟨Bp, 0, none⟩) (rT BC.out Bf.out (by decide)) (fun _ hk => hk.2) (.slice Ao29 t258.length co29)) (fun _ hk => hk.2) (.slice Ao32 t261.length co32)) (fun _ hk => hk.2) (.slice Ao33 t264.length co33)) (fun _ h_ => h_.1))))) (bZ (by repeat (first|(with_reducible first|exact HB.out|apply oA|apply pN|apply o1|refine bS ?_ Br.out|refine bS ?_ Bu.out)|exact HB.out))));have n8_ := Am (Kd.R_lower (Kd.R_new' (Kd.R_new' (Kd.R_new' (Kd.R_new' (Kd.R_new' ho1 (Kd.R_lt (by (with_reducible repeat (first|apply rA|apply rN|apply rD));exact (rM (rF (p := ⟨Bp, 2, none⟩) (rF (p := ⟨Bp, 1, none⟩) (rF (p := ⟨Bp, 0, none⟩) (rT Bw.out Bf.out (by decide)) (fun _ hk => hk.2) (.slice Ao29 t258.length co29)) (fun _ hk => hk.2) (.slice Ao32 t261.length co32)) (fun _ hk => hk.2) (.slice Ao33 t264.length co33)) (fun _ h_ => h_.1))))) (Kd.R_lt (by (with_reducible repeat (first|apply rA|apply rN|apply rD));exact (rM (rF (p := ⟨Bp, 2, none⟩) (rF (p := ⟨Bp, 1, none⟩) (rF (p := ⟨Bp, 0, none⟩) (rT Bx.out Bf.out (by decide)) (fun _ hk => hk.2) (.slice Ao29 t258.length co29)) (fun _ hk => hk.2) (.slice Ao32 t261.length co32)) (fun _ hk => hk.2) (.slice Ao33 t264.length co33)) (fun _ h_ => h_.1))))) (Kd.R_lt (by (with_reducible repeat (first|apply rA|apply rN|apply rD));exact (rM (rF (p := ⟨Bp, 2, none⟩) (rF (p := ⟨Bp, 1, none⟩) (rF (p := ⟨Bp, 0, none⟩) (rT Bz.out Bf.out (by decide)) (fun _ hk => hk.2) (.slice Ao29 t258.length co29)) (fun _ hk => hk.2) (.slice Ao32 t261.length co32)) (fun _ hk => hk.2) (.slice Ao33 t264.length co33)) (fun _ h_ => h_.1))))) (Kd.R_lt (by (with_reducible repeat (first|apply rA|apply rN|apply rD));exact (rM (rF (p := ⟨Bp, 2, none⟩) (rF (p := ⟨Bp, 1, none⟩) (rF (p := ⟨Bp, 0, none⟩) (rT BB.out Bf.out (by decide)) (fun _ hk => hk.2) (.slice Ao29 t258.length co29)) (fun _ hk => hk.2) (.slice Ao32 t261.length co32)) (fun _ hk => hk.2) (.slice Ao33 t264.length co33)) (fun _ h_ => h_.1))))) (Kd.R_lt (by (with_reducible repeat (first|apply rA|apply rN|apply rD));exact (rM (rF (p := ⟨Bp, 2, none⟩) (rF (p := ⟨Bp, 1, none⟩) (rF (p := ⟨Bp, 0, none⟩) (rT BC.out Bf.out (by decide)) (fun _ hk => hk.2) (.slice Ao29 t258.length co29)) (fun _ hk => hk.2) (.slice Ao32 t261.length co32)) (fun _ hk => hk.2) (.slice Ao33 t264.length co33)) (fun _ h_ => h_.1))))) (bZ (by repeat (first|(with_reducible first|exact HB.out|apply oA|apply pN|apply o1|refine bS ?_ Br.out|refine bS ?_ Bu.out)|exact HB.out))));have n9_ := Am (Kd.R_lower (Kd.R_new' (Kd.R_new' ho2 (Kd.R_lt (by (with_reducible repeat (first|apply rA|apply rN|apply rD));exact (rM (rF (p := ⟨Bp, 2, none⟩) (rF (p := ⟨Bp, 1, none⟩) (rF (p := ⟨Bp, 0, none⟩) (rT BA.out Bf.out (by decide)) (fun _ hk => hk.2) (.slice Ao29 t258.length co29)) (fun _ hk => hk.2) (.slice Ao32 t261.length co32)) (fun _ hk => hk.2) (.slice Ao33 t264.length co33)) (fun _ h_ => h_.1))))) (Kd.R_lt (by (with_reducible repeat (first|apply rA|apply rN|apply rD));exact (rM (rF (p := ⟨Bp, 2, none⟩) (rF (p := ⟨Bp, 1, none⟩) (rF (p := ⟨Bp, 0, none⟩) (rT BD.out Bf.out (by decide)) (fun _ hk => hk.2) (.slice Ao29 t258.length co29)) (fun _ hk => hk.2) (.slice Ao32 t261.length co32)) (fun _ hk => hk.2) (.slice Ao33 t264.length co33)) (fun _ h_ => h_.1))))) (bZ (by repeat (first|(with_reducible first|exact HB.out|apply oA|apply pN|apply o1|refine bS ?_ Br.out|refine bS ?_ Bu.out)|exact HB.out))));have n10_ := Am (bB (g := Bt) (o := .cells #[.slice A0_0 l0_0.length c0_0, .slice A0_1 l0_1.length c0_1, .slice A0_2 l0_2.length c0_2] 25 (0, 0)) (by (with_reducible repeat (first|refine bN ?_ _|refine bD ?_|refine bA ?_ _|refine blk_far ?_ BR.out _));exact Be.out) hb);have n11_ := Am (bB (g := Bp) (o := .cells #[.slice Ao29 t258.length co29, .slice Ao32 t261.length co32, .slice Ao33 t264.length co33] 27 (0, 0)) (by (with_reducible repeat (first|refine bN ?_ _|refine bD ?_|refine bA ?_ _));refine blk_put (cs := #[.slice Ao29 t258.length co29, .slice Ao32 t261.length co32, .slice none 0 0]) ?_ 2 _ rfl;(with_reducible repeat (first|refine bN ?_ _|refine bD ?_|refine bA ?_ _));refine blk_put (cs := #[.slice Ao29 t258.length co29, .slice none 0 0, .slice none 0 0]) ?_ 1 _ rfl;(with_reducible repeat (first|refine bN ?_ _|refine bD ?_|refine bA ?_ _));refine blk_put (cs := #[.slice none 0 0, .slice none 0 0, .slice none 0 0]) ?_ 0 _ rfl;(with_reducible repeat (first|refine bN ?_ _|refine bD ?_|refine bA ?_ _));exact Bf.out) hb);have n12_ := Am (bP (by repeat (first|(with_reducible first|exact HB.out|apply oA|apply pN|apply o1|refine bS ?_ Br.out|refine bS ?_ Bu.out)|exact HB.out)) hb);clear Bw Bx BA Bz BB BC BD Be Bf HB;revert n0_ n1_ n2_ n3_ n4_ n5_ n6_ n7_ n8_ n9_ n10_ n11_ n12_;intro Bw Bx BA Bz BB BC BD BF BG BH Be Bf HB;(try clear hb);(try clear hb2);(try clear hk);(try clear hi);(try clear ho0);(try clear ho1);(try clear ho2))|((with_reducible refine gate_dst (N := 8) rfl ?_);refine box_event ?hg (N := 8) ?hd (cs := #[.slice none 0 0, .slice none 0 0, .slice none 0 0]) (t := 27) ?hr ?_;(case hd => rfl);(case hg => rfl);(case hr => first|(go_simp;done)|(go_simp;rfl));intro Bq hg w36 hbox hb;have n0_ := Am (rB (rL Bw.out) hb);have n1_ := Am (rB (rL Bx.out) hb);have n2_ := Am (rB (rL BA.out) hb);have n3_ := Am (rB (rL Bz.out) hb);have n4_ := Am (rB (rL BB.out) hb);have n5_ := Am (rB (rL BC.out) hb);have n6_ := Am (rB (rL BD.out) hb);have n7_ := Am (rB (rL BF.out) hb);have n8_ := Am (rB (rL BG.out) hb);have n9_ := Am (rB (rL BH.out) hb);have n10_ := Am (bB (g := Bt) (o := .cells #[.slice A0_0 l0_0.length c0_0, .slice A0_1 l0_1.length c0_1, .slice A0_2 l0_2.length c0_2] 25 (0, 0)) (bL Be.out) hb);have n11_ := Am (bB (g := Bp) (o := .cells #[.slice Ao29 t258.length co29, .slice Ao32 t261.length co32, .slice Ao33 t264.length co33] 27 (0, 0)) (bL Bf.out) hb);have n12_ := Am (bP (by repeat (first|(with_reducible first|exact HB.out|apply oA|apply pN|apply o1|refine bS ?_ Br.out|refine bS ?_ Bu.out)|exact HB.out)) hb);have n13_ := Am (hbox);have n14_ := Am ((by rw [hg];exact (bZ (by repeat (first|(with_reducible first|exact HB.out|apply oA|apply pN|apply o1|refine bS ?_ Br.out|refine bS ?_ Bu.out)|exact HB.out))) : w.heap.size ≤ Bq));have n15_ := Am ((by rw [hg];exact (bZ (by repeat (first|(with_reducible first|exact HB.out|apply oA|apply pN|apply o1|refine bS ?_ Br.out|refine bS ?_ Bu.out)|exact HB.out))) : w.heap.size ≤ Bq));have n16_ := Am ((by rw [hg];exact Nat.ne_of_lt (blk_lt (g := Bt) (o := .cells #[.slice A0_0 l0_0.length c0_0, .slice A0_1 l0_1.length c0_1, .slice A0_2 l0_2.length c0_2] 25 (0, 0)) (bL Be.out)) : Bt ≠ Bq));have n17_ := Am ((by rw [hg];exact Nat.ne_of_gt (blk_lt (g := Bt) (o := .cells #[.slice A0_0 l0_0.length c0_0, .slice A0_1 l0_1.length c0_1, .slice A0_2 l0_2.length c0_2] 25 (0, 0)) (bL Be.out)) : Bq ≠ Bt));have n18_ := Am ((by rw [hg];exact Nat.ne_of_lt (blk_lt (g := Bp) (o := .cells #[.slice Ao29 t258.length co29, .slice Ao32 t261.length co32, .slice Ao33 t264.length co33] 27 (0, 0)) (bL Bf.out)) : Bp ≠ Bq));have n19_ := Am ((by rw [hg];exact Nat.ne_of_gt (blk_lt (g := Bp) (o := .cells #[.slice Ao29 t258.length co29, .slice Ao32 t261.length co32, .slice Ao33 t264.length co33] 27 (0, 0)) (bL Bf.out)) : Bq ≠ Bp));clear Bw Bx BA Bz BB BC BD BF BG BH Be Bf HB;revert n0_ n1_ n2_ n3_ n4_ n5_ n6_ n7_ n8_ n9_ n10_ n11_ n12_ n13_ n14_ n15_ n16_ n17_ n18_ n19_;intro Bw Bx BA Bz BB BC BD BF BG BH Be Bf HB Bn Ma Bv De Dg BS B3;clear hb hbox hg;obtain ⟨Ao37, co37, eo37⟩ := Kd.R_slice BF.out;subst eo37;have Mb := Dg.out;have Mc := De.out;have Md := B3.out;have Me := BS.out;have DJ : w36.cell? ⟨Bq, 0, none⟩ = some (.slice none 0 0) := (bC Bn.out 0).trans rfl;have DK : w36.cell? ⟨Bq, 1, none⟩ = some (.slice none 0 0) := (bC Bn.out 1).trans rfl;have DL : w36.cell? ⟨Bq, 2, none⟩ = some (.slice none 0 0) := (bC Bn.out 2).trans rfl;have DM := bF Bn.out 0;have DN := bF Bn.out 1;have DO := bF Bn.out 2;obtain ⟨Ao41, co41, eo41⟩ := Kd.R_slice BG.out;subst eo41;obtain ⟨Ao42, co42, eo42⟩ := Kd.R_slice BH.out;subst eo42)|((with_reducible refine gate_callee (f := 21) rfl ?_);refine goesL_ (some 36) rfl rfl Try.func21 (by kernel_rfl) rfl #[.slice A1 l1.length c1] rfl (by (try simp only [lM, lC, lN]);first|done|rfl|(simp only [lD, lT];rfl)) ?_;(with_reducible refine (laws_toBoolS.calls k _ _ l1 t279 _ ?side1 ?side2 A14.out).mono ?_);(case side1 => exact cB HR1.out (by repeat (first|(with_reducible first|exact HB.out|apply oA|apply pN|apply o1|refine bS ?_ Br.out|refine bS ?_ Bu.out|refine bS ?_ Bv.out)|exact HB.out)));(case side2 => exact HC1.out);rintro e w43 ⟨v280, rfl, ho0, hb⟩;refine ⟨_, rfl, ?_⟩;have n0_ := Am (Kd.R_elder' (by (with_reducible repeat (first|apply rA|apply rN|apply rD));exact (rM (rF (p := ⟨Bq, 2, none⟩) (rF (p := ⟨Bq, 1, none⟩) (rF (p := ⟨Bq, 0, none⟩) (rT Bw.out Bn.out (by decide)) (fun _ hk => hk.2) (.slice Ao37 t269.length co37)) (fun _ hk => hk.2) (.slice Ao41 t272.length co41)) (fun _ hk => hk.2) (.slice Ao42 t275.length co42)) (fun _ h_ => h_.1))) (Kd.R_base ho0) hb);have n1_ := Am (Kd.R_elder' (by (with_reducible repeat (first|apply rA|apply rN|apply rD));exact (rM (rF (p := ⟨Bq, 2, none⟩) (rF (p := ⟨Bq, 1, none⟩) (rF (p := ⟨Bq, 0, none⟩) (rT Bx.out Bn.out (by decide)) (fun _ hk => hk.2) (.slice Ao37 t269.length co37)) (fun _ hk => hk.2) (.slice Ao41 t272.length co41)) (fun _ hk => hk.2) (.slice Ao42 t275.length co42)) (fun _ h_ => h_.1))) (Kd.R_base ho0) hb);have n2_ := Am (rB (by (with_reducible repeat (first|apply rA|apply rN|apply rD));exact (rM (rF (p := ⟨Bq, 2, none⟩) (rF (p := ⟨Bq, 1, none⟩) (rF (p := ⟨Bq, 0, none⟩) (rT BA.out Bn.out (by decide)) (fun _ hk => hk.2) (.slice Ao37 t269.length co37)) (fun _ hk => hk.2) (.slice Ao41 t272.length co41)) (fun _ hk => hk.2) (.slice Ao42 t275.length co42)) (fun _ h_ => h_.1))) hb);have n3_ := Am (Kd.R_elder' (by (with_reducible repeat (first|apply rA|apply rN|apply rD));exact (rM (rF (p := ⟨Bq, 2, none⟩) (rF (p := ⟨Bq, 1, none⟩) (rF (p := ⟨Bq, 0, none⟩) (rT Bz.out Bn.out (by decide)) (fun _ hk => hk.2) (.slice Ao37 t269.length co37)) (fun _ hk => hk.2) (.slice Ao41 t272.length co41)) (fun _ hk => hk.2) (.slice Ao42 t275.length co42)) (fun _ h_ => h_.1))) (Kd.R_base ho0) hb);have n4_ := Am (Kd.R_elder' (by (with_reducible repeat (first|apply rA|apply rN|apply rD));exact (rM (rF (p := ⟨Bq, 2, none⟩) (rF (p := ⟨Bq, 1, none⟩) (rF (p := ⟨Bq, 0, none⟩) (rT BB.out Bn.out (by decide)) (fun _ hk => hk.2) (.slice Ao37 t269.length co37)) (fun _ hk => hk.2) (.slice Ao41 t272.length co41)) (fun _ hk => hk.2) (.slice Ao42 t275.length co42)) (fun _ h_ => h_.1))) (Kd.R_base ho0) hb);have n5_ := Am (Kd.R_elder' (by (with_reducible repeat (first|apply rA|apply rN|apply rD));exact (rM (rF (p := ⟨Bq, 2, none⟩) (rF (p := ⟨Bq, 1, none⟩) (rF (p := ⟨Bq, 0, none⟩) (rT BC.out Bn.out (by decide)) (fun _ hk => hk.2) (.slice Ao37 t269.length co37)) (fun _ hk => hk.2) (.slice Ao41 t272.length co41)) (fun _ hk => hk.2) (.slice Ao42 t275.length co42)) (fun _ h_ => h_.1))) (Kd.R_base ho0) hb);have n6_ := Am (rB (by (with_reducible repeat (first|apply rA|apply rN|apply rD));exact (rM (rF (p := ⟨Bq, 2, none⟩) (rF (p := ⟨Bq, 1, none⟩) (rF (p := ⟨Bq, 0, none⟩) (rT BD.out Bn.out (by decide)) (fun _ hk => hk.2) (.slice Ao37 t269.length co37)) (fun _ hk => hk.2) (.slice Ao41 t272.length co41)) (fun _ hk => hk.2) (.slice Ao42 t275.length co42)) (fun _ h_ => h_.1))) hb);have n7_ := Am (Kd.R_elder' (by (with_reducible repeat (first|apply rA|apply rN|apply rD));exact (rM (rF (p := ⟨Bq, 2, none⟩) (rF (p := ⟨Bq, 1, none⟩) (rF (p := ⟨Bq, 0, none⟩) (rT BF.out Bn.out (by decide)) (fun _ hk => hk.2) (.slice Ao37 t269.length co37)) (fun _ hk => hk.2) (.slice Ao41 t272.length co41)) (fun _ hk => hk.2) (.slice Ao42 t275.length co42)) (fun _ h_ => h_.1))) (Kd.R_base ho0) hb);have n8_ := Am (Kd.R_elder' (by (with_reducible repeat (first|apply rA|apply rN|apply rD));exact (rM (rF (p := ⟨Bq, 2, none⟩) (rF (p := ⟨Bq, 1, none⟩) (rF (p := ⟨Bq, 0, none⟩) (rT BG.out Bn.out (by decide)) (fun _ hk => hk.2) (.slice Ao37 t269.length co37)) (fun _ hk => hk.2) (.slice Ao41 t272.length co41)) (fun _ hk => hk.2) (.slice Ao42 t275.length co42)) (fun _ h_ => h_.1))) (Kd.R_base ho0) hb);have n9_ := Am (rB (by (with_reducible repeat (first|apply rA|apply rN|apply rD));exact (rM (rF (p := ⟨Bq, 2, none⟩) (rF (p := ⟨Bq, 1, none⟩) (rF (p := ⟨Bq, 0, none⟩) (rT BH.out Bn.out (by decide)) (fun _ hk => hk.2) (.slice Ao37 t269.length co37)) (fun _ hk => hk.2) (.slice Ao41 t272.length co41)) (fun _ hk => hk.2) (.slice Ao42 t275.length co42)) (fun _ h_ => h_.1))) hb);have n10_ := Am (Kd.R_lower (Kd.R_new' (Kd.R_new' (Kd.R_new' (Kd.R_new' (Kd.R_new' (Kd.R_new' (Kd.R_new' ho0 (Kd.R_lt (by (with_reducible repeat (first|apply rA|apply rN|apply rD));exact (rM (rF (p := ⟨Bq, 2, none⟩) (rF (p := ⟨Bq, 1, none⟩) (rF (p := ⟨Bq, 0, none⟩) (rT Bw.out Bn.out (by decide)) (fun _ hk => hk.2) (.slice Ao37 t269.length co37)) (fun _ hk => hk.2) (.slice Ao41 t272.length co41)) (fun _ hk => hk.2) (.slice Ao42 t275.length co42)) (fun _ h_ => h_.1))))) (Kd.R_lt (by (with_reducible repeat (first|apply rA|apply rN|apply rD));exact (rM (rF (p := ⟨Bq, 2, none⟩) (rF (p := ⟨Bq, 1, none⟩) (rF (p := ⟨Bq, 0, none⟩) (rT Bx.out Bn.out (by decide)) (fun _ hk => hk.2) (.slice Ao37 t269.length co37)) (fun _ hk => hk.2) (.slice Ao41 t272.length co41)) (fun _ hk => hk.2) (.slice Ao42 t275.length co42)) (fun _ h_ => h_.1))))) (Kd.R_lt (by (with_reducible repeat (first|apply rA|apply rN|apply rD));exact (rM (rF (p := ⟨Bq, 2, none⟩) (rF (p := ⟨Bq, 1, none⟩) (rF (p := ⟨Bq, 0, none⟩) (rT Bz.out Bn.out (by decide)) (fun _ hk => hk.2) (.slice Ao37 t269.length co37)) (fun _ hk => hk.2) (.slice Ao41 t272.length co41)) (fun _ hk => hk.2) (.slice Ao42 t275.length co42)) (fun _ h_ => h_.1))))) (Kd.R_lt (by (with_reducible repeat (first|apply rA|apply rN|apply rD));exact (rM (rF (p := ⟨Bq, 2, none⟩) (rF (p := ⟨Bq, 1, none⟩) (rF (p := ⟨Bq, 0, none⟩) (rT BB.out Bn.out (by decide)) (fun _ hk => hk.2) (.slice Ao37 t269.length co37)) (fun _ hk => hk.2) (.slice Ao41 t272.length co41)) (fun _ hk => hk.2) (.slice Ao42 t275.length co42)) (fun _ h_ => h_.1))))) (Kd.R_lt (by (with_reducible repeat (first|apply rA|apply rN|apply rD));exact (rM (rF (p := ⟨Bq, 2, none⟩) (rF (p := ⟨Bq, 1, none⟩) (rF (p := ⟨Bq, 0, none⟩) (rT BC.out Bn.out (by decide)) (fun _ hk => hk.2) (.slice Ao37 t269.length co37)) (fun _ hk => hk.2) (.slice Ao41 t272.length co41)) (fun _ hk => hk.2) (.slice Ao42 t275.length co42)) (fun _ h_ => h_.1))))) (Kd.R_lt (by (with_reducible repeat (first|apply rA|apply rN|apply rD));exact (rM (rF (p := ⟨Bq, 2, none⟩) (rF (p := ⟨Bq, 1, none⟩) (rF (p := ⟨Bq, 0, none⟩) (rT BF.out Bn.out (by decide)) (fun _ hk => hk.2) (.slice Ao37 t269.length co37)) (fun _ hk => hk.2) (.slice Ao41 t272.length co41)) (fun _ hk => hk.2) (.slice Ao42 t275.length co42)) (fun _ h_ => h_.1))))) (Kd.R_lt (by (with_reducible repeat (first|apply rA|apply rN|apply rD));exact (rM (rF (p := ⟨Bq, 2, none⟩) (rF (p := ⟨Bq, 1, none⟩) (rF (p := ⟨Bq, 0, none⟩) (rT BG.out Bn.out (by decide)) (fun _ hk => hk.2) (.slice Ao37 t269.length co37)) (fun _ hk => hk.2) (.slice Ao41 t272.length co41)) (fun _ hk => hk.2) (.slice Ao42 t275.length co42)) (fun _ h_ => h_.1))))) (bZ (by repeat (first|(with_reducible first|exact HB.out|apply oA|apply pN|apply o1|refine bS ?_ Br.out|refine bS ?_ Bu.out|refine bS ?_ Bv.out)|exact HB.out))));have n11_ := Am (bB (g := Bt) (o := .cells #[.slice A0_0 l0_0.length c0_0, .slice A0_1 l0_1.length c0_1, .slice A0_2 l0_2.length c0_2] 25 (0, 0)) (by (with_reducible repeat (first|refine bN ?_ _|refine bD ?_|refine bA ?_ _|refine blk_far ?_ De.out _));exact Be.out) hb);have n12_ := Am (bB (g := Bp) (o := .cells #[.slice Ao29 t258.length co29, .slice Ao32 t261.length co32, .slice Ao33 t264.length co33] 27 (0, 0)) (by (with_reducible repeat (first|refine bN ?_ _|refine bD ?_|refine bA ?_ _|refine blk_far ?_ BS.out _));exact Bf.out) hb);have n13_ := Am (bB (g := Bq) (o := .cells #[.slice Ao37 t269.length co37, .slice Ao41 t272.length co41, .slice Ao42 t275.length co42] 27 (0, 0)) (by (with_reducible repeat (first|refine bN ?_ _|refine bD ?_|refine bA ?_ _));refine blk_put (cs := #[.slice Ao37 t269.length co37, .slice Ao41 t272.length co41, .slice none 0 0]) ?_ 2 _ rfl;(with_reducible repeat (first|refine bN ?_ _|refine bD ?_|refine bA ?_ _));refine blk_put (cs := #[.slice Ao37 t269.length co37, .slice none 0 0, .slice none 0 0]) ?_ 1 _ rfl;(with_reducible repeat (first|refine bN ?_ _|refine bD ?_|refine bA ?_ _));refine blk_put (cs := #[.slice none 0 0, .slice none 0 0, .slice none 0 0]) ?_ 0 _ rfl;(with_reducible repeat (first|refine bN ?_ _|refine bD ?_|refine bA ?_ _));exact Bn.out) hb);have n14_ := Am (bP (by repeat (first|(with_reducible first|exact HB.out|apply oA|apply pN|apply o1|refine bS ?_ Br.out|refine bS ?_ Bu.out|refine bS ?_ Bv.out)|exact HB.out)) hb);clear Bw Bx BA Bz BB BC BD BF BG BH Be Bf Bn HB;revert n0_ n1_ n2_ n3_ n4_ n5_ n6_ n7_ n8_ n9_ n10_ n11_ n12_ n13_ n14_;intro Bw Bx BA Bz BB BC BD BF BG BH BO Be Bf Bn HB;(try clear hb);(try clear hb2);(try clear hk);(try clear hi);(try clear ho0);have DP : w43.cell? ⟨Bq, 0, none⟩ = some (.slice Ao37 t269.length co37) := (bC Bn.out 0).trans rfl;have DQ : w43.cell? ⟨Bq, 1, none⟩ = some (.slice Ao41 t272.length co41) := (bC Bn.out 1).trans rfl;have DR : w43.cell? ⟨Bq, 2, none⟩ = some (.slice Ao42 t275.length co42) := (bC Bn.out 2).trans rfl;have DS := bF Bn.out 0;have DT := bF Bn.out 1;have DU := bF Bn.out 2;obtain ⟨Ao45, co45, eo45⟩ := Kd.R_slice BO.out;subst eo45)|((with_reducible refine gate_callee (f := 22) rfl ?_);refine goesL_ (some 40) rfl rfl Try.func22 (by kernel_rfl) rfl #[.agg #[.slice Ao37 t269.length co37, .slice Ao41 t272.length co41, .slice Ao42 t275.length co42], .slice Ao45 t279.length co45] rfl (by (try simp only [lM, lC, lN]);first|done|rfl|(simp only [lD, lT];rfl)) ?_;(with_reducible refine (impl_SigsBlock.calls k _ _ t269 _ _ t272 _ _ t275 _ _ t279 t282 t285 t288 t291 _ ?side1 ?side2 ?side3 ?side4 ?side5 ?side6 ?side7 ?side8 A15.out).mono ?_);(case side1 => repeat (first|exact (Kd.R_reads' BF.out).2.2|(with_reducible refine cA ?_ _)|(with_reducible refine cN ?_ _)|(with_reducible refine cD ?_)));(case side2 => exact (Kd.R_reads' BF.out).2.1);(case side3 => repeat (first|exact (Kd.R_reads' BG.out).2.2|(with_reducible refine cA ?_ _)|(with_reducible refine cN ?_ _)|(with_reducible refine cD ?_)));(case side4 => exact (Kd.R_reads' BG.out).2.1);(case side5 => repeat (first|exact (Kd.R_reads' BH.out).2.2|(with_reducible refine cA ?_ _)|(with_reducible refine cN ?_ _)|(with_reducible refine cD ?_)));(case side6 => exact (Kd.R_reads' BH.out).2.1);(case side7 => repeat (first|exact (Kd.R_reads' BO.out).2.2|(with_reducible refine cA ?_ _)|(with_reducible refine cN ?_ _)|(with_reducible refine cD ?_)));(case side8 => exact (Kd.R_reads' BO.out).2.1);rintro e w46 ⟨v283, v286, v289, rfl, ho0, ho1, ho2, hb⟩;refine ⟨_, rfl, ?_⟩;have n0_ := Am (rM (Kd.R_told (Kd.R_told (Kd.R_old (rL Bw.out) hb) (Kd.R_base ho0)) (Kd.R_base ho1)) (fun _ h_ => h_.1));have n1_ := Am (rM (Kd.R_told (Kd.R_told (Kd.R_old (rL Bx.out) hb) (Kd.R_base ho0)) (Kd.R_base ho1)) (fun _ h_ => h_.1));have n2_ := Am (Kd.R_elder' (rL BA.out) (Kd.R_base ho2) hb);have n3_ := Am (rM (Kd.R_told (Kd.R_told (Kd.R_old (rL Bz.out) hb) (Kd.R_base ho0)) (Kd.R_base ho1)) (fun _ h_ => h_.1));have n4_ := Am (rM (Kd.R_told (Kd.R_told (Kd.R_old (rL BB.out) hb) (Kd.R_base ho0)) (Kd.R_base ho1)) (fun _ h_ => h_.1));have n5_ := Am (rM (Kd.R_told (Kd.R_told (Kd.R_old (rL BC.out) hb) (Kd.R_base ho0)) (Kd.R_base ho1)) (fun _ h_ => h_.1));have n6_ := Am (Kd.R_elder' (rL BD.out) (Kd.R_base ho2) hb);have n7_ := Am (rM (Kd.R_told (Kd.R_told (Kd.R_old (rL BF.out) hb) (Kd.R_base ho0)) (Kd.R_base ho1)) (fun _ h_ => h_.1));have n8_ := Am (rM (Kd.R_told (Kd.R_told (Kd.R_old (rL BG.out) hb) (Kd.R_base ho0)) (Kd.R_base ho1)) (fun _ h_ => h_.1));have n9_ := Am (Kd.R_elder' (rL BH.out) (Kd.R_base ho2) hb);have n10_ := Am (rM (Kd.R_told (Kd.R_told (Kd.R_old (rL BO.out) hb) (Kd.R_base ho0)) (Kd.R_base ho1)) (fun _ h_ => h_.1));have n11_ := Am (Kd.R_lower (Kd.R_new' (Kd.R_new' (Kd.R_new' (Kd.R_new' (Kd.R_new' (Kd.R_new' (Kd.R_new' (Kd.R_new' ho0 (Kd.R_lt (rL Bw.out))) (Kd.R_lt (rL Bx.out))) (Kd.R_lt (rL Bz.out))) (Kd.R_lt (rL BB.out))) (Kd.R_lt (rL BC.out))) (Kd.R_lt (rL BF.out))) (Kd.R_lt (rL BG.out))) (Kd.R_lt (rL BO.out))) (bZ (by repeat (first|(with_reducible first|exact HB.out|apply oA|apply pN|apply o1|refine bS ?_ Br.out|refine bS ?_ Bu.out|refine bS ?_ Bv.out)|exact HB.out))));have n12_ := Am (Kd.R_lower (Kd.R_new' (Kd.R_new' (Kd.R_new' (Kd.R_new' (Kd.R_new' (Kd.R_new' (Kd.R_new' (Kd.R_new' ho1 (Kd.R_lt (rL Bw.out))) (Kd.R_lt (rL Bx.out))) (Kd.R_lt (rL Bz.out))) (Kd.R_lt (rL BB.out))) (Kd.R_lt (rL BC.out))) (Kd.R_lt (rL BF.out))) (Kd.R_lt (rL BG.out))) (Kd.R_lt (rL BO.out))) (bZ (by repeat (first|(with_reducible first|exact HB.out|apply oA|apply pN|apply o1|refine bS ?_ Br.out|refine bS ?_ Bu.out|refine bS ?_ Bv.out)|exact HB.out))));have n13_ := Am (Kd.R_lower (Kd.R_new' (Kd.R_new' (Kd.R_new' ho2 (Kd.R_lt (rL BA.out))) (Kd.R_lt (rL BD.out))) (Kd.R_lt (rL BH.out))) (bZ (by repeat (first|(with_reducible first|exact HB.out|apply oA|apply pN|apply o1|refine bS ?_ Br.out|refine bS ?_ Bu.out|refine bS ?_ Bv.out)|exact HB.out))));have n14_ := Am (bB (g := Bt) (o := .cells #[.slice A0_0 l0_0.length c0_0, .slice A0_1 l0_1.length c0_1, .slice A0_2 l0_2.length c0_2] 25 (0, 0)) (bL Be.out) hb);have n15_ := Am (bB (g := Bp) (o := .cells #[.slice Ao29 t258.length co29, .slice Ao32 t261.length co32, .slice Ao33 t264.length co33] 27 (0, 0)) (bL Bf.out) hb);have n16_ := Am (bB (g := Bq) (o := .cells #[.slice Ao37 t269.length co37, .slice Ao41 t272.length co41, .slice Ao42 t275.length co42] 27 (0, 0)) (bL Bn.out) hb);have n17_ := Am (bP (by repeat (first|(with_reducible first|exact HB.out|apply oA|apply pN|apply o1|refine bS ?_ Br.out|refine bS ?_ Bu.out|refine bS ?_ Bv.out)|exact HB.out)) hb);clear Bw Bx BA Bz BB BC BD BF BG BH BO Be Bf Bn HB;revert n0_ n1_ n2_ n3_ n4_ n5_ n6_ n7_ n8_ n9_ n10_ n11_ n12_ n13_ n14_ n15_ n16_ n17_;intro Bw Bx BA Bz BB BC BD BF BG BH BO BW BX BY Be Bf Bn HB;(try clear hb);(try clear hb2);(try clear hk);(try clear hi);(try clear ho0);(try clear ho1);(try clear ho2))|((with_reducible refine gate_dst (N := 10) rfl ?_);refine box_event ?hg (N := 10) ?hd (cs := #[.slice none 0 0, .slice none 0 0, .slice none 0 0]) (t := 27) ?hr ?_;(case hd => rfl);(case hg => rfl);(case hr => first|(go_simp;done)|(go_simp;rfl));intro Ba hg w47 hbox hb;have n0_ := Am (rB (rL Bw.out) hb);have n1_ := Am (rB (rL Bx.out) hb);have n2_ := Am (rB (rL BA.out) hb);have n3_ := Am (rB (rL Bz.out) hb);have n4_ := Am (rB (rL BB.out) hb);have n5_ := Am (rB (rL BC.out) hb);have n6_ := Am (rB (rL BD.out) hb);have n7_ := Am (rB (rL BF.out) hb);have n8_ := Am (rB (rL BG.out) hb);have n9_ := Am (rB (rL BH.out) hb);have n10_ := Am (rB (rL BO.out) hb);have n11_ := Am (rB (rL BW.out) hb);have n12_ := Am (rB (rL BX.out) hb);have n13_ := Am (rB (rL BY.out) hb);have n14_ := Am (bB (g := Bt) (o := .cells #[.slice A0_0 l0_0.length c0_0, .slice A0_1 l0_1.length c0_1, .slice A0_2 l0_2.length c0_2] 25 (0, 0)) (bL Be.out) hb);have n15_ := Am (bB (g := Bp) (o := .cells #[.slice Ao29 t258.length co29, .slice Ao32 t261.length co32, .slice Ao33 t264.length co33] 27 (0, 0)) (bL Bf.out) hb);have n16_ := Am (bB (g := Bq) (o := .cells #[.slice Ao37 t269.length co37, .slice Ao41 t272.length co41, .slice Ao42 t275.length co42] 27 (0, 0)) (bL Bn.out) hb);have n17_ := Am (bP (by repeat (first|(with_reducible first|exact HB.out|apply oA|apply pN|apply o1|refine bS ?_ Br.out|refine bS ?_ Bu.out|refine bS ?_ Bv.out)|exact HB.out)) hb);have n18_ := Am (hbox);have n19_ := Am ((by rw [hg];exact (bZ (by repeat (first|(with_reducible first|exact HB.out|apply oA|apply pN|apply o1|refine bS ?_ Br.out|refine bS ?_ Bu.out|refine bS ?_ Bv.out)|exact HB.out))) : w.heap.size ≤ Ba));have n20_ := Am ((by rw [hg];exact (bZ (by repeat (first|(with_reducible first|exact HB.out|apply oA|apply pN|apply o1|refine bS ?_ Br.out|refine bS ?_ Bu.out|refine bS ?_ Bv.out)|exact HB.out))) : w.heap.size ≤ Ba));have n21_ := Am ((by rw [hg];exact Nat.ne_of_lt (blk_lt (g := Bt) (o := .cells #[.slice A0_0 l0_0.length c0_0, .slice A0_1 l0_1.length c0_1, .slice A0_2 l0_2.length c0_2] 25 (0, 0)) (bL Be.out)) : Bt ≠ Ba));have n22_ := Am ((by rw [hg];exact Nat.ne_of_gt (blk_lt (g := Bt) (o := .cells #[.slice A0_0 l0_0.length c0_0, .slice A0_1 l0_1.length c0_1, .slice A0_2 l0_2.length c0_2] 25 (0, 0)) (bL Be.out)) : Ba ≠ Bt));have n23_ := Am ((by rw [hg];exact Nat.ne_of_lt (blk_lt (g := Bp) (o := .cells #[.slice Ao29 t258.length co29, .slice Ao32 t261.length co32, .slice Ao33 t264.length co33] 27 (0, 0)) (bL Bf.out)) : Bp ≠ Ba));have n24_ := Am ((by rw [hg];exact Nat.ne_of_gt (blk_lt (g := Bp) (o := .cells #[.slice Ao29 t258.length co29, .slice Ao32 t261.length co32, .slice Ao33 t264.length co33] 27 (0, 0)) (bL Bf.out)) : Ba ≠ Bp));have n25_ := Am ((by rw [hg];exact Nat.ne_of_lt (blk_lt (g := Bq) (o := .cells #[.slice Ao37 t269.length co37, .slice Ao41 t272.length co41, .slice Ao42 t275.length co42] 27 (0, 0)) (bL Bn.out)) : Bq ≠ Ba));have n26_ := Am ((by rw [hg];exact Nat.ne_of_gt (blk_lt (g := Bq) (o := .cells #[.slice Ao37 t269.length co37, .slice Ao41 t272.length co41, .slice Ao42 t275.length co42] 27 (0, 0)) (bL Bn.out)) : Ba ≠ Bq));clear Bw Bx BA Bz BB BC BD BF BG BH BO BW BX BY Be Bf Bn HB;revert n0_ n1_ n2_ n3_ n4_ n5_ n6_ n7_ n8_ n9_ n10_ n11_ n12_ n13_ n14_ n15_ n16_ n17_ n18_ n19_ n20_ n21_ n22_ n23_ n24_ n25_ n26_;intro Bw Bx BA Bz BB BC BD BF BG BH BO BW BX BY Be Bf Bn HB Bb Mf By BT B6 BN BU BQ B4;clear hb hbox hg;obtain ⟨Ao48, co48, eo48⟩ := Kd.R_slice BW.out;subst eo48;have Mg := B6.out;have Mh := BT.out;have Mi := BU.out;have Mj := BN.out;have Mk := B4.out;have Ml := BQ.out;have DV : w47.cell? ⟨Ba, 0, none⟩ = some (.slice none 0 0) := (bC Bb.out 0).trans rfl;have DW : w47.cell? ⟨Ba, 1, none⟩ = some (.slice none 0 0) := (bC Bb.out 1).trans rfl;have DX : w47.cell? ⟨Ba, 2, none⟩ = some (.slice none 0 0) := (bC Bb.out 2).trans rfl;have DY := bF Bb.out 0;have DZ := bF Bb.out 1;have D0 := bF Bb.out 2;obtain ⟨Ao53, co53, eo53⟩ := Kd.R_slice BX.out;subst eo53;obtain ⟨Ao54, co54, eo54⟩ := Kd.R_slice BY.out;subst eo54))
 (try simp only [Act.put, lA, lZ, lS])
 go_cut [51] (fun v51 wc => ∃ (kq : Nat) (x51_15 : Bool), v51 = .bool x51_15 ∧ Aside0 (laws_FnExactSigsBlock.j0 kq l1 t267 t279 t291 x51_15 l0_0 l0_1 l0_2 t258 t261 t264 t269 t272 t275 t282 t285 t288 = some r) ∧ Aside0 (kq ≤ k) ∧ Aside0 (Kd.R Kd.bool 4 wc w.heap.size (fun k_ => some k_ ≠ ((.slice Ao29 t258.length co29) : Value).ownBlock ∧ some k_ ≠ ((.slice Ao32 t261.length co32) : Value).ownBlock ∧ some k_ ≠ ((.slice Ao37 t269.length co37) : Value).ownBlock ∧ some k_ ≠ ((.slice Ao41 t272.length co41) : Value).ownBlock ∧ some k_ ≠ ((.slice Ao48 t282.length co48) : Value).ownBlock ∧ some k_ ≠ ((.slice Ao53 t285.length co53) : Value).ownBlock) (.slice Ao45 t279.length co45) t279) ∧ Aside0 (Kd.R Kd.bool 4 wc w.heap.size (fun k_ => some k_ ≠ ((.slice Ao45 t279.length co45) : Value).ownBlock ∧ some k_ ≠ ((.slice Ao32 t261.length co32) : Value).ownBlock ∧ some k_ ≠ ((.slice Ao37 t269.length co37) : Value).ownBlock ∧ some k_ ≠ ((.slice Ao41 t272.length co41) : Value).ownBlock ∧ some k_ ≠ ((.slice Ao48 t282.length co48) : Value).ownBlock ∧ some k_ ≠ ((.slice Ao53 t285.length co53) : Value).ownBlock) (.slice Ao29 t258.length co29) t258) ∧ Aside0 (Kd.R Kd.bool 4 wc w.heap.size (fun k_ => some k_ ≠ ((.slice Ao45 t279.length co45) : Value).ownBlock ∧ some k_ ≠ ((.slice Ao29 t258.length co29) : Value).ownBlock ∧ some k_ ≠ ((.slice Ao37 t269.length co37) : Value).ownBlock ∧ some k_ ≠ ((.slice Ao41 t272.length co41) : Value).ownBlock ∧ some k_ ≠ ((.slice Ao48 t282.length co48) : Value).ownBlock ∧ some k_ ≠ ((.slice Ao53 t285.length co53) : Value).ownBlock) (.slice Ao32 t261.length co32) t261) ∧ Aside0 (Kd.R (Kd.int .i64) 3 wc w.heap.size (fun k_ => some k_ ≠ ((.slice Ao42 t275.length co42) : Value).ownBlock ∧ some k_ ≠ ((.slice Ao54 t288.length co54) : Value).ownBlock) (.slice Ao33 t264.length co33) t264) ∧ Aside0 (Kd.R Kd.bool 4 wc w.heap.size (fun k_ => some k_ ≠ ((.slice Ao45 t279.length co45) : Value).ownBlock ∧ some k_ ≠ ((.slice Ao29 t258.length co29) : Value).ownBlock ∧ some k_ ≠ ((.slice Ao32 t261.length co32) : Value).ownBlock ∧ some k_ ≠ ((.slice Ao41 t272.length co41) : Value).ownBlock ∧ some k_ ≠ ((.slice Ao48 t282.length co48) : Value).ownBlock ∧ some k_ ≠ ((.slice Ao53 t285.length co53) : Value).ownBlock) (.slice Ao37 t269.length co37) t269) ∧ Aside0 (Kd.R Kd.bool 4 wc w.heap.size (fun k_ => some k_ ≠ ((.slice Ao45 t279.length co45) : Value).ownBlock ∧ some k_ ≠ ((.slice Ao29 t258.length co29) : Value).ownBlock ∧ some k_ ≠ ((.slice Ao32 t261.length co32) : Value).ownBlock ∧ some k_ ≠ ((.slice Ao37 t269.length co37) : Value).ownBlock ∧ some k_ ≠ ((.slice Ao48 t282.length co48) : Value).ownBlock ∧ some k_ ≠ ((.slice Ao53 t285.length co53) : Value).ownBlock) (.slice Ao41 t272.length co41) t272) ∧ Aside0 (Kd.R (Kd.int .i64) 3 wc w.heap.size (fun k_ => some k_ ≠ ((.slice Ao33 t264.length co33) : Value).ownBlock ∧ some k_ ≠ ((.slice Ao54 t288.length co54) : Value).ownBlock) (.slice Ao42 t275.length co42) t275) ∧ Aside0 (Kd.R Kd.bool 4 wc w.heap.size (fun k_ => some k_ ≠ ((.slice Ao45 t279.length co45) : Value).ownBlock ∧ some k_ ≠ ((.slice Ao29 t258.length co29) : Value).ownBlock ∧ some k_ ≠ ((.slice Ao32 t261.length co32) : Value).ownBlock ∧ some k_ ≠ ((.slice Ao37 t269.length co37) : Value).ownBlock ∧ some k_ ≠ ((.slice Ao41 t272.length co41) : Value).ownBlock ∧ some k_ ≠ ((.slice Ao53 t285.length co53) : Value).ownBlock) (.slice Ao48 t282.length co48) t282) ∧ Aside0 (Kd.R Kd.bool 4 wc w.heap.size (fun k_ => some k_ ≠ ((.slice Ao45 t279.length co45) : Value).ownBlock ∧ some k_ ≠ ((.slice Ao29 t258.length co29) : Value).ownBlock ∧ some k_ ≠ ((.slice Ao32 t261.length co32) : Value).ownBlock ∧ some k_ ≠ ((.slice Ao37 t269.length co37) : Value).ownBlock ∧ some k_ ≠ ((.slice Ao41 t272.length co41) : Value).ownBlock ∧ some k_ ≠ ((.slice Ao48 t282.length co48) : Value).ownBlock) (.slice Ao53 t285.length co53) t285) ∧ Aside0 (Kd.R (Kd.int .i64) 3 wc w.heap.size (fun k_ => some k_ ≠ ((.slice Ao33 t264.length co33) : Value).ownBlock ∧ some k_ ≠ ((.slice Ao42 t275.length co42) : Value).ownBlock) (.slice Ao54 t288.length co54) t288) ∧ Aside0 (wc.heap[Bt]? = some (.cells #[(.slice A0_0 l0_0.length c0_0), (.slice A0_1 l0_1.length c0_1), (.slice A0_2 l0_2.length c0_2)] 25 (0, 0))) ∧ Aside0 (wc.heap[Bp]? = some (.cells #[(.slice Ao29 t258.length co29), (.slice Ao32 t261.length co32), (.slice Ao33 t264.length co33)] 27 (0, 0))) ∧ Aside0 (wc.heap[Bq]? = some (.cells #[(.slice Ao37 t269.length co37), (.slice Ao41 t272.length co41), (.slice Ao42 t275.length co42)] 27 (0, 0))) ∧ Aside0 (wc.heap[Ba]? = some (.cells #[(.slice Ao48 t282.length co48), (.slice Ao53 t285.length co53), (.slice Ao54 t288.length co54)] 27 (0, 0))) ∧ Aside0 (Below w.heap.size w wc))
 case first =>
  have H := HC16.out
  clear HC16
  replace H := Option.bind_eq_some_iff.mp H
  obtain ⟨t293, A550, H⟩ := H
  replace H : (if t293 = true then (laws_FnExactSigsBlock.j0 k l1 t267 t279 t291 (t291 != t267) l0_0 l0_1 l0_2 t258 t261 t264 t269 t272 t275 t282 t285 t288) else (laws_FnExactSigsBlock.j0 k l1 t267 t279 t291 true l0_0 l0_1 l0_2 t258 t261 t264 t269 t272 t275 t282 t285 t288)) = some r := H
  have A55 := Am A550
  clear A550
  by_cases c56 : t293 = true
  ·subst c56
   have H1 : (laws_FnExactSigsBlock.j0 k l1 t267 t279 t291 (t291 != t267) l0_0 l0_1 l0_2 t258 t261 t264 t269 t272 t275 t282 t285 t288) = some r := by rw [if_pos rfl] at H;exact H
   clear H
   have H := H1
   clear H1
   have H' := Am H
   clear H
   have Mm := B6.out
   have Mn := BT.out
   have Mo := BU.out
   have Mp := BN.out
   have Mq := B4.out
   have Mr := BQ.out
   have D1 : w47.cell? ⟨Ba, 0, none⟩ = some (.slice none 0 0) := (bC Bb.out 0).trans rfl
   have D2 : w47.cell? ⟨Ba, 1, none⟩ = some (.slice none 0 0) := (bC Bb.out 1).trans rfl
   have D3 : w47.cell? ⟨Ba, 2, none⟩ = some (.slice none 0 0) := (bC Bb.out 2).trans rfl
   have D4 := bF Bb.out 0
   have D5 := bF Bb.out 1
   have D6 := bF Bb.out 2
   have Ms := B2.out
   have Mt := BR.out
   have Mu := BS.out
   have Mv := B3.out
   have D7 : w47.cell? ⟨Bp, 0, none⟩ = some (.slice Ao29 t258.length co29) := (bC Bf.out 0).trans rfl
   have D8 : w47.cell? ⟨Bp, 1, none⟩ = some (.slice Ao32 t261.length co32) := (bC Bf.out 1).trans rfl
   have D9 : w47.cell? ⟨Bp, 2, none⟩ = some (.slice Ao33 t264.length co33) := (bC Bf.out 2).trans rfl
   have Fa := bF Bf.out 0
   have Fb := bF Bf.out 1
   have Fc := bF Bf.out 2
   go_wp2_with (first|((with_reducible refine gate_callee (f := 17) rfl ?_);refine goesL_ (some 45) rfl rfl Try.func17 (by kernel_rfl) rfl #[.agg #[.slice Ao48 t282.length co48, .slice Ao53 t285.length co53, .slice Ao54 t288.length co54], .agg #[.slice Ao29 t258.length co29, .slice Ao32 t261.length co32, .slice Ao33 t264.length co33]] rfl (by (try simp only [lM, lC, lN]);first|done|rfl|(simp only [lD, lT];rfl)) ?_;(with_reducible refine (laws_eqSigs.calls k _ _ t282 _ _ t285 _ _ t288 _ _ t258 _ _ t261 _ _ t264 true _ ?side1 ?side2 ?side3 ?side4 ?side5 ?side6 ?side7 ?side8 ?side9 ?side10 ?side11 ?side12 A55.out).mono ?_);(case side1 => refine (Kd.R_reads' (e := 4) (base := w.heap.size) (ok := fun k_ => ((((((((some k_ ≠ (.slice Ao53 t285.length co53 : Value).ownBlock ∧ some k_ ≠ (.slice Ao23 t246.length co23 : Value).ownBlock) ∧ some k_ ≠ (.slice Ao24 t249.length co24 : Value).ownBlock) ∧ some k_ ≠ (.slice Ao26 t255.length co26 : Value).ownBlock) ∧ some k_ ≠ (.slice Ao29 t258.length co29 : Value).ownBlock) ∧ some k_ ≠ (.slice Ao32 t261.length co32 : Value).ownBlock) ∧ some k_ ≠ (.slice Ao37 t269.length co37 : Value).ownBlock) ∧ some k_ ≠ (.slice Ao41 t272.length co41 : Value).ownBlock) ∧ some k_ ≠ (.slice Ao45 t279.length co45 : Value).ownBlock)) (n := t282.length) (c := co48) ?_).2.2;exact (by (with_reducible repeat (first|apply rA|apply rN|apply rD));exact (rM (rF (p := ⟨Ba, 2, none⟩) (rF (p := ⟨Ba, 1, none⟩) (rF (p := ⟨Ba, 0, none⟩) (rT BW.out Bb.out (by decide)) (fun _ hk => hk.2) (.slice Ao48 t282.length co48)) (fun _ hk => hk.2) (.slice Ao53 t285.length co53)) (fun _ hk => hk.2) (.slice Ao54 t288.length co54)) (fun _ h_ => h_.1))));(case side2 => exact (Kd.R_reads' BW.out).2.1);(case side3 => refine (Kd.R_reads' (e := 4) (base := w.heap.size) (ok := fun k_ => ((((((((some k_ ≠ (.slice Ao48 t282.length co48 : Value).ownBlock ∧ some k_ ≠ (.slice Ao23 t246.length co23 : Value).ownBlock) ∧ some k_ ≠ (.slice Ao24 t249.length co24 : Value).ownBlock) ∧ some k_ ≠ (.slice Ao26 t255.length co26 : Value).ownBlock) ∧ some k_ ≠ (.slice Ao29 t258.length co29 : Value).ownBlock) ∧ some k_ ≠ (.slice Ao32 t261.length co32 : Value).ownBlock) ∧ some k_ ≠ (.slice Ao37 t269.length co37 : Value).ownBlock) ∧ some k_ ≠ (.slice Ao41 t272.length co41 : Value).ownBlock) ∧ some k_ ≠ (.slice Ao45 t279.length co45 : Value).ownBlock)) (n := t285.length) (c := co53) ?_).2.2;exact (by (with_reducible repeat (first|apply rA|apply rN|apply rD));exact (rM (rF (p := ⟨Ba, 2, none⟩) (rF (p := ⟨Ba, 1, none⟩) (rF (p := ⟨Ba, 0, none⟩) (rT BX.out Bb.out (by decide)) (fun _ hk => hk.2) (.slice Ao48 t282.length co48)) (fun _ hk => hk.2) (.slice Ao53 t285.length co53)) (fun _ hk => hk.2) (.slice Ao54 t288.length co54)) (fun _ h_ => h_.1))));(case side4 => exact (Kd.R_reads' BX.out).2.1);(case side5 => refine (Kd.R_reads' (e := 3) (base := w.heap.size) (ok := fun k_ => (((True ∧ some k_ ≠ (.slice Ao25 t252.length co25 : Value).ownBlock) ∧ some k_ ≠ (.slice Ao33 t264.length co33 : Value).ownBlock) ∧ some k_ ≠ (.slice Ao42 t275.length co42 : Value).ownBlock)) (n := t288.length) (c := co54) ?_).2.2;exact (by (with_reducible repeat (first|apply rA|apply rN|apply rD));exact (rM (rF (p := ⟨Ba, 2, none⟩) (rF (p := ⟨Ba, 1, none⟩) (rF (p := ⟨Ba, 0, none⟩) (rT BY.out Bb.out (by decide)) (fun _ hk => hk.2) (.slice Ao48 t282.length co48)) (fun _ hk => hk.2) (.slice Ao53 t285.length co53)) (fun _ hk => hk.2) (.slice Ao54 t288.length co54)) (fun _ h_ => h_.1))));(case side6 => exact (Kd.R_reads' BY.out).2.1);(case side7 => refine (Kd.R_reads' (e := 4) (base := w.heap.size) (ok := fun k_ => ((((((((some k_ ≠ (.slice Ao32 t261.length co32 : Value).ownBlock ∧ some k_ ≠ (.slice Ao23 t246.length co23 : Value).ownBlock) ∧ some k_ ≠ (.slice Ao24 t249.length co24 : Value).ownBlock) ∧ some k_ ≠ (.slice Ao26 t255.length co26 : Value).ownBlock) ∧ some k_ ≠ (.slice Ao37 t269.length co37 : Value).ownBlock) ∧ some k_ ≠ (.slice Ao41 t272.length co41 : Value).ownBlock) ∧ some k_ ≠ (.slice Ao45 t279.length co45 : Value).ownBlock) ∧ some k_ ≠ (.slice Ao48 t282.length co48 : Value).ownBlock) ∧ some k_ ≠ (.slice Ao53 t285.length co53 : Value).ownBlock)) (n := t258.length) (c := co29) ?_).2.2;exact (by (with_reducible repeat (first|apply rA|apply rN|apply rD));exact (rM (rF (p := ⟨Ba, 2, none⟩) (rF (p := ⟨Ba, 1, none⟩) (rF (p := ⟨Ba, 0, none⟩) (rT BB.out Bb.out (by decide)) (fun _ hk => hk.2) (.slice Ao48 t282.length co48)) (fun _ hk => hk.2) (.slice Ao53 t285.length co53)) (fun _ hk => hk.2) (.slice Ao54 t288.length co54)) (fun _ h_ => h_.1))));(case side8 => exact (Kd.R_reads' BB.out).2.1);(case side9 => refine (Kd.R_reads' (e := 4) (base := w.heap.size) (ok := fun k_ => ((((((((some k_ ≠ (.slice Ao29 t258.length co29 : Value).ownBlock ∧ some k_ ≠ (.slice Ao23 t246.length co23 : Value).ownBlock) ∧ some k_ ≠ (.slice Ao24 t249.length co24 : Value).ownBlock) ∧ some k_ ≠ (.slice Ao26 t255.length co26 : Value).ownBlock) ∧ some k_ ≠ (.slice Ao37 t269.length co37 : Value).ownBlock) ∧ some k_ ≠ (.slice Ao41 t272.length co41 : Value).ownBlock) ∧ some k_ ≠ (.slice Ao45 t279.length co45 : Value).ownBlock) ∧ some k_ ≠ (.slice Ao48 t282.length co48 : Value).ownBlock) ∧ some k_ ≠ (.slice Ao53 t285.length co53 : Value).ownBlock)) (n := t261.length) (c := co32) ?_).2.2;exact (by (with_reducible repeat (first|apply rA|apply rN|apply rD));exact (rM (rF (p := ⟨Ba, 2, none⟩) (rF (p := ⟨Ba, 1, none⟩) (rF (p := ⟨Ba, 0, none⟩) (rT BC.out Bb.out (by decide)) (fun _ hk => hk.2) (.slice Ao48 t282.length co48)) (fun _ hk => hk.2) (.slice Ao53 t285.length co53)) (fun _ hk => hk.2) (.slice Ao54 t288.length co54)) (fun _ h_ => h_.1))));(case side10 => exact (Kd.R_reads' BC.out).2.1);(case side11 => refine (Kd.R_reads' (e := 3) (base := w.heap.size) (ok := fun k_ => (((True ∧ some k_ ≠ (.slice Ao25 t252.length co25 : Value).ownBlock) ∧ some k_ ≠ (.slice Ao42 t275.length co42 : Value).ownBlock) ∧ some k_ ≠ (.slice Ao54 t288.length co54 : Value).ownBlock)) (n := t264.length) (c := co33) ?_).2.2;exact (by (with_reducible repeat (first|apply rA|apply rN|apply rD));exact (rM (rF (p := ⟨Ba, 2, none⟩) (rF (p := ⟨Ba, 1, none⟩) (rF (p := ⟨Ba, 0, none⟩) (rT BD.out Bb.out (by decide)) (fun _ hk => hk.2) (.slice Ao48 t282.length co48)) (fun _ hk => hk.2) (.slice Ao53 t285.length co53)) (fun _ hk => hk.2) (.slice Ao54 t288.length co54)) (fun _ h_ => h_.1))));(case side12 => exact (Kd.R_reads' BD.out).2.1);rintro e w64 ⟨rfl, hb⟩;refine ⟨_, rfl, ?_⟩;have n0_ := Am (rB (by (with_reducible repeat (first|apply rA|apply rN|apply rD));exact (rM (rF (p := ⟨Ba, 2, none⟩) (rF (p := ⟨Ba, 1, none⟩) (rF (p := ⟨Ba, 0, none⟩) (rT Bw.out Bb.out (by decide)) (fun _ hk => hk.2) (.slice Ao48 t282.length co48)) (fun _ hk => hk.2) (.slice Ao53 t285.length co53)) (fun _ hk => hk.2) (.slice Ao54 t288.length co54)) (fun _ h_ => h_.1))) hb);have n1_ := Am (rB (by (with_reducible repeat (first|apply rA|apply rN|apply rD));exact (rM (rF (p := ⟨Ba, 2, none⟩) (rF (p := ⟨Ba, 1, none⟩) (rF (p := ⟨Ba, 0, none⟩) (rT Bx.out Bb.out (by decide)) (fun _ hk => hk.2) (.slice Ao48 t282.length co48)) (fun _ hk => hk.2) (.slice Ao53 t285.length co53)) (fun _ hk => hk.2) (.slice Ao54 t288.length co54)) (fun _ h_ => h_.1))) hb);have n2_ := Am (rB (by (with_reducible repeat (first|apply rA|apply rN|apply rD));exact (rM (rF (p := ⟨Ba, 2, none⟩) (rF (p := ⟨Ba, 1, none⟩) (rF (p := ⟨Ba, 0, none⟩) (rT BA.out Bb.out (by decide)) (fun _ hk => hk.2) (.slice Ao48 t282.length co48)) (fun _ hk => hk.2) (.slice Ao53 t285.length co53)) (fun _ hk => hk.2) (.slice Ao54 t288.length co54)) (fun _ h_ => h_.1))) hb);have n3_ := Am (rB (by (with_reducible repeat (first|apply rA|apply rN|apply rD));exact (rM (rF (p := ⟨Ba, 2, none⟩) (rF (p := ⟨Ba, 1, none⟩) (rF (p := ⟨Ba, 0, none⟩) (rT Bz.out Bb.out (by decide)) (fun _ hk => hk.2) (.slice Ao48 t282.length co48)) (fun _ hk => hk.2) (.slice Ao53 t285.length co53)) (fun _ hk => hk.2) (.slice Ao54 t288.length co54)) (fun _ h_ => h_.1))) hb);have n4_ := Am (rB (by (with_reducible repeat (first|apply rA|apply rN|apply rD));exact (rM (rF (p := ⟨Ba, 2, none⟩) (rF (p := ⟨Ba, 1, none⟩) (rF (p := ⟨Ba, 0, none⟩) (rT BB.out Bb.out (by decide)) (fun _ hk => hk.2) (.slice Ao48 t282.length co48)) (fun _ hk => hk.2) (.slice Ao53 t285.length co53)) (fun _ hk => hk.2) (.slice Ao54 t288.length co54)) (fun _ h_ => h_.1))) hb);have n5_ := Am (rB (by (with_reducible repeat (first|apply rA|apply rN|apply rD));exact (rM (rF (p := ⟨Ba, 2, none⟩) (rF (p := ⟨Ba, 1, none⟩) (rF (p := ⟨Ba, 0, none⟩) (rT BC.out Bb.out (by decide)) (fun _ hk => hk.2) (.slice Ao48 t282.length co48)) (fun _ hk => hk.2) (.slice Ao53 t285.length co53)) (fun _ hk => hk.2) (.slice Ao54 t288.length co54)) (fun _ h_ => h_.1))) hb);have n6_ := Am (rB (by (with_reducible repeat (first|apply rA|apply rN|apply rD));exact (rM (rF (p := ⟨Ba, 2, none⟩) (rF (p := ⟨Ba, 1, none⟩) (rF (p := ⟨Ba, 0, none⟩) (rT BD.out Bb.out (by decide)) (fun _ hk => hk.2) (.slice Ao48 t282.length co48)) (fun _ hk => hk.2) (.slice Ao53 t285.length co53)) (fun _ hk => hk.2) (.slice Ao54 t288.length co54)) (fun _ h_ => h_.1))) hb);have n7_ := Am (rB (by (with_reducible repeat (first|apply rA|apply rN|apply rD));exact (rM (rF (p := ⟨Ba, 2, none⟩) (rF (p := ⟨Ba, 1, none⟩) (rF (p := ⟨Ba, 0, none⟩) (rT BF.out Bb.out (by decide)) (fun _ hk => hk.2) (.slice Ao48 t282.length co48)) (fun _ hk => hk.2) (.slice Ao53 t285.length co53)) (fun _ hk => hk.2) (.slice Ao54 t288.length co54)) (fun _ h_ => h_.1))) hb);have n8_ := Am (rB (by (with_reducible repeat (first|apply rA|apply rN|apply rD));exact (rM (rF (p := ⟨Ba, 2, none⟩) (rF (p := ⟨Ba, 1, none⟩) (rF (p := ⟨Ba, 0, none⟩) (rT BG.out Bb.out (by decide)) (fun _ hk => hk.2) (.slice Ao48 t282.length co48)) (fun _ hk => hk.2) (.slice Ao53 t285.length co53)) (fun _ hk => hk.2) (.slice Ao54 t288.length co54)) (fun _ h_ => h_.1))) hb);have n9_ := Am (rB (by (with_reducible repeat (first|apply rA|apply rN|apply rD));exact (rM (rF (p := ⟨Ba, 2, none⟩) (rF (p := ⟨Ba, 1, none⟩) (rF (p := ⟨Ba, 0, none⟩) (rT BH.out Bb.out (by decide)) (fun _ hk => hk.2) (.slice Ao48 t282.length co48)) (fun _ hk => hk.2) (.slice Ao53 t285.length co53)) (fun _ hk => hk.2) (.slice Ao54 t288.length co54)) (fun _ h_ => h_.1))) hb);have n10_ := Am (rB (by (with_reducible repeat (first|apply rA|apply rN|apply rD));exact (rM (rF (p := ⟨Ba, 2, none⟩) (rF (p := ⟨Ba, 1, none⟩) (rF (p := ⟨Ba, 0, none⟩) (rT BO.out Bb.out (by decide)) (fun _ hk => hk.2) (.slice Ao48 t282.length co48)) (fun _ hk => hk.2) (.slice Ao53 t285.length co53)) (fun _ hk => hk.2) (.slice Ao54 t288.length co54)) (fun _ h_ => h_.1))) hb);have n11_ := Am (rB (by (with_reducible repeat (first|apply rA|apply rN|apply rD));exact (rM (rF (p := ⟨Ba, 2, none⟩) (rF (p := ⟨Ba, 1, none⟩) (rF (p := ⟨Ba, 0, none⟩) (rT BW.out Bb.out (by decide)) (fun _ hk => hk.2) (.slice Ao48 t282.length co48)) (fun _ hk => hk.2) (.slice Ao53 t285.length co53)) (fun _ hk => hk.2) (.slice Ao54 t288.length co54)) (fun _ h_ => h_.1))) hb);have n12_ := Am (rB (by (with_reducible repeat (first|apply rA|apply rN|apply rD));exact (rM (rF (p := ⟨Ba, 2, none⟩) (rF (p := ⟨Ba, 1, none⟩) (rF (p := ⟨Ba, 0, none⟩) (rT BX.out Bb.out (by decide)) (fun _ hk => hk.2) (.slice Ao48 t282.length co48)) (fun _ hk => hk.2) (.slice Ao53 t285.length co53)) (fun _ hk => hk.2) (.slice Ao54 t288.length co54)) (fun _ h_ => h_.1))) hb);have n13_ := Am (rB (by (with_reducible repeat (first|apply rA|apply rN|apply rD));exact (rM (rF (p := ⟨Ba, 2, none⟩) (rF (p := ⟨Ba, 1, none⟩) (rF (p := ⟨Ba, 0, none⟩) (rT BY.out Bb.out (by decide)) (fun _ hk => hk.2) (.slice Ao48 t282.length co48)) (fun _ hk => hk.2) (.slice Ao53 t285.length co53)) (fun _ hk => hk.2) (.slice Ao54 t288.length co54)) (fun _ h_ => h_.1))) hb);have n14_ := Am (bB (g := Bt) (o := .cells #[.slice A0_0 l0_0.length c0_0, .slice A0_1 l0_1.length c0_1, .slice A0_2 l0_2.length c0_2] 25 (0, 0)) (by (with_reducible repeat (first|refine bN ?_ _|refine bD ?_|refine bA ?_ _|refine blk_far ?_ BT.out _));exact Be.out) hb);have n15_ := Am (bB (g := Bp) (o := .cells #[.slice Ao29 t258.length co29, .slice Ao32 t261.length co32, .slice Ao33 t264.length co33] 27 (0, 0)) (by (with_reducible repeat (first|refine bN ?_ _|refine bD ?_|refine bA ?_ _|refine blk_far ?_ BN.out _));exact Bf.out) hb);have n16_ := Am (bB (g := Bq) (o := .cells #[.slice Ao37 t269.length co37, .slice Ao41 t272.length co41, .slice Ao42 t275.length co42] 27 (0, 0)) (by (with_reducible repeat (first|refine bN ?_ _|refine bD ?_|refine bA ?_ _|refine blk_far ?_ BQ.out _));exact Bn.out) hb);have n17_ := Am (bB (g := Ba) (o := .cells #[.slice Ao48 t282.length co48, .slice Ao53 t285.length co53, .slice Ao54 t288.length co54] 27 (0, 0)) (by (with_reducible repeat (first|refine bN ?_ _|refine bD ?_|refine bA ?_ _));refine blk_put (cs := #[.slice Ao48 t282.length co48, .slice Ao53 t285.length co53, .slice none 0 0]) ?_ 2 _ rfl;(with_reducible repeat (first|refine bN ?_ _|refine bD ?_|refine bA ?_ _));refine blk_put (cs := #[.slice Ao48 t282.length co48, .slice none 0 0, .slice none 0 0]) ?_ 1 _ rfl;(with_reducible repeat (first|refine bN ?_ _|refine bD ?_|refine bA ?_ _));refine blk_put (cs := #[.slice none 0 0, .slice none 0 0, .slice none 0 0]) ?_ 0 _ rfl;(with_reducible repeat (first|refine bN ?_ _|refine bD ?_|refine bA ?_ _));exact Bb.out) hb);have n18_ := Am (bP (by repeat (first|(with_reducible first|exact HB.out|apply oA|apply pN|apply o1|refine bS ?_ Br.out|refine bS ?_ Bu.out|refine bS ?_ Bv.out|refine bS ?_ By.out)|exact HB.out)) hb);clear Bw Bx BA Bz BB BC BD BF BG BH BO BW BX BY Be Bf Bn Bb HB;revert n0_ n1_ n2_ n3_ n4_ n5_ n6_ n7_ n8_ n9_ n10_ n11_ n12_ n13_ n14_ n15_ n16_ n17_ n18_;intro Bw Bx BA Bz BB BC BD BF BG BH BO BW BX BY Be Bf Bn Bb HB;(try clear hb);(try clear hb2);(try clear hk);(try clear hi)))
   go_meet
   case rel => exact ⟨_, ((t291 != t267)), (by first|rfl|(simp;done)|(simp [*];done)), H', ⟨by first|omega|exact Nat.le_refl _⟩, ⟨by (with_reducible repeat (first|apply rA|apply rN|apply rD));exact rM BO.out (fun _ hk => ⟨hk.1.1.1.1.1.2, ⟨hk.1.1.1.1.2, ⟨hk.1.1.1.2, ⟨hk.1.1.2, ⟨hk.1.2, hk.2⟩⟩⟩⟩⟩)⟩, ⟨by (with_reducible repeat (first|apply rA|apply rN|apply rD));exact rM BB.out (fun _ hk => ⟨hk.1.1.2, ⟨hk.1.1.1.1.1.1.1.1, ⟨hk.1.1.1.1.2, ⟨hk.1.1.1.2, ⟨hk.1.2, hk.2⟩⟩⟩⟩⟩)⟩, ⟨by (with_reducible repeat (first|apply rA|apply rN|apply rD));exact rM BC.out (fun _ hk => ⟨hk.1.1.2, ⟨hk.1.1.1.1.1.1.1.1, ⟨hk.1.1.1.1.2, ⟨hk.1.1.1.2, ⟨hk.1.2, hk.2⟩⟩⟩⟩⟩)⟩, ⟨by (with_reducible repeat (first|apply rA|apply rN|apply rD));exact rM BD.out (fun _ hk => ⟨hk.1.2, hk.2⟩)⟩, ⟨by (with_reducible repeat (first|apply rA|apply rN|apply rD));exact rM BF.out (fun _ hk => ⟨hk.1.1.2, ⟨hk.1.1.1.1.2, ⟨hk.1.1.1.2, ⟨hk.1.1.1.1.1.1.1.1, ⟨hk.1.2, hk.2⟩⟩⟩⟩⟩)⟩, ⟨by (with_reducible repeat (first|apply rA|apply rN|apply rD));exact rM BG.out (fun _ hk => ⟨hk.1.1.2, ⟨hk.1.1.1.1.2, ⟨hk.1.1.1.2, ⟨hk.1.1.1.1.1.1.1.1, ⟨hk.1.2, hk.2⟩⟩⟩⟩⟩)⟩, ⟨by (with_reducible repeat (first|apply rA|apply rN|apply rD));exact rM BH.out (fun _ hk => ⟨hk.1.2, hk.2⟩)⟩, ⟨by (with_reducible repeat (first|apply rA|apply rN|apply rD));exact rM BW.out (fun _ hk => ⟨hk.2, ⟨hk.1.1.1.1.2, ⟨hk.1.1.1.2, ⟨hk.1.1.2, ⟨hk.1.2, hk.1.1.1.1.1.1.1.1⟩⟩⟩⟩⟩)⟩, ⟨by (with_reducible repeat (first|apply rA|apply rN|apply rD));exact rM BX.out (fun _ hk => ⟨hk.2, ⟨hk.1.1.1.1.2, ⟨hk.1.1.1.2, ⟨hk.1.1.2, ⟨hk.1.2, hk.1.1.1.1.1.1.1.1⟩⟩⟩⟩⟩)⟩, ⟨by (with_reducible repeat (first|apply rA|apply rN|apply rD));exact rM BY.out (fun _ hk => ⟨hk.1.2, hk.2⟩)⟩, ⟨by (with_reducible repeat (first|refine bN ?_ _|refine bD ?_|refine bA ?_ _));exact Be.out⟩, ⟨by (with_reducible repeat (first|refine bN ?_ _|refine bD ?_|refine bA ?_ _));exact Bf.out⟩, ⟨by (with_reducible repeat (first|refine bN ?_ _|refine bD ?_|refine bA ?_ _));exact Bn.out⟩, ⟨by (with_reducible repeat (first|refine bN ?_ _|refine bD ?_|refine bA ?_ _));exact Bb.out⟩, ⟨by repeat (first|(with_reducible first|exact HB.out|apply oA|apply pN|apply o1|refine bS ?_ Br.out|refine bS ?_ Bu.out|refine bS ?_ Bv.out|refine bS ?_ By.out)|exact HB.out)⟩⟩
  replace c56 := Bool.eq_false_iff.mpr c56
  subst c56
  have H1 : (laws_FnExactSigsBlock.j0 k l1 t267 t279 t291 true l0_0 l0_1 l0_2 t258 t261 t264 t269 t272 t275 t282 t285 t288) = some r := by rw [if_neg (show ¬ (false = true) by decide)] at H;exact H
  clear H
  have H := H1
  clear H1
  have H' := Am H
  clear H
  have Mw := B6.out
  have Mx := BT.out
  have My := BU.out
  have Mz := BN.out
  have MA := B4.out
  have MB := BQ.out
  have Fd : w47.cell? ⟨Ba, 0, none⟩ = some (.slice none 0 0) := (bC Bb.out 0).trans rfl
  have Fe : w47.cell? ⟨Ba, 1, none⟩ = some (.slice none 0 0) := (bC Bb.out 1).trans rfl
  have Ff : w47.cell? ⟨Ba, 2, none⟩ = some (.slice none 0 0) := (bC Bb.out 2).trans rfl
  have Fg := bF Bb.out 0
  have Fh := bF Bb.out 1
  have Fi := bF Bb.out 2
  have MC := B2.out
  have MD := BR.out
  have ME := BS.out
  have MF := B3.out
  have Fj : w47.cell? ⟨Bp, 0, none⟩ = some (.slice Ao29 t258.length co29) := (bC Bf.out 0).trans rfl
  have Fk : w47.cell? ⟨Bp, 1, none⟩ = some (.slice Ao32 t261.length co32) := (bC Bf.out 1).trans rfl
  have Fl : w47.cell? ⟨Bp, 2, none⟩ = some (.slice Ao33 t264.length co33) := (bC Bf.out 2).trans rfl
  have Fm := bF Bf.out 0
  have Fn := bF Bf.out 1
  have Fo := bF Bf.out 2
  go_wp2_with (first|((with_reducible refine gate_callee (f := 17) rfl ?_);refine goesL_ (some 45) rfl rfl Try.func17 (by kernel_rfl) rfl #[.agg #[.slice Ao48 t282.length co48, .slice Ao53 t285.length co53, .slice Ao54 t288.length co54], .agg #[.slice Ao29 t258.length co29, .slice Ao32 t261.length co32, .slice Ao33 t264.length co33]] rfl (by (try simp only [lM, lC, lN]);first|done|rfl|(simp only [lD, lT];rfl)) ?_;(with_reducible refine (laws_eqSigs.calls k _ _ t282 _ _ t285 _ _ t288 _ _ t258 _ _ t261 _ _ t264 false _ ?side1 ?side2 ?side3 ?side4 ?side5 ?side6 ?side7 ?side8 ?side9 ?side10 ?side11 ?side12 A55.out).mono ?_);(case side1 => refine (Kd.R_reads' (e := 4) (base := w.heap.size) (ok := fun k_ => ((((((((some k_ ≠ (.slice Ao53 t285.length co53 : Value).ownBlock ∧ some k_ ≠ (.slice Ao23 t246.length co23 : Value).ownBlock) ∧ some k_ ≠ (.slice Ao24 t249.length co24 : Value).ownBlock) ∧ some k_ ≠ (.slice Ao26 t255.length co26 : Value).ownBlock) ∧ some k_ ≠ (.slice Ao29 t258.length co29 : Value).ownBlock) ∧ some k_ ≠ (.slice Ao32 t261.length co32 : Value).ownBlock) ∧ some k_ ≠ (.slice Ao37 t269.length co37 : Value).ownBlock) ∧ some k_ ≠ (.slice Ao41 t272.length co41 : Value).ownBlock) ∧ some k_ ≠ (.slice Ao45 t279.length co45 : Value).ownBlock)) (n := t282.length) (c := co48) ?_).2.2;exact (by (with_reducible repeat (first|apply rA|apply rN|apply rD));exact (rM (rF (p := ⟨Ba, 2, none⟩) (rF (p := ⟨Ba, 1, none⟩) (rF (p := ⟨Ba, 0, none⟩) (rT BW.out Bb.out (by decide)) (fun _ hk => hk.2) (.slice Ao48 t282.length co48)) (fun _ hk => hk.2) (.slice Ao53 t285.length co53)) (fun _ hk => hk.2) (.slice Ao54 t288.length co54)) (fun _ h_ => h_.1))));(case side2 => exact (Kd.R_reads' BW.out).2.1);(case side3 => refine (Kd.R_reads' (e := 4) (base := w.heap.size) (ok := fun k_ => ((((((((some k_ ≠ (.slice Ao48 t282.length co48 : Value).ownBlock ∧ some k_ ≠ (.slice Ao23 t246.length co23 : Value).ownBlock) ∧ some k_ ≠ (.slice Ao24 t249.length co24 : Value).ownBlock) ∧ some k_ ≠ (.slice Ao26 t255.length co26 : Value).ownBlock) ∧ some k_ ≠ (.slice Ao29 t258.length co29 : Value).ownBlock) ∧ some k_ ≠ (.slice Ao32 t261.length co32 : Value).ownBlock) ∧ some k_ ≠ (.slice Ao37 t269.length co37 : Value).ownBlock) ∧ some k_ ≠ (.slice Ao41 t272.length co41 : Value).ownBlock) ∧ some k_ ≠ (.slice Ao45 t279.length co45 : Value).ownBlock)) (n := t285.length) (c := co53) ?_).2.2;exact (by (with_reducible repeat (first|apply rA|apply rN|apply rD));exact (rM (rF (p := ⟨Ba, 2, none⟩) (rF (p := ⟨Ba, 1, none⟩) (rF (p := ⟨Ba, 0, none⟩) (rT BX.out Bb.out (by decide)) (fun _ hk => hk.2) (.slice Ao48 t282.length co48)) (fun _ hk => hk.2) (.slice Ao53 t285.length co53)) (fun _ hk => hk.2) (.slice Ao54 t288.length co54)) (fun _ h_ => h_.1))));(case side4 => exact (Kd.R_reads' BX.out).2.1);(case side5 => refine (Kd.R_reads' (e := 3) (base := w.heap.size) (ok := fun k_ => (((True ∧ some k_ ≠ (.slice Ao25 t252.length co25 : Value).ownBlock) ∧ some k_ ≠ (.slice Ao33 t264.length co33 : Value).ownBlock) ∧ some k_ ≠ (.slice Ao42 t275.length co42 : Value).ownBlock)) (n := t288.length) (c := co54) ?_).2.2;exact (by (with_reducible repeat (first|apply rA|apply rN|apply rD));exact (rM (rF (p := ⟨Ba, 2, none⟩) (rF (p := ⟨Ba, 1, none⟩) (rF (p := ⟨Ba, 0, none⟩) (rT BY.out Bb.out (by decide)) (fun _ hk => hk.2) (.slice Ao48 t282.length co48)) (fun _ hk => hk.2) (.slice Ao53 t285.length co53)) (fun _ hk => hk.2) (.slice Ao54 t288.length co54)) (fun _ h_ => h_.1))));(case side6 => exact (Kd.R_reads' BY.out).2.1);(case side7 => refine (Kd.R_reads' (e := 4) (base := w.heap.size) (ok := fun k_ => ((((((((some k_ ≠ (.slice Ao32 t261.length co32 : Value).ownBlock ∧ some k_ ≠ (.slice Ao23 t246.length co23 : Value).ownBlock) ∧ some k_ ≠ (.slice Ao24 t249.length co24 : Value).ownBlock) ∧ some k_ ≠ (.slice Ao26 t255.length co26 : Value).ownBlock) ∧ some k_ ≠ (.slice Ao37 t269.length co37 : Value).ownBlock) ∧ some k_ ≠ (.slice Ao41 t272.length co41 : Value).ownBlock) ∧ some k_ ≠ (.slice Ao45 t279.length co45 : Value).ownBlock) ∧ some k_ ≠ (.slice Ao48 t282.length co48 : Value).ownBlock) ∧ some k_ ≠ (.slice Ao53 t285.length co53 : Value).ownBlock)) (n := t258.length) (c := co29) ?_).2.2;exact (by (with_reducible repeat (first|apply rA|apply rN|apply rD));exact (rM (rF (p := ⟨Ba, 2, none⟩) (rF (p := ⟨Ba, 1, none⟩) (rF (p := ⟨Ba, 0, none⟩) (rT BB.out Bb.out (by decide)) (fun _ hk => hk.2) (.slice Ao48 t282.length co48)) (fun _ hk => hk.2) (.slice Ao53 t285.length co53)) (fun _ hk => hk.2) (.slice Ao54 t288.length co54)) (fun _ h_ => h_.1))));(case side8 => exact (Kd.R_reads' BB.out).2.1);(case side9 => refine (Kd.R_reads' (e := 4) (base := w.heap.size) (ok := fun k_ => ((((((((some k_ ≠ (.slice Ao29 t258.length co29 : Value).ownBlock ∧ some k_ ≠ (.slice Ao23 t246.length co23 : Value).ownBlock) ∧ some k_ ≠ (.slice Ao24 t249.length co24 : Value).ownBlock) ∧ some k_ ≠ (.slice Ao26 t255.length co26 : Value).ownBlock) ∧ some k_ ≠ (.slice Ao37 t269.length co37 : Value).ownBlock) ∧ some k_ ≠ (.slice Ao41 t272.length co41 : Value).ownBlock) ∧ some k_ ≠ (.slice Ao45 t279.length co45 : Value).ownBlock) ∧ some k_ ≠ (.slice Ao48 t282.length co48 : Value).ownBlock) ∧ some k_ ≠ (.slice Ao53 t285.length co53 : Value).ownBlock)) (n := t261.length) (c := co32) ?_).2.2;exact (by (with_reducible repeat (first|apply rA|apply rN|apply rD));exact (rM (rF (p := ⟨Ba, 2, none⟩) (rF (p := ⟨Ba, 1, none⟩) (rF (p := ⟨Ba, 0, none⟩) (rT BC.out Bb.out (by decide)) (fun _ hk => hk.2) (.slice Ao48 t282.length co48)) (fun _ hk => hk.2) (.slice Ao53 t285.length co53)) (fun _ hk => hk.2) (.slice Ao54 t288.length co54)) (fun _ h_ => h_.1))));(case side10 => exact (Kd.R_reads' BC.out).2.1);(case side11 => refine (Kd.R_reads' (e := 3) (base := w.heap.size) (ok := fun k_ => (((True ∧ some k_ ≠ (.slice Ao25 t252.length co25 : Value).ownBlock) ∧ some k_ ≠ (.slice Ao42 t275.length co42 : Value).ownBlock) ∧ some k_ ≠ (.slice Ao54 t288.length co54 : Value).ownBlock)) (n := t264.length) (c := co33) ?_).2.2;exact (by (with_reducible repeat (first|apply rA|apply rN|apply rD));exact (rM (rF (p := ⟨Ba, 2, none⟩) (rF (p := ⟨Ba, 1, none⟩) (rF (p := ⟨Ba, 0, none⟩) (rT BD.out Bb.out (by decide)) (fun _ hk => hk.2) (.slice Ao48 t282.length co48)) (fun _ hk => hk.2) (.slice Ao53 t285.length co53)) (fun _ hk => hk.2) (.slice Ao54 t288.length co54)) (fun _ h_ => h_.1))));(case side12 => exact (Kd.R_reads' BD.out).2.1);rintro e w72 ⟨rfl, hb⟩;refine ⟨_, rfl, ?_⟩;have n0_ := Am (rB (by (with_reducible repeat (first|apply rA|apply rN|apply rD));exact (rM (rF (p := ⟨Ba, 2, none⟩) (rF (p := ⟨Ba, 1, none⟩) (rF (p := ⟨Ba, 0, none⟩) (rT Bw.out Bb.out (by decide)) (fun _ hk => hk.2) (.slice Ao48 t282.length co48)) (fun _ hk => hk.2) (.slice Ao53 t285.length co53)) (fun _ hk => hk.2) (.slice Ao54 t288.length co54)) (fun _ h_ => h_.1))) hb);have n1_ := Am (rB (by (with_reducible repeat (first|apply rA|apply rN|apply rD));exact (rM (rF (p := ⟨Ba, 2, none⟩) (rF (p := ⟨Ba, 1, none⟩) (rF (p := ⟨Ba, 0, none⟩) (rT Bx.out Bb.out (by decide)) (fun _ hk => hk.2) (.slice Ao48 t282.length co48)) (fun _ hk => hk.2) (.slice Ao53 t285.length co53)) (fun _ hk => hk.2) (.slice Ao54 t288.length co54)) (fun _ h_ => h_.1))) hb);have n2_ := Am (rB (by (with_reducible repeat (first|apply rA|apply rN|apply rD));exact (rM (rF (p := ⟨Ba, 2, none⟩) (rF (p := ⟨Ba, 1, none⟩) (rF (p := ⟨Ba, 0, none⟩) (rT BA.out Bb.out (by decide)) (fun _ hk => hk.2) (.slice Ao48 t282.length co48)) (fun _ hk => hk.2) (.slice Ao53 t285.length co53)) (fun _ hk => hk.2) (.slice Ao54 t288.length co54)) (fun _ h_ => h_.1))) hb);have n3_ := Am (rB (by (with_reducible repeat (first|apply rA|apply rN|apply rD));exact (rM (rF (p := ⟨Ba, 2, none⟩) (rF (p := ⟨Ba, 1, none⟩) (rF (p := ⟨Ba, 0, none⟩) (rT Bz.out Bb.out (by decide)) (fun _ hk => hk.2) (.slice Ao48 t282.length co48)) (fun _ hk => hk.2) (.slice Ao53 t285.length co53)) (fun _ hk => hk.2) (.slice Ao54 t288.length co54)) (fun _ h_ => h_.1))) hb);have n4_ := Am (rB (by (with_reducible repeat (first|apply rA|apply rN|apply rD));exact (rM (rF (p := ⟨Ba, 2, none⟩) (rF (p := ⟨Ba, 1, none⟩) (rF (p := ⟨Ba, 0, none⟩) (rT BB.out Bb.out (by decide)) (fun _ hk => hk.2) (.slice Ao48 t282.length co48)) (fun _ hk => hk.2) (.slice Ao53 t285.length co53)) (fun _ hk => hk.2) (.slice Ao54 t288.length co54)) (fun _ h_ => h_.1))) hb);have n5_ := Am (rB (by (with_reducible repeat (first|apply rA|apply rN|apply rD));exact (rM (rF (p := ⟨Ba, 2, none⟩) (rF (p := ⟨Ba, 1, none⟩) (rF (p := ⟨Ba, 0, none⟩) (rT BC.out Bb.out (by decide)) (fun _ hk => hk.2) (.slice Ao48 t282.length co48)) (fun _ hk => hk.2) (.slice Ao53 t285.length co53)) (fun _ hk => hk.2) (.slice Ao54 t288.length co54)) (fun _ h_ => h_.1))) hb);have n6_ := Am (rB (by (with_reducible repeat (first|apply rA|apply rN|apply rD));exact (rM (rF (p := ⟨Ba, 2, none⟩) (rF (p := ⟨Ba, 1, none⟩) (rF (p := ⟨Ba, 0, none⟩) (rT BD.out Bb.out (by decide)) (fun _ hk => hk.2) (.slice Ao48 t282.length co48)) (fun _ hk => hk.2) (.slice Ao53 t285.length co53)) (fun _ hk => hk.2) (.slice Ao54 t288.length co54)) (fun _ h_ => h_.1))) hb);have n7_ := Am (rB (by (with_reducible repeat (first|apply rA|apply rN|apply rD));exact (rM (rF (p := ⟨Ba, 2, none⟩) (rF (p := ⟨Ba, 1, none⟩) (rF (p := ⟨Ba, 0, none⟩) (rT BF.out Bb.out (by decide)) (fun _ hk => hk.2) (.slice Ao48 t282.length co48)) (fun _ hk => hk.2) (.slice Ao53 t285.length co53)) (fun _ hk => hk.2) (.slice Ao54 t288.length co54)) (fun _ h_ => h_.1))) hb);have n8_ := Am (rB (by (with_reducible repeat (first|apply rA|apply rN|apply rD));exact (rM (rF (p := ⟨Ba, 2, none⟩) (rF (p := ⟨Ba, 1, none⟩) (rF (p := ⟨Ba, 0, none⟩) (rT BG.out Bb.out (by decide)) (fun _ hk => hk.2) (.slice Ao48 t282.length co48)) (fun _ hk => hk.2) (.slice Ao53 t285.length co53)) (fun _ hk => hk.2) (.slice Ao54 t288.length co54)) (fun _ h_ => h_.1))) hb);have n9_ := Am (rB (by (with_reducible repeat (first|apply rA|apply rN|apply rD));exact (rM (rF (p := ⟨Ba, 2, none⟩) (rF (p := ⟨Ba, 1, none⟩) (rF (p := ⟨Ba, 0, none⟩) (rT BH.out Bb.out (by decide)) (fun _ hk => hk.2) (.slice Ao48 t282.length co48)) (fun _ hk => hk.2) (.slice Ao53 t285.length co53)) (fun _ hk => hk.2) (.slice Ao54 t288.length co54)) (fun _ h_ => h_.1))) hb);have n10_ := Am (rB (by (with_reducible repeat (first|apply rA|apply rN|apply rD));exact (rM (rF (p := ⟨Ba, 2, none⟩) (rF (p := ⟨Ba, 1, none⟩) (rF (p := ⟨Ba, 0, none⟩) (rT BO.out Bb.out (by decide)) (fun _ hk => hk.2) (.slice Ao48 t282.length co48)) (fun _ hk => hk.2) (.slice Ao53 t285.length co53)) (fun _ hk => hk.2) (.slice Ao54 t288.length co54)) (fun _ h_ => h_.1))) hb);have n11_ := Am (rB (by (with_reducible repeat (first|apply rA|apply rN|apply rD));exact (rM (rF (p := ⟨Ba, 2, none⟩) (rF (p := ⟨Ba, 1, none⟩) (rF (p := ⟨Ba, 0, none⟩) (rT BW.out Bb.out (by decide)) (fun _ hk => hk.2) (.slice Ao48 t282.length co48)) (fun _ hk => hk.2) (.slice Ao53 t285.length co53)) (fun _ hk => hk.2) (.slice Ao54 t288.length co54)) (fun _ h_ => h_.1))) hb);have n12_ := Am (rB (by (with_reducible repeat (first|apply rA|apply rN|apply rD));exact (rM (rF (p := ⟨Ba, 2, none⟩) (rF (p := ⟨Ba, 1, none⟩) (rF (p := ⟨Ba, 0, none⟩) (rT BX.out Bb.out (by decide)) (fun _ hk => hk.2) (.slice Ao48 t282.length co48)) (fun _ hk => hk.2) (.slice Ao53 t285.length co53)) (fun _ hk => hk.2) (.slice Ao54 t288.length co54)) (fun _ h_ => h_.1))) hb);have n13_ := Am (rB (by (with_reducible repeat (first|apply rA|apply rN|apply rD));exact (rM (rF (p := ⟨Ba, 2, none⟩) (rF (p := ⟨Ba, 1, none⟩) (rF (p := ⟨Ba, 0, none⟩) (rT BY.out Bb.out (by decide)) (fun _ hk => hk.2) (.slice Ao48 t282.length co48)) (fun _ hk => hk.2) (.slice Ao53 t285.length co53)) (fun _ hk => hk.2) (.slice Ao54 t288.length co54)) (fun _ h_ => h_.1))) hb);have n14_ := Am (bB (g := Bt) (o := .cells #[.slice A0_0 l0_0.length c0_0, .slice A0_1 l0_1.length c0_1, .slice A0_2 l0_2.length c0_2] 25 (0, 0)) (by (with_reducible repeat (first|refine bN ?_ _|refine bD ?_|refine bA ?_ _|refine blk_far ?_ BT.out _));exact Be.out) hb);have n15_ := Am (bB (g := Bp) (o := .cells #[.slice Ao29 t258.length co29, .slice Ao32 t261.length co32, .slice Ao33 t264.length co33] 27 (0, 0)) (by (with_reducible repeat (first|refine bN ?_ _|refine bD ?_|refine bA ?_ _|refine blk_far ?_ BN.out _));exact Bf.out) hb);have n16_ := Am (bB (g := Bq) (o := .cells #[.slice Ao37 t269.length co37, .slice Ao41 t272.length co41, .slice Ao42 t275.length co42] 27 (0, 0)) (by (with_reducible repeat (first|refine bN ?_ _|refine bD ?_|refine bA ?_ _|refine blk_far ?_ BQ.out _));exact Bn.out) hb);have n17_ := Am (bB (g := Ba) (o := .cells #[.slice Ao48 t282.length co48, .slice Ao53 t285.length co53, .slice Ao54 t288.length co54] 27 (0, 0)) (by (with_reducible repeat (first|refine bN ?_ _|refine bD ?_|refine bA ?_ _));refine blk_put (cs := #[.slice Ao48 t282.length co48, .slice Ao53 t285.length co53, .slice none 0 0]) ?_ 2 _ rfl;(with_reducible repeat (first|refine bN ?_ _|refine bD ?_|refine bA ?_ _));refine blk_put (cs := #[.slice Ao48 t282.length co48, .slice none 0 0, .slice none 0 0]) ?_ 1 _ rfl;(with_reducible repeat (first|refine bN ?_ _|refine bD ?_|refine bA ?_ _));refine blk_put (cs := #[.slice none 0 0, .slice none 0 0, .slice none 0 0]) ?_ 0 _ rfl;(with_reducible repeat (first|refine bN ?_ _|refine bD ?_|refine bA ?_ _));exact Bb.out) hb);have n18_ := Am (bP (by repeat (first|(with_reducible first|exact HB.out|apply oA|apply pN|apply o1|refine bS ?_ Br.out|refine bS ?_ Bu.out|refine bS ?_ Bv.out|refine bS ?_ By.out)|exact HB.out)) hb);clear Bw Bx BA Bz BB BC BD BF BG BH BO BW BX BY Be Bf Bn Bb HB;revert n0_ n1_ n2_ n3_ n4_ n5_ n6_ n7_ n8_ n9_ n10_ n11_ n12_ n13_ n14_ n15_ n16_ n17_ n18_;intro Bw Bx BA Bz BB BC BD BF BG BH BO BW BX BY Be Bf Bn Bb HB;(try clear hb);(try clear hb2);(try clear hk);(try clear hi)))
  go_meet
  case rel => exact ⟨_, (true), (by first|rfl|(simp;done)|(simp [*];done)), H', ⟨by first|omega|exact Nat.le_refl _⟩, ⟨by (with_reducible repeat (first|apply rA|apply rN|apply rD));exact rM BO.out (fun _ hk => ⟨hk.1.1.1.1.1.2, ⟨hk.1.1.1.1.2, ⟨hk.1.1.1.2, ⟨hk.1.1.2, ⟨hk.1.2, hk.2⟩⟩⟩⟩⟩)⟩, ⟨by (with_reducible repeat (first|apply rA|apply rN|apply rD));exact rM BB.out (fun _ hk => ⟨hk.1.1.2, ⟨hk.1.1.1.1.1.1.1.1, ⟨hk.1.1.1.1.2, ⟨hk.1.1.1.2, ⟨hk.1.2, hk.2⟩⟩⟩⟩⟩)⟩, ⟨by (with_reducible repeat (first|apply rA|apply rN|apply rD));exact rM BC.out (fun _ hk => ⟨hk.1.1.2, ⟨hk.1.1.1.1.1.1.1.1, ⟨hk.1.1.1.1.2, ⟨hk.1.1.1.2, ⟨hk.1.2, hk.2⟩⟩⟩⟩⟩)⟩, ⟨by (with_reducible repeat (first|apply rA|apply rN|apply rD));exact rM BD.out (fun _ hk => ⟨hk.1.2, hk.2⟩)⟩, ⟨by (with_reducible repeat (first|apply rA|apply rN|apply rD));exact rM BF.out (fun _ hk => ⟨hk.1.1.2, ⟨hk.1.1.1.1.2, ⟨hk.1.1.1.2, ⟨hk.1.1.1.1.1.1.1.1, ⟨hk.1.2, hk.2⟩⟩⟩⟩⟩)⟩, ⟨by (with_reducible repeat (first|apply rA|apply rN|apply rD));exact rM BG.out (fun _ hk => ⟨hk.1.1.2, ⟨hk.1.1.1.1.2, ⟨hk.1.1.1.2, ⟨hk.1.1.1.1.1.1.1.1, ⟨hk.1.2, hk.2⟩⟩⟩⟩⟩)⟩, ⟨by (with_reducible repeat (first|apply rA|apply rN|apply rD));exact rM BH.out (fun _ hk => ⟨hk.1.2, hk.2⟩)⟩, ⟨by (with_reducible repeat (first|apply rA|apply rN|apply rD));exact rM BW.out (fun _ hk => ⟨hk.2, ⟨hk.1.1.1.1.2, ⟨hk.1.1.1.2, ⟨hk.1.1.2, ⟨hk.1.2, hk.1.1.1.1.1.1.1.1⟩⟩⟩⟩⟩)⟩, ⟨by (with_reducible repeat (first|apply rA|apply rN|apply rD));exact rM BX.out (fun _ hk => ⟨hk.2, ⟨hk.1.1.1.1.2, ⟨hk.1.1.1.2, ⟨hk.1.1.2, ⟨hk.1.2, hk.1.1.1.1.1.1.1.1⟩⟩⟩⟩⟩)⟩, ⟨by (with_reducible repeat (first|apply rA|apply rN|apply rD));exact rM BY.out (fun _ hk => ⟨hk.1.2, hk.2⟩)⟩, ⟨by (with_reducible repeat (first|refine bN ?_ _|refine bD ?_|refine bA ?_ _));exact Be.out⟩, ⟨by (with_reducible repeat (first|refine bN ?_ _|refine bD ?_|refine bA ?_ _));exact Bf.out⟩, ⟨by (with_reducible repeat (first|refine bN ?_ _|refine bD ?_|refine bA ?_ _));exact Bn.out⟩, ⟨by (with_reducible repeat (first|refine bN ?_ _|refine bD ?_|refine bA ?_ _));exact Bb.out⟩, ⟨by repeat (first|(with_reducible first|exact HB.out|apply oA|apply pN|apply o1|refine bS ?_ Br.out|refine bS ?_ Bu.out|refine bS ?_ Bv.out|refine bS ?_ By.out)|exact HB.out)⟩⟩
 case rest =>
  clear HC16
  try clear c1
  try clear c2
  try clear p2
  try clear c3
  try clear c3b0
  try clear c3b1
  try clear c4
  try clear c5
  try clear c6
  try clear c6b0
  try clear c7
  try clear c13
  try clear c15
  try clear c17
  try clear c20
  try clear c21
  try clear c22
  try clear c30
  try clear c38
  try clear c39
  try clear c49
  try clear c50
  try clear c51
  try clear c56
  try clear c57
  try clear c58
  try clear c59
  try clear c61
  try clear c62
  try clear c65
  try clear c66
  try clear c67
  try clear c69
  try clear c70
  try clear Dl
  try clear Dm
  try clear Dn
  try clear Dr
  try clear Ds
  try clear Dt
  try clear Dx
  try clear Dy
  try clear Dz
  try clear DD
  try clear DE
  try clear DF
  try clear DJ
  try clear DK
  try clear DL
  try clear DP
  try clear DQ
  try clear DR
  try clear DV
  try clear DW
  try clear DX
  try clear D1
  try clear D2
  try clear D3
  try clear D7
  try clear D8
  try clear D9
  try clear Fd
  try clear Fe
  try clear Ff
  try clear Fj
  try clear Fk
  try clear Fl
  try clear Fp
  try clear Fq
  try clear Fr
  try clear Do
  try clear Dp
  try clear Dq
  try clear Du
  try clear Dv
  try clear Dw
  try clear DA
  try clear DB
  try clear DC
  try clear DG
  try clear DH
  try clear DI
  try clear DM
  try clear DN
  try clear DO
  try clear DS
  try clear DT
  try clear DU
  try clear DY
  try clear DZ
  try clear D0
  try clear D4
  try clear D5
  try clear D6
  try clear Fa
  try clear Fb
  try clear Fc
  try clear Fg
  try clear Fh
  try clear Fi
  try clear Fm
  try clear Fn
  try clear Fo
  try clear Fs
  try clear Ft
  try clear Fu
  obtain ⟨kq, x51_15, rfl, HA, Fv, BE, Bl, Bm, Bo, Bi, Bj, Bk, Bc, Bd, Bg, Be, Bf, Bn, Bb, HB⟩ := hcut
  cases kq with
 |zero => exact absurd HA.out (by simp [laws_FnExactSigsBlock.j0])
 |succ kj15 =>
   have H := HA.out
   clear HA
   simp only [laws_FnExactSigsBlock.j0] at H
   by_cases c73 : x51_15 = true
   ·subst c73
    have H1 : (some false) = some r := by rw [if_pos rfl] at H;exact H
    clear H
    have H := H1
    clear H1
    exact absurd ((Option.some.inj H).trans hT_.out) (by decide)
   replace c73 := Bool.eq_false_iff.mpr c73
   subst c73
   have H1 : ((laws_toSigs.f kj15 l0_0 l0_1 l0_2).bind fun bt294 => ((laws_eqSigs.f kj15 t269 t272 t275 bt294.1 bt294.2.1 bt294.2.2).bind fun t303 => (if t303 = true then ((laws_toBoolS.f kj15 l1).bind fun t304 => ((laws_eqBoolS.f kj15 t279 t304).bind fun t307 => (if t307 = true then ((laws_markSigs.f kj15 t269 t272 t275 1).bind fun bt308 => ((laws_markBoolS.f kj15 t279 bt308.1).bind fun bt312 => (if bt312.1 < 0 then (laws_FnExactSigsBlock.j1 kj15 l1 t267 true l0_0 l0_1 l0_2 t258 t261 t264 t282 t285 t288) else ((laws_eqSigs.f kj15 t282 t285 t288 t258 t261 t264).bind fun t314 => (if t314 = true then (laws_FnExactSigsBlock.j1 kj15 l1 t267 (t291 != t267) l0_0 l0_1 l0_2 t258 t261 t264 t282 t285 t288) else (laws_FnExactSigsBlock.j1 kj15 l1 t267 true l0_0 l0_1 l0_2 t258 t261 t264 t282 t285 t288)))))) else (some false)))) else (some false)))) = some r := by rw [if_neg (show ¬ (false = true) by decide)] at H;exact H
   clear H
   have H := H1
   clear H1
   replace H := Option.bind_eq_some_iff.mp H
   obtain ⟨⟨t294, t297, t300⟩, A740, H⟩ := H
   replace H : ((laws_eqSigs.f kj15 t269 t272 t275 t294 t297 t300).bind fun t303 => (if t303 = true then ((laws_toBoolS.f kj15 l1).bind fun t304 => ((laws_eqBoolS.f kj15 t279 t304).bind fun t307 => (if t307 = true then ((laws_markSigs.f kj15 t269 t272 t275 1).bind fun bt308 => ((laws_markBoolS.f kj15 t279 bt308.1).bind fun bt312 => (if bt312.1 < 0 then (laws_FnExactSigsBlock.j1 kj15 l1 t267 true l0_0 l0_1 l0_2 t258 t261 t264 t282 t285 t288) else ((laws_eqSigs.f kj15 t282 t285 t288 t258 t261 t264).bind fun t314 => (if t314 = true then (laws_FnExactSigsBlock.j1 kj15 l1 t267 (t291 != t267) l0_0 l0_1 l0_2 t258 t261 t264 t282 t285 t288) else (laws_FnExactSigsBlock.j1 kj15 l1 t267 true l0_0 l0_1 l0_2 t258 t261 t264 t282 t285 t288)))))) else (some false)))) else (some false))) = some r := H
   have A74 := Am A740
   clear A740
   replace H := Option.bind_eq_some_iff.mp H
   obtain ⟨t303, A750, H⟩ := H
   replace H : (if t303 = true then ((laws_toBoolS.f kj15 l1).bind fun t304 => ((laws_eqBoolS.f kj15 t279 t304).bind fun t307 => (if t307 = true then ((laws_markSigs.f kj15 t269 t272 t275 1).bind fun bt308 => ((laws_markBoolS.f kj15 t279 bt308.1).bind fun bt312 => (if bt312.1 < 0 then (laws_FnExactSigsBlock.j1 kj15 l1 t267 true l0_0 l0_1 l0_2 t258 t261 t264 t282 t285 t288) else ((laws_eqSigs.f kj15 t282 t285 t288 t258 t261 t264).bind fun t314 => (if t314 = true then (laws_FnExactSigsBlock.j1 kj15 l1 t267 (t291 != t267) l0_0 l0_1 l0_2 t258 t261 t264 t282 t285 t288) else (laws_FnExactSigsBlock.j1 kj15 l1 t267 true l0_0 l0_1 l0_2 t258 t261 t264 t282 t285 t288)))))) else (some false)))) else (some false)) = some r := H
   have A75 := Am A750
   clear A750
   by_cases c76 : t303 = true
   rotate_left
   ·replace c76 := Bool.eq_false_iff.mpr c76
    subst c76
    have H1 : (some false) = some r := by rw [if_neg (show ¬ (false = true) by decide)] at H;exact H
    clear H
    have H := H1
    clear H1
    exact absurd ((Option.some.inj H).trans hT_.out) (by decide)

   subst c76
   have H1 : ((laws_toBoolS.f kj15 l1).bind fun t304 => ((laws_eqBoolS.f kj15 t279 t304).bind fun t307 => (if t307 = true then ((laws_markSigs.f kj15 t269 t272 t275 1).bind fun bt308 => ((laws_markBoolS.f kj15 t279 bt308.1).bind fun bt312 => (if bt312.1 < 0 then (laws_FnExactSigsBlock.j1 kj15 l1 t267 true l0_0 l0_1 l0_2 t258 t261 t264 t282 t285 t288) else ((laws_eqSigs.f kj15 t282 t285 t288 t258 t261 t264).bind fun t314 => (if t314 = true then (laws_FnExactSigsBlock.j1 kj15 l1 t267 (t291 != t267) l0_0 l0_1 l0_2 t258 t261 t264 t282 t285 t288) else (laws_FnExactSigsBlock.j1 kj15 l1 t267 true l0_0 l0_1 l0_2 t258 t261 t264 t282 t285 t288)))))) else (some false)))) = some r := by rw [if_pos rfl] at H;exact H
   clear H
   have H := H1
   clear H1
   replace H := Option.bind_eq_some_iff.mp H
   obtain ⟨t304, A770, H⟩ := H
   replace H : ((laws_eqBoolS.f kj15 t279 t304).bind fun t307 => (if t307 = true then ((laws_markSigs.f kj15 t269 t272 t275 1).bind fun bt308 => ((laws_markBoolS.f kj15 t279 bt308.1).bind fun bt312 => (if bt312.1 < 0 then (laws_FnExactSigsBlock.j1 kj15 l1 t267 true l0_0 l0_1 l0_2 t258 t261 t264 t282 t285 t288) else ((laws_eqSigs.f kj15 t282 t285 t288 t258 t261 t264).bind fun t314 => (if t314 = true then (laws_FnExactSigsBlock.j1 kj15 l1 t267 (t291 != t267) l0_0 l0_1 l0_2 t258 t261 t264 t282 t285 t288) else (laws_FnExactSigsBlock.j1 kj15 l1 t267 true l0_0 l0_1 l0_2 t258 t261 t264 t282 t285 t288)))))) else (some false))) = some r := H
   have A77 := Am A770
   clear A770
   replace H := Option.bind_eq_some_iff.mp H
   obtain ⟨t307, A780, H⟩ := H
   replace H : (if t307 = true then ((laws_markSigs.f kj15 t269 t272 t275 1).bind fun bt308 => ((laws_markBoolS.f kj15 t279 bt308.1).bind fun bt312 => (if bt312.1 < 0 then (laws_FnExactSigsBlock.j1 kj15 l1 t267 true l0_0 l0_1 l0_2 t258 t261 t264 t282 t285 t288) else ((laws_eqSigs.f kj15 t282 t285 t288 t258 t261 t264).bind fun t314 => (if t314 = true then (laws_FnExactSigsBlock.j1 kj15 l1 t267 (t291 != t267) l0_0 l0_1 l0_2 t258 t261 t264 t282 t285 t288) else (laws_FnExactSigsBlock.j1 kj15 l1 t267 true l0_0 l0_1 l0_2 t258 t261 t264 t282 t285 t288)))))) else (some false)) = some r := H
   have A78 := Am A780
   clear A780
   by_cases c79 : t307 = true
   rotate_left
   ·replace c79 := Bool.eq_false_iff.mpr c79
    subst c79
    have H1 : (some false) = some r := by rw [if_neg (show ¬ (false = true) by decide)] at H;exact H
    clear H
    have H := H1
    clear H1
    exact absurd ((Option.some.inj H).trans hT_.out) (by decide)
   subst c79
   have H1 : ((laws_markSigs.f kj15 t269 t272 t275 1).bind fun bt308 => ((laws_markBoolS.f kj15 t279 bt308.1).bind fun bt312 => (if bt312.1 < 0 then (laws_FnExactSigsBlock.j1 kj15 l1 t267 true l0_0 l0_1 l0_2 t258 t261 t264 t282 t285 t288) else ((laws_eqSigs.f kj15 t282 t285 t288 t258 t261 t264).bind fun t314 => (if t314 = true then (laws_FnExactSigsBlock.j1 kj15 l1 t267 (t291 != t267) l0_0 l0_1 l0_2 t258 t261 t264 t282 t285 t288) else (laws_FnExactSigsBlock.j1 kj15 l1 t267 true l0_0 l0_1 l0_2 t258 t261 t264 t282 t285 t288)))))) = some r := by rw [if_pos rfl] at H;exact H
   clear H
   have H := H1
   clear H1
   replace H := Option.bind_eq_some_iff.mp H
   obtain ⟨⟨t308, t309, t310, t311⟩, A800, H⟩ := H
   replace H : ((laws_markBoolS.f kj15 t279 t308).bind fun bt312 => (if bt312.1 < 0 then (laws_FnExactSigsBlock.j1 kj15 l1 t267 true l0_0 l0_1 l0_2 t258 t261 t264 t282 t285 t288) else ((laws_eqSigs.f kj15 t282 t285 t288 t258 t261 t264).bind fun t314 => (if t314 = true then (laws_FnExactSigsBlock.j1 kj15 l1 t267 (t291 != t267) l0_0 l0_1 l0_2 t258 t261 t264 t282 t285 t288) else (laws_FnExactSigsBlock.j1 kj15 l1 t267 true l0_0 l0_1 l0_2 t258 t261 t264 t282 t285 t288))))) = some r := H
   have A80 := Am A800
   clear A800
   replace H := Option.bind_eq_some_iff.mp H
   obtain ⟨⟨t312, t313⟩, A810, H⟩ := H
   replace H : (if t312 < 0 then (laws_FnExactSigsBlock.j1 kj15 l1 t267 true l0_0 l0_1 l0_2 t258 t261 t264 t282 t285 t288) else ((laws_eqSigs.f kj15 t282 t285 t288 t258 t261 t264).bind fun t314 => (if t314 = true then (laws_FnExactSigsBlock.j1 kj15 l1 t267 (t291 != t267) l0_0 l0_1 l0_2 t258 t261 t264 t282 t285 t288) else (laws_FnExactSigsBlock.j1 kj15 l1 t267 true l0_0 l0_1 l0_2 t258 t261 t264 t282 t285 t288)))) = some r := H
   have A81 := Am A810
   clear A810
   have HC82 := Am H
   clear H
   try go_wp2
   have n0_ := Am (rD BE.out)
   have n1_ := Am (rD Bl.out)
   have n2_ := Am (rD Bm.out)
   have n3_ := Am (rD Bo.out)
   have n4_ := Am (rD Bi.out)
   have n5_ := Am (rD Bj.out)
   have n6_ := Am (rD Bk.out)
   have n7_ := Am (rD Bc.out)
   have n8_ := Am (rD Bd.out)
   have n9_ := Am (rD Bg.out)
   have n10_ := Am (bD Be.out)
   have n11_ := Am (bD Bf.out)
   have n12_ := Am (bD Bn.out)
   have n13_ := Am (bD Bb.out)
   have n14_ := Am (o1 HB.out)
   clear BE
   clear Bl
   clear Bm
   clear Bo
   clear Bi
   clear Bj
   clear Bk
   clear Bc
   clear Bd
   clear Bg
   clear Be
   clear Bf
   clear Bn
   clear Bb
   clear HB
   have BE := n0_
   have Bl := n1_
   have Bm := n2_
   have Bo := n3_
   have Bi := n4_
   have Bj := n5_
   have Bk := n6_
   have Bc := n7_
   have Bd := n8_
   have Bg := n9_
   have Be := n10_
   have Bf := n11_
   have Bn := n12_
   have Bb := n13_
   have HB := n14_
   clear n0_ n1_ n2_ n3_ n4_ n5_ n6_ n7_ n8_ n9_ n10_ n11_ n12_ n13_ n14_
   refine start_ (n := 5) (S := fun w' => w'.cell? ⟨Bq, 0, none⟩ = some (.slice Ao37 t269.length co37) ∧ w'.cell? ⟨Bq, 1, none⟩ = some (.slice Ao41 t272.length co41) ∧ w'.cell? ⟨Bq, 2, none⟩ = some (.slice Ao42 t275.length co42) ∧ w'.cell? ⟨Bt, 0, none⟩ = some (.slice A0_0 l0_0.length c0_0) ∧ w'.cell? ⟨Bt, 1, none⟩ = some (.slice A0_1 l0_1.length c0_1) ∧ w'.cell? ⟨Bt, 2, none⟩ = some (.slice A0_2 l0_2.length c0_2)) (ds := []) #[false,false,false,false,false] (by kernel_rfl) rfl rfl ⟨(bC Bn.out 0).trans rfl, (bC Bn.out 1).trans rfl, (bC Bn.out 2).trans rfl, (bC Be.out 0).trans rfl, (bC Be.out 1).trans rfl, (bC Be.out 2).trans rfl⟩ (fun hHeld => ?_)
   generalize wc.drew = w83 at BE Bl Bm Bo Bi Bj Bk Bc Bd Bg Be Bf Bn Bb HB hHeld ⊢
   refine take_ (i := 0) (N := some 52) (v := ?_) (a' := ?_) #[true,false,false,false,false] rfl rfl (by kernel_rfl) (fun _ _ _ h => h) (Or.inl ⟨by rfl, ?_⟩) hHeld ?_ ?_
   rotate_left;(rintro w' ⟨s0, s1, s2, s3, s4, s5⟩;go_simp;with_reducible rfl)
   rotate_left;(simp only [Act.put,lA,lZ,lS,iw,jw];rfl)
   refine take_ (i := 1) (N := some 53) (v := ?_) (a' := ?_) #[true,true,false,false,false] rfl rfl (by kernel_rfl) (fun _ _ _ h => h) (Or.inl ⟨by rfl, ?_⟩) hHeld ?_ ?_
   rotate_left;(rintro w' ⟨s0, s1, s2, s3, s4, s5⟩;go_simp;with_reducible rfl)
   rotate_left;(simp only [Act.put,lA,lZ,lS,iw,jw];rfl)
   refine one_ (i := 2) (N := some 54) #[true,true,true,false,false] rfl rfl (by kernel_rfl) (by decide) (fun K hK => ?_)
   refine goes_ Try.func15 (by kernel_rfl) rfl #[.agg #[.slice A0_0 l0_0.length c0_0, .slice A0_1 l0_1.length c0_1, .slice A0_2 l0_2.length c0_2]] (by rfl) rfl rfl (by (try simp only [lM, lC, lN]);first|done|rfl|(simp only [lD, lT];rfl)) ?_
   with_reducible refine (laws_toSigs.calls kj15 _ _ l0_0 _ _ l0_1 _ _ l0_2 t294 t297 t300 _ ?side1 ?side2 ?side3 ?side4 ?side5 ?side6 A74.out).mono ?_
   (case side1 => repeat (first|exact (cB HR0_0.out HB.out)|(with_reducible refine cA ?_ _)|(with_reducible refine cN ?_ _)|(with_reducible refine cD ?_)))
   (case side2 => exact HC0_0.out)
   (case side3 => repeat (first|exact (cB HR0_1.out HB.out)|(with_reducible refine cA ?_ _)|(with_reducible refine cN ?_ _)|(with_reducible refine cD ?_)))
   (case side4 => exact HC0_1.out)
   (case side5 => repeat (first|exact (cB HR0_2.out HB.out)|(with_reducible refine cA ?_ _)|(with_reducible refine cN ?_ _)|(with_reducible refine cD ?_)))
   (case side6 => exact HC0_2.out)
   rintro e w84 ⟨v295, v298, v301, rfl, ho0, ho1, ho2, hb⟩
   refine ⟨_, rfl, ?_⟩
   have n0_ := Am (rM (Kd.R_told (Kd.R_told (Kd.R_old (rL BE.out) hb) (Kd.R_base ho0)) (Kd.R_base ho1)) (fun _ h_ => h_.1))
   have n1_ := Am (rM (Kd.R_told (Kd.R_told (Kd.R_old (rL Bl.out) hb) (Kd.R_base ho0)) (Kd.R_base ho1)) (fun _ h_ => h_.1))
   have n2_ := Am (rM (Kd.R_told (Kd.R_told (Kd.R_old (rL Bm.out) hb) (Kd.R_base ho0)) (Kd.R_base ho1)) (fun _ h_ => h_.1))
   have n3_ := Am (Kd.R_elder' (rL Bo.out) (Kd.R_base ho2) hb)
   have n4_ := Am (rM (Kd.R_told (Kd.R_told (Kd.R_old (rL Bi.out) hb) (Kd.R_base ho0)) (Kd.R_base ho1)) (fun _ h_ => h_.1))
   have n5_ := Am (rM (Kd.R_told (Kd.R_told (Kd.R_old (rL Bj.out) hb) (Kd.R_base ho0)) (Kd.R_base ho1)) (fun _ h_ => h_.1))
   have n6_ := Am (Kd.R_elder' (rL Bk.out) (Kd.R_base ho2) hb)
   have n7_ := Am (rM (Kd.R_told (Kd.R_told (Kd.R_old (rL Bc.out) hb) (Kd.R_base ho0)) (Kd.R_base ho1)) (fun _ h_ => h_.1))
   have n8_ := Am (rM (Kd.R_told (Kd.R_told (Kd.R_old (rL Bd.out) hb) (Kd.R_base ho0)) (Kd.R_base ho1)) (fun _ h_ => h_.1))
   have n9_ := Am (Kd.R_elder' (rL Bg.out) (Kd.R_base ho2) hb)
   have n10_ := Am (Kd.R_lower (Kd.R_new' (Kd.R_new' (Kd.R_new' (Kd.R_new' (Kd.R_new' (Kd.R_new' (Kd.R_new' ho0 (Kd.R_lt (rL BE.out))) (Kd.R_lt (rL Bl.out))) (Kd.R_lt (rL Bm.out))) (Kd.R_lt (rL Bi.out))) (Kd.R_lt (rL Bj.out))) (Kd.R_lt (rL Bc.out))) (Kd.R_lt (rL Bd.out))) (bZ (by repeat (first|(with_reducible first|exact HB.out|apply oA|apply pN|apply o1|refine bS ?_ Br.out|refine bS ?_ Bu.out|refine bS ?_ Bv.out|refine bS ?_ By.out)|exact HB.out))))
   have n11_ := Am (Kd.R_lower (Kd.R_new' (Kd.R_new' (Kd.R_new' (Kd.R_new' (Kd.R_new' (Kd.R_new' (Kd.R_new' ho1 (Kd.R_lt (rL BE.out))) (Kd.R_lt (rL Bl.out))) (Kd.R_lt (rL Bm.out))) (Kd.R_lt (rL Bi.out))) (Kd.R_lt (rL Bj.out))) (Kd.R_lt (rL Bc.out))) (Kd.R_lt (rL Bd.out))) (bZ (by repeat (first|(with_reducible first|exact HB.out|apply oA|apply pN|apply o1|refine bS ?_ Br.out|refine bS ?_ Bu.out|refine bS ?_ Bv.out|refine bS ?_ By.out)|exact HB.out))))
   have n12_ := Am (Kd.R_lower (Kd.R_new' (Kd.R_new' (Kd.R_new' ho2 (Kd.R_lt (rL Bo.out))) (Kd.R_lt (rL Bk.out))) (Kd.R_lt (rL Bg.out))) (bZ (by repeat (first|(with_reducible first|exact HB.out|apply oA|apply pN|apply o1|refine bS ?_ Br.out|refine bS ?_ Bu.out|refine bS ?_ Bv.out|refine bS ?_ By.out)|exact HB.out))))
   have n13_ := Am (bB (g := Bt) (o := .cells #[.slice A0_0 l0_0.length c0_0, .slice A0_1 l0_1.length c0_1, .slice A0_2 l0_2.length c0_2] 25 (0, 0)) (bL Be.out) hb)
   have n14_ := Am (bB (g := Bp) (o := .cells #[.slice Ao29 t258.length co29, .slice Ao32 t261.length co32, .slice Ao33 t264.length co33] 27 (0, 0)) (bL Bf.out) hb)
   have n15_ := Am (bB (g := Bq) (o := .cells #[.slice Ao37 t269.length co37, .slice Ao41 t272.length co41, .slice Ao42 t275.length co42] 27 (0, 0)) (bL Bn.out) hb)
   have n16_ := Am (bB (g := Ba) (o := .cells #[.slice Ao48 t282.length co48, .slice Ao53 t285.length co53, .slice Ao54 t288.length co54] 27 (0, 0)) (bL Bb.out) hb)
   have n17_ := Am (bP (by repeat (first|(with_reducible first|exact HB.out|apply oA|apply pN|apply o1|refine bS ?_ Br.out|refine bS ?_ Bu.out|refine bS ?_ Bv.out|refine bS ?_ By.out)|exact HB.out)) hb)
   clear BE
   clear Bl
   clear Bm
   clear Bo
   clear Bi
   clear Bj
   clear Bk
   clear Bc
   clear Bd
   clear Bg
   clear Be
   clear Bf
   clear Bn
   clear Bb
   clear HB
   have BE := n0_
   have Bl := n1_
   have Bm := n2_
   have Bo := n3_
   have Bi := n4_
   have Bj := n5_
   have Bk := n6_
   have Bc := n7_
   have Bd := n8_
   have Bg := n9_
   have BI := n10_
   have BJ := n11_
   have BK := n12_
   have Be := n13_
   have Bf := n14_
   have Bn := n15_
   have Bb := n16_
   have HB := n17_
   clear n0_ n1_ n2_ n3_ n4_ n5_ n6_ n7_ n8_ n9_ n10_ n11_ n12_ n13_ n14_ n15_ n16_ n17_
   (try clear hb)
   (try clear hb2)
   (try clear hk)
   (try clear hi)
   (try clear ho0)
   (try clear ho1)
   (try clear ho2)
   obtain ⟨Ao85, co85, eo85⟩ := Kd.R_slice BI.out
   (first|subst eo85|(injection eo85 with f1_ f2_ f3_;have f4_ := f1_.symm;have f5_ := f3_.symm;clear f1_ f2_ f3_;subst f4_;subst f5_))
   obtain ⟨Ao86, co86, eo86⟩ := Kd.R_slice BJ.out
   (first|subst eo86|(injection eo86 with f1_ f2_ f3_;have f4_ := f1_.symm;have f5_ := f3_.symm;clear f1_ f2_ f3_;subst f4_;subst f5_))
   obtain ⟨Ao87, co87, eo87⟩ := Kd.R_slice BK.out
   (first|subst eo87|(injection eo87 with f1_ f2_ f3_;have f4_ := f1_.symm;have f5_ := f3_.symm;clear f1_ f2_ f3_;subst f4_;subst f5_))
   refine hK.out _ _ ⟨(bC Bn.out 0).trans rfl, (bC Bn.out 1).trans rfl, (bC Bn.out 2).trans rfl, (bC Be.out 0).trans rfl, (bC Be.out 1).trans rfl, (bC Be.out 2).trans rfl⟩ (fun hHeld => ?_)
   clear hK K
   refine norm_ (by show Act.put _ (some 54) _ = _;simp only [Act.put,lA,lZ,lS,iw,jw];rfl) ?_
   refine one_ (i := 3) (N := some 55) #[true,true,true,true,false] rfl rfl (by kernel_rfl) (by decide) (fun K hK => ?_)
   refine goes_ Try.func17 (by kernel_rfl) rfl #[.agg #[.slice Ao37 t269.length co37, .slice Ao41 t272.length co41, .slice Ao42 t275.length co42], .agg #[.slice Ao85 t294.length co85, .slice Ao86 t297.length co86, .slice Ao87 t300.length co87]] (by rfl) rfl rfl (by (try simp only [lM, lC, lN]);first|done|rfl|(simp only [lD, lT];rfl)) ?_
   with_reducible refine (laws_eqSigs.calls kj15 _ _ t269 _ _ t272 _ _ t275 _ _ t294 _ _ t297 _ _ t300 true _ ?side1 ?side2 ?side3 ?side4 ?side5 ?side6 ?side7 ?side8 ?side9 ?side10 ?side11 ?side12 A75.out).mono ?_
   (case side1 => repeat (first|exact (Kd.R_reads' Bi.out).2.2|(with_reducible refine cA ?_ _)|(with_reducible refine cN ?_ _)|(with_reducible refine cD ?_)))
   (case side2 => exact (Kd.R_reads' Bi.out).2.1)
   (case side3 => repeat (first|exact (Kd.R_reads' Bj.out).2.2|(with_reducible refine cA ?_ _)|(with_reducible refine cN ?_ _)|(with_reducible refine cD ?_)))
   (case side4 => exact (Kd.R_reads' Bj.out).2.1)
   (case side5 => repeat (first|exact (Kd.R_reads' Bk.out).2.2|(with_reducible refine cA ?_ _)|(with_reducible refine cN ?_ _)|(with_reducible refine cD ?_)))
   (case side6 => exact (Kd.R_reads' Bk.out).2.1)
   (case side7 => repeat (first|exact (Kd.R_reads' BI.out).2.2|(with_reducible refine cA ?_ _)|(with_reducible refine cN ?_ _)|(with_reducible refine cD ?_)))
   (case side8 => exact (Kd.R_reads' BI.out).2.1)
   (case side9 => repeat (first|exact (Kd.R_reads' BJ.out).2.2|(with_reducible refine cA ?_ _)|(with_reducible refine cN ?_ _)|(with_reducible refine cD ?_)))
   (case side10 => exact (Kd.R_reads' BJ.out).2.1)
   (case side11 => repeat (first|exact (Kd.R_reads' BK.out).2.2|(with_reducible refine cA ?_ _)|(with_reducible refine cN ?_ _)|(with_reducible refine cD ?_)))
   (case side12 => exact (Kd.R_reads' BK.out).2.1)
   rintro e w88 ⟨rfl, hb⟩
   refine ⟨_, rfl, ?_⟩
   have n0_ := Am (rB (rL BE.out) hb)
   have n1_ := Am (rB (rL Bl.out) hb)
   have n2_ := Am (rB (rL Bm.out) hb)
   have n3_ := Am (rB (rL Bo.out) hb)
   have n4_ := Am (rB (rL Bi.out) hb)
   have n5_ := Am (rB (rL Bj.out) hb)
   have n6_ := Am (rB (rL Bk.out) hb)
   have n7_ := Am (rB (rL Bc.out) hb)
   have n8_ := Am (rB (rL Bd.out) hb)
   have n9_ := Am (rB (rL Bg.out) hb)
   have n10_ := Am (rB (rL BI.out) hb)
   have n11_ := Am (rB (rL BJ.out) hb)
   have n12_ := Am (rB (rL BK.out) hb)
   have n13_ := Am (bB (g := Bt) (o := .cells #[.slice A0_0 l0_0.length c0_0, .slice A0_1 l0_1.length c0_1, .slice A0_2 l0_2.length c0_2] 25 (0, 0)) (bL Be.out) hb)
   have n14_ := Am (bB (g := Bp) (o := .cells #[.slice Ao29 t258.length co29, .slice Ao32 t261.length co32, .slice Ao33 t264.length co33] 27 (0, 0)) (bL Bf.out) hb)
   have n15_ := Am (bB (g := Bq) (o := .cells #[.slice Ao37 t269.length co37, .slice Ao41 t272.length co41, .slice Ao42 t275.length co42] 27 (0, 0)) (bL Bn.out) hb)
   have n16_ := Am (bB (g := Ba) (o := .cells #[.slice Ao48 t282.length co48, .slice Ao53 t285.length co53, .slice Ao54 t288.length co54] 27 (0, 0)) (bL Bb.out) hb)
   have n17_ := Am (bP (by repeat (first|(with_reducible first|exact HB.out|apply oA|apply pN|apply o1|refine bS ?_ Br.out|refine bS ?_ Bu.out|refine bS ?_ Bv.out|refine bS ?_ By.out)|exact HB.out)) hb)
   clear BE
   clear Bl
   clear Bm
   clear Bo
   clear Bi
   clear Bj
   clear Bk
   clear Bc
   clear Bd
   clear Bg
   clear BI
   clear BJ
   clear BK
   clear Be
   clear Bf
   clear Bn
   clear Bb
   clear HB
   have BE := n0_
   have Bl := n1_
   have Bm := n2_
   have Bo := n3_
   have Bi := n4_
   have Bj := n5_
   have Bk := n6_
   have Bc := n7_
   have Bd := n8_
   have Bg := n9_
   have BI := n10_
   have BJ := n11_
   have BK := n12_
   have Be := n13_
   have Bf := n14_
   have Bn := n15_
   have Bb := n16_
   have HB := n17_
   clear n0_ n1_ n2_ n3_ n4_ n5_ n6_ n7_ n8_ n9_ n10_ n11_ n12_ n13_ n14_ n15_ n16_ n17_
   (try clear hb)
   (try clear hb2)
   (try clear hk)
   (try clear hi)
   refine hK.out _ _ ⟨(bC Bn.out 0).trans rfl, (bC Bn.out 1).trans rfl, (bC Bn.out 2).trans rfl, (bC Be.out 0).trans rfl, (bC Be.out 1).trans rfl, (bC Be.out 2).trans rfl⟩ (fun hHeld => ?_)
   clear hK K
   refine norm_ (by show Act.put _ (some 55) _ = _;simp only [Act.put,lA,lZ,lS,iw,jw];rfl) ?_
   refine pure_ (i := 4) (N := some 56) (v := ?_) (a' := ?_) #[true,true,true,true,true] rfl rfl (by kernel_rfl) (fun _ _ _ h => h) (Or.inl ⟨by rfl, ?_⟩) ?_ ?_
   rotate_left;(intro w';go_simp;with_reducible rfl)
   rotate_left;(simp only [Act.put,lA,lZ,lS,iw,jw];rfl)
   refine done_ (by kernel_rfl) ?_
   go_upto_region 20 with (first|((with_reducible refine gate_callee (f := 21) rfl ?_);refine goesL_ (some 59) rfl rfl Try.func21 (by kernel_rfl) rfl #[.slice A1 l1.length c1] rfl (by (try simp only [lM, lC, lN]);first|done|rfl|(simp only [lD, lT];rfl)) ?_;(with_reducible refine (laws_toBoolS.calls kj15 _ _ l1 t304 _ ?side1 ?side2 A77.out).mono ?_);(case side1 => repeat (first|exact (cB HR1.out HB.out)|(with_reducible refine cA ?_ _)|(with_reducible refine cN ?_ _)|(with_reducible refine cD ?_)));(case side2 => exact HC1.out);rintro e w89 ⟨v305, rfl, ho0, hb⟩;refine ⟨_, rfl, ?_⟩;have n0_ := Am (Kd.R_elder' (rL BE.out) (Kd.R_base ho0) hb);have n1_ := Am (Kd.R_elder' (rL Bl.out) (Kd.R_base ho0) hb);have n2_ := Am (Kd.R_elder' (rL Bm.out) (Kd.R_base ho0) hb);have n3_ := Am (rB (rL Bo.out) hb);have n4_ := Am (Kd.R_elder' (rL Bi.out) (Kd.R_base ho0) hb);have n5_ := Am (Kd.R_elder' (rL Bj.out) (Kd.R_base ho0) hb);have n6_ := Am (rB (rL Bk.out) hb);have n7_ := Am (Kd.R_elder' (rL Bc.out) (Kd.R_base ho0) hb);have n8_ := Am (Kd.R_elder' (rL Bd.out) (Kd.R_base ho0) hb);have n9_ := Am (rB (rL Bg.out) hb);have n10_ := Am (Kd.R_elder' (rL BI.out) (Kd.R_base ho0) hb);have n11_ := Am (Kd.R_elder' (rL BJ.out) (Kd.R_base ho0) hb);have n12_ := Am (rB (rL BK.out) hb);have n13_ := Am (Kd.R_lower (Kd.R_new' (Kd.R_new' (Kd.R_new' (Kd.R_new' (Kd.R_new' (Kd.R_new' (Kd.R_new' (Kd.R_new' (Kd.R_new' ho0 (Kd.R_lt (rL BE.out))) (Kd.R_lt (rL Bl.out))) (Kd.R_lt (rL Bm.out))) (Kd.R_lt (rL Bi.out))) (Kd.R_lt (rL Bj.out))) (Kd.R_lt (rL Bc.out))) (Kd.R_lt (rL Bd.out))) (Kd.R_lt (rL BI.out))) (Kd.R_lt (rL BJ.out))) (bZ (by repeat (first|(with_reducible first|exact HB.out|apply oA|apply pN|apply o1|refine bS ?_ Br.out|refine bS ?_ Bu.out|refine bS ?_ Bv.out|refine bS ?_ By.out)|exact HB.out))));have n14_ := Am (bB (g := Bt) (o := .cells #[.slice A0_0 l0_0.length c0_0, .slice A0_1 l0_1.length c0_1, .slice A0_2 l0_2.length c0_2] 25 (0, 0)) (bL Be.out) hb);have n15_ := Am (bB (g := Bp) (o := .cells #[.slice Ao29 t258.length co29, .slice Ao32 t261.length co32, .slice Ao33 t264.length co33] 27 (0, 0)) (bL Bf.out) hb);have n16_ := Am (bB (g := Bq) (o := .cells #[.slice Ao37 t269.length co37, .slice Ao41 t272.length co41, .slice Ao42 t275.length co42] 27 (0, 0)) (bL Bn.out) hb);have n17_ := Am (bB (g := Ba) (o := .cells #[.slice Ao48 t282.length co48, .slice Ao53 t285.length co53, .slice Ao54 t288.length co54] 27 (0, 0)) (bL Bb.out) hb);have n18_ := Am (bP (by repeat (first|(with_reducible first|exact HB.out|apply oA|apply pN|apply o1|refine bS ?_ Br.out|refine bS ?_ Bu.out|refine bS ?_ Bv.out|refine bS ?_ By.out)|exact HB.out)) hb);clear BE Bl Bm Bo Bi Bj Bk Bc Bd Bg BI BJ BK Be Bf Bn Bb HB;revert n0_ n1_ n2_ n3_ n4_ n5_ n6_ n7_ n8_ n9_ n10_ n11_ n12_ n13_ n14_ n15_ n16_ n17_ n18_;intro BE Bl Bm Bo Bi Bj Bk Bc Bd Bg BI BJ BK B5 Be Bf Bn Bb HB;(try clear hb);(try clear hb2);(try clear hk);(try clear hi);(try clear ho0);obtain ⟨Ao90, co90, eo90⟩ := Kd.R_slice B5.out;subst eo90)|((with_reducible refine gate_callee (f := 23) rfl ?_);refine goesL_ (some 60) rfl rfl Try.func23 (by kernel_rfl) rfl #[.slice Ao45 t279.length co45, .slice Ao90 t304.length co90] rfl (by (try simp only [lM, lC, lN]);first|done|rfl|(simp only [lD, lT];rfl)) ?_;(with_reducible refine (laws_eqBoolS.calls kj15 _ _ t279 _ _ t304 true _ ?side1 ?side2 ?side3 ?side4 A78.out).mono ?_);(case side1 => repeat (first|exact (Kd.R_reads' BE.out).2.2|(with_reducible refine cA ?_ _)|(with_reducible refine cN ?_ _)|(with_reducible refine cD ?_)));(case side2 => exact (Kd.R_reads' BE.out).2.1);(case side3 => repeat (first|exact (Kd.R_reads' B5.out).2.2|(with_reducible refine cA ?_ _)|(with_reducible refine cN ?_ _)|(with_reducible refine cD ?_)));(case side4 => exact (Kd.R_reads' B5.out).2.1);rintro e w' ⟨rfl, ⟨nd, rfl⟩⟩;refine ⟨_, rfl, ?_⟩;have MG := Dg.out;have MH := De.out;have MI := B3.out;have MJ := BS.out;have MK := BQ.out;have ML := B4.out;have FU : w89.cell? ⟨Bq, 0, none⟩ = some (.slice Ao37 t269.length co37) := (bC Bn.out 0).trans rfl;have FV : w89.cell? ⟨Bq, 1, none⟩ = some (.slice Ao41 t272.length co41) := (bC Bn.out 1).trans rfl;have FW : w89.cell? ⟨Bq, 2, none⟩ = some (.slice Ao42 t275.length co42) := (bC Bn.out 2).trans rfl;have FX := bF Bn.out 0;have FY := bF Bn.out 1;have FZ := bF Bn.out 2)|((with_reducible refine gate_callee (f := 18) rfl ?_);refine goesL_ (some 64) rfl rfl Try.func18 (by kernel_rfl) rfl #[.agg #[.slice Ao37 t269.length co37, .slice Ao41 t272.length co41, .slice Ao42 t275.length co42], .int .i64 1] rfl (by (try simp only [lM, lC, lN]);first|done|rfl|(simp only [lD, lT];rfl)) ?_;(with_reducible refine (laws_markSigs.calls kj15 (fun k_ => some k_ = (.slice Ao37 t269.length co37 : Value).ownBlock) (.slice Ao37 t269.length co37) t269 (fun k_ => some k_ = (.slice Ao41 t272.length co41 : Value).ownBlock) (.slice Ao41 t272.length co41) t272 (fun k_ => some k_ = (.slice Ao42 t275.length co42 : Value).ownBlock) (.slice Ao42 t275.length co42) t275 1 t308 t309 t310 t311 w _ ?side1 ?side2 ?side3 ?side4 ?side5 ?side6 A80.out).mono ?_);(case side1 => repeat (first|(with_reducible first|exact HB.out|apply oA|apply pN|apply o1|refine bS ?_ Br.out|refine bS ?_ Bu.out|refine bS ?_ Bv.out|refine bS ?_ By.out)|exact HB.out));(case side2 => exact Kd.R_tight rfl Bi.out);(case side3 => exact fun k_ e_ => (Bi.out.1 k_ e_.symm).1.1.1.2.2.2.1);(case side4 => exact Kd.R_tight rfl Bj.out);(case side5 => exact fun k_ e_ => (Bj.out.1 k_ e_.symm).1.1.1.2.2.2.1);(case side6 => exact Kd.R_tight rfl Bk.out);rintro e w95 ⟨rfl, hy0, hy1, hy2, hb, hkp⟩;refine ⟨_, rfl, ?_⟩;have n0_ := Am (rM (ok' := fun k_ => some k_ ≠ (.slice Ao29 t258.length co29 : Value).ownBlock ∧ some k_ ≠ (.slice Ao32 t261.length co32 : Value).ownBlock ∧ some k_ ≠ (.slice Ao37 t269.length co37 : Value).ownBlock ∧ some k_ ≠ (.slice Ao41 t272.length co41 : Value).ownBlock ∧ some k_ ≠ (.slice Ao48 t282.length co48 : Value).ownBlock ∧ some k_ ≠ (.slice Ao53 t285.length co53 : Value).ownBlock ∧ some k_ ≠ (.slice Ao85 t294.length co85 : Value).ownBlock ∧ some k_ ≠ (.slice Ao86 t297.length co86 : Value).ownBlock ∧ some k_ ≠ (.slice Ao90 t304.length co90 : Value).ownBlock) (Kd.R_keptB ((Kd.R_apart' BE.out (Kd.R_typed Bk.out) (by decide))) hkp (fun k_ hk_ hs_ => Or.elim hs_ (fun e_ => (hk_.1.1.1.1.2.2.1) e_) (fun e_ => Or.elim e_ (fun e_ => (hk_.1.1.1.1.2.2.2.1) e_) (fun e_ => (hk_.2) e_)))) (fun k_ hk_ => ⟨hk_.1.1.1.1.1.1, hk_.1.1.1.1.1.2.1, hk_.1.1.1.1.1.2.2.1, hk_.1.1.1.1.1.2.2.2.1, hk_.1.1.1.1.1.2.2.2.2.1, hk_.1.1.1.1.1.2.2.2.2.2, hk_.1.1.1.1.2, hk_.1.1.1.2, hk_.1.1.2⟩));have n1_ := Am (rM (ok' := fun k_ => some k_ ≠ (.slice Ao45 t279.length co45 : Value).ownBlock ∧ some k_ ≠ (.slice Ao32 t261.length co32 : Value).ownBlock ∧ some k_ ≠ (.slice Ao37 t269.length co37 : Value).ownBlock ∧ some k_ ≠ (.slice Ao41 t272.length co41 : Value).ownBlock ∧ some k_ ≠ (.slice Ao48 t282.length co48 : Value).ownBlock ∧ some k_ ≠ (.slice Ao53 t285.length co53 : Value).ownBlock ∧ some k_ ≠ (.slice Ao85 t294.length co85 : Value).ownBlock ∧ some k_ ≠ (.slice Ao86 t297.length co86 : Value).ownBlock ∧ some k_ ≠ (.slice Ao90 t304.length co90 : Value).ownBlock) (Kd.R_keptB ((Kd.R_apart' Bl.out (Kd.R_typed Bk.out) (by decide))) hkp (fun k_ hk_ hs_ => Or.elim hs_ (fun e_ => (hk_.1.1.1.1.2.2.1) e_) (fun e_ => Or.elim e_ (fun e_ => (hk_.1.1.1.1.2.2.2.1) e_) (fun e_ => (hk_.2) e_)))) (fun k_ hk_ => ⟨hk_.1.1.1.1.1.1, hk_.1.1.1.1.1.2.1, hk_.1.1.1.1.1.2.2.1, hk_.1.1.1.1.1.2.2.2.1, hk_.1.1.1.1.1.2.2.2.2.1, hk_.1.1.1.1.1.2.2.2.2.2, hk_.1.1.1.1.2, hk_.1.1.1.2, hk_.1.1.2⟩));have n2_ := Am (rM (ok' := fun k_ => some k_ ≠ (.slice Ao45 t279.length co45 : Value).ownBlock ∧ some k_ ≠ (.slice Ao29 t258.length co29 : Value).ownBlock ∧ some k_ ≠ (.slice Ao37 t269.length co37 : Value).ownBlock ∧ some k_ ≠ (.slice Ao41 t272.length co41 : Value).ownBlock ∧ some k_ ≠ (.slice Ao48 t282.length co48 : Value).ownBlock ∧ some k_ ≠ (.slice Ao53 t285.length co53 : Value).ownBlock ∧ some k_ ≠ (.slice Ao85 t294.length co85 : Value).ownBlock ∧ some k_ ≠ (.slice Ao86 t297.length co86 : Value).ownBlock ∧ some k_ ≠ (.slice Ao90 t304.length co90 : Value).ownBlock) (Kd.R_keptB ((Kd.R_apart' Bm.out (Kd.R_typed Bk.out) (by decide))) hkp (fun k_ hk_ hs_ => Or.elim hs_ (fun e_ => (hk_.1.1.1.1.2.2.1) e_) (fun e_ => Or.elim e_ (fun e_ => (hk_.1.1.1.1.2.2.2.1) e_) (fun e_ => (hk_.2) e_)))) (fun k_ hk_ => ⟨hk_.1.1.1.1.1.1, hk_.1.1.1.1.1.2.1, hk_.1.1.1.1.1.2.2.1, hk_.1.1.1.1.1.2.2.2.1, hk_.1.1.1.1.1.2.2.2.2.1, hk_.1.1.1.1.1.2.2.2.2.2, hk_.1.1.1.1.2, hk_.1.1.1.2, hk_.1.1.2⟩));have n3_ := Am (rM (ok' := fun k_ => some k_ ≠ (.slice Ao42 t275.length co42 : Value).ownBlock ∧ some k_ ≠ (.slice Ao54 t288.length co54 : Value).ownBlock ∧ some k_ ≠ (.slice Ao87 t300.length co87 : Value).ownBlock) (Kd.R_keptB ((Kd.R_apart' (Kd.R_apart' Bo.out (Kd.R_typed Bi.out) (by decide)) (Kd.R_typed Bj.out) (by decide))) hkp (fun k_ hk_ hs_ => Or.elim hs_ (fun e_ => (hk_.1.2) e_) (fun e_ => Or.elim e_ (fun e_ => (hk_.2) e_) (fun e_ => (hk_.1.1.1.1) e_)))) (fun k_ hk_ => ⟨hk_.1.1.1.1.1, hk_.1.1.1.1.2, hk_.1.1.1.2⟩));have n4_ := Am (Kd.R_reok rfl hy0 (fun k_ e_ => Bi.out.1 k_ e_));have n5_ := Am (Kd.R_reok rfl hy1 (fun k_ e_ => Bj.out.1 k_ e_));have n6_ := Am (Kd.R_reok rfl hy2 (fun k_ e_ => Bk.out.1 k_ e_));have n7_ := Am (rM (ok' := fun k_ => some k_ ≠ (.slice Ao45 t279.length co45 : Value).ownBlock ∧ some k_ ≠ (.slice Ao29 t258.length co29 : Value).ownBlock ∧ some k_ ≠ (.slice Ao32 t261.length co32 : Value).ownBlock ∧ some k_ ≠ (.slice Ao37 t269.length co37 : Value).ownBlock ∧ some k_ ≠ (.slice Ao41 t272.length co41 : Value).ownBlock ∧ some k_ ≠ (.slice Ao53 t285.length co53 : Value).ownBlock ∧ some k_ ≠ (.slice Ao85 t294.length co85 : Value).ownBlock ∧ some k_ ≠ (.slice Ao86 t297.length co86 : Value).ownBlock ∧ some k_ ≠ (.slice Ao90 t304.length co90 : Value).ownBlock) (Kd.R_keptB ((Kd.R_apart' Bc.out (Kd.R_typed Bk.out) (by decide))) hkp (fun k_ hk_ hs_ => Or.elim hs_ (fun e_ => (hk_.1.1.1.1.2.2.2.1) e_) (fun e_ => Or.elim e_ (fun e_ => (hk_.1.1.1.1.2.2.2.2.1) e_) (fun e_ => (hk_.2) e_)))) (fun k_ hk_ => ⟨hk_.1.1.1.1.1.1, hk_.1.1.1.1.1.2.1, hk_.1.1.1.1.1.2.2.1, hk_.1.1.1.1.1.2.2.2.1, hk_.1.1.1.1.1.2.2.2.2.1, hk_.1.1.1.1.1.2.2.2.2.2, hk_.1.1.1.1.2, hk_.1.1.1.2, hk_.1.1.2⟩));have n8_ := Am (rM (ok' := fun k_ => some k_ ≠ (.slice Ao45 t279.length co45 : Value).ownBlock ∧ some k_ ≠ (.slice Ao29 t258.length co29 : Value).ownBlock ∧ some k_ ≠ (.slice Ao32 t261.length co32 : Value).ownBlock ∧ some k_ ≠ (.slice Ao37 t269.length co37 : Value).ownBlock ∧ some k_ ≠ (.slice Ao41 t272.length co41 : Value).ownBlock ∧ some k_ ≠ (.slice Ao48 t282.length co48 : Value).ownBlock ∧ some k_ ≠ (.slice Ao85 t294.length co85 : Value).ownBlock ∧ some k_ ≠ (.slice Ao86 t297.length co86 : Value).ownBlock ∧ some k_ ≠ (.slice Ao90 t304.length co90 : Value).ownBlock) (Kd.R_keptB ((Kd.R_apart' Bd.out (Kd.R_typed Bk.out) (by decide))) hkp (fun k_ hk_ hs_ => Or.elim hs_ (fun e_ => (hk_.1.1.1.1.2.2.2.1) e_) (fun e_ => Or.elim e_ (fun e_ => (hk_.1.1.1.1.2.2.2.2.1) e_) (fun e_ => (hk_.2) e_)))) (fun k_ hk_ => ⟨hk_.1.1.1.1.1.1, hk_.1.1.1.1.1.2.1, hk_.1.1.1.1.1.2.2.1, hk_.1.1.1.1.1.2.2.2.1, hk_.1.1.1.1.1.2.2.2.2.1, hk_.1.1.1.1.1.2.2.2.2.2, hk_.1.1.1.1.2, hk_.1.1.1.2, hk_.1.1.2⟩));have n9_ := Am (rM (ok' := fun k_ => some k_ ≠ (.slice Ao33 t264.length co33 : Value).ownBlock ∧ some k_ ≠ (.slice Ao42 t275.length co42 : Value).ownBlock ∧ some k_ ≠ (.slice Ao87 t300.length co87 : Value).ownBlock) (Kd.R_keptB ((Kd.R_apart' (Kd.R_apart' Bg.out (Kd.R_typed Bi.out) (by decide)) (Kd.R_typed Bj.out) (by decide))) hkp (fun k_ hk_ hs_ => Or.elim hs_ (fun e_ => (hk_.1.2) e_) (fun e_ => Or.elim e_ (fun e_ => (hk_.2) e_) (fun e_ => (hk_.1.1.1.2) e_)))) (fun k_ hk_ => ⟨hk_.1.1.1.1.1, hk_.1.1.1.1.2, hk_.1.1.1.2⟩));have n10_ := Am (blk_kept (bL Be.out) hkp (fun hs_ => Or.elim hs_ (fun e_ => (fun e_ => (Kd.R_ne Bi.out Be.out (by decide)) e_) e_) (fun e_ => Or.elim e_ (fun e_ => (fun e_ => (Kd.R_ne Bj.out Be.out (by decide)) e_) e_) (fun e_ => (fun e_ => (Kd.R_ne Bk.out Be.out (by decide)) e_) e_))));have n11_ := Am (blk_kept (bL Bf.out) hkp (fun hs_ => Or.elim hs_ (fun e_ => (fun e_ => (Kd.R_ne Bi.out Bf.out (by decide)) e_) e_) (fun e_ => Or.elim e_ (fun e_ => (fun e_ => (Kd.R_ne Bj.out Bf.out (by decide)) e_) e_) (fun e_ => (fun e_ => (Kd.R_ne Bk.out Bf.out (by decide)) e_) e_))));have n12_ := Am (blk_kept (bL Bn.out) hkp (fun hs_ => Or.elim hs_ (fun e_ => (fun e_ => (Kd.R_ne Bi.out Bn.out (by decide)) e_) e_) (fun e_ => Or.elim e_ (fun e_ => (fun e_ => (Kd.R_ne Bj.out Bn.out (by decide)) e_) e_) (fun e_ => (fun e_ => (Kd.R_ne Bk.out Bn.out (by decide)) e_) e_))));have n13_ := Am (blk_kept (bL Bb.out) hkp (fun hs_ => Or.elim hs_ (fun e_ => (fun e_ => (Kd.R_ne Bi.out Bb.out (by decide)) e_) e_) (fun e_ => Or.elim e_ (fun e_ => (fun e_ => (Kd.R_ne Bj.out Bb.out (by decide)) e_) e_) (fun e_ => (fun e_ => (Kd.R_ne Bk.out Bb.out (by decide)) e_) e_))));have n14_ := Am (rM (ok' := fun k_ => some k_ ≠ (.slice Ao45 t279.length co45 : Value).ownBlock ∧ some k_ ≠ (.slice Ao29 t258.length co29 : Value).ownBlock ∧ some k_ ≠ (.slice Ao32 t261.length co32 : Value).ownBlock ∧ some k_ ≠ (.slice Ao37 t269.length co37 : Value).ownBlock ∧ some k_ ≠ (.slice Ao41 t272.length co41 : Value).ownBlock ∧ some k_ ≠ (.slice Ao48 t282.length co48 : Value).ownBlock ∧ some k_ ≠ (.slice Ao53 t285.length co53 : Value).ownBlock ∧ some k_ ≠ (.slice Ao86 t297.length co86 : Value).ownBlock ∧ some k_ ≠ (.slice Ao90 t304.length co90 : Value).ownBlock) (Kd.R_keptB ((Kd.R_apart' BI.out (Kd.R_typed Bk.out) (by decide))) hkp (fun k_ hk_ hs_ => Or.elim hs_ (fun e_ => (hk_.1.1.1.1.1.2) e_) (fun e_ => Or.elim e_ (fun e_ => (hk_.1.1.1.1.2) e_) (fun e_ => (hk_.2) e_)))) (fun k_ hk_ => ⟨hk_.1.1.1.1.1.1.1.1.1.2, hk_.1.1.1.1.1.1.1.1.2, hk_.1.1.1.1.1.1.1.2, hk_.1.1.1.1.1.1.2, hk_.1.1.1.1.1.2, hk_.1.1.1.1.2, hk_.1.1.1.2, hk_.1.1.1.1.1.1.1.1.1.1, hk_.1.1.2⟩));have n15_ := Am (rM (ok' := fun k_ => some k_ ≠ (.slice Ao45 t279.length co45 : Value).ownBlock ∧ some k_ ≠ (.slice Ao29 t258.length co29 : Value).ownBlock ∧ some k_ ≠ (.slice Ao32 t261.length co32 : Value).ownBlock ∧ some k_ ≠ (.slice Ao37 t269.length co37 : Value).ownBlock ∧ some k_ ≠ (.slice Ao41 t272.length co41 : Value).ownBlock ∧ some k_ ≠ (.slice Ao48 t282.length co48 : Value).ownBlock ∧ some k_ ≠ (.slice Ao53 t285.length co53 : Value).ownBlock ∧ some k_ ≠ (.slice Ao85 t294.length co85 : Value).ownBlock ∧ some k_ ≠ (.slice Ao90 t304.length co90 : Value).ownBlock) (Kd.R_keptB ((Kd.R_apart' BJ.out (Kd.R_typed Bk.out) (by decide))) hkp (fun k_ hk_ hs_ => Or.elim hs_ (fun e_ => (hk_.1.1.1.1.1.2) e_) (fun e_ => Or.elim e_ (fun e_ => (hk_.1.1.1.1.2) e_) (fun e_ => (hk_.2) e_)))) (fun k_ hk_ => ⟨hk_.1.1.1.1.1.1.1.1.1.2, hk_.1.1.1.1.1.1.1.1.2, hk_.1.1.1.1.1.1.1.2, hk_.1.1.1.1.1.1.2, hk_.1.1.1.1.1.2, hk_.1.1.1.1.2, hk_.1.1.1.2, hk_.1.1.1.1.1.1.1.1.1.1, hk_.1.1.2⟩));have n16_ := Am (rM (ok' := fun k_ => some k_ ≠ (.slice Ao33 t264.length co33 : Value).ownBlock ∧ some k_ ≠ (.slice Ao42 t275.length co42 : Value).ownBlock ∧ some k_ ≠ (.slice Ao54 t288.length co54 : Value).ownBlock) (Kd.R_keptB ((Kd.R_apart' (Kd.R_apart' BK.out (Kd.R_typed Bi.out) (by decide)) (Kd.R_typed Bj.out) (by decide))) hkp (fun k_ hk_ hs_ => Or.elim hs_ (fun e_ => (hk_.1.2) e_) (fun e_ => Or.elim e_ (fun e_ => (hk_.2) e_) (fun e_ => (hk_.1.1.1.2) e_)))) (fun k_ hk_ => ⟨hk_.1.1.1.1.1.2, hk_.1.1.1.1.2, hk_.1.1.1.2⟩));have n17_ := Am (rM (ok' := fun k_ => some k_ ≠ (.slice Ao45 t279.length co45 : Value).ownBlock ∧ some k_ ≠ (.slice Ao29 t258.length co29 : Value).ownBlock ∧ some k_ ≠ (.slice Ao32 t261.length co32 : Value).ownBlock ∧ some k_ ≠ (.slice Ao37 t269.length co37 : Value).ownBlock ∧ some k_ ≠ (.slice Ao41 t272.length co41 : Value).ownBlock ∧ some k_ ≠ (.slice Ao48 t282.length co48 : Value).ownBlock ∧ some k_ ≠ (.slice Ao53 t285.length co53 : Value).ownBlock ∧ some k_ ≠ (.slice Ao85 t294.length co85 : Value).ownBlock ∧ some k_ ≠ (.slice Ao86 t297.length co86 : Value).ownBlock) (Kd.R_keptB ((Kd.R_apart' B5.out (Kd.R_typed Bk.out) (by decide))) hkp (fun k_ hk_ hs_ => Or.elim hs_ (fun e_ => (hk_.1.1.1.1.1.1.2) e_) (fun e_ => Or.elim e_ (fun e_ => (hk_.1.1.1.1.1.2) e_) (fun e_ => (hk_.2) e_)))) (fun k_ hk_ => ⟨hk_.1.1.1.1.1.1.1.1.1.1.2, hk_.1.1.1.1.1.1.1.1.1.2, hk_.1.1.1.1.1.1.1.1.2, hk_.1.1.1.1.1.1.1.2, hk_.1.1.1.1.1.1.2, hk_.1.1.1.1.1.2, hk_.1.1.1.1.2, hk_.1.1.1.2, hk_.1.1.2⟩));have n18_ := Am (hb);clear BE Bl Bm Bo Bi Bj Bk Bc Bd Bg Be Bf Bn Bb BI BJ BK B5 HB;revert n0_ n1_ n2_ n3_ n4_ n5_ n6_ n7_ n8_ n9_ n10_ n11_ n12_ n13_ n14_ n15_ n16_ n17_ n18_;intro BE Bl Bm Bo Bi Bj Bk Bc Bd Bg Be Bf Bn Bb BI BJ BK B5 HB;(try clear hb);(try clear hkp);(try clear hy0);(try clear hy1);(try clear hy2))|((with_reducible refine gate_callee (f := 24) rfl ?_);refine goesL_ (some 67) rfl rfl Try.func24 (by kernel_rfl) rfl #[.slice Ao45 t279.length co45, .int .i64 t308] rfl (by (try simp only [lM, lC, lN]);first|done|rfl|(simp only [lD, lT];rfl)) ?_;(with_reducible refine (laws_markBoolS.calls kj15 (fun k_ => some k_ = (.slice Ao45 t279.length co45 : Value).ownBlock) (.slice Ao45 t279.length co45) t279 t308 t312 t313 w _ ?side1 ?side2 A81.out).mono ?_);(case side1 => repeat (first|(with_reducible first|exact HB.out|apply oA|apply pN|apply o1|refine bS ?_ Br.out|refine bS ?_ Bu.out|refine bS ?_ Bv.out|refine bS ?_ By.out)|exact HB.out));(case side2 => exact Kd.R_tight rfl BE.out);rintro e w96 ⟨rfl, hy0, hb, hkp⟩;refine ⟨_, rfl, ?_⟩;have n0_ := Am (Kd.R_reok rfl hy0 (fun k_ e_ => BE.out.1 k_ e_));have n1_ := Am (rM (ok' := fun k_ => some k_ ≠ (.slice Ao45 t279.length co45 : Value).ownBlock ∧ some k_ ≠ (.slice Ao32 t261.length co32 : Value).ownBlock ∧ some k_ ≠ (.slice Ao37 t269.length co37 : Value).ownBlock ∧ some k_ ≠ (.slice Ao41 t272.length co41 : Value).ownBlock ∧ some k_ ≠ (.slice Ao48 t282.length co48 : Value).ownBlock ∧ some k_ ≠ (.slice Ao53 t285.length co53 : Value).ownBlock ∧ some k_ ≠ (.slice Ao85 t294.length co85 : Value).ownBlock ∧ some k_ ≠ (.slice Ao86 t297.length co86 : Value).ownBlock ∧ some k_ ≠ (.slice Ao90 t304.length co90 : Value).ownBlock) (Kd.R_keptB (Bl.out) hkp (fun k_ hk_ hs_ => (hk_.1) hs_)) (fun k_ hk_ => ⟨hk_.1.1, hk_.1.2.1, hk_.1.2.2.1, hk_.1.2.2.2.1, hk_.1.2.2.2.2.1, hk_.1.2.2.2.2.2.1, hk_.1.2.2.2.2.2.2.1, hk_.1.2.2.2.2.2.2.2.1, hk_.1.2.2.2.2.2.2.2.2⟩));have n2_ := Am (rM (ok' := fun k_ => some k_ ≠ (.slice Ao45 t279.length co45 : Value).ownBlock ∧ some k_ ≠ (.slice Ao29 t258.length co29 : Value).ownBlock ∧ some k_ ≠ (.slice Ao37 t269.length co37 : Value).ownBlock ∧ some k_ ≠ (.slice Ao41 t272.length co41 : Value).ownBlock ∧ some k_ ≠ (.slice Ao48 t282.length co48 : Value).ownBlock ∧ some k_ ≠ (.slice Ao53 t285.length co53 : Value).ownBlock ∧ some k_ ≠ (.slice Ao85 t294.length co85 : Value).ownBlock ∧ some k_ ≠ (.slice Ao86 t297.length co86 : Value).ownBlock ∧ some k_ ≠ (.slice Ao90 t304.length co90 : Value).ownBlock) (Kd.R_keptB (Bm.out) hkp (fun k_ hk_ hs_ => (hk_.1) hs_)) (fun k_ hk_ => ⟨hk_.1.1, hk_.1.2.1, hk_.1.2.2.1, hk_.1.2.2.2.1, hk_.1.2.2.2.2.1, hk_.1.2.2.2.2.2.1, hk_.1.2.2.2.2.2.2.1, hk_.1.2.2.2.2.2.2.2.1, hk_.1.2.2.2.2.2.2.2.2⟩));have n3_ := Am (rM (ok' := fun k_ => some k_ ≠ (.slice Ao42 t275.length co42 : Value).ownBlock ∧ some k_ ≠ (.slice Ao54 t288.length co54 : Value).ownBlock ∧ some k_ ≠ (.slice Ao87 t300.length co87 : Value).ownBlock) (Kd.R_keptB ((Kd.R_apart' Bo.out (Kd.R_typed BE.out) (by decide))) hkp (fun k_ hk_ hs_ => (hk_.2) hs_)) (fun k_ hk_ => ⟨hk_.1.1.1, hk_.1.1.2.1, hk_.1.1.2.2⟩));have n4_ := Am (rM (ok' := fun k_ => some k_ ≠ (.slice Ao45 t279.length co45 : Value).ownBlock ∧ some k_ ≠ (.slice Ao29 t258.length co29 : Value).ownBlock ∧ some k_ ≠ (.slice Ao32 t261.length co32 : Value).ownBlock ∧ some k_ ≠ (.slice Ao41 t272.length co41 : Value).ownBlock ∧ some k_ ≠ (.slice Ao48 t282.length co48 : Value).ownBlock ∧ some k_ ≠ (.slice Ao53 t285.length co53 : Value).ownBlock ∧ some k_ ≠ (.slice Ao85 t294.length co85 : Value).ownBlock ∧ some k_ ≠ (.slice Ao86 t297.length co86 : Value).ownBlock ∧ some k_ ≠ (.slice Ao90 t304.length co90 : Value).ownBlock) (Kd.R_keptB (Bi.out) hkp (fun k_ hk_ hs_ => (hk_.1.1.1.1) hs_)) (fun k_ hk_ => ⟨hk_.1.1.1.1.1, hk_.1.1.1.1.2.1, hk_.1.1.1.1.2.2.1, hk_.1.1.1.1.2.2.2.1, hk_.1.1.1.1.2.2.2.2.1, hk_.1.1.1.1.2.2.2.2.2, hk_.1.1.1.2, hk_.1.1.2, hk_.1.2⟩));have n5_ := Am (rM (ok' := fun k_ => some k_ ≠ (.slice Ao45 t279.length co45 : Value).ownBlock ∧ some k_ ≠ (.slice Ao29 t258.length co29 : Value).ownBlock ∧ some k_ ≠ (.slice Ao32 t261.length co32 : Value).ownBlock ∧ some k_ ≠ (.slice Ao37 t269.length co37 : Value).ownBlock ∧ some k_ ≠ (.slice Ao48 t282.length co48 : Value).ownBlock ∧ some k_ ≠ (.slice Ao53 t285.length co53 : Value).ownBlock ∧ some k_ ≠ (.slice Ao85 t294.length co85 : Value).ownBlock ∧ some k_ ≠ (.slice Ao86 t297.length co86 : Value).ownBlock ∧ some k_ ≠ (.slice Ao90 t304.length co90 : Value).ownBlock) (Kd.R_keptB (Bj.out) hkp (fun k_ hk_ hs_ => (hk_.1.1.1.1) hs_)) (fun k_ hk_ => ⟨hk_.1.1.1.1.1, hk_.1.1.1.1.2.1, hk_.1.1.1.1.2.2.1, hk_.1.1.1.1.2.2.2.1, hk_.1.1.1.1.2.2.2.2.1, hk_.1.1.1.1.2.2.2.2.2, hk_.1.1.1.2, hk_.1.1.2, hk_.1.2⟩));have n6_ := Am (rM (ok' := fun k_ => some k_ ≠ (.slice Ao33 t264.length co33 : Value).ownBlock ∧ some k_ ≠ (.slice Ao54 t288.length co54 : Value).ownBlock ∧ some k_ ≠ (.slice Ao87 t300.length co87 : Value).ownBlock) (Kd.R_keptB ((Kd.R_apart' Bk.out (Kd.R_typed BE.out) (by decide))) hkp (fun k_ hk_ hs_ => (hk_.2) hs_)) (fun k_ hk_ => ⟨hk_.1.1.1.1, hk_.1.1.1.2, hk_.1.1.2⟩));have n7_ := Am (rM (ok' := fun k_ => some k_ ≠ (.slice Ao45 t279.length co45 : Value).ownBlock ∧ some k_ ≠ (.slice Ao29 t258.length co29 : Value).ownBlock ∧ some k_ ≠ (.slice Ao32 t261.length co32 : Value).ownBlock ∧ some k_ ≠ (.slice Ao37 t269.length co37 : Value).ownBlock ∧ some k_ ≠ (.slice Ao41 t272.length co41 : Value).ownBlock ∧ some k_ ≠ (.slice Ao53 t285.length co53 : Value).ownBlock ∧ some k_ ≠ (.slice Ao85 t294.length co85 : Value).ownBlock ∧ some k_ ≠ (.slice Ao86 t297.length co86 : Value).ownBlock ∧ some k_ ≠ (.slice Ao90 t304.length co90 : Value).ownBlock) (Kd.R_keptB (Bc.out) hkp (fun k_ hk_ hs_ => (hk_.1) hs_)) (fun k_ hk_ => ⟨hk_.1.1, hk_.1.2.1, hk_.1.2.2.1, hk_.1.2.2.2.1, hk_.1.2.2.2.2.1, hk_.1.2.2.2.2.2.1, hk_.1.2.2.2.2.2.2.1, hk_.1.2.2.2.2.2.2.2.1, hk_.1.2.2.2.2.2.2.2.2⟩));have n8_ := Am (rM (ok' := fun k_ => some k_ ≠ (.slice Ao45 t279.length co45 : Value).ownBlock ∧ some k_ ≠ (.slice Ao29 t258.length co29 : Value).ownBlock ∧ some k_ ≠ (.slice Ao32 t261.length co32 : Value).ownBlock ∧ some k_ ≠ (.slice Ao37 t269.length co37 : Value).ownBlock ∧ some k_ ≠ (.slice Ao41 t272.length co41 : Value).ownBlock ∧ some k_ ≠ (.slice Ao48 t282.length co48 : Value).ownBlock ∧ some k_ ≠ (.slice Ao85 t294.length co85 : Value).ownBlock ∧ some k_ ≠ (.slice Ao86 t297.length co86 : Value).ownBlock ∧ some k_ ≠ (.slice Ao90 t304.length co90 : Value).ownBlock) (Kd.R_keptB (Bd.out) hkp (fun k_ hk_ hs_ => (hk_.1) hs_)) (fun k_ hk_ => ⟨hk_.1.1, hk_.1.2.1, hk_.1.2.2.1, hk_.1.2.2.2.1, hk_.1.2.2.2.2.1, hk_.1.2.2.2.2.2.1, hk_.1.2.2.2.2.2.2.1, hk_.1.2.2.2.2.2.2.2.1, hk_.1.2.2.2.2.2.2.2.2⟩));have n9_ := Am (rM (ok' := fun k_ => some k_ ≠ (.slice Ao33 t264.length co33 : Value).ownBlock ∧ some k_ ≠ (.slice Ao42 t275.length co42 : Value).ownBlock ∧ some k_ ≠ (.slice Ao87 t300.length co87 : Value).ownBlock) (Kd.R_keptB ((Kd.R_apart' Bg.out (Kd.R_typed BE.out) (by decide))) hkp (fun k_ hk_ hs_ => (hk_.2) hs_)) (fun k_ hk_ => ⟨hk_.1.1.1, hk_.1.1.2.1, hk_.1.1.2.2⟩));have n10_ := Am (blk_kept (bL Be.out) hkp (fun hs_ => (fun e_ => (Kd.R_ne BE.out Be.out (by decide)) e_) hs_));have n11_ := Am (blk_kept (bL Bf.out) hkp (fun hs_ => (fun e_ => (Kd.R_ne BE.out Bf.out (by decide)) e_) hs_));have n12_ := Am (blk_kept (bL Bn.out) hkp (fun hs_ => (fun e_ => (Kd.R_ne BE.out Bn.out (by decide)) e_) hs_));have n13_ := Am (blk_kept (bL Bb.out) hkp (fun hs_ => (fun e_ => (Kd.R_ne BE.out Bb.out (by decide)) e_) hs_));have n14_ := Am (rM (ok' := fun k_ => some k_ ≠ (.slice Ao45 t279.length co45 : Value).ownBlock ∧ some k_ ≠ (.slice Ao29 t258.length co29 : Value).ownBlock ∧ some k_ ≠ (.slice Ao32 t261.length co32 : Value).ownBlock ∧ some k_ ≠ (.slice Ao37 t269.length co37 : Value).ownBlock ∧ some k_ ≠ (.slice Ao41 t272.length co41 : Value).ownBlock ∧ some k_ ≠ (.slice Ao48 t282.length co48 : Value).ownBlock ∧ some k_ ≠ (.slice Ao53 t285.length co53 : Value).ownBlock ∧ some k_ ≠ (.slice Ao86 t297.length co86 : Value).ownBlock ∧ some k_ ≠ (.slice Ao90 t304.length co90 : Value).ownBlock) (Kd.R_keptB (BI.out) hkp (fun k_ hk_ hs_ => (hk_.1) hs_)) (fun k_ hk_ => ⟨hk_.1.1, hk_.1.2.1, hk_.1.2.2.1, hk_.1.2.2.2.1, hk_.1.2.2.2.2.1, hk_.1.2.2.2.2.2.1, hk_.1.2.2.2.2.2.2.1, hk_.1.2.2.2.2.2.2.2.1, hk_.1.2.2.2.2.2.2.2.2⟩));have n15_ := Am (rM (ok' := fun k_ => some k_ ≠ (.slice Ao45 t279.length co45 : Value).ownBlock ∧ some k_ ≠ (.slice Ao29 t258.length co29 : Value).ownBlock ∧ some k_ ≠ (.slice Ao32 t261.length co32 : Value).ownBlock ∧ some k_ ≠ (.slice Ao37 t269.length co37 : Value).ownBlock ∧ some k_ ≠ (.slice Ao41 t272.length co41 : Value).ownBlock ∧ some k_ ≠ (.slice Ao48 t282.length co48 : Value).ownBlock ∧ some k_ ≠ (.slice Ao53 t285.length co53 : Value).ownBlock ∧ some k_ ≠ (.slice Ao85 t294.length co85 : Value).ownBlock ∧ some k_ ≠ (.slice Ao90 t304.length co90 : Value).ownBlock) (Kd.R_keptB (BJ.out) hkp (fun k_ hk_ hs_ => (hk_.1) hs_)) (fun k_ hk_ => ⟨hk_.1.1, hk_.1.2.1, hk_.1.2.2.1, hk_.1.2.2.2.1, hk_.1.2.2.2.2.1, hk_.1.2.2.2.2.2.1, hk_.1.2.2.2.2.2.2.1, hk_.1.2.2.2.2.2.2.2.1, hk_.1.2.2.2.2.2.2.2.2⟩));have n16_ := Am (rM (ok' := fun k_ => some k_ ≠ (.slice Ao33 t264.length co33 : Value).ownBlock ∧ some k_ ≠ (.slice Ao42 t275.length co42 : Value).ownBlock ∧ some k_ ≠ (.slice Ao54 t288.length co54 : Value).ownBlock) (Kd.R_keptB ((Kd.R_apart' BK.out (Kd.R_typed BE.out) (by decide))) hkp (fun k_ hk_ hs_ => (hk_.2) hs_)) (fun k_ hk_ => ⟨hk_.1.1.1, hk_.1.1.2.1, hk_.1.1.2.2⟩));have n17_ := Am (rM (ok' := fun k_ => some k_ ≠ (.slice Ao45 t279.length co45 : Value).ownBlock ∧ some k_ ≠ (.slice Ao29 t258.length co29 : Value).ownBlock ∧ some k_ ≠ (.slice Ao32 t261.length co32 : Value).ownBlock ∧ some k_ ≠ (.slice Ao37 t269.length co37 : Value).ownBlock ∧ some k_ ≠ (.slice Ao41 t272.length co41 : Value).ownBlock ∧ some k_ ≠ (.slice Ao48 t282.length co48 : Value).ownBlock ∧ some k_ ≠ (.slice Ao53 t285.length co53 : Value).ownBlock ∧ some k_ ≠ (.slice Ao85 t294.length co85 : Value).ownBlock ∧ some k_ ≠ (.slice Ao86 t297.length co86 : Value).ownBlock) (Kd.R_keptB (B5.out) hkp (fun k_ hk_ hs_ => (hk_.1) hs_)) (fun k_ hk_ => ⟨hk_.1.1, hk_.1.2.1, hk_.1.2.2.1, hk_.1.2.2.2.1, hk_.1.2.2.2.2.1, hk_.1.2.2.2.2.2.1, hk_.1.2.2.2.2.2.2.1, hk_.1.2.2.2.2.2.2.2.1, hk_.1.2.2.2.2.2.2.2.2⟩));have n18_ := Am (hb);clear BE Bl Bm Bo Bi Bj Bk Bc Bd Bg Be Bf Bn Bb BI BJ BK B5 HB;revert n0_ n1_ n2_ n3_ n4_ n5_ n6_ n7_ n8_ n9_ n10_ n11_ n12_ n13_ n14_ n15_ n16_ n17_ n18_;intro BE Bl Bm Bo Bi Bj Bk Bc Bd Bg Be Bf Bn Bb BI BJ BK B5 HB;(try clear hb);(try clear hkp);(try clear hy0)))
   (try simp only [Act.put, lA, lZ, lS])
   go_cut [80] (fun v80 wc => ∃ (kq : Nat) (x80_81 : Bool), v80 = .bool x80_81 ∧ Aside0 (laws_FnExactSigsBlock.j1 kq l1 t267 x80_81 l0_0 l0_1 l0_2 t258 t261 t264 t282 t285 t288 = some r) ∧ Aside0 (kq ≤ kj15) ∧ Aside0 (Kd.R Kd.bool 4 wc w.heap.size (fun k_ => some k_ ≠ ((.slice Ao32 t261.length co32) : Value).ownBlock ∧ some k_ ≠ ((.slice Ao37 t269.length co37) : Value).ownBlock ∧ some k_ ≠ ((.slice Ao41 t272.length co41) : Value).ownBlock ∧ some k_ ≠ ((.slice Ao48 t282.length co48) : Value).ownBlock ∧ some k_ ≠ ((.slice Ao53 t285.length co53) : Value).ownBlock) (.slice Ao29 t258.length co29) t258) ∧ Aside0 (Kd.R Kd.bool 4 wc w.heap.size (fun k_ => some k_ ≠ ((.slice Ao29 t258.length co29) : Value).ownBlock ∧ some k_ ≠ ((.slice Ao37 t269.length co37) : Value).ownBlock ∧ some k_ ≠ ((.slice Ao41 t272.length co41) : Value).ownBlock ∧ some k_ ≠ ((.slice Ao48 t282.length co48) : Value).ownBlock ∧ some k_ ≠ ((.slice Ao53 t285.length co53) : Value).ownBlock) (.slice Ao32 t261.length co32) t261) ∧ Aside0 (Kd.R (Kd.int .i64) 3 wc w.heap.size (fun k_ => some k_ ≠ ((.slice Ao42 t275.length co42) : Value).ownBlock ∧ some k_ ≠ ((.slice Ao54 t288.length co54) : Value).ownBlock) (.slice Ao33 t264.length co33) t264) ∧ Aside0 (Kd.R Kd.bool 4 wc w.heap.size (fun k_ => some k_ ≠ ((.slice Ao29 t258.length co29) : Value).ownBlock ∧ some k_ ≠ ((.slice Ao32 t261.length co32) : Value).ownBlock ∧ some k_ ≠ ((.slice Ao41 t272.length co41) : Value).ownBlock ∧ some k_ ≠ ((.slice Ao48 t282.length co48) : Value).ownBlock ∧ some k_ ≠ ((.slice Ao53 t285.length co53) : Value).ownBlock) (.slice Ao37 t269.length co37) t309) ∧ Aside0 (Kd.R Kd.bool 4 wc w.heap.size (fun k_ => some k_ ≠ ((.slice Ao29 t258.length co29) : Value).ownBlock ∧ some k_ ≠ ((.slice Ao32 t261.length co32) : Value).ownBlock ∧ some k_ ≠ ((.slice Ao37 t269.length co37) : Value).ownBlock ∧ some k_ ≠ ((.slice Ao48 t282.length co48) : Value).ownBlock ∧ some k_ ≠ ((.slice Ao53 t285.length co53) : Value).ownBlock) (.slice Ao41 t272.length co41) t310) ∧ Aside0 (Kd.R (Kd.int .i64) 3 wc w.heap.size (fun k_ => some k_ ≠ ((.slice Ao33 t264.length co33) : Value).ownBlock ∧ some k_ ≠ ((.slice Ao54 t288.length co54) : Value).ownBlock) (.slice Ao42 t275.length co42) t311) ∧ Aside0 (Kd.R Kd.bool 4 wc w.heap.size (fun k_ => some k_ ≠ ((.slice Ao29 t258.length co29) : Value).ownBlock ∧ some k_ ≠ ((.slice Ao32 t261.length co32) : Value).ownBlock ∧ some k_ ≠ ((.slice Ao37 t269.length co37) : Value).ownBlock ∧ some k_ ≠ ((.slice Ao41 t272.length co41) : Value).ownBlock ∧ some k_ ≠ ((.slice Ao53 t285.length co53) : Value).ownBlock) (.slice Ao48 t282.length co48) t282) ∧ Aside0 (Kd.R Kd.bool 4 wc w.heap.size (fun k_ => some k_ ≠ ((.slice Ao29 t258.length co29) : Value).ownBlock ∧ some k_ ≠ ((.slice Ao32 t261.length co32) : Value).ownBlock ∧ some k_ ≠ ((.slice Ao37 t269.length co37) : Value).ownBlock ∧ some k_ ≠ ((.slice Ao41 t272.length co41) : Value).ownBlock ∧ some k_ ≠ ((.slice Ao48 t282.length co48) : Value).ownBlock) (.slice Ao53 t285.length co53) t285) ∧ Aside0 (Kd.R (Kd.int .i64) 3 wc w.heap.size (fun k_ => some k_ ≠ ((.slice Ao33 t264.length co33) : Value).ownBlock ∧ some k_ ≠ ((.slice Ao42 t275.length co42) : Value).ownBlock) (.slice Ao54 t288.length co54) t288) ∧ Aside0 (wc.heap[Bt]? = some (.cells #[(.slice A0_0 l0_0.length c0_0), (.slice A0_1 l0_1.length c0_1), (.slice A0_2 l0_2.length c0_2)] 25 (0, 0))) ∧ Aside0 (wc.heap[Bp]? = some (.cells #[(.slice Ao29 t258.length co29), (.slice Ao32 t261.length co32), (.slice Ao33 t264.length co33)] 27 (0, 0))) ∧ Aside0 (wc.heap[Bq]? = some (.cells #[(.slice Ao37 t269.length co37), (.slice Ao41 t272.length co41), (.slice Ao42 t275.length co42)] 27 (0, 0))) ∧ Aside0 (wc.heap[Ba]? = some (.cells #[(.slice Ao48 t282.length co48), (.slice Ao53 t285.length co53), (.slice Ao54 t288.length co54)] 27 (0, 0))) ∧ Aside0 (Below w.heap.size w wc))
   case first =>
    have H := HC82.out
    clear HC82
    by_cases c97 : t312 < 0
    ·rw [if_pos c97] at H
     have c97b0 : decide (t312 < 0) = true := decide_eq_true c97
     clear c97
     (first|rw [c97b0]|(simp only [i64_w, i32_w];rw [c97b0])|skip)
     have H' := Am H
     clear H
     go_wp2
     go_meet
     case rel => exact ⟨_, (true), (by first|rfl|(simp;done)|(simp [*];done)), H', ⟨by have := Fv.out;first|omega|exact Nat.le_refl _⟩, ⟨by (with_reducible repeat (first|apply rA|apply rN|apply rD));exact rM Bl.out (fun _ hk => ⟨hk.2.1, ⟨hk.2.2.1, ⟨hk.2.2.2.1, ⟨hk.2.2.2.2.1, hk.2.2.2.2.2.1⟩⟩⟩⟩)⟩, ⟨by (with_reducible repeat (first|apply rA|apply rN|apply rD));exact rM Bm.out (fun _ hk => ⟨hk.2.1, ⟨hk.2.2.1, ⟨hk.2.2.2.1, ⟨hk.2.2.2.2.1, hk.2.2.2.2.2.1⟩⟩⟩⟩)⟩, ⟨by (with_reducible repeat (first|apply rA|apply rN|apply rD));exact rM Bo.out (fun _ hk => ⟨hk.1, hk.2.1⟩)⟩, ⟨by (with_reducible repeat (first|apply rA|apply rN|apply rD));exact rM Bi.out (fun _ hk => ⟨hk.2.1, ⟨hk.2.2.1, ⟨hk.2.2.2.1, ⟨hk.2.2.2.2.1, hk.2.2.2.2.2.1⟩⟩⟩⟩)⟩, ⟨by (with_reducible repeat (first|apply rA|apply rN|apply rD));exact rM Bj.out (fun _ hk => ⟨hk.2.1, ⟨hk.2.2.1, ⟨hk.2.2.2.1, ⟨hk.2.2.2.2.1, hk.2.2.2.2.2.1⟩⟩⟩⟩)⟩, ⟨by (with_reducible repeat (first|apply rA|apply rN|apply rD));exact rM Bk.out (fun _ hk => ⟨hk.1, hk.2.1⟩)⟩, ⟨by (with_reducible repeat (first|apply rA|apply rN|apply rD));exact rM Bc.out (fun _ hk => ⟨hk.2.1, ⟨hk.2.2.1, ⟨hk.2.2.2.1, ⟨hk.2.2.2.2.1, hk.2.2.2.2.2.1⟩⟩⟩⟩)⟩, ⟨by (with_reducible repeat (first|apply rA|apply rN|apply rD));exact rM Bd.out (fun _ hk => ⟨hk.2.1, ⟨hk.2.2.1, ⟨hk.2.2.2.1, ⟨hk.2.2.2.2.1, hk.2.2.2.2.2.1⟩⟩⟩⟩)⟩, ⟨by (with_reducible repeat (first|apply rA|apply rN|apply rD));exact rM Bg.out (fun _ hk => ⟨hk.1, hk.2.1⟩)⟩, ⟨by (with_reducible repeat (first|refine bN ?_ _|refine bD ?_|refine bA ?_ _));exact Be.out⟩, ⟨by (with_reducible repeat (first|refine bN ?_ _|refine bD ?_|refine bA ?_ _));exact Bf.out⟩, ⟨by (with_reducible repeat (first|refine bN ?_ _|refine bD ?_|refine bA ?_ _));exact Bn.out⟩, ⟨by (with_reducible repeat (first|refine bN ?_ _|refine bD ?_|refine bA ?_ _));exact Bb.out⟩, ⟨by repeat (first|(with_reducible first|exact HB.out|apply oA|apply pN|apply o1|refine bS ?_ Br.out|refine bS ?_ Bu.out|refine bS ?_ Bv.out|refine bS ?_ By.out)|exact HB.out)⟩⟩
    rw [if_neg c97] at H
    have c97b0 : decide (t312 < 0) = false := decide_eq_false c97
    clear c97
    (first|rw [c97b0]|(simp only [i64_w, i32_w];rw [c97b0])|skip)
    replace H := Option.bind_eq_some_iff.mp H
    obtain ⟨t314, A980, H⟩ := H
    replace H : (if t314 = true then (laws_FnExactSigsBlock.j1 kj15 l1 t267 (t291 != t267) l0_0 l0_1 l0_2 t258 t261 t264 t282 t285 t288) else (laws_FnExactSigsBlock.j1 kj15 l1 t267 true l0_0 l0_1 l0_2 t258 t261 t264 t282 t285 t288)) = some r := H
    have A98 := Am A980
    clear A980
    by_cases c99 : t314 = true
    ·subst c99
     have H1 : (laws_FnExactSigsBlock.j1 kj15 l1 t267 (t291 != t267) l0_0 l0_1 l0_2 t258 t261 t264 t282 t285 t288) = some r := by rw [if_pos rfl] at H;exact H
     clear H
     have H := H1
     clear H1
     have H' := Am H
     clear H
     have GV := B6.out
     have GW := BT.out
     have GX := BU.out
     have GY := BN.out
     have GZ := B4.out
     have G0 := BQ.out
     have Fw : w96.cell? ⟨Ba, 0, none⟩ = some (.slice Ao48 t282.length co48) := (bC Bb.out 0).trans rfl
     have Fx : w96.cell? ⟨Ba, 1, none⟩ = some (.slice Ao53 t285.length co53) := (bC Bb.out 1).trans rfl
     have Fy : w96.cell? ⟨Ba, 2, none⟩ = some (.slice Ao54 t288.length co54) := (bC Bb.out 2).trans rfl
     have Fz := bF Bb.out 0
     have FA := bF Bb.out 1
     have FB := bF Bb.out 2
     have G1 := B2.out
     have G2 := BR.out
     have G3 := BS.out
     have G4 := B3.out
     have FC : w96.cell? ⟨Bp, 0, none⟩ = some (.slice Ao29 t258.length co29) := (bC Bf.out 0).trans rfl
     have FD : w96.cell? ⟨Bp, 1, none⟩ = some (.slice Ao32 t261.length co32) := (bC Bf.out 1).trans rfl
     have FE : w96.cell? ⟨Bp, 2, none⟩ = some (.slice Ao33 t264.length co33) := (bC Bf.out 2).trans rfl
     have FF := bF Bf.out 0
     have FG := bF Bf.out 1
     have FH := bF Bf.out 2
     go_wp2_with (first|(go_at_call 17;(with_reducible refine (laws_eqSigs.calls kj15 _ _ t282 _ _ t285 _ _ t288 _ _ t258 _ _ t261 _ _ t264 true _ ?side1 ?side2 ?side3 ?side4 ?side5 ?side6 ?side7 ?side8 ?side9 ?side10 ?side11 ?side12 A98.out).mono ?_);(case side1 => repeat (first|exact (Kd.R_reads' Bc.out).2.2|(with_reducible refine cA ?_ _)|(with_reducible refine cN ?_ _)|(with_reducible refine cD ?_)));(case side2 => exact (Kd.R_reads' Bc.out).2.1);(case side3 => repeat (first|exact (Kd.R_reads' Bd.out).2.2|(with_reducible refine cA ?_ _)|(with_reducible refine cN ?_ _)|(with_reducible refine cD ?_)));(case side4 => exact (Kd.R_reads' Bd.out).2.1);(case side5 => repeat (first|exact (Kd.R_reads' Bg.out).2.2|(with_reducible refine cA ?_ _)|(with_reducible refine cN ?_ _)|(with_reducible refine cD ?_)));(case side6 => exact (Kd.R_reads' Bg.out).2.1);(case side7 => repeat (first|exact (Kd.R_reads' Bl.out).2.2|(with_reducible refine cA ?_ _)|(with_reducible refine cN ?_ _)|(with_reducible refine cD ?_)));(case side8 => exact (Kd.R_reads' Bl.out).2.1);(case side9 => repeat (first|exact (Kd.R_reads' Bm.out).2.2|(with_reducible refine cA ?_ _)|(with_reducible refine cN ?_ _)|(with_reducible refine cD ?_)));(case side10 => exact (Kd.R_reads' Bm.out).2.1);(case side11 => repeat (first|exact (Kd.R_reads' Bo.out).2.2|(with_reducible refine cA ?_ _)|(with_reducible refine cN ?_ _)|(with_reducible refine cD ?_)));(case side12 => exact (Kd.R_reads' Bo.out).2.1);rintro e w107 ⟨rfl, hb⟩;have n0_ := Am (rB (rL BE.out) hb);have n1_ := Am (rB (rL Bl.out) hb);have n2_ := Am (rB (rL Bm.out) hb);have n3_ := Am (rB (rL Bo.out) hb);have n4_ := Am (rB (rL Bi.out) hb);have n5_ := Am (rB (rL Bj.out) hb);have n6_ := Am (rB (rL Bk.out) hb);have n7_ := Am (rB (rL Bc.out) hb);have n8_ := Am (rB (rL Bd.out) hb);have n9_ := Am (rB (rL Bg.out) hb);have n10_ := Am (rB (rL BI.out) hb);have n11_ := Am (rB (rL BJ.out) hb);have n12_ := Am (rB (rL BK.out) hb);have n13_ := Am (rB (rL B5.out) hb);have n14_ := Am (bB (g := Bt) (o := .cells #[.slice A0_0 l0_0.length c0_0, .slice A0_1 l0_1.length c0_1, .slice A0_2 l0_2.length c0_2] 25 (0, 0)) (bL Be.out) hb);have n15_ := Am (bB (g := Bp) (o := .cells #[.slice Ao29 t258.length co29, .slice Ao32 t261.length co32, .slice Ao33 t264.length co33] 27 (0, 0)) (bL Bf.out) hb);have n16_ := Am (bB (g := Bq) (o := .cells #[.slice Ao37 t269.length co37, .slice Ao41 t272.length co41, .slice Ao42 t275.length co42] 27 (0, 0)) (bL Bn.out) hb);have n17_ := Am (bB (g := Ba) (o := .cells #[.slice Ao48 t282.length co48, .slice Ao53 t285.length co53, .slice Ao54 t288.length co54] 27 (0, 0)) (bL Bb.out) hb);have n18_ := Am (bP (by repeat (first|(with_reducible first|exact HB.out|apply oA|apply pN|apply o1|refine bS ?_ Br.out|refine bS ?_ Bu.out|refine bS ?_ Bv.out|refine bS ?_ By.out)|exact HB.out)) hb);clear BE Bl Bm Bo Bi Bj Bk Bc Bd Bg BI BJ BK B5 Be Bf Bn Bb HB;revert n0_ n1_ n2_ n3_ n4_ n5_ n6_ n7_ n8_ n9_ n10_ n11_ n12_ n13_ n14_ n15_ n16_ n17_ n18_;intro BE Bl Bm Bo Bi Bj Bk Bc Bd Bg BI BJ BK B5 Be Bf Bn Bb HB;(try clear hb);(try clear hb2);(try clear hk);(try clear hi)))
     go_meet
     case rel => exact ⟨_, ((t291 != t267)), (by first|rfl|(simp;done)|(simp [*];done)), H', ⟨by have := Fv.out;first|omega|exact Nat.le_refl _⟩, ⟨by (with_reducible repeat (first|apply rA|apply rN|apply rD));exact rM Bl.out (fun _ hk => ⟨hk.2.1, ⟨hk.2.2.1, ⟨hk.2.2.2.1, ⟨hk.2.2.2.2.1, hk.2.2.2.2.2.1⟩⟩⟩⟩)⟩, ⟨by (with_reducible repeat (first|apply rA|apply rN|apply rD));exact rM Bm.out (fun _ hk => ⟨hk.2.1, ⟨hk.2.2.1, ⟨hk.2.2.2.1, ⟨hk.2.2.2.2.1, hk.2.2.2.2.2.1⟩⟩⟩⟩)⟩, ⟨by (with_reducible repeat (first|apply rA|apply rN|apply rD));exact rM Bo.out (fun _ hk => ⟨hk.1, hk.2.1⟩)⟩, ⟨by (with_reducible repeat (first|apply rA|apply rN|apply rD));exact rM Bi.out (fun _ hk => ⟨hk.2.1, ⟨hk.2.2.1, ⟨hk.2.2.2.1, ⟨hk.2.2.2.2.1, hk.2.2.2.2.2.1⟩⟩⟩⟩)⟩, ⟨by (with_reducible repeat (first|apply rA|apply rN|apply rD));exact rM Bj.out (fun _ hk => ⟨hk.2.1, ⟨hk.2.2.1, ⟨hk.2.2.2.1, ⟨hk.2.2.2.2.1, hk.2.2.2.2.2.1⟩⟩⟩⟩)⟩, ⟨by (with_reducible repeat (first|apply rA|apply rN|apply rD));exact rM Bk.out (fun _ hk => ⟨hk.1, hk.2.1⟩)⟩, ⟨by (with_reducible repeat (first|apply rA|apply rN|apply rD));exact rM Bc.out (fun _ hk => ⟨hk.2.1, ⟨hk.2.2.1, ⟨hk.2.2.2.1, ⟨hk.2.2.2.2.1, hk.2.2.2.2.2.1⟩⟩⟩⟩)⟩, ⟨by (with_reducible repeat (first|apply rA|apply rN|apply rD));exact rM Bd.out (fun _ hk => ⟨hk.2.1, ⟨hk.2.2.1, ⟨hk.2.2.2.1, ⟨hk.2.2.2.2.1, hk.2.2.2.2.2.1⟩⟩⟩⟩)⟩, ⟨by (with_reducible repeat (first|apply rA|apply rN|apply rD));exact rM Bg.out (fun _ hk => ⟨hk.1, hk.2.1⟩)⟩, ⟨by (with_reducible repeat (first|refine bN ?_ _|refine bD ?_|refine bA ?_ _));exact Be.out⟩, ⟨by (with_reducible repeat (first|refine bN ?_ _|refine bD ?_|refine bA ?_ _));exact Bf.out⟩, ⟨by (with_reducible repeat (first|refine bN ?_ _|refine bD ?_|refine bA ?_ _));exact Bn.out⟩, ⟨by (with_reducible repeat (first|refine bN ?_ _|refine bD ?_|refine bA ?_ _));exact Bb.out⟩, ⟨by repeat (first|(with_reducible first|exact HB.out|apply oA|apply pN|apply o1|refine bS ?_ Br.out|refine bS ?_ Bu.out|refine bS ?_ Bv.out|refine bS ?_ By.out)|exact HB.out)⟩⟩
    replace c99 := Bool.eq_false_iff.mpr c99
    subst c99
    have H1 : (laws_FnExactSigsBlock.j1 kj15 l1 t267 true l0_0 l0_1 l0_2 t258 t261 t264 t282 t285 t288) = some r := by rw [if_neg (show ¬ (false = true) by decide)] at H;exact H
    clear H
    have H := H1
    clear H1
    have H' := Am H
    clear H
    have G5 := B6.out
    have G6 := BT.out
    have G7 := BU.out
    have G8 := BN.out
    have G9 := B4.out
    have Ja := BQ.out
    have FI : w96.cell? ⟨Ba, 0, none⟩ = some (.slice Ao48 t282.length co48) := (bC Bb.out 0).trans rfl
    have FJ : w96.cell? ⟨Ba, 1, none⟩ = some (.slice Ao53 t285.length co53) := (bC Bb.out 1).trans rfl
    have FK : w96.cell? ⟨Ba, 2, none⟩ = some (.slice Ao54 t288.length co54) := (bC Bb.out 2).trans rfl
    have FL := bF Bb.out 0
    have FM := bF Bb.out 1
    have FN := bF Bb.out 2
    have Jb := B2.out
    have Jc := BR.out
    have Jd := BS.out
    have Je := B3.out
    have FO : w96.cell? ⟨Bp, 0, none⟩ = some (.slice Ao29 t258.length co29) := (bC Bf.out 0).trans rfl
    have FP : w96.cell? ⟨Bp, 1, none⟩ = some (.slice Ao32 t261.length co32) := (bC Bf.out 1).trans rfl
    have FQ : w96.cell? ⟨Bp, 2, none⟩ = some (.slice Ao33 t264.length co33) := (bC Bf.out 2).trans rfl
    have FR := bF Bf.out 0
    have FS := bF Bf.out 1
    have FT := bF Bf.out 2
    go_wp2_with (first|(go_at_call 17;(with_reducible refine (laws_eqSigs.calls kj15 _ _ t282 _ _ t285 _ _ t288 _ _ t258 _ _ t261 _ _ t264 false _ ?side1 ?side2 ?side3 ?side4 ?side5 ?side6 ?side7 ?side8 ?side9 ?side10 ?side11 ?side12 A98.out).mono ?_);(case side1 => repeat (first|exact (Kd.R_reads' Bc.out).2.2|(with_reducible refine cA ?_ _)|(with_reducible refine cN ?_ _)|(with_reducible refine cD ?_)));(case side2 => exact (Kd.R_reads' Bc.out).2.1);(case side3 => repeat (first|exact (Kd.R_reads' Bd.out).2.2|(with_reducible refine cA ?_ _)|(with_reducible refine cN ?_ _)|(with_reducible refine cD ?_)));(case side4 => exact (Kd.R_reads' Bd.out).2.1);(case side5 => repeat (first|exact (Kd.R_reads' Bg.out).2.2|(with_reducible refine cA ?_ _)|(with_reducible refine cN ?_ _)|(with_reducible refine cD ?_)));(case side6 => exact (Kd.R_reads' Bg.out).2.1);(case side7 => repeat (first|exact (Kd.R_reads' Bl.out).2.2|(with_reducible refine cA ?_ _)|(with_reducible refine cN ?_ _)|(with_reducible refine cD ?_)));(case side8 => exact (Kd.R_reads' Bl.out).2.1);(case side9 => repeat (first|exact (Kd.R_reads' Bm.out).2.2|(with_reducible refine cA ?_ _)|(with_reducible refine cN ?_ _)|(with_reducible refine cD ?_)));(case side10 => exact (Kd.R_reads' Bm.out).2.1);(case side11 => repeat (first|exact (Kd.R_reads' Bo.out).2.2|(with_reducible refine cA ?_ _)|(with_reducible refine cN ?_ _)|(with_reducible refine cD ?_)));(case side12 => exact (Kd.R_reads' Bo.out).2.1);rintro e w115 ⟨rfl, hb⟩;have n0_ := Am (rB (rL BE.out) hb);have n1_ := Am (rB (rL Bl.out) hb);have n2_ := Am (rB (rL Bm.out) hb);have n3_ := Am (rB (rL Bo.out) hb);have n4_ := Am (rB (rL Bi.out) hb);have n5_ := Am (rB (rL Bj.out) hb);have n6_ := Am (rB (rL Bk.out) hb);have n7_ := Am (rB (rL Bc.out) hb);have n8_ := Am (rB (rL Bd.out) hb);have n9_ := Am (rB (rL Bg.out) hb);have n10_ := Am (rB (rL BI.out) hb);have n11_ := Am (rB (rL BJ.out) hb);have n12_ := Am (rB (rL BK.out) hb);have n13_ := Am (rB (rL B5.out) hb);have n14_ := Am (bB (g := Bt) (o := .cells #[.slice A0_0 l0_0.length c0_0, .slice A0_1 l0_1.length c0_1, .slice A0_2 l0_2.length c0_2] 25 (0, 0)) (bL Be.out) hb);have n15_ := Am (bB (g := Bp) (o := .cells #[.slice Ao29 t258.length co29, .slice Ao32 t261.length co32, .slice Ao33 t264.length co33] 27 (0, 0)) (bL Bf.out) hb);have n16_ := Am (bB (g := Bq) (o := .cells #[.slice Ao37 t269.length co37, .slice Ao41 t272.length co41, .slice Ao42 t275.length co42] 27 (0, 0)) (bL Bn.out) hb);have n17_ := Am (bB (g := Ba) (o := .cells #[.slice Ao48 t282.length co48, .slice Ao53 t285.length co53, .slice Ao54 t288.length co54] 27 (0, 0)) (bL Bb.out) hb);have n18_ := Am (bP (by repeat (first|(with_reducible first|exact HB.out|apply oA|apply pN|apply o1|refine bS ?_ Br.out|refine bS ?_ Bu.out|refine bS ?_ Bv.out|refine bS ?_ By.out)|exact HB.out)) hb);clear BE Bl Bm Bo Bi Bj Bk Bc Bd Bg BI BJ BK B5 Be Bf Bn Bb HB;revert n0_ n1_ n2_ n3_ n4_ n5_ n6_ n7_ n8_ n9_ n10_ n11_ n12_ n13_ n14_ n15_ n16_ n17_ n18_;intro BE Bl Bm Bo Bi Bj Bk Bc Bd Bg BI BJ BK B5 Be Bf Bn Bb HB;(try clear hb);(try clear hb2);(try clear hk);(try clear hi)))
    go_meet
    case rel => exact ⟨_, (true), (by first|rfl|(simp;done)|(simp [*];done)), H', ⟨by have := Fv.out;first|omega|exact Nat.le_refl _⟩, ⟨by (with_reducible repeat (first|apply rA|apply rN|apply rD));exact rM Bl.out (fun _ hk => ⟨hk.2.1, ⟨hk.2.2.1, ⟨hk.2.2.2.1, ⟨hk.2.2.2.2.1, hk.2.2.2.2.2.1⟩⟩⟩⟩)⟩, ⟨by (with_reducible repeat (first|apply rA|apply rN|apply rD));exact rM Bm.out (fun _ hk => ⟨hk.2.1, ⟨hk.2.2.1, ⟨hk.2.2.2.1, ⟨hk.2.2.2.2.1, hk.2.2.2.2.2.1⟩⟩⟩⟩)⟩, ⟨by (with_reducible repeat (first|apply rA|apply rN|apply rD));exact rM Bo.out (fun _ hk => ⟨hk.1, hk.2.1⟩)⟩, ⟨by (with_reducible repeat (first|apply rA|apply rN|apply rD));exact rM Bi.out (fun _ hk => ⟨hk.2.1, ⟨hk.2.2.1, ⟨hk.2.2.2.1, ⟨hk.2.2.2.2.1, hk.2.2.2.2.2.1⟩⟩⟩⟩)⟩, ⟨by (with_reducible repeat (first|apply rA|apply rN|apply rD));exact rM Bj.out (fun _ hk => ⟨hk.2.1, ⟨hk.2.2.1, ⟨hk.2.2.2.1, ⟨hk.2.2.2.2.1, hk.2.2.2.2.2.1⟩⟩⟩⟩)⟩, ⟨by (with_reducible repeat (first|apply rA|apply rN|apply rD));exact rM Bk.out (fun _ hk => ⟨hk.1, hk.2.1⟩)⟩, ⟨by (with_reducible repeat (first|apply rA|apply rN|apply rD));exact rM Bc.out (fun _ hk => ⟨hk.2.1, ⟨hk.2.2.1, ⟨hk.2.2.2.1, ⟨hk.2.2.2.2.1, hk.2.2.2.2.2.1⟩⟩⟩⟩)⟩, ⟨by (with_reducible repeat (first|apply rA|apply rN|apply rD));exact rM Bd.out (fun _ hk => ⟨hk.2.1, ⟨hk.2.2.1, ⟨hk.2.2.2.1, ⟨hk.2.2.2.2.1, hk.2.2.2.2.2.1⟩⟩⟩⟩)⟩, ⟨by (with_reducible repeat (first|apply rA|apply rN|apply rD));exact rM Bg.out (fun _ hk => ⟨hk.1, hk.2.1⟩)⟩, ⟨by (with_reducible repeat (first|refine bN ?_ _|refine bD ?_|refine bA ?_ _));exact Be.out⟩, ⟨by (with_reducible repeat (first|refine bN ?_ _|refine bD ?_|refine bA ?_ _));exact Bf.out⟩, ⟨by (with_reducible repeat (first|refine bN ?_ _|refine bD ?_|refine bA ?_ _));exact Bn.out⟩, ⟨by (with_reducible repeat (first|refine bN ?_ _|refine bD ?_|refine bA ?_ _));exact Bb.out⟩, ⟨by repeat (first|(with_reducible first|exact HB.out|apply oA|apply pN|apply o1|refine bS ?_ Br.out|refine bS ?_ Bu.out|refine bS ?_ Bv.out|refine bS ?_ By.out)|exact HB.out)⟩⟩
   case rest =>
    clear HC82
    try clear c1
    try clear c2
    try clear p2
    try clear c3
    try clear c3b0
    try clear c3b1
    try clear c4
    try clear c5
    try clear c6
    try clear c6b0
    try clear c7
    try clear c9
    try clear c10
    try clear c11
    try clear c13
    try clear c15
    try clear c17
    try clear c18
    try clear c20
    try clear c21
    try clear c22
    try clear c23
    try clear c24
    try clear c30
    try clear c38
    try clear c39
    try clear c49
    try clear c50
    try clear c51
    try clear c56
    try clear c57
    try clear c58
    try clear c59
    try clear c61
    try clear c62
    try clear c65
    try clear c66
    try clear c67
    try clear c69
    try clear c70
    try clear c73
    try clear c76
    try clear c79
    try clear c91
    try clear c92
    try clear c93
    try clear c97
    try clear c97b0
    try clear c99
    try clear c100
    try clear c101
    try clear c102
    try clear c104
    try clear c105
    try clear c108
    try clear c109
    try clear c110
    try clear c112
    try clear c113
    try clear Fw
    try clear Fx
    try clear Fy
    try clear FC
    try clear FD
    try clear FE
    try clear FI
    try clear FJ
    try clear FK
    try clear FO
    try clear FP
    try clear FQ
    try clear Dl
    try clear Dm
    try clear Dn
    try clear Dr
    try clear Ds
    try clear Dt
    try clear Dx
    try clear Dy
    try clear Dz
    try clear DD
    try clear DE
    try clear DF
    try clear DJ
    try clear DK
    try clear DL
    try clear DP
    try clear DQ
    try clear DR
    try clear DV
    try clear DW
    try clear DX
    try clear D1
    try clear D2
    try clear D3
    try clear D7
    try clear D8
    try clear D9
    try clear Fd
    try clear Fe
    try clear Ff
    try clear Fj
    try clear Fk
    try clear Fl
    try clear Fp
    try clear Fq
    try clear Fr
    try clear FU
    try clear FV
    try clear FW
    try clear Fz
    try clear FA
    try clear FB
    try clear FF
    try clear FG
    try clear FH
    try clear FL
    try clear FM
    try clear FN
    try clear FR
    try clear FS
    try clear FT
    try clear Do
    try clear Dp
    try clear Dq
    try clear Du
    try clear Dv
    try clear Dw
    try clear DA
    try clear DB
    try clear DC
    try clear DG
    try clear DH
    try clear DI
    try clear DM
    try clear DN
    try clear DO
    try clear DS
    try clear DT
    try clear DU
    try clear DY
    try clear DZ
    try clear D0
    try clear D4
    try clear D5
    try clear D6
    try clear Fa
    try clear Fb
    try clear Fc
    try clear Fg
    try clear Fh
    try clear Fi
    try clear Fm
    try clear Fn
    try clear Fo
    try clear Fs
    try clear Ft
    try clear Fu
    try clear FX
    try clear FY
    try clear FZ
    try clear p2
    obtain ⟨kq, x80_81, rfl, HA, GO, Bl, Bm, Bo, Bi, Bj, Bk, Bc, Bd, Bg, Be, Bf, Bn, Bb, HB⟩ := hcut
    have hl279000_81 := (Kd.R_reads' Bi.out).1
    rw [hl279000_81] at Bi
    (try simp only [hl279000_81])
    (try simp only [hl279000_81] at Be)
    (try simp only [hl279000_81] at Bf)
    (try simp only [hl279000_81] at Bn)
    (try simp only [hl279000_81] at Bb)
    (try simp only [hl279000_81] at Bl)
    (try simp only [hl279000_81] at Bm)
    (try simp only [hl279000_81] at Bo)
    (try simp only [hl279000_81] at Bj)
    (try simp only [hl279000_81] at Bk)
    (try simp only [hl279000_81] at Bc)
    (try simp only [hl279000_81] at Bd)
    (try simp only [hl279000_81] at Bg)
    have hl279001_81 := (Kd.R_reads' Bj.out).1
    rw [hl279001_81] at Bj
    (try simp only [hl279001_81])
    (try simp only [hl279001_81] at Be)
    (try simp only [hl279001_81] at Bf)
    (try simp only [hl279001_81] at Bn)
    (try simp only [hl279001_81] at Bb)
    (try simp only [hl279001_81] at Bl)
    (try simp only [hl279001_81] at Bm)
    (try simp only [hl279001_81] at Bo)
    (try simp only [hl279001_81] at Bi)
    (try simp only [hl279001_81] at Bk)
    (try simp only [hl279001_81] at Bc)
    (try simp only [hl279001_81] at Bd)
    (try simp only [hl279001_81] at Bg)
    have hl279002_81 := (Kd.R_reads' Bk.out).1
    rw [hl279002_81] at Bk
    (try simp only [hl279002_81])
    (try simp only [hl279002_81] at Be)
    (try simp only [hl279002_81] at Bf)
    (try simp only [hl279002_81] at Bn)
    (try simp only [hl279002_81] at Bb)
    (try simp only [hl279002_81] at Bl)
    (try simp only [hl279002_81] at Bm)
    (try simp only [hl279002_81] at Bo)
    (try simp only [hl279002_81] at Bi)
    (try simp only [hl279002_81] at Bj)
    (try simp only [hl279002_81] at Bc)
    (try simp only [hl279002_81] at Bd)
    (try simp only [hl279002_81] at Bg)
    cases kq with
   |zero => exact absurd HA.out (by simp [laws_FnExactSigsBlock.j1])
   |succ kj81 =>
     have H := HA.out
     clear HA
     simp only [laws_FnExactSigsBlock.j1] at H
     by_cases c116 : x80_81 = true
     ·subst c116
      have H1 : (some false) = some r := by rw [if_pos rfl] at H;exact H
      clear H
      have H := H1
      clear H1
      exact absurd ((Option.some.inj H).trans hT_.out) (by decide)
     replace c116 := Bool.eq_false_iff.mpr c116
     subst c116
     have H1 : ((laws_markSigs.f kj81 t282 t285 t288 1).bind fun bt315 => ((laws_heldSigs.f kj81 bt315.2.1 bt315.2.2.1 bt315.2.2.2 1).bind fun t319 => (if t319 < 0 then (some false) else (if t319 = bt315.1 then ((laws_toSigs.f kj81 l0_0 l0_1 l0_2).bind fun bt320 => ((laws_toBoolS.f kj81 l1).bind fun t329 => ((impl_SigsBlock.f kj81 bt320.1 bt320.2.1 bt320.2.2 t329).bind fun bt332 => ((laws_eqSigs.f kj81 bt332.1 bt332.2.1 bt332.2.2.1 t258 t261 t264).bind fun t343 => (if t343 = true then (laws_FnExactSigsBlock.j2 kj81 bt315.1 (bt332.2.2.2 != t267) bt315.2.1 bt315.2.2.1 bt315.2.2.2) else (laws_FnExactSigsBlock.j2 kj81 bt315.1 true bt315.2.1 bt315.2.2.1 bt315.2.2.2)))))) else (some false))))) = some r := by rw [if_neg (show ¬ (false = true) by decide)] at H;exact H
     clear H
     have H := H1
     clear H1
     replace H := Option.bind_eq_some_iff.mp H
     obtain ⟨⟨t315, t316, t317, t318⟩, A1170, H⟩ := H
     replace H : ((laws_heldSigs.f kj81 t316 t317 t318 1).bind fun t319 => (if t319 < 0 then (some false) else (if t319 = t315 then ((laws_toSigs.f kj81 l0_0 l0_1 l0_2).bind fun bt320 => ((laws_toBoolS.f kj81 l1).bind fun t329 => ((impl_SigsBlock.f kj81 bt320.1 bt320.2.1 bt320.2.2 t329).bind fun bt332 => ((laws_eqSigs.f kj81 bt332.1 bt332.2.1 bt332.2.2.1 t258 t261 t264).bind fun t343 => (if t343 = true then (laws_FnExactSigsBlock.j2 kj81 t315 (bt332.2.2.2 != t267) t316 t317 t318) else (laws_FnExactSigsBlock.j2 kj81 t315 true t316 t317 t318)))))) else (some false)))) = some r := H
     have A117 := Am A1170
     clear A1170
     replace H := Option.bind_eq_some_iff.mp H
     obtain ⟨t319, A1180, H⟩ := H
     replace H : (if t319 < 0 then (some false) else (if t319 = t315 then ((laws_toSigs.f kj81 l0_0 l0_1 l0_2).bind fun bt320 => ((laws_toBoolS.f kj81 l1).bind fun t329 => ((impl_SigsBlock.f kj81 bt320.1 bt320.2.1 bt320.2.2 t329).bind fun bt332 => ((laws_eqSigs.f kj81 bt332.1 bt332.2.1 bt332.2.2.1 t258 t261 t264).bind fun t343 => (if t343 = true then (laws_FnExactSigsBlock.j2 kj81 t315 (bt332.2.2.2 != t267) t316 t317 t318) else (laws_FnExactSigsBlock.j2 kj81 t315 true t316 t317 t318)))))) else (some false))) = some r := H
     have A118 := Am A1180
     clear A1180
     by_cases c119 : t319 < 0
     ·rw [if_pos c119] at H
      have c119b0 : decide (t319 < 0) = true := decide_eq_true c119
      clear c119
      exact absurd ((Option.some.inj H).trans hT_.out) (by decide)
     rw [if_neg c119] at H
     have c119b0 : decide (t319 < 0) = false := decide_eq_false c119
     clear c119
     by_cases c120 : t319 = t315
     rotate_left
     ·rw [if_neg c120] at H
      have c120b0 : (t319 == t315) = false := beq_eq_false_iff_ne.mpr c120
      have c120b1 : (t319 != t315) = true := bne_iff_ne.mpr c120
      exact absurd ((Option.some.inj H).trans hT_.out) (by decide)
     rw [if_pos c120] at H
     have c120b0 : (t319 == t315) = true := beq_iff_eq.mpr c120
     have c120b1 : (t319 != t315) = false := bne_eq_false_iff_eq.mpr c120
     clear c120
     replace H := Option.bind_eq_some_iff.mp H
     obtain ⟨⟨t320, t323, t326⟩, A1210, H⟩ := H
     replace H : ((laws_toBoolS.f kj81 l1).bind fun t329 => ((impl_SigsBlock.f kj81 t320 t323 t326 t329).bind fun bt332 => ((laws_eqSigs.f kj81 bt332.1 bt332.2.1 bt332.2.2.1 t258 t261 t264).bind fun t343 => (if t343 = true then (laws_FnExactSigsBlock.j2 kj81 t315 (bt332.2.2.2 != t267) t316 t317 t318) else (laws_FnExactSigsBlock.j2 kj81 t315 true t316 t317 t318))))) = some r := H
     have A121 := Am A1210
     clear A1210
     replace H := Option.bind_eq_some_iff.mp H
     obtain ⟨t329, A1220, H⟩ := H
     replace H : ((impl_SigsBlock.f kj81 t320 t323 t326 t329).bind fun bt332 => ((laws_eqSigs.f kj81 bt332.1 bt332.2.1 bt332.2.2.1 t258 t261 t264).bind fun t343 => (if t343 = true then (laws_FnExactSigsBlock.j2 kj81 t315 (bt332.2.2.2 != t267) t316 t317 t318) else (laws_FnExactSigsBlock.j2 kj81 t315 true t316 t317 t318)))) = some r := H
     have A122 := Am A1220
     clear A1220
     replace H := Option.bind_eq_some_iff.mp H
     obtain ⟨⟨t332, t335, t338, t341⟩, A1230, H⟩ := H
     replace H : ((laws_eqSigs.f kj81 t332 t335 t338 t258 t261 t264).bind fun t343 => (if t343 = true then (laws_FnExactSigsBlock.j2 kj81 t315 (t341 != t267) t316 t317 t318) else (laws_FnExactSigsBlock.j2 kj81 t315 true t316 t317 t318))) = some r := H
     have A123 := Am A1230
     clear A1230
     have HC124 := Am H
     clear H
     have Jf := B6.out
     have Jg := BT.out
     have Jh := BU.out
     have Ji := BN.out
     have Jj := B4.out
     have Jk := BQ.out
     have F0 : wc.cell? ⟨Ba, 0, none⟩ = some (.slice Ao48 t282.length co48) := (bC Bb.out 0).trans rfl
     have F1 : wc.cell? ⟨Ba, 1, none⟩ = some (.slice Ao53 t285.length co53) := (bC Bb.out 1).trans rfl
     have F2 : wc.cell? ⟨Ba, 2, none⟩ = some (.slice Ao54 t288.length co54) := (bC Bb.out 2).trans rfl
     have F3 := bF Bb.out 0
     have F4 := bF Bb.out 1
     have F5 := bF Bb.out 2
     go_upto_region 31 with (first|((with_reducible refine gate_callee (f := 18) rfl ?_);refine goesL_ (some 83) rfl rfl Try.func18 (by kernel_rfl) rfl #[.agg #[.slice Ao48 t282.length co48, .slice Ao53 t285.length co53, .slice Ao54 t288.length co54], .int .i64 1] rfl (by (try simp only [lM, lC, lN]);first|done|rfl|(simp only [lD, lT];rfl)) ?_;(with_reducible refine (laws_markSigs.calls kj81 (fun k_ => some k_ = (.slice Ao48 t282.length co48 : Value).ownBlock) (.slice Ao48 t282.length co48) t282 (fun k_ => some k_ = (.slice Ao53 t285.length co53 : Value).ownBlock) (.slice Ao53 t285.length co53) t285 (fun k_ => some k_ = (.slice Ao54 t288.length co54 : Value).ownBlock) (.slice Ao54 t288.length co54) t288 1 t315 t316 t317 t318 w _ ?side1 ?side2 ?side3 ?side4 ?side5 ?side6 A117.out).mono ?_);(case side1 => repeat (first|(with_reducible first|exact HB.out|apply oA|apply pN|apply o1|refine bS ?_ Br.out|refine bS ?_ Bu.out|refine bS ?_ Bv.out|refine bS ?_ By.out)|exact HB.out));(case side2 => exact Kd.R_tight rfl Bc.out);(case side3 => exact fun k_ e_ => (Bc.out.1 k_ e_.symm).2.2.2.2);(case side4 => exact Kd.R_tight rfl Bd.out);(case side5 => exact fun k_ e_ => (Bd.out.1 k_ e_.symm).2.2.2.2);(case side6 => exact Kd.R_tight rfl Bg.out);rintro e w129 ⟨rfl, hy0, hy1, hy2, hb, hkp⟩;refine ⟨_, rfl, ?_⟩;have n0_ := Am (rM (ok' := fun k_ => some k_ ≠ (.slice Ao32 t261.length co32 : Value).ownBlock ∧ some k_ ≠ (.slice Ao37 t309.length co37 : Value).ownBlock ∧ some k_ ≠ (.slice Ao41 t310.length co41 : Value).ownBlock ∧ some k_ ≠ (.slice Ao48 t282.length co48 : Value).ownBlock ∧ some k_ ≠ (.slice Ao53 t285.length co53 : Value).ownBlock) (Kd.R_keptB ((Kd.R_apart' Bl.out (Kd.R_typed Bg.out) (by decide))) hkp (fun k_ hk_ hs_ => Or.elim hs_ (fun e_ => (hk_.1.2.2.2.1) e_) (fun e_ => Or.elim e_ (fun e_ => (hk_.1.2.2.2.2) e_) (fun e_ => (hk_.2) e_)))) (fun k_ hk_ => ⟨hk_.1.1.1, hk_.1.1.2.1, hk_.1.1.2.2.1, hk_.1.1.2.2.2.1, hk_.1.1.2.2.2.2⟩));have n1_ := Am (rM (ok' := fun k_ => some k_ ≠ (.slice Ao29 t258.length co29 : Value).ownBlock ∧ some k_ ≠ (.slice Ao37 t309.length co37 : Value).ownBlock ∧ some k_ ≠ (.slice Ao41 t310.length co41 : Value).ownBlock ∧ some k_ ≠ (.slice Ao48 t282.length co48 : Value).ownBlock ∧ some k_ ≠ (.slice Ao53 t285.length co53 : Value).ownBlock) (Kd.R_keptB ((Kd.R_apart' Bm.out (Kd.R_typed Bg.out) (by decide))) hkp (fun k_ hk_ hs_ => Or.elim hs_ (fun e_ => (hk_.1.2.2.2.1) e_) (fun e_ => Or.elim e_ (fun e_ => (hk_.1.2.2.2.2) e_) (fun e_ => (hk_.2) e_)))) (fun k_ hk_ => ⟨hk_.1.1.1, hk_.1.1.2.1, hk_.1.1.2.2.1, hk_.1.1.2.2.2.1, hk_.1.1.2.2.2.2⟩));have n2_ := Am (rM (ok' := fun k_ => some k_ ≠ (.slice Ao42 t311.length co42 : Value).ownBlock ∧ some k_ ≠ (.slice Ao54 t288.length co54 : Value).ownBlock) (Kd.R_keptB ((Kd.R_apart' (Kd.R_apart' Bo.out (Kd.R_typed Bc.out) (by decide)) (Kd.R_typed Bd.out) (by decide))) hkp (fun k_ hk_ hs_ => Or.elim hs_ (fun e_ => (hk_.1.2) e_) (fun e_ => Or.elim e_ (fun e_ => (hk_.2) e_) (fun e_ => (hk_.1.1.2) e_)))) (fun k_ hk_ => ⟨hk_.1.1.1.1, hk_.1.1.1.2⟩));have n3_ := Am (rM (ok' := fun k_ => some k_ ≠ (.slice Ao29 t258.length co29 : Value).ownBlock ∧ some k_ ≠ (.slice Ao32 t261.length co32 : Value).ownBlock ∧ some k_ ≠ (.slice Ao41 t310.length co41 : Value).ownBlock ∧ some k_ ≠ (.slice Ao48 t282.length co48 : Value).ownBlock ∧ some k_ ≠ (.slice Ao53 t285.length co53 : Value).ownBlock) (Kd.R_keptB ((Kd.R_apart' Bi.out (Kd.R_typed Bg.out) (by decide))) hkp (fun k_ hk_ hs_ => Or.elim hs_ (fun e_ => (hk_.1.2.2.2.1) e_) (fun e_ => Or.elim e_ (fun e_ => (hk_.1.2.2.2.2) e_) (fun e_ => (hk_.2) e_)))) (fun k_ hk_ => ⟨hk_.1.1.1, hk_.1.1.2.1, hk_.1.1.2.2.1, hk_.1.1.2.2.2.1, hk_.1.1.2.2.2.2⟩));have n4_ := Am (rM (ok' := fun k_ => some k_ ≠ (.slice Ao29 t258.length co29 : Value).ownBlock ∧ some k_ ≠ (.slice Ao32 t261.length co32 : Value).ownBlock ∧ some k_ ≠ (.slice Ao37 t309.length co37 : Value).ownBlock ∧ some k_ ≠ (.slice Ao48 t282.length co48 : Value).ownBlock ∧ some k_ ≠ (.slice Ao53 t285.length co53 : Value).ownBlock) (Kd.R_keptB ((Kd.R_apart' Bj.out (Kd.R_typed Bg.out) (by decide))) hkp (fun k_ hk_ hs_ => Or.elim hs_ (fun e_ => (hk_.1.2.2.2.1) e_) (fun e_ => Or.elim e_ (fun e_ => (hk_.1.2.2.2.2) e_) (fun e_ => (hk_.2) e_)))) (fun k_ hk_ => ⟨hk_.1.1.1, hk_.1.1.2.1, hk_.1.1.2.2.1, hk_.1.1.2.2.2.1, hk_.1.1.2.2.2.2⟩));have n5_ := Am (rM (ok' := fun k_ => some k_ ≠ (.slice Ao33 t264.length co33 : Value).ownBlock ∧ some k_ ≠ (.slice Ao54 t288.length co54 : Value).ownBlock) (Kd.R_keptB ((Kd.R_apart' (Kd.R_apart' Bk.out (Kd.R_typed Bc.out) (by decide)) (Kd.R_typed Bd.out) (by decide))) hkp (fun k_ hk_ hs_ => Or.elim hs_ (fun e_ => (hk_.1.2) e_) (fun e_ => Or.elim e_ (fun e_ => (hk_.2) e_) (fun e_ => (hk_.1.1.2) e_)))) (fun k_ hk_ => ⟨hk_.1.1.1.1, hk_.1.1.1.2⟩));have n6_ := Am (Kd.R_reok rfl hy0 (fun k_ e_ => Bc.out.1 k_ e_));have n7_ := Am (Kd.R_reok rfl hy1 (fun k_ e_ => Bd.out.1 k_ e_));have n8_ := Am (Kd.R_reok rfl hy2 (fun k_ e_ => Bg.out.1 k_ e_));have n9_ := Am (blk_kept (bL Be.out) hkp (fun hs_ => Or.elim hs_ (fun e_ => (fun e_ => (Kd.R_ne Bc.out Be.out (by decide)) e_) e_) (fun e_ => Or.elim e_ (fun e_ => (fun e_ => (Kd.R_ne Bd.out Be.out (by decide)) e_) e_) (fun e_ => (fun e_ => (Kd.R_ne Bg.out Be.out (by decide)) e_) e_))));have n10_ := Am (blk_kept (bL Bf.out) hkp (fun hs_ => Or.elim hs_ (fun e_ => (fun e_ => (Kd.R_ne Bc.out Bf.out (by decide)) e_) e_) (fun e_ => Or.elim e_ (fun e_ => (fun e_ => (Kd.R_ne Bd.out Bf.out (by decide)) e_) e_) (fun e_ => (fun e_ => (Kd.R_ne Bg.out Bf.out (by decide)) e_) e_))));have n11_ := Am (blk_kept (bL Bn.out) hkp (fun hs_ => Or.elim hs_ (fun e_ => (fun e_ => (Kd.R_ne Bc.out Bn.out (by decide)) e_) e_) (fun e_ => Or.elim e_ (fun e_ => (fun e_ => (Kd.R_ne Bd.out Bn.out (by decide)) e_) e_) (fun e_ => (fun e_ => (Kd.R_ne Bg.out Bn.out (by decide)) e_) e_))));have n12_ := Am (blk_kept (bL Bb.out) hkp (fun hs_ => Or.elim hs_ (fun e_ => (fun e_ => (Kd.R_ne Bc.out Bb.out (by decide)) e_) e_) (fun e_ => Or.elim e_ (fun e_ => (fun e_ => (Kd.R_ne Bd.out Bb.out (by decide)) e_) e_) (fun e_ => (fun e_ => (Kd.R_ne Bg.out Bb.out (by decide)) e_) e_))));have n13_ := Am (hb);clear Bl Bm Bo Bi Bj Bk Bc Bd Bg Be Bf Bn Bb HB;revert n0_ n1_ n2_ n3_ n4_ n5_ n6_ n7_ n8_ n9_ n10_ n11_ n12_ n13_;intro Bl Bm Bo Bi Bj Bk Bc Bd Bg Be Bf Bn Bb HB;(try clear hb);(try clear hkp);(try clear hy0);(try clear hy1);(try clear hy2);have F6 : w129.cell? ⟨Ba, 0, none⟩ = some (.slice Ao48 t282.length co48) := (bC Bb.out 0).trans rfl;have F7 : w129.cell? ⟨Ba, 1, none⟩ = some (.slice Ao53 t285.length co53) := (bC Bb.out 1).trans rfl;have F8 : w129.cell? ⟨Ba, 2, none⟩ = some (.slice Ao54 t288.length co54) := (bC Bb.out 2).trans rfl;have F9 := bF Bb.out 0;have Ga := bF Bb.out 1;have Gb := bF Bb.out 2)|((with_reducible refine gate_callee (f := 19) rfl ?_);refine goesL_ (some 86) rfl rfl Try.func19 (by kernel_rfl) rfl #[.agg #[.slice Ao48 t316.length co48, .slice Ao53 t317.length co53, .slice Ao54 t318.length co54], .int .i64 1] rfl (by (try simp only [lM, lC, lN]);first|done|(rw [show t316.length = t282.length from (Kd.R_reads' Bc.out).1.symm, show t317.length = t285.length from (Kd.R_reads' Bd.out).1.symm, show t318.length = t288.length from (Kd.R_reads' Bg.out).1.symm] <;> rfl)|rfl|(simp only [lD, lT];rfl)) ?_;(with_reducible refine (laws_heldSigs.calls kj81 _ _ t316 _ _ t317 _ _ t318 1 t319 _ ?side1 ?side2 ?side3 ?side4 ?side5 ?side6 A118.out).mono ?_);(case side1 => repeat (first|exact (Kd.R_reads' Bc.out).2.2|(with_reducible refine cA ?_ _)|(with_reducible refine cN ?_ _)|(with_reducible refine cD ?_)));(case side2 => rw [show t316.length = t282.length from (Kd.R_reads' Bc.out).1.symm];exact (Kd.R_reads' Bc.out).2.1);(case side3 => repeat (first|exact (Kd.R_reads' Bd.out).2.2|(with_reducible refine cA ?_ _)|(with_reducible refine cN ?_ _)|(with_reducible refine cD ?_)));(case side4 => rw [show t317.length = t285.length from (Kd.R_reads' Bd.out).1.symm];exact (Kd.R_reads' Bd.out).2.1);(case side5 => repeat (first|exact (Kd.R_reads' Bg.out).2.2|(with_reducible refine cA ?_ _)|(with_reducible refine cN ?_ _)|(with_reducible refine cD ?_)));(case side6 => rw [show t318.length = t288.length from (Kd.R_reads' Bg.out).1.symm];exact (Kd.R_reads' Bg.out).2.1);rintro e w131 ⟨rfl, hb⟩;refine ⟨_, rfl, ?_⟩;have n0_ := Am (rB (rL Bl.out) hb);have n1_ := Am (rB (rL Bm.out) hb);have n2_ := Am (rB (rL Bo.out) hb);have n3_ := Am (rB (rL Bi.out) hb);have n4_ := Am (rB (rL Bj.out) hb);have n5_ := Am (rB (rL Bk.out) hb);have n6_ := Am (rB (rL Bc.out) hb);have n7_ := Am (rB (rL Bd.out) hb);have n8_ := Am (rB (rL Bg.out) hb);have n9_ := Am (bB (g := Bt) (o := .cells #[.slice A0_0 l0_0.length c0_0, .slice A0_1 l0_1.length c0_1, .slice A0_2 l0_2.length c0_2] 25 (0, 0)) (bL Be.out) hb);have n10_ := Am (bB (g := Bp) (o := .cells #[.slice Ao29 t258.length co29, .slice Ao32 t261.length co32, .slice Ao33 t264.length co33] 27 (0, 0)) (bL Bf.out) hb);have n11_ := Am (bB (g := Bq) (o := .cells #[.slice Ao37 t309.length co37, .slice Ao41 t310.length co41, .slice Ao42 t311.length co42] 27 (0, 0)) (bL Bn.out) hb);have n12_ := Am (bB (g := Ba) (o := .cells #[.slice Ao48 t282.length co48, .slice Ao53 t285.length co53, .slice Ao54 t288.length co54] 27 (0, 0)) (bL Bb.out) hb);have n13_ := Am (bP (by repeat (first|(with_reducible first|exact HB.out|apply oA|apply pN|apply o1|refine bS ?_ Br.out|refine bS ?_ Bu.out|refine bS ?_ Bv.out|refine bS ?_ By.out)|exact HB.out)) hb);clear Bl Bm Bo Bi Bj Bk Bc Bd Bg Be Bf Bn Bb HB;revert n0_ n1_ n2_ n3_ n4_ n5_ n6_ n7_ n8_ n9_ n10_ n11_ n12_ n13_;intro Bl Bm Bo Bi Bj Bk Bc Bd Bg Be Bf Bn Bb HB;(try clear hb);(try clear hb2);(try clear hk);(try clear hi);have Jl := BR.out;have Jm := B2.out;have Jn := De.out;have Jo := Dg.out;have Gc : w131.cell? ⟨Bt, 0, none⟩ = some (.slice A0_0 l0_0.length c0_0) := (bC Be.out 0).trans rfl;have Gd : w131.cell? ⟨Bt, 1, none⟩ = some (.slice A0_1 l0_1.length c0_1) := (bC Be.out 1).trans rfl;have Ge : w131.cell? ⟨Bt, 2, none⟩ = some (.slice A0_2 l0_2.length c0_2) := (bC Be.out 2).trans rfl;have Gf := bF Be.out 0;have Gg := bF Be.out 1;have Gh := bF Be.out 2)|((with_reducible refine gate_callee (f := 15) rfl ?_);refine goesL_ (some 94) rfl rfl Try.func15 (by kernel_rfl) rfl #[.agg #[.slice A0_0 l0_0.length c0_0, .slice A0_1 l0_1.length c0_1, .slice A0_2 l0_2.length c0_2]] rfl (by (try simp only [lM, lC, lN]);first|done|rfl|(simp only [lD, lT];rfl)) ?_;(with_reducible refine (laws_toSigs.calls kj81 _ _ l0_0 _ _ l0_1 _ _ l0_2 t320 t323 t326 _ ?side1 ?side2 ?side3 ?side4 ?side5 ?side6 A121.out).mono ?_);(case side1 => repeat (first|exact (cB HR0_0.out HB.out)|(with_reducible refine cA ?_ _)|(with_reducible refine cN ?_ _)|(with_reducible refine cD ?_)));(case side2 => exact HC0_0.out);(case side3 => repeat (first|exact (cB HR0_1.out HB.out)|(with_reducible refine cA ?_ _)|(with_reducible refine cN ?_ _)|(with_reducible refine cD ?_)));(case side4 => exact HC0_1.out);(case side5 => repeat (first|exact (cB HR0_2.out HB.out)|(with_reducible refine cA ?_ _)|(with_reducible refine cN ?_ _)|(with_reducible refine cD ?_)));(case side6 => exact HC0_2.out);rintro e w135 ⟨v321, v324, v327, rfl, ho0, ho1, ho2, hb⟩;refine ⟨_, rfl, ?_⟩;have n0_ := Am (rM (Kd.R_told (Kd.R_told (Kd.R_old (rL Bl.out) hb) (Kd.R_base ho0)) (Kd.R_base ho1)) (fun _ h_ => h_.1));have n1_ := Am (rM (Kd.R_told (Kd.R_told (Kd.R_old (rL Bm.out) hb) (Kd.R_base ho0)) (Kd.R_base ho1)) (fun _ h_ => h_.1));have n2_ := Am (Kd.R_elder' (rL Bo.out) (Kd.R_base ho2) hb);have n3_ := Am (rM (Kd.R_told (Kd.R_told (Kd.R_old (rL Bi.out) hb) (Kd.R_base ho0)) (Kd.R_base ho1)) (fun _ h_ => h_.1));have n4_ := Am (rM (Kd.R_told (Kd.R_told (Kd.R_old (rL Bj.out) hb) (Kd.R_base ho0)) (Kd.R_base ho1)) (fun _ h_ => h_.1));have n5_ := Am (Kd.R_elder' (rL Bk.out) (Kd.R_base ho2) hb);have n6_ := Am (rM (Kd.R_told (Kd.R_told (Kd.R_old (rL Bc.out) hb) (Kd.R_base ho0)) (Kd.R_base ho1)) (fun _ h_ => h_.1));have n7_ := Am (rM (Kd.R_told (Kd.R_told (Kd.R_old (rL Bd.out) hb) (Kd.R_base ho0)) (Kd.R_base ho1)) (fun _ h_ => h_.1));have n8_ := Am (Kd.R_elder' (rL Bg.out) (Kd.R_base ho2) hb);have n9_ := Am (Kd.R_lower (Kd.R_new' (Kd.R_new' (Kd.R_new' (Kd.R_new' (Kd.R_new' (Kd.R_new' ho0 (Kd.R_lt (rL Bl.out))) (Kd.R_lt (rL Bm.out))) (Kd.R_lt (rL Bi.out))) (Kd.R_lt (rL Bj.out))) (Kd.R_lt (rL Bc.out))) (Kd.R_lt (rL Bd.out))) (bZ (by repeat (first|(with_reducible first|exact HB.out|apply oA|apply pN|apply o1|refine bS ?_ Br.out|refine bS ?_ Bu.out|refine bS ?_ Bv.out|refine bS ?_ By.out)|exact HB.out))));have n10_ := Am (Kd.R_lower (Kd.R_new' (Kd.R_new' (Kd.R_new' (Kd.R_new' (Kd.R_new' (Kd.R_new' ho1 (Kd.R_lt (rL Bl.out))) (Kd.R_lt (rL Bm.out))) (Kd.R_lt (rL Bi.out))) (Kd.R_lt (rL Bj.out))) (Kd.R_lt (rL Bc.out))) (Kd.R_lt (rL Bd.out))) (bZ (by repeat (first|(with_reducible first|exact HB.out|apply oA|apply pN|apply o1|refine bS ?_ Br.out|refine bS ?_ Bu.out|refine bS ?_ Bv.out|refine bS ?_ By.out)|exact HB.out))));have n11_ := Am (Kd.R_lower (Kd.R_new' (Kd.R_new' (Kd.R_new' ho2 (Kd.R_lt (rL Bo.out))) (Kd.R_lt (rL Bk.out))) (Kd.R_lt (rL Bg.out))) (bZ (by repeat (first|(with_reducible first|exact HB.out|apply oA|apply pN|apply o1|refine bS ?_ Br.out|refine bS ?_ Bu.out|refine bS ?_ Bv.out|refine bS ?_ By.out)|exact HB.out))));have n12_ := Am (bB (g := Bt) (o := .cells #[.slice A0_0 l0_0.length c0_0, .slice A0_1 l0_1.length c0_1, .slice A0_2 l0_2.length c0_2] 25 (0, 0)) (bL Be.out) hb);have n13_ := Am (bB (g := Bp) (o := .cells #[.slice Ao29 t258.length co29, .slice Ao32 t261.length co32, .slice Ao33 t264.length co33] 27 (0, 0)) (bL Bf.out) hb);have n14_ := Am (bB (g := Bq) (o := .cells #[.slice Ao37 t309.length co37, .slice Ao41 t310.length co41, .slice Ao42 t311.length co42] 27 (0, 0)) (bL Bn.out) hb);have n15_ := Am (bB (g := Ba) (o := .cells #[.slice Ao48 t282.length co48, .slice Ao53 t285.length co53, .slice Ao54 t288.length co54] 27 (0, 0)) (bL Bb.out) hb);have n16_ := Am (bP (by repeat (first|(with_reducible first|exact HB.out|apply oA|apply pN|apply o1|refine bS ?_ Br.out|refine bS ?_ Bu.out|refine bS ?_ Bv.out|refine bS ?_ By.out)|exact HB.out)) hb);clear Bl Bm Bo Bi Bj Bk Bc Bd Bg Be Bf Bn Bb HB;revert n0_ n1_ n2_ n3_ n4_ n5_ n6_ n7_ n8_ n9_ n10_ n11_ n12_ n13_ n14_ n15_ n16_;intro Bl Bm Bo Bi Bj Bk Bc Bd Bg BL BM BP Be Bf Bn Bb HB;(try clear hb);(try clear hb2);(try clear hk);(try clear hi);(try clear ho0);(try clear ho1);(try clear ho2))|((with_reducible refine gate_callee (f := 21) rfl ?_);refine goesL_ (some 96) rfl rfl Try.func21 (by kernel_rfl) rfl #[.slice A1 l1.length c1] rfl (by (try simp only [lM, lC, lN]);first|done|rfl|(simp only [lD, lT];rfl)) ?_;(with_reducible refine (laws_toBoolS.calls kj81 _ _ l1 t329 _ ?side1 ?side2 A122.out).mono ?_);(case side1 => repeat (first|exact (cB HR1.out HB.out)|(with_reducible refine cA ?_ _)|(with_reducible refine cN ?_ _)|(with_reducible refine cD ?_)));(case side2 => exact HC1.out);rintro e w136 ⟨v330, rfl, ho0, hb⟩;refine ⟨_, rfl, ?_⟩;have n0_ := Am (Kd.R_elder' (rL Bl.out) (Kd.R_base ho0) hb);have n1_ := Am (Kd.R_elder' (rL Bm.out) (Kd.R_base ho0) hb);have n2_ := Am (rB (rL Bo.out) hb);have n3_ := Am (Kd.R_elder' (rL Bi.out) (Kd.R_base ho0) hb);have n4_ := Am (Kd.R_elder' (rL Bj.out) (Kd.R_base ho0) hb);have n5_ := Am (rB (rL Bk.out) hb);have n6_ := Am (Kd.R_elder' (rL Bc.out) (Kd.R_base ho0) hb);have n7_ := Am (Kd.R_elder' (rL Bd.out) (Kd.R_base ho0) hb);have n8_ := Am (rB (rL Bg.out) hb);have n9_ := Am (Kd.R_elder' (rL BL.out) (Kd.R_base ho0) hb);have n10_ := Am (Kd.R_elder' (rL BM.out) (Kd.R_base ho0) hb);have n11_ := Am (rB (rL BP.out) hb);have n12_ := Am (Kd.R_lower (Kd.R_new' (Kd.R_new' (Kd.R_new' (Kd.R_new' (Kd.R_new' (Kd.R_new' (Kd.R_new' (Kd.R_new' ho0 (Kd.R_lt (rL Bl.out))) (Kd.R_lt (rL Bm.out))) (Kd.R_lt (rL Bi.out))) (Kd.R_lt (rL Bj.out))) (Kd.R_lt (rL Bc.out))) (Kd.R_lt (rL Bd.out))) (Kd.R_lt (rL BL.out))) (Kd.R_lt (rL BM.out))) (bZ (by repeat (first|(with_reducible first|exact HB.out|apply oA|apply pN|apply o1|refine bS ?_ Br.out|refine bS ?_ Bu.out|refine bS ?_ Bv.out|refine bS ?_ By.out)|exact HB.out))));have n13_ := Am (bB (g := Bt) (o := .cells #[.slice A0_0 l0_0.length c0_0, .slice A0_1 l0_1.length c0_1, .slice A0_2 l0_2.length c0_2] 25 (0, 0)) (bL Be.out) hb);have n14_ := Am (bB (g := Bp) (o := .cells #[.slice Ao29 t258.length co29, .slice Ao32 t261.length co32, .slice Ao33 t264.length co33] 27 (0, 0)) (bL Bf.out) hb);have n15_ := Am (bB (g := Bq) (o := .cells #[.slice Ao37 t309.length co37, .slice Ao41 t310.length co41, .slice Ao42 t311.length co42] 27 (0, 0)) (bL Bn.out) hb);have n16_ := Am (bB (g := Ba) (o := .cells #[.slice Ao48 t282.length co48, .slice Ao53 t285.length co53, .slice Ao54 t288.length co54] 27 (0, 0)) (bL Bb.out) hb);have n17_ := Am (bP (by repeat (first|(with_reducible first|exact HB.out|apply oA|apply pN|apply o1|refine bS ?_ Br.out|refine bS ?_ Bu.out|refine bS ?_ Bv.out|refine bS ?_ By.out)|exact HB.out)) hb);clear Bl Bm Bo Bi Bj Bk Bc Bd Bg BL BM BP Be Bf Bn Bb HB;revert n0_ n1_ n2_ n3_ n4_ n5_ n6_ n7_ n8_ n9_ n10_ n11_ n12_ n13_ n14_ n15_ n16_ n17_;intro Bl Bm Bo Bi Bj Bk Bc Bd Bg BL BM BP BV Be Bf Bn Bb HB;(try clear hb);(try clear hb2);(try clear hk);(try clear hi);(try clear ho0);obtain ⟨Ao137, co137, eo137⟩ := Kd.R_slice BL.out;subst eo137;obtain ⟨Ao138, co138, eo138⟩ := Kd.R_slice BM.out;subst eo138;obtain ⟨Ao139, co139, eo139⟩ := Kd.R_slice BP.out;subst eo139;obtain ⟨Ao140, co140, eo140⟩ := Kd.R_slice BV.out;subst eo140)|((with_reducible refine gate_callee (f := 22) rfl ?_);refine goesL_ (some 97) rfl rfl Try.func22 (by kernel_rfl) rfl #[.agg #[.slice Ao137 t320.length co137, .slice Ao138 t323.length co138, .slice Ao139 t326.length co139], .slice Ao140 t329.length co140] rfl (by (try simp only [lM, lC, lN]);first|done|rfl|(simp only [lD, lT];rfl)) ?_;(with_reducible refine (impl_SigsBlock.calls kj81 _ _ t320 _ _ t323 _ _ t326 _ _ t329 t332 t335 t338 t341 _ ?side1 ?side2 ?side3 ?side4 ?side5 ?side6 ?side7 ?side8 A123.out).mono ?_);(case side1 => repeat (first|exact (Kd.R_reads' BL.out).2.2|(with_reducible refine cA ?_ _)|(with_reducible refine cN ?_ _)|(with_reducible refine cD ?_)));(case side2 => exact (Kd.R_reads' BL.out).2.1);(case side3 => repeat (first|exact (Kd.R_reads' BM.out).2.2|(with_reducible refine cA ?_ _)|(with_reducible refine cN ?_ _)|(with_reducible refine cD ?_)));(case side4 => exact (Kd.R_reads' BM.out).2.1);(case side5 => repeat (first|exact (Kd.R_reads' BP.out).2.2|(with_reducible refine cA ?_ _)|(with_reducible refine cN ?_ _)|(with_reducible refine cD ?_)));(case side6 => exact (Kd.R_reads' BP.out).2.1);(case side7 => repeat (first|exact (Kd.R_reads' BV.out).2.2|(with_reducible refine cA ?_ _)|(with_reducible refine cN ?_ _)|(with_reducible refine cD ?_)));(case side8 => exact (Kd.R_reads' BV.out).2.1);rintro e w141 ⟨v333, v336, v339, rfl, ho0, ho1, ho2, hb⟩;refine ⟨_, rfl, ?_⟩;have n0_ := Am (rM (Kd.R_told (Kd.R_told (Kd.R_old (rL Bl.out) hb) (Kd.R_base ho0)) (Kd.R_base ho1)) (fun _ h_ => h_.1));have n1_ := Am (rM (Kd.R_told (Kd.R_told (Kd.R_old (rL Bm.out) hb) (Kd.R_base ho0)) (Kd.R_base ho1)) (fun _ h_ => h_.1));have n2_ := Am (Kd.R_elder' (rL Bo.out) (Kd.R_base ho2) hb);have n3_ := Am (rM (Kd.R_told (Kd.R_told (Kd.R_old (rL Bi.out) hb) (Kd.R_base ho0)) (Kd.R_base ho1)) (fun _ h_ => h_.1));have n4_ := Am (rM (Kd.R_told (Kd.R_told (Kd.R_old (rL Bj.out) hb) (Kd.R_base ho0)) (Kd.R_base ho1)) (fun _ h_ => h_.1));have n5_ := Am (Kd.R_elder' (rL Bk.out) (Kd.R_base ho2) hb);have n6_ := Am (rM (Kd.R_told (Kd.R_told (Kd.R_old (rL Bc.out) hb) (Kd.R_base ho0)) (Kd.R_base ho1)) (fun _ h_ => h_.1));have n7_ := Am (rM (Kd.R_told (Kd.R_told (Kd.R_old (rL Bd.out) hb) (Kd.R_base ho0)) (Kd.R_base ho1)) (fun _ h_ => h_.1));have n8_ := Am (Kd.R_elder' (rL Bg.out) (Kd.R_base ho2) hb);have n9_ := Am (rM (Kd.R_told (Kd.R_told (Kd.R_old (rL BL.out) hb) (Kd.R_base ho0)) (Kd.R_base ho1)) (fun _ h_ => h_.1));have n10_ := Am (rM (Kd.R_told (Kd.R_told (Kd.R_old (rL BM.out) hb) (Kd.R_base ho0)) (Kd.R_base ho1)) (fun _ h_ => h_.1));have n11_ := Am (Kd.R_elder' (rL BP.out) (Kd.R_base ho2) hb);have n12_ := Am (rM (Kd.R_told (Kd.R_told (Kd.R_old (rL BV.out) hb) (Kd.R_base ho0)) (Kd.R_base ho1)) (fun _ h_ => h_.1));have n13_ := Am (Kd.R_lower (Kd.R_new' (Kd.R_new' (Kd.R_new' (Kd.R_new' (Kd.R_new' (Kd.R_new' (Kd.R_new' (Kd.R_new' (Kd.R_new' ho0 (Kd.R_lt (rL Bl.out))) (Kd.R_lt (rL Bm.out))) (Kd.R_lt (rL Bi.out))) (Kd.R_lt (rL Bj.out))) (Kd.R_lt (rL Bc.out))) (Kd.R_lt (rL Bd.out))) (Kd.R_lt (rL BL.out))) (Kd.R_lt (rL BM.out))) (Kd.R_lt (rL BV.out))) (bZ (by repeat (first|(with_reducible first|exact HB.out|apply oA|apply pN|apply o1|refine bS ?_ Br.out|refine bS ?_ Bu.out|refine bS ?_ Bv.out|refine bS ?_ By.out)|exact HB.out))));have n14_ := Am (Kd.R_lower (Kd.R_new' (Kd.R_new' (Kd.R_new' (Kd.R_new' (Kd.R_new' (Kd.R_new' (Kd.R_new' (Kd.R_new' (Kd.R_new' ho1 (Kd.R_lt (rL Bl.out))) (Kd.R_lt (rL Bm.out))) (Kd.R_lt (rL Bi.out))) (Kd.R_lt (rL Bj.out))) (Kd.R_lt (rL Bc.out))) (Kd.R_lt (rL Bd.out))) (Kd.R_lt (rL BL.out))) (Kd.R_lt (rL BM.out))) (Kd.R_lt (rL BV.out))) (bZ (by repeat (first|(with_reducible first|exact HB.out|apply oA|apply pN|apply o1|refine bS ?_ Br.out|refine bS ?_ Bu.out|refine bS ?_ Bv.out|refine bS ?_ By.out)|exact HB.out))));have n15_ := Am (Kd.R_lower (Kd.R_new' (Kd.R_new' (Kd.R_new' (Kd.R_new' ho2 (Kd.R_lt (rL Bo.out))) (Kd.R_lt (rL Bk.out))) (Kd.R_lt (rL Bg.out))) (Kd.R_lt (rL BP.out))) (bZ (by repeat (first|(with_reducible first|exact HB.out|apply oA|apply pN|apply o1|refine bS ?_ Br.out|refine bS ?_ Bu.out|refine bS ?_ Bv.out|refine bS ?_ By.out)|exact HB.out))));have n16_ := Am (bB (g := Bt) (o := .cells #[.slice A0_0 l0_0.length c0_0, .slice A0_1 l0_1.length c0_1, .slice A0_2 l0_2.length c0_2] 25 (0, 0)) (bL Be.out) hb);have n17_ := Am (bB (g := Bp) (o := .cells #[.slice Ao29 t258.length co29, .slice Ao32 t261.length co32, .slice Ao33 t264.length co33] 27 (0, 0)) (bL Bf.out) hb);have n18_ := Am (bB (g := Bq) (o := .cells #[.slice Ao37 t309.length co37, .slice Ao41 t310.length co41, .slice Ao42 t311.length co42] 27 (0, 0)) (bL Bn.out) hb);have n19_ := Am (bB (g := Ba) (o := .cells #[.slice Ao48 t282.length co48, .slice Ao53 t285.length co53, .slice Ao54 t288.length co54] 27 (0, 0)) (bL Bb.out) hb);have n20_ := Am (bP (by repeat (first|(with_reducible first|exact HB.out|apply oA|apply pN|apply o1|refine bS ?_ Br.out|refine bS ?_ Bu.out|refine bS ?_ Bv.out|refine bS ?_ By.out)|exact HB.out)) hb);clear Bl Bm Bo Bi Bj Bk Bc Bd Bg BL BM BP BV Be Bf Bn Bb HB;revert n0_ n1_ n2_ n3_ n4_ n5_ n6_ n7_ n8_ n9_ n10_ n11_ n12_ n13_ n14_ n15_ n16_ n17_ n18_ n19_ n20_;intro Bl Bm Bo Bi Bj Bk Bc Bd Bg BL BM BP BV BZ B0 B1 Be Bf Bn Bb HB;(try clear hb);(try clear hb2);(try clear hk);(try clear hi);(try clear ho0);(try clear ho1);(try clear ho2))|((with_reducible refine gate_dst (N := 15) rfl ?_);refine box_event ?hg (N := 15) ?hd (cs := #[.slice none 0 0, .slice none 0 0, .slice none 0 0]) (t := 27) ?hr ?_;(case hd => rfl);(case hg => rfl);(case hr => first|(go_simp;done)|(go_simp;rfl));intro Bh hg w142 hbox hb;have n0_ := Am (rB (rL Bl.out) hb);have n1_ := Am (rB (rL Bm.out) hb);have n2_ := Am (rB (rL Bo.out) hb);have n3_ := Am (rB (rL Bi.out) hb);have n4_ := Am (rB (rL Bj.out) hb);have n5_ := Am (rB (rL Bk.out) hb);have n6_ := Am (rB (rL Bc.out) hb);have n7_ := Am (rB (rL Bd.out) hb);have n8_ := Am (rB (rL Bg.out) hb);have n9_ := Am (rB (rL BL.out) hb);have n10_ := Am (rB (rL BM.out) hb);have n11_ := Am (rB (rL BP.out) hb);have n12_ := Am (rB (rL BV.out) hb);have n13_ := Am (rB (rL BZ.out) hb);have n14_ := Am (rB (rL B0.out) hb);have n15_ := Am (rB (rL B1.out) hb);have n16_ := Am (bB (g := Bt) (o := .cells #[.slice A0_0 l0_0.length c0_0, .slice A0_1 l0_1.length c0_1, .slice A0_2 l0_2.length c0_2] 25 (0, 0)) (bL Be.out) hb);have n17_ := Am (bB (g := Bp) (o := .cells #[.slice Ao29 t258.length co29, .slice Ao32 t261.length co32, .slice Ao33 t264.length co33] 27 (0, 0)) (bL Bf.out) hb);have n18_ := Am (bB (g := Bq) (o := .cells #[.slice Ao37 t309.length co37, .slice Ao41 t310.length co41, .slice Ao42 t311.length co42] 27 (0, 0)) (bL Bn.out) hb);have n19_ := Am (bB (g := Ba) (o := .cells #[.slice Ao48 t282.length co48, .slice Ao53 t285.length co53, .slice Ao54 t288.length co54] 27 (0, 0)) (bL Bb.out) hb);have n20_ := Am (bP (by repeat (first|(with_reducible first|exact HB.out|apply oA|apply pN|apply o1|refine bS ?_ Br.out|refine bS ?_ Bu.out|refine bS ?_ Bv.out|refine bS ?_ By.out)|exact HB.out)) hb);have n21_ := Am (hbox);have n22_ := Am ((by rw [hg];exact (bZ (by repeat (first|(with_reducible first|exact HB.out|apply oA|apply pN|apply o1|refine bS ?_ Br.out|refine bS ?_ Bu.out|refine bS ?_ Bv.out|refine bS ?_ By.out)|exact HB.out))) : w.heap.size ≤ Bh));have n23_ := Am ((by rw [hg];exact (bZ (by repeat (first|(with_reducible first|exact HB.out|apply oA|apply pN|apply o1|refine bS ?_ Br.out|refine bS ?_ Bu.out|refine bS ?_ Bv.out|refine bS ?_ By.out)|exact HB.out))) : w.heap.size ≤ Bh));have n24_ := Am ((by rw [hg];exact Nat.ne_of_lt (blk_lt (g := Bt) (o := .cells #[.slice A0_0 l0_0.length c0_0, .slice A0_1 l0_1.length c0_1, .slice A0_2 l0_2.length c0_2] 25 (0, 0)) (bL Be.out)) : Bt ≠ Bh));have n25_ := Am ((by rw [hg];exact Nat.ne_of_gt (blk_lt (g := Bt) (o := .cells #[.slice A0_0 l0_0.length c0_0, .slice A0_1 l0_1.length c0_1, .slice A0_2 l0_2.length c0_2] 25 (0, 0)) (bL Be.out)) : Bh ≠ Bt));have n26_ := Am ((by rw [hg];exact Nat.ne_of_lt (blk_lt (g := Bp) (o := .cells #[.slice Ao29 t258.length co29, .slice Ao32 t261.length co32, .slice Ao33 t264.length co33] 27 (0, 0)) (bL Bf.out)) : Bp ≠ Bh));have n27_ := Am ((by rw [hg];exact Nat.ne_of_gt (blk_lt (g := Bp) (o := .cells #[.slice Ao29 t258.length co29, .slice Ao32 t261.length co32, .slice Ao33 t264.length co33] 27 (0, 0)) (bL Bf.out)) : Bh ≠ Bp));have n28_ := Am ((by rw [hg];exact Nat.ne_of_lt (blk_lt (g := Bq) (o := .cells #[.slice Ao37 t309.length co37, .slice Ao41 t310.length co41, .slice Ao42 t311.length co42] 27 (0, 0)) (bL Bn.out)) : Bq ≠ Bh));have n29_ := Am ((by rw [hg];exact Nat.ne_of_gt (blk_lt (g := Bq) (o := .cells #[.slice Ao37 t309.length co37, .slice Ao41 t310.length co41, .slice Ao42 t311.length co42] 27 (0, 0)) (bL Bn.out)) : Bh ≠ Bq));have n30_ := Am ((by rw [hg];exact Nat.ne_of_lt (blk_lt (g := Ba) (o := .cells #[.slice Ao48 t282.length co48, .slice Ao53 t285.length co53, .slice Ao54 t288.length co54] 27 (0, 0)) (bL Bb.out)) : Ba ≠ Bh));have n31_ := Am ((by rw [hg];exact Nat.ne_of_gt (blk_lt (g := Ba) (o := .cells #[.slice Ao48 t282.length co48, .slice Ao53 t285.length co53, .slice Ao54 t288.length co54] 27 (0, 0)) (bL Bb.out)) : Bh ≠ Ba));clear Bl Bm Bo Bi Bj Bk Bc Bd Bg BL BM BP BV BZ B0 B1 Be Bf Bn Bb HB;revert n0_ n1_ n2_ n3_ n4_ n5_ n6_ n7_ n8_ n9_ n10_ n11_ n12_ n13_ n14_ n15_ n16_ n17_ n18_ n19_ n20_ n21_ n22_ n23_ n24_ n25_ n26_ n27_ n28_ n29_ n30_ n31_;intro Bl Bm Bo Bi Bj Bk Bc Bd Bg BL BM BP BV BZ B0 B1 Be Bf Bn Bb HB Bs MM Dk Db Dh Dc Di Dd Dj B7 Df;clear hb hbox hg;obtain ⟨Ao143, co143, eo143⟩ := Kd.R_slice BZ.out;subst eo143;have Jp := Dh.out;have Jq := Db.out;have Jr := Di.out;have Js := Dc.out;have Jt := Dj.out;have Ju := Dd.out;have Jv := Df.out;have Jw := B7.out;have Gi : w142.cell? ⟨Bh, 0, none⟩ = some (.slice none 0 0) := (bC Bs.out 0).trans rfl;have Gj : w142.cell? ⟨Bh, 1, none⟩ = some (.slice none 0 0) := (bC Bs.out 1).trans rfl;have Gk : w142.cell? ⟨Bh, 2, none⟩ = some (.slice none 0 0) := (bC Bs.out 2).trans rfl;have Gl := bF Bs.out 0;have Gm := bF Bs.out 1;have Gn := bF Bs.out 2;obtain ⟨Ao149, co149, eo149⟩ := Kd.R_slice B0.out;subst eo149;obtain ⟨Ao150, co150, eo150⟩ := Kd.R_slice B1.out;subst eo150))
     (try simp only [Act.put, lA, lZ, lS])
     go_cut [108] (fun v108 wc => ∃ (kq : Nat) (x108_123 : Bool), v108 = .bool x108_123 ∧ Aside0 (laws_FnExactSigsBlock.j2 kq t315 x108_123 t316 t317 t318 = some r) ∧ Aside0 (kq ≤ kj81) ∧ Aside0 (Kd.R Kd.bool 4 wc w.heap.size (fun k_ => some k_ ≠ ((.slice Ao32 t261.length co32) : Value).ownBlock ∧ some k_ ≠ ((.slice Ao37 t309.length co37) : Value).ownBlock ∧ some k_ ≠ ((.slice Ao41 t310.length co41) : Value).ownBlock ∧ some k_ ≠ ((.slice Ao48 t282.length co48) : Value).ownBlock ∧ some k_ ≠ ((.slice Ao53 t285.length co53) : Value).ownBlock ∧ some k_ ≠ ((.slice Ao143 t332.length co143) : Value).ownBlock ∧ some k_ ≠ ((.slice Ao149 t335.length co149) : Value).ownBlock) (.slice Ao29 t258.length co29) t258) ∧ Aside0 (Kd.R Kd.bool 4 wc w.heap.size (fun k_ => some k_ ≠ ((.slice Ao29 t258.length co29) : Value).ownBlock ∧ some k_ ≠ ((.slice Ao37 t309.length co37) : Value).ownBlock ∧ some k_ ≠ ((.slice Ao41 t310.length co41) : Value).ownBlock ∧ some k_ ≠ ((.slice Ao48 t282.length co48) : Value).ownBlock ∧ some k_ ≠ ((.slice Ao53 t285.length co53) : Value).ownBlock ∧ some k_ ≠ ((.slice Ao143 t332.length co143) : Value).ownBlock ∧ some k_ ≠ ((.slice Ao149 t335.length co149) : Value).ownBlock) (.slice Ao32 t261.length co32) t261) ∧ Aside0 (Kd.R (Kd.int .i64) 3 wc w.heap.size (fun k_ => some k_ ≠ ((.slice Ao42 t311.length co42) : Value).ownBlock ∧ some k_ ≠ ((.slice Ao54 t288.length co54) : Value).ownBlock ∧ some k_ ≠ ((.slice Ao150 t338.length co150) : Value).ownBlock) (.slice Ao33 t264.length co33) t264) ∧ Aside0 (Kd.R Kd.bool 4 wc w.heap.size (fun k_ => some k_ ≠ ((.slice Ao29 t258.length co29) : Value).ownBlock ∧ some k_ ≠ ((.slice Ao32 t261.length co32) : Value).ownBlock ∧ some k_ ≠ ((.slice Ao41 t310.length co41) : Value).ownBlock ∧ some k_ ≠ ((.slice Ao48 t282.length co48) : Value).ownBlock ∧ some k_ ≠ ((.slice Ao53 t285.length co53) : Value).ownBlock ∧ some k_ ≠ ((.slice Ao143 t332.length co143) : Value).ownBlock ∧ some k_ ≠ ((.slice Ao149 t335.length co149) : Value).ownBlock) (.slice Ao37 t309.length co37) t309) ∧ Aside0 (Kd.R Kd.bool 4 wc w.heap.size (fun k_ => some k_ ≠ ((.slice Ao29 t258.length co29) : Value).ownBlock ∧ some k_ ≠ ((.slice Ao32 t261.length co32) : Value).ownBlock ∧ some k_ ≠ ((.slice Ao37 t309.length co37) : Value).ownBlock ∧ some k_ ≠ ((.slice Ao48 t282.length co48) : Value).ownBlock ∧ some k_ ≠ ((.slice Ao53 t285.length co53) : Value).ownBlock ∧ some k_ ≠ ((.slice Ao143 t332.length co143) : Value).ownBlock ∧ some k_ ≠ ((.slice Ao149 t335.length co149) : Value).ownBlock) (.slice Ao41 t310.length co41) t310) ∧ Aside0 (Kd.R (Kd.int .i64) 3 wc w.heap.size (fun k_ => some k_ ≠ ((.slice Ao33 t264.length co33) : Value).ownBlock ∧ some k_ ≠ ((.slice Ao54 t288.length co54) : Value).ownBlock ∧ some k_ ≠ ((.slice Ao150 t338.length co150) : Value).ownBlock) (.slice Ao42 t311.length co42) t311) ∧ Aside0 (Kd.R Kd.bool 4 wc w.heap.size (fun k_ => some k_ ≠ ((.slice Ao29 t258.length co29) : Value).ownBlock ∧ some k_ ≠ ((.slice Ao32 t261.length co32) : Value).ownBlock ∧ some k_ ≠ ((.slice Ao37 t309.length co37) : Value).ownBlock ∧ some k_ ≠ ((.slice Ao41 t310.length co41) : Value).ownBlock ∧ some k_ ≠ ((.slice Ao53 t285.length co53) : Value).ownBlock ∧ some k_ ≠ ((.slice Ao143 t332.length co143) : Value).ownBlock ∧ some k_ ≠ ((.slice Ao149 t335.length co149) : Value).ownBlock) (.slice Ao48 t282.length co48) t316) ∧ Aside0 (Kd.R Kd.bool 4 wc w.heap.size (fun k_ => some k_ ≠ ((.slice Ao29 t258.length co29) : Value).ownBlock ∧ some k_ ≠ ((.slice Ao32 t261.length co32) : Value).ownBlock ∧ some k_ ≠ ((.slice Ao37 t309.length co37) : Value).ownBlock ∧ some k_ ≠ ((.slice Ao41 t310.length co41) : Value).ownBlock ∧ some k_ ≠ ((.slice Ao48 t282.length co48) : Value).ownBlock ∧ some k_ ≠ ((.slice Ao143 t332.length co143) : Value).ownBlock ∧ some k_ ≠ ((.slice Ao149 t335.length co149) : Value).ownBlock) (.slice Ao53 t285.length co53) t317) ∧ Aside0 (Kd.R (Kd.int .i64) 3 wc w.heap.size (fun k_ => some k_ ≠ ((.slice Ao33 t264.length co33) : Value).ownBlock ∧ some k_ ≠ ((.slice Ao42 t311.length co42) : Value).ownBlock ∧ some k_ ≠ ((.slice Ao150 t338.length co150) : Value).ownBlock) (.slice Ao54 t288.length co54) t318) ∧ Aside0 (Kd.R Kd.bool 4 wc w.heap.size (fun k_ => some k_ ≠ ((.slice Ao29 t258.length co29) : Value).ownBlock ∧ some k_ ≠ ((.slice Ao32 t261.length co32) : Value).ownBlock ∧ some k_ ≠ ((.slice Ao37 t309.length co37) : Value).ownBlock ∧ some k_ ≠ ((.slice Ao41 t310.length co41) : Value).ownBlock ∧ some k_ ≠ ((.slice Ao48 t282.length co48) : Value).ownBlock ∧ some k_ ≠ ((.slice Ao53 t285.length co53) : Value).ownBlock ∧ some k_ ≠ ((.slice Ao149 t335.length co149) : Value).ownBlock) (.slice Ao143 t332.length co143) t332) ∧ Aside0 (Kd.R Kd.bool 4 wc w.heap.size (fun k_ => some k_ ≠ ((.slice Ao29 t258.length co29) : Value).ownBlock ∧ some k_ ≠ ((.slice Ao32 t261.length co32) : Value).ownBlock ∧ some k_ ≠ ((.slice Ao37 t309.length co37) : Value).ownBlock ∧ some k_ ≠ ((.slice Ao41 t310.length co41) : Value).ownBlock ∧ some k_ ≠ ((.slice Ao48 t282.length co48) : Value).ownBlock ∧ some k_ ≠ ((.slice Ao53 t285.length co53) : Value).ownBlock ∧ some k_ ≠ ((.slice Ao143 t332.length co143) : Value).ownBlock) (.slice Ao149 t335.length co149) t335) ∧ Aside0 (Kd.R (Kd.int .i64) 3 wc w.heap.size (fun k_ => some k_ ≠ ((.slice Ao33 t264.length co33) : Value).ownBlock ∧ some k_ ≠ ((.slice Ao42 t311.length co42) : Value).ownBlock ∧ some k_ ≠ ((.slice Ao54 t288.length co54) : Value).ownBlock) (.slice Ao150 t338.length co150) t338) ∧ Aside0 (wc.heap[Bt]? = some (.cells #[(.slice A0_0 l0_0.length c0_0), (.slice A0_1 l0_1.length c0_1), (.slice A0_2 l0_2.length c0_2)] 25 (0, 0))) ∧ Aside0 (wc.heap[Bp]? = some (.cells #[(.slice Ao29 t258.length co29), (.slice Ao32 t261.length co32), (.slice Ao33 t264.length co33)] 27 (0, 0))) ∧ Aside0 (wc.heap[Bq]? = some (.cells #[(.slice Ao37 t309.length co37), (.slice Ao41 t310.length co41), (.slice Ao42 t311.length co42)] 27 (0, 0))) ∧ Aside0 (wc.heap[Ba]? = some (.cells #[(.slice Ao48 t282.length co48), (.slice Ao53 t285.length co53), (.slice Ao54 t288.length co54)] 27 (0, 0))) ∧ Aside0 (wc.heap[Bh]? = some (.cells #[(.slice Ao143 t332.length co143), (.slice Ao149 t335.length co149), (.slice Ao150 t338.length co150)] 27 (0, 0))) ∧ Aside0 (Below w.heap.size w wc))
     case first =>
      have H := HC124.out
      clear HC124
      replace H := Option.bind_eq_some_iff.mp H
      obtain ⟨t343, A1510, H⟩ := H
      replace H : (if t343 = true then (laws_FnExactSigsBlock.j2 kj81 t315 (t341 != t267) t316 t317 t318) else (laws_FnExactSigsBlock.j2 kj81 t315 true t316 t317 t318)) = some r := H
      have A151 := Am A1510
      clear A1510
      by_cases c152 : t343 = true
      ·subst c152
       have H1 : (laws_FnExactSigsBlock.j2 kj81 t315 (t341 != t267) t316 t317 t318) = some r := by rw [if_pos rfl] at H;exact H
       clear H
       have H := H1
       clear H1
       have H' := Am H
       clear H
       have Jx := Dh.out
       have Jy := Db.out
       have Jz := Di.out
       have JA := Dc.out
       have JB := Dj.out
       have JC := Dd.out
       have JD := Df.out
       have JE := B7.out
       have Gp : w142.cell? ⟨Bh, 0, none⟩ = some (.slice none 0 0) := (bC Bs.out 0).trans rfl
       have Gq : w142.cell? ⟨Bh, 1, none⟩ = some (.slice none 0 0) := (bC Bs.out 1).trans rfl
       have Gr : w142.cell? ⟨Bh, 2, none⟩ = some (.slice none 0 0) := (bC Bs.out 2).trans rfl
       have Gs := bF Bs.out 0
       have Gt := bF Bs.out 1
       have Gu := bF Bs.out 2
       have JF := B2.out
       have JG := BR.out
       have JH := BS.out
       have JI := B3.out
       have JJ := BN.out
       have JK := BU.out
       have Gv : w142.cell? ⟨Bp, 0, none⟩ = some (.slice Ao29 t258.length co29) := (bC Bf.out 0).trans rfl
       have Gw : w142.cell? ⟨Bp, 1, none⟩ = some (.slice Ao32 t261.length co32) := (bC Bf.out 1).trans rfl
       have Gx : w142.cell? ⟨Bp, 2, none⟩ = some (.slice Ao33 t264.length co33) := (bC Bf.out 2).trans rfl
       have Gy := bF Bf.out 0
       have Gz := bF Bf.out 1
       have GA := bF Bf.out 2
       go_wp2_with (first|((with_reducible refine gate_callee (f := 17) rfl ?_);refine goesL_ (some 102) rfl rfl Try.func17 (by kernel_rfl) rfl #[.agg #[.slice Ao143 t332.length co143, .slice Ao149 t335.length co149, .slice Ao150 t338.length co150], .agg #[.slice Ao29 t258.length co29, .slice Ao32 t261.length co32, .slice Ao33 t264.length co33]] rfl (by (try simp only [lM, lC, lN]);first|done|rfl|(simp only [lD, lT];rfl)) ?_;(with_reducible refine (laws_eqSigs.calls kj81 _ _ t332 _ _ t335 _ _ t338 _ _ t258 _ _ t261 _ _ t264 true _ ?side1 ?side2 ?side3 ?side4 ?side5 ?side6 ?side7 ?side8 ?side9 ?side10 ?side11 ?side12 A151.out).mono ?_);(case side1 => refine (Kd.R_reads' (e := 4) (base := w.heap.size) (ok := fun k_ => (((((((((some k_ ≠ (.slice Ao149 t335.length co149 : Value).ownBlock ∧ some k_ ≠ (.slice Ao29 t258.length co29 : Value).ownBlock) ∧ some k_ ≠ (.slice Ao32 t261.length co32 : Value).ownBlock) ∧ some k_ ≠ (.slice Ao37 t309.length co37 : Value).ownBlock) ∧ some k_ ≠ (.slice Ao41 t310.length co41 : Value).ownBlock) ∧ some k_ ≠ (.slice Ao48 t282.length co48 : Value).ownBlock) ∧ some k_ ≠ (.slice Ao53 t285.length co53 : Value).ownBlock) ∧ some k_ ≠ (.slice Ao137 t320.length co137 : Value).ownBlock) ∧ some k_ ≠ (.slice Ao138 t323.length co138 : Value).ownBlock) ∧ some k_ ≠ (.slice Ao140 t329.length co140 : Value).ownBlock)) (n := t332.length) (c := co143) ?_).2.2;exact (by (with_reducible repeat (first|apply rA|apply rN|apply rD));exact (rM (rF (p := ⟨Bh, 2, none⟩) (rF (p := ⟨Bh, 1, none⟩) (rF (p := ⟨Bh, 0, none⟩) (rT BZ.out Bs.out (by decide)) (fun _ hk => hk.2) (.slice Ao143 t332.length co143)) (fun _ hk => hk.2) (.slice Ao149 t335.length co149)) (fun _ hk => hk.2) (.slice Ao150 t338.length co150)) (fun _ h_ => h_.1))));(case side2 => exact (Kd.R_reads' BZ.out).2.1);(case side3 => refine (Kd.R_reads' (e := 4) (base := w.heap.size) (ok := fun k_ => (((((((((some k_ ≠ (.slice Ao143 t332.length co143 : Value).ownBlock ∧ some k_ ≠ (.slice Ao29 t258.length co29 : Value).ownBlock) ∧ some k_ ≠ (.slice Ao32 t261.length co32 : Value).ownBlock) ∧ some k_ ≠ (.slice Ao37 t309.length co37 : Value).ownBlock) ∧ some k_ ≠ (.slice Ao41 t310.length co41 : Value).ownBlock) ∧ some k_ ≠ (.slice Ao48 t282.length co48 : Value).ownBlock) ∧ some k_ ≠ (.slice Ao53 t285.length co53 : Value).ownBlock) ∧ some k_ ≠ (.slice Ao137 t320.length co137 : Value).ownBlock) ∧ some k_ ≠ (.slice Ao138 t323.length co138 : Value).ownBlock) ∧ some k_ ≠ (.slice Ao140 t329.length co140 : Value).ownBlock)) (n := t335.length) (c := co149) ?_).2.2;exact (by (with_reducible repeat (first|apply rA|apply rN|apply rD));exact (rM (rF (p := ⟨Bh, 2, none⟩) (rF (p := ⟨Bh, 1, none⟩) (rF (p := ⟨Bh, 0, none⟩) (rT B0.out Bs.out (by decide)) (fun _ hk => hk.2) (.slice Ao143 t332.length co143)) (fun _ hk => hk.2) (.slice Ao149 t335.length co149)) (fun _ hk => hk.2) (.slice Ao150 t338.length co150)) (fun _ h_ => h_.1))));(case side4 => exact (Kd.R_reads' B0.out).2.1);(case side5 => refine (Kd.R_reads' (e := 3) (base := w.heap.size) (ok := fun k_ => ((((True ∧ some k_ ≠ (.slice Ao33 t264.length co33 : Value).ownBlock) ∧ some k_ ≠ (.slice Ao42 t311.length co42 : Value).ownBlock) ∧ some k_ ≠ (.slice Ao54 t288.length co54 : Value).ownBlock) ∧ some k_ ≠ (.slice Ao139 t326.length co139 : Value).ownBlock)) (n := t338.length) (c := co150) ?_).2.2;exact (by (with_reducible repeat (first|apply rA|apply rN|apply rD));exact (rM (rF (p := ⟨Bh, 2, none⟩) (rF (p := ⟨Bh, 1, none⟩) (rF (p := ⟨Bh, 0, none⟩) (rT B1.out Bs.out (by decide)) (fun _ hk => hk.2) (.slice Ao143 t332.length co143)) (fun _ hk => hk.2) (.slice Ao149 t335.length co149)) (fun _ hk => hk.2) (.slice Ao150 t338.length co150)) (fun _ h_ => h_.1))));(case side6 => exact (Kd.R_reads' B1.out).2.1);(case side7 => refine (Kd.R_reads' (e := 4) (base := w.heap.size) (ok := fun k_ => ((((((some k_ ≠ (.slice Ao32 t261.length co32 : Value).ownBlock ∧ (some k_ ≠ (.slice Ao37 t309.length co37 : Value).ownBlock ∧ (some k_ ≠ (.slice Ao41 t310.length co41 : Value).ownBlock ∧ (some k_ ≠ (.slice Ao48 t282.length co48 : Value).ownBlock ∧ some k_ ≠ (.slice Ao53 t285.length co53 : Value).ownBlock)))) ∧ some k_ ≠ (.slice Ao137 t320.length co137 : Value).ownBlock) ∧ some k_ ≠ (.slice Ao138 t323.length co138 : Value).ownBlock) ∧ some k_ ≠ (.slice Ao140 t329.length co140 : Value).ownBlock) ∧ some k_ ≠ (.slice Ao143 t332.length co143 : Value).ownBlock) ∧ some k_ ≠ (.slice Ao149 t335.length co149 : Value).ownBlock)) (n := t258.length) (c := co29) ?_).2.2;exact (by (with_reducible repeat (first|apply rA|apply rN|apply rD));exact (rM (rF (p := ⟨Bh, 2, none⟩) (rF (p := ⟨Bh, 1, none⟩) (rF (p := ⟨Bh, 0, none⟩) (rT Bl.out Bs.out (by decide)) (fun _ hk => hk.2) (.slice Ao143 t332.length co143)) (fun _ hk => hk.2) (.slice Ao149 t335.length co149)) (fun _ hk => hk.2) (.slice Ao150 t338.length co150)) (fun _ h_ => h_.1))));(case side8 => exact (Kd.R_reads' Bl.out).2.1);(case side9 => refine (Kd.R_reads' (e := 4) (base := w.heap.size) (ok := fun k_ => ((((((some k_ ≠ (.slice Ao29 t258.length co29 : Value).ownBlock ∧ (some k_ ≠ (.slice Ao37 t309.length co37 : Value).ownBlock ∧ (some k_ ≠ (.slice Ao41 t310.length co41 : Value).ownBlock ∧ (some k_ ≠ (.slice Ao48 t282.length co48 : Value).ownBlock ∧ some k_ ≠ (.slice Ao53 t285.length co53 : Value).ownBlock)))) ∧ some k_ ≠ (.slice Ao137 t320.length co137 : Value).ownBlock) ∧ some k_ ≠ (.slice Ao138 t323.length co138 : Value).ownBlock) ∧ some k_ ≠ (.slice Ao140 t329.length co140 : Value).ownBlock) ∧ some k_ ≠ (.slice Ao143 t332.length co143 : Value).ownBlock) ∧ some k_ ≠ (.slice Ao149 t335.length co149 : Value).ownBlock)) (n := t261.length) (c := co32) ?_).2.2;exact (by (with_reducible repeat (first|apply rA|apply rN|apply rD));exact (rM (rF (p := ⟨Bh, 2, none⟩) (rF (p := ⟨Bh, 1, none⟩) (rF (p := ⟨Bh, 0, none⟩) (rT Bm.out Bs.out (by decide)) (fun _ hk => hk.2) (.slice Ao143 t332.length co143)) (fun _ hk => hk.2) (.slice Ao149 t335.length co149)) (fun _ hk => hk.2) (.slice Ao150 t338.length co150)) (fun _ h_ => h_.1))));(case side10 => exact (Kd.R_reads' Bm.out).2.1);(case side11 => refine (Kd.R_reads' (e := 3) (base := w.heap.size) (ok := fun k_ => (((some k_ ≠ (.slice Ao42 t311.length co42 : Value).ownBlock ∧ some k_ ≠ (.slice Ao54 t288.length co54 : Value).ownBlock) ∧ some k_ ≠ (.slice Ao139 t326.length co139 : Value).ownBlock) ∧ some k_ ≠ (.slice Ao150 t338.length co150 : Value).ownBlock)) (n := t264.length) (c := co33) ?_).2.2;exact (by (with_reducible repeat (first|apply rA|apply rN|apply rD));exact (rM (rF (p := ⟨Bh, 2, none⟩) (rF (p := ⟨Bh, 1, none⟩) (rF (p := ⟨Bh, 0, none⟩) (rT Bo.out Bs.out (by decide)) (fun _ hk => hk.2) (.slice Ao143 t332.length co143)) (fun _ hk => hk.2) (.slice Ao149 t335.length co149)) (fun _ hk => hk.2) (.slice Ao150 t338.length co150)) (fun _ h_ => h_.1))));(case side12 => exact (Kd.R_reads' Bo.out).2.1);rintro e w162 ⟨rfl, hb⟩;refine ⟨_, rfl, ?_⟩;have n0_ := Am (rB (by (with_reducible repeat (first|apply rA|apply rN|apply rD));exact (rM (rF (p := ⟨Bh, 2, none⟩) (rF (p := ⟨Bh, 1, none⟩) (rF (p := ⟨Bh, 0, none⟩) (rT Bl.out Bs.out (by decide)) (fun _ hk => hk.2) (.slice Ao143 t332.length co143)) (fun _ hk => hk.2) (.slice Ao149 t335.length co149)) (fun _ hk => hk.2) (.slice Ao150 t338.length co150)) (fun _ h_ => h_.1))) hb);have n1_ := Am (rB (by (with_reducible repeat (first|apply rA|apply rN|apply rD));exact (rM (rF (p := ⟨Bh, 2, none⟩) (rF (p := ⟨Bh, 1, none⟩) (rF (p := ⟨Bh, 0, none⟩) (rT Bm.out Bs.out (by decide)) (fun _ hk => hk.2) (.slice Ao143 t332.length co143)) (fun _ hk => hk.2) (.slice Ao149 t335.length co149)) (fun _ hk => hk.2) (.slice Ao150 t338.length co150)) (fun _ h_ => h_.1))) hb);have n2_ := Am (rB (by (with_reducible repeat (first|apply rA|apply rN|apply rD));exact (rM (rF (p := ⟨Bh, 2, none⟩) (rF (p := ⟨Bh, 1, none⟩) (rF (p := ⟨Bh, 0, none⟩) (rT Bo.out Bs.out (by decide)) (fun _ hk => hk.2) (.slice Ao143 t332.length co143)) (fun _ hk => hk.2) (.slice Ao149 t335.length co149)) (fun _ hk => hk.2) (.slice Ao150 t338.length co150)) (fun _ h_ => h_.1))) hb);have n3_ := Am (rB (by (with_reducible repeat (first|apply rA|apply rN|apply rD));exact (rM (rF (p := ⟨Bh, 2, none⟩) (rF (p := ⟨Bh, 1, none⟩) (rF (p := ⟨Bh, 0, none⟩) (rT Bi.out Bs.out (by decide)) (fun _ hk => hk.2) (.slice Ao143 t332.length co143)) (fun _ hk => hk.2) (.slice Ao149 t335.length co149)) (fun _ hk => hk.2) (.slice Ao150 t338.length co150)) (fun _ h_ => h_.1))) hb);have n4_ := Am (rB (by (with_reducible repeat (first|apply rA|apply rN|apply rD));exact (rM (rF (p := ⟨Bh, 2, none⟩) (rF (p := ⟨Bh, 1, none⟩) (rF (p := ⟨Bh, 0, none⟩) (rT Bj.out Bs.out (by decide)) (fun _ hk => hk.2) (.slice Ao143 t332.length co143)) (fun _ hk => hk.2) (.slice Ao149 t335.length co149)) (fun _ hk => hk.2) (.slice Ao150 t338.length co150)) (fun _ h_ => h_.1))) hb);have n5_ := Am (rB (by (with_reducible repeat (first|apply rA|apply rN|apply rD));exact (rM (rF (p := ⟨Bh, 2, none⟩) (rF (p := ⟨Bh, 1, none⟩) (rF (p := ⟨Bh, 0, none⟩) (rT Bk.out Bs.out (by decide)) (fun _ hk => hk.2) (.slice Ao143 t332.length co143)) (fun _ hk => hk.2) (.slice Ao149 t335.length co149)) (fun _ hk => hk.2) (.slice Ao150 t338.length co150)) (fun _ h_ => h_.1))) hb);have n6_ := Am (rB (by (with_reducible repeat (first|apply rA|apply rN|apply rD));exact (rM (rF (p := ⟨Bh, 2, none⟩) (rF (p := ⟨Bh, 1, none⟩) (rF (p := ⟨Bh, 0, none⟩) (rT Bc.out Bs.out (by decide)) (fun _ hk => hk.2) (.slice Ao143 t332.length co143)) (fun _ hk => hk.2) (.slice Ao149 t335.length co149)) (fun _ hk => hk.2) (.slice Ao150 t338.length co150)) (fun _ h_ => h_.1))) hb);have n7_ := Am (rB (by (with_reducible repeat (first|apply rA|apply rN|apply rD));exact (rM (rF (p := ⟨Bh, 2, none⟩) (rF (p := ⟨Bh, 1, none⟩) (rF (p := ⟨Bh, 0, none⟩) (rT Bd.out Bs.out (by decide)) (fun _ hk => hk.2) (.slice Ao143 t332.length co143)) (fun _ hk => hk.2) (.slice Ao149 t335.length co149)) (fun _ hk => hk.2) (.slice Ao150 t338.length co150)) (fun _ h_ => h_.1))) hb);have n8_ := Am (rB (by (with_reducible repeat (first|apply rA|apply rN|apply rD));exact (rM (rF (p := ⟨Bh, 2, none⟩) (rF (p := ⟨Bh, 1, none⟩) (rF (p := ⟨Bh, 0, none⟩) (rT Bg.out Bs.out (by decide)) (fun _ hk => hk.2) (.slice Ao143 t332.length co143)) (fun _ hk => hk.2) (.slice Ao149 t335.length co149)) (fun _ hk => hk.2) (.slice Ao150 t338.length co150)) (fun _ h_ => h_.1))) hb);have n9_ := Am (rB (by (with_reducible repeat (first|apply rA|apply rN|apply rD));exact (rM (rF (p := ⟨Bh, 2, none⟩) (rF (p := ⟨Bh, 1, none⟩) (rF (p := ⟨Bh, 0, none⟩) (rT BL.out Bs.out (by decide)) (fun _ hk => hk.2) (.slice Ao143 t332.length co143)) (fun _ hk => hk.2) (.slice Ao149 t335.length co149)) (fun _ hk => hk.2) (.slice Ao150 t338.length co150)) (fun _ h_ => h_.1))) hb);have n10_ := Am (rB (by (with_reducible repeat (first|apply rA|apply rN|apply rD));exact (rM (rF (p := ⟨Bh, 2, none⟩) (rF (p := ⟨Bh, 1, none⟩) (rF (p := ⟨Bh, 0, none⟩) (rT BM.out Bs.out (by decide)) (fun _ hk => hk.2) (.slice Ao143 t332.length co143)) (fun _ hk => hk.2) (.slice Ao149 t335.length co149)) (fun _ hk => hk.2) (.slice Ao150 t338.length co150)) (fun _ h_ => h_.1))) hb);have n11_ := Am (rB (by (with_reducible repeat (first|apply rA|apply rN|apply rD));exact (rM (rF (p := ⟨Bh, 2, none⟩) (rF (p := ⟨Bh, 1, none⟩) (rF (p := ⟨Bh, 0, none⟩) (rT BP.out Bs.out (by decide)) (fun _ hk => hk.2) (.slice Ao143 t332.length co143)) (fun _ hk => hk.2) (.slice Ao149 t335.length co149)) (fun _ hk => hk.2) (.slice Ao150 t338.length co150)) (fun _ h_ => h_.1))) hb);have n12_ := Am (rB (by (with_reducible repeat (first|apply rA|apply rN|apply rD));exact (rM (rF (p := ⟨Bh, 2, none⟩) (rF (p := ⟨Bh, 1, none⟩) (rF (p := ⟨Bh, 0, none⟩) (rT BV.out Bs.out (by decide)) (fun _ hk => hk.2) (.slice Ao143 t332.length co143)) (fun _ hk => hk.2) (.slice Ao149 t335.length co149)) (fun _ hk => hk.2) (.slice Ao150 t338.length co150)) (fun _ h_ => h_.1))) hb);have n13_ := Am (rB (by (with_reducible repeat (first|apply rA|apply rN|apply rD));exact (rM (rF (p := ⟨Bh, 2, none⟩) (rF (p := ⟨Bh, 1, none⟩) (rF (p := ⟨Bh, 0, none⟩) (rT BZ.out Bs.out (by decide)) (fun _ hk => hk.2) (.slice Ao143 t332.length co143)) (fun _ hk => hk.2) (.slice Ao149 t335.length co149)) (fun _ hk => hk.2) (.slice Ao150 t338.length co150)) (fun _ h_ => h_.1))) hb);have n14_ := Am (rB (by (with_reducible repeat (first|apply rA|apply rN|apply rD));exact (rM (rF (p := ⟨Bh, 2, none⟩) (rF (p := ⟨Bh, 1, none⟩) (rF (p := ⟨Bh, 0, none⟩) (rT B0.out Bs.out (by decide)) (fun _ hk => hk.2) (.slice Ao143 t332.length co143)) (fun _ hk => hk.2) (.slice Ao149 t335.length co149)) (fun _ hk => hk.2) (.slice Ao150 t338.length co150)) (fun _ h_ => h_.1))) hb);have n15_ := Am (rB (by (with_reducible repeat (first|apply rA|apply rN|apply rD));exact (rM (rF (p := ⟨Bh, 2, none⟩) (rF (p := ⟨Bh, 1, none⟩) (rF (p := ⟨Bh, 0, none⟩) (rT B1.out Bs.out (by decide)) (fun _ hk => hk.2) (.slice Ao143 t332.length co143)) (fun _ hk => hk.2) (.slice Ao149 t335.length co149)) (fun _ hk => hk.2) (.slice Ao150 t338.length co150)) (fun _ h_ => h_.1))) hb);have n16_ := Am (bB (g := Bt) (o := .cells #[.slice A0_0 l0_0.length c0_0, .slice A0_1 l0_1.length c0_1, .slice A0_2 l0_2.length c0_2] 25 (0, 0)) (by (with_reducible repeat (first|refine bN ?_ _|refine bD ?_|refine bA ?_ _|refine blk_far ?_ Db.out _));exact Be.out) hb);have n17_ := Am (bB (g := Bp) (o := .cells #[.slice Ao29 t258.length co29, .slice Ao32 t261.length co32, .slice Ao33 t264.length co33] 27 (0, 0)) (by (with_reducible repeat (first|refine bN ?_ _|refine bD ?_|refine bA ?_ _|refine blk_far ?_ Dc.out _));exact Bf.out) hb);have n18_ := Am (bB (g := Bq) (o := .cells #[.slice Ao37 t309.length co37, .slice Ao41 t310.length co41, .slice Ao42 t311.length co42] 27 (0, 0)) (by (with_reducible repeat (first|refine bN ?_ _|refine bD ?_|refine bA ?_ _|refine blk_far ?_ Dd.out _));exact Bn.out) hb);have n19_ := Am (bB (g := Ba) (o := .cells #[.slice Ao48 t282.length co48, .slice Ao53 t285.length co53, .slice Ao54 t288.length co54] 27 (0, 0)) (by (with_reducible repeat (first|refine bN ?_ _|refine bD ?_|refine bA ?_ _|refine blk_far ?_ B7.out _));exact Bb.out) hb);have n20_ := Am (bB (g := Bh) (o := .cells #[.slice Ao143 t332.length co143, .slice Ao149 t335.length co149, .slice Ao150 t338.length co150] 27 (0, 0)) (by (with_reducible repeat (first|refine bN ?_ _|refine bD ?_|refine bA ?_ _));refine blk_put (cs := #[.slice Ao143 t332.length co143, .slice Ao149 t335.length co149, .slice none 0 0]) ?_ 2 _ rfl;(with_reducible repeat (first|refine bN ?_ _|refine bD ?_|refine bA ?_ _));refine blk_put (cs := #[.slice Ao143 t332.length co143, .slice none 0 0, .slice none 0 0]) ?_ 1 _ rfl;(with_reducible repeat (first|refine bN ?_ _|refine bD ?_|refine bA ?_ _));refine blk_put (cs := #[.slice none 0 0, .slice none 0 0, .slice none 0 0]) ?_ 0 _ rfl;(with_reducible repeat (first|refine bN ?_ _|refine bD ?_|refine bA ?_ _));exact Bs.out) hb);have n21_ := Am (bP (by repeat (first|(with_reducible first|exact HB.out|apply oA|apply pN|apply o1|refine bS ?_ Br.out|refine bS ?_ Bu.out|refine bS ?_ Bv.out|refine bS ?_ By.out|refine bS ?_ Dk.out)|exact HB.out)) hb);clear Bl Bm Bo Bi Bj Bk Bc Bd Bg BL BM BP BV BZ B0 B1 Be Bf Bn Bb Bs HB;revert n0_ n1_ n2_ n3_ n4_ n5_ n6_ n7_ n8_ n9_ n10_ n11_ n12_ n13_ n14_ n15_ n16_ n17_ n18_ n19_ n20_ n21_;intro Bl Bm Bo Bi Bj Bk Bc Bd Bg BL BM BP BV BZ B0 B1 Be Bf Bn Bb Bs HB;(try clear hb);(try clear hb2);(try clear hk);(try clear hi)))
       go_meet
       case rel => exact ⟨_, ((t341 != t267)), (by first|rfl|(simp;done)|(simp [*];done)), H', ⟨by have := Fv.out;have := GO.out;first|omega|exact Nat.le_refl _⟩, ⟨by (try simp only [hl279000_81]);(try simp only [hl279001_81]);(try simp only [hl279002_81]);(with_reducible repeat (first|apply rA|apply rN|apply rD));exact rM Bl.out (fun _ hk => ⟨hk.1.1.1.1.1.1, ⟨hk.1.1.1.1.1.2.1, ⟨hk.1.1.1.1.1.2.2.1, ⟨hk.1.1.1.1.1.2.2.2.1, ⟨hk.1.1.1.1.1.2.2.2.2, ⟨hk.1.2, hk.2⟩⟩⟩⟩⟩⟩)⟩, ⟨by (try simp only [hl279000_81]);(try simp only [hl279001_81]);(try simp only [hl279002_81]);(with_reducible repeat (first|apply rA|apply rN|apply rD));exact rM Bm.out (fun _ hk => ⟨hk.1.1.1.1.1.1, ⟨hk.1.1.1.1.1.2.1, ⟨hk.1.1.1.1.1.2.2.1, ⟨hk.1.1.1.1.1.2.2.2.1, ⟨hk.1.1.1.1.1.2.2.2.2, ⟨hk.1.2, hk.2⟩⟩⟩⟩⟩⟩)⟩, ⟨by (try simp only [hl279000_81]);(try simp only [hl279001_81]);(try simp only [hl279002_81]);(with_reducible repeat (first|apply rA|apply rN|apply rD));exact rM Bo.out (fun _ hk => ⟨hk.1.1.1, ⟨hk.1.1.2, hk.2⟩⟩)⟩, ⟨by (try simp only [hl279000_81]);(try simp only [hl279001_81]);(try simp only [hl279002_81]);(with_reducible repeat (first|apply rA|apply rN|apply rD));exact rM Bi.out (fun _ hk => ⟨hk.1.1.1.1.1.1, ⟨hk.1.1.1.1.1.2.1, ⟨hk.1.1.1.1.1.2.2.1, ⟨hk.1.1.1.1.1.2.2.2.1, ⟨hk.1.1.1.1.1.2.2.2.2, ⟨hk.1.2, hk.2⟩⟩⟩⟩⟩⟩)⟩, ⟨by (try simp only [hl279000_81]);(try simp only [hl279001_81]);(try simp only [hl279002_81]);(with_reducible repeat (first|apply rA|apply rN|apply rD));exact rM Bj.out (fun _ hk => ⟨hk.1.1.1.1.1.1, ⟨hk.1.1.1.1.1.2.1, ⟨hk.1.1.1.1.1.2.2.1, ⟨hk.1.1.1.1.1.2.2.2.1, ⟨hk.1.1.1.1.1.2.2.2.2, ⟨hk.1.2, hk.2⟩⟩⟩⟩⟩⟩)⟩, ⟨by (try simp only [hl279000_81]);(try simp only [hl279001_81]);(try simp only [hl279002_81]);(with_reducible repeat (first|apply rA|apply rN|apply rD));exact rM Bk.out (fun _ hk => ⟨hk.1.1.1, ⟨hk.1.1.2, hk.2⟩⟩)⟩, ⟨by (try simp only [hl279000_81]);(try simp only [hl279001_81]);(try simp only [hl279002_81]);(with_reducible repeat (first|apply rA|apply rN|apply rD));exact rM Bc.out (fun _ hk => ⟨hk.1.1.1.1.1.1, ⟨hk.1.1.1.1.1.2.1, ⟨hk.1.1.1.1.1.2.2.1, ⟨hk.1.1.1.1.1.2.2.2.1, ⟨hk.1.1.1.1.1.2.2.2.2, ⟨hk.1.2, hk.2⟩⟩⟩⟩⟩⟩)⟩, ⟨by (try simp only [hl279000_81]);(try simp only [hl279001_81]);(try simp only [hl279002_81]);(with_reducible repeat (first|apply rA|apply rN|apply rD));exact rM Bd.out (fun _ hk => ⟨hk.1.1.1.1.1.1, ⟨hk.1.1.1.1.1.2.1, ⟨hk.1.1.1.1.1.2.2.1, ⟨hk.1.1.1.1.1.2.2.2.1, ⟨hk.1.1.1.1.1.2.2.2.2, ⟨hk.1.2, hk.2⟩⟩⟩⟩⟩⟩)⟩, ⟨by (try simp only [hl279000_81]);(try simp only [hl279001_81]);(try simp only [hl279002_81]);(with_reducible repeat (first|apply rA|apply rN|apply rD));exact rM Bg.out (fun _ hk => ⟨hk.1.1.1, ⟨hk.1.1.2, hk.2⟩⟩)⟩, ⟨by (try simp only [hl279000_81]);(try simp only [hl279001_81]);(try simp only [hl279002_81]);(with_reducible repeat (first|apply rA|apply rN|apply rD));exact rM BZ.out (fun _ hk => ⟨hk.1.1.1.1.1.1.1.1.2, ⟨hk.1.1.1.1.1.1.1.2, ⟨hk.1.1.1.1.1.1.2, ⟨hk.1.1.1.1.1.2, ⟨hk.1.1.1.1.2, ⟨hk.1.1.1.2, hk.1.1.1.1.1.1.1.1.1⟩⟩⟩⟩⟩⟩)⟩, ⟨by (try simp only [hl279000_81]);(try simp only [hl279001_81]);(try simp only [hl279002_81]);(with_reducible repeat (first|apply rA|apply rN|apply rD));exact rM B0.out (fun _ hk => ⟨hk.1.1.1.1.1.1.1.1.2, ⟨hk.1.1.1.1.1.1.1.2, ⟨hk.1.1.1.1.1.1.2, ⟨hk.1.1.1.1.1.2, ⟨hk.1.1.1.1.2, ⟨hk.1.1.1.2, hk.1.1.1.1.1.1.1.1.1⟩⟩⟩⟩⟩⟩)⟩, ⟨by (try simp only [hl279000_81]);(try simp only [hl279001_81]);(try simp only [hl279002_81]);(with_reducible repeat (first|apply rA|apply rN|apply rD));exact rM B1.out (fun _ hk => ⟨hk.1.1.1.2, ⟨hk.1.1.2, hk.1.2⟩⟩)⟩, ⟨by (try simp only [hl279000_81]);(try simp only [hl279001_81]);(try simp only [hl279002_81]);(with_reducible repeat (first|refine bN ?_ _|refine bD ?_|refine bA ?_ _));exact Be.out⟩, ⟨by (try simp only [hl279000_81]);(try simp only [hl279001_81]);(try simp only [hl279002_81]);(with_reducible repeat (first|refine bN ?_ _|refine bD ?_|refine bA ?_ _));exact Bf.out⟩, ⟨by (try simp only [hl279000_81]);(try simp only [hl279001_81]);(try simp only [hl279002_81]);(with_reducible repeat (first|refine bN ?_ _|refine bD ?_|refine bA ?_ _));exact Bn.out⟩, ⟨by (try simp only [hl279000_81]);(try simp only [hl279001_81]);(try simp only [hl279002_81]);(with_reducible repeat (first|refine bN ?_ _|refine bD ?_|refine bA ?_ _));exact Bb.out⟩, ⟨by (try simp only [hl279000_81]);(try simp only [hl279001_81]);(try simp only [hl279002_81]);(with_reducible repeat (first|refine bN ?_ _|refine bD ?_|refine bA ?_ _));exact Bs.out⟩, ⟨by repeat (first|(with_reducible first|exact HB.out|apply oA|apply pN|apply o1|refine bS ?_ Br.out|refine bS ?_ Bu.out|refine bS ?_ Bv.out|refine bS ?_ By.out|refine bS ?_ Dk.out)|exact HB.out)⟩⟩
      replace c152 := Bool.eq_false_iff.mpr c152
      subst c152
      have H1 : (laws_FnExactSigsBlock.j2 kj81 t315 true t316 t317 t318) = some r := by rw [if_neg (show ¬ (false = true) by decide)] at H;exact H
      clear H
      have H := H1
      clear H1
      have H' := Am H
      clear H
      have JL := Dh.out
      have JM := Db.out
      have JN := Di.out
      have JO := Dc.out
      have JP := Dj.out
      have JQ := Dd.out
      have JR := Df.out
      have JS := B7.out
      have GB : w142.cell? ⟨Bh, 0, none⟩ = some (.slice none 0 0) := (bC Bs.out 0).trans rfl
      have GC : w142.cell? ⟨Bh, 1, none⟩ = some (.slice none 0 0) := (bC Bs.out 1).trans rfl
      have GD : w142.cell? ⟨Bh, 2, none⟩ = some (.slice none 0 0) := (bC Bs.out 2).trans rfl
      have GE := bF Bs.out 0
      have GF := bF Bs.out 1
      have GG := bF Bs.out 2
      have JT := B2.out
      have JU := BR.out
      have JV := BS.out
      have JW := B3.out
      have JX := BN.out
      have JY := BU.out
      have GH : w142.cell? ⟨Bp, 0, none⟩ = some (.slice Ao29 t258.length co29) := (bC Bf.out 0).trans rfl
      have GI : w142.cell? ⟨Bp, 1, none⟩ = some (.slice Ao32 t261.length co32) := (bC Bf.out 1).trans rfl
      have GJ : w142.cell? ⟨Bp, 2, none⟩ = some (.slice Ao33 t264.length co33) := (bC Bf.out 2).trans rfl
      have GK := bF Bf.out 0
      have GL := bF Bf.out 1
      have GM := bF Bf.out 2
      go_wp2_with (first|((with_reducible refine gate_callee (f := 17) rfl ?_);refine goesL_ (some 102) rfl rfl Try.func17 (by kernel_rfl) rfl #[.agg #[.slice Ao143 t332.length co143, .slice Ao149 t335.length co149, .slice Ao150 t338.length co150], .agg #[.slice Ao29 t258.length co29, .slice Ao32 t261.length co32, .slice Ao33 t264.length co33]] rfl (by (try simp only [lM, lC, lN]);first|done|rfl|(simp only [lD, lT];rfl)) ?_;(with_reducible refine (laws_eqSigs.calls kj81 _ _ t332 _ _ t335 _ _ t338 _ _ t258 _ _ t261 _ _ t264 false _ ?side1 ?side2 ?side3 ?side4 ?side5 ?side6 ?side7 ?side8 ?side9 ?side10 ?side11 ?side12 A151.out).mono ?_);(case side1 => refine (Kd.R_reads' (e := 4) (base := w.heap.size) (ok := fun k_ => (((((((((some k_ ≠ (.slice Ao149 t335.length co149 : Value).ownBlock ∧ some k_ ≠ (.slice Ao29 t258.length co29 : Value).ownBlock) ∧ some k_ ≠ (.slice Ao32 t261.length co32 : Value).ownBlock) ∧ some k_ ≠ (.slice Ao37 t309.length co37 : Value).ownBlock) ∧ some k_ ≠ (.slice Ao41 t310.length co41 : Value).ownBlock) ∧ some k_ ≠ (.slice Ao48 t282.length co48 : Value).ownBlock) ∧ some k_ ≠ (.slice Ao53 t285.length co53 : Value).ownBlock) ∧ some k_ ≠ (.slice Ao137 t320.length co137 : Value).ownBlock) ∧ some k_ ≠ (.slice Ao138 t323.length co138 : Value).ownBlock) ∧ some k_ ≠ (.slice Ao140 t329.length co140 : Value).ownBlock)) (n := t332.length) (c := co143) ?_).2.2;exact (by (with_reducible repeat (first|apply rA|apply rN|apply rD));exact (rM (rF (p := ⟨Bh, 2, none⟩) (rF (p := ⟨Bh, 1, none⟩) (rF (p := ⟨Bh, 0, none⟩) (rT BZ.out Bs.out (by decide)) (fun _ hk => hk.2) (.slice Ao143 t332.length co143)) (fun _ hk => hk.2) (.slice Ao149 t335.length co149)) (fun _ hk => hk.2) (.slice Ao150 t338.length co150)) (fun _ h_ => h_.1))));(case side2 => exact (Kd.R_reads' BZ.out).2.1);(case side3 => refine (Kd.R_reads' (e := 4) (base := w.heap.size) (ok := fun k_ => (((((((((some k_ ≠ (.slice Ao143 t332.length co143 : Value).ownBlock ∧ some k_ ≠ (.slice Ao29 t258.length co29 : Value).ownBlock) ∧ some k_ ≠ (.slice Ao32 t261.length co32 : Value).ownBlock) ∧ some k_ ≠ (.slice Ao37 t309.length co37 : Value).ownBlock) ∧ some k_ ≠ (.slice Ao41 t310.length co41 : Value).ownBlock) ∧ some k_ ≠ (.slice Ao48 t282.length co48 : Value).ownBlock) ∧ some k_ ≠ (.slice Ao53 t285.length co53 : Value).ownBlock) ∧ some k_ ≠ (.slice Ao137 t320.length co137 : Value).ownBlock) ∧ some k_ ≠ (.slice Ao138 t323.length co138 : Value).ownBlock) ∧ some k_ ≠ (.slice Ao140 t329.length co140 : Value).ownBlock)) (n := t335.length) (c := co149) ?_).2.2;exact (by (with_reducible repeat (first|apply rA|apply rN|apply rD));exact (rM (rF (p := ⟨Bh, 2, none⟩) (rF (p := ⟨Bh, 1, none⟩) (rF (p := ⟨Bh, 0, none⟩) (rT B0.out Bs.out (by decide)) (fun _ hk => hk.2) (.slice Ao143 t332.length co143)) (fun _ hk => hk.2) (.slice Ao149 t335.length co149)) (fun _ hk => hk.2) (.slice Ao150 t338.length co150)) (fun _ h_ => h_.1))));(case side4 => exact (Kd.R_reads' B0.out).2.1);(case side5 => refine (Kd.R_reads' (e := 3) (base := w.heap.size) (ok := fun k_ => ((((True ∧ some k_ ≠ (.slice Ao33 t264.length co33 : Value).ownBlock) ∧ some k_ ≠ (.slice Ao42 t311.length co42 : Value).ownBlock) ∧ some k_ ≠ (.slice Ao54 t288.length co54 : Value).ownBlock) ∧ some k_ ≠ (.slice Ao139 t326.length co139 : Value).ownBlock)) (n := t338.length) (c := co150) ?_).2.2;exact (by (with_reducible repeat (first|apply rA|apply rN|apply rD));exact (rM (rF (p := ⟨Bh, 2, none⟩) (rF (p := ⟨Bh, 1, none⟩) (rF (p := ⟨Bh, 0, none⟩) (rT B1.out Bs.out (by decide)) (fun _ hk => hk.2) (.slice Ao143 t332.length co143)) (fun _ hk => hk.2) (.slice Ao149 t335.length co149)) (fun _ hk => hk.2) (.slice Ao150 t338.length co150)) (fun _ h_ => h_.1))));(case side6 => exact (Kd.R_reads' B1.out).2.1);(case side7 => refine (Kd.R_reads' (e := 4) (base := w.heap.size) (ok := fun k_ => ((((((some k_ ≠ (.slice Ao32 t261.length co32 : Value).ownBlock ∧ (some k_ ≠ (.slice Ao37 t309.length co37 : Value).ownBlock ∧ (some k_ ≠ (.slice Ao41 t310.length co41 : Value).ownBlock ∧ (some k_ ≠ (.slice Ao48 t282.length co48 : Value).ownBlock ∧ some k_ ≠ (.slice Ao53 t285.length co53 : Value).ownBlock)))) ∧ some k_ ≠ (.slice Ao137 t320.length co137 : Value).ownBlock) ∧ some k_ ≠ (.slice Ao138 t323.length co138 : Value).ownBlock) ∧ some k_ ≠ (.slice Ao140 t329.length co140 : Value).ownBlock) ∧ some k_ ≠ (.slice Ao143 t332.length co143 : Value).ownBlock) ∧ some k_ ≠ (.slice Ao149 t335.length co149 : Value).ownBlock)) (n := t258.length) (c := co29) ?_).2.2;exact (by (with_reducible repeat (first|apply rA|apply rN|apply rD));exact (rM (rF (p := ⟨Bh, 2, none⟩) (rF (p := ⟨Bh, 1, none⟩) (rF (p := ⟨Bh, 0, none⟩) (rT Bl.out Bs.out (by decide)) (fun _ hk => hk.2) (.slice Ao143 t332.length co143)) (fun _ hk => hk.2) (.slice Ao149 t335.length co149)) (fun _ hk => hk.2) (.slice Ao150 t338.length co150)) (fun _ h_ => h_.1))));(case side8 => exact (Kd.R_reads' Bl.out).2.1);(case side9 => refine (Kd.R_reads' (e := 4) (base := w.heap.size) (ok := fun k_ => ((((((some k_ ≠ (.slice Ao29 t258.length co29 : Value).ownBlock ∧ (some k_ ≠ (.slice Ao37 t309.length co37 : Value).ownBlock ∧ (some k_ ≠ (.slice Ao41 t310.length co41 : Value).ownBlock ∧ (some k_ ≠ (.slice Ao48 t282.length co48 : Value).ownBlock ∧ some k_ ≠ (.slice Ao53 t285.length co53 : Value).ownBlock)))) ∧ some k_ ≠ (.slice Ao137 t320.length co137 : Value).ownBlock) ∧ some k_ ≠ (.slice Ao138 t323.length co138 : Value).ownBlock) ∧ some k_ ≠ (.slice Ao140 t329.length co140 : Value).ownBlock) ∧ some k_ ≠ (.slice Ao143 t332.length co143 : Value).ownBlock) ∧ some k_ ≠ (.slice Ao149 t335.length co149 : Value).ownBlock)) (n := t261.length) (c := co32) ?_).2.2;exact (by (with_reducible repeat (first|apply rA|apply rN|apply rD));exact (rM (rF (p := ⟨Bh, 2, none⟩) (rF (p := ⟨Bh, 1, none⟩) (rF (p := ⟨Bh, 0, none⟩) (rT Bm.out Bs.out (by decide)) (fun _ hk => hk.2) (.slice Ao143 t332.length co143)) (fun _ hk => hk.2) (.slice Ao149 t335.length co149)) (fun _ hk => hk.2) (.slice Ao150 t338.length co150)) (fun _ h_ => h_.1))));(case side10 => exact (Kd.R_reads' Bm.out).2.1);(case side11 => refine (Kd.R_reads' (e := 3) (base := w.heap.size) (ok := fun k_ => (((some k_ ≠ (.slice Ao42 t311.length co42 : Value).ownBlock ∧ some k_ ≠ (.slice Ao54 t288.length co54 : Value).ownBlock) ∧ some k_ ≠ (.slice Ao139 t326.length co139 : Value).ownBlock) ∧ some k_ ≠ (.slice Ao150 t338.length co150 : Value).ownBlock)) (n := t264.length) (c := co33) ?_).2.2;exact (by (with_reducible repeat (first|apply rA|apply rN|apply rD));exact (rM (rF (p := ⟨Bh, 2, none⟩) (rF (p := ⟨Bh, 1, none⟩) (rF (p := ⟨Bh, 0, none⟩) (rT Bo.out Bs.out (by decide)) (fun _ hk => hk.2) (.slice Ao143 t332.length co143)) (fun _ hk => hk.2) (.slice Ao149 t335.length co149)) (fun _ hk => hk.2) (.slice Ao150 t338.length co150)) (fun _ h_ => h_.1))));(case side12 => exact (Kd.R_reads' Bo.out).2.1);rintro e w172 ⟨rfl, hb⟩;refine ⟨_, rfl, ?_⟩;have n0_ := Am (rB (by (with_reducible repeat (first|apply rA|apply rN|apply rD));exact (rM (rF (p := ⟨Bh, 2, none⟩) (rF (p := ⟨Bh, 1, none⟩) (rF (p := ⟨Bh, 0, none⟩) (rT Bl.out Bs.out (by decide)) (fun _ hk => hk.2) (.slice Ao143 t332.length co143)) (fun _ hk => hk.2) (.slice Ao149 t335.length co149)) (fun _ hk => hk.2) (.slice Ao150 t338.length co150)) (fun _ h_ => h_.1))) hb);have n1_ := Am (rB (by (with_reducible repeat (first|apply rA|apply rN|apply rD));exact (rM (rF (p := ⟨Bh, 2, none⟩) (rF (p := ⟨Bh, 1, none⟩) (rF (p := ⟨Bh, 0, none⟩) (rT Bm.out Bs.out (by decide)) (fun _ hk => hk.2) (.slice Ao143 t332.length co143)) (fun _ hk => hk.2) (.slice Ao149 t335.length co149)) (fun _ hk => hk.2) (.slice Ao150 t338.length co150)) (fun _ h_ => h_.1))) hb);have n2_ := Am (rB (by (with_reducible repeat (first|apply rA|apply rN|apply rD));exact (rM (rF (p := ⟨Bh, 2, none⟩) (rF (p := ⟨Bh, 1, none⟩) (rF (p := ⟨Bh, 0, none⟩) (rT Bo.out Bs.out (by decide)) (fun _ hk => hk.2) (.slice Ao143 t332.length co143)) (fun _ hk => hk.2) (.slice Ao149 t335.length co149)) (fun _ hk => hk.2) (.slice Ao150 t338.length co150)) (fun _ h_ => h_.1))) hb);have n3_ := Am (rB (by (with_reducible repeat (first|apply rA|apply rN|apply rD));exact (rM (rF (p := ⟨Bh, 2, none⟩) (rF (p := ⟨Bh, 1, none⟩) (rF (p := ⟨Bh, 0, none⟩) (rT Bi.out Bs.out (by decide)) (fun _ hk => hk.2) (.slice Ao143 t332.length co143)) (fun _ hk => hk.2) (.slice Ao149 t335.length co149)) (fun _ hk => hk.2) (.slice Ao150 t338.length co150)) (fun _ h_ => h_.1))) hb);have n4_ := Am (rB (by (with_reducible repeat (first|apply rA|apply rN|apply rD));exact (rM (rF (p := ⟨Bh, 2, none⟩) (rF (p := ⟨Bh, 1, none⟩) (rF (p := ⟨Bh, 0, none⟩) (rT Bj.out Bs.out (by decide)) (fun _ hk => hk.2) (.slice Ao143 t332.length co143)) (fun _ hk => hk.2) (.slice Ao149 t335.length co149)) (fun _ hk => hk.2) (.slice Ao150 t338.length co150)) (fun _ h_ => h_.1))) hb);have n5_ := Am (rB (by (with_reducible repeat (first|apply rA|apply rN|apply rD));exact (rM (rF (p := ⟨Bh, 2, none⟩) (rF (p := ⟨Bh, 1, none⟩) (rF (p := ⟨Bh, 0, none⟩) (rT Bk.out Bs.out (by decide)) (fun _ hk => hk.2) (.slice Ao143 t332.length co143)) (fun _ hk => hk.2) (.slice Ao149 t335.length co149)) (fun _ hk => hk.2) (.slice Ao150 t338.length co150)) (fun _ h_ => h_.1))) hb);have n6_ := Am (rB (by (with_reducible repeat (first|apply rA|apply rN|apply rD));exact (rM (rF (p := ⟨Bh, 2, none⟩) (rF (p := ⟨Bh, 1, none⟩) (rF (p := ⟨Bh, 0, none⟩) (rT Bc.out Bs.out (by decide)) (fun _ hk => hk.2) (.slice Ao143 t332.length co143)) (fun _ hk => hk.2) (.slice Ao149 t335.length co149)) (fun _ hk => hk.2) (.slice Ao150 t338.length co150)) (fun _ h_ => h_.1))) hb);have n7_ := Am (rB (by (with_reducible repeat (first|apply rA|apply rN|apply rD));exact (rM (rF (p := ⟨Bh, 2, none⟩) (rF (p := ⟨Bh, 1, none⟩) (rF (p := ⟨Bh, 0, none⟩) (rT Bd.out Bs.out (by decide)) (fun _ hk => hk.2) (.slice Ao143 t332.length co143)) (fun _ hk => hk.2) (.slice Ao149 t335.length co149)) (fun _ hk => hk.2) (.slice Ao150 t338.length co150)) (fun _ h_ => h_.1))) hb);have n8_ := Am (rB (by (with_reducible repeat (first|apply rA|apply rN|apply rD));exact (rM (rF (p := ⟨Bh, 2, none⟩) (rF (p := ⟨Bh, 1, none⟩) (rF (p := ⟨Bh, 0, none⟩) (rT Bg.out Bs.out (by decide)) (fun _ hk => hk.2) (.slice Ao143 t332.length co143)) (fun _ hk => hk.2) (.slice Ao149 t335.length co149)) (fun _ hk => hk.2) (.slice Ao150 t338.length co150)) (fun _ h_ => h_.1))) hb);have n9_ := Am (rB (by (with_reducible repeat (first|apply rA|apply rN|apply rD));exact (rM (rF (p := ⟨Bh, 2, none⟩) (rF (p := ⟨Bh, 1, none⟩) (rF (p := ⟨Bh, 0, none⟩) (rT BL.out Bs.out (by decide)) (fun _ hk => hk.2) (.slice Ao143 t332.length co143)) (fun _ hk => hk.2) (.slice Ao149 t335.length co149)) (fun _ hk => hk.2) (.slice Ao150 t338.length co150)) (fun _ h_ => h_.1))) hb);have n10_ := Am (rB (by (with_reducible repeat (first|apply rA|apply rN|apply rD));exact (rM (rF (p := ⟨Bh, 2, none⟩) (rF (p := ⟨Bh, 1, none⟩) (rF (p := ⟨Bh, 0, none⟩) (rT BM.out Bs.out (by decide)) (fun _ hk => hk.2) (.slice Ao143 t332.length co143)) (fun _ hk => hk.2) (.slice Ao149 t335.length co149)) (fun _ hk => hk.2) (.slice Ao150 t338.length co150)) (fun _ h_ => h_.1))) hb);have n11_ := Am (rB (by (with_reducible repeat (first|apply rA|apply rN|apply rD));exact (rM (rF (p := ⟨Bh, 2, none⟩) (rF (p := ⟨Bh, 1, none⟩) (rF (p := ⟨Bh, 0, none⟩) (rT BP.out Bs.out (by decide)) (fun _ hk => hk.2) (.slice Ao143 t332.length co143)) (fun _ hk => hk.2) (.slice Ao149 t335.length co149)) (fun _ hk => hk.2) (.slice Ao150 t338.length co150)) (fun _ h_ => h_.1))) hb);have n12_ := Am (rB (by (with_reducible repeat (first|apply rA|apply rN|apply rD));exact (rM (rF (p := ⟨Bh, 2, none⟩) (rF (p := ⟨Bh, 1, none⟩) (rF (p := ⟨Bh, 0, none⟩) (rT BV.out Bs.out (by decide)) (fun _ hk => hk.2) (.slice Ao143 t332.length co143)) (fun _ hk => hk.2) (.slice Ao149 t335.length co149)) (fun _ hk => hk.2) (.slice Ao150 t338.length co150)) (fun _ h_ => h_.1))) hb);have n13_ := Am (rB (by (with_reducible repeat (first|apply rA|apply rN|apply rD));exact (rM (rF (p := ⟨Bh, 2, none⟩) (rF (p := ⟨Bh, 1, none⟩) (rF (p := ⟨Bh, 0, none⟩) (rT BZ.out Bs.out (by decide)) (fun _ hk => hk.2) (.slice Ao143 t332.length co143)) (fun _ hk => hk.2) (.slice Ao149 t335.length co149)) (fun _ hk => hk.2) (.slice Ao150 t338.length co150)) (fun _ h_ => h_.1))) hb);have n14_ := Am (rB (by (with_reducible repeat (first|apply rA|apply rN|apply rD));exact (rM (rF (p := ⟨Bh, 2, none⟩) (rF (p := ⟨Bh, 1, none⟩) (rF (p := ⟨Bh, 0, none⟩) (rT B0.out Bs.out (by decide)) (fun _ hk => hk.2) (.slice Ao143 t332.length co143)) (fun _ hk => hk.2) (.slice Ao149 t335.length co149)) (fun _ hk => hk.2) (.slice Ao150 t338.length co150)) (fun _ h_ => h_.1))) hb);have n15_ := Am (rB (by (with_reducible repeat (first|apply rA|apply rN|apply rD));exact (rM (rF (p := ⟨Bh, 2, none⟩) (rF (p := ⟨Bh, 1, none⟩) (rF (p := ⟨Bh, 0, none⟩) (rT B1.out Bs.out (by decide)) (fun _ hk => hk.2) (.slice Ao143 t332.length co143)) (fun _ hk => hk.2) (.slice Ao149 t335.length co149)) (fun _ hk => hk.2) (.slice Ao150 t338.length co150)) (fun _ h_ => h_.1))) hb);have n16_ := Am (bB (g := Bt) (o := .cells #[.slice A0_0 l0_0.length c0_0, .slice A0_1 l0_1.length c0_1, .slice A0_2 l0_2.length c0_2] 25 (0, 0)) (by (with_reducible repeat (first|refine bN ?_ _|refine bD ?_|refine bA ?_ _|refine blk_far ?_ Db.out _));exact Be.out) hb);have n17_ := Am (bB (g := Bp) (o := .cells #[.slice Ao29 t258.length co29, .slice Ao32 t261.length co32, .slice Ao33 t264.length co33] 27 (0, 0)) (by (with_reducible repeat (first|refine bN ?_ _|refine bD ?_|refine bA ?_ _|refine blk_far ?_ Dc.out _));exact Bf.out) hb);have n18_ := Am (bB (g := Bq) (o := .cells #[.slice Ao37 t309.length co37, .slice Ao41 t310.length co41, .slice Ao42 t311.length co42] 27 (0, 0)) (by (with_reducible repeat (first|refine bN ?_ _|refine bD ?_|refine bA ?_ _|refine blk_far ?_ Dd.out _));exact Bn.out) hb);have n19_ := Am (bB (g := Ba) (o := .cells #[.slice Ao48 t282.length co48, .slice Ao53 t285.length co53, .slice Ao54 t288.length co54] 27 (0, 0)) (by (with_reducible repeat (first|refine bN ?_ _|refine bD ?_|refine bA ?_ _|refine blk_far ?_ B7.out _));exact Bb.out) hb);have n20_ := Am (bB (g := Bh) (o := .cells #[.slice Ao143 t332.length co143, .slice Ao149 t335.length co149, .slice Ao150 t338.length co150] 27 (0, 0)) (by (with_reducible repeat (first|refine bN ?_ _|refine bD ?_|refine bA ?_ _));refine blk_put (cs := #[.slice Ao143 t332.length co143, .slice Ao149 t335.length co149, .slice none 0 0]) ?_ 2 _ rfl;(with_reducible repeat (first|refine bN ?_ _|refine bD ?_|refine bA ?_ _));refine blk_put (cs := #[.slice Ao143 t332.length co143, .slice none 0 0, .slice none 0 0]) ?_ 1 _ rfl;(with_reducible repeat (first|refine bN ?_ _|refine bD ?_|refine bA ?_ _));refine blk_put (cs := #[.slice none 0 0, .slice none 0 0, .slice none 0 0]) ?_ 0 _ rfl;(with_reducible repeat (first|refine bN ?_ _|refine bD ?_|refine bA ?_ _));exact Bs.out) hb);have n21_ := Am (bP (by repeat (first|(with_reducible first|exact HB.out|apply oA|apply pN|apply o1|refine bS ?_ Br.out|refine bS ?_ Bu.out|refine bS ?_ Bv.out|refine bS ?_ By.out|refine bS ?_ Dk.out)|exact HB.out)) hb);clear Bl Bm Bo Bi Bj Bk Bc Bd Bg BL BM BP BV BZ B0 B1 Be Bf Bn Bb Bs HB;revert n0_ n1_ n2_ n3_ n4_ n5_ n6_ n7_ n8_ n9_ n10_ n11_ n12_ n13_ n14_ n15_ n16_ n17_ n18_ n19_ n20_ n21_;intro Bl Bm Bo Bi Bj Bk Bc Bd Bg BL BM BP BV BZ B0 B1 Be Bf Bn Bb Bs HB;(try clear hb);(try clear hb2);(try clear hk);(try clear hi)))
      go_meet
      case rel => exact ⟨_, (true), (by first|rfl|(simp;done)|(simp [*];done)), H', ⟨by have := Fv.out;have := GO.out;first|omega|exact Nat.le_refl _⟩, ⟨by (try simp only [hl279000_81]);(try simp only [hl279001_81]);(try simp only [hl279002_81]);(with_reducible repeat (first|apply rA|apply rN|apply rD));exact rM Bl.out (fun _ hk => ⟨hk.1.1.1.1.1.1, ⟨hk.1.1.1.1.1.2.1, ⟨hk.1.1.1.1.1.2.2.1, ⟨hk.1.1.1.1.1.2.2.2.1, ⟨hk.1.1.1.1.1.2.2.2.2, ⟨hk.1.2, hk.2⟩⟩⟩⟩⟩⟩)⟩, ⟨by (try simp only [hl279000_81]);(try simp only [hl279001_81]);(try simp only [hl279002_81]);(with_reducible repeat (first|apply rA|apply rN|apply rD));exact rM Bm.out (fun _ hk => ⟨hk.1.1.1.1.1.1, ⟨hk.1.1.1.1.1.2.1, ⟨hk.1.1.1.1.1.2.2.1, ⟨hk.1.1.1.1.1.2.2.2.1, ⟨hk.1.1.1.1.1.2.2.2.2, ⟨hk.1.2, hk.2⟩⟩⟩⟩⟩⟩)⟩, ⟨by (try simp only [hl279000_81]);(try simp only [hl279001_81]);(try simp only [hl279002_81]);(with_reducible repeat (first|apply rA|apply rN|apply rD));exact rM Bo.out (fun _ hk => ⟨hk.1.1.1, ⟨hk.1.1.2, hk.2⟩⟩)⟩, ⟨by (try simp only [hl279000_81]);(try simp only [hl279001_81]);(try simp only [hl279002_81]);(with_reducible repeat (first|apply rA|apply rN|apply rD));exact rM Bi.out (fun _ hk => ⟨hk.1.1.1.1.1.1, ⟨hk.1.1.1.1.1.2.1, ⟨hk.1.1.1.1.1.2.2.1, ⟨hk.1.1.1.1.1.2.2.2.1, ⟨hk.1.1.1.1.1.2.2.2.2, ⟨hk.1.2, hk.2⟩⟩⟩⟩⟩⟩)⟩, ⟨by (try simp only [hl279000_81]);(try simp only [hl279001_81]);(try simp only [hl279002_81]);(with_reducible repeat (first|apply rA|apply rN|apply rD));exact rM Bj.out (fun _ hk => ⟨hk.1.1.1.1.1.1, ⟨hk.1.1.1.1.1.2.1, ⟨hk.1.1.1.1.1.2.2.1, ⟨hk.1.1.1.1.1.2.2.2.1, ⟨hk.1.1.1.1.1.2.2.2.2, ⟨hk.1.2, hk.2⟩⟩⟩⟩⟩⟩)⟩, ⟨by (try simp only [hl279000_81]);(try simp only [hl279001_81]);(try simp only [hl279002_81]);(with_reducible repeat (first|apply rA|apply rN|apply rD));exact rM Bk.out (fun _ hk => ⟨hk.1.1.1, ⟨hk.1.1.2, hk.2⟩⟩)⟩, ⟨by (try simp only [hl279000_81]);(try simp only [hl279001_81]);(try simp only [hl279002_81]);(with_reducible repeat (first|apply rA|apply rN|apply rD));exact rM Bc.out (fun _ hk => ⟨hk.1.1.1.1.1.1, ⟨hk.1.1.1.1.1.2.1, ⟨hk.1.1.1.1.1.2.2.1, ⟨hk.1.1.1.1.1.2.2.2.1, ⟨hk.1.1.1.1.1.2.2.2.2, ⟨hk.1.2, hk.2⟩⟩⟩⟩⟩⟩)⟩, ⟨by (try simp only [hl279000_81]);(try simp only [hl279001_81]);(try simp only [hl279002_81]);(with_reducible repeat (first|apply rA|apply rN|apply rD));exact rM Bd.out (fun _ hk => ⟨hk.1.1.1.1.1.1, ⟨hk.1.1.1.1.1.2.1, ⟨hk.1.1.1.1.1.2.2.1, ⟨hk.1.1.1.1.1.2.2.2.1, ⟨hk.1.1.1.1.1.2.2.2.2, ⟨hk.1.2, hk.2⟩⟩⟩⟩⟩⟩)⟩, ⟨by (try simp only [hl279000_81]);(try simp only [hl279001_81]);(try simp only [hl279002_81]);(with_reducible repeat (first|apply rA|apply rN|apply rD));exact rM Bg.out (fun _ hk => ⟨hk.1.1.1, ⟨hk.1.1.2, hk.2⟩⟩)⟩, ⟨by (try simp only [hl279000_81]);(try simp only [hl279001_81]);(try simp only [hl279002_81]);(with_reducible repeat (first|apply rA|apply rN|apply rD));exact rM BZ.out (fun _ hk => ⟨hk.1.1.1.1.1.1.1.1.2, ⟨hk.1.1.1.1.1.1.1.2, ⟨hk.1.1.1.1.1.1.2, ⟨hk.1.1.1.1.1.2, ⟨hk.1.1.1.1.2, ⟨hk.1.1.1.2, hk.1.1.1.1.1.1.1.1.1⟩⟩⟩⟩⟩⟩)⟩, ⟨by (try simp only [hl279000_81]);(try simp only [hl279001_81]);(try simp only [hl279002_81]);(with_reducible repeat (first|apply rA|apply rN|apply rD));exact rM B0.out (fun _ hk => ⟨hk.1.1.1.1.1.1.1.1.2, ⟨hk.1.1.1.1.1.1.1.2, ⟨hk.1.1.1.1.1.1.2, ⟨hk.1.1.1.1.1.2, ⟨hk.1.1.1.1.2, ⟨hk.1.1.1.2, hk.1.1.1.1.1.1.1.1.1⟩⟩⟩⟩⟩⟩)⟩, ⟨by (try simp only [hl279000_81]);(try simp only [hl279001_81]);(try simp only [hl279002_81]);(with_reducible repeat (first|apply rA|apply rN|apply rD));exact rM B1.out (fun _ hk => ⟨hk.1.1.1.2, ⟨hk.1.1.2, hk.1.2⟩⟩)⟩, ⟨by (try simp only [hl279000_81]);(try simp only [hl279001_81]);(try simp only [hl279002_81]);(with_reducible repeat (first|refine bN ?_ _|refine bD ?_|refine bA ?_ _));exact Be.out⟩, ⟨by (try simp only [hl279000_81]);(try simp only [hl279001_81]);(try simp only [hl279002_81]);(with_reducible repeat (first|refine bN ?_ _|refine bD ?_|refine bA ?_ _));exact Bf.out⟩, ⟨by (try simp only [hl279000_81]);(try simp only [hl279001_81]);(try simp only [hl279002_81]);(with_reducible repeat (first|refine bN ?_ _|refine bD ?_|refine bA ?_ _));exact Bn.out⟩, ⟨by (try simp only [hl279000_81]);(try simp only [hl279001_81]);(try simp only [hl279002_81]);(with_reducible repeat (first|refine bN ?_ _|refine bD ?_|refine bA ?_ _));exact Bb.out⟩, ⟨by (try simp only [hl279000_81]);(try simp only [hl279001_81]);(try simp only [hl279002_81]);(with_reducible repeat (first|refine bN ?_ _|refine bD ?_|refine bA ?_ _));exact Bs.out⟩, ⟨by repeat (first|(with_reducible first|exact HB.out|apply oA|apply pN|apply o1|refine bS ?_ Br.out|refine bS ?_ Bu.out|refine bS ?_ Bv.out|refine bS ?_ By.out|refine bS ?_ Dk.out)|exact HB.out)⟩⟩
     case rest =>
      clear HC124
      try clear c1
      try clear c2
      try clear p2
      try clear c3
      try clear c3b0
      try clear c3b1
      try clear c4
      try clear c5
      try clear c6
      try clear c6b0
      try clear c7
      try clear c9
      try clear c10
      try clear c11
      try clear c12
      try clear c13
      try clear c14
      try clear c15
      try clear c16
      try clear c17
      try clear c18
      try clear c19
      try clear c20
      try clear c21
      try clear c22
      try clear c23
      try clear c24
      try clear c30
      try clear c38
      try clear c39
      try clear c49
      try clear c50
      try clear c51
      try clear c56
      try clear c57
      try clear c58
      try clear c59
      try clear c61
      try clear c62
      try clear c65
      try clear c66
      try clear c67
      try clear c69
      try clear c70
      try clear c73
      try clear c76
      try clear c79
      try clear c91
      try clear c92
      try clear c93
      try clear c97
      try clear c97b0
      try clear c99
      try clear c100
      try clear c101
      try clear c102
      try clear c104
      try clear c105
      try clear c108
      try clear c109
      try clear c110
      try clear c112
      try clear c113
      try clear c116
      try clear c119
      try clear c119b0
      try clear c120
      try clear c120b0
      try clear c120b1
      try clear c125
      try clear c126
      try clear c127
      try clear c132
      try clear c133
      try clear c144
      try clear c145
      try clear c146
      try clear c147
      try clear c152
      try clear c153
      try clear c154
      try clear c155
      try clear c156
      try clear c158
      try clear c159
      try clear c160
      try clear c163
      try clear c164
      try clear c165
      try clear c166
      try clear c168
      try clear c169
      try clear c170
      try clear Fw
      try clear Fx
      try clear Fy
      try clear FC
      try clear FD
      try clear FE
      try clear FI
      try clear FJ
      try clear FK
      try clear FO
      try clear FP
      try clear FQ
      try clear F0
      try clear F1
      try clear F2
      try clear F6
      try clear F7
      try clear F8
      try clear Gc
      try clear Gd
      try clear Ge
      try clear Gi
      try clear Gj
      try clear Gk
      try clear Gp
      try clear Gq
      try clear Gr
      try clear Gv
      try clear Gw
      try clear Gx
      try clear GB
      try clear GC
      try clear GD
      try clear GH
      try clear GI
      try clear GJ
      try clear Dl
      try clear Dm
      try clear Dn
      try clear Dr
      try clear Ds
      try clear Dt
      try clear Dx
      try clear Dy
      try clear Dz
      try clear DD
      try clear DE
      try clear DF
      try clear DJ
      try clear DK
      try clear DL
      try clear DP
      try clear DQ
      try clear DR
      try clear DV
      try clear DW
      try clear DX
      try clear D1
      try clear D2
      try clear D3
      try clear D7
      try clear D8
      try clear D9
      try clear Fd
      try clear Fe
      try clear Ff
      try clear Fj
      try clear Fk
      try clear Fl
      try clear Fp
      try clear Fq
      try clear Fr
      try clear FU
      try clear FV
      try clear FW
      try clear Fz
      try clear FA
      try clear FB
      try clear FF
      try clear FG
      try clear FH
      try clear FL
      try clear FM
      try clear FN
      try clear FR
      try clear FS
      try clear FT
      try clear F3
      try clear F4
      try clear F5
      try clear F9
      try clear Ga
      try clear Gb
      try clear Gf
      try clear Gg
      try clear Gh
      try clear Gl
      try clear Gm
      try clear Gn
      try clear Gs
      try clear Gt
      try clear Gu
      try clear Gy
      try clear Gz
      try clear GA
      try clear GE
      try clear GF
      try clear GG
      try clear GK
      try clear GL
      try clear GM
      try clear Do
      try clear Dp
      try clear Dq
      try clear Du
      try clear Dv
      try clear Dw
      try clear DA
      try clear DB
      try clear DC
      try clear DG
      try clear DH
      try clear DI
      try clear DM
      try clear DN
      try clear DO
      try clear DS
      try clear DT
      try clear DU
      try clear DY
      try clear DZ
      try clear D0
      try clear D4
      try clear D5
      try clear D6
      try clear Fa
      try clear Fb
      try clear Fc
      try clear Fg
      try clear Fh
      try clear Fi
      try clear Fm
      try clear Fn
      try clear Fo
      try clear Fs
      try clear Ft
      try clear Fu
      try clear FX
      try clear FY
      try clear FZ
      try clear p2
      obtain ⟨kq, x108_123, rfl, HA, MN, Bl, Bm, Bo, Bi, Bj, Bk, Bc, Bd, Bg, B8, B9, Da, Be, Bf, Bn, Bb, Bs, HB⟩ := hcut
      have hl293000_123 := (Kd.R_reads' Bc.out).1
      rw [hl293000_123] at Bc
      (try simp only [hl293000_123])
      (try simp only [hl293000_123] at Be)
      (try simp only [hl293000_123] at Bf)
      (try simp only [hl293000_123] at Bn)
      (try simp only [hl293000_123] at Bb)
      (try simp only [hl293000_123] at Bs)
      (try simp only [hl293000_123] at Bl)
      (try simp only [hl293000_123] at Bm)
      (try simp only [hl293000_123] at Bo)
      (try simp only [hl293000_123] at Bi)
      (try simp only [hl293000_123] at Bj)
      (try simp only [hl293000_123] at Bk)
      (try simp only [hl293000_123] at Bd)
      (try simp only [hl293000_123] at Bg)
      (try simp only [hl293000_123] at B8)
      (try simp only [hl293000_123] at B9)
      (try simp only [hl293000_123] at Da)
      have hl293001_123 := (Kd.R_reads' Bd.out).1
      rw [hl293001_123] at Bd
      (try simp only [hl293001_123])
      (try simp only [hl293001_123] at Be)
      (try simp only [hl293001_123] at Bf)
      (try simp only [hl293001_123] at Bn)
      (try simp only [hl293001_123] at Bb)
      (try simp only [hl293001_123] at Bs)
      (try simp only [hl293001_123] at Bl)
      (try simp only [hl293001_123] at Bm)
      (try simp only [hl293001_123] at Bo)
      (try simp only [hl293001_123] at Bi)
      (try simp only [hl293001_123] at Bj)
      (try simp only [hl293001_123] at Bk)
      (try simp only [hl293001_123] at Bc)
      (try simp only [hl293001_123] at Bg)
      (try simp only [hl293001_123] at B8)
      (try simp only [hl293001_123] at B9)
      (try simp only [hl293001_123] at Da)
      have hl293002_123 := (Kd.R_reads' Bg.out).1
      rw [hl293002_123] at Bg
      (try simp only [hl293002_123])
      (try simp only [hl293002_123] at Be)
      (try simp only [hl293002_123] at Bf)
      (try simp only [hl293002_123] at Bn)
      (try simp only [hl293002_123] at Bb)
      (try simp only [hl293002_123] at Bs)
      (try simp only [hl293002_123] at Bl)
      (try simp only [hl293002_123] at Bm)
      (try simp only [hl293002_123] at Bo)
      (try simp only [hl293002_123] at Bi)
      (try simp only [hl293002_123] at Bj)
      (try simp only [hl293002_123] at Bk)
      (try simp only [hl293002_123] at Bc)
      (try simp only [hl293002_123] at Bd)
      (try simp only [hl293002_123] at B8)
      (try simp only [hl293002_123] at B9)
      (try simp only [hl293002_123] at Da)
      cases kq with
     |zero => exact absurd HA.out (by simp [laws_FnExactSigsBlock.j2])
     |succ kj123 =>
       have H := HA.out
       clear HA
       simp only [laws_FnExactSigsBlock.j2] at H
       by_cases c173 : x108_123 = true
       ·subst c173
        have H1 : (some false) = some r := by rw [if_pos rfl] at H;exact H
        clear H
        have H := H1
        clear H1
        exact absurd ((Option.some.inj H).trans hT_.out) (by decide)
       replace c173 := Bool.eq_false_iff.mpr c173
       subst c173
       have H1 : ((laws_heldSigs.f kj123 t316 t317 t318 1).bind fun t344 => (if t344 < 0 then (some false) else (if t344 = t315 then (some true) else (some false)))) = some r := by rw [if_neg (show ¬ (false = true) by decide)] at H;exact H
       clear H
       have H := H1
       clear H1
       replace H := Option.bind_eq_some_iff.mp H
       obtain ⟨t344, A1740, H⟩ := H
       replace H : (if t344 < 0 then (some false) else (if t344 = t315 then (some true) else (some false))) = some r := H
       have A174 := Am A1740
       clear A1740
       by_cases c175 : t344 < 0
       ·rw [if_pos c175] at H
        have c175b0 : decide (t344 < 0) = true := decide_eq_true c175
        clear c175
        exact absurd ((Option.some.inj H).trans hT_.out) (by decide)
       rw [if_neg c175] at H
       have c175b0 : decide (t344 < 0) = false := decide_eq_false c175
       clear c175
       by_cases c176 : t344 = t315
       rotate_left
       ·rw [if_neg c176] at H
        have c176b0 : (t344 == t315) = false := beq_eq_false_iff_ne.mpr c176
        have c176b1 : (t344 != t315) = true := bne_iff_ne.mpr c176
        exact absurd ((Option.some.inj H).trans hT_.out) (by decide)
       rw [if_pos c176] at H
       have c176b0 : (t344 == t315) = true := beq_iff_eq.mpr c176
       have c176b1 : (t344 != t315) = false := bne_eq_false_iff_eq.mpr c176
       clear c176
       obtain rfl := Option.some.inj H
       have JZ := B6.out
       have J0 := BT.out
       have J1 := BU.out
       have J2 := BN.out
       have J3 := B4.out
       have J4 := BQ.out
       have J5 := B7.out
       have J6 := Df.out
       have GP : wc.cell? ⟨Ba, 0, none⟩ = some (.slice Ao48 t316.length co48) := (bC Bb.out 0).trans rfl
       have GQ : wc.cell? ⟨Ba, 1, none⟩ = some (.slice Ao53 t317.length co53) := (bC Bb.out 1).trans rfl
       have GR : wc.cell? ⟨Ba, 2, none⟩ = some (.slice Ao54 t318.length co54) := (bC Bb.out 2).trans rfl
       have GS := bF Bb.out 0
       have GT := bF Bb.out 1
       have GU := bF Bb.out 2
       go_wp2_with (first|((with_reducible refine gate_callee (f := 19) rfl ?_);refine goesL_ (some 111) rfl rfl Try.func19 (by kernel_rfl) rfl #[.agg #[.slice Ao48 t316.length co48, .slice Ao53 t317.length co53, .slice Ao54 t318.length co54], .int .i64 1] rfl (by (try simp only [lM, lC, lN]);first|done|rfl|(simp only [lD, lT];rfl)) ?_;(with_reducible refine (laws_heldSigs.calls kj123 _ _ t316 _ _ t317 _ _ t318 1 t344 _ ?side1 ?side2 ?side3 ?side4 ?side5 ?side6 A174.out).mono ?_);(case side1 => repeat (first|exact (Kd.R_reads' Bc.out).2.2|(with_reducible refine cA ?_ _)|(with_reducible refine cN ?_ _)|(with_reducible refine cD ?_)));(case side2 => exact (Kd.R_reads' Bc.out).2.1);(case side3 => repeat (first|exact (Kd.R_reads' Bd.out).2.2|(with_reducible refine cA ?_ _)|(with_reducible refine cN ?_ _)|(with_reducible refine cD ?_)));(case side4 => exact (Kd.R_reads' Bd.out).2.1);(case side5 => repeat (first|exact (Kd.R_reads' Bg.out).2.2|(with_reducible refine cA ?_ _)|(with_reducible refine cN ?_ _)|(with_reducible refine cD ?_)));(case side6 => exact (Kd.R_reads' Bg.out).2.1);rintro e w182 ⟨rfl, hb⟩;refine ⟨_, rfl, ?_⟩;have n0_ := Am (rB (rL Bl.out) hb);have n1_ := Am (rB (rL Bm.out) hb);have n2_ := Am (rB (rL Bo.out) hb);have n3_ := Am (rB (rL Bi.out) hb);have n4_ := Am (rB (rL Bj.out) hb);have n5_ := Am (rB (rL Bk.out) hb);have n6_ := Am (rB (rL Bc.out) hb);have n7_ := Am (rB (rL Bd.out) hb);have n8_ := Am (rB (rL Bg.out) hb);have n9_ := Am (rB (rL B8.out) hb);have n10_ := Am (rB (rL B9.out) hb);have n11_ := Am (rB (rL Da.out) hb);have n12_ := Am (bB (g := Bt) (o := .cells #[.slice A0_0 l0_0.length c0_0, .slice A0_1 l0_1.length c0_1, .slice A0_2 l0_2.length c0_2] 25 (0, 0)) (bL Be.out) hb);have n13_ := Am (bB (g := Bp) (o := .cells #[.slice Ao29 t258.length co29, .slice Ao32 t261.length co32, .slice Ao33 t264.length co33] 27 (0, 0)) (bL Bf.out) hb);have n14_ := Am (bB (g := Bq) (o := .cells #[.slice Ao37 t309.length co37, .slice Ao41 t310.length co41, .slice Ao42 t311.length co42] 27 (0, 0)) (bL Bn.out) hb);have n15_ := Am (bB (g := Ba) (o := .cells #[.slice Ao48 t316.length co48, .slice Ao53 t317.length co53, .slice Ao54 t318.length co54] 27 (0, 0)) (bL Bb.out) hb);have n16_ := Am (bB (g := Bh) (o := .cells #[.slice Ao143 t332.length co143, .slice Ao149 t335.length co149, .slice Ao150 t338.length co150] 27 (0, 0)) (bL Bs.out) hb);have n17_ := Am (bP (by repeat (first|(with_reducible first|exact HB.out|apply oA|apply pN|apply o1|refine bS ?_ Br.out|refine bS ?_ Bu.out|refine bS ?_ Bv.out|refine bS ?_ By.out|refine bS ?_ Dk.out)|exact HB.out)) hb);clear Bl Bm Bo Bi Bj Bk Bc Bd Bg B8 B9 Da Be Bf Bn Bb Bs HB;revert n0_ n1_ n2_ n3_ n4_ n5_ n6_ n7_ n8_ n9_ n10_ n11_ n12_ n13_ n14_ n15_ n16_ n17_;intro Bl Bm Bo Bi Bj Bk Bc Bd Bg B8 B9 Da Be Bf Bn Bb Bs HB;(try clear hb);(try clear hb2);(try clear hk);(try clear hi)))
       go_ret
       exact ⟨by first|rfl|(simp [errW_none, errW_some] <;> rfl)|(simp [*, errW_none, errW_some] <;> rfl), by repeat (first|(with_reducible first|exact HB.out|apply oA|apply pN|apply o1|refine bS ?_ Br.out|refine bS ?_ Bu.out|refine bS ?_ Bv.out|refine bS ?_ By.out|refine bS ?_ Dk.out)|exact HB.out)⟩
/-- THE ONE PURE STATEMENT of laws_FnExactSigsBlock. -/
def laws_FnExactSigsBlock.Pure : Prop := ∀ (l0_0 : List Bool) (l0_1 : List Bool) (l0_2 : List Int) (l1 : List Bool), l0_0.length ≤ 9223372036854775807 → (∀ x0_ ∈ l0_0, True) → l0_1.length ≤ 9223372036854775807 → (∀ x0_ ∈ l0_1, True) → l0_2.length ≤ 9223372036854775807 → (∀ x0_ ∈ l0_2, (Lit.int .i64 x0_).wf = true) → l1.length ≤ 9223372036854775807 → (∀ x0_ ∈ l1, True) → ∃ k, laws_FnExactSigsBlock.f k l0_0 l0_1 l0_2 l1 = some true

end Go.Proofs.Ytehekikjadjdaaa.PFnExactSigsBlock
